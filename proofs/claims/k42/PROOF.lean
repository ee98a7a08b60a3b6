import PyProof.Rows.All
import Wide.All
import OpenK.AllK
import Wide.FinOn
import HandS.ForMost
import HandS.ForExc
import HandS.IsInst
import HandS.SortInts
import HandS.TupAny
import HandS.ExcIs
import PySem.Challenge.RW_beatchips_k42_whole_totals
set_option Elab.async false
set_option linter.all false
set_option maxRecDepth 100000
set_option maxHeartbeats 4000000
/-! Bc: what a piece of Python denotes, as a plain function over data. -/
namespace Bc
open PySem PySem.Spec PyProof.Rows L2

/-! ### data, slots, the store -/
/-- a slot: unknown, a value, a list of one's own -/
inductive Sl where
  | un
  | im (d : PyData)
  | ow (ds : List PyData)
abbrev Sg := List Sl
inductive Ob where
  | inst (c : Str) (fs : List (Str × Sl))
  | shl (ds : List PyData)
abbrev Sto := List Ob
inductive R where
  | ok (d : PyData) (s : Sto)
  | exc (x : Str) (s : Sto)
  | bad
inductive RL where
  | ok (ds : List PyData) (s : Sto)
  | exc (x : Str) (s : Sto)
  | bad
inductive RS where
  | nx (g : Sg) (s : Sto)
  | ret (d : PyData) (s : Sto)
  | brk (g : Sg) (s : Sto)
  | ct (g : Sg) (s : Sto)
  | exc (x : Str) (g : Sg) (s : Sto)
  | bad
abbrev ME := Sg → Sto → R
abbrev MA := Sg → Sto → RL
abbrev MS := Sg → Sto → RS
abbrev objD (o : Nat) : PyData := .dict [(.int o, .none)]
abbrev exnD (x : Str) : PyData := .dict [(.str x, .none)]
abbrev frzD (ds : List PyData) : PyData := .dict [(.list ds, .none)]

/-! ### the ghost -/
inductive Tag where
  | fr
  | loc (i : Nat)
  | obj (o : Nat)
  | fld (o : Nat) (f : Str)
structure Gh where
  D : Hp
  r : List Addr
  t : Addr → Option Tag
  F : Hp
def xc (mg : Str → Option Value) (x : Str) : Value := (mg x).getD .none
/-- an exception kept as a value -/
def exO (a : Addr) (c : Value) : HO := .ext fun h => ∃ o vs, h.get? a = some o ∧ o.cls = c ∧ o.dict = none ∧ o.data = .fields vs

mutual
inductive Dv (K : PySem.W.Frag) (mg : Str → Option Value) (D : Hp) (r : List Addr) : V → PyData → Prop
  | non : Dv K mg D r .non .none
  | bl (b : Bool) : Dv K mg D r (.bl b) (.bool b)
  | int (i : Int) : Dv K mg D r (.int i) (.int i)
  | str (x : Str) : Dv K mg D r (.str x) (.str x)
  | lst {a : Addr} {xs : List V} {ds : List PyData} : D a = some (.lst xs) → DvA K mg D r xs ds → Dv K mg D r (.ref a) (.list ds)
  | tup {a : Addr} {xs : List V} {ds : List PyData} : SqT K D a xs → DvA K mg D r xs ds → Dv K mg D r (.ref a) (.tuple ds)
  | frl {a : Addr} {xs : List V} {ds : List PyData} : SqL K D a xs → DvA K mg D r xs ds → Dv K mg D r (.ref a) (.dict [(.list ds, .none)])
  | obj {a : Addr} {o : Nat} : r[o]? = some a → Dv K mg D r (.ref a) (.dict [(.int o, .none)])
  | exn {a : Addr} {x : Str} : D a = some (exO a (xc mg x)) → Dv K mg D r (.ref a) (.dict [(.str x, .none)])
inductive DvA (K : PySem.W.Frag) (mg : Str → Option Value) (D : Hp) (r : List Addr) : List V → List PyData → Prop
  | nil : DvA K mg D r [] []
  | cons {v : V} {vs : List V} {d : PyData} {ds : List PyData} : Dv K mg D r v d → DvA K mg D r vs ds → DvA K mg D r (v :: vs) (d :: ds)
end

theorem Same.tup {K : PySem.W.Frag} {H H' : Hp} {a : Addr} {xs : List V} (e : Same H H') (h : SqT K H a xs) : SqT K H' a xs := by
  rcases h with (h | ⟨o, h⟩) | h
  · exact .inl (.inl (e _ _ h))
  · exact .inl (.inr ⟨o, e _ _ h⟩)
  · exact .inr h
theorem pre_get {r r' : List Addr} (h : r <+: r') {o : Nat} {a : Addr} (e : r[o]? = some a) : r'[o]? = some a := by
  obtain ⟨t, rfl⟩ := h
  rw [List.getElem?_append_left (List.getElem?_eq_some_iff.mp e).1]
  exact e
section
variable {K : PySem.W.Frag} {mg : Str → Option Value} {D D' : Hp} {r r' : List Addr}
mutual
theorem Dv.mono (hD : Same D D') (hr : r <+: r') : ∀ {v : V} {d : PyData}, Dv K mg D r v d → Dv K mg D' r' v d
  | _, _, .non => .non
  | _, _, .bl b => .bl b
  | _, _, .int i => .int i
  | _, _, .str x => .str x
  | _, _, .lst h a => .lst (hD _ _ h) (DvA.mono hD hr a)
  | _, _, .tup h a => .tup (Same.tup hD h) (DvA.mono hD hr a)
  | _, _, .frl h a => .frl (hD.seq h) (DvA.mono hD hr a)
  | _, _, .obj h => .obj (pre_get hr h)
  | _, _, .exn h => .exn (hD _ _ h)
theorem DvA.mono (hD : Same D D') (hr : r <+: r') : ∀ {v : List V} {d : List PyData}, DvA K mg D r v d → DvA K mg D' r' v d
  | _, _, .nil => .nil
  | _, _, .cons a b => .cons (Dv.mono hD hr a) (DvA.mono hD hr b)
end
theorem DvA.length : ∀ {v : List V} {d : List PyData}, DvA K mg D r v d → v.length = d.length
  | _, _, .nil => rfl
  | _, _, .cons _ b => by rw [List.length_cons, List.length_cons, b.length]
theorem DvA.get : ∀ {v : List V} {d : List PyData} {i : Nat} {x : V}, DvA K mg D r v d → v[i]? = some x → ∃ e, d[i]? = some e ∧ Dv K mg D r x e
  | _, _, _, _, .nil, h => by simp at h
  | _, _, 0, _, .cons a _, h => by
    simp at h
    subst h
    exact ⟨_, rfl, a⟩
  | _, _, i + 1, _, .cons _ b, h => by
    simp at h
    obtain ⟨e, h1, h2⟩ := b.get h
    exact ⟨e, by simpa using h1, h2⟩
theorem DvA.get' : ∀ {v : List V} {d : List PyData} {i : Nat} {e : PyData}, DvA K mg D r v d → d[i]? = some e → ∃ x, v[i]? = some x ∧ Dv K mg D r x e
  | _, _, _, _, .nil, h => by simp at h
  | _, _, 0, _, .cons a _, h => by
    simp at h
    subst h
    exact ⟨_, rfl, a⟩
  | _, _, i + 1, _, .cons _ b, h => by
    simp at h
    obtain ⟨e, h1, h2⟩ := b.get' h
    exact ⟨e, by simpa using h1, h2⟩
theorem DvA.append : ∀ {v w : List V} {d e : List PyData}, DvA K mg D r v d → DvA K mg D r w e → DvA K mg D r (v ++ w) (d ++ e)
  | _, _, _, _, .nil, h => h
  | _, _, _, _, .cons a b, h => .cons a (b.append h)
theorem DvA.one {v : V} {d : PyData} (h : Dv K mg D r v d) : DvA K mg D r [v] [d] := .cons h .nil
theorem DvA.ints : ∀ ns : List Int, DvA K mg D r (ns.map V.int) (ns.map PyData.int)
  | [] => .nil
  | n :: ns => .cons (.int n) (DvA.ints ns)
theorem DvA.ints_inv : ∀ {vs : List V} {ns : List Int}, DvA K mg D r vs (ns.map PyData.int) → vs = ns.map V.int
  | _, [], .nil => rfl
  | _, n :: ns, .cons (.int _) b => by rw [DvA.ints_inv b]; rfl
theorem DvA.bools_inv : ∀ {vs : List V} {ns : List Bool}, DvA K mg D r vs (ns.map PyData.bool) → vs = ns.map V.bl
  | _, [], .nil => rfl
  | _, n :: ns, .cons (.bl _) b => by rw [DvA.bools_inv b]; rfl
theorem DvA.take : ∀ {v : List V} {d : List PyData} (n : Nat), DvA K mg D r v d → DvA K mg D r (v.take n) (d.take n)
  | _, _, 0, _ => .nil
  | _, _, _ + 1, .nil => .nil
  | _, _, n + 1, .cons a b => .cons a (b.take n)
theorem DvA.drop : ∀ {v : List V} {d : List PyData} (n : Nat), DvA K mg D r v d → DvA K mg D r (v.drop n) (d.drop n)
  | _, _, 0, h => h
  | _, _, _ + 1, .nil => .nil
  | _, _, n + 1, .cons _ b => b.drop n
theorem DvA.flat : ∀ {v : List V} {d : List PyData} (n : Nat), DvA K mg D r v d → DvA K mg D r (List.replicate n v).flatten (List.replicate n d).flatten
  | _, _, 0, _ => .nil
  | _, _, n + 1, h => h.append (h.flat n)
end

/-! ### what stands -/
def SlR (K : PySem.W.Frag) (mg : Str → Option Value) (g : Gh) (H : Hp) (tg : Tag) : Sl → V → Prop
  | .un, _ => True
  | .im d, v => Dv K mg g.D g.r v d
  | .ow ds, v => ∃ l xs, v = .ref l ∧ H l = some (.lst xs) ∧ g.t l = some tg ∧ DvA K mg g.D g.r xs ds
def ObR (K : PySem.W.Frag) (mg : Str → Option Value) (g : Gh) (H : Hp) (o : Nat) (a : Addr) : Ob → Prop
  | .shl ds => ∃ xs, H a = some (.lst xs) ∧ DvA K mg g.D g.r xs ds
  | .inst c fs => ∃ C dx vs, mg c = some (.ref C) ∧ H a = some (.ins C dx vs) ∧ vs.map (·.1) = fs.map (·.1) ∧
      ∀ f sl v, fs.lookup f = some sl → vs.lookup f = some v → SlR K mg g H (.fld o f) sl v
structure Wf (K : PySem.W.Frag) (mg : Str → Option Value) (g : Gh) (S : Sto) (H : Hp) : Prop where
  dh : Same g.D H
  dt : ∀ a t, g.t a = some t → g.D a = none ∧ ∃ o, H a = some o
  fm : ∀ a o, g.F a = some o → H a = some o ∧ g.t a = some .fr
  st : ∀ o ob, S[o]? = some ob → ∃ a, g.r[o]? = some a ∧ g.t a = some (.obj o) ∧ ObR K mg g H o a ob
  ln : g.r.length = S.length
structure WfE (K : PySem.W.Frag) (mg : Str → Option Value) (g : Gh) (sd : Sg) (S : Sto) (σ : L2.St) (H : Hp) : Prop where
  w : Wf K mg g S H
  ln : sd.length = σ.length
  e : ∀ i sl, sd[i]? = some sl → sl ≠ .un → ∃ v, σ[i]? = some (some v) ∧ SlR K mg g H (.loc i) sl v
structure Ext (g g' : Gh) : Prop where
  d : Same g.D g'.D
  r : g.r <+: g'.r
  f : g'.F = g.F
theorem Ext.refl (g : Gh) : Ext g g := ⟨Same.refl _, List.prefix_rfl, rfl⟩
theorem Ext.trans {g g1 g2 : Gh} (a : Ext g g1) (b : Ext g1 g2) : Ext g g2 := ⟨a.d.trans b.d, a.r.trans b.r, b.f.trans a.f⟩
theorem Ext.dv {K : PySem.W.Frag} {mg : Str → Option Value} {g g' : Gh} (x : Ext g g') {v : V} {d : PyData} (h : Dv K mg g.D g.r v d) : Dv K mg g'.D g'.r v d := h.mono x.d x.r
theorem Ext.dva {K : PySem.W.Frag} {mg : Str → Option Value} {g g' : Gh} (x : Ext g g') {v : List V} {d : List PyData} (h : DvA K mg g.D g.r v d) : DvA K mg g'.D g'.r v d := h.mono x.d x.r

/-- the data grow, the heap grows -/
structure Gro (D H D' H' : Hp) : Prop where
  h : Same H H'
  d : Same D D'
  dh : Same D' H'
  n : ∀ a o, D a = none → H a = some o → D' a = none
theorem Gro.refl {D H : Hp} (h : Same D H) : Gro D H D H := ⟨Same.refl _, Same.refl _, h, fun _ _ e _ => e⟩
theorem same_new {H : Hp} {p : Addr} {o : HO} (h : H p = none) : Same H (upd H p o) := fun b x e => by
  rw [upd_ne (ne_of_none e h)]
  exact e
theorem Gro.new {D H : Hp} {p : Addr} {o : HO} (s : Same D H) (h : H p = none) : Gro D H (upd D p o) (upd H p o) where
  h := same_new h
  d := same_new (s.free h)
  dh := fun b x e => by
    by_cases hb : b = p
    · subst hb
      rw [upd_same] at e ⊢
      exact e
    · rw [upd_ne hb] at e ⊢
      exact s _ _ e
  n := fun a x e e2 => by rw [upd_ne (ne_of_none e2 h)]; exact e
theorem Gro.keep {D H : Hp} {p : Addr} {o : HO} (s : Same D H) (h : H p = none) : Gro D H D (upd H p o) where
  h := same_new h
  d := Same.refl _
  dh := s.trans (same_new h)
  n := fun a x e _ => e
section
variable {K : PySem.W.Frag} {mg : Str → Option Value} {g : Gh} {S : Sto} {σ : L2.St} {H H' D' : Hp} {sd : Sg}
theorem SlR.gro {tg : Tag} {sl : Sl} {v : V} (G : Gro g.D H D' H') (h : SlR K mg g H tg sl v) : SlR K mg { g with D := D' } H' tg sl v := by
  cases sl with
  | un => trivial
  | im d => exact Dv.mono G.d List.prefix_rfl h
  | ow ds =>
    obtain ⟨l, xs, e, h1, h2, h3⟩ := h
    exact ⟨l, xs, e, G.h _ _ h1, h2, h3.mono G.d List.prefix_rfl⟩
theorem ObR.gro {o : Nat} {a : Addr} {ob : Ob} (G : Gro g.D H D' H') (h : ObR K mg g H o a ob) : ObR K mg { g with D := D' } H' o a ob := by
  cases ob with
  | shl ds =>
    obtain ⟨xs, h1, h2⟩ := h
    exact ⟨xs, G.h _ _ h1, h2.mono G.d List.prefix_rfl⟩
  | inst c fs =>
    obtain ⟨C, dx, vs, h1, h2, h3, h4⟩ := h
    exact ⟨C, dx, vs, h1, G.h _ _ h2, h3, fun f sl v a b => (h4 f sl v a b).gro G⟩
theorem Wf.gro (w : Wf K mg g S H) (G : Gro g.D H D' H') : Wf K mg { g with D := D' } S H' where
  dh := G.dh
  dt := fun a t e => by
    obtain ⟨h1, o, h2⟩ := w.dt a t e
    exact ⟨G.n a o h1 h2, o, G.h _ _ h2⟩
  fm := fun a o e => ⟨G.h _ _ (w.fm a o e).1, (w.fm a o e).2⟩
  st := fun o ob e => by
    obtain ⟨a, h1, h2, h3⟩ := w.st o ob e
    exact ⟨a, h1, h2, h3.gro G⟩
  ln := w.ln
theorem WfE.gro (w : WfE K mg g sd S σ H) (G : Gro g.D H D' H') : WfE K mg { g with D := D' } sd S σ H' where
  w := w.w.gro G
  ln := w.ln
  e := fun i sl h1 h2 => by
    obtain ⟨v, h3, h4⟩ := w.e i sl h1 h2
    exact ⟨v, h3, h4.gro G⟩
theorem Gro.ext (G : Gro g.D H D' H') : Ext g { g with D := D' } := ⟨G.d, List.prefix_rfl, rfl⟩
end

/-! ### what is wanted behind a piece -/
abbrev WW := Value → Option Addr → L2.St → Hp → Prop
def PostE (K : PySem.W.Frag) (mg : Str → Option Value) (g : Gh) (sd : Sg) (σ : L2.St) (W : WW) (Q : VK) : R → Prop
  | .ok d S' => ∀ g' v H', Ext g g' → WfE K mg g' sd S' σ H' → Dv K mg g'.D g'.r v d → Q v H'
  | .exc x S' => ∀ g' H', Ext g g' → WfE K mg g' sd S' σ H' → W (xc mg x) none σ H'
  | .bad => False
def PostT (K : PySem.W.Frag) (mg : Str → Option Value) (g : Gh) (sd : Sg) (σ : L2.St) (W : WW) (Q : Bool → Hp → Prop) : R → Prop
  | .ok (.bool b) S' => ∀ g' H', Ext g g' → WfE K mg g' sd S' σ H' → Q b H'
  | .exc x S' => ∀ g' H', Ext g g' → WfE K mg g' sd S' σ H' → W (xc mg x) none σ H'
  | _ => False
def PostA (K : PySem.W.Frag) (mg : Str → Option Value) (g : Gh) (sd : Sg) (σ : L2.St) (W : WW) (Q : List V → Hp → Prop) : RL → Prop
  | .ok ds S' => ∀ g' vs H', Ext g g' → WfE K mg g' sd S' σ H' → DvA K mg g'.D g'.r vs ds → Q vs H'
  | .exc x S' => ∀ g' H', Ext g g' → WfE K mg g' sd S' σ H' → W (xc mg x) none σ H'
  | .bad => False
def PostS (K : PySem.W.Frag) (mg : Str → Option Value) (g : Gh) (W : WW) (D : Ends) : RS → Prop
  | .nx sd S' => ∀ g' σ H', Ext g g' → WfE K mg g' sd S' σ H' → D.nx σ H'
  | .brk sd S' => ∀ g' σ H', Ext g g' → WfE K mg g' sd S' σ H' → D.bk σ H'
  | .ct sd S' => ∀ g' σ H', Ext g g' → WfE K mg g' sd S' σ H' → D.ct σ H'
  | .ret d S' => ∀ g' v H', Ext g g' → Wf K mg g' S' H' → Dv K mg g'.D g'.r v d → D.rt v H'
  | .exc x sd S' => ∀ g' σ H', Ext g g' → WfE K mg g' sd S' σ H' → W (xc mg x) none σ H'
  | .bad => False
def PostF (K : PySem.W.Frag) (mg : Str → Option Value) (g : Gh) (Q : VK) (E : XK) : R → Prop
  | .ok d S' => ∀ g' v H', Ext g g' → Wf K mg g' S' H' → Dv K mg g'.D g'.r v d → Q v H'
  | .exc x S' => ∀ g' H', Ext g g' → Wf K mg g' S' H' → E (xc mg x) none H'
  | .bad => False

/-! ### the judgements -/
def DE (X : Cx) (W : WW) (e : Expr) (m : ME) : Prop := ∃ t, PE X e t ∧ ∀ g sd S σ H Q, WfE X.K X.mg g sd S σ H → PostE X.K X.mg g sd σ W Q (m sd S) → t σ H Q
def DT (X : Cx) (W : WW) (e : Expr) (m : ME) : Prop := ∃ t, PT X e t ∧ ∀ g sd S σ H Q, WfE X.K X.mg g sd S σ H → PostT X.K X.mg g sd σ W Q (m sd S) → t σ H Q
def DW (X : Cx) (W : WW) (e : Expr) (m : ME) : Prop := ∃ t, PW X e t ∧ ∀ g sd S σ H Q, WfE X.K X.mg g sd S σ H → PostT X.K X.mg g sd σ W Q (m sd S) → t σ H Q
def DA (X : Cx) (W : WW) (es : List Expr) (m : MA) : Prop := ∃ t, PA X es t ∧ ∀ g sd S σ H Q, WfE X.K X.mg g sd S σ H → PostA X.K X.mg g sd σ W Q (m sd S) → t σ H Q
def DS (X : Cx) (W : WW) (st : Stmt) (m : MS) : Prop := ∃ t, PS X st t ∧ ∀ g sd S σ H D, WfE X.K X.mg g sd S σ H → PostS X.K X.mg g W D (m sd S) → t D σ H
def DSs (X : Cx) (W : WW) (st : List Stmt) (m : MS) : Prop := ∃ t, PSs X st t ∧ ∀ g sd S σ H D, WfE X.K X.mg g sd S σ H → PostS X.K X.mg g W D (m sd S) → t D σ H

section
variable {K : PySem.W.Frag} {mg : Str → Option Value} {g g1 : Gh} {sd : Sg} {σ : L2.St} {W : WW}
theorem PostE.ext {Q : VK} {r : R} (x : Ext g g1) (h : PostE K mg g sd σ W Q r) : PostE K mg g1 sd σ W Q r := by
  cases r with
  | ok d S => exact fun g' v H' a b c => h g' v H' (x.trans a) b c
  | exc y S => exact fun g' H' a b => h g' H' (x.trans a) b
  | bad => exact h
theorem PostT.ext {Q : Bool → Hp → Prop} {r : R} (x : Ext g g1) (h : PostT K mg g sd σ W Q r) : PostT K mg g1 sd σ W Q r := by
  cases r with
  | ok d S =>
    cases d with
    | bool b => exact fun g' H' a b => h g' H' (x.trans a) b
    | _ => exact h
  | exc y S => exact fun g' H' a b => h g' H' (x.trans a) b
  | bad => exact h
theorem PostA.ext {Q : List V → Hp → Prop} {r : RL} (x : Ext g g1) (h : PostA K mg g sd σ W Q r) : PostA K mg g1 sd σ W Q r := by
  cases r with
  | ok d S => exact fun g' v H' a b c => h g' v H' (x.trans a) b c
  | exc y S => exact fun g' H' a b => h g' H' (x.trans a) b
  | bad => exact h
theorem PostS.ext {D : Ends} {r : RS} (x : Ext g g1) (h : PostS K mg g W D r) : PostS K mg g1 W D r := by
  cases r with
  | nx d S => exact fun g' v H' a b => h g' v H' (x.trans a) b
  | brk d S => exact fun g' v H' a b => h g' v H' (x.trans a) b
  | ct d S => exact fun g' v H' a b => h g' v H' (x.trans a) b
  | ret d S => exact fun g' v H' a b c => h g' v H' (x.trans a) b c
  | exc y d S => exact fun g' v H' a b => h g' v H' (x.trans a) b
  | bad => exact h
end

/-! ### binds -/
def R.bind (r : R) (f : PyData → Sto → R) : R := match r with
  | .ok d s => f d s
  | .exc x s => .exc x s
  | .bad => .bad
def R.bindL (r : R) (f : PyData → Sto → RL) : RL := match r with
  | .ok d s => f d s
  | .exc x s => .exc x s
  | .bad => .bad
def RL.bind (r : RL) (f : List PyData → Sto → R) : R := match r with
  | .ok d s => f d s
  | .exc x s => .exc x s
  | .bad => .bad
def RL.bindL (r : RL) (f : List PyData → Sto → RL) : RL := match r with
  | .ok d s => f d s
  | .exc x s => .exc x s
  | .bad => .bad
def R.bindS (r : R) (sd : Sg) (f : PyData → Sto → RS) : RS := match r with
  | .ok d s => f d s
  | .exc x s => .exc x sd s
  | .bad => .bad
def RL.bindS (r : RL) (sd : Sg) (f : List PyData → Sto → RS) : RS := match r with
  | .ok d s => f d s
  | .exc x s => .exc x sd s
  | .bad => .bad
@[simp] theorem R.bind_ok {d s f} : (R.ok d s).bind f = f d s := rfl
@[simp] theorem R.bind_exc {d s f} : (R.exc d s).bind f = .exc d s := rfl
@[simp] theorem R.bind_bad {f} : R.bad.bind f = .bad := rfl
@[simp] theorem R.bindL_ok {d s f} : (R.ok d s).bindL f = f d s := rfl
@[simp] theorem R.bindL_exc {d s f} : (R.exc d s).bindL f = .exc d s := rfl
@[simp] theorem R.bindL_bad {f} : R.bad.bindL f = .bad := rfl
@[simp] theorem RL.bind_ok {d s f} : (RL.ok d s).bind f = f d s := rfl
@[simp] theorem RL.bind_exc {d s f} : (RL.exc d s).bind f = .exc d s := rfl
@[simp] theorem RL.bind_bad {f} : RL.bad.bind f = .bad := rfl
@[simp] theorem RL.bindL_ok {d s f} : (RL.ok d s).bindL f = f d s := rfl
@[simp] theorem RL.bindL_exc {d s f} : (RL.exc d s).bindL f = .exc d s := rfl
@[simp] theorem RL.bindL_bad {f} : RL.bad.bindL f = .bad := rfl
@[simp] theorem R.bindS_ok {d s sd f} : (R.ok d s).bindS sd f = f d s := rfl
@[simp] theorem R.bindS_exc {d s sd f} : (R.exc d s).bindS sd f = .exc d sd s := rfl
@[simp] theorem R.bindS_bad {sd f} : R.bad.bindS sd f = .bad := rfl
@[simp] theorem RL.bindS_ok {d s sd f} : (RL.ok d s).bindS sd f = f d s := rfl
@[simp] theorem RL.bindS_exc {d s sd f} : (RL.exc d s).bindS sd f = .exc d sd s := rfl
@[simp] theorem RL.bindS_bad {sd f} : RL.bad.bindS sd f = .bad := rfl
section
variable {X : Cx} {W : WW} {e : Expr} {m : ME}
/-- a value, then what follows: the reading's step -/
theorem stepE {t : TE} (ht : ∀ g sd S σ H Q, WfE X.K X.mg g sd S σ H → PostE X.K X.mg g sd σ W Q (m sd S) → t σ H Q) {g : Gh} {sd : Sg} {S : Sto} {σ : L2.St} {H : Hp} {Q Q' : VK} {f : PyData → Sto → R}
    (w : WfE X.K X.mg g sd S σ H) (p : PostE X.K X.mg g sd σ W Q' ((m sd S).bind f))
    (k : ∀ d S1 g1 v H1, m sd S = .ok d S1 → Ext g g1 → WfE X.K X.mg g1 sd S1 σ H1 → Dv X.K X.mg g1.D g1.r v d → PostE X.K X.mg g1 sd σ W Q' (f d S1) → Q v H1) : t σ H Q := by
  refine ht g sd S σ H Q w ?_
  cases hm : m sd S with
  | ok d S1 =>
    rw [hm] at p
    exact fun g' v H' x w' dv => k d S1 g' v H' hm x w' dv (PostE.ext x p)
  | exc y S1 =>
    rw [hm] at p
    exact p
  | bad =>
    rw [hm] at p
    exact p.elim
theorem stepEL {t : TE} (ht : ∀ g sd S σ H Q, WfE X.K X.mg g sd S σ H → PostE X.K X.mg g sd σ W Q (m sd S) → t σ H Q) {g : Gh} {sd : Sg} {S : Sto} {σ : L2.St} {H : Hp} {Q : VK} {Q' : List V → Hp → Prop} {f : PyData → Sto → RL}
    (w : WfE X.K X.mg g sd S σ H) (p : PostA X.K X.mg g sd σ W Q' ((m sd S).bindL f))
    (k : ∀ d S1 g1 v H1, m sd S = .ok d S1 → Ext g g1 → WfE X.K X.mg g1 sd S1 σ H1 → Dv X.K X.mg g1.D g1.r v d → PostA X.K X.mg g1 sd σ W Q' (f d S1) → Q v H1) : t σ H Q := by
  refine ht g sd S σ H Q w ?_
  cases hm : m sd S with
  | ok d S1 =>
    rw [hm] at p
    exact fun g' v H' x w' dv => k d S1 g' v H' hm x w' dv (PostA.ext x p)
  | exc y S1 =>
    rw [hm] at p
    exact p
  | bad =>
    rw [hm] at p
    exact p.elim
theorem stepET {t : TE} (ht : ∀ g sd S σ H Q, WfE X.K X.mg g sd S σ H → PostE X.K X.mg g sd σ W Q (m sd S) → t σ H Q) {g : Gh} {sd : Sg} {S : Sto} {σ : L2.St} {H : Hp} {Q : VK} {Q' : Bool → Hp → Prop} {f : PyData → Sto → R}
    (w : WfE X.K X.mg g sd S σ H) (p : PostT X.K X.mg g sd σ W Q' ((m sd S).bind f))
    (k : ∀ d S1 g1 v H1, m sd S = .ok d S1 → Ext g g1 → WfE X.K X.mg g1 sd S1 σ H1 → Dv X.K X.mg g1.D g1.r v d → PostT X.K X.mg g1 sd σ W Q' (f d S1) → Q v H1) : t σ H Q := by
  refine ht g sd S σ H Q w ?_
  cases hm : m sd S with
  | ok d S1 =>
    rw [hm] at p
    exact fun g' v H' x w' dv => k d S1 g' v H' hm x w' dv (PostT.ext x p)
  | exc y S1 =>
    rw [hm] at p
    exact p
  | bad =>
    rw [hm] at p
    exact p.elim
theorem stepES {t : TE} (ht : ∀ g sd S σ H Q, WfE X.K X.mg g sd S σ H → PostE X.K X.mg g sd σ W Q (m sd S) → t σ H Q) {g : Gh} {sd : Sg} {S : Sto} {σ : L2.St} {H : Hp} {Q : VK} {D : Ends} {f : PyData → Sto → RS}
    (w : WfE X.K X.mg g sd S σ H) (p : PostS X.K X.mg g W D ((m sd S).bindS sd f))
    (k : ∀ d S1 g1 v H1, m sd S = .ok d S1 → Ext g g1 → WfE X.K X.mg g1 sd S1 σ H1 → Dv X.K X.mg g1.D g1.r v d → PostS X.K X.mg g1 W D (f d S1) → Q v H1) : t σ H Q := by
  refine ht g sd S σ H Q w ?_
  cases hm : m sd S with
  | ok d S1 =>
    rw [hm] at p
    exact fun g' v H' x w' dv => k d S1 g' v H' hm x w' dv (PostS.ext x p)
  | exc y S1 =>
    rw [hm] at p
    exact fun g' H' x w' => p g' σ H' x w'
  | bad =>
    rw [hm] at p
    exact p.elim
end
section
variable {X : Cx} {W : WW} {es : List Expr} {m : MA}
theorem stepA {t : TA} (ht : ∀ g sd S σ H Q, WfE X.K X.mg g sd S σ H → PostA X.K X.mg g sd σ W Q (m sd S) → t σ H Q) {g : Gh} {sd : Sg} {S : Sto} {σ : L2.St} {H : Hp} {Q : List V → Hp → Prop} {Q' : VK} {f : List PyData → Sto → R}
    (w : WfE X.K X.mg g sd S σ H) (p : PostE X.K X.mg g sd σ W Q' ((m sd S).bind f))
    (k : ∀ d S1 g1 v H1, m sd S = .ok d S1 → Ext g g1 → WfE X.K X.mg g1 sd S1 σ H1 → DvA X.K X.mg g1.D g1.r v d → PostE X.K X.mg g1 sd σ W Q' (f d S1) → Q v H1) : t σ H Q := by
  refine ht g sd S σ H Q w ?_
  cases hm : m sd S with
  | ok d S1 =>
    rw [hm] at p
    exact fun g' v H' x w' dv => k d S1 g' v H' hm x w' dv (PostE.ext x p)
  | exc y S1 =>
    rw [hm] at p
    exact p
  | bad =>
    rw [hm] at p
    exact p.elim
theorem stepAL {t : TA} (ht : ∀ g sd S σ H Q, WfE X.K X.mg g sd S σ H → PostA X.K X.mg g sd σ W Q (m sd S) → t σ H Q) {g : Gh} {sd : Sg} {S : Sto} {σ : L2.St} {H : Hp} {Q Q' : List V → Hp → Prop} {f : List PyData → Sto → RL}
    (w : WfE X.K X.mg g sd S σ H) (p : PostA X.K X.mg g sd σ W Q' ((m sd S).bindL f))
    (k : ∀ d S1 g1 v H1, m sd S = .ok d S1 → Ext g g1 → WfE X.K X.mg g1 sd S1 σ H1 → DvA X.K X.mg g1.D g1.r v d → PostA X.K X.mg g1 sd σ W Q' (f d S1) → Q v H1) : t σ H Q := by
  refine ht g sd S σ H Q w ?_
  cases hm : m sd S with
  | ok d S1 =>
    rw [hm] at p
    exact fun g' v H' x w' dv => k d S1 g' v H' hm x w' dv (PostA.ext x p)
  | exc y S1 =>
    rw [hm] at p
    exact p
  | bad =>
    rw [hm] at p
    exact p.elim
theorem stepAS {t : TA} (ht : ∀ g sd S σ H Q, WfE X.K X.mg g sd S σ H → PostA X.K X.mg g sd σ W Q (m sd S) → t σ H Q) {g : Gh} {sd : Sg} {S : Sto} {σ : L2.St} {H : Hp} {Q : List V → Hp → Prop} {D : Ends} {f : List PyData → Sto → RS}
    (w : WfE X.K X.mg g sd S σ H) (p : PostS X.K X.mg g W D ((m sd S).bindS sd f))
    (k : ∀ d S1 g1 v H1, m sd S = .ok d S1 → Ext g g1 → WfE X.K X.mg g1 sd S1 σ H1 → DvA X.K X.mg g1.D g1.r v d → PostS X.K X.mg g1 W D (f d S1) → Q v H1) : t σ H Q := by
  refine ht g sd S σ H Q w ?_
  cases hm : m sd S with
  | ok d S1 =>
    rw [hm] at p
    exact fun g' v H' x w' dv => k d S1 g' v H' hm x w' dv (PostS.ext x p)
  | exc y S1 =>
    rw [hm] at p
    exact fun g' H' x w' => p g' σ H' x w'
  | bad =>
    rw [hm] at p
    exact p.elim
end
end Bc

/-! Bc1: the rules of expressions. -/
namespace Bc
open PySem PySem.Spec PyProof.Rows L2

abbrev cap : Nat := 100000
theorem cap_le {n : Nat} (h : n ≤ cap) : n ≤ sizeLine := Nat.le_trans h (by decide)
theorem cap_lt {n : Nat} (h : n < cap) : n < sizeLine := Nat.lt_of_lt_of_le h (by decide)
def R.of (s : Sto) : Option PyData → R
  | some d => .ok d s
  | none => .bad
@[simp] theorem R.of_some {s d} : R.of s (some d) = .ok d s := rfl
@[simp] theorem R.of_none {s} : R.of s none = .bad := rfl

/-! ### names and constants -/
def eVar (i : Nat) : ME := fun sd S => match sd[i]? with
  | some (.im d) => .ok d S
  | _ => .bad
def eC (d : PyData) : ME := fun _ S => .ok d S
section
variable {X : Cx} {W : WW}
theorem de_var (i : Nat) {x : Str} {pos : Pos} (hN : X.N[i]? = some x := by rfl) (hv : Vis X.env.scope x := by first | exact Or.inl rfl | exact Or.inr (Or.inl rfl) | exact Or.inr (Or.inr rfl)) (hd : (x == ("__debug__" : Str)) = false := by decide)
    (hcd : (x == ("__classdict__" : Str)) = false := by decide) : DE X W (.Name x pos) (eVar i) := by
  refine ⟨tVar i, pe_var hN hv hd hcd, fun g sd S σ H Q w p => ?_⟩
  unfold eVar at p
  split at p
  · rename_i d h
    obtain ⟨v, h1, h2⟩ := w.e i _ h (by simp)
    exact ⟨v, h1, p g v H (Ext.refl g) w h2⟩
  · exact p.elim
theorem de_of_c {e : Expr} {v : V} {d : PyData} (h : PE X e (tC v)) (hd : ∀ D r, Dv X.K X.mg D r v d) : DE X W e (eC d) :=
  ⟨tC v, h, fun g sd S σ H Q w p => p g v H (Ext.refl g) w (hd _ _)⟩
theorem de_int {i j pos} : DE X W (.Constant (.int i) j pos) (eC (.int i)) := de_of_c pe_int fun _ _ => .int _
theorem de_bl {i j pos} : DE X W (.Constant (.bool i) j pos) (eC (.bool i)) := de_of_c pe_bl fun _ _ => .bl _
theorem de_non {j pos} : DE X W (.Constant .none j pos) (eC .none) := de_of_c pe_non fun _ _ => .non
theorem de_str {i j pos} : DE X W (.Constant (.str i) j pos) (eC (.str i)) := de_of_c pe_str fun _ _ => .str _
/-- a module's whole number -/
theorem de_gint {x : Str} {i : Int} {pos : Pos} (hm : ∃ t, X.mg x = some (.int i t)) (hg : Gl X x := by rfl) (hd : (x == ("__debug__" : Str)) = false := by decide) : DE X W (.Name x pos) (eC (.int i)) := by
  obtain ⟨t, hm⟩ := hm
  exact de_of_c (v := .int i) (pe_glob (v := .int i) hg hm ⟨t, rfl⟩ hd) fun _ _ => .int _

/-! ### operators -/
structure OpD (X : Cx) (f : Value → Value → Sem Value) (m : PyData → PyData → Option PyData) : Prop where
  ex : ∃ r, OpR X f r ∧ ∀ (D H : Hp) (ρ : List Addr) (x y : V) (a b d : PyData) (Q : VK), Same D H → Dv X.K X.mg D ρ x a → Dv X.K X.mg D ρ y b → m a b = some d →
    (∀ D' v H', Gro D H D' H' → Dv X.K X.mg D' ρ v d → Q v H') → r x y H Q
def eOp (m : PyData → PyData → Option PyData) (a b : ME) : ME := fun sd S => (a sd S).bind fun x S1 => (b sd S1).bind fun y S2 => R.of S2 (m x y)
variable {a b e : Expr} {ma mb mc : ME} {m : PyData → PyData → Option PyData} {pos : Pos}
/-- the last step of a value: the heap grows by a datum -/
theorem post_gro {g : Gh} {sd : Sg} {S : Sto} {σ : L2.St} {H : Hp} {Q : VK} {d : PyData} (w : WfE X.K X.mg g sd S σ H) (p : PostE X.K X.mg g sd σ W Q (.ok d S)) : ∀ D' v H', Gro g.D H D' H' → Dv X.K X.mg D' g.r v d → Q v H' :=
  fun D' v H' G dv => p { g with D := D' } v H' G.ext (w.gro G) dv
theorem of_eq {g : Gh} {sd : Sg} {S : Sto} {σ : L2.St} {Q : VK} {o : Option PyData} (p : PostE X.K X.mg g sd σ W Q (R.of S o)) : ∃ d, o = some d ∧ PostE X.K X.mg g sd σ W Q (.ok d S) := by
  cases o with
  | none => exact p.elim
  | some d => exact ⟨d, rfl, p⟩
theorem op_rd {r : R2} (hr : ∀ (D H : Hp) (ρ : List Addr) (x y : V) (a b d : PyData) (Q : VK), Same D H → Dv X.K X.mg D ρ x a → Dv X.K X.mg D ρ y b → m a b = some d →
    (∀ D' v H', Gro D H D' H' → Dv X.K X.mg D' ρ v d → Q v H') → r x y H Q) {ta tb : TE}
    (qa : ∀ g sd S σ H Q, WfE X.K X.mg g sd S σ H → PostE X.K X.mg g sd σ W Q (ma sd S) → ta σ H Q) (qb : ∀ g sd S σ H Q, WfE X.K X.mg g sd S σ H → PostE X.K X.mg g sd σ W Q (mb sd S) → tb σ H Q) :
    ∀ g sd S σ H Q, WfE X.K X.mg g sd S σ H → PostE X.K X.mg g sd σ W Q (eOp m ma mb sd S) → tOp r ta tb σ H Q := by
  intro g sd S σ H Q w p
  refine stepE qa w p fun da S1 g1 v1 H1 _ x1 w1 d1 p1 => ?_
  refine stepE qb w1 p1 fun db S2 g2 v2 H2 _ x2 w2 d2 p2 => ?_
  obtain ⟨d, hd, p3⟩ := of_eq p2
  exact hr g2.D H2 g2.r v1 v2 da db d Q w2.w.dh (x2.dv d1) d2 hd (post_gro w2 p3)
theorem de_op {op : Operator} (h : OpD X (binaryOp op) m) (ha : DE X W a ma) (hb : DE X W b mb) : DE X W (.BinOp a op b pos) (eOp m ma mb) := by
  obtain ⟨r, ho, hr⟩ := h.ex
  obtain ⟨ta, pa, qa⟩ := ha
  obtain ⟨tb, pb, qb⟩ := hb
  exact ⟨_, pe_op ho pa pb, op_rd hr qa qb⟩
theorem de_cmp {op : CmpOp} (h : OpD X (compareOp op) m) (ha : DE X W a ma) (hb : DE X W b mb) (hm : behindInMarks op b = false) : DE X W (.Compare a [op] [b] pos) (eOp m ma mb) := by
  obtain ⟨r, ho, hr⟩ := h.ex
  obtain ⟨ta, pa, qa⟩ := ha
  obtain ⟨tb, pb, qb⟩ := hb
  exact ⟨_, pe_cmpR ho pa pb hm, op_rd hr qa qb⟩
theorem dv_bool {D : Hp} {r : List Addr} {v : V} {b : Bool} (h : Dv X.K X.mg D r v (.bool b)) : v = .bl b := by
  cases h
  rfl
/-- a bool's reading as a test -/
theorem test_rd {t : TE} {me : ME} (q : ∀ g sd S σ H Q, WfE X.K X.mg g sd S σ H → PostE X.K X.mg g sd σ W Q (me sd S) → t σ H Q) :
    ∀ g sd S σ H (Q : Bool → Hp → Prop), WfE X.K X.mg g sd S σ H → PostT X.K X.mg g sd σ W Q (me sd S) → t σ H (fun x H1 => ∃ c, x = .bl c ∧ Q c H1) := by
  intro g sd S σ H Q w p
  refine q g sd S σ H _ w ?_
  cases hm : me sd S with
  | ok d S1 =>
    rw [hm] at p
    cases d with
    | bool b => exact fun g' v H' x w' dv => ⟨b, dv_bool dv, p g' H' x w'⟩
    | _ => exact p.elim
  | exc y S1 =>
    rw [hm] at p
    exact p
  | bad =>
    rw [hm] at p
    exact p.elim
theorem dt_cmp {op : CmpOp} (h : OpD X (compareOp op) m) (ha : DE X W a ma) (hb : DE X W b mb) (hm : behindInMarks op b = false) : DT X W (.Compare a [op] [b] pos) (eOp m ma mb) := by
  obtain ⟨r, ho, hr⟩ := h.ex
  obtain ⟨ta, pa, qa⟩ := ha
  obtain ⟨tb, pb, qb⟩ := hb
  exact ⟨_, pt_cmpR ho pa pb hm, test_rd (op_rd hr qa qb)⟩
/-- any expression whose value is a bool, as a test -/
theorem dt_val (ha : DE X W a ma) (he : ∀ whole, isTrue a X.env whole = (do let v ← whole; standAt a.pos; holding [v] (truthy v)) := by intro _; rfl) : DT X W a ma := by
  obtain ⟨ta, pa, qa⟩ := ha
  exact ⟨_, pt_val pa he, test_rd qa⟩
/-! ### truth -/
def truD : PyData → Option Bool
  | .none => some false
  | .bool b => some b
  | .int i => some (i != 0)
  | .str y => if y.length ≤ cap then some ((y.length : Int) != 0) else none
  | .list ds => some !ds.isEmpty
  | .tuple ds => some !ds.isEmpty
  | .dict [(.list ds, .none)] => some !ds.isEmpty
  | _ => none
def eTru (ma : ME) : ME := fun sd S => (ma sd S).bind fun d S1 => R.of S1 ((truD d).map .bool)
theorem DvA.isEmpty {K : PySem.W.Frag} {mg : Str → Option Value} {D : Hp} {r : List Addr} {vs : List V} {ds : List PyData} (h : DvA K mg D r vs ds) : (!ds.isEmpty) = !vs.isEmpty := by
  cases h with
  | nil => rfl
  | cons _ _ => rfl
theorem tru_v {K : PySem.W.Frag} {mg : Str → Option Value} {D H : Hp} {r : List Addr} {v : V} {d : PyData} {b : Bool} (s : Same D H) (h : Dv K mg D r v d) (e : truD d = some b) : TruV K v H b := by
  cases h with
  | non => exact (Option.some.inj e).symm
  | bl _ => exact (Option.some.inj e).symm
  | int _ => exact (Option.some.inj e).symm
  | str y =>
    have e : (if y.length ≤ cap then some ((y.length : Int) != 0) else none) = some b := e
    split at e
    · rename_i hl
      exact ⟨cap_le hl, (Option.some.inj e).symm⟩
    · cases e
  | lst h a =>
    refine .inl ⟨_, .inl (.inl (s _ _ h)), ?_⟩
    rw [← a.isEmpty]
    exact (Option.some.inj e).symm
  | tup h a =>
    refine .inr (.inl ⟨_, Same.tup s h, ?_⟩)
    rw [← a.isEmpty]
    exact (Option.some.inj e).symm
  | frl h a =>
    refine .inl ⟨_, s.seq h, ?_⟩
    rw [← a.isEmpty]
    exact (Option.some.inj e).symm
  | obj h => cases e
  | exn h => cases e
theorem dt_truth (ha : DE X W a ma) (he : ∀ whole, isTrue a X.env whole = (do let v ← whole; standAt a.pos; holding [v] (truthy v)) := by intro _; rfl) : DT X W a (eTru ma) := by
  obtain ⟨ta, pa, qa⟩ := ha
  refine ⟨_, pt_truth pa he, fun g sd S σ H Q w p => ?_⟩
  refine stepET qa w p fun da S1 g1 v1 H1 _ x1 w1 d1 p1 => ?_
  cases ht : truD da with
  | none =>
    rw [ht] at p1
    exact p1.elim
  | some b =>
    rw [ht] at p1
    exact ⟨b, tru_v w1.w.dh d1 ht, p1 g1 H1 (Ext.refl _) w1⟩

/-! ### and, or, not, if -/
def onB (x : PyData) (t f : R) : R := match x with
  | .bool true => t
  | .bool false => f
  | _ => .bad
@[simp] theorem onB_t {t f} : onB (.bool true) t f = t := rfl
@[simp] theorem onB_f {t f} : onB (.bool false) t f = f := rfl
theorem onB_bad {x : PyData} {t f : R} (h : ∀ b, x ≠ .bool b) : onB x t f = .bad := by
  cases x with
  | bool c => exact absurd rfl (h c)
  | _ => rfl
theorem onB_bool {b : Bool} {t f : R} : onB (.bool b) t f = if b = true then t else f := by
  cases b <;> rfl
def onBS (x : PyData) (t f : RS) : RS := match x with
  | .bool true => t
  | .bool false => f
  | _ => .bad
@[simp] theorem onBS_t {t f} : onBS (.bool true) t f = t := rfl
@[simp] theorem onBS_f {t f} : onBS (.bool false) t f = f := rfl
theorem onBS_bad {x : PyData} {t f : RS} (h : ∀ b, x ≠ .bool b) : onBS x t f = .bad := by
  cases x with
  | bool c => exact absurd rfl (h c)
  | _ => rfl
theorem onBS_bool {b : Bool} {t f : RS} : onBS (.bool b) t f = if b = true then t else f := by
  cases b <;> rfl
def eAnd (a b : ME) : ME := fun sd S => (a sd S).bind fun x S1 => onB x (b sd S1) (.ok (.bool false) S1)
def eOr (a b : ME) : ME := fun sd S => (a sd S).bind fun x S1 => onB x (.ok (.bool true) S1) (b sd S1)
def eNot (a : ME) : ME := fun sd S => (a sd S).bind fun x S1 => onB x (.ok (.bool false) S1) (.ok (.bool true) S1)
def eIf (c a b : ME) : ME := fun sd S => (c sd S).bind fun x S1 => onB x (a sd S1) (b sd S1)
variable {rest : List Expr}
theorem de_one {op} (h : DE X W a ma) : DE X W (.BoolOp op [a] pos) ma := by
  obtain ⟨ta, pa, qa⟩ := h
  exact ⟨_, pe_one pa, qa⟩
theorem de_and (ha : DE X W a ma) (hb : DE X W (.BoolOp .And (b :: rest) pos) mb) : DE X W (.BoolOp .And (a :: b :: rest) pos) (eAnd ma mb) := by
  obtain ⟨ta, pa, qa⟩ := ha
  obtain ⟨tb, pb, qb⟩ := hb
  refine ⟨_, pe_and pa pb, fun g sd S σ H Q w p => ?_⟩
  refine stepE qa w p fun da S1 g1 v1 H1 _ x1 w1 d1 p1 => ?_
  cases da with
  | bool c =>
    refine ⟨c, dv_bool d1, ?_⟩
    cases c with
    | true => exact iteT (qb _ _ _ _ _ _ w1 p1)
    | false => exact iteF (p1 g1 _ H1 (Ext.refl _) w1 (.bl false))
  | _ => exact p1.elim
theorem de_or (ha : DE X W a ma) (hb : DE X W (.BoolOp .Or (b :: rest) pos) mb) : DE X W (.BoolOp .Or (a :: b :: rest) pos) (eOr ma mb) := by
  obtain ⟨ta, pa, qa⟩ := ha
  obtain ⟨tb, pb, qb⟩ := hb
  refine ⟨_, pe_or pa pb, fun g sd S σ H Q w p => ?_⟩
  refine stepE qa w p fun da S1 g1 v1 H1 _ x1 w1 d1 p1 => ?_
  cases da with
  | bool c =>
    refine ⟨c, dv_bool d1, ?_⟩
    cases c with
    | false => exact iteF (qb _ _ _ _ _ _ w1 p1)
    | true => exact iteT (p1 g1 _ H1 (Ext.refl _) w1 (.bl true))
  | _ => exact p1.elim
theorem de_not (ha : DE X W a ma) : DE X W (.UnaryOp .Not a pos) (eNot ma) := by
  obtain ⟨ta, pa, qa⟩ := ha
  refine ⟨_, pe_not pa, fun g sd S σ H Q w p => ?_⟩
  refine stepE qa w p fun da S1 g1 v1 H1 _ x1 w1 d1 p1 => ?_
  cases da with
  | bool c =>
    refine ⟨c, dv_bool d1, ?_⟩
    cases c with
    | true => exact p1 g1 _ H1 (Ext.refl _) w1 (.bl _)
    | false => exact p1 g1 _ H1 (Ext.refl _) w1 (.bl _)
  | _ => exact p1.elim
/-- the step of a test -/
theorem stepT {t : TT} {Q : Bool → Hp → Prop} {g : Gh} {sd : Sg} {S : Sto} {σ : L2.St} {H : Hp} {Q' : VK} {f : PyData → Sto → R}
    (ht : ∀ g sd S σ H Q, WfE X.K X.mg g sd S σ H → PostT X.K X.mg g sd σ W Q (ma sd S) → t σ H Q) (w : WfE X.K X.mg g sd S σ H) (p : PostE X.K X.mg g sd σ W Q' ((ma sd S).bind f))
    (hf : ∀ d S1, (∀ b, d ≠ .bool b) → f d S1 = .bad)
    (k : ∀ b S1 g1 H1, Ext g g1 → WfE X.K X.mg g1 sd S1 σ H1 → PostE X.K X.mg g1 sd σ W Q' (f (.bool b) S1) → Q b H1) : t σ H Q := by
  refine ht g sd S σ H Q w ?_
  cases hm : ma sd S with
  | ok d S1 =>
    rw [hm] at p
    have p : PostE X.K X.mg g sd σ W Q' (f d S1) := p
    cases d with
    | bool b => exact fun g' H' x w' => k b S1 g' H' x w' (PostE.ext x p)
    | _ =>
      rw [hf _ _ (by intro b q; cases q)] at p
      exact p.elim
  | exc y S1 =>
    rw [hm] at p
    exact p
  | bad =>
    rw [hm] at p
    exact p.elim
theorem stepTT {t : TT} {Q Q' : Bool → Hp → Prop} {g : Gh} {sd : Sg} {S : Sto} {σ : L2.St} {H : Hp} {f : PyData → Sto → R}
    (ht : ∀ g sd S σ H Q, WfE X.K X.mg g sd S σ H → PostT X.K X.mg g sd σ W Q (ma sd S) → t σ H Q) (w : WfE X.K X.mg g sd S σ H) (p : PostT X.K X.mg g sd σ W Q' ((ma sd S).bind f))
    (hf : ∀ d S1, (∀ b, d ≠ .bool b) → f d S1 = .bad)
    (k : ∀ b S1 g1 H1, Ext g g1 → WfE X.K X.mg g1 sd S1 σ H1 → PostT X.K X.mg g1 sd σ W Q' (f (.bool b) S1) → Q b H1) : t σ H Q := by
  refine ht g sd S σ H Q w ?_
  cases hm : ma sd S with
  | ok d S1 =>
    rw [hm] at p
    have p : PostT X.K X.mg g sd σ W Q' (f d S1) := p
    cases d with
    | bool b => exact fun g' H' x w' => k b S1 g' H' x w' (PostT.ext x p)
    | _ =>
      rw [hf _ _ (by intro b q; cases q)] at p
      exact p.elim
  | exc y S1 =>
    rw [hm] at p
    exact p
  | bad =>
    rw [hm] at p
    exact p.elim
theorem stepTS {t : TT} {Q : Bool → Hp → Prop} {g : Gh} {sd : Sg} {S : Sto} {σ : L2.St} {H : Hp} {D : Ends} {f : PyData → Sto → RS}
    (ht : ∀ g sd S σ H Q, WfE X.K X.mg g sd S σ H → PostT X.K X.mg g sd σ W Q (ma sd S) → t σ H Q) (w : WfE X.K X.mg g sd S σ H) (p : PostS X.K X.mg g W D ((ma sd S).bindS sd f))
    (hf : ∀ d S1, (∀ b, d ≠ .bool b) → f d S1 = .bad)
    (k : ∀ b S1 g1 H1, Ext g g1 → WfE X.K X.mg g1 sd S1 σ H1 → PostS X.K X.mg g1 W D (f (.bool b) S1) → Q b H1) : t σ H Q := by
  refine ht g sd S σ H Q w ?_
  cases hm : ma sd S with
  | ok d S1 =>
    rw [hm] at p
    have p : PostS X.K X.mg g W D (f d S1) := p
    cases d with
    | bool b => exact fun g' H' x w' => k b S1 g' H' x w' (PostS.ext x p)
    | _ =>
      rw [hf _ _ (by intro b q; cases q)] at p
      exact p.elim
  | exc y S1 =>
    rw [hm] at p
    exact fun g' H' x w' => p g' σ H' x w'
  | bad =>
    rw [hm] at p
    exact p.elim
theorem DW.dt {m : ME} (h : DW X W e m) : DT X W e m := by
  obtain ⟨t, pt, q⟩ := h
  exact ⟨t, pt.pt, q⟩
theorem dw_and1 (h : DT X W a ma) : DW X W (.BoolOp .And [a] pos) ma := by
  obtain ⟨t, pt, q⟩ := h
  exact ⟨t, pw_and1 pt, q⟩
theorem dw_or1 (h : DT X W a ma) : DW X W (.BoolOp .Or [a] pos) ma := by
  obtain ⟨t, pt, q⟩ := h
  exact ⟨t, pw_or1 pt, q⟩
theorem dw_and (ha : DT X W a ma) (hb : DW X W (.BoolOp .And (b :: rest) pos) mb) : DW X W (.BoolOp .And (a :: b :: rest) pos) (eAnd ma mb) := by
  obtain ⟨ta, pa, qa⟩ := ha
  obtain ⟨tb, pb, qb⟩ := hb
  refine ⟨_, pw_and pa pb, fun g sd S σ H Q w p => ?_⟩
  show ta σ H fun c H1 => if c = true then tb σ H1 Q else Q false H1
  refine stepTT qa w p (fun _ _ h => onB_bad h) fun c S1 g1 H1 x1 w1 p1 => ?_
  cases c with
  | true => exact iteT (qb _ _ _ _ _ _ w1 p1)
  | false => exact iteF (p1 g1 H1 (Ext.refl _) w1)
theorem dw_or (ha : DT X W a ma) (hb : DW X W (.BoolOp .Or (b :: rest) pos) mb) : DW X W (.BoolOp .Or (a :: b :: rest) pos) (eOr ma mb) := by
  obtain ⟨ta, pa, qa⟩ := ha
  obtain ⟨tb, pb, qb⟩ := hb
  refine ⟨_, pw_or pa pb, fun g sd S σ H Q w p => ?_⟩
  show ta σ H fun c H1 => if c = true then Q true H1 else tb σ H1 Q
  refine stepTT qa w p (fun _ _ h => onB_bad h) fun c S1 g1 H1 x1 w1 p1 => ?_
  cases c with
  | false => exact iteF (qb _ _ _ _ _ _ w1 p1)
  | true => exact iteT (p1 g1 H1 (Ext.refl _) w1)
theorem dt_not (ha : DT X W a ma) : DT X W (.UnaryOp .Not a pos) (eNot ma) := by
  obtain ⟨ta, pa, qa⟩ := ha
  refine ⟨_, pt_not pa, fun g sd S σ H Q w p => ?_⟩
  show ta σ H fun c H1 => Q (!c) H1
  refine stepTT qa w p (fun _ _ h => onB_bad h) fun c S1 g1 H1 x1 w1 p1 => ?_
  cases c with
  | true => exact p1 g1 H1 (Ext.refl _) w1
  | false => exact p1 g1 H1 (Ext.refl _) w1
theorem de_if {c : Expr} (hc : DT X W c mc) (ha : DE X W a ma) (hb : DE X W b mb) : DE X W (.IfExp c a b pos) (eIf mc ma mb) := by
  obtain ⟨tc, pc, qc⟩ := hc
  obtain ⟨ta, pa, qa⟩ := ha
  obtain ⟨tb, pb, qb⟩ := hb
  refine ⟨_, pe_ifExp pc pa pb, fun g sd S σ H Q w p => ?_⟩
  refine stepT qc w p (fun _ _ h => onB_bad h) fun c S1 g1 H1 x1 w1 p1 => ?_
  cases c with
  | true => exact iteT (qa _ _ _ _ _ _ w1 p1)
  | false => exact iteF (qb _ _ _ _ _ _ w1 p1)
/-! ### chains -/
def eChain (m m' : PyData → PyData → Option PyData) (a b c : ME) : ME := fun sd S => (a sd S).bind fun x S1 => (b sd S1).bind fun y S2 => match m x y with
  | some (.bool true) => (c sd S2).bind fun z S3 => R.of S3 (m' y z)
  | some (.bool false) => .ok (.bool false) S2
  | _ => .bad
theorem de_chain {c : Expr} {op op' : CmpOp} {m m' : PyData → PyData → Option PyData} (h : OpD X (compareOp op) m) (h' : OpD X (compareOp op') m') (ha : DE X W a ma) (hb : DE X W b mb) (hc : DE X W c mc)
    (pe : ∀ {r r' : R2} {ta tb tc : TE}, OpR X (compareOp op) r → OpR X (compareOp op') r' → PE X a ta → PE X b tb → PE X c tc → PE X (.Compare a [op, op'] [b, c] pos) (tChain r r' ta tb tc)) : DE X W (.Compare a [op, op'] [b, c] pos) (eChain m m' ma mb mc) := by
  obtain ⟨r, ho, hr⟩ := h.ex
  obtain ⟨r', ho', hr'⟩ := h'.ex
  obtain ⟨ta, pa, qa⟩ := ha
  obtain ⟨tb, pb, qb⟩ := hb
  obtain ⟨tc, pc, qc⟩ := hc
  refine ⟨_, pe ho ho' pa pb pc, fun g sd S σ H Q w p => ?_⟩
  refine stepE qa w p fun da S1 g1 v1 H1 _ x1 w1 d1 p1 => ?_
  refine stepE qb w1 p1 fun db S2 g2 v2 H2 _ x2 w2 d2 p2 => ?_
  have p2' := p2
  cases hm : m da db with
  | none =>
    rw [hm] at p2
    exact p2.elim
  | some dc =>
    rw [hm] at p2
    cases dc with
    | bool k =>
      refine hr g2.D H2 g2.r v1 v2 da db _ _ w2.w.dh (x2.dv d1) d2 hm fun D' v H' G dv => ?_
      refine ⟨k, dv_bool dv, ?_⟩
      have w3 := w2.gro G
      cases k with
      | true =>
        refine iteT ?_
        have p3 : PostE X.K X.mg { g2 with D := D' } sd σ W Q ((mc sd S2).bind fun z S3 => R.of S3 (m' db z)) := PostE.ext G.ext p2
        refine stepE qc w3 p3 fun d4 S4 g4 v4 H4 _ x4 w4 dv4 p4 => ?_
        obtain ⟨d, hd, p5⟩ := of_eq p4
        exact hr' g4.D H4 g4.r v2 v4 db d4 d Q w4.w.dh (x4.dv (G.ext.dv d2)) dv4 hd (post_gro w4 p5)
      | false => exact iteF (p2 { g2 with D := D' } _ H' G.ext w3 (.bl false))
    | _ => exact p2.elim
end
end Bc

/-! Bc2: operators on data; calls; displays. -/
namespace Bc
open PySem PySem.Spec PyProof.Rows L2
section
variable {X : Cx} {W : WW}
/-! ### arithmetic -/
def addD : PyData → PyData → Option PyData
  | .int a, .int b => some (.int (a + b))
  | .list a, .list b => if a.length + b.length ≤ cap then some (.list (a ++ b)) else none
  | .tuple a, .tuple b => if a.length + b.length ≤ cap then some (.tuple (a ++ b)) else none
  | .str a, .str b => if a.length + b.length ≤ cap then some (.str (a ++ b)) else none
  | _, _ => none
def subD : PyData → PyData → Option PyData
  | .int a, .int b => some (.int (a - b))
  | _, _ => none
def mulD : PyData → PyData → Option PyData
  | .int a, .int b => if (-(2 ^ 64) < a ∧ a < 2 ^ 64) ∨ (-(2 ^ 64) < b ∧ b < 2 ^ 64) then some (.int (a * b)) else none
  | .list a, .int b => if (0 ≤ b ∧ b < 1000) ∧ a.length * b.toNat ≤ cap then some (.list (List.replicate b.toNat a).flatten) else none
  | _, _ => none
def fdivD : PyData → PyData → Option PyData
  | .int a, .int b => if 0 < b ∧ b < 1073741824 then some (.int (a / b)) else none
  | _, _ => none
def modD : PyData → PyData → Option PyData
  | .int a, .int b => if 0 < b then some (.int (a % b)) else none
  | _, _ => none
def powD : PyData → PyData → Option PyData
  | .int a, .int b => if 0 ≤ b ∧ b ≤ 1000 ∧ a.natAbs < 2 ^ 64 then some (.int (a ^ b.toNat)) else none
  | _, _ => none
theorem opd_add : OpD X (binaryOp .Add) addD := by
  refine ⟨_, op_add.or (op_cat.or (op_catA.or op_add_str)), ?_⟩
  intro D H ρ x y a b d Q s da db e k
  cases da <;> cases db <;> try (exact nomatch (show (none : Option PyData) = some _ from e))
  case int.int i j =>
    cases (Option.some.inj e)
    exact .inl ⟨_, _, rfl, rfl, k D _ H (Gro.refl s) (.int _)⟩
  case str.str i j =>
    have e : (if i.length + j.length ≤ cap then some (PyData.str (i ++ j)) else none) = some d := e
    split at e
    · rename_i h
      cases (Option.some.inj e)
      exact .inr (.inr (.inr ⟨_, _, rfl, rfl, cap_le h, k D _ H (Gro.refl s) (.str _)⟩))
    · cases e
  case lst.lst a xs ds ha hA b ys es hb hB =>
    have e : (if ds.length + es.length ≤ cap then some (PyData.list (ds ++ es)) else none) = some d := e
    split at e
    · rename_i h
      cases (Option.some.inj e)
      refine .inr (.inl ⟨_, _, _, _, rfl, rfl, s _ _ ha, s _ _ hb, ?_, fun p hp => ?_⟩)
      · rw [hA.length, hB.length]
        exact cap_le h
      · have G := Gro.new (o := .lst (xs ++ ys)) s hp
        exact k _ _ _ G (.lst upd_same ((hA.append hB).mono G.d List.prefix_rfl))
    · cases e
  case tup.tup a xs ds ha hA b ys es hb hB =>
    have e : (if ds.length + es.length ≤ cap then some (PyData.tuple (ds ++ es)) else none) = some d := e
    split at e
    · rename_i h
      cases (Option.some.inj e)
      refine .inr (.inr (.inl ⟨_, _, _, _, rfl, rfl, Same.tup s ha, Same.tup s hb, ?_, fun e1 => ?_, fun e1 e2 => ?_, fun e1 e2 p hp => ?_⟩))
      · rw [hA.length, hB.length]
        exact cap_le h
      · subst e1
        cases hA
        exact k D _ H (Gro.refl s) (.tup hb hB)
      · subst e2
        cases hB
        rw [List.append_nil] at k
        exact k D _ H (Gro.refl s) (.tup ha hA)
      · have G := Gro.new (o := .tup (xs ++ ys)) s hp
        exact k _ _ _ G (.tup (.inl (.inl upd_same)) ((hA.append hB).mono G.d List.prefix_rfl))
    · cases e
theorem opd_sub : OpD X (binaryOp .Sub) subD := by
  refine ⟨_, op_sub, ?_⟩
  intro D H ρ x y a b d Q s da db e k
  cases da <;> cases db <;> try (exact nomatch (show (none : Option PyData) = some _ from e))
  case int.int i j =>
    cases (Option.some.inj e)
    exact ⟨_, _, rfl, rfl, k D _ H (Gro.refl s) (.int _)⟩
theorem opd_mul : OpD X (binaryOp .Mult) mulD := by
  refine ⟨_, op_mul.or op_rep, ?_⟩
  intro D H ρ x y a b d Q s da db e k
  cases da <;> cases db <;> try (exact nomatch (show (none : Option PyData) = some _ from e))
  case int.int i j =>
    have e : (if (-(2 ^ 64) < i ∧ i < 2 ^ 64) ∨ (-(2 ^ 64) < j ∧ j < 2 ^ 64) then some (PyData.int (i * j)) else none) = some d := e
    split at e
    · rename_i h
      cases (Option.some.inj e)
      exact .inl ⟨_, _, rfl, rfl, h, k D _ H (Gro.refl s) (.int _)⟩
    · cases e
  case lst.int a xs ds ha hA j =>
    have e : (if (0 ≤ j ∧ j < 1000) ∧ ds.length * j.toNat ≤ cap then some (PyData.list (List.replicate j.toNat ds).flatten) else none) = some d := e
    split at e
    · rename_i h
      cases (Option.some.inj e)
      refine .inr ⟨_, _, _, rfl, rfl, s _ _ ha, by omega, by omega, ?_, fun p hp => ?_⟩
      · rw [hA.length]
        exact cap_le h.2
      · have G := Gro.new (o := .lst (List.replicate j.toNat xs).flatten) s hp
        exact k _ _ _ G (.lst upd_same ((hA.flat _).mono G.d List.prefix_rfl))
    · cases e
theorem opd_fdiv : OpD X (binaryOp .FloorDiv) fdivD := by
  refine ⟨_, op_fdiv, ?_⟩
  intro D H ρ x y a b d Q s da db e k
  cases da <;> cases db <;> try (exact nomatch (show (none : Option PyData) = some _ from e))
  case int.int i j =>
    have e : (if 0 < j ∧ j < 1073741824 then some (PyData.int (i / j)) else none) = some d := e
    split at e
    · rename_i h
      cases (Option.some.inj e)
      exact ⟨_, _, rfl, rfl, h, k D _ H (Gro.refl s) (.int _)⟩
    · cases e
theorem opd_mod : OpD X (binaryOp .Mod) modD := by
  refine ⟨_, op_mod, ?_⟩
  intro D H ρ x y a b d Q s da db e k
  cases da <;> cases db <;> try (exact nomatch (show (none : Option PyData) = some _ from e))
  case int.int i j =>
    have e : (if 0 < j then some (PyData.int (i % j)) else none) = some d := e
    split at e
    · rename_i h
      cases (Option.some.inj e)
      exact ⟨_, _, rfl, rfl, h, k D _ H (Gro.refl s) (.int _)⟩
    · cases e
theorem opd_pow : OpD X (binaryOp .Pow) powD := by
  refine ⟨_, op_pow, ?_⟩
  intro D H ρ x y a b d Q s da db e k
  cases da <;> cases db <;> try (exact nomatch (show (none : Option PyData) = some _ from e))
  case int.int i j =>
    have e : (if 0 ≤ j ∧ j ≤ 1000 ∧ i.natAbs < 2 ^ 64 then some (PyData.int (i ^ j.toNat)) else none) = some d := e
    split at e
    · rename_i h
      cases (Option.some.inj e)
      exact ⟨_, _, rfl, rfl, ⟨h.1, by omega, h.2.2⟩, k D _ H (Gro.refl s) (.int _)⟩
    · cases e
/-! ### comparisons -/
def intsOf : List PyData → Option (List Int)
  | [] => some []
  | .int i :: r => (intsOf r).map (i :: ·)
  | _ => none
theorem intsOf_some : ∀ {ds : List PyData} {ns : List Int}, intsOf ds = some ns → ds = ns.map .int
  | [], ns, h => by
    cases (Option.some.inj (show some [] = some ns from h))
    rfl
  | .int i :: r, ns, h => by
    cases q : intsOf r with
    | none =>
      rw [show intsOf (.int i :: r) = (intsOf r).map (i :: ·) from rfl, q] at h
      cases h
    | some ms =>
      rw [show intsOf (.int i :: r) = (intsOf r).map (i :: ·) from rfl, q] at h
      cases (Option.some.inj h)
      rw [intsOf_some q]
      rfl
  | .none :: _, _, h => nomatch h
  | .bool _ :: _, _, h => nomatch h
  | .str _ :: _, _, h => nomatch h
  | .list _ :: _, _, h => nomatch h
  | .tuple _ :: _, _, h => nomatch h
  | .dict _ :: _, _, h => nomatch h
@[simp] theorem intsOf_map : ∀ ns : List Int, intsOf (ns.map .int) = some ns
  | [] => rfl
  | n :: ns => by
    show (intsOf (ns.map .int)).map (n :: ·) = _
    rw [intsOf_map ns]
    rfl
def ltD : PyData → PyData → Option PyData
  | .int a, .int b => some (.bool (decide (a < b)))
  | .tuple a, .tuple b => match intsOf a, intsOf b with
    | some ns, some ms => some (.bool (HT.lexLt ns ms))
    | _, _ => none
  | _, _ => none
def leD : PyData → PyData → Option PyData
  | .int a, .int b => some (.bool (decide (a ≤ b)))
  | _, _ => none
def gtD : PyData → PyData → Option PyData
  | .int a, .int b => some (.bool (decide (b < a)))
  | _, _ => none
def geD : PyData → PyData → Option PyData
  | .int a, .int b => some (.bool (decide (b ≤ a)))
  | _, _ => none
def eqD (a b : PyData) : Option PyData := if SeqAt.shaped a = true ∧ SeqAt.shaped b = true then some (.bool (PyData.eqv a b)) else none
def neD (a b : PyData) : Option PyData := if SeqAt.shaped a = true ∧ SeqAt.shaped b = true then some (.bool !(PyData.eqv a b)) else none
theorem opd_lt (hu : X.A.units < cLine) : OpD X (compareOp .Lt) ltD := by
  refine ⟨_, op_lt.or (op_ltT hu), ?_⟩
  intro D H ρ x y a b d Q s da db e k
  cases da <;> cases db <;> try (exact nomatch (show (none : Option PyData) = some _ from e))
  case int.int i j =>
    cases (Option.some.inj e)
    exact .inl ⟨_, _, rfl, rfl, k D _ H (Gro.refl s) (.bl _)⟩
  case tup.tup a xs ds ha hA b ys es hb hB =>
    have e : (match intsOf ds, intsOf es with | some ns, some ms => some (PyData.bool (HT.lexLt ns ms)) | _, _ => none) = some d := e
    split at e
    · rename_i ns ms h1 h2
      cases (Option.some.inj e)
      have e1 := intsOf_some h1
      have e2 := intsOf_some h2
      subst e1 e2
      rw [hA.ints_inv] at ha
      rw [hB.ints_inv] at hb
      exact .inr ⟨_, _, _, _, rfl, rfl, Same.tup s ha, Same.tup s hb, k D _ H (Gro.refl s) (.bl _)⟩
    · cases e
theorem opd_le : OpD X (compareOp .LtE) leD := by
  refine ⟨_, op_le, ?_⟩
  intro D H ρ x y a b d Q s da db e k
  cases da <;> cases db <;> try (exact nomatch (show (none : Option PyData) = some _ from e))
  case int.int i j =>
    cases (Option.some.inj e)
    exact ⟨_, _, rfl, rfl, k D _ H (Gro.refl s) (.bl _)⟩
theorem opd_gt : OpD X (compareOp .Gt) gtD := by
  refine ⟨_, op_gt, ?_⟩
  intro D H ρ x y a b d Q s da db e k
  cases da <;> cases db <;> try (exact nomatch (show (none : Option PyData) = some _ from e))
  case int.int i j =>
    cases (Option.some.inj e)
    exact ⟨_, _, rfl, rfl, k D _ H (Gro.refl s) (.bl _)⟩
theorem opd_ge : OpD X (compareOp .GtE) geD := by
  refine ⟨_, op_ge, ?_⟩
  intro D H ρ x y a b d Q s da db e k
  cases da <;> cases db <;> try (exact nomatch (show (none : Option PyData) = some _ from e))
  case int.int i j =>
    cases (Option.some.inj e)
    exact ⟨_, _, rfl, rfl, k D _ H (Gro.refl s) (.bl _)⟩
end
section
variable {K : PySem.W.Frag} {mg : Str → Option Value} {D H : Hp} {ρ : List Addr}
mutual
theorem Dv.dp (s : Same D H) : ∀ {v : V} {d : PyData}, Dv K mg D ρ v d → d.canLay0 = true → Dp K H v d
  | _, _, .non, _ => .non
  | _, _, .bl b, _ => .bl b
  | _, _, .int i, _ => .int i
  | _, _, .str x, _ => .str x
  | _, _, .lst h a, e => .lst (.inl (.inl (s _ _ h))) (DvA.dp s a (by simpa [PyData.canLay0] using e))
  | _, _, .tup h a, e => .tup (Same.tup s h) (DvA.dp s a (by simpa [PyData.canLay0] using e))
  | _, _, .frl h a, e => by simp [PyData.canLay0] at e
  | _, _, .obj h, e => by simp [PyData.canLay0] at e
  | _, _, .exn h, e => by simp [PyData.canLay0] at e
theorem DvA.dp (s : Same D H) : ∀ {v : List V} {d : List PyData}, DvA K mg D ρ v d → PyData.canLayAll0 d = true → DpAll K H v d
  | _, _, .nil, _ => .nil
  | _, _, .cons a b, e => by
    simp only [PyData.canLayAll0, Bool.and_eq_true] at e
    exact .cons (Dv.dp s a e.1) (DvA.dp s b e.2)
end
end
section
variable {X : Cx} {W : WW}
theorem opd_eq (hu : X.A.units + 64 < cLine) : OpD X (compareOp .Eq) eqD := by
  refine ⟨_, op_eqD hu, ?_⟩
  intro D H ρ x y a b d Q s da db e k
  unfold eqD at e
  split at e
  · rename_i h
    cases (Option.some.inj e)
    exact ⟨a, b, da.dp s (SeqAt.canLay_of_shaped h.1), db.dp s (SeqAt.canLay_of_shaped h.2), h.1, h.2, k D _ H (Gro.refl s) (.bl _)⟩
  · cases e
theorem opd_ne (hu : X.A.units + 64 < cLine) : OpD X (compareOp .NotEq) neD := by
  refine ⟨_, op_neD hu, ?_⟩
  intro D H ρ x y a b d Q s da db e k
  unfold neD at e
  split at e
  · rename_i h
    cases (Option.some.inj e)
    exact ⟨a, b, da.dp s (SeqAt.canLay_of_shaped h.1), db.dp s (SeqAt.canLay_of_shaped h.2), h.1, h.2, k D _ H (Gro.refl s) (.bl _)⟩
  · cases e
/-- is None, is not None -/
def isNo : PyData → Bool
  | .none => true
  | _ => false
def isND (a b : PyData) : Option PyData := match b with
  | .none => some (.bool (isNo a))
  | _ => none
def notND (a b : PyData) : Option PyData := match b with
  | .none => some (.bool !(isNo a))
  | _ => none
theorem dv_none {K : PySem.W.Frag} {mg : Str → Option Value} {D : Hp} {r : List Addr} {v : V} {d : PyData} (h : Dv K mg D r v d) : decide (v = .non) = isNo d := by
  cases h <;> rfl
theorem opd_isN : OpD X (compareOp .Is) isND := by
  refine ⟨_, op_isN, ?_⟩
  intro D H ρ x y a b d Q s da db e k
  unfold isND at e
  split at e
  · cases (Option.some.inj e)
    cases db
    refine ⟨rfl, ?_⟩
    rw [dv_none da]
    exact k D _ H (Gro.refl s) (.bl _)
  · cases e
theorem opd_notN : OpD X (compareOp .IsNot) notND := by
  refine ⟨_, op_notN, ?_⟩
  intro D H ρ x y a b d Q s da db e k
  unfold notND at e
  split at e
  · cases (Option.some.inj e)
    cases db
    refine ⟨rfl, ?_⟩
    rw [dv_none da]
    exact k D _ H (Gro.refl s) (.bl _)
  · cases e
/-! ### unary minus -/
def eNeg (ma : ME) : ME := fun sd S => (ma sd S).bind fun d S1 => match d with
  | .int i => .ok (.int (-i)) S1
  | _ => .bad
theorem de_neg {a : Expr} {ma : ME} {pos : Pos} (ha : DE X W a ma) : DE X W (.UnaryOp .USub a pos) (eNeg ma) := by
  obtain ⟨ta, pa, qa⟩ := ha
  refine ⟨_, pe_un un_neg pa, fun g sd S σ H Q w p => ?_⟩
  refine stepE qa w p fun da S1 g1 v1 H1 _ x1 w1 d1 p1 => ?_
  cases d1 with
  | int i => exact ⟨i, rfl, p1 g1 _ H1 (Ext.refl _) w1 (.int _)⟩
  | _ => exact p1.elim
/-! ### arguments -/
def aNil : MA := fun _ S => .ok [] S
def aCons (m : ME) (r : MA) : MA := fun sd S => (m sd S).bindL fun d S1 => (r sd S1).bindL fun ds S2 => .ok (d :: ds) S2
theorem da_nil : DA X W [] aNil := ⟨_, pa_nil, fun g sd S σ H Q w p => p g [] H (Ext.refl _) w .nil⟩
theorem da_cons {e : Expr} {es : List Expr} {m : ME} {ms : MA} (he : DE X W e m) (hr : DA X W es ms) (hs : starEach (e :: es) X.env = (false, eval e X.env) :: starEach es X.env := by rfl) : DA X W (e :: es) (aCons m ms) := by
  obtain ⟨te, pe, qe⟩ := he
  obtain ⟨tr, pr, qr⟩ := hr
  refine ⟨_, pa_cons pe pr hs, fun g sd S σ H Q w p => ?_⟩
  refine stepEL qe w p fun d1 S1 g1 v1 H1 _ x1 w1 dv1 p1 => ?_
  refine stepAL qr w1 p1 fun d2 S2 g2 v2 H2 _ x2 w2 dv2 p2 => ?_
  exact p2 g2 _ H2 (Ext.refl _) w2 (.cons (x2.dv dv1) dv2)
/-! ### displays -/
def eTup (ma : MA) : ME := fun sd S => (ma sd S).bind fun ds S1 => if ds.length ≤ cap then .ok (.tuple ds) S1 else .bad
def eLst (ma : MA) : ME := fun sd S => (ma sd S).bind fun ds S1 => if ds.length ≤ cap then .ok (.list ds) S1 else .bad
theorem de_tup {es : List Expr} {ma : MA} {x1 pos} (ha : DA X W es ma) : DE X W (.Tuple es x1 pos) (eTup ma) := by
  obtain ⟨ta, pa, qa⟩ := ha
  refine ⟨_, pe_tup pa, fun g sd S σ H Q w p => ?_⟩
  refine stepA qa w p fun d1 S1 g1 v1 H1 _ x1 w1 dv1 p1 => ?_
  split at p1
  · rename_i h
    refine ⟨by rw [dv1.length]; exact cap_le h, fun q hq => ?_⟩
    have G := Gro.new (o := .tup v1) w1.w.dh hq
    exact post_gro w1 p1 _ _ _ G (.tup (.inl (.inl upd_same)) (dv1.mono G.d List.prefix_rfl))
  · exact p1.elim
theorem de_lst {es : List Expr} {ma : MA} {pos} (ha : DA X W es ma) : DE X W (.List es pos) (eLst ma) := by
  obtain ⟨ta, pa, qa⟩ := ha
  refine ⟨_, pe_lst pa, fun g sd S σ H Q w p => ?_⟩
  refine stepA qa w p fun d1 S1 g1 v1 H1 _ x1 w1 dv1 p1 => ?_
  split at p1
  · rename_i h
    refine ⟨by rw [dv1.length]; exact cap_le h, fun q hq => ?_⟩
    have G := Gro.new (o := .lst v1) w1.w.dh hq
    exact post_gro w1 p1 _ _ _ G (.lst upd_same (dv1.mono G.d List.prefix_rfl))
  · exact p1.elim
/-! ### items -/
def itemD : PyData → PyData → Option PyData
  | .list ds, .int i => atI ds i
  | .tuple ds, .int i => atI ds i
  | .dict [(.list ds, .none)], .int i => atI ds i
  | _, _ => none
theorem DvA.atI {K : PySem.W.Frag} {mg : Str → Option Value} {D : Hp} {r : List Addr} {vs : List V} {ds : List PyData} {i : Int} {d : PyData} (h : DvA K mg D r vs ds) (e : atI ds i = some d) : ∃ v, L2.atI vs i = some v ∧ Dv K mg D r v d := by
  unfold L2.atI at e ⊢
  rw [h.length]
  cases q : ixN ds.length i with
  | none =>
    rw [q] at e
    cases e
  | some j =>
    rw [q] at e
    exact h.get' e
theorem de_ix {a b : Expr} {ma mb : ME} {pos : Pos} (ha : DE X W a ma) (hb : DE X W b mb) (hs : PlainIx b := by exact fun _ _ => rfl) : DE X W (.Subscript a b pos) (eOp itemD ma mb) := by
  obtain ⟨ta, pa, qa⟩ := ha
  obtain ⟨tb, pb, qb⟩ := hb
  refine ⟨_, pe_ix (ix_list.or ix_tup) pa pb hs, op_rd ?_ qa qb⟩
  intro D H ρ x y a b d Q s da db e k
  cases da <;> cases db <;> try (exact nomatch (show (none : Option PyData) = some _ from e))
  case lst.int a xs ds ha hA j =>
    obtain ⟨v, h1, h2⟩ := hA.atI e
    exact .inl ⟨_, _, _, _, rfl, rfl, .inl (.inl (s _ _ ha)), h1, k D _ H (Gro.refl s) h2⟩
  case tup.int a xs ds ha hA j =>
    obtain ⟨v, h1, h2⟩ := hA.atI e
    exact .inr ⟨_, _, _, _, rfl, rfl, Same.tup s ha, h1, k D _ H (Gro.refl s) h2⟩
  case frl.int a xs ds ha hA j =>
    obtain ⟨v, h1, h2⟩ := hA.atI e
    exact .inl ⟨_, _, _, _, rfl, rfl, s.seq ha, h1, k D _ H (Gro.refl s) h2⟩
/-! ### built-in calls -/
structure CallD (X : Cx) (f : Value) (m : List PyData → Option PyData) : Prop where
  ex : ∃ r, CallR X f r ∧ ∀ (D H : Hp) (ρ : List Addr) (xs : List V) (ds : List PyData) (d : PyData) (Q : VK), Same D H → DvA X.K X.mg D ρ xs ds → m ds = some d →
    (∀ D' v H', Gro D H D' H' → Dv X.K X.mg D' ρ v d → Q v H') → r xs H Q
def eB (m : List PyData → Option PyData) (ma : MA) : ME := fun sd S => (ma sd S).bind fun ds S1 => R.of S1 (m ds)
theorem call_rd {m : List PyData → Option PyData} {r : List V → Hp → VK → Prop} (hr : ∀ (D H : Hp) (ρ : List Addr) (xs : List V) (ds : List PyData) (d : PyData) (Q : VK), Same D H → DvA X.K X.mg D ρ xs ds → m ds = some d →
    (∀ D' v H', Gro D H D' H' → Dv X.K X.mg D' ρ v d → Q v H') → r xs H Q) {ta : TA} {ma : MA}
    (qa : ∀ g sd S σ H Q, WfE X.K X.mg g sd S σ H → PostA X.K X.mg g sd σ W Q (ma sd S) → ta σ H Q) :
    ∀ g sd S σ H Q, WfE X.K X.mg g sd S σ H → PostE X.K X.mg g sd σ W Q (eB m ma sd S) → tCB r ta σ H Q := by
  intro g sd S σ H Q w p
  refine stepA qa w p fun d1 S1 g1 v1 H1 _ x1 w1 dv1 p1 => ?_
  obtain ⟨d, hd, p3⟩ := of_eq p1
  exact hr g1.D H1 g1.r v1 d1 d Q w1.w.dh dv1 hd (post_gro w1 p3)
theorem de_callB {x : Str} {id : String} {m : List PyData → Option PyData} {e : Expr} {es : List Expr} {ma : MA} {p pos : Pos} (c : CallD X (.builtin id) m) (hm : X.mg x = none) (hv : bootBuiltins x = some (.builtin id)) (ha : DA X W (e :: es) ma)
    (pe : ∀ {r : List V → Hp → VK → Prop} {t : TA}, CallR X (.builtin id) r → PA X (e :: es) t → PE X (.Call (.Name x p) (e :: es) [] pos) (tCB r t)) : DE X W (.Call (.Name x p) (e :: es) [] pos) (eB m ma) := by
  obtain ⟨r, hc, hr⟩ := c.ex
  obtain ⟨ta, pa, qa⟩ := ha
  exact ⟨_, pe hc pa, call_rd hr qa⟩
theorem de_callTy {x : Str} {T : String} {m : List PyData → Option PyData} {e : Expr} {es : List Expr} {ma : MA} {p pos : Pos} (c : CallD X (.type T) m) (hm : X.mg x = none) (hv : bootBuiltins x = some (.type T)) (ha : DA X W (e :: es) ma)
    (pe : ∀ {r : List V → Hp → VK → Prop} {t : TA}, CallR X (.type T) r → PA X (e :: es) t → PE X (.Call (.Name x p) (e :: es) [] pos) (tCB r t)) : DE X W (.Call (.Name x p) (e :: es) [] pos) (eB m ma) := by
  obtain ⟨r, hc, hr⟩ := c.ex
  obtain ⟨ta, pa, qa⟩ := ha
  exact ⟨_, pe hc pa, call_rd hr qa⟩
def lenD : List PyData → Option PyData
  | [.list ds] => some (.int ds.length)
  | [.tuple ds] => some (.int ds.length)
  | [.dict [(.list ds, .none)]] => some (.int ds.length)
  | [.str x] => if x.length ≤ cap then some (.int x.length) else none
  | _ => none
theorem cd_len : CallD X (.builtin "len") lenD := by
  refine ⟨_, call_len, ?_⟩
  intro D H ρ xs ds d Q s da e k
  cases da with
  | nil => exact nomatch e
  | cons a b =>
    cases b with
    | cons _ _ => cases a <;> exact nomatch e
    | nil =>
      cases a <;> try (exact nomatch (show (none : Option PyData) = some _ from e))
      case str x =>
        have e : (if x.length ≤ cap then some (PyData.int x.length) else none) = some d := e
        split at e
        · rename_i h
          cases (Option.some.inj e)
          exact ⟨_, _, rfl, ⟨cap_le h, rfl⟩, k D _ H (Gro.refl s) (.int _)⟩
        · cases e
      case lst a xs ds ha hA =>
        cases (Option.some.inj e)
        exact ⟨_, ds.length, rfl, .inl ⟨xs, .inl (.inl (s _ _ ha)), hA.length.symm⟩, k D _ H (Gro.refl s) (.int _)⟩
      case tup a xs ds ha hA =>
        cases (Option.some.inj e)
        exact ⟨_, ds.length, rfl, .inr ⟨xs, Same.tup s ha, hA.length.symm⟩, k D _ H (Gro.refl s) (.int _)⟩
      case frl a xs ds ha hA =>
        cases (Option.some.inj e)
        exact ⟨_, ds.length, rfl, .inl ⟨xs, s.seq ha, hA.length.symm⟩, k D _ H (Gro.refl s) (.int _)⟩
def boolsOf : List PyData → Option (List Bool)
  | [] => some []
  | .bool i :: r => (boolsOf r).map (i :: ·)
  | _ => none
theorem boolsOf_some : ∀ {ds : List PyData} {ns : List Bool}, boolsOf ds = some ns → ds = ns.map .bool
  | [], ns, h => by
    cases (Option.some.inj (show some [] = some ns from h))
    rfl
  | .bool i :: r, ns, h => by
    cases q : boolsOf r with
    | none =>
      rw [show boolsOf (.bool i :: r) = (boolsOf r).map (i :: ·) from rfl, q] at h
      cases h
    | some ms =>
      rw [show boolsOf (.bool i :: r) = (boolsOf r).map (i :: ·) from rfl, q] at h
      cases (Option.some.inj h)
      rw [boolsOf_some q]
      rfl
  | .none :: _, _, h => nomatch h
  | .int _ :: _, _, h => nomatch h
  | .str _ :: _, _, h => nomatch h
  | .list _ :: _, _, h => nomatch h
  | .tuple _ :: _, _, h => nomatch h
  | .dict _ :: _, _, h => nomatch h
@[simp] theorem boolsOf_map : ∀ ns : List Bool, boolsOf (ns.map .bool) = some ns
  | [] => rfl
  | n :: ns => by
    show (boolsOf (ns.map .bool)).map (n :: ·) = _
    rw [boolsOf_map ns]
    rfl
def allD : List PyData → Option PyData
  | [.list ds] => (boolsOf ds).map fun bs => .bool (bs.all id)
  | _ => none
def anyD : List PyData → Option PyData
  | [.list ds] => (boolsOf ds).map fun bs => .bool (bs.any id)
  | _ => none
/-- one list, direct -/
theorem one_list {D : Hp} {ρ : List Addr} {xs : List V} {ds : List PyData} (h : DvA X.K X.mg D ρ xs [.list ds]) : ∃ a vs, xs = [.ref a] ∧ D a = some (.lst vs) ∧ DvA X.K X.mg D ρ vs ds := by
  cases h with
  | cons a b =>
    cases b
    cases a with
    | lst h1 h2 => exact ⟨_, _, rfl, h1, h2⟩
theorem cd_all (hc : X.calm = true) : CallD X (.builtin "all") allD := by
  refine ⟨_, cr_all hc, ?_⟩
  intro D H ρ xs ds d Q s da e k
  unfold allD at e
  split at e
  · rename_i es
    obtain ⟨a, vs, rfl, h1, h2⟩ := one_list da
    cases q : boolsOf es with
    | none =>
      rw [q] at e
      cases e
    | some bs =>
      rw [q] at e
      cases (Option.some.inj e)
      rw [boolsOf_some q] at h2
      rw [h2.bools_inv] at h1
      exact ⟨_, _, rfl, .inl (.inl (s _ _ h1)), k D _ H (Gro.refl s) (.bl _)⟩
  · cases e
theorem cd_any (hc : X.calm = true) : CallD X (.builtin "any") anyD := by
  refine ⟨_, cr_any hc, ?_⟩
  intro D H ρ xs ds d Q s da e k
  unfold anyD at e
  split at e
  · rename_i es
    obtain ⟨a, vs, rfl, h1, h2⟩ := one_list da
    cases q : boolsOf es with
    | none =>
      rw [q] at e
      cases e
    | some bs =>
      rw [q] at e
      cases (Option.some.inj e)
      rw [boolsOf_some q] at h2
      rw [h2.bools_inv] at h1
      exact ⟨_, _, rfl, .inl (.inl (s _ _ h1)), k D _ H (Gro.refl s) (.bl _)⟩
  · cases e
def sumD : List PyData → Option PyData
  | [.list ds] => (intsOf ds).map fun ns => .int ns.sum
  | _ => none
theorem cd_sum (hc : X.calm = true) : CallD X (.builtin "sum") sumD := by
  refine ⟨_, cr_sum hc, ?_⟩
  intro D H ρ xs ds d Q s da e k
  unfold sumD at e
  split at e
  · rename_i es
    obtain ⟨a, vs, rfl, h1, h2⟩ := one_list da
    cases q : intsOf es with
    | none =>
      rw [q] at e
      cases e
    | some bs =>
      rw [q] at e
      cases (Option.some.inj e)
      rw [intsOf_some q] at h2
      rw [h2.ints_inv] at h1
      exact ⟨_, _, rfl, .inl (.inl (s _ _ h1)), k D _ H (Gro.refl s) (.int _)⟩
  · cases e
/-- the least, the greatest -/
def minL : List Int → Int
  | [] => 0
  | [a] => a
  | a :: b :: r => min a (minL (b :: r))
def maxL : List Int → Int
  | [] => 0
  | [a] => a
  | a :: b :: r => max a (maxL (b :: r))
theorem minL_mem : ∀ {ns : List Int} {m : Int}, m ∈ ns → (∀ y ∈ ns, m ≤ y) → m = minL ns
  | [a], m, h, _ => by
    simp at h
    exact h
  | a :: b :: r, m, h, hy => by
    have ih := @minL_mem (b :: r)
    show m = min a (minL (b :: r))
    have hm : minL (b :: r) ∈ b :: r := by
      clear hy h ih m
      induction r generalizing b with
      | nil => simp [minL]
      | cons c r ih =>
        show min b (minL (c :: r)) ∈ b :: c :: r
        have := ih c
        rcases Int.le_total b (minL (c :: r)) with q | q
        · rw [Int.min_eq_left q]
          exact List.mem_cons_self
        · rw [Int.min_eq_right q]
          exact List.mem_cons_of_mem _ this
    have h1 := hy a List.mem_cons_self
    have h2 := hy _ (List.mem_cons_of_mem _ hm)
    rcases List.mem_cons.mp h with q | q
    · subst q
      omega
    · have h3 := ih q fun y hq => hy y (List.mem_cons_of_mem _ hq)
      omega
theorem maxL_mem : ∀ {ns : List Int} {m : Int}, m ∈ ns → (∀ y ∈ ns, y ≤ m) → m = maxL ns
  | [a], m, h, _ => by
    simp at h
    exact h
  | a :: b :: r, m, h, hy => by
    have ih := @maxL_mem (b :: r)
    show m = max a (maxL (b :: r))
    have hm : maxL (b :: r) ∈ b :: r := by
      clear hy h ih m
      induction r generalizing b with
      | nil => simp [maxL]
      | cons c r ih =>
        show max b (maxL (c :: r)) ∈ b :: c :: r
        have := ih c
        rcases Int.le_total b (maxL (c :: r)) with q | q
        · rw [Int.max_eq_right q]
          exact List.mem_cons_of_mem _ this
        · rw [Int.max_eq_left q]
          exact List.mem_cons_self
    have h1 := hy a List.mem_cons_self
    have h2 := hy _ (List.mem_cons_of_mem _ hm)
    rcases List.mem_cons.mp h with q | q
    · subst q
      omega
    · have h3 := ih q fun y hq => hy y (List.mem_cons_of_mem _ hq)
      omega
def minD : List PyData → Option PyData
  | [.list ds] => match intsOf ds with
    | some ns => if 0 < ns.length then some (.int (minL ns)) else none
    | none => none
  | [.int a, .int b] => some (.int (if b < a then b else a))
  | _ => none
def maxD : List PyData → Option PyData
  | [.list ds] => match intsOf ds with
    | some ns => if 0 < ns.length then some (.int (maxL ns)) else none
    | none => none
  | [.int a, .int b] => some (.int (if b > a then b else a))
  | _ => none
theorem CallR.or {f : Value} {r r' : List V → Hp → VK → Prop} (h : CallR X f r) (h' : CallR X f r') : CallR X f (fun x H Q => r x H Q ∨ r' x H Q) := by
  intro pins s σ H xs us Q I rx q
  rcases q with q | q
  · exact h pins s σ H xs us Q I rx q
  · exact h' pins s σ H xs us Q I rx q
theorem two_ints {D : Hp} {ρ : List Addr} {xs : List V} {a b : Int} (h : DvA X.K X.mg D ρ xs [.int a, .int b]) : xs = [.int a, .int b] := by
  cases h with
  | cons h1 h2 =>
    cases h2 with
    | cons h2 h3 =>
      cases h3
      cases h1
      cases h2
      rfl
theorem cd_min (hc : X.calm = true) : CallD X (.builtin "min") minD := by
  refine ⟨_, CallR.or (cr_min hc) (call_min2 hc), ?_⟩
  intro D H ρ xs ds d Q s da e k
  unfold minD at e
  split at e
  · rename_i es
    obtain ⟨a, vs, rfl, h1, h2⟩ := one_list da
    split at e
    · rename_i ns q
      split at e
      · rename_i hl
        cases (Option.some.inj e)
        rw [intsOf_some q] at h2
        rw [h2.ints_inv] at h1
        refine .inl ⟨_, _, rfl, .inl (.inl (s _ _ h1)), hl, fun m h3 h4 => ?_⟩
        rw [minL_mem h3 h4]
        exact k D _ H (Gro.refl s) (.int _)
      · cases e
    · cases e
  · rename_i a b
    cases (Option.some.inj e)
    have := two_ints da
    subst this
    exact .inr ⟨_, _, rfl, k D _ H (Gro.refl s) (.int _)⟩
  · cases e
theorem cd_max (hc : X.calm = true) : CallD X (.builtin "max") maxD := by
  refine ⟨_, CallR.or (cr_max hc) (call_max2 hc), ?_⟩
  intro D H ρ xs ds d Q s da e k
  unfold maxD at e
  split at e
  · rename_i es
    obtain ⟨a, vs, rfl, h1, h2⟩ := one_list da
    split at e
    · rename_i ns q
      split at e
      · rename_i hl
        cases (Option.some.inj e)
        rw [intsOf_some q] at h2
        rw [h2.ints_inv] at h1
        refine .inl ⟨_, _, rfl, .inl (.inl (s _ _ h1)), hl, fun m h3 h4 => ?_⟩
        rw [maxL_mem h3 h4]
        exact k D _ H (Gro.refl s) (.int _)
      · cases e
    · cases e
  · rename_i a b
    cases (Option.some.inj e)
    have := two_ints da
    subst this
    exact .inr ⟨_, _, rfl, k D _ H (Gro.refl s) (.int _)⟩
  · cases e
def absD : List PyData → Option PyData
  | [.int a] => some (.int (if a < 0 then -a else a))
  | _ => none
theorem cd_abs : CallD X (.builtin "abs") absD := by
  refine ⟨_, call_abs, ?_⟩
  intro D H ρ xs ds d Q s da e k
  unfold absD at e
  split at e
  · rename_i a
    cases (Option.some.inj e)
    cases da with
    | cons h1 h2 =>
      cases h2
      cases h1
      exact ⟨_, rfl, k D _ H (Gro.refl s) (.int _)⟩
  · cases e
/-! sorted of whole numbers -/
def insertI (a : Int) : List Int → List Int
  | [] => [a]
  | b :: r => if a ≤ b then a :: b :: r else b :: insertI a r
def sortI : List Int → List Int
  | [] => []
  | a :: r => insertI a (sortI r)
theorem insertI_perm (a : Int) : ∀ l : List Int, (insertI a l).Perm (a :: l)
  | [] => List.Perm.refl _
  | b :: r => by
    unfold insertI
    split
    · exact List.Perm.refl _
    · exact ((insertI_perm a r).cons b).trans (List.Perm.swap a b r)
theorem sortI_perm : ∀ l : List Int, (sortI l).Perm l
  | [] => List.Perm.refl _
  | a :: r => (insertI_perm a (sortI r)).trans ((sortI_perm r).cons a)
theorem insertI_sorted (a : Int) : ∀ {l : List Int}, l.Pairwise (· ≤ ·) → (insertI a l).Pairwise (· ≤ ·)
  | [], _ => by simp [insertI]
  | b :: r, h => by
    have h' := List.pairwise_cons.mp h
    unfold insertI
    split
    · rename_i hab
      refine List.pairwise_cons.mpr ⟨fun x hx => ?_, h⟩
      rcases List.mem_cons.mp hx with q | q
      · omega
      · have := h'.1 x q
        omega
    · rename_i hab
      refine List.pairwise_cons.mpr ⟨fun x hx => ?_, insertI_sorted a h'.2⟩
      rcases List.mem_cons.mp ((insertI_perm a r).mem_iff.mp hx) with q | q
      · omega
      · exact h'.1 x q
theorem sortI_sorted : ∀ l : List Int, (sortI l).Pairwise (· ≤ ·)
  | [] => List.Pairwise.nil
  | a :: r => insertI_sorted a (sortI_sorted r)
theorem sorted_unique {l1 l2 : List Int} (p : l1.Perm l2) (h1 : l1.Pairwise (· ≤ ·)) (h2 : l2.Pairwise (· ≤ ·)) : l1 = l2 :=
  List.Perm.eq_of_pairwise (fun a b _ _ h1 h2 => Int.le_antisymm h1 h2) h1 h2 p
def sortedD : List PyData → Option PyData
  | [.list ds] => (intsOf ds).map fun ns => .list ((sortI ns).map .int)
  | _ => none
theorem cd_sorted : CallD X (.builtin "sorted") sortedD := by
  refine ⟨_, cr_sortedI, ?_⟩
  intro D H ρ xs ds d Q s da e k
  unfold sortedD at e
  split at e
  · rename_i es
    obtain ⟨a, vs, rfl, h1, h2⟩ := one_list da
    cases q : intsOf es with
    | none =>
      rw [q] at e
      cases e
    | some ns =>
      rw [q] at e
      cases (Option.some.inj e)
      rw [intsOf_some q] at h2
      rw [h2.ints_inv] at h1
      refine ⟨_, _, rfl, .inl (.inl (s _ _ h1)), fun ns' p hp1 hp2 hp => ?_⟩
      rw [sorted_unique (hp1.trans (sortI_perm ns).symm) hp2 (sortI_sorted ns)]
      have G := Gro.new (o := .lst ((sortI ns).map V.int)) s hp
      exact k _ _ _ G (.lst upd_same (DvA.ints _))
  · cases e
end
end Bc

/-! Bc3: own defs, comprehensions, statements. -/
namespace Bc
open PySem PySem.Spec PyProof.Rows L2

/-! ### canonical readings -/
def tE (K : PySem.W.Frag) (mg : Str → Option Value) (W : WW) (m : ME) : TE := fun σ H Q => ∃ g sd S, WfE K mg g sd S σ H ∧ PostE K mg g sd σ W Q (m sd S)
def tT (K : PySem.W.Frag) (mg : Str → Option Value) (W : WW) (m : ME) : TT := fun σ H Q => ∃ g sd S, WfE K mg g sd S σ H ∧ PostT K mg g sd σ W Q (m sd S)
def tS (K : PySem.W.Frag) (mg : Str → Option Value) (W : WW) (m : MS) : TS := fun D σ H => ∃ g sd S, WfE K mg g sd S σ H ∧ PostS K mg g W D (m sd S)
section
variable {X : Cx} {W : WW}
theorem DE.pe {e : Expr} {m : ME} (h : DE X W e m) : PE X e (tE X.K X.mg W m) := by
  obtain ⟨t, pt, q⟩ := h
  exact ⟨fun pins s σ H Q I ⟨g, sd, S, w, p⟩ => pt.run pins s σ H Q I (q g sd S σ H Q w p)⟩
theorem DT.pt {e : Expr} {m : ME} (h : DT X W e m) : PT X e (tT X.K X.mg W m) := by
  obtain ⟨t, pt, q⟩ := h
  exact ⟨fun pins s σ H Q I ⟨g, sd, S, w, p⟩ => pt.run pins s σ H Q I (q g sd S σ H Q w p)⟩
theorem DSs.ps {e : List Stmt} {m : MS} (h : DSs X W e m) : PSs X e (tS X.K X.mg W m) := by
  obtain ⟨t, pt, q⟩ := h
  exact ⟨fun pins s σ H Q I ⟨g, sd, S, w, p⟩ => pt.run pins s σ H Q I (q g sd S σ H Q w p)⟩
end

/-! ### calls of own defs -/
def Gh.inn (g : Gh) (H : Hp) : Gh := { g with
  t := fun a => match g.t a with
    | some (.loc _) => some .fr
    | x => x
  F := fun a => match g.t a with
    | some (.loc _) => H a
    | _ => g.F a }
def Gh.out (g g2 : Gh) : Gh := { g2 with
  t := fun a => match g.t a with
    | some (.loc i) => some (.loc i)
    | _ => g2.t a
  F := g.F }
section
variable {K : PySem.W.Frag} {mg : Str → Option Value} {g g2 : Gh} {S S2 : Sto} {σ : L2.St} {H H2 : Hp} {sd : Sg}
theorem inn_t {a : Addr} {t : Tag} (h : g.t a = some t) (hn : ∀ i, t ≠ .loc i) : (g.inn H).t a = some t := by
  show (match g.t a with | some (.loc _) => some .fr | x => x) = some t
  rw [h]
  cases t with
  | loc i => exact absurd rfl (hn i)
  | _ => rfl
theorem SlR.inn {tg : Tag} {sl : Sl} {v : V} (hn : ∀ i, tg ≠ .loc i) (h : SlR K mg g H tg sl v) : SlR K mg (g.inn H) H tg sl v := by
  cases sl with
  | un => trivial
  | im d => exact h
  | ow ds =>
    obtain ⟨l, xs, e, h1, h2, h3⟩ := h
    exact ⟨l, xs, e, h1, inn_t h2 hn, h3⟩
theorem Wf.inn (w : Wf K mg g S H) : Wf K mg (g.inn H) S H where
  dh := w.dh
  dt := fun a t e => by
    cases q : g.t a with
    | none =>
      have e : (match g.t a with | some (.loc _) => some .fr | x => x) = some t := e
      rw [q] at e
      cases e
    | some u => exact w.dt a u q
  fm := fun a o e => by
    have e : (match g.t a with | some (.loc _) => H a | _ => g.F a) = some o := e
    show H a = some o ∧ (match g.t a with | some (.loc _) => some .fr | x => x) = some .fr
    split at e
    · rename_i i q
      exact ⟨e, rfl⟩
    · rename_i q
      obtain ⟨h1, h2⟩ := w.fm a o e
      exact ⟨h1, by rw [h2]⟩
  st := fun o ob e => by
    obtain ⟨a, h1, h2, h3⟩ := w.st o ob e
    refine ⟨a, h1, inn_t h2 (fun i z => nomatch z), ?_⟩
    cases ob with
    | shl ds => exact h3
    | inst c fs =>
      obtain ⟨C, dx, vs, q1, q2, q3, q4⟩ := h3
      exact ⟨C, dx, vs, q1, q2, q3, fun f sl v a b => (q4 f sl v a b).inn (fun i z => nomatch z)⟩
  ln := w.ln
theorem out_t {a : Addr} {t : Tag} (w : Wf K mg g S H) (w2 : Wf K mg g2 S2 H2) (x : Ext (g.inn H) g2) (h : g2.t a = some t) (hn : t ≠ .fr) : (g.out g2).t a = some t := by
  show (match g.t a with | some (.loc i) => some (.loc i) | _ => g2.t a) = some t
  split
  · rename_i i q
    obtain ⟨_, o, ho⟩ := w.dt a _ q
    have hF : g2.F a = some o := by
      rw [x.f]
      show (match g.t a with | some (.loc _) => H a | _ => g.F a) = some o
      rw [q]
      exact ho
    have := (w2.fm a o hF).2
    rw [h] at this
    exact absurd (Option.some.inj this) hn
  · exact h
theorem SlR.out {tg : Tag} {sl : Sl} {v : V} (w : Wf K mg g S H) (w2 : Wf K mg g2 S2 H2) (x : Ext (g.inn H) g2) (hn : tg ≠ .fr) (h : SlR K mg g2 H2 tg sl v) : SlR K mg (g.out g2) H2 tg sl v := by
  cases sl with
  | un => trivial
  | im d => exact h
  | ow ds =>
    obtain ⟨l, xs, e, h1, h2, h3⟩ := h
    exact ⟨l, xs, e, h1, out_t w w2 x h2 hn, h3⟩
theorem WfE.out (w : WfE K mg g sd S σ H) (w2 : Wf K mg g2 S2 H2) (x : Ext (g.inn H) g2) : WfE K mg (g.out g2) sd S2 σ H2 where
  w := {
    dh := w2.dh
    dt := fun a t e => by
      have e : (match g.t a with | some (.loc i) => some (.loc i) | _ => g2.t a) = some t := e
      split at e
      · rename_i i q
        obtain ⟨_, o, ho⟩ := w.w.dt a _ q
        have hF : g2.F a = some o := by
          rw [x.f]
          show (match g.t a with | some (.loc _) => H a | _ => g.F a) = some o
          rw [q]
          exact ho
        exact w2.dt a _ (w2.fm a o hF).2
      · exact w2.dt a t e
    fm := fun a o e => by
      have h1 := (w.w.fm a o e).2
      have hF : g2.F a = some o := by
        rw [x.f]
        show (match g.t a with | some (.loc _) => H a | _ => g.F a) = some o
        rw [h1]
        exact e
      obtain ⟨q1, q2⟩ := w2.fm a o hF
      refine ⟨q1, ?_⟩
      show (match g.t a with | some (.loc i) => some (.loc i) | _ => g2.t a) = some .fr
      rw [h1]
      exact q2
    st := fun o ob e => by
      obtain ⟨a, h1, h2, h3⟩ := w2.st o ob e
      refine ⟨a, h1, out_t w.w w2 x h2 (fun z => nomatch z), ?_⟩
      cases ob with
      | shl ds => exact h3
      | inst c fs =>
        obtain ⟨C, dx, vs, q1, q2, q3, q4⟩ := h3
        exact ⟨C, dx, vs, q1, q2, q3, fun f sl v a b => (q4 f sl v a b).out w.w w2 x (fun z => nomatch z)⟩
    ln := w2.ln }
  ln := w.ln
  e := fun i sl h1 h2 => by
    obtain ⟨v, h3, h4⟩ := w.e i sl h1 h2
    refine ⟨v, h3, ?_⟩
    cases sl with
    | un => trivial
    | im d => exact Dv.mono x.d x.r h4
    | ow ds =>
      obtain ⟨l, xs, e, q1, q2, q3⟩ := h4
      have hF : g2.F l = some (.lst xs) := by
        rw [x.f]
        show (match g.t l with | some (.loc _) => H l | _ => g.F l) = some _
        rw [q2]
        exact q1
      refine ⟨l, xs, e, (w2.fm l _ hF).1, ?_, q3.mono x.d x.r⟩
      show (match g.t l with | some (.loc i) => some (.loc i) | _ => g2.t l) = some (.loc i)
      rw [q2]
theorem ext_out (x : Ext (g.inn H) g2) : Ext g (g.out g2) := ⟨x.d, x.r, rfl⟩
end
abbrev Fn := List PyData → Sto → R
def spM (n : Nat) (K : PySem.W.Frag) (mg : Str → Option Value) (m : Fn) : Sp := fun vs H Q E => vs.length = n ∧ ∃ g ds S, Wf K mg g S H ∧ DvA K mg g.D g.r vs ds ∧ PostF K mg g Q E (m ds S)
structure Good (P : Program) (w : World) (K : PySem.W.Frag) (mg : Str → Option Value) (base : Heap) (k : Nat) (x : Str) (ps : List Str) (m : Fn) : Prop where
  ex : ∃ f fd, mg x = some (.ref f) ∧ PySem.W.keepIn K (.ref f) = true ∧ Binds K fd ps [] ∧ FnOk P w K mg base (L2.CX P w) k f fd ps (spM ps.length K mg m)
def eCall (f : Fn) (ma : MA) : ME := fun sd S => (ma sd S).bind fun ds S1 => f ds S1
section
variable {X : Cx} {W : WW}
/-- what a call of an own def reads -/
theorem fn_rd {m : Fn} {n : Nat} {ta : TA} {ma : MA} (hn : ∀ sd S ds S1, ma sd S = .ok ds S1 → ds.length = n)
    (qa : ∀ g sd S σ H Q, WfE X.K X.mg g sd S σ H → PostA X.K X.mg g sd σ W Q (ma sd S) → ta σ H Q) :
    ∀ g sd S σ H Q, WfE X.K X.mg g sd S σ H → PostE X.K X.mg g sd σ W Q (eCall m ma sd S) → tCallS (spM n X.K X.mg m) (WE W) ta σ H Q := by
  intro g sd S σ H Q w p
  refine stepA qa w p fun ds S1 g1 vs H1 hm x1 w1 dv1 p1 => ?_
  refine ⟨by rw [dv1.length]; exact hn _ _ _ _ hm, g1.inn H1, ds, S1, w1.w.inn, dv1, ?_⟩
  cases hr : m ds S1 with
  | ok d S2 =>
    rw [hr] at p1
    exact fun g' v H' x' w' dv' => p1 (g1.out g') v H' (ext_out x') (w1.out w' x') dv'
  | exc y S2 =>
    rw [hr] at p1
    exact fun g' H' x' w' => p1 (g1.out g') H' (ext_out x') (w1.out w' x')
  | bad =>
    rw [hr] at p1
    exact p1.elim
theorem aNil_len {sd S ds S1} (h : aNil sd S = .ok ds S1) : ds.length = 0 := by
  cases h
  rfl
theorem aCons_len {m : ME} {r : MA} {n : Nat} (h : ∀ sd S ds S1, r sd S = .ok ds S1 → ds.length = n) : ∀ sd S ds S1, aCons m r sd S = .ok ds S1 → ds.length = n + 1 := by
  intro sd S ds S1 e
  unfold aCons at e
  cases q : m sd S with
  | ok d S2 =>
    rw [q] at e
    have e : (r sd S2).bindL (fun ds S2 => .ok (d :: ds) S2) = .ok ds S1 := e
    cases q2 : r sd S2 with
    | ok ds2 S3 =>
      rw [q2] at e
      cases e
      rw [List.length_cons, h _ _ _ _ q2]
    | exc _ _ =>
      rw [q2] at e
      cases e
    | bad =>
      rw [q2] at e
      cases e
  | exc _ _ =>
    rw [q] at e
    cases e
  | bad =>
    rw [q] at e
    cases e
theorem de_call {x : Str} {k : Nat} {ps : List Str} {m : Fn} {e : Expr} {es : List Expr} {ma : MA} {p pos : Pos} (G : Good X.prog X.w X.K X.mg X.base k x ps m) (hr : Room k X.A) (tk : Takes X W) (ha : DA X W (e :: es) ma)
    (hn : ∀ sd S ds S1, ma sd S = .ok ds S1 → ds.length = ps.length)
    (hg : Gl X x := by rfl) (hdb : (x == ("__debug__" : Str)) = false := by decide) (he : starEach (e :: es) X.env = (false, eval e X.env) :: starEach es X.env := by rfl) (hpl : (backTo pos (starEach es X.env)).any (·.1) = false := by rfl) :
    DE X W (.Call (.Name x p) (e :: es) [] pos) (eCall m ma) := by
  obtain ⟨f, fd, g1, g2, g3, g4⟩ := G.ex
  obtain ⟨ta, pa, qa⟩ := ha
  exact ⟨_, pe_callS (E := WE W) g4 hr hg g1 g2 g3 (fun σ => passAt tk σ) pa hdb he hpl, fn_rd hn qa⟩
end

/-! ### a def by its body -/
def runF (n : Nat) (b : MS) : Fn := fun ds S => match b (ds.map .im ++ List.replicate (n - ds.length) .un) S with
  | .nx _ S' => .ok .none S'
  | .ret d S' => .ok d S'
  | .exc x _ S' => .exc x S'
  | _ => .bad
structure Def (K : PySem.W.Frag) (mg : Str → Option Value) (x : Str) (st : Stmt) (ps : List Str) : Prop where
  ex : ∃ f fd, Fun K x x st f fd ∧ mg x = some (.ref f) ∧ Binds K fd ps []
theorem start_wf {K : PySem.W.Frag} {mg : Str → Option Value} {g : Gh} {S : Sto} {H : Hp} {vs : List V} {ds : List PyData} {N : List Str} (w : Wf K mg g S H) (dv : DvA K mg g.D g.r vs ds) (hl : vs.length ≤ N.length) :
    WfE K mg g (ds.map .im ++ List.replicate (N.length - ds.length) .un) S (L2.start N vs) H where
  w := w
  ln := by
    unfold L2.start
    simp only [List.length_append, List.length_map, List.length_replicate]
    rw [dv.length]
  e := fun i sl h1 h2 => by
    unfold L2.start
    by_cases hi : i < ds.length
    · rw [List.getElem?_append_left (by rw [List.length_map]; exact hi), List.getElem?_map] at h1
      cases q : ds[i]? with
      | none =>
        rw [q] at h1
        cases h1
      | some d =>
        rw [q] at h1
        cases (Option.some.inj h1)
        obtain ⟨v, e1, e2⟩ := dv.get' q
        refine ⟨v, ?_, e2⟩
        rw [List.getElem?_append_left (by rw [List.length_map, dv.length]; exact hi), List.getElem?_map, e1]
        rfl
    · rw [List.getElem?_append_right (by rw [List.length_map]; omega)] at h1
      have := List.mem_of_getElem? h1
      exact absurd (List.eq_of_mem_replicate this) h2
theorem good_of {P : Program} {w : World} {K : PySem.W.Frag} {mg : Str → Option Value} {base : Heap} {k : Nat} {x : Str} {st : Stmt} {N ps : List Str} {b : MS} (D : Def K mg x st ps) (Sc : FnScope N ps (defScope st)) (hl : ps.length ≤ N.length)
    (hb : ∀ (f : Addr) (cdv : Value) (A : Around) (outer : List PySem.Env) (s : Shared) (H : Hp) (E : XK), Room k (A.deeper (envOfC x (defScope st) s.heap.objs.size f cdv)) →
      DSs (cxOf (L2.CX P w) P w K mg base N x (defScope st) f cdv A outer s H E) (fun cls d _ H => E cls d H) (defBody st) b) :
    Good P w K mg base (k + 1) x ps (runF N.length b) := by
  obtain ⟨f, fd, F, hm, hB⟩ := D.ex
  refine ⟨f, fd, hm, F.kp, hB, F.okX Sc (fun vs H Q E h => h.1) fun cdv A outer s H vs Q E hr h => ?_⟩
  obtain ⟨hlen, g, ds, S, wf, dv, p⟩ := h
  obtain ⟨t, pt, q⟩ := hb f cdv A outer s H E hr
  refine ⟨t, pt, q g _ S _ H _ (start_wf wf dv (by omega)) ?_⟩
  unfold runF at p
  split at p
  · rename_i sd S' e
    rw [e]
    exact fun g' σ H' x' w' => p g' _ H' x' w'.w .non
  · rename_i d S' e
    rw [e]
    exact fun g' v H' x' w' dv' => p g' v H' x' w' dv'
  · rename_i y sd S' e
    rw [e]
    exact fun g' σ H' x' w' => p g' H' x' w'.w
  · exact p.elim
end Bc

/-! Bc4: statements. -/
namespace Bc
open PySem PySem.Spec PyProof.Rows L2
section
variable {K : PySem.W.Frag} {mg : Str → Option Value} {g : Gh} {S : Sto} {σ : L2.St} {H : Hp} {sd : Sg}
theorem WfE.set {i : Nat} {v : V} {d : PyData} (w : WfE K mg g sd S σ H) (dv : Dv K mg g.D g.r v d) : WfE K mg g (sd.set i (.im d)) S (σ.set i (some v)) H where
  w := w.w
  ln := by rw [List.length_set, List.length_set, w.ln]
  e := fun j sl h1 h2 => by
    by_cases hij : i = j
    · subst hij
      by_cases hi : i < sd.length
      · rw [List.getElem?_set_self hi] at h1
        cases (Option.some.inj h1)
        exact ⟨v, List.getElem?_set_self (by rw [← w.ln]; exact hi), dv⟩
      · rw [List.getElem?_eq_none (by rw [List.length_set]; omega)] at h1
        cases h1
    · rw [List.getElem?_set_ne hij] at h1 ⊢
      exact w.e j sl h1 h2
/-- an unknown slot -/
theorem WfE.unset {i : Nat} {o : Option V} (w : WfE K mg g sd S σ H) : WfE K mg g (sd.set i .un) S (σ.set i o) H where
  w := w.w
  ln := by rw [List.length_set, List.length_set, w.ln]
  e := fun j sl h1 h2 => by
    by_cases hij : i = j
    · subst hij
      by_cases hi : i < sd.length
      · rw [List.getElem?_set_self hi] at h1
        exact absurd (Option.some.inj h1).symm h2
      · rw [List.getElem?_eq_none (by rw [List.length_set]; omega)] at h1
        cases h1
    · rw [List.getElem?_set_ne hij] at h1 ⊢
      exact w.e j sl h1 h2
/-- an object with a tag changes -/
theorem SlR.upd {l : Addr} {o : HO} {tg t0 : Tag} {sl : Sl} {v : V} (ht : g.t l = some t0) (hn : tg ≠ t0) (h : SlR K mg g H tg sl v) : SlR K mg g (upd H l o) tg sl v := by
  cases sl with
  | un => trivial
  | im d => exact h
  | ow ds =>
    obtain ⟨l', xs, e, h1, h2, h3⟩ := h
    refine ⟨l', xs, e, ?_, h2, h3⟩
    rw [upd_ne]
    · exact h1
    · rintro rfl
      rw [ht] at h2
      exact hn (Option.some.inj h2).symm
theorem ne_tag {a l : Addr} {t t0 : Tag} (h : g.t a = some t) (ht : g.t l = some t0) (hn : t ≠ t0) : a ≠ l := by
  rintro rfl
  rw [ht] at h
  exact hn (Option.some.inj h).symm
theorem same_upd_tag {l : Addr} {o : HO} {t0 : Tag} (w : Wf K mg g S H) (ht : g.t l = some t0) : Same g.D (upd H l o) := fun a u e => by
  rw [upd_ne]
  · exact w.dh a u e
  · rintro rfl
    rw [(w.dt a _ ht).1] at e
    cases e
theorem Wf.updLoc {l : Addr} {o : HO} {i : Nat} (w : Wf K mg g S H) (ht : g.t l = some (.loc i)) : Wf K mg g S (upd H l o) where
  dh := same_upd_tag w ht
  dt := fun a t e => by
    obtain ⟨h1, u, h2⟩ := w.dt a t e
    refine ⟨h1, ?_⟩
    by_cases ha : a = l
    · subst ha
      exact ⟨o, upd_same⟩
    · exact ⟨u, by rw [upd_ne ha]; exact h2⟩
  fm := fun a u e => by
    obtain ⟨h1, h2⟩ := w.fm a u e
    exact ⟨by rw [upd_ne (ne_tag h2 ht (fun z => nomatch z))]; exact h1, h2⟩
  st := fun o' ob e => by
    obtain ⟨a, h1, h2, h3⟩ := w.st o' ob e
    refine ⟨a, h1, h2, ?_⟩
    have na := ne_tag h2 ht (fun z => nomatch z)
    cases ob with
    | shl ds =>
      obtain ⟨xs, q1, q2⟩ := h3
      exact ⟨xs, by rw [upd_ne na]; exact q1, q2⟩
    | inst c fs =>
      obtain ⟨C, dx, vs, q1, q2, q3, q4⟩ := h3
      exact ⟨C, dx, vs, q1, by rw [upd_ne na]; exact q2, q3, fun f sl v a b => (q4 f sl v a b).upd ht (fun z => nomatch z)⟩
  ln := w.ln
/-- one's own list changes -/
theorem WfE.mutLoc {l : Addr} {xs : List V} {ds : List PyData} {i : Nat} (w : WfE K mg g sd S σ H) (ht : g.t l = some (.loc i)) (hs : σ[i]? = some (some (.ref l))) (dv : DvA K mg g.D g.r xs ds) :
    WfE K mg g (sd.set i (.ow ds)) S σ (upd H l (.lst xs)) where
  w := w.w.updLoc ht
  ln := by rw [List.length_set, w.ln]
  e := fun j sl h1 h2 => by
    by_cases hij : i = j
    · subst hij
      by_cases hi : i < sd.length
      · rw [List.getElem?_set_self hi] at h1
        cases (Option.some.inj h1)
        exact ⟨_, hs, l, xs, rfl, upd_same, ht, dv⟩
      · rw [List.getElem?_eq_none (by rw [List.length_set]; omega)] at h1
        cases h1
    · rw [List.getElem?_set_ne hij] at h1
      obtain ⟨v, h3, h4⟩ := w.e j sl h1 h2
      exact ⟨v, h3, h4.upd ht (fun z => hij (by cases z; rfl))⟩
/-- tags of addresses that had none -/
theorem Wf.tag {l : Addr} {t0 : Tag} (w : Wf K mg g S H) (hn : g.t l = none) (hD : g.D l = none) (hH : ∃ o, H l = some o) : Wf K mg { g with t := fun a => if a = l then some t0 else g.t a } S H where
  dh := w.dh
  dt := fun a t e => by
    by_cases ha : a = l
    · subst ha
      exact ⟨hD, hH⟩
    · have e : (if a = l then some t0 else g.t a) = some t := e
      rw [if_neg ha] at e
      exact w.dt a t e
  fm := fun a u e => by
    obtain ⟨h1, h2⟩ := w.fm a u e
    refine ⟨h1, ?_⟩
    show (if a = l then some t0 else g.t a) = _
    rw [if_neg (by rintro rfl; rw [hn] at h2; cases h2)]
    exact h2
  st := fun o' ob e => by
    obtain ⟨a, h1, h2, h3⟩ := w.st o' ob e
    refine ⟨a, h1, ?_, ?_⟩
    · show (if a = l then some t0 else g.t a) = _
      rw [if_neg (by rintro rfl; rw [hn] at h2; cases h2)]
      exact h2
    · cases ob with
      | shl ds => exact h3
      | inst c fs =>
        obtain ⟨C, dx, vs, q1, q2, q3, q4⟩ := h3
        refine ⟨C, dx, vs, q1, q2, q3, fun f sl v a b => ?_⟩
        have q5 := q4 f sl v a b
        cases sl with
        | un => trivial
        | im d => exact q5
        | ow ds =>
          obtain ⟨l', xs, e, r1, r2, r3⟩ := q5
          refine ⟨l', xs, e, r1, ?_, r3⟩
          show (if l' = l then some t0 else g.t l') = _
          rw [if_neg (by rintro rfl; rw [hn] at r2; cases r2)]
          exact r2
  ln := w.ln
theorem WfE.tag {l : Addr} {t0 : Tag} (w : WfE K mg g sd S σ H) (hn : g.t l = none) (hD : g.D l = none) (hH : ∃ o, H l = some o) : WfE K mg { g with t := fun a => if a = l then some t0 else g.t a } sd S σ H where
  w := w.w.tag hn hD hH
  ln := w.ln
  e := fun j sl h1 h2 => by
    obtain ⟨v, h3, h4⟩ := w.e j sl h1 h2
    refine ⟨v, h3, ?_⟩
    cases sl with
    | un => trivial
    | im d => exact h4
    | ow ds =>
      obtain ⟨l', xs, e, r1, r2, r3⟩ := h4
      refine ⟨l', xs, e, r1, ?_, r3⟩
      show (if l' = l then some t0 else g.t l') = _
      rw [if_neg (by rintro rfl; rw [hn] at r2; cases r2)]
      exact r2
theorem Wf.notag {l : Addr} (w : Wf K mg g S H) (h : H l = none) : g.t l = none := by
  cases q : g.t l with
  | none => rfl
  | some t =>
    obtain ⟨_, o, e⟩ := w.dt l t q
    rw [h] at e
    cases e
/-- a new list of one's own -/
theorem WfE.own {l : Addr} {xs : List V} {ds : List PyData} {i : Nat} (w : WfE K mg g sd S σ H) (hl : H l = none) (dv : DvA K mg g.D g.r xs ds) :
    WfE K mg { g with t := fun a => if a = l then some (.loc i) else g.t a } (sd.set i (.ow ds)) S (σ.set i (some (.ref l))) (upd H l (.lst xs)) := by
  have w1 := w.gro (Gro.keep (o := .lst xs) w.w.dh hl)
  have hn := w.w.notag hl
  have hD : g.D l = none := w.w.dh.free hl
  have w2 : WfE K mg { g with t := fun a => if a = l then some (.loc i) else g.t a } sd S σ (upd H l (.lst xs)) := w1.tag (t0 := .loc i) hn hD ⟨_, upd_same⟩
  refine ⟨w2.w, by rw [List.length_set, List.length_set, w.ln], fun j sl h1 h2 => ?_⟩
  by_cases hij : i = j
  · subst hij
    by_cases hi : i < sd.length
    · rw [List.getElem?_set_self hi] at h1
      cases (Option.some.inj h1)
      refine ⟨.ref l, List.getElem?_set_self (by rw [← w.ln]; exact hi), l, xs, rfl, upd_same, ?_, dv⟩
      show (if l = l then _ else _) = _
      rw [if_pos rfl]
    · rw [List.getElem?_eq_none (by rw [List.length_set]; omega)] at h1
      cases h1
  · rw [List.getElem?_set_ne hij] at h1 ⊢
    exact w2.e j sl h1 h2
/-- one's own list becomes a datum -/
theorem WfE.pub {i : Nat} {ds : List PyData} (w : WfE K mg g sd S σ H) (h : sd[i]? = some (.ow ds)) : ∃ g', Ext g g' ∧ WfE K mg g' (sd.set i (.im (.list ds))) S σ H := by
  obtain ⟨v, h1, l, xs, e, h2, h3, h4⟩ := w.e i _ h (by simp)
  subst e
  have hD := (w.w.dt l _ h3).1
  have sD : Same g.D (upd g.D l (.lst xs)) := same_new hD
  have sDH : Same (upd g.D l (.lst xs)) H := fun a u e => by
    by_cases ha : a = l
    · subst ha
      rw [upd_same] at e
      cases e
      exact h2
    · rw [upd_ne ha] at e
      exact w.w.dh a u e
  have tne : ∀ a t, (if a = l then none else g.t a) = some t → a ≠ l ∧ g.t a = some t := fun a t e => by
    by_cases ha : a = l
    · rw [if_pos ha] at e
      cases e
    · rw [if_neg ha] at e
      exact ⟨ha, e⟩
  have tk : ∀ a t, g.t a = some t → t ≠ .loc i → (if a = l then none else g.t a) = some t := fun a t e hn => by
    rw [if_neg (ne_tag e h3 hn)]
    exact e
  have slk : ∀ tg sl v, tg ≠ .loc i → SlR K mg g H tg sl v → SlR K mg { g with D := upd g.D l (.lst xs), t := fun a => if a = l then none else g.t a } H tg sl v := fun tg sl v hn q => by
    cases sl with
    | un => trivial
    | im d => exact Dv.mono sD List.prefix_rfl q
    | ow es =>
      obtain ⟨l', ys, e, r1, r2, r3⟩ := q
      exact ⟨l', ys, e, r1, tk _ _ r2 hn, r3.mono sD List.prefix_rfl⟩
  refine ⟨{ g with D := upd g.D l (.lst xs), t := fun a => if a = l then none else g.t a }, ⟨sD, List.prefix_rfl, rfl⟩, ⟨sDH, fun a t e => ?_, fun a u e => ?_, fun o ob e => ?_, w.w.ln⟩, by rw [List.length_set, w.ln], fun j sl q1 q2 => ?_⟩
  · obtain ⟨ha, e⟩ := tne a t e
    obtain ⟨q1, q2⟩ := w.w.dt a t e
    refine ⟨?_, q2⟩
    show upd g.D l _ a = none
    rw [upd_ne ha]
    exact q1
  · obtain ⟨q1, q2⟩ := w.w.fm a u e
    exact ⟨q1, tk _ _ q2 (fun z => nomatch z)⟩
  · obtain ⟨a, q1, q2, q3⟩ := w.w.st o ob e
    refine ⟨a, q1, tk _ _ q2 (fun z => nomatch z), ?_⟩
    cases ob with
    | shl es =>
      obtain ⟨ys, r1, r2⟩ := q3
      exact ⟨ys, r1, r2.mono sD List.prefix_rfl⟩
    | inst c fs =>
      obtain ⟨C, dx, vs, r1, r2, r3, r4⟩ := q3
      exact ⟨C, dx, vs, r1, r2, r3, fun f sl v a b => slk _ _ _ (fun z => nomatch z) (r4 f sl v a b)⟩
  · by_cases hij : i = j
    · subst hij
      by_cases hi : i < sd.length
      · rw [List.getElem?_set_self hi] at q1
        cases (Option.some.inj q1)
        exact ⟨_, h1, .lst upd_same (h4.mono sD List.prefix_rfl)⟩
      · rw [List.getElem?_eq_none (by rw [List.length_set]; omega)] at q1
        cases q1
    · rw [List.getElem?_set_ne hij] at q1
      obtain ⟨v, q3, q4⟩ := w.e j sl q1 q2
      exact ⟨v, q3, slk _ _ _ (fun z => hij (by cases z; rfl)) q4⟩
end

/-! ### blocks -/
def RS.then (r : RS) (f : Sg → Sto → RS) : RS := match r with
  | .nx sd S => f sd S
  | r => r
@[simp] theorem RS.then_nx {sd S f} : (RS.nx sd S).then f = f sd S := rfl
@[simp] theorem RS.then_ret {sd S f} : (RS.ret sd S).then f = .ret sd S := rfl
@[simp] theorem RS.then_brk {sd S f} : (RS.brk sd S).then f = .brk sd S := rfl
@[simp] theorem RS.then_ct {sd S f} : (RS.ct sd S).then f = .ct sd S := rfl
@[simp] theorem RS.then_exc {x sd S f} : (RS.exc x sd S).then f = .exc x sd S := rfl
@[simp] theorem RS.then_bad {f} : RS.bad.then f = .bad := rfl
def sNil : MS := fun sd S => .nx sd S
def sSeq (a b : MS) : MS := fun sd S => (a sd S).then b
section
variable {X : Cx} {W : WW} {st : Stmt} {rest : List Stmt} {a b : MS} {e : Expr} {m : ME} {pos : Pos}
theorem dss_nil : DSs X W [] sNil := ⟨_, pss_nil, fun g sd S σ H D w p => p g σ H (Ext.refl _) w⟩
theorem stepS {t : TS} {g : Gh} {sd : Sg} {S : Sto} {σ : L2.St} {H : Hp} {D D' : Ends} {f : MS} (q : ∀ g sd S σ H D, WfE X.K X.mg g sd S σ H → PostS X.K X.mg g W D (a sd S) → t D σ H)
    (w : WfE X.K X.mg g sd S σ H) (p : PostS X.K X.mg g W D' ((a sd S).then f)) (h1 : D.rt = D'.rt) (h2 : D.bk = D'.bk) (h3 : D.ct = D'.ct)
    (k : ∀ sd1 S1 g1 σ1 H1, Ext g g1 → WfE X.K X.mg g1 sd1 S1 σ1 H1 → PostS X.K X.mg g1 W D' (f sd1 S1) → D.nx σ1 H1) : t D σ H := by
  refine q g sd S σ H D w ?_
  cases hr : a sd S with
  | nx sd1 S1 =>
    rw [hr] at p
    exact fun g1 σ1 H1 x w1 => k sd1 S1 g1 σ1 H1 x w1 (PostS.ext x p)
  | ret d S1 =>
    rw [hr] at p
    have p : PostS X.K X.mg g W D' (.ret d S1) := p
    intro g1 v H1 x w1 dv
    rw [h1]
    exact p g1 v H1 x w1 dv
  | brk d S1 =>
    rw [hr] at p
    have p : PostS X.K X.mg g W D' (.brk d S1) := p
    intro g1 v H1 x w1
    rw [h2]
    exact p g1 v H1 x w1
  | ct d S1 =>
    rw [hr] at p
    have p : PostS X.K X.mg g W D' (.ct d S1) := p
    intro g1 v H1 x w1
    rw [h3]
    exact p g1 v H1 x w1
  | exc y d S1 =>
    rw [hr] at p
    exact p
  | bad =>
    rw [hr] at p
    exact p.elim
theorem dss_cons (h1 : DS X W st a) (h2 : DSs X W rest b) : DSs X W (st :: rest) (sSeq a b) := by
  obtain ⟨t1, p1, q1⟩ := h1
  obtain ⟨t2, p2, q2⟩ := h2
  refine ⟨_, pss_cons p1 p2, fun g sd S σ H D w p => ?_⟩
  show t1 { D with nx := t2 D } σ H
  exact stepS q1 w p rfl rfl rfl fun sd1 S1 g1 σ1 H1 x w1 pp => q2 _ _ _ _ _ _ w1 pp
theorem dss_one (h1 : DS X W st a) : DSs X W [st] a := by
  obtain ⟨t1, p1, q1⟩ := h1
  exact ⟨_, pss_one p1, q1⟩
/-- a list of one's own is a datum from here on -/
def sPub (i : Nat) (b : MS) : MS := fun sd S => match sd[i]? with
  | some (.ow ds) => b (sd.set i (.im (.list ds))) S
  | _ => .bad
theorem dss_pub {sts : List Stmt} (i : Nat) (h : DSs X W sts b) : DSs X W sts (sPub i b) := by
  obtain ⟨t, pt, q⟩ := h
  refine ⟨t, pt, fun g sd S σ H D w p => ?_⟩
  unfold sPub at p
  split at p
  · rename_i ds hd
    obtain ⟨g', x, w'⟩ := w.pub hd
    exact q _ _ _ _ _ _ w' (PostS.ext x p)
  · exact p.elim
def sPass : MS := fun sd S => .nx sd S
theorem ds_pass : DS X W (.Pass pos) sPass := ⟨_, ps_pass, fun g sd S σ H D w p => p g σ H (Ext.refl _) w⟩
def sBrk : MS := fun sd S => .brk sd S
theorem ds_brk : DS X W (.Break pos) sBrk := ⟨_, ps_break, fun g sd S σ H D w p => p g σ H (Ext.refl _) w⟩
def sCt : MS := fun sd S => .ct sd S
theorem ds_ct : DS X W (.Continue pos) sCt := ⟨_, ps_continue, fun g sd S σ H D w p => p g σ H (Ext.refl _) w⟩
def sExpr (m : ME) : MS := fun sd S => (m sd S).bindS sd fun _ S1 => .nx sd S1
theorem ds_expr (h : DE X W e m) (hs : swapsWith e none pos.line X.env = pure false := by rfl) : DS X W (.Expr e pos) (sExpr m) := by
  obtain ⟨t, pt, q⟩ := h
  refine ⟨_, ps_expr pt hs, fun g sd S σ H D w p => ?_⟩
  exact stepES q w p fun d S1 g1 v H1 _ x w1 dv pp => pp g1 σ H1 (Ext.refl _) w1
def sRet (m : ME) : MS := fun sd S => (m sd S).bindS sd fun d S1 => .ret d S1
theorem ds_ret (h : DE X W e m) : DS X W (.Return (some e) pos) (sRet m) := by
  obtain ⟨t, pt, q⟩ := h
  refine ⟨_, ps_ret pt, fun g sd S σ H D w p => ?_⟩
  exact stepES q w p fun d S1 g1 v H1 _ x w1 dv pp => pp g1 v H1 (Ext.refl _) w1.w dv
def sRetN : MS := fun _ S => .ret .none S
theorem ds_retN : DS X W (.Return none pos) sRetN := ⟨_, ps_retN, fun g sd S σ H D w p => p g _ H (Ext.refl _) w.w .non⟩
def sIf (c : ME) (a b : MS) : MS := fun sd S => (c sd S).bindS sd fun x S1 => onBS x (a sd S1) (b sd S1)
theorem ds_if {c : Expr} {sa sb : List Stmt} {mc : ME} (hc : DT X W c mc) (ha : DSs X W sa a) (hb : DSs X W sb b) : DS X W (.If c sa sb pos) (sIf mc a b) := by
  obtain ⟨tc, pc, qc⟩ := hc
  obtain ⟨ta, pa, qa⟩ := ha
  obtain ⟨tb, pb, qb⟩ := hb
  refine ⟨_, ps_if pc pa pb, fun g sd S σ H D w p => ?_⟩
  show tc σ H fun c H1 => if c = true then ta D σ H1 else tb D σ H1
  refine stepTS qc w p (fun _ _ h => onBS_bad h) fun c S1 g1 H1 x w1 pp => ?_
  cases c with
  | true => exact iteT (qa _ _ _ _ _ _ w1 pp)
  | false => exact iteF (qb _ _ _ _ _ _ w1 pp)
/-! ### stores -/
def sSet (i : Nat) (m : ME) : MS := fun sd S => (m sd S).bindS sd fun d S1 => .nx (sd.set i (.im d)) S1
theorem ds_set (i : Nat) {x : Str} {pos' : Pos} (hN : X.N.Nodup) (h : DE X W e m) (hi : X.N[i]? = some x := by rfl) (hx : Loc X.env.scope x := by first | exact .inl rfl | exact .inr rfl) (hs : swapsWith e (some (.Name x pos')) pos.line X.env = pure false := by rfl)
    (hf : X.fn x = true ∨ X.env.scope.names.lookup x = some .local := by first | exact .inl rfl | exact .inr rfl) : DS X W (.Assign [.Name x pos'] e pos) (sSet i m) := by
  obtain ⟨t, pt, q⟩ := h
  refine ⟨_, ps_set hN hi hx pt hs hf, fun g sd S σ H D w p => ?_⟩
  exact stepES q w p fun d S1 g1 v H1 _ x w1 dv pp => pp g1 _ H1 (Ext.refl _) (w1.set dv)
/-- x = [..], a list of one's own -/
def sOwn (i : Nat) (ma : MA) : MS := fun sd S => (ma sd S).bindS sd fun ds S1 => if ds.length ≤ cap then .nx (sd.set i (.ow ds)) S1 else .bad
theorem ds_own (i : Nat) {x : Str} {es : List Expr} {ma : MA} {pos' p2 : Pos} (hN : X.N.Nodup) (h : DA X W es ma) (hi : X.N[i]? = some x := by rfl) (hx : Loc X.env.scope x := by first | exact .inl rfl | exact .inr rfl) (hs : swapsWith (.List es p2) (some (.Name x pos')) pos.line X.env = pure false := by rfl)
    (hf : X.fn x = true ∨ X.env.scope.names.lookup x = some .local := by first | exact .inl rfl | exact .inr rfl) : DS X W (.Assign [.Name x pos'] (.List es p2) pos) (sOwn i ma) := by
  obtain ⟨t, pt, q⟩ := h
  refine ⟨_, ps_set hN hi hx (pe_lst pt) hs hf, fun g sd S σ H D w p => ?_⟩
  refine stepAS q w p fun ds S1 g1 vs H1 _ x w1 dv pp => ?_
  split at pp
  · rename_i hl
    refine ⟨by rw [dv.length]; exact cap_le hl, fun l hnl => ?_⟩
    have w2 := w1.own (i := i) hnl dv
    exact pp { g1 with t := fun a => if a = l then some (.loc i) else g1.t a } _ _ ⟨Same.refl _, List.prefix_rfl, rfl⟩ w2
  · exact pp.elim
/-- x.append(e) -/
def sApp (i : Nat) (m : ME) : MS := fun sd S => match sd[i]? with
  | some (.ow ds) => (m sd S).bindS sd fun d S1 => if ds.length < cap then .nx (sd.set i (.ow (ds ++ [d]))) S1 else .bad
  | _ => .bad
theorem ds_app (i : Nat) {x : Str} {p1 p2 p3 : Pos} (h : DE X W e m) (pv : PE X (.Name x p1) (tVar i))
    (pe : ∀ {to : TE} {t : TA}, PE X (.Name x p1) to → PA X [e] t → PE X (.Call (.Attribute (.Name x p1) "append" p2) [e] [] p3) (tBM X.K "list" rAppend to t)) (hsta : starEach [e] X.env = (false, eval e X.env) :: starEach [] X.env := by rfl)
    (hs : swapsWith (.Call (.Attribute (.Name x p1) "append" p2) [e] [] p3) none pos.line X.env = pure false := by rfl) : DS X W (.Expr (.Call (.Attribute (.Name x p1) "append" p2) [e] [] p3) pos) (sApp i m) := by
  obtain ⟨t, pt, q⟩ := h
  refine ⟨_, ps_expr (pe pv (pa_cons pt pa_nil hsta)) hs, fun g sd S σ H D w p => ?_⟩
  unfold sApp at p
  split at p
  · rename_i ds hd
    obtain ⟨v, h1, l, xs, e1, h2, h3, h4⟩ := w.e i _ hd (by simp)
    subst e1
    refine ⟨_, h1, .inl ⟨rfl, xs, .inl (.inl h2)⟩, ?_⟩
    show t σ H fun x H1 => ∃ l' xs' y', V.ref l = .ref l' ∧ [x] = [y'] ∧ H1 l' = some (.lst xs') ∧ xs'.length < sizeLine ∧ D.nx σ (upd H1 l' (.lst (xs' ++ [y'])))
    refine stepES q w p fun d S1 g1 v H1 _ x w1 dv pp => ?_
    split at pp
    · rename_i hl
      obtain ⟨v', h1', l', xs', e1', h2', h3', h4'⟩ := w1.e i _ hd (by simp)
      subst e1'
      rw [h1] at h1'
      cases h1'
      refine ⟨l, xs', v, rfl, rfl, h2', by rw [h4'.length]; exact cap_lt hl, ?_⟩
      exact pp g1 σ _ (Ext.refl _) (w1.mutLoc h3' h1 (h4'.append (.one dv)))
    · exact pp.elim
  · exact p.elim
/-- one's own list, read by its place -/
def eOwIx (i : Nat) (m : ME) : ME := fun sd S => match sd[i]? with
  | some (.ow ds) => (m sd S).bind fun d S1 => R.of S1 (itemD (.list ds) d)
  | _ => .bad
theorem de_owIx (i : Nat) {x : Str} {p1 p2 : Pos} (h : DE X W e m) (pv : PE X (.Name x p1) (tVar i)) (hs : PlainIx e := by exact fun _ _ => rfl) : DE X W (.Subscript (.Name x p1) e p2) (eOwIx i m) := by
  obtain ⟨t, pt, q⟩ := h
  refine ⟨_, pe_ix ix_list pv pt hs, fun g sd S σ H Q w p => ?_⟩
  unfold eOwIx at p
  split at p
  · rename_i ds hd
    obtain ⟨v, h1, l, xs, e1, h2, h3, h4⟩ := w.e i _ hd (by simp)
    subst e1
    refine ⟨_, h1, ?_⟩
    refine stepE q w p fun d S1 g1 v H1 _ x w1 dv pp => ?_
    obtain ⟨d2, hd2, p3⟩ := of_eq pp
    obtain ⟨v', h1', l', xs', e1', h2', h3', h4'⟩ := w1.e i _ hd (by simp)
    subst e1'
    rw [h1] at h1'
    cases h1'
    cases dv with
    | int k =>
      obtain ⟨v2, r1, r2⟩ := h4'.atI hd2
      exact ⟨_, _, _, _, rfl, rfl, .inl (.inl h2'), r1, p3 g1 _ H1 (Ext.refl _) w1 r2⟩
    | _ => exact nomatch (show (none : Option PyData) = some _ from hd2)
  · exact p.elim
/-- len of one's own list -/
def eOwLen (i : Nat) : ME := fun sd S => match sd[i]? with
  | some (.ow ds) => .ok (.int ds.length) S
  | _ => .bad
theorem de_owLen (i : Nat) {x : Str} {p0 p1 p2 : Pos} (pv : PE X (.Name x p1) (tVar i)) (hsta : starEach [.Name x p1] X.env = (false, eval (.Name x p1) X.env) :: starEach [] X.env := by rfl)
    (pe : ∀ {r : List V → Hp → VK → Prop} {t : TA}, CallR X (.builtin "len") r → PA X [.Name x p1] t → PE X (.Call (.Name "len" p0) [.Name x p1] [] p2) (tCB r t)) : DE X W (.Call (.Name "len" p0) [.Name x p1] [] p2) (eOwLen i) := by
  refine ⟨_, pe call_len_seq (pa_cons pv pa_nil hsta), fun g sd S σ H Q w p => ?_⟩
  unfold eOwLen at p
  split at p
  · rename_i ds hd
    obtain ⟨v, h1, l, xs, e1, h2, h3, h4⟩ := w.e i _ hd (by simp)
    subst e1
    refine ⟨_, h1, l, xs, rfl, .inl (.inl (.inl h2)), ?_⟩
    rw [h4.length]
    exact p g _ H (Ext.refl _) w (.int _)
  · exact p.elim
/-- the truth of one's own list -/
def eOwTru (i : Nat) : ME := fun sd S => match sd[i]? with
  | some (.ow ds) => .ok (.bool !ds.isEmpty) S
  | _ => .bad
theorem dt_owTru (i : Nat) {x : Str} {p1 : Pos} (pv : PE X (.Name x p1) (tVar i)) (he : ∀ whole, isTrue (.Name x p1) X.env whole = (do let v ← whole; standAt p1; holding [v] (truthy v)) := by intro _; rfl) : DT X W (.Name x p1) (eOwTru i) := by
  refine ⟨_, pt_truth pv he, fun g sd S σ H Q w p => ?_⟩
  unfold eOwTru at p
  split at p
  · rename_i ds hd
    obtain ⟨v, h1, l, xs, e1, h2, h3, h4⟩ := w.e i _ hd (by simp)
    subst e1
    exact ⟨_, h1, _, .inl ⟨xs, .inl (.inl h2), rfl⟩, by rw [← h4.isEmpty]; exact p g H (Ext.refl _) w⟩
  · exact p.elim
end
end Bc

/-! Bc5: targets, walks, loops, comprehensions, errors, slices, isinstance, shared lists. -/
namespace Bc
open PySem PySem.Spec PyProof.Rows L2
/-! ### targets -/
abbrev MG := PyData → Sg → Option Sg
abbrev MGs := List PyData → Sg → Option Sg
/-- two lists that differ at some places alone -/
def Agr {α : Type} (is : List Nat) (l l' : List α) : Prop := l'.length = l.length ∧ ∀ j, j ∉ is → l'[j]? = l[j]?
theorem Agr.set {α : Type} {i : Nat} {l : List α} {x : α} : Agr [i] l (l.set i x) := ⟨List.length_set, fun j hj => List.getElem?_set_ne (fun e => hj (by rw [e]; exact List.mem_singleton.mpr rfl))⟩
theorem Agr.refl {α : Type} {is : List Nat} {l : List α} : Agr is l l := ⟨rfl, fun _ _ => rfl⟩
theorem Agr.trans {α : Type} {is js : List Nat} {l l1 l2 : List α} (a : Agr is l l1) (b : Agr js l1 l2) : Agr (is ++ js) l l2 :=
  ⟨b.1.trans a.1, fun j hj => (b.2 j (fun h => hj (List.mem_append_right _ h))).trans (a.2 j (fun h => hj (List.mem_append_left _ h)))⟩
def tG (K : PySem.W.Frag) (mg : Str → Option Value) (is : List Nat) (m : MG) : TG := fun v σ H Q => ∃ g sd S d sd', WfE K mg g sd S σ H ∧ Dv K mg g.D g.r v d ∧ m d sd = some sd' ∧ ∀ σ', WfE K mg g sd' S σ' H → Agr is σ σ' → Q σ' H
def tGs (K : PySem.W.Frag) (mg : Str → Option Value) (is : List Nat) (m : MGs) : TGs := fun v σ H Q => ∃ g sd S d sd', WfE K mg g sd S σ H ∧ DvA K mg g.D g.r v d ∧ m d sd = some sd' ∧ ∀ σ', WfE K mg g sd' S σ' H → Agr is σ σ' → Q σ' H
structure DG (X : Cx) (is : List Nat) (tg : Expr) (m : MG) : Prop where
  pg : PG X tg (tG X.K X.mg is m)
  ok : ∀ d sd sd', m d sd = some sd' → Agr is sd sd'
structure DGs (X : Cx) (is : List Nat) (tg : List Expr) (m : MGs) : Prop where
  pg : PGs X tg (tGs X.K X.mg is m)
  ok : ∀ d sd sd', m d sd = some sd' → Agr is sd sd'
def gN (i : Nat) : MG := fun d sd => some (sd.set i (.im d))
def gsNil : MGs := fun ds sd => match ds with
  | [] => some sd
  | _ => none
def gsCons (m : MG) (r : MGs) : MGs := fun ds sd => match ds with
  | d :: ds => (m d sd).bind (r ds)
  | [] => none
def gT (r : MGs) : MG := fun d sd => match d with
  | .tuple ds => r ds sd
  | _ => none
section
variable {X : Cx} {W : WW} {pos : Pos}
theorem dg_name (i : Nat) {x : Str} (hN : X.N.Nodup) (hi : X.N[i]? = some x := by rfl) (hx : Loc X.env.scope x := by first | exact .inl rfl | exact .inr rfl) (hf : X.fn x = true ∨ X.env.scope.names.lookup x = some .local := by first | exact .inl rfl | exact .inr rfl) : DG X [i] (.Name x pos) (gN i) where
  pg := by
    refine ⟨fun pins s σ H v u Q I r h => (pg_name hN hi hx hf).run pins s σ H v u Q I r ?_⟩
    obtain ⟨g, sd, S, d, sd', w, dv, e, q⟩ := h
    cases (Option.some.inj e)
    exact q _ (w.set dv) Agr.set
  ok := fun d sd sd' e => by
    cases (Option.some.inj e)
    exact Agr.set
theorem dgs_nil : DGs X [] [] gsNil where
  pg := by
    refine ⟨fun pins s σ H v u Q I r h => pgs_nil.run pins s σ H v u Q I r ?_⟩
    obtain ⟨g, sd, S, d, sd', w, dv, e, q⟩ := h
    cases dv with
    | nil =>
      cases (Option.some.inj e)
      exact ⟨rfl, q _ w Agr.refl⟩
    | cons _ _ => exact nomatch e
  ok := fun d sd sd' e => by
    cases d with
    | nil =>
      cases (Option.some.inj e)
      exact Agr.refl
    | cons _ _ => exact nomatch e
theorem dgs_cons {e : Expr} {es : List Expr} {is js : List Nat} {m : MG} {r : MGs} (h1 : DG X is e m) (h2 : DGs X js es r) (hs : (assignEach (e :: es) X.env).map (·.2) = assign e X.env :: (assignEach es X.env).map (·.2) := by rfl) : DGs X (is ++ js) (e :: es) (gsCons m r) where
  pg := by
    refine ⟨fun pins s σ H v u Q I rr h => (pgs_cons h1.pg h2.pg hs).run pins s σ H v u Q I rr ?_⟩
    obtain ⟨g, sd, S, d, sd', w, dv, e, q⟩ := h
    cases dv with
    | nil => exact nomatch e
    | cons a b =>
      rename_i d1 ds
      have e : (m d1 sd).bind (r ds) = some sd' := e
      cases hm : m d1 sd with
      | none =>
        rw [hm] at e
        cases e
      | some sd1 =>
        rw [hm] at e
        exact ⟨_, _, rfl, g, sd, S, d1, sd1, w, a, hm, fun σ' w' ag => ⟨g, sd1, S, ds, sd', w', b, e, fun σ2 w2 ag2 => q σ2 w2 (ag.trans ag2)⟩⟩
  ok := fun d sd sd' e => by
    cases d with
    | nil => exact nomatch e
    | cons d1 ds =>
      have e : (m d1 sd).bind (r ds) = some sd' := e
      cases hm : m d1 sd with
      | none =>
        rw [hm] at e
        cases e
      | some sd1 =>
        rw [hm] at e
        exact (h1.ok _ _ _ hm).trans (h2.ok _ _ _ e)
theorem dg_tup {es : List Expr} {k : Nat} {m : MGs} {n : Nat} {is : List Nat} (hc : X.calm = true) (h : DGs X is es m) (hlen : ∀ ds sd sd', m ds sd = some sd' → ds.length = n) (hn : (assignEach es X.env).length = n := by rfl) (hst : (assignEach es X.env).findIdx? (·.1) = none := by rfl) : DG X is (.Tuple es k pos) (gT m) where
  pg := by
    refine ⟨fun pins s σ H v u Q I rr h' => (pg_tup hc h.pg hn hst).run pins s σ H v u Q I rr ?_⟩
    obtain ⟨g, sd, S, d, sd', w, dv, e, q⟩ := h'
    cases dv with
    | tup ht ha =>
      have e : m _ sd = some sd' := e
      exact ⟨_, _, rfl, Same.tup w.w.dh ht, by rw [ha.length]; exact hlen _ _ _ e, g, sd, S, _, sd', w, ha, e, q⟩
    | _ => exact nomatch e
  ok := fun d sd sd' e => by
    cases d with
    | tuple ds => exact h.ok _ _ _ e
    | _ => exact nomatch e
theorem gsNil_len : ∀ ds sd sd', gsNil ds sd = some sd' → ds.length = 0 := fun ds sd sd' e => by
  cases ds with
  | nil => rfl
  | cons _ _ => exact nomatch e
theorem gsCons_len {m : MG} {r : MGs} {n : Nat} (h : ∀ ds sd sd', r ds sd = some sd' → ds.length = n) : ∀ ds sd sd', gsCons m r ds sd = some sd' → ds.length = n + 1 := fun ds sd sd' e => by
  cases ds with
  | nil => exact nomatch e
  | cons d ds =>
    have e : (m d sd).bind (r ds) = some sd' := e
    cases hm : m d sd with
    | none =>
      rw [hm] at e
      cases e
    | some sd1 =>
      rw [hm] at e
      rw [List.length_cons, h _ _ _ e]
def sAsg (m : ME) (t : MG) : MS := fun sd S => (m sd S).bindS sd fun d S1 => match t d sd with
  | some sd' => .nx sd' S1
  | none => .bad
theorem ds_asg {tg e : Expr} {m : ME} {t : MG} {is : List Nat} (he : DE X W e m) (hg : DG X is tg t) (ps : ∀ {te : TE} {g : TG}, PE X e te → PG X tg g → PS X (.Assign [tg] e pos) (tAsg te g)) : DS X W (.Assign [tg] e pos) (sAsg m t) := by
  obtain ⟨te, pe, q⟩ := he
  refine ⟨_, ps pe hg.pg, fun g sd S σ H D w p => ?_⟩
  refine stepES q w p fun d S1 g1 v H1 _ x w1 dv pp => ?_
  split at pp
  · rename_i sd' e
    exact ⟨g1, sd, S1, d, sd', w1, dv, e, fun σ' w' _ => pp g1 σ' H1 (Ext.refl _) w'⟩
  · exact pp.elim
end
/-! ### what is walked -/
structure ItOk (K : PySem.W.Frag) (mg : Str → Option Value) (g : Gh) (J : It) (ds : List PyData) : Prop where
  go : ∀ H i d, Same g.D H → ds[i]? = some d → J.go i H ∧ ∀ x H', J.yld i H x H' → H' = H ∧ Dv K mg g.D g.r x d
  stop : ∀ H i, Same g.D H → ds.length ≤ i → J.stop i H
def PostI (K : PySem.W.Frag) (mg : Str → Option Value) (g : Gh) (sd : Sg) (σ : L2.St) (W : WW) (Rr : It → Hp → Prop) : RL → Prop
  | .ok ds S' => ∀ g' J H', Ext g g' → WfE K mg g' sd S' σ H' → ItOk K mg g' J ds → Rr J H'
  | .exc x S' => ∀ g' H', Ext g g' → WfE K mg g' sd S' σ H' → W (xc mg x) none σ H'
  | .bad => False
def DI (X : Cx) (W : WW) (tg iter : Expr) (m : MA) : Prop := ∃ wi, PI X tg iter wi ∧ ∀ g sd S σ H Rr, WfE X.K X.mg g sd S σ H → PostI X.K X.mg g sd σ W Rr (m sd S) → wi σ H Rr
def iSeqD : PyData → Option (List PyData)
  | .list ds => some ds
  | .tuple ds => some ds
  | .dict [(.list ds, .none)] => some ds
  | _ => none
def RL.of (s : Sto) : Option (List PyData) → RL
  | some d => .ok d s
  | none => .bad
@[simp] theorem RL.of_some {s d} : RL.of s (some d) = .ok d s := rfl
@[simp] theorem RL.of_none {s} : RL.of s none = .bad := rfl
def iSeq (m : ME) : MA := fun sd S => (m sd S).bindL fun d S1 => RL.of S1 (iSeqD d)
section
variable {X : Cx} {W : WW} {tg : Expr}
theorem pi_seq {l : Expr} {tl : TE} (hl : PE X l tl) : PI X tg l (fun σ H Rr => tl σ H fun x H1 => ∃ a, x = .ref a ∧ (((∃ xs, SqL X.K H1 a xs) ∧ Rr (Itl X.K a) H1) ∨ ((∃ xs, SqT X.K H1 a xs) ∧ Rr (Itt X.K a) H1))) := by
  refine ⟨fun pins s σ H Rr I h => ?_⟩
  refine thn (hl.run pins s σ H _ I h) fun v s1 ⟨x, H1, I1, r1, q1⟩ => ?_
  obtain ⟨a, e, q⟩ := q1
  subst e
  cases r1
  rcases q with ⟨⟨xs, hq⟩, q⟩ | ⟨⟨xs, hq⟩, q⟩
  · obtain ⟨its, rv, p, hz⟩ := I1.list hq
    refine wpAny_pyIter_list p.isList ?_
    refine ⟨s1.heap.objs.size, [s1.heap.objs.size], _, _, H1, rfl, I1.kept (t' := s1.toks) fun b o e => Heap.get?_push_of_some _ e, turn_list a _, ⟨_, Heap.get?_push_size _ rfl, rfl, rfl⟩, fun b hb => ?_, q⟩
    have e : b = s1.heap.objs.size := by simpa using hb
    subst e
    exact I1.fpOk (Nat.le_refl _) (I1.hok.fresh (Nat.le_refl _))
  · obtain ⟨its, rv, p, hz⟩ := I1.tuple hq
    refine wpAny_pyIter_tuple (show s1.heap.IsTuple a its.toArray from p) ?_
    refine ⟨s1.heap.objs.size, [s1.heap.objs.size], _, _, H1, rfl, I1.kept (t' := s1.toks) fun b o e => Heap.get?_push_of_some _ e, turn_tuple a _, ⟨_, Heap.get?_push_size _ rfl, rfl, rfl⟩, fun b hb => ?_, q⟩
    have e : b = s1.heap.objs.size := by simpa using hb
    subst e
    exact I1.fpOk (Nat.le_refl _) (I1.hok.fresh (Nat.le_refl _))
theorem it_list {K : PySem.W.Frag} {mg : Str → Option Value} {g : Gh} {a : Addr} {xs : List V} {ds : List PyData} (h : SqL K g.D a xs) (hA : DvA K mg g.D g.r xs ds) : ItOk K mg g (Itl K a) ds where
  go := fun H i d s e => by
    obtain ⟨x, h1, h2⟩ := hA.get' e
    refine ⟨⟨xs, x, s.seq h, h1⟩, fun y H' q => ?_⟩
    obtain ⟨q1, q2⟩ := q
    have := q2 xs (s.seq h)
    rw [h1] at this
    cases this
    exact ⟨q1, h2⟩
  stop := fun H i s e => ⟨xs, s.seq h, by rw [hA.length]; exact e⟩
theorem it_tup {K : PySem.W.Frag} {mg : Str → Option Value} {g : Gh} {a : Addr} {xs : List V} {ds : List PyData} (h : SqT K g.D a xs) (hA : DvA K mg g.D g.r xs ds) : ItOk K mg g (Itt K a) ds where
  go := fun H i d s e => by
    obtain ⟨x, h1, h2⟩ := hA.get' e
    refine ⟨⟨xs, x, Same.tup s h, h1⟩, fun y H' q => ?_⟩
    obtain ⟨q1, q2⟩ := q
    have := q2 xs (Same.tup s h)
    rw [h1] at this
    cases this
    exact ⟨q1, h2⟩
  stop := fun H i s e => ⟨xs, Same.tup s h, by rw [hA.length]; exact e⟩
theorem stepEI {t : TE} {m : ME} (ht : ∀ g sd S σ H Q, WfE X.K X.mg g sd S σ H → PostE X.K X.mg g sd σ W Q (m sd S) → t σ H Q) {g : Gh} {sd : Sg} {S : Sto} {σ : L2.St} {H : Hp} {Q : VK} {Rr : It → Hp → Prop} {f : PyData → Sto → RL}
    (w : WfE X.K X.mg g sd S σ H) (p : PostI X.K X.mg g sd σ W Rr ((m sd S).bindL f))
    (k : ∀ d S1 g1 v H1, m sd S = .ok d S1 → Ext g g1 → WfE X.K X.mg g1 sd S1 σ H1 → Dv X.K X.mg g1.D g1.r v d → PostI X.K X.mg g1 sd σ W Rr (f d S1) → Q v H1) : t σ H Q := by
  refine ht g sd S σ H Q w ?_
  cases hm : m sd S with
  | ok d S1 =>
    rw [hm] at p
    have p : PostI X.K X.mg g sd σ W Rr (f d S1) := p
    intro g' v H' x w' dv
    refine k d S1 g' v H' hm x w' dv ?_
    cases hf : f d S1 with
    | ok ds S2 =>
      rw [hf] at p
      exact fun g2 J H2 x2 w2 io => p g2 J H2 (x.trans x2) w2 io
    | exc y S2 =>
      rw [hf] at p
      exact fun g2 H2 x2 w2 => p g2 H2 (x.trans x2) w2
    | bad =>
      rw [hf] at p
      exact p.elim
  | exc y S1 =>
    rw [hm] at p
    exact p
  | bad =>
    rw [hm] at p
    exact p.elim
theorem stepAI {t : TA} {m : MA} (ht : ∀ g sd S σ H Q, WfE X.K X.mg g sd S σ H → PostA X.K X.mg g sd σ W Q (m sd S) → t σ H Q) {g : Gh} {sd : Sg} {S : Sto} {σ : L2.St} {H : Hp} {Q : List V → Hp → Prop} {Rr : It → Hp → Prop} {f : List PyData → Sto → RL}
    (w : WfE X.K X.mg g sd S σ H) (p : PostI X.K X.mg g sd σ W Rr ((m sd S).bindL f))
    (k : ∀ d S1 g1 v H1, m sd S = .ok d S1 → Ext g g1 → WfE X.K X.mg g1 sd S1 σ H1 → DvA X.K X.mg g1.D g1.r v d → PostI X.K X.mg g1 sd σ W Rr (f d S1) → Q v H1) : t σ H Q := by
  refine ht g sd S σ H Q w ?_
  cases hm : m sd S with
  | ok d S1 =>
    rw [hm] at p
    have p : PostI X.K X.mg g sd σ W Rr (f d S1) := p
    intro g' v H' x w' dv
    refine k d S1 g' v H' hm x w' dv ?_
    cases hf : f d S1 with
    | ok ds S2 =>
      rw [hf] at p
      exact fun g2 J H2 x2 w2 io => p g2 J H2 (x.trans x2) w2 io
    | exc y S2 =>
      rw [hf] at p
      exact fun g2 H2 x2 w2 => p g2 H2 (x.trans x2) w2
    | bad =>
      rw [hf] at p
      exact p.elim
  | exc y S1 =>
    rw [hm] at p
    exact p
  | bad =>
    rw [hm] at p
    exact p.elim
theorem di_seq {l : Expr} {m : ME} (h : DE X W l m) : DI X W tg l (iSeq m) := by
  obtain ⟨t, pt, q⟩ := h
  refine ⟨_, pi_seq pt, fun g sd S σ H Rr w p => ?_⟩
  refine stepEI q w p fun d S1 g1 v H1 _ x w1 dv pp => ?_
  cases dv with
  | lst h hA => exact ⟨_, rfl, .inl ⟨⟨_, .inl (.inl (w1.w.dh _ _ h))⟩, pp g1 _ H1 (Ext.refl _) w1 (it_list (.inl (.inl h)) hA)⟩⟩
  | tup h hA => exact ⟨_, rfl, .inr ⟨⟨_, Same.tup w1.w.dh h⟩, pp g1 _ H1 (Ext.refl _) w1 (it_tup h hA)⟩⟩
  | frl h hA => exact ⟨_, rfl, .inl ⟨⟨_, w1.w.dh.seq h⟩, pp g1 _ H1 (Ext.refl _) w1 (it_list h hA)⟩⟩
  | _ => exact pp.elim
def rangeD (lo : Int) (n : Nat) : List PyData := (List.range n).map fun i => .int (lo + (i : Nat))
def rng1 : List PyData → Option (List PyData)
  | [.int j] => if -1000000000000 ≤ j ∧ j ≤ 1000000000000 then some (rangeD 0 j.toNat) else none
  | _ => none
def rng2 : List PyData → Option (List PyData)
  | [.int i, .int j] => if (-1000000000000 ≤ i ∧ i ≤ 1000000000000) ∧ (-1000000000000 ≤ j ∧ j ≤ 1000000000000) then some (rangeD i (j - i).toNat) else none
  | _ => none
theorem it_range {K : PySem.W.Frag} {mg : Str → Option Value} {g : Gh} {lo : Int} {n : Nat} : ItOk K mg g (Itr lo n) (rangeD lo n) where
  go := fun H i d s e => by
    unfold rangeD at e
    rw [List.getElem?_map] at e
    by_cases hi : i < n
    · rw [List.getElem?_range hi] at e
      cases (Option.some.inj e)
      exact ⟨hi, fun x H' q => ⟨q.1, by rw [q.2]; exact .int _⟩⟩
    · rw [List.getElem?_eq_none (by rw [List.length_range]; omega)] at e
      cases e
  stop := fun H i s e => by
    unfold rangeD at e
    rw [List.length_map, List.length_range] at e
    exact e
def iRng (f : List PyData → Option (List PyData)) (ma : MA) : MA := fun sd S => (ma sd S).bindL fun ds S1 => RL.of S1 (f ds)
theorem di_rng1 {a : Expr} {ma : MA} {p pos : Pos} (h : DA X W [a] ma) (pi : ∀ {ta : TA}, PA X [a] ta → PI X tg (.Call (.Name "range" p) [a] [] pos) (iRng1 ta)) : DI X W tg (.Call (.Name "range" p) [a] [] pos) (iRng rng1 ma) := by
  obtain ⟨t, pt, q⟩ := h
  refine ⟨_, pi pt, fun g sd S σ H Rr w p => ?_⟩
  refine stepAI q w p fun ds S1 g1 vs H1 _ x w1 dv pp => ?_
  unfold rng1 at pp
  split at pp
  · rename_i j _
    split at pp
    · rename_i hj
      cases dv with
      | cons a b =>
        cases b
        cases a
        exact ⟨j, rfl, by omega, by omega, pp g1 _ H1 (Ext.refl _) w1 it_range⟩
    · exact pp.elim
  · exact pp.elim
theorem di_rng2 {a b : Expr} {ma : MA} {p pos : Pos} (h : DA X W [a, b] ma) (pi : ∀ {ta : TA}, PA X [a, b] ta → PI X tg (.Call (.Name "range" p) [a, b] [] pos) (iRng2 ta)) : DI X W tg (.Call (.Name "range" p) [a, b] [] pos) (iRng rng2 ma) := by
  obtain ⟨t, pt, q⟩ := h
  refine ⟨_, pi pt, fun g sd S σ H Rr w p => ?_⟩
  refine stepAI q w p fun ds S1 g1 vs H1 _ x w1 dv pp => ?_
  unfold rng2 at pp
  split at pp
  · rename_i i j _
    split at pp
    · rename_i hj
      have e := two_ints dv
      subst e
      exact ⟨i, j, rfl, ⟨by omega, by omega, by omega, by omega⟩, pp g1 _ H1 (Ext.refl _) w1 it_range⟩
    · exact pp.elim
  · exact pp.elim
/-! ### for -/
def forLoop (t : MG) (b : MS) : List PyData → MS
  | [], sd, S => .nx sd S
  | x :: xs, sd, S => match t x sd with
    | none => .bad
    | some sd1 => match b sd1 S with
      | .nx sd2 S2 => forLoop t b xs sd2 S2
      | .ct sd2 S2 => forLoop t b xs sd2 S2
      | .brk sd2 S2 => .nx sd2 S2
      | r => r
def sFor (mi : MA) (t : MG) (b : MS) : MS := fun sd S => (mi sd S).bindS sd fun xs S1 => forLoop t b xs sd S1
theorem ItOk.ext {K : PySem.W.Frag} {mg : Str → Option Value} {g g' : Gh} {J : It} {ds : List PyData} (h : ItOk K mg g J ds) (x : Ext g g') : ItOk K mg g' J ds where
  go := fun H i d s e => by
    obtain ⟨h1, h2⟩ := h.go H i d (x.d.trans s) e
    exact ⟨h1, fun y H' q => ⟨(h2 y H' q).1, x.dv (h2 y H' q).2⟩⟩
  stop := fun H i s e => h.stop H i (x.d.trans s) e
theorem ds_for {iter : Expr} {body : List Stmt} {mi : MA} {t : MG} {b : MS} {is : List Nat} {pos : Pos} (hp : PassesOwn (model X.prog X.w) X.A X.env X.xe) (hc : X.calm = true) (hi : DI X W tg iter mi) (hg : DG X is tg t) (hb : DSs X W body b)
    (hs : ∀ x, foldedSetIterable iter X.env x = pure x := by intro _; rfl) : DS X W (.For tg iter body [] pos) (sFor mi t b) := by
  obtain ⟨wi, pi, qi⟩ := hi
  obtain ⟨tb, pb, qb⟩ := hb
  refine ⟨_, ps_for hp hc pi hg.pg pb hs, fun g sd S σ H D w p => ?_⟩
  refine qi g sd S σ H _ w ?_
  unfold sFor at p
  cases hm : mi sd S with
  | exc y S1 =>
    rw [hm] at p
    exact fun g' H' x w' => p g' σ H' x w'
  | bad =>
    rw [hm] at p
    exact p.elim
  | ok ds S1 =>
    rw [hm] at p
    have p : PostS X.K X.mg g W D (forLoop t b ds sd S1) := p
    intro g1 J H1 x1 w1 io
    refine ⟨fun i m σ' H' => m = ds.length - i ∧ i ≤ ds.length ∧ ∃ g2 sd2 S2, Ext g1 g2 ∧ WfE X.K X.mg g2 sd2 S2 σ' H' ∧ PostS X.K X.mg g2 W D (forLoop t b (ds.drop i) sd2 S2), ⟨ds.length, by simp, Nat.zero_le _, g1, sd, S1, Ext.refl _, w1, PostS.ext x1 p⟩, ?_⟩
    rintro i m σ' H' ⟨rfl, hi, g2, sd2, S2, x2, w2, p2⟩
    by_cases hlt : i < ds.length
    · have hd : ds[i]? = some ds[i] := List.getElem?_eq_getElem hlt
      obtain ⟨go, yl⟩ := (io.ext x2).go H' i _ w2.w.dh hd
      rw [List.drop_eq_getElem_cons hlt] at p2
      have p2 : PostS X.K X.mg g2 W D (match t ds[i] sd2 with
        | none => .bad
        | some sd1 => match b sd1 S2 with
          | .nx sd2 S2 => forLoop t b (ds.drop (i + 1)) sd2 S2
          | .ct sd2 S2 => forLoop t b (ds.drop (i + 1)) sd2 S2
          | .brk sd2 S2 => .nx sd2 S2
          | r => r) := p2
      refine .inr ⟨go, fun σ3 H3 => ∃ g3 sd3 S3, Ext g1 g3 ∧ WfE X.K X.mg g3 sd3 S3 σ3 H3 ∧ PostS X.K X.mg g3 W D (forLoop t b (ds.drop (i + 1)) sd3 S3), fun σ3 H3 hN => ⟨ds.length - (i + 1), by omega, rfl, hlt, hN⟩, fun y H3 hy => ?_⟩
      obtain ⟨e, dv⟩ := yl y H3 hy
      subst e
      cases ht : t ds[i] sd2 with
      | none =>
        rw [ht] at p2
        exact p2.elim
      | some sd3 =>
        rw [ht] at p2
        have p2 : PostS X.K X.mg g2 W D (match b sd3 S2 with
          | .nx sd2 S2 => forLoop t b (ds.drop (i + 1)) sd2 S2
          | .ct sd2 S2 => forLoop t b (ds.drop (i + 1)) sd2 S2
          | .brk sd2 S2 => .nx sd2 S2
          | r => r) := p2
        refine ⟨g2, sd2, S2, ds[i], sd3, w2, dv, ht, fun σ4 w4 _ => ?_⟩
        refine qb _ _ _ _ _ _ w4 ?_
        cases hb : b sd3 S2 with
        | nx sd5 S5 =>
          rw [hb] at p2
          exact fun g5 σ5 H5 x5 w5 => ⟨g5, sd5, S5, x2.trans x5, w5, PostS.ext x5 p2⟩
        | ct sd5 S5 =>
          rw [hb] at p2
          exact fun g5 σ5 H5 x5 w5 => ⟨g5, sd5, S5, x2.trans x5, w5, PostS.ext x5 p2⟩
        | brk sd5 S5 =>
          rw [hb] at p2
          exact p2
        | ret d5 S5 =>
          rw [hb] at p2
          exact p2
        | exc y5 sd5 S5 =>
          rw [hb] at p2
          exact p2
        | bad =>
          rw [hb] at p2
          exact p2.elim
    · have e : i = ds.length := by omega
      subst e
      rw [List.drop_length] at p2
      exact .inl ⟨(io.ext x2).stop H' _ w2.w.dh (Nat.le_refl _), p2 g2 σ' H' (Ext.refl _) w2⟩
/-! ### while -/
def whileLoop (c : ME) (b : MS) : Nat → MS
  | 0, _, _ => .bad
  | n + 1, sd, S => (c sd S).bindS sd fun x S1 => onBS x (match b sd S1 with
      | .nx sd2 S2 => whileLoop c b n sd2 S2
      | .ct sd2 S2 => whileLoop c b n sd2 S2
      | .brk sd2 S2 => .nx sd2 S2
      | r => r) (.nx sd S1)
theorem ds_while {c : Expr} {body : List Stmt} {mc : ME} {b : MS} {pos : Pos} (n : Nat) (hp : PassesOwn (model X.prog X.w) X.A X.env X.xe) (hc : DT X W c mc) (hb : DSs X W body b) : DS X W (.While c body [] pos) (whileLoop mc b n) := by
  obtain ⟨tc, pc, qc⟩ := hc
  obtain ⟨tb, pb, qb⟩ := hb
  refine ⟨_, ps_while hp pc pb, fun g sd S σ H D w p => ?_⟩
  refine ⟨fun m σ' H' => ∃ g2 sd2 S2, Ext g g2 ∧ WfE X.K X.mg g2 sd2 S2 σ' H' ∧ PostS X.K X.mg g2 W D (whileLoop mc b m sd2 S2), ⟨n, g, sd, S, Ext.refl _, w, p⟩, ?_⟩
  rintro m σ' H' ⟨g2, sd2, S2, x2, w2, p2⟩
  cases m with
  | zero => exact p2.elim
  | succ m =>
    refine stepTS qc w2 p2 (fun _ _ h => onBS_bad h) fun k S3 g3 H3 x3 w3 p3 => ?_
    cases k with
    | false => exact iteF (p3 g3 σ' H3 (Ext.refl _) w3)
    | true =>
      refine iteT ⟨fun σ4 H4 => ∃ g4 sd4 S4, Ext g g4 ∧ WfE X.K X.mg g4 sd4 S4 σ4 H4 ∧ PostS X.K X.mg g4 W D (whileLoop mc b m sd4 S4), fun σ4 H4 h4 => ⟨m, Nat.lt_succ_self m, h4⟩, ?_⟩
      refine qb _ _ _ _ _ _ w3 ?_
      have p3 : PostS X.K X.mg g3 W D (match b sd2 S3 with
          | .nx sd2 S2 => whileLoop mc b m sd2 S2
          | .ct sd2 S2 => whileLoop mc b m sd2 S2
          | .brk sd2 S2 => .nx sd2 S2
          | r => r) := p3
      cases hb : b sd2 S3 with
      | nx sd5 S5 =>
        rw [hb] at p3
        exact fun g5 σ5 H5 x5 w5 => ⟨g5, sd5, S5, (x2.trans x3).trans x5, w5, PostS.ext x5 p3⟩
      | ct sd5 S5 =>
        rw [hb] at p3
        exact fun g5 σ5 H5 x5 w5 => ⟨g5, sd5, S5, (x2.trans x3).trans x5, w5, PostS.ext x5 p3⟩
      | brk sd5 S5 =>
        rw [hb] at p3
        exact p3
      | ret d5 S5 =>
        rw [hb] at p3
        exact p3
      | exc y5 sd5 S5 =>
        rw [hb] at p3
        exact p3
      | bad =>
        rw [hb] at p3
        exact p3.elim
/-! ### errors -/
structure ExcT (K : PySem.W.Frag) (mg : Str → Option Value) (x : Str) : Prop where
  ex : ∃ C, mg x = some (.ref C) ∧ PySem.W.excIn K C [.type "ValueError", .type "Exception", .type "BaseException", .type "object"] "ValueError.__new__" = true ∧ PySem.W.keepIn K (.ref C) = true ∧
    PySem.W.subIn K (.ref C) (.type "BaseException") = some true ∧ PySem.W.typeIn K (.ref C) = some (.type "type")
def sRaise (x : Str) : MS := fun sd S => .exc x sd S
theorem ds_raise {x m : Str} {j : Nat} {p p2 p3 pos : Pos} (hc : X.calm = true) (tk : Takes X W) (h : ExcT X.K X.mg x) (hg : Gl X x := by rfl) (hdb : (x == ("__debug__" : Str)) = false := by decide) :
    DS X W (.Raise (some (.Call (.Name x p) [.Constant (.str m) j p2] [] p3)) none pos) (sRaise x) := by
  obtain ⟨C, h1, h2, h3, h4, h5⟩ := h.ex
  refine ⟨_, ps_raise hc tk (pmk_own PySem.F.excBase_ValueError h2 h1 h3 (raises_own h4 h5) hg hdb), fun g sd S σ H D w p => ?_⟩
  have q := p g σ H (Ext.refl _) w
  have e : xc X.mg x = .ref C := by
    unfold xc
    rw [h1]
    rfl
  rw [e] at q
  exact q
/-! ### slices -/
def cutG {α : Type} (xs : List α) (lo hi : Option Int) : List α := (xs.drop (HT.sIx xs.length 0 lo)).take (HT.sIx xs.length xs.length hi - HT.sIx xs.length 0 lo)
def cutD (d : PyData) (lo hi : Option Int) : Option PyData := match d with
  | .list ds => some (.list (cutG ds lo hi))
  | .tuple ds => some (.tuple (cutG ds lo hi))
  | _ => none
abbrev MO := Sg → Sto → Option (Option Int × Sto)
def oNone : MO := fun _ S => some (none, S)
def oSome (m : ME) : MO := fun sd S => match m sd S with
  | .ok (.int i) S1 => some (some i, S1)
  | _ => none
def DO (X : Cx) (e : Option Expr) (m : MO) : Prop := ∃ t, PO X e t ∧ ∀ g sd S σ H Q i S1, WfE X.K X.mg g sd S σ H → m sd S = some (i, S1) → (∀ g' H', Ext g g' → WfE X.K X.mg g' sd S1 σ H' → Q i H') → t σ H Q
theorem do_none : DO X none oNone := ⟨_, po_none, fun g sd S σ H Q i S1 w e k => by
  cases e
  exact k g H (Ext.refl _) w⟩
theorem do_some {e : Expr} {m : ME} (h : DE X W e m) : DO X (some e) (oSome m) := by
  obtain ⟨t, pt, q⟩ := h
  refine ⟨_, po_some pt, fun g sd S σ H Q i S1 w e k => ?_⟩
  unfold oSome at e
  split at e
  · rename_i j S2 hm
    cases e
    refine q g sd S σ H _ w ?_
    rw [hm]
    intro g' v H' x w' dv
    cases dv
    exact ⟨j, rfl, k g' H' x w'⟩
  · cases e
def eSl (m : ME) (lo hi : MO) : ME := fun sd S => (m sd S).bind fun d S1 => match lo sd S1 with
  | some (l, S2) => match hi sd S2 with
    | some (u, S3) => R.of S3 (cutD d l u)
    | none => .bad
  | none => .bad
theorem DvA.cut {K : PySem.W.Frag} {mg : Str → Option Value} {D : Hp} {r : List Addr} {vs : List V} {ds : List PyData} (h : DvA K mg D r vs ds) (lo hi : Option Int) : DvA K mg D r (cutV vs lo hi) (cutG ds lo hi) := by
  unfold cutV cutG
  rw [h.length]
  exact (h.drop _).take _
theorem HT_whole {α : Type} {xs : List α} {lo hi : Option Int} (h : HT.sIx xs.length 0 lo = 0 ∧ HT.sIx xs.length xs.length hi = xs.length) : cutG xs lo hi = xs := by
  unfold cutG
  rw [h.1, h.2]
  simp
theorem de_sl {e : Expr} {lo hi : Option Expr} {m : ME} {ml mh : MO} {pos p2 : Pos} (h : DE X W e m) (hl : DO X lo ml) (hh : DO X hi mh) : DE X W (.Subscript e (.Slice lo hi none p2) pos) (eSl m ml mh) := by
  obtain ⟨t, pt, q⟩ := h
  obtain ⟨tl, ptl, ql⟩ := hl
  obtain ⟨th, pth, qh⟩ := hh
  refine ⟨_, pe_slice (sl_list.or sl_tupA) pt ptl pth, fun g sd S σ H Q w p => ?_⟩
  refine stepE q w p fun d S1 g1 v H1 _ x w1 dv pp => ?_
  split at pp
  · rename_i l S2 e2
    split at pp
    · rename_i u S3 e3
      refine ql _ _ _ _ _ _ _ _ w1 e2 fun g2 H2 x2 w2 => ?_
      refine qh _ _ _ _ _ _ _ _ w2 e3 fun g3 H3 x3 w3 => ?_
      obtain ⟨d2, hd2, p3⟩ := of_eq (PostE.ext (x2.trans x3) pp)
      have dv' := (x2.trans x3).dv dv
      cases dv' with
      | @lst _ zs _ h hA =>
        cases (Option.some.inj hd2)
        refine .inl ⟨_, _, rfl, .inl (.inl (w3.w.dh _ _ h)), fun a hp => ?_⟩
        have G := Gro.new (o := .lst (cutV zs l u)) w3.w.dh hp
        exact post_gro w3 p3 _ _ _ G (.lst upd_same ((hA.cut l u).mono G.d List.prefix_rfl))
      | @tup _ zs _ h hA =>
        cases (Option.some.inj hd2)
        refine .inr ⟨_, _, rfl, Same.tup w3.w.dh h, fun hw => ?_, fun hw a hp => ?_⟩
        · rw [hA.length] at hw
          rw [HT_whole hw] at p3
          exact p3 g3 _ H3 (Ext.refl _) w3 (.tup h hA)
        · have G := Gro.new (o := .tup (cutV zs l u)) w3.w.dh hp
          exact post_gro w3 p3 _ _ _ G (.tup (.inl (.inl upd_same)) ((hA.cut l u).mono G.d List.prefix_rfl))
      | _ => exact nomatch (show (none : Option PyData) = some _ from hd2)
    · exact pp.elim
  · exact pp.elim
/-! ### isinstance of built-in types -/
def isTy (n : String) : PyData → Option Bool
  | .none => kitB "NoneType" n
  | .bool _ => kitB "bool" n
  | .int _ => kitB "int" n
  | .str _ => kitB "str" n
  | .list _ => kitB "list" n
  | .tuple _ => kitB "tuple" n
  | .dict _ => none
def eIs (n : String) (m : ME) : ME := fun sd S => (m sd S).bind fun d S1 => R.of S1 ((isTy n d).map .bool)
theorem is_ty {K : PySem.W.Frag} {mg : Str → Option Value} {D H : Hp} {r : List Addr} {v : V} {d : PyData} {n : String} {b : Bool} (s : Same D H) (h : Dv K mg D r v d) (e : isTy n d = some b) : ∃ t, TyX K H v t ∧ PySem.W.kitOne K t (.type n) = some b := by
  cases h with
  | non => exact ⟨_, .base .non, kit_ty e⟩
  | bl x => exact ⟨_, .base (.bl x), kit_ty e⟩
  | int x => exact ⟨_, .base (.int x), kit_ty e⟩
  | str x => exact ⟨_, .base (.str x), kit_ty e⟩
  | lst h _ => exact ⟨_, .base (.lst (s _ _ h)), kit_ty e⟩
  | tup h _ =>
    rcases h with (h | ⟨o, h⟩) | ⟨o, its, k, hk, hc, _⟩
    · exact ⟨_, .base (.tup (s _ _ h)), kit_ty e⟩
    · exact ⟨_, .fTuple (s _ _ h), kit_ty e⟩
    · exact ⟨_, .kTuple hk hc, kit_ty e⟩
  | frl _ _ => exact nomatch e
  | obj _ => exact nomatch e
  | exn _ => exact nomatch e
theorem de_is (n : String) {e : Expr} {x : Str} {m : ME} {p p1 pos : Pos} (h : DE X W e m) (hT : PE X (.Name x p1) (tC (.ty n)))
    (pe : ∀ {r : List V → Hp → VK → Prop} {t : TA}, CallR X (.builtin "isinstance") r → PA X [e, .Name x p1] t → PE X (.Call (.Name "isinstance" p) [e, .Name x p1] [] pos) (tCB r t))
    (h1 : starEach [e, .Name x p1] X.env = (false, eval e X.env) :: starEach [.Name x p1] X.env := by rfl) (h2 : starEach [.Name x p1] X.env = (false, eval (.Name x p1) X.env) :: starEach [] X.env := by rfl) :
    DE X W (.Call (.Name "isinstance" p) [e, .Name x p1] [] pos) (eIs n m) := by
  obtain ⟨t, pt, q⟩ := h
  refine ⟨_, pe call_isi (pa_cons pt (pa_cons hT pa_nil h2) h1), fun g sd S σ H Q w p => ?_⟩
  refine stepE q w p fun d S1 g1 v H1 _ x w1 dv pp => ?_
  cases ht : isTy n d with
  | none =>
    rw [ht] at pp
    exact pp.elim
  | some b =>
    rw [ht] at pp
    obtain ⟨ty, k1, k2⟩ := is_ty w1.w.dh dv ht
    exact ⟨_, _, ty, _, b, rfl, .ty n, k1, k2, pp g1 _ H1 (Ext.refl _) w1 (.bl b)⟩
end
end Bc

/-! Bc6: comprehensions, shared lists. -/
namespace Bc
open PySem PySem.Spec PyProof.Rows L2
def wipeD (sd : Sg) : List Nat → Sg
  | [] => sd
  | v :: vs => (wipeD sd vs).set v .un
theorem wipeD_length (sd : Sg) : ∀ vs, (wipeD sd vs).length = sd.length
  | [] => rfl
  | v :: vs => by
    unfold wipeD
    rw [List.length_set, wipeD_length sd vs]
theorem wipeD_out {sd : Sg} {j : Nat} : ∀ {vs : List Nat}, j ∉ vs → (wipeD sd vs)[j]? = sd[j]?
  | [], _ => rfl
  | v :: vs, h => by
    unfold wipeD
    rw [List.getElem?_set_ne (fun e => h (by rw [e]; exact List.mem_cons_self))]
    exact wipeD_out fun q => h (List.mem_cons_of_mem _ q)
theorem wipeD_in {sd : Sg} {j : Nat} {sl : Sl} : ∀ {vs : List Nat}, j ∈ vs → (wipeD sd vs)[j]? = some sl → sl = .un
  | v :: vs, h, e => by
    unfold wipeD at e
    by_cases hv : v = j
    · subst hv
      by_cases hl : v < (wipeD sd vs).length
      · rw [List.getElem?_set_self hl] at e
        exact (Option.some.inj e).symm
      · rw [List.getElem?_eq_none (by rw [List.length_set]; omega)] at e
        cases e
    · rw [List.getElem?_set_ne hv] at e
      rcases List.mem_cons.mp h with q | q
      · exact absurd q.symm hv
      · exact wipeD_in q e
theorem wipe_in {σ : L2.St} {j : Nat} : ∀ {vs : List Nat}, j ∈ vs → j < σ.length → (wipe σ vs)[j]? = some none
  | v :: vs, h, hl => by
    unfold wipe
    by_cases hv : v = j
    · subst hv
      exact List.getElem?_set_self (by rw [wipe_length]; exact hl)
    · rw [List.getElem?_set_ne hv]
      rcases List.mem_cons.mp h with q | q
      · exact absurd q.symm hv
      · exact wipe_in q hl
theorem Agr.wipe {σ σ' : L2.St} {vs : List Nat} (h : Agr vs σ σ') : wipe σ' vs = wipe σ vs := by
  refine List.ext_getElem? fun j => ?_
  by_cases hj : j ∈ vs
  · by_cases hl : j < σ.length
    · rw [wipe_in hj hl, wipe_in hj (by rw [h.1]; exact hl)]
    · rw [List.getElem?_eq_none (by rw [wipe_length, h.1]; omega), List.getElem?_eq_none (by rw [wipe_length]; omega)]
  · rw [L2.wipe_out hj, L2.wipe_out hj]
    exact h.2 j hj
theorem wipeD_in' {sd : Sg} {j : Nat} : ∀ {vs : List Nat}, j ∈ vs → j < sd.length → (wipeD sd vs)[j]? = some .un
  | v :: vs, h, hl => by
    unfold wipeD
    by_cases hv : v = j
    · subst hv
      exact List.getElem?_set_self (by rw [wipeD_length]; exact hl)
    · rw [List.getElem?_set_ne hv]
      rcases List.mem_cons.mp h with q | q
      · exact absurd q.symm hv
      · exact wipeD_in' q hl
theorem Agr.wipeD {σ σ' : Sg} {vs : List Nat} (h : Agr vs σ σ') : wipeD σ' vs = wipeD σ vs := by
  refine List.ext_getElem? fun j => ?_
  by_cases hj : j ∈ vs
  · by_cases hl : j < σ.length
    · rw [wipeD_in' hj hl, wipeD_in' hj (by rw [h.1]; exact hl)]
    · rw [List.getElem?_eq_none (by rw [wipeD_length, h.1]; omega), List.getElem?_eq_none (by rw [wipeD_length]; omega)]
  · rw [wipeD_out hj, wipeD_out hj]
    exact h.2 j hj
theorem agr_wipe {σ : L2.St} {vs : List Nat} : Agr vs σ (wipe σ vs) := ⟨wipe_length _ _, fun j hj => L2.wipe_out hj⟩
theorem agr_wipeD {σ : Sg} {vs : List Nat} : Agr vs σ (wipeD σ vs) := ⟨wipeD_length _ _, fun j hj => wipeD_out hj⟩
theorem Agr.mem {α : Type} {is js : List Nat} {l l' : List α} (h : Agr is l l') (hs : ∀ i ∈ is, i ∈ js) : Agr js l l' := ⟨h.1, fun j hj => h.2 j fun q => hj (hs j q)⟩
theorem Agr.join {α : Type} {is : List Nat} {l l1 l2 : List α} (a : Agr is l l1) (b : Agr is l1 l2) : Agr is l l2 := ⟨b.1.trans a.1, fun j hj => (b.2 j hj).trans (a.2 j hj)⟩
theorem wipe_twice {σ : L2.St} {vs : List Nat} : wipe (wipe σ vs) vs = wipe σ vs := Agr.wipe agr_wipe
theorem wipeD_twice {σ : Sg} {vs : List Nat} : wipeD (wipeD σ vs) vs = wipeD σ vs := Agr.wipeD agr_wipeD
def noOw (sd : Sg) (vs : List Nat) : Bool := vs.all fun i => match sd[i]? with
  | some (.ow _) => false
  | _ => true
section
variable {K : PySem.W.Frag} {mg : Str → Option Value} {g g0 : Gh} {S S0 : Sto} {σ : L2.St} {H H0 : Hp} {sd : Sg} {vs : List Nat}
theorem WfE.wiped (w : WfE K mg g sd S σ H) : WfE K mg g (wipeD sd vs) S (wipe σ vs) H where
  w := w.w
  ln := by rw [wipeD_length, wipe_length, w.ln]
  e := fun j sl h1 h2 => by
    by_cases hj : j ∈ vs
    · exact absurd (wipeD_in hj h1) h2
    · rw [wipeD_out hj] at h1
      rw [L2.wipe_out hj]
      exact w.e j sl h1 h2
theorem WfE.unwipe (w0 : WfE K mg g0 sd S0 σ H0) (hD : Same g0.D g.D) (hr : g0.r <+: g.r) (hn : noOw sd vs = true) (w : WfE K mg g (wipeD sd vs) S (wipe σ vs) H) : WfE K mg g sd S σ H where
  w := w.w
  ln := w0.ln
  e := fun j sl h1 h2 => by
    by_cases hj : j ∈ vs
    · obtain ⟨v, h3, h4⟩ := w0.e j sl h1 h2
      refine ⟨v, h3, ?_⟩
      cases sl with
      | un => trivial
      | im d => exact Dv.mono hD hr h4
      | ow ds =>
        have := List.all_eq_true.mp hn j hj
        rw [h1] at this
        cases this
    · have := w.e j sl (by rw [wipeD_out hj]; exact h1) h2
      rw [L2.wipe_out hj] at this
      exact this
/-- a list that is made is framed -/
theorem Wf.frame {l : Addr} {o : HO} (w : Wf K mg g S H) (ht : g.t l = some .fr) (hl : H l = some o) : Wf K mg { g with F := upd g.F l o } S H where
  dh := w.dh
  dt := w.dt
  fm := fun a u e => by
    have e : upd g.F l o a = some u := e
    by_cases ha : a = l
    · subst ha
      rw [show upd g.F a o a = some o from upd_same] at e
      cases e
      exact ⟨hl, ht⟩
    · rw [show upd g.F l o a = g.F a from upd_ne ha] at e
      exact w.fm a u e
  st := w.st
  ln := w.ln
theorem WfE.frame {l : Addr} {o : HO} (w : WfE K mg g sd S σ H) (ht : g.t l = some .fr) (hl : H l = some o) : WfE K mg { g with F := upd g.F l o } sd S σ H := ⟨w.w.frame ht hl, w.ln, w.e⟩
/-- a framed list changes -/
theorem WfE.updFr {l : Addr} {o : HO} (w : WfE K mg g sd S σ H) (ht : g.t l = some .fr) : WfE K mg { g with F := upd g.F l o } sd S σ (upd H l o) where
  w := {
    dh := show Same g.D (upd H l o) from same_upd_tag w.w ht
    dt := fun a t e => by
      obtain ⟨h1, u, h2⟩ := w.w.dt a t e
      refine ⟨h1, ?_⟩
      by_cases ha : a = l
      · subst ha
        exact ⟨o, upd_same⟩
      · exact ⟨u, by rw [upd_ne ha]; exact h2⟩
    fm := fun a u e => by
      have e : upd g.F l o a = some u := e
      by_cases ha : a = l
      · subst ha
        rw [show upd g.F a o a = some o from upd_same] at e
        cases e
        exact ⟨upd_same, ht⟩
      · rw [show upd g.F l o a = g.F a from upd_ne ha] at e
        rw [upd_ne ha]
        exact w.w.fm a u e
    st := fun o' ob e => by
      obtain ⟨a, h1, h2, h3⟩ := w.w.st o' ob e
      refine ⟨a, h1, h2, ?_⟩
      have na := ne_tag h2 ht (fun z => nomatch z)
      cases ob with
      | shl ds =>
        obtain ⟨xs, q1, q2⟩ := h3
        exact ⟨xs, by rw [upd_ne na]; exact q1, q2⟩
      | inst c fs =>
        obtain ⟨C, dx, vs, q1, q2, q3, q4⟩ := h3
        exact ⟨C, dx, vs, q1, by rw [upd_ne na]; exact q2, q3, fun f sl v a b => (q4 f sl v a b).upd ht (fun z => nomatch z)⟩
    ln := w.w.ln }
  ln := w.ln
  e := fun j sl h1 h2 => by
    obtain ⟨v, h3, h4⟩ := w.e j sl h1 h2
    exact ⟨v, h3, h4.upd ht (fun z => nomatch z)⟩
/-- a framed list becomes a datum; the frame is F0 again -/
theorem WfE.pubFr {l : Addr} {xs : List V} {F0 : Hp} (w : WfE K mg g sd S σ H) (hF : g.F = upd F0 l (.lst xs)) (h0 : F0 l = none) :
    WfE K mg { g with D := upd g.D l (.lst xs), t := fun a => if a = l then none else g.t a, F := F0 } sd S σ H := by
  have hFl : g.F l = some (.lst xs) := by rw [hF]; exact upd_same
  obtain ⟨h2, h3⟩ := w.w.fm l _ hFl
  have hD := (w.w.dt l _ h3).1
  have sD : Same g.D (upd g.D l (.lst xs)) := same_new hD
  have sDH : Same (upd g.D l (.lst xs)) H := fun a u e => by
    by_cases ha : a = l
    · subst ha
      rw [upd_same] at e
      cases e
      exact h2
    · rw [upd_ne ha] at e
      exact w.w.dh a u e
  have tne : ∀ a t, (if a = l then none else g.t a) = some t → a ≠ l ∧ g.t a = some t := fun a t e => by
    by_cases ha : a = l
    · rw [if_pos ha] at e
      cases e
    · rw [if_neg ha] at e
      exact ⟨ha, e⟩
  have tk : ∀ a t, g.t a = some t → t ≠ .fr → (if a = l then none else g.t a) = some t := fun a t e hn => by
    rw [if_neg (ne_tag e h3 hn)]
    exact e
  have slk : ∀ tg sl v, tg ≠ .fr → SlR K mg g H tg sl v → SlR K mg { g with D := upd g.D l (.lst xs), t := fun a => if a = l then none else g.t a, F := F0 } H tg sl v := fun tg sl v hn q => by
    cases sl with
    | un => trivial
    | im d => exact Dv.mono sD List.prefix_rfl q
    | ow es =>
      obtain ⟨l', ys, e, r1, r2, r3⟩ := q
      exact ⟨l', ys, e, r1, tk _ _ r2 hn, r3.mono sD List.prefix_rfl⟩
  refine ⟨⟨sDH, fun a t e => ?_, fun a u e => ?_, fun o ob e => ?_, w.w.ln⟩, w.ln, fun j sl q1 q2 => ?_⟩
  · obtain ⟨ha, e⟩ := tne a t e
    obtain ⟨q1, q2⟩ := w.w.dt a t e
    refine ⟨?_, q2⟩
    show upd g.D l _ a = none
    rw [upd_ne ha]
    exact q1
  · have ha : a ≠ l := by
      rintro rfl
      have e : F0 a = some u := e
      rw [h0] at e
      cases e
    obtain ⟨q1, q2⟩ := w.w.fm a u (by rw [hF, upd_ne ha]; exact e)
    refine ⟨q1, ?_⟩
    show (if a = l then none else g.t a) = _
    rw [if_neg ha]
    exact q2
  · obtain ⟨a, q1, q2, q3⟩ := w.w.st o ob e
    refine ⟨a, q1, tk _ _ q2 (fun z => nomatch z), ?_⟩
    cases ob with
    | shl es =>
      obtain ⟨ys, r1, r2⟩ := q3
      exact ⟨ys, r1, r2.mono sD List.prefix_rfl⟩
    | inst c fs =>
      obtain ⟨C, dx, vs, r1, r2, r3, r4⟩ := q3
      exact ⟨C, dx, vs, r1, r2, r3, fun f sl v a b => slk _ _ _ (fun z => nomatch z) (r4 f sl v a b)⟩
  · obtain ⟨v, q3, q4⟩ := w.e j sl q1 q2
    exact ⟨v, q3, slk _ _ _ (fun z => nomatch z) q4⟩
end
/-! ### comprehensions -/
def lcLoop (t : MG) (c e : ME) (sd0 : Sg) : List PyData → List PyData → Sto → R
  | [], acc, S => .ok (.list acc) S
  | x :: xs, acc, S => match t x sd0 with
    | none => .bad
    | some sd2 => match c sd2 S with
      | .ok (.bool true) S1 => match e sd2 S1 with
        | .ok d S2 => if acc.length < cap then lcLoop t c e sd0 xs (acc ++ [d]) S2 else .bad
        | _ => .bad
      | .ok (.bool false) S1 => lcLoop t c e sd0 xs acc S1
      | _ => .bad
def eLc (mi : MA) (vs : List Nat) (t : MG) (c e : ME) : ME := fun sd S => (mi sd S).bind fun xs S1 => if noOw sd vs = true then lcLoop t c e (wipeD sd vs) xs [] S1 else .bad
abbrev WF : WW := fun _ _ _ _ => False
section
variable {X : Cx} {W : WW} {tg : Expr}
theorem lc_rd {wi : TI} {t : MG} {c e : ME} {vs : List Nat} {mi : MA} (qi : ∀ g sd S σ H Rr, WfE X.K X.mg g sd S σ H → PostI X.K X.mg g sd σ W Rr (mi sd S) → wi σ H Rr) (hgo : ∀ d sd sd', t d sd = some sd' → Agr vs sd sd') :
    ∀ g sd S σ H Q, WfE X.K X.mg g sd S σ H → PostE X.K X.mg g sd σ W Q (eLc mi vs t c e sd S) → tLc wi (tG X.K X.mg vs t) (tT X.K X.mg WF c) (tE X.K X.mg WF e) vs σ H Q := by
  intro g sd S σ H Q w p
  refine qi g sd S σ H _ w ?_
  unfold eLc at p
  cases hm : mi sd S with
  | exc y S1 =>
    rw [hm] at p
    exact p
  | bad =>
    rw [hm] at p
    exact p.elim
  | ok ds S1 =>
    rw [hm] at p
    have p : PostE X.K X.mg g sd σ W Q (if noOw sd vs = true then lcLoop t c e (wipeD sd vs) ds [] S1 else .bad) := p
    split at p
    · rename_i hno
      intro g1 J H1 x1 w1 io a ha
      have p1 := PostE.ext x1 p
      have hF0 : g1.F a = none := by
        cases q : g1.F a with
        | none => rfl
        | some o =>
          have := (w1.w.fm a o q).1
          rw [ha] at this
          cases this
      -- the start
      have wa := (w1.wiped (vs := vs)).gro (Gro.keep (o := .lst []) w1.w.dh ha)
      have wb : WfE X.K X.mg { g1 with t := fun b => if b = a then some .fr else g1.t b } (wipeD sd vs) S1 (wipe σ vs) (upd H1 a (.lst [])) := wa.tag (t0 := .fr) (w1.w.notag ha) (w1.w.dh.free ha) ⟨_, upd_same⟩
      have wc := wb.frame (l := a) (o := .lst []) (by show (if a = a then _ else _) = _; rw [if_pos rfl]) upd_same
      refine ⟨fun i m H' => m = ds.length - i ∧ i ≤ ds.length ∧ ∃ g2 acc vacc S2, Same g1.D g2.D ∧ g1.r <+: g2.r ∧ g2.F = upd g1.F a (.lst vacc) ∧ WfE X.K X.mg g2 (wipeD sd vs) S2 (wipe σ vs) H' ∧ DvA X.K X.mg g2.D g2.r vacc acc ∧
        PostE X.K X.mg g1 sd σ W Q (lcLoop t c e (wipeD sd vs) (ds.drop i) acc S2), ⟨ds.length, by simp, Nat.zero_le _, _, [], [], S1, Same.refl _, List.prefix_rfl, rfl, wc, .nil, p1⟩, ?_⟩
      rintro i m H' ⟨rfl, hi, g2, acc, vacc, S2, sD, sr, hF, w2, dva, p2⟩
      have hFa : g2.F a = some (.lst vacc) := by rw [hF]; exact upd_same
      by_cases hlt : i < ds.length
      · have hd : ds[i]? = some ds[i] := List.getElem?_eq_getElem hlt
        have io2 : ItOk X.K X.mg g2 J ds := ⟨fun H i d s e => by
          obtain ⟨h1, h2⟩ := io.go H i d (sD.trans s) e
          exact ⟨h1, fun y H' q => ⟨(h2 y H' q).1, (h2 y H' q).2.mono sD sr⟩⟩, fun H i s e => io.stop H i (sD.trans s) e⟩
        obtain ⟨go, yl⟩ := io2.go H' i _ w2.w.dh hd
        rw [List.drop_eq_getElem_cons hlt] at p2
        have p2 : PostE X.K X.mg g1 sd σ W Q (match t ds[i] (wipeD sd vs) with
          | none => .bad
          | some sd2 => match c sd2 S2 with
            | .ok (.bool true) S1 => match e sd2 S1 with
              | .ok d S2 => if acc.length < cap then lcLoop t c e (wipeD sd vs) (ds.drop (i + 1)) (acc ++ [d]) S2 else .bad
              | _ => .bad
            | .ok (.bool false) S1 => lcLoop t c e (wipeD sd vs) (ds.drop (i + 1)) acc S1
            | _ => .bad) := p2
        refine .inr ⟨go, fun H3 => ∃ g3 acc3 vacc3 S3, Same g1.D g3.D ∧ g1.r <+: g3.r ∧ g3.F = upd g1.F a (.lst vacc3) ∧ WfE X.K X.mg g3 (wipeD sd vs) S3 (wipe σ vs) H3 ∧ DvA X.K X.mg g3.D g3.r vacc3 acc3 ∧
          PostE X.K X.mg g1 sd σ W Q (lcLoop t c e (wipeD sd vs) (ds.drop (i + 1)) acc3 S3), fun H3 hN => ⟨ds.length - (i + 1), by omega, rfl, hlt, hN⟩, fun y H3 hy => ?_⟩
        obtain ⟨e3, dv⟩ := yl y H3 hy
        subst e3
        cases ht : t ds[i] (wipeD sd vs) with
        | none =>
          rw [ht] at p2
          exact p2.elim
        | some sd3 =>
          rw [ht] at p2
          have ags := hgo _ _ _ ht
          refine ⟨g2, wipeD sd vs, S2, ds[i], sd3, w2, dv, ht, fun σ3 w3 ag => ⟨?_, g2, sd3, S2, w3, ?_⟩⟩
          · rw [ag.wipe, wipe_twice]
          · have back : ∀ {g4 : Gh} {S4 : Sto} {H4 : Hp}, WfE X.K X.mg g4 sd3 S4 σ3 H4 → WfE X.K X.mg g4 (wipeD sd vs) S4 (wipe σ vs) H4 := fun {g4 S4 H4} w4 => by
              have := w4.wiped (vs := vs)
              rw [ags.wipeD, wipeD_twice, ag.wipe, wipe_twice] at this
              exact this
            have p2 : PostE X.K X.mg g1 sd σ W Q (match c sd3 S2 with
              | .ok (.bool true) S1 => match e sd3 S1 with
                | .ok d S2 => if acc.length < cap then lcLoop t c e (wipeD sd vs) (ds.drop (i + 1)) (acc ++ [d]) S2 else .bad
                | _ => .bad
              | .ok (.bool false) S1 => lcLoop t c e (wipeD sd vs) (ds.drop (i + 1)) acc S1
              | _ => .bad) := p2
            cases hc : c sd3 S2 with
            | exc y5 S5 =>
              rw [hc] at p2
              exact p2.elim
            | bad =>
              rw [hc] at p2
              exact p2.elim
            | ok dc S5 =>
              rw [hc] at p2
              cases dc with
              | bool k =>
                cases k with
                | false => exact fun g4 H4 x4 w4 => iteF ⟨g4, acc, vacc, S5, sD.trans x4.d, sr.trans x4.r, x4.f.trans hF, back w4, dva.mono x4.d x4.r, p2⟩
                | true =>
                  intro g4 H4 x4 w4
                  refine iteT ⟨g4, sd3, S5, w4, ?_⟩
                  have p2 : PostE X.K X.mg g1 sd σ W Q (match e sd3 S5 with
                    | .ok d S2 => if acc.length < cap then lcLoop t c e (wipeD sd vs) (ds.drop (i + 1)) (acc ++ [d]) S2 else .bad
                    | _ => .bad) := p2
                  cases he : e sd3 S5 with
                  | exc y5 S5 =>
                    rw [he] at p2
                    exact p2.elim
                  | bad =>
                    rw [he] at p2
                    exact p2.elim
                  | ok d6 S6 =>
                    rw [he] at p2
                    have p2 : PostE X.K X.mg g1 sd σ W Q (if acc.length < cap then lcLoop t c e (wipeD sd vs) (ds.drop (i + 1)) (acc ++ [d6]) S6 else .bad) := p2
                    intro g5 v5 H5 x5 w5 dv5
                    split at p2
                    · rename_i hl
                      have hF5 : g5.F = upd g1.F a (.lst vacc) := (x5.f.trans x4.f).trans hF
                      obtain ⟨hHa, hta⟩ := w5.w.fm a (.lst vacc) (by rw [hF5]; exact upd_same)
                      have dva5 := dva.mono (x4.d.trans x5.d) (x4.r.trans x5.r)
                      refine ⟨vacc, hHa, by rw [dva.length]; exact cap_lt hl, ?_⟩
                      have w6 := (back w5).updFr (l := a) (o := .lst (vacc ++ [v5])) hta
                      refine ⟨{ g5 with F := upd g5.F a (.lst (vacc ++ [v5])) }, acc ++ [d6], vacc ++ [v5], S6, sD.trans (x4.d.trans x5.d), sr.trans (x4.r.trans x5.r), ?_, w6, dva5.append (.one dv5), p2⟩
                      show upd g5.F a _ = _
                      rw [hF5, upd_upd]
                    · exact p2.elim
              | _ => exact p2.elim
      · have e1 : i = ds.length := by omega
        subst e1
        rw [List.drop_length] at p2
        have p2 : PostE X.K X.mg g1 sd σ W Q (.ok (.list acc) S2) := p2
        refine .inl ⟨io.stop H' _ (sD.trans w2.w.dh) (Nat.le_refl _), ?_⟩
        have w3 := w2.pubFr hF hF0
        have hDa : g2.D a = none := (w2.w.dt a _ (w2.w.fm a _ hFa).2).1
        have sD2 : Same g2.D (upd g2.D a (.lst vacc)) := same_new hDa
        have w4 := w1.unwipe (g := { g2 with D := upd g2.D a (.lst vacc), t := fun b => if b = a then none else g2.t b, F := g1.F }) (sD.trans sD2) sr hno w3
        exact p2 { g2 with D := upd g2.D a (.lst vacc), t := fun b => if b = a then none else g2.t b, F := g1.F } _ _ ⟨sD.trans sD2, sr, rfl⟩ w4 (.lst upd_same (dva.mono sD2 List.prefix_rfl))
    · exact p.elim
def eYes : ME := fun _ S => .ok (.bool true) S
structure DTs (X : Cx) (ifs : List Expr) (m : ME) : Prop where
  pt : PTs X ifs (tT X.K X.mg WF m)
theorem dts_nil : DTs X [] eYes := ⟨⟨fun pins s σ H Q I h => pts_nil.run pins s σ H Q I (by
  obtain ⟨g, sd, S, w, p⟩ := h
  exact p g H (Ext.refl _) w)⟩⟩
theorem dts_one {c : Expr} {m : ME} (h : DT X WF c m) : DTs X [c] m := ⟨pts_one h.pt⟩
theorem de_lc {elt iter : Expr} {ifs : List Expr} {scope : Scope} {own : List (Str × Nat)} {pos : Pos} {mi : MA} {t : MG} {c e : ME} (hc : X.calm = true) (hN : X.N.Nodup) (hi : DI X W tg iter mi) (ok : BlkOk X.N X.env.scope scope own)
    (hg : ∀ (s : Shared) (H : Hp) (C : Addr) (cl : List (Str × Addr)) (fp : List Addr), DG (X.blk s H scope (compEnvC scope cl C X.env) fp) (own.map (·.2)) tg t)
    (ht : ∀ (s : Shared) (H : Hp) (C : Addr) (cl : List (Str × Addr)) (fp : List Addr), DTs (X.blk s H scope (compEnvC scope cl C X.env) fp) ifs c)
    (he : ∀ (s : Shared) (H : Hp) (C : Addr) (cl : List (Str × Addr)) (fp : List Addr), DE (X.blk s H scope (compEnvC scope cl C X.env) fp) WF elt e) (hs : ∀ x, foldedSetIterable iter X.env x = pure x := by intro _; rfl) :
    DE X W (.ListComp elt [⟨tg, iter, ifs, 0⟩] scope pos) (eLc mi (own.map (·.2)) t c e) := by
  obtain ⟨wi, pi, qi⟩ := hi
  have hgo := (hg ({} : Shared) (fun _ => none) 0 [] []).ok
  exact ⟨_, pe_lc hc hN pi ok (fun s H C cl fp => (hg s H C cl fp).pg) (fun s H C cl fp => (ht s H C cl fp).pt) (fun s H C cl fp => (he s H C cl fp).pe) hs, lc_rd qi hgo⟩
end
end Bc

/-! Bc7: x = [..], shared lists, the law's end. -/
namespace Bc
open PySem PySem.Spec PyProof.Rows L2
section
variable {X : Cx} {W : WW} {tg : Expr}
theorem ds_setLc (i : Nat) {y : Str} {py : Pos} {elt iter : Expr} {ifs : List Expr} {scope : Scope} {own : List (Str × Nat)} {pos spos : Pos} {mi : MA} {t : MG} {c e : ME} (hc : X.calm = true) (hN : X.N.Nodup)
    (hsw : swapsWith (.ListComp elt [⟨tg, iter, ifs, 0⟩] scope pos) (some (.Name y py)) spos.line X.env = pure true) (hi : DI X W tg iter mi) (ok : BlkOk X.N X.env.scope scope own)
    (hg : ∀ (s : Shared) (H : Hp) (C : Addr) (cl : List (Str × Addr)) (fp : List Addr), DG (X.blk s H scope (compEnvC scope cl C X.env) fp) (own.map (·.2)) tg t)
    (ht : ∀ (s : Shared) (H : Hp) (C : Addr) (cl : List (Str × Addr)) (fp : List Addr), DTs (X.blk s H scope (compEnvC scope cl C X.env) fp) ifs c)
    (he : ∀ (s : Shared) (H : Hp) (C : Addr) (cl : List (Str × Addr)) (fp : List Addr), DE (X.blk s H scope (compEnvC scope cl C X.env) fp) WF elt e) (hy : X.N[i]? = some y := by rfl) (hyl : X.env.scope.names.lookup y = some .local := by rfl) (hs : ∀ x, foldedSetIterable iter X.env x = pure x := by intro _; rfl) :
    DS X W (.Assign [.Name y py] (.ListComp elt [⟨tg, iter, ifs, 0⟩] scope pos) spos) (sSet i (eLc mi (own.map (·.2)) t c e)) := by
  obtain ⟨wi, pi, qi⟩ := hi
  have hgo := (hg ({} : Shared) (fun _ => none) 0 [] []).ok
  refine ⟨_, L2.ps_setLc (g := tG X.K X.mg (own.map (·.2)) t) (tt := tT X.K X.mg WF c) (te := tE X.K X.mg WF e) hc hN hy hyl hsw pi ok (fun s H C cl fp => (hg s H C cl fp).pg) (fun s H C cl fp => (ht s H C cl fp).pt) (fun s H C cl fp => (he s H C cl fp).pe) hs, fun g sd S σ H D w p => ?_⟩
  exact stepES (lc_rd qi hgo) w p fun d S1 g1 v H1 _ x w1 dv pp => pp g1 _ H1 (Ext.refl _) (w1.set dv)
end
section
variable {K : PySem.W.Frag} {mg : Str → Option Value} {g : Gh} {S : Sto} {σ : L2.St} {H : Hp} {sd : Sg}
theorem SlR.ext {g' : Gh} {tg : Tag} {sl : Sl} {v : V} (hD : Same g.D g'.D) (hr : g.r <+: g'.r) (ht : ∀ a t, g.t a = some t → g'.t a = some t) (h : SlR K mg g H tg sl v) : SlR K mg g' H tg sl v := by
  cases sl with
  | un => trivial
  | im d => exact Dv.mono hD hr h
  | ow ds =>
    obtain ⟨l, xs, e, h1, h2, h3⟩ := h
    exact ⟨l, xs, e, h1, ht _ _ h2, h3.mono hD hr⟩
theorem ObR.ext {g' : Gh} {o : Nat} {a : Addr} {ob : Ob} (hD : Same g.D g'.D) (hr : g.r <+: g'.r) (ht : ∀ a t, g.t a = some t → g'.t a = some t) (h : ObR K mg g H o a ob) : ObR K mg g' H o a ob := by
  cases ob with
  | shl ds =>
    obtain ⟨xs, h1, h2⟩ := h
    exact ⟨xs, h1, h2.mono hD hr⟩
  | inst c fs =>
    obtain ⟨C, dx, vs, h1, h2, h3, h4⟩ := h
    exact ⟨C, dx, vs, h1, h2, h3, fun f sl v a b => (h4 f sl v a b).ext hD hr ht⟩
/-- one object more -/
theorem WfE.newOb {l : Addr} {ob : Ob} (w : WfE K mg g sd S σ H) (hn : g.t l = none) (hD : g.D l = none) (hH : ∃ o, H l = some o)
    (hob : ObR K mg { g with r := g.r ++ [l], t := fun a => if a = l then some (.obj S.length) else g.t a } H S.length l ob) :
    WfE K mg { g with r := g.r ++ [l], t := fun a => if a = l then some (.obj S.length) else g.t a } sd (S ++ [ob]) σ H := by
  have tk : ∀ a t, g.t a = some t → (if a = l then some (Tag.obj S.length) else g.t a) = some t := fun a t e => by
    rw [if_neg (by rintro rfl; rw [hn] at e; cases e)]
    exact e
  have w1 : WfE K mg { g with t := fun a => if a = l then some (.obj S.length) else g.t a } sd S σ H := w.tag hn hD hH
  have hp : g.r <+: g.r ++ [l] := List.prefix_append _ _
  refine ⟨⟨w1.w.dh, w1.w.dt, w1.w.fm, fun o ob' e => ?_, by rw [List.length_append, List.length_append, w.w.ln]; rfl⟩, w.ln, fun i sl h1 h2 => ?_⟩
  · by_cases ho : o < S.length
    · rw [List.getElem?_append_left ho] at e
      obtain ⟨a, q1, q2, q3⟩ := w1.w.st o ob' e
      exact ⟨a, pre_get hp q1, q2, ObR.ext (g := { g with t := fun a => if a = l then some (.obj S.length) else g.t a }) (Same.refl _) hp (fun _ _ z => z) q3⟩
    · rw [List.getElem?_append_right (by omega)] at e
      have ho2 : o = S.length := by
        cases q : o - S.length with
        | zero => omega
        | succ k =>
          rw [q] at e
          cases e
      subst ho2
      rw [Nat.sub_self] at e
      cases (Option.some.inj e)
      refine ⟨l, ?_, ?_, hob⟩
      · show (g.r ++ [l])[S.length]? = some l
        rw [List.getElem?_append_right (by rw [w.w.ln]; exact Nat.le_refl _), w.w.ln, Nat.sub_self]
        rfl
      · show (if l = l then _ else _) = _
        rw [if_pos rfl]
  · obtain ⟨v, q1, q2⟩ := w1.e i sl h1 h2
    exact ⟨v, q1, SlR.ext (g := { g with t := fun a => if a = l then some (.obj S.length) else g.t a }) (Same.refl _) hp (fun _ _ z => z) q2⟩
/-- a shared list changes -/
theorem WfE.updShl {l : Addr} {o : Nat} {xs : List V} {ds ds0 : List PyData} (w : WfE K mg g sd S σ H) (ho : S[o]? = some (.shl ds0)) (hr : g.r[o]? = some l) (dv : DvA K mg g.D g.r xs ds) :
    WfE K mg g sd (S.set o (.shl ds)) σ (upd H l (.lst xs)) := by
  obtain ⟨l', q1, ht, q3⟩ := w.w.st o _ ho
  rw [hr] at q1
  cases q1
  refine ⟨⟨same_upd_tag w.w ht, fun a t e => ?_, fun a u e => ?_, fun o' ob e => ?_, by rw [List.length_set]; exact w.w.ln⟩, w.ln, fun j sl h1 h2 => ?_⟩
  · obtain ⟨h1, u, h2⟩ := w.w.dt a t e
    refine ⟨h1, ?_⟩
    by_cases ha : a = l
    · subst ha
      exact ⟨_, upd_same⟩
    · exact ⟨u, by rw [upd_ne ha]; exact h2⟩
  · obtain ⟨h1, h2⟩ := w.w.fm a u e
    exact ⟨by rw [upd_ne (ne_tag h2 ht (fun z => nomatch z))]; exact h1, h2⟩
  · by_cases hoo : o = o'
    · subst hoo
      rw [List.getElem?_set_self (List.getElem?_eq_some_iff.mp ho).1] at e
      cases (Option.some.inj e)
      exact ⟨l, hr, ht, xs, upd_same, dv⟩
    · rw [List.getElem?_set_ne hoo] at e
      obtain ⟨a, h1, h2, h3⟩ := w.w.st o' ob e
      refine ⟨a, h1, h2, ?_⟩
      have na := ne_tag h2 ht (fun z => hoo (by cases z; rfl))
      cases ob with
      | shl ds =>
        obtain ⟨xs, q1, q2⟩ := h3
        exact ⟨xs, by rw [upd_ne na]; exact q1, q2⟩
      | inst c fs =>
        obtain ⟨C, dx, vs, q1, q2, q3, q4⟩ := h3
        exact ⟨C, dx, vs, q1, by rw [upd_ne na]; exact q2, q3, fun f sl v a b => (q4 f sl v a b).upd ht (fun z => nomatch z)⟩
  · obtain ⟨v, h3, h4⟩ := w.e j sl h1 h2
    exact ⟨v, h3, h4.upd ht (fun z => nomatch z)⟩
end
section
variable {X : Cx} {W : WW} {pos : Pos} {e : Expr} {m : ME}
/-- x = [], a list that others change, too -/
def sNewL (i : Nat) : MS := fun sd S => .nx (sd.set i (.im (objD S.length))) (S ++ [.shl []])
theorem ds_newL (i : Nat) {x : Str} {pos' p2 : Pos} (hN : X.N.Nodup) (hi : X.N[i]? = some x := by rfl) (hx : Loc X.env.scope x := by first | exact .inl rfl | exact .inr rfl) (hs : swapsWith (.List [] p2) (some (.Name x pos')) pos.line X.env = pure false := by rfl)
    (hf : X.fn x = true ∨ X.env.scope.names.lookup x = some .local := by first | exact .inl rfl | exact .inr rfl) : DS X W (.Assign [.Name x pos'] (.List [] p2) pos) (sNewL i) := by
  refine ⟨_, ps_set hN hi hx (pe_lst pa_nil) hs hf, fun g sd S σ H D w p => ?_⟩
  refine ⟨Nat.zero_le _, fun l hl => ?_⟩
  have w1 := w.gro (Gro.keep (o := .lst []) w.w.dh hl)
  have w2 := WfE.newOb (l := l) (ob := .shl []) w1 (w.w.notag hl) (w.w.dh.free hl) ⟨_, upd_same⟩ ⟨[], upd_same, .nil⟩
  refine p { g with r := g.r ++ [l], t := fun a => if a = l then some (.obj S.length) else g.t a } _ _ ⟨Same.refl _, List.prefix_append _ _, rfl⟩ (w2.set (i := i) (v := .ref l) (.obj ?_))
  show (g.r ++ [l])[S.length]? = some l
  rw [List.getElem?_append_right (by rw [w.w.ln]; exact Nat.le_refl _), w.w.ln, Nat.sub_self]
  rfl
/-- x.append(e), x a shared list -/
def sAppL (i : Nat) (m : ME) : MS := fun sd S => match sd[i]? with
  | some (.im (.dict [(.int o, .none)])) => (match S[o.toNat]? with
    | some (.shl _) => (m sd S).bindS sd fun d S1 => (match S1[o.toNat]? with
      | some (.shl ds) => if ds.length < cap ∧ 0 ≤ o then .nx sd (S1.set o.toNat (.shl (ds ++ [d]))) else .bad
      | _ => .bad)
    | _ => .bad)
  | _ => .bad
theorem dv_obj {K : PySem.W.Frag} {mg : Str → Option Value} {D : Hp} {r : List Addr} {v : V} {o : Int} (h : Dv K mg D r v (.dict [(.int o, .none)])) : ∃ a, v = .ref a ∧ r[o.toNat]? = some a := by
  cases h with
  | obj h => exact ⟨_, rfl, h⟩
theorem ds_appL (i : Nat) {x : Str} {p1 p2 p3 : Pos} (h : DE X W e m) (pv : PE X (.Name x p1) (tVar i))
    (pe : ∀ {to : TE} {t : TA}, PE X (.Name x p1) to → PA X [e] t → PE X (.Call (.Attribute (.Name x p1) "append" p2) [e] [] p3) (tBM X.K "list" rAppend to t)) (hsta : starEach [e] X.env = (false, eval e X.env) :: starEach [] X.env := by rfl)
    (hs : swapsWith (.Call (.Attribute (.Name x p1) "append" p2) [e] [] p3) none pos.line X.env = pure false := by rfl) : DS X W (.Expr (.Call (.Attribute (.Name x p1) "append" p2) [e] [] p3) pos) (sAppL i m) := by
  obtain ⟨t, pt, q⟩ := h
  refine ⟨_, ps_expr (pe pv (pa_cons pt pa_nil hsta)) hs, fun g sd S σ H D w p => ?_⟩
  unfold sAppL at p
  split at p
  · rename_i o hd
    split at p
    · rename_i ds0 hS
      obtain ⟨v, h1, h2⟩ := w.e i _ hd (by simp)
      obtain ⟨l, rfl, hl⟩ := dv_obj h2
      obtain ⟨l', q1, q2, xs0, q3, q4⟩ := w.w.st _ _ hS
      rw [hl] at q1
      cases q1
      refine ⟨_, h1, .inl ⟨rfl, xs0, .inl (.inl q3)⟩, ?_⟩
      show t σ H fun x H1 => ∃ l' xs' y', V.ref l = .ref l' ∧ [x] = [y'] ∧ H1 l' = some (.lst xs') ∧ xs'.length < sizeLine ∧ D.nx σ (upd H1 l' (.lst (xs' ++ [y'])))
      refine stepES q w p fun d S1 g1 v H1 _ x1 w1 dv pp => ?_
      split at pp
      · rename_i ds hS1
        split at pp
        · rename_i hl2
          have hl1 := pre_get x1.r hl
          obtain ⟨l', r1, r2, xs, r3, r4⟩ := w1.w.st _ _ hS1
          rw [hl1] at r1
          cases r1
          refine ⟨l, xs, v, rfl, rfl, r3, by rw [r4.length]; exact cap_lt hl2.1, ?_⟩
          exact pp g1 σ _ (Ext.refl _) (w1.updShl hS1 hl1 (r4.append (.one dv)))
        · exact pp.elim
      · exact pp.elim
    · exact p.elim
  · exact p.elim
/-- len(x), x a shared list -/
def eLenL (i : Nat) : ME := fun sd S => match sd[i]? with
  | some (.im (.dict [(.int o, .none)])) => (match S[o.toNat]? with
    | some (.shl ds) => .ok (.int ds.length) S
    | _ => .bad)
  | _ => .bad
theorem de_lenL (i : Nat) {x : Str} {p0 p1 p2 : Pos} (pv : PE X (.Name x p1) (tVar i)) (pe : ∀ {r : List V → Hp → VK → Prop} {t : TA}, CallR X (.builtin "len") r → PA X [.Name x p1] t → PE X (.Call (.Name "len" p0) [.Name x p1] [] p2) (tCB r t))
    (hsta : starEach [.Name x p1] X.env = (false, eval (.Name x p1) X.env) :: starEach [] X.env := by rfl) : DE X W (.Call (.Name "len" p0) [.Name x p1] [] p2) (eLenL i) := by
  refine ⟨_, pe call_len_seq (pa_cons pv pa_nil hsta), fun g sd S σ H Q w p => ?_⟩
  unfold eLenL at p
  split at p
  · rename_i o hd
    split at p
    · rename_i ds hS
      obtain ⟨v, h1, h2⟩ := w.e i _ hd (by simp)
      obtain ⟨l, rfl, hl⟩ := dv_obj h2
      obtain ⟨l', q1, q2, xs0, q3, q4⟩ := w.w.st _ _ hS
      rw [hl] at q1
      cases q1
      refine ⟨_, h1, l, xs0, rfl, .inl (.inl (.inl q3)), ?_⟩
      rw [q4.length]
      exact p g _ H (Ext.refl _) w (.int _)
    · exact p.elim
  · exact p.elim
end
/-! ### the law -/
def spLaw (K : PySem.W.Frag) : Sp := fun vs H Q _ => ∃ (a : Addr) (ns : List Int), vs = [.ref a] ∧ SqL K H a (ns.map V.int) ∧ ns.length ≤ 63 ∧ ∀ H', Q (.bl true) H'
theorem law_of {P : Program} {w : World} {K : PySem.W.Frag} {mg : Str → Option Value} {base : Heap} {k : Nat} {x : Str} {p : Str} {m : Fn} (G : Good P w K mg base k x [p] m)
    (hm : ∀ ns : List Int, ns.length ≤ 63 → ∃ S', m [frzD (ns.map .int)] [] = .ok (.bool true) S') :
    ∃ f fd, mg x = some (.ref f) ∧ FnOk P w K mg base (L2.CX P w) k f fd [p] (spLaw K) := by
  obtain ⟨f, fd, h1, h2, h3, h4⟩ := G.ex
  refine ⟨f, fd, h1, h4.imp fun vs H Q E h => ?_⟩
  obtain ⟨a, ns, rfl, hS, hl, q⟩ := h
  obtain ⟨S', e⟩ := hm ns hl
  have hD : Same (fun b => if b = a then H a else none) H := fun b o e => by
    have e : (if b = a then H a else none) = some o := e
    by_cases hb : b = a
    · subst hb
      rw [if_pos rfl] at e
      exact e
    · rw [if_neg hb] at e
      cases e
  refine ⟨rfl, ⟨fun b => if b = a then H a else none, [], fun _ => none, fun _ => none⟩, [frzD (ns.map .int)], [], ⟨hD, (fun _ _ e => nomatch e), (fun _ _ e => nomatch e), fun o ob e => ?_, rfl⟩, .cons (.frl (xs := ns.map V.int) ?_ (DvA.ints ns)) .nil, ?_⟩
  · simp at e
  · rcases hS with (h | ⟨o, h⟩) | h
    · exact .inl (.inl (by show (if a = a then H a else none) = _; rw [if_pos rfl]; exact h))
    · exact .inl (.inr ⟨o, by show (if a = a then H a else none) = _; rw [if_pos rfl]; exact h⟩)
    · exact .inr h
  · rw [e]
    intro g' v H' _ _ dv
    cases dv
    exact q H'
end Bc

/-! Bc8: the ends; names of the built-ins. -/
namespace Bc
open PySem PySem.Spec PyProof.Rows L2
theorem bt_len : bootBuiltins "len" = some (.builtin "len") := by decide +kernel
theorem bt_all : bootBuiltins "all" = some (.builtin "all") := by decide +kernel
theorem bt_any : bootBuiltins "any" = some (.builtin "any") := by decide +kernel
theorem bt_sum : bootBuiltins "sum" = some (.builtin "sum") := by decide +kernel
theorem bt_min : bootBuiltins "min" = some (.builtin "min") := by decide +kernel
theorem bt_max : bootBuiltins "max" = some (.builtin "max") := by decide +kernel
theorem bt_abs : bootBuiltins "abs" = some (.builtin "abs") := by decide +kernel
theorem bt_sorted : bootBuiltins "sorted" = some (.builtin "sorted") := by decide +kernel
theorem bt_isinstance : bootBuiltins "isinstance" = some (.builtin "isinstance") := by decide +kernel
theorem bt_int : bootBuiltins "int" = some (.type "int") := by decide +kernel
theorem bt_bool : bootBuiltins "bool" = some (.type "bool") := by decide +kernel
theorem bt_str : bootBuiltins "str" = some (.type "str") := by decide +kernel
theorem bt_list : bootBuiltins "list" = some (.type "list") := by decide +kernel
theorem bt_tuple : bootBuiltins "tuple" = some (.type "tuple") := by decide +kernel
theorem bt_set : bootBuiltins "set" = some (.type "set") := by decide +kernel
theorem bt_dict : bootBuiltins "dict" = some (.type "dict") := by decide +kernel
theorem fnok_of {P : Program} {w : World} {K : PySem.W.Frag} {mg : Str → Option Value} {base : Heap} {k : Nat} {x : Str} {st : Stmt} {N ps : List Str} {b : MS} {f : Addr} {fd : FuncData} (F : Fun K x x st f fd) (Sc : FnScope N ps (defScope st)) (hl : ps.length ≤ N.length)
    (hb : ∀ (f : Addr) (cdv : Value) (A : Around) (outer : List PySem.Env) (s : Shared) (H : Hp) (E : XK), Room k (A.deeper (envOfC x (defScope st) s.heap.objs.size f cdv)) →
      DSs (cxOf (L2.CX P w) P w K mg base N x (defScope st) f cdv A outer s H E) (fun cls d _ H => E cls d H) (defBody st) b) :
    FnOk P w K mg base (L2.CX P w) (k + 1) f fd ps (spM ps.length K mg (runF N.length b)) := by
  refine F.okX Sc (fun vs H Q E h => h.1) fun cdv A outer s H vs Q E hr h => ?_
  obtain ⟨hlen, g, ds, S, wf, dv, p⟩ := h
  obtain ⟨t, pt, q⟩ := hb f cdv A outer s H E hr
  refine ⟨t, pt, q g _ S _ H _ (start_wf wf dv (by omega)) ?_⟩
  unfold runF at p
  split at p
  · rename_i sd S' e
    rw [e]
    exact fun g' σ H' x' w' => p g' _ H' x' w'.w .non
  · rename_i d S' e
    rw [e]
    exact fun g' v H' x' w' dv' => p g' v H' x' w' dv'
  · rename_i y sd S' e
    rw [e]
    exact fun g' σ H' x' w' => p g' H' x' w'.w
  · exact p.elim
theorem law_imp {P : Program} {w : World} {K : PySem.W.Frag} {mg : Str → Option Value} {base : Heap} {k : Nat} {p : Str} {m : Fn} {f : Addr} {fd : FuncData} (G : FnOk P w K mg base (L2.CX P w) k f fd [p] (spM 1 K mg m))
    (hm : ∀ ns : List Int, ns.length ≤ 63 → ∃ S', m [frzD (ns.map .int)] [] = .ok (.bool true) S') : FnOk P w K mg base (L2.CX P w) k f fd [p] (spLaw K) := by
  refine G.imp fun vs H Q E h => ?_
  obtain ⟨a, ns, rfl, hS, hl, q⟩ := h
  obtain ⟨S', e⟩ := hm ns hl
  have hD : Same (fun b => if b = a then H a else none) H := fun b o e => by
    have e : (if b = a then H a else none) = some o := e
    by_cases hb : b = a
    · subst hb
      rw [if_pos rfl] at e
      exact e
    · rw [if_neg hb] at e
      cases e
  refine ⟨rfl, ⟨fun b => if b = a then H a else none, [], fun _ => none, fun _ => none⟩, [frzD (ns.map .int)], [], ⟨hD, (fun _ _ e => nomatch e), (fun _ _ e => nomatch e), fun o ob e => ?_, rfl⟩, .cons (.frl (xs := ns.map V.int) ?_ (DvA.ints ns)) .nil, ?_⟩
  · simp at e
  · rcases hS with (h | ⟨o, h⟩) | h
    · exact .inl (.inl (by show (if a = a then H a else none) = _; rw [if_pos rfl]; exact h))
    · exact .inl (.inr ⟨o, by show (if a = a then H a else none) = _; rw [if_pos rfl]; exact h⟩)
    · exact .inr h
  · rw [e]
    intro g' v H' _ _ dv
    cases dv
    exact q H'
section
variable {K : PySem.W.Frag} {mg : Str → Option Value} {h : Heap}
theorem def_mk {x : Str} {st : Stmt} {ps : List Str} {f : Addr} {oc : Value} {od an : Option Addr} {osl : Array (Option Value)} {kV doc pm cdv ct : Value} (X : K.In h) (G : h.Ns mainGlobals mg) (a : PySem.W.nsIn K mainGlobals x = some (some (.ref f)))
    (l : K.lookup f = some ⟨oc, od, .func (PySem.W.fnOf x x (defArgs st) (defBody st) (defScope st) .none kV doc pm an cdv ct), osl⟩) (c : PySem.W.codeIn K cdv x = true) (k : PySem.W.keepIn K (.ref f) = true)
    (hb : ∀ (kV doc pm : Value) (an : Option Addr) (cdv ct : Value) (us : List Value), us.length = ps.length → bindArgs (PySem.W.fnOf x x (defArgs st) (defBody st) (defScope st) .none kV doc pm an cdv ct) ⟨us, []⟩ = pure (ps.zip us)) : Def K mg x st ps :=
  ⟨f, _, fun_mk (st := st) l c k, PySem.W.mg_of X G a, (fun_mk (st := st) l c k).binds hb⟩
theorem exc_mk {x : Str} {C : Addr} (X : K.In h) (G : h.Ns mainGlobals mg) (a : PySem.W.nsIn K mainGlobals x = some (some (.ref C))) (q : PySem.W.excIn K C [.type "ValueError", .type "Exception", .type "BaseException", .type "object"] "ValueError.__new__" = true)
    (k : PySem.W.keepIn K (.ref C) = true) (b : PySem.W.subIn K (.ref C) (.type "BaseException") = some true) (t : PySem.W.typeIn K (.ref C) = some (.type "type")) : ExcT K mg x := ⟨C, PySem.W.mg_of X G a, q, k, b, t⟩
theorem gint_mk {x : Str} {i : Int} {t : Tok} (X : K.In h) (G : h.Ns mainGlobals mg) (a : PySem.W.nsIn K mainGlobals x = some (some (.int i t))) : ∃ t, mg x = some (.int i t) := ⟨t, PySem.W.mg_of X G a⟩
theorem cx_end {P : Program} {w : World} {H : Hp} {s : Shared} {e : Value} {s' : Shared} (h : L2.CX P w [] H s (fun _ _ _ => False) e s') : False := by
  obtain ⟨_, _, _, _, _, _, _, _, _, _, _, _, z⟩ := h
  exact z.elim
end
theorem loose_int {p : Program} {lv : List (Str × PySem.W.WData)} {mg : Str → Option Value} {h : Heap} {x : Str} {i : Int} (V : PySem.W.XL p lv mg h) (m : (x, PySem.W.WData.int i) ∈ lv) : ∃ t, mg x = some (.int i t) := by
  obtain ⟨v, a, b⟩ := V.2.val _ m
  obtain ⟨t, e, -⟩ := PySem.W.readsW_int_inv b
  exact ⟨t, by rw [a, e]⟩
/-- the goal that k_head leaves, with what the head says of loose names -/
theorem walk_ofX {l : PySem.W.OpenLaw} {n k : Nat} {q : Program} {loose : List Str} {XP : (Str → Option Value) → Heap → Prop} {YP : World → Heap → Prop} {d : DefRec} {K : Params → PySem.W.Frag} {x : Str}
    (hn : l.most = some n) (hn2 : n ≤ sizeLine) (hdf : d.params.defaults = []) (hr : Room k callerA)
    (hY : ∀ (w : World) (h : Heap), YP w h → (K w.params).In h)
    (F : ∀ (w : World) (mg : Str → Option Value) (fa : Addr) (h : Heap), (K w.params).In h → h.Ns mainGlobals mg → XP mg h → mg d.name = some (.ref fa) →
      ∃ fd : FuncData, (∀ (s : Shared) (u : Value), BindsTo s fd ⟨[u], []⟩ [(x, u)]) ∧
        ∀ base : Heap, (K w.params).In base → base.Ns mainGlobals mg → FnOk l.prog w (K w.params) mg base (L2.CX l.prog w) k fa fd [x] (spLaw (K w.params)))
    (hn63 : n = 63) :
    PySem.W.WalkO q loose XP YP l.row.toRowW d [] (fun f vs => PySem.call f vs) := by
  refine Att.attach_call hn hdf fun w s₀ s₁ mg mb fa o pm cd doc a vs ns G Y ho hd hcd hmg hobj hints hlen hg => ?_
  have KX := hY w _ Y
  obtain ⟨fd, hb, hF⟩ := F w mg fa _ KX G.T.g G.X hmg
  exact law_call KX G.T.g G.T.b G.T.builtins G.T.nolimit hg hobj hints (Nat.le_trans hlen hn2) hr hF hb (fun H hO hS => ⟨a, ns, rfl, hS, by omega, fun _ => rfl⟩) fun H e s' h => cx_end h
section
variable {X : Cx} {W : WW} {a b c : Expr} {ma mb mc : ME} {pos : Pos}
theorem dt_chain {op op' : CmpOp} {m m' : PyData → PyData → Option PyData} (h : OpD X (compareOp op) m) (h' : OpD X (compareOp op') m') (ha : DE X W a ma) (hb : DE X W b mb) (hc : DE X W c mc)
    (pe : ∀ {r r' : R2} {ta tb tc : TE}, OpR X (compareOp op) r → OpR X (compareOp op') r' → PE X a ta → PE X b tb → PE X c tc → PT X (.Compare a [op, op'] [b, c] pos) (tTest (tChain r r' ta tb tc))) : DT X W (.Compare a [op, op'] [b, c] pos) (eChain m m' ma mb mc) := by
  obtain ⟨r, ho, hr⟩ := h.ex
  obtain ⟨r', ho', hr'⟩ := h'.ex
  obtain ⟨ta, pa, qa⟩ := ha
  obtain ⟨tb, pb, qb⟩ := hb
  obtain ⟨tc, pc, qc⟩ := hc
  refine ⟨_, pe ho ho' pa pb pc, test_rd (t := tChain r r' ta tb tc) fun g sd S σ H Q w p => ?_⟩
  refine stepE qa w p fun da S1 g1 v1 H1 _ x1 w1 d1 p1 => ?_
  refine stepE qb w1 p1 fun db S2 g2 v2 H2 _ x2 w2 d2 p2 => ?_
  cases hm : m da db with
  | none =>
    rw [hm] at p2
    exact p2.elim
  | some dc =>
    rw [hm] at p2
    cases dc with
    | bool k =>
      refine hr g2.D H2 g2.r v1 v2 da db _ _ w2.w.dh (x2.dv d1) d2 hm fun D' v H' G dv => ?_
      refine ⟨k, dv_bool dv, ?_⟩
      have w3 := w2.gro G
      cases k with
      | true =>
        refine iteT ?_
        have p3 : PostE X.K X.mg { g2 with D := D' } sd σ W Q ((mc sd S2).bind fun z S3 => R.of S3 (m' db z)) := PostE.ext G.ext p2
        refine stepE qc w3 p3 fun d4 S4 g4 v4 H4 _ x4 w4 dv4 p4 => ?_
        obtain ⟨d, hd, p5⟩ := of_eq p4
        exact hr' g4.D H4 g4.r v2 v4 db d4 d Q w4.w.dh (x4.dv (G.ext.dv d2)) dv4 hd (post_gro w4 p5)
      | false => exact iteF (p2 { g2 with D := D' } _ H' G.ext w3 (.bl false))
    | _ => exact p2.elim
end
end Bc

/-! Bc9: evaluation of the mirrors, in plain Lean. -/
namespace Bc
open PySem
section
variable {sd sd1 : Sg} {S S1 S2 S3 : Sto} {a b c m : ME} {ma : MA} {d x y z : PyData} {ds es : List PyData} {i : Nat} {f : PyData → PyData → Option PyData}
theorem ok_var (h : sd[i]? = some (.im d)) : eVar i sd S = .ok d S := by unfold eVar; rw [h]
theorem ok_c : eC d sd S = .ok d S := rfl
theorem ok_op (ha : a sd S = .ok x S1) (hb : b sd S1 = .ok y S2) (hm : f x y = some d) : eOp f a b sd S = .ok d S2 := by
  unfold eOp; rw [ha, R.bind_ok, hb, R.bind_ok, hm]; rfl
theorem ok_nil : aNil sd S = .ok [] S := rfl
theorem ok_cons (ha : m sd S = .ok d S1) (hr : ma sd S1 = .ok ds S2) : aCons m ma sd S = .ok (d :: ds) S2 := by
  unfold aCons; rw [ha, R.bindL_ok, hr]; rfl
theorem ok_call {g : Fn} (ha : ma sd S = .ok ds S1) (hf : g ds S1 = .ok d S2) : eCall g ma sd S = .ok d S2 := by
  unfold eCall; rw [ha]; exact hf
theorem exc_call {g : Fn} {x : Str} (ha : ma sd S = .ok ds S1) (hf : g ds S1 = .exc x S2) : eCall g ma sd S = .exc x S2 := by
  unfold eCall; rw [ha]; exact hf
theorem ok_b {g : List PyData → Option PyData} (ha : ma sd S = .ok ds S1) (hf : g ds = some d) : eB g ma sd S = .ok d S1 := by
  unfold eB; rw [ha, RL.bind_ok, hf]; rfl
theorem ok_tup (ha : ma sd S = .ok ds S1) (hl : ds.length ≤ cap) : eTup ma sd S = .ok (.tuple ds) S1 := by
  unfold eTup; rw [ha, RL.bind_ok, if_pos hl]
theorem ok_lst (ha : ma sd S = .ok ds S1) (hl : ds.length ≤ cap) : eLst ma sd S = .ok (.list ds) S1 := by
  unfold eLst; rw [ha, RL.bind_ok, if_pos hl]
theorem ok_neg {j : Int} (ha : m sd S = .ok (.int j) S1) : eNeg m sd S = .ok (.int (-j)) S1 := by
  unfold eNeg; rw [ha]; rfl
theorem ok_tru {k : Bool} (ha : m sd S = .ok d S1) (ht : truD d = some k) : eTru m sd S = .ok (.bool k) S1 := by
  unfold eTru; rw [ha, R.bind_ok, ht]; rfl
theorem ok_is {n : String} {k : Bool} (ha : m sd S = .ok d S1) (ht : isTy n d = some k) : eIs n m sd S = .ok (.bool k) S1 := by
  unfold eIs; rw [ha, R.bind_ok, ht]; rfl
theorem ok_not {k : Bool} (ha : m sd S = .ok (.bool k) S1) : eNot m sd S = .ok (.bool !k) S1 := by
  unfold eNot; rw [ha, R.bind_ok]; cases k <;> rfl
theorem ok_notT (ha : m sd S = .ok (.bool false) S1) : eNot m sd S = .ok (.bool true) S1 := ok_not ha
theorem ok_notF (ha : m sd S = .ok (.bool true) S1) : eNot m sd S = .ok (.bool false) S1 := ok_not ha
/-- and, or of known answers -/
theorem ok_andT {r : R} (ha : a sd S = .ok (.bool true) S1) (hb : b sd S1 = r) : eAnd a b sd S = r := by
  unfold eAnd; rw [ha, R.bind_ok, onB_t]; exact hb
theorem ok_andF (ha : a sd S = .ok (.bool false) S1) : eAnd a b sd S = .ok (.bool false) S1 := by
  unfold eAnd; rw [ha]; rfl
theorem ok_orF {r : R} (ha : a sd S = .ok (.bool false) S1) (hb : b sd S1 = r) : eOr a b sd S = r := by
  unfold eOr; rw [ha, R.bind_ok, onB_f]; exact hb
theorem ok_orT (ha : a sd S = .ok (.bool true) S1) : eOr a b sd S = .ok (.bool true) S1 := by
  unfold eOr; rw [ha]; rfl
/-- .. whose second part leaves the store -/
theorem ok_and {k l : Bool} (ha : a sd S = .ok (.bool k) S1) (hb : k = true → b sd S1 = .ok (.bool l) S1) : eAnd a b sd S = .ok (.bool (k && l)) S1 := by
  cases k with
  | true => exact ok_andT ha (hb rfl)
  | false => exact ok_andF ha
theorem ok_or {k l : Bool} (ha : a sd S = .ok (.bool k) S1) (hb : k = false → b sd S1 = .ok (.bool l) S1) : eOr a b sd S = .ok (.bool (k || l)) S1 := by
  cases k with
  | false => exact ok_orF ha (hb rfl)
  | true => exact ok_orT ha
theorem ok_if {k : Bool} {r : R} (hc : c sd S = .ok (.bool k) S1) (h : (if k = true then a sd S1 else b sd S1) = r) : eIf c a b sd S = r := by
  unfold eIf; rw [hc, R.bind_ok]
  cases k with
  | true => exact h
  | false => exact h
theorem ok_chain {f' : PyData → PyData → Option PyData} {k : Bool} (ha : a sd S = .ok x S1) (hb : b sd S1 = .ok y S2) (hm : f x y = some (.bool k)) {r : R} (h : (if k = true then (c sd S2).bind (fun z S3 => R.of S3 (f' y z)) else .ok (.bool false) S2) = r) : eChain f f' a b c sd S = r := by
  unfold eChain; rw [ha, R.bind_ok, hb, R.bind_ok, hm]
  cases k with
  | true => exact h
  | false => exact h
theorem ok_owIx {k : PyData} (hs : sd[i]? = some (.ow ds)) (ha : m sd S = .ok k S1) (hf : itemD (.list ds) k = some d) : eOwIx i m sd S = .ok d S1 := by
  unfold eOwIx; rw [hs]; show (m sd S).bind _ = _; rw [ha, R.bind_ok, hf]; rfl
theorem ok_owLen (hs : sd[i]? = some (.ow ds)) : eOwLen i sd S = .ok (.int ds.length) S := by
  unfold eOwLen; rw [hs]
theorem ok_owTru (hs : sd[i]? = some (.ow ds)) : eOwTru i sd S = .ok (.bool !ds.isEmpty) S := by
  unfold eOwTru; rw [hs]
theorem ok_lenL {o : Int} (hs : sd[i]? = some (.im (.dict [(.int o, .none)]))) (hS : S[o.toNat]? = some (.shl ds)) : eLenL i sd S = .ok (.int ds.length) S := by
  unfold eLenL; rw [hs]; show (match S[o.toNat]? with | some (.shl ds) => R.ok (.int ds.length) S | _ => .bad) = _; rw [hS]
theorem ok_sl {lo hi : MO} {l u : Option Int} (ha : m sd S = .ok d S1) (hl : lo sd S1 = some (l, S2)) (hu : hi sd S2 = some (u, S3)) (hc : cutD d l u = some x) : eSl m lo hi sd S = .ok x S3 := by
  unfold eSl; rw [ha, R.bind_ok, hl]; dsimp only; rw [hu]; dsimp only; rw [hc]; rfl
theorem ok_oNone : oNone sd S = some (none, S) := rfl
theorem ok_oSome {j : Int} (ha : m sd S = .ok (.int j) S1) : oSome m sd S = some (some j, S1) := by unfold oSome; rw [ha]
theorem ok_iSeq (ha : m sd S = .ok d S1) (h : iSeqD d = some ds) : iSeq m sd S = .ok ds S1 := by unfold iSeq; rw [ha, R.bindL_ok, h]; rfl
theorem ok_iRng {g : List PyData → Option (List PyData)} (ha : ma sd S = .ok es S1) (h : g es = some ds) : iRng g ma sd S = .ok ds S1 := by unfold iRng; rw [ha, RL.bindL_ok, h]; rfl
theorem ok_lc {t : MG} {cc e : ME} {vs : List Nat} {r : R} (hi : ma sd S = .ok ds S1) (hn : noOw sd vs = true) (h : lcLoop t cc e (wipeD sd vs) ds [] S1 = r) : eLc ma vs t cc e sd S = r := by
  unfold eLc; rw [hi, RL.bind_ok, if_pos hn]; exact h
end
section
variable {sd sd1 : Sg} {S S1 S2 : Sto} {a b : MS} {m c : ME} {ma : MA} {d : PyData} {ds es : List PyData} {i : Nat} {r : RS}
theorem st_seq (ha : a sd S = .nx sd1 S1) (hb : b sd1 S1 = r) : sSeq a b sd S = r := by unfold sSeq; rw [ha]; exact hb
theorem st_seqX {r' : RS} (ha : a sd S = r') (h : ∀ sd S, r' ≠ .nx sd S) : sSeq a b sd S = r' := by
  unfold sSeq; rw [ha]
  cases r' with
  | nx sd S => exact absurd rfl (h sd S)
  | _ => rfl
theorem st_seqRet (ha : a sd S = .ret d S1) : sSeq a b sd S = .ret d S1 := by unfold sSeq; rw [ha]; rfl
theorem st_seqExc {x : Str} (ha : a sd S = .exc x sd1 S1) : sSeq a b sd S = .exc x sd1 S1 := by unfold sSeq; rw [ha]; rfl
theorem st_set (h : m sd S = .ok d S1) : sSet i m sd S = .nx (sd.set i (.im d)) S1 := by unfold sSet; rw [h]; rfl
theorem st_setX {x : Str} (h : m sd S = .exc x S1) : sSet i m sd S = .exc x sd S1 := by unfold sSet; rw [h]; rfl
theorem st_own (h : ma sd S = .ok ds S1) (hl : ds.length ≤ cap) : sOwn i ma sd S = .nx (sd.set i (.ow ds)) S1 := by unfold sOwn; rw [h, RL.bindS_ok, if_pos hl]
theorem st_app (hs : sd[i]? = some (.ow ds)) (h : m sd S = .ok d S1) (hl : ds.length < cap) : sApp i m sd S = .nx (sd.set i (.ow (ds ++ [d]))) S1 := by
  unfold sApp; rw [hs]; show (m sd S).bindS sd _ = _; rw [h, R.bindS_ok, if_pos hl]
theorem st_appL {o : Nat} {es : List PyData} (hs : sd[i]? = some (.im (objD o))) (h0 : S[o]? = some (.shl es)) (h : m sd S = .ok d S1) (h1 : S1[o]? = some (.shl ds)) (hl : ds.length < cap) : sAppL i m sd S = .nx sd (S1.set o (.shl (ds ++ [d]))) := by
  unfold sAppL; rw [hs]
  show (match S[(o : Int).toNat]? with | some (.shl _) => _ | _ => RS.bad) = _
  rw [Int.toNat_natCast, h0]
  show (m sd S).bindS sd _ = _
  rw [h, R.bindS_ok]
  show (match S1[(o : Int).toNat]? with | some (.shl ds) => _ | _ => RS.bad) = _
  rw [Int.toNat_natCast, h1]
  exact if_pos ⟨hl, Int.natCast_nonneg _⟩
theorem st_newL : sNewL i sd S = .nx (sd.set i (.im (objD S.length))) (S ++ [.shl []]) := rfl
theorem st_expr (h : m sd S = .ok d S1) : sExpr m sd S = .nx sd S1 := by unfold sExpr; rw [h]; rfl
theorem st_exprX {x : Str} (h : m sd S = .exc x S1) : sExpr m sd S = .exc x sd S1 := by unfold sExpr; rw [h]; rfl
theorem st_ret (h : m sd S = .ok d S1) : sRet m sd S = .ret d S1 := by unfold sRet; rw [h]; rfl
theorem st_retX {x : Str} (h : m sd S = .exc x S1) : sRet m sd S = .exc x sd S1 := by unfold sRet; rw [h]; rfl
theorem st_if {k : Bool} (hc : c sd S = .ok (.bool k) S1) (h : (if k = true then a sd S1 else b sd S1) = r) : sIf c a b sd S = r := by
  unfold sIf; rw [hc, R.bindS_ok]
  cases k with
  | true => exact h
  | false => exact h
theorem st_ifT (hc : c sd S = .ok (.bool true) S1) (h : a sd S1 = r) : sIf c a b sd S = r := st_if hc (by rw [if_pos rfl]; exact h)
theorem st_ifF (hc : c sd S = .ok (.bool false) S1) (h : b sd S1 = r) : sIf c a b sd S = r := st_if hc (by rw [if_neg Bool.false_ne_true]; exact h)
theorem st_nil : sNil sd S = .nx sd S := rfl
theorem st_pub (hs : sd[i]? = some (.ow ds)) (h : a (sd.set i (.im (.list ds))) S = r) : sPub i a sd S = r := by unfold sPub; rw [hs]; exact h
theorem st_asg {t : MG} (h : m sd S = .ok d S1) (ht : t d sd = some sd1) : sAsg m t sd S = .nx sd1 S1 := by
  unfold sAsg; rw [h, R.bindS_ok, ht]
theorem st_raise {x : Str} : sRaise x sd S = .exc x sd S := rfl
theorem st_for {t : MG} (hi : ma sd S = .ok ds S1) (h : forLoop t a ds sd S1 = r) : sFor ma t a sd S = r := by unfold sFor; rw [hi]; exact h
theorem run_ret {n : Nat} (e : es.map Sl.im ++ List.replicate (n - es.length) .un = sd) (h : b sd S = .ret d S1) : runF n b es S = .ok d S1 := by unfold runF; rw [e, h]
theorem run_nx {n : Nat} (e : es.map Sl.im ++ List.replicate (n - es.length) .un = sd) (h : b sd S = .nx sd1 S1) : runF n b es S = .ok .none S1 := by unfold runF; rw [e, h]
theorem run_exc {n : Nat} {x : Str} (e : es.map Sl.im ++ List.replicate (n - es.length) .un = sd) (h : b sd S = .exc x sd1 S1) : runF n b es S = .exc x S1 := by unfold runF; rw [e, h]
end
/-! loops -/
theorem lc_inv {t : MG} {c e : ME} {sd0 : Sg} (I : List PyData → List PyData → Sto → Prop) : ∀ (post pre acc : List PyData) (S : Sto),
    (∀ p x q acc S, pre ++ post = p ++ x :: q → I p acc S → ∃ sd2 S1, t x sd0 = some sd2 ∧
      ((c sd2 S = .ok (.bool true) S1 ∧ ∃ d S2, e sd2 S1 = .ok d S2 ∧ acc.length < cap ∧ I (p ++ [x]) (acc ++ [d]) S2) ∨ (c sd2 S = .ok (.bool false) S1 ∧ I (p ++ [x]) acc S1))) →
    I pre acc S → ∃ acc' S', lcLoop t c e sd0 post acc S = .ok (.list acc') S' ∧ I (pre ++ post) acc' S'
  | [], pre, acc, S, _, h0 => ⟨acc, S, rfl, by rw [List.append_nil]; exact h0⟩
  | x :: post, pre, acc, S, st, h0 => by
    obtain ⟨sd2, S1, h1, h2⟩ := st pre x post acc S rfl h0
    have e0 : pre ++ x :: post = (pre ++ [x]) ++ post := by simp
    rcases h2 with ⟨h2, d, S2, h3, h4, h5⟩ | ⟨h2, h3⟩
    · obtain ⟨acc', S', q1, q2⟩ := lc_inv I post (pre ++ [x]) (acc ++ [d]) S2 (fun p y q acc S h => st p y q acc S (e0.trans h)) h5
      refine ⟨acc', S', ?_, by rw [e0]; exact q2⟩
      unfold lcLoop; rw [h1]; dsimp only; rw [h2]; dsimp only; rw [h3]; dsimp only; rw [if_pos h4]; exact q1
    · obtain ⟨acc', S', q1, q2⟩ := lc_inv I post (pre ++ [x]) acc S1 (fun p y q acc S h => st p y q acc S (e0.trans h)) h3
      refine ⟨acc', S', ?_, by rw [e0]; exact q2⟩
      unfold lcLoop; rw [h1]; dsimp only; rw [h2]; exact q1
/-- a comprehension that leaves the store -/
theorem lc_map {t : MG} {e : ME} {sd0 : Sg} {S : Sto} (f : PyData → PyData) : ∀ (xs acc : List PyData), acc.length + xs.length ≤ cap → (∀ x ∈ xs, ∃ sd2, t x sd0 = some sd2 ∧ e sd2 S = .ok (f x) S) →
    lcLoop t eYes e sd0 xs acc S = .ok (.list (acc ++ xs.map f)) S
  | [], acc, _, _ => by unfold lcLoop; simp
  | x :: xs, acc, hl, h => by
    obtain ⟨sd2, h1, h2⟩ := h x List.mem_cons_self
    rw [List.length_cons] at hl
    have ih := lc_map f xs (acc ++ [f x]) (by rw [List.length_append]; simp; omega) fun y hy => h y (List.mem_cons_of_mem _ hy)
    unfold lcLoop; rw [h1]; dsimp only
    have q : eYes sd2 S = .ok (.bool true) S := rfl
    rw [q]; dsimp only; rw [h2]; dsimp only; rw [if_pos (by omega), ih]
    simp
theorem lc_filter {t : MG} {c e : ME} {sd0 : Sg} {S : Sto} (p : PyData → Bool) (f : PyData → PyData) : ∀ (xs acc : List PyData), acc.length + xs.length ≤ cap → (∀ x ∈ xs, ∃ sd2, t x sd0 = some sd2 ∧ c sd2 S = .ok (.bool (p x)) S ∧ (p x = true → e sd2 S = .ok (f x) S)) →
    lcLoop t c e sd0 xs acc S = .ok (.list (acc ++ (xs.filter p).map f)) S
  | [], acc, _, _ => by unfold lcLoop; simp
  | x :: xs, acc, hl, h => by
    obtain ⟨sd2, h1, h2, h3⟩ := h x List.mem_cons_self
    rw [List.length_cons] at hl
    unfold lcLoop; rw [h1]; dsimp only; rw [h2]
    cases hp : p x with
    | true =>
      have ih := lc_filter p f xs (acc ++ [f x]) (by rw [List.length_append]; simp; omega) fun y hy => h y (List.mem_cons_of_mem _ hy)
      dsimp only; rw [h3 hp]; dsimp only; rw [if_pos (by omega), ih, List.filter_cons_of_pos hp]
      simp
    | false =>
      have ih := lc_filter p f xs acc (by omega) fun y hy => h y (List.mem_cons_of_mem _ hy)
      dsimp only; rw [ih, List.filter_cons_of_neg (by rw [hp]; simp)]
theorem for_inv {t : MG} {b : MS} (I : List PyData → Sg → Sto → Prop) : ∀ (post pre : List PyData) (sd : Sg) (S : Sto),
    (∀ p x q sd S, pre ++ post = p ++ x :: q → I p sd S → ∃ sd1 sd2 S2, t x sd = some sd1 ∧ b sd1 S = .nx sd2 S2 ∧ I (p ++ [x]) sd2 S2) →
    I pre sd S → ∃ sd' S', forLoop t b post sd S = .nx sd' S' ∧ I (pre ++ post) sd' S'
  | [], pre, sd, S, _, h0 => ⟨sd, S, rfl, by rw [List.append_nil]; exact h0⟩
  | x :: post, pre, sd, S, st, h0 => by
    obtain ⟨sd1, sd2, S2, h1, h2, h3⟩ := st pre x post sd S rfl h0
    have e0 : pre ++ x :: post = (pre ++ [x]) ++ post := by simp
    obtain ⟨sd', S', q1, q2⟩ := for_inv I post (pre ++ [x]) sd2 S2 (fun p y q sd S h => st p y q sd S (e0.trans h)) h3
    refine ⟨sd', S', ?_, by rw [e0]; exact q2⟩
    unfold forLoop; rw [h1]; dsimp only; rw [h2]; exact q1
/-! operators -/
theorem add_ii {a b : Int} : addD (.int a) (.int b) = some (.int (a + b)) := rfl
theorem sub_ii {a b : Int} : subD (.int a) (.int b) = some (.int (a - b)) := rfl
theorem mul_l {a b : Int} (h1 : -(2 ^ 64) < a) (h2 : a < 2 ^ 64) : mulD (.int a) (.int b) = some (.int (a * b)) := if_pos (.inl ⟨h1, h2⟩)
theorem mul_r {a b : Int} (h1 : -(2 ^ 64) < b) (h2 : b < 2 ^ 64) : mulD (.int a) (.int b) = some (.int (a * b)) := if_pos (.inr ⟨h1, h2⟩)
theorem fdiv_ii {a b : Int} (h1 : 0 < b) (h2 : b < 1073741824) : fdivD (.int a) (.int b) = some (.int (a / b)) := if_pos ⟨h1, h2⟩
theorem mod_ii {a b : Int} (h : 0 < b) : modD (.int a) (.int b) = some (.int (a % b)) := if_pos h
theorem pow_ii {a b : Int} (h1 : 0 ≤ b) (h2 : b ≤ 1000) (h3 : a.natAbs < 2 ^ 64) : powD (.int a) (.int b) = some (.int (a ^ b.toNat)) := if_pos ⟨h1, h2, h3⟩
theorem shaped_int (i : Int) : SeqAt.shaped (.int i) = true := by simp [SeqAt.shaped, PyData.canLay0, PyData.depth]
theorem eq_ii {a b : Int} : eqD (.int a) (.int b) = some (.bool (a == b)) := by unfold eqD; rw [if_pos ⟨shaped_int a, shaped_int b⟩]; simp [PyData.eqv]
theorem ne_ii {a b : Int} : neD (.int a) (.int b) = some (.bool !(a == b)) := by unfold neD; rw [if_pos ⟨shaped_int a, shaped_int b⟩]; simp [PyData.eqv]
theorem eq_same {d : PyData} (h : SeqAt.shaped d = true) : eqD d d = some (.bool true) := by unfold eqD; rw [if_pos ⟨h, h⟩, SeqAt.eqv_refl d (SeqAt.canLay_of_shaped h)]
theorem ne_same {d : PyData} (h : SeqAt.shaped d = true) : neD d d = some (.bool false) := by unfold neD; rw [if_pos ⟨h, h⟩, SeqAt.eqv_refl d (SeqAt.canLay_of_shaped h)]; rfl
theorem gt_T {a b : Int} (h : b < a) : gtD (.int a) (.int b) = some (.bool true) := by show some (PyData.bool (decide (b < a))) = _; rw [decide_eq_true h]
theorem gt_F {a b : Int} (h : ¬ b < a) : gtD (.int a) (.int b) = some (.bool false) := by show some (PyData.bool (decide (b < a))) = _; rw [decide_eq_false h]
theorem lt_T {a b : Int} (h : a < b) : ltD (.int a) (.int b) = some (.bool true) := by show some (PyData.bool (decide (a < b))) = _; rw [decide_eq_true h]
theorem lt_F {a b : Int} (h : ¬ a < b) : ltD (.int a) (.int b) = some (.bool false) := by show some (PyData.bool (decide (a < b))) = _; rw [decide_eq_false h]
theorem le_T {a b : Int} (h : a ≤ b) : leD (.int a) (.int b) = some (.bool true) := by show some (PyData.bool (decide (a ≤ b))) = _; rw [decide_eq_true h]
theorem le_F {a b : Int} (h : ¬ a ≤ b) : leD (.int a) (.int b) = some (.bool false) := by show some (PyData.bool (decide (a ≤ b))) = _; rw [decide_eq_false h]
theorem ge_T {a b : Int} (h : b ≤ a) : geD (.int a) (.int b) = some (.bool true) := by show some (PyData.bool (decide (b ≤ a))) = _; rw [decide_eq_true h]
theorem ge_F {a b : Int} (h : ¬ b ≤ a) : geD (.int a) (.int b) = some (.bool false) := by show some (PyData.bool (decide (b ≤ a))) = _; rw [decide_eq_false h]
theorem eq_T {a b : Int} (h : a = b) : eqD (.int a) (.int b) = some (.bool true) := by rw [eq_ii, h]; simp
theorem eq_F {a b : Int} (h : a ≠ b) : eqD (.int a) (.int b) = some (.bool false) := by rw [eq_ii, beq_eq_false_iff_ne.mpr h]
theorem ne_T {a b : Int} (h : a ≠ b) : neD (.int a) (.int b) = some (.bool true) := by rw [ne_ii, beq_eq_false_iff_ne.mpr h]; rfl
theorem ne_F {a b : Int} (h : a = b) : neD (.int a) (.int b) = some (.bool false) := by rw [ne_ii, h]; simp
theorem is_bool_int {b : Bool} : isTy "int" (.bool b) = some true := show L2.kitB "bool" "int" = some true by decide +kernel
theorem is_bool_bool {b : Bool} : isTy "bool" (.bool b) = some true := show L2.kitB "bool" "bool" = some true by decide +kernel
theorem is_bool_str {b : Bool} : isTy "str" (.bool b) = some false := show L2.kitB "bool" "str" = some false by decide +kernel
theorem is_bool_list {b : Bool} : isTy "list" (.bool b) = some false := show L2.kitB "bool" "list" = some false by decide +kernel
theorem is_bool_tuple {b : Bool} : isTy "tuple" (.bool b) = some false := show L2.kitB "bool" "tuple" = some false by decide +kernel
theorem is_int_int {b : Int} : isTy "int" (.int b) = some true := show L2.kitB "int" "int" = some true by decide +kernel
theorem is_int_bool {b : Int} : isTy "bool" (.int b) = some false := show L2.kitB "int" "bool" = some false by decide +kernel
theorem is_int_str {b : Int} : isTy "str" (.int b) = some false := show L2.kitB "int" "str" = some false by decide +kernel
theorem is_int_list {b : Int} : isTy "list" (.int b) = some false := show L2.kitB "int" "list" = some false by decide +kernel
theorem is_int_tuple {b : Int} : isTy "tuple" (.int b) = some false := show L2.kitB "int" "tuple" = some false by decide +kernel
theorem is_str_int {b : Str} : isTy "int" (.str b) = some false := show L2.kitB "str" "int" = some false by decide +kernel
theorem is_str_bool {b : Str} : isTy "bool" (.str b) = some false := show L2.kitB "str" "bool" = some false by decide +kernel
theorem is_str_str {b : Str} : isTy "str" (.str b) = some true := show L2.kitB "str" "str" = some true by decide +kernel
theorem is_str_list {b : Str} : isTy "list" (.str b) = some false := show L2.kitB "str" "list" = some false by decide +kernel
theorem is_str_tuple {b : Str} : isTy "tuple" (.str b) = some false := show L2.kitB "str" "tuple" = some false by decide +kernel
theorem is_list_int {b : List PyData} : isTy "int" (.list b) = some false := show L2.kitB "list" "int" = some false by decide +kernel
theorem is_list_bool {b : List PyData} : isTy "bool" (.list b) = some false := show L2.kitB "list" "bool" = some false by decide +kernel
theorem is_list_str {b : List PyData} : isTy "str" (.list b) = some false := show L2.kitB "list" "str" = some false by decide +kernel
theorem is_list_list {b : List PyData} : isTy "list" (.list b) = some true := show L2.kitB "list" "list" = some true by decide +kernel
theorem is_list_tuple {b : List PyData} : isTy "tuple" (.list b) = some false := show L2.kitB "list" "tuple" = some false by decide +kernel
theorem is_tuple_int {b : List PyData} : isTy "int" (.tuple b) = some false := show L2.kitB "tuple" "int" = some false by decide +kernel
theorem is_tuple_bool {b : List PyData} : isTy "bool" (.tuple b) = some false := show L2.kitB "tuple" "bool" = some false by decide +kernel
theorem is_tuple_str {b : List PyData} : isTy "str" (.tuple b) = some false := show L2.kitB "tuple" "str" = some false by decide +kernel
theorem is_tuple_list {b : List PyData} : isTy "list" (.tuple b) = some false := show L2.kitB "tuple" "list" = some false by decide +kernel
theorem is_tuple_tuple {b : List PyData} : isTy "tuple" (.tuple b) = some true := show L2.kitB "tuple" "tuple" = some true by decide +kernel
theorem is_NoneType_int : isTy "int" (.none) = some false := show L2.kitB "NoneType" "int" = some false by decide +kernel
theorem is_NoneType_bool : isTy "bool" (.none) = some false := show L2.kitB "NoneType" "bool" = some false by decide +kernel
theorem is_NoneType_str : isTy "str" (.none) = some false := show L2.kitB "NoneType" "str" = some false by decide +kernel
theorem is_NoneType_list : isTy "list" (.none) = some false := show L2.kitB "NoneType" "list" = some false by decide +kernel
theorem is_NoneType_tuple : isTy "tuple" (.none) = some false := show L2.kitB "NoneType" "tuple" = some false by decide +kernel
end Bc

/-! Bca: lists by place. -/
namespace Bc
open PySem
def tab {α : Type} (n : Nat) (f : Nat → α) : List α := (List.range n).map f
section
variable {α β : Type} {n k : Nat} {f g : Nat → α}
@[simp] theorem tab_length : (tab n f).length = n := by unfold tab; simp
theorem tab_get (h : k < n) : (tab n f)[k]? = some (f k) := by unfold tab; rw [List.getElem?_map, List.getElem?_range h]; rfl
theorem tab_zero : tab 0 f = [] := rfl
theorem tab_succ : tab (n + 1) f = tab n f ++ [f n] := by unfold tab; rw [List.range_succ, List.map_append]; rfl
theorem tab_congr (h : ∀ k, k < n → f k = g k) : tab n f = tab n g := by
  unfold tab
  exact List.map_congr_left fun k hk => h k (List.mem_range.mp hk)
theorem tab_map {h : α → β} : (tab n f).map h = tab n fun k => h (f k) := by unfold tab; rw [List.map_map]; rfl
theorem tab_mem {x : α} : x ∈ tab n f ↔ ∃ k, k < n ∧ f k = x := by unfold tab; simp
theorem tab_take (h : k ≤ n) : (tab n f).take k = tab k f := by
  unfold tab
  rw [← List.map_take, List.take_range, Nat.min_eq_left h]
theorem tab_of (xs : List α) (d : α) : xs = tab xs.length fun k => xs.getD k d := by
  refine List.ext_getElem? fun i => ?_
  by_cases h : i < xs.length
  · rw [tab_get h, List.getD_eq_getElem?_getD, List.getElem?_eq_getElem h]; rfl
  · rw [List.getElem?_eq_none (by omega), List.getElem?_eq_none (by simp; omega)]
theorem tab_at (h : k < n) : L2.atI (tab n f) (k : Int) = some (f k) := L2.atI_nat (tab_get h)
theorem tab_atI {i : Int} (h0 : 0 ≤ i) (h : i < n) : L2.atI (tab n f) i = some (f i.toNat) := by
  have e : i = (i.toNat : Int) := by omega
  have h2 : i.toNat < n := by omega
  have := tab_at (f := f) h2
  rw [← e] at this
  exact this
theorem tab_last : L2.atI (tab (n + 1) f) (-1) = some (f n) := by rw [tab_succ]; exact L2.atI_last _ _
theorem tab_last' (h : 0 < n) : L2.atI (tab n f) (-1) = some (f (n - 1)) := by
  obtain ⟨m, rfl⟩ : ∃ m, n = m + 1 := ⟨n - 1, by omega⟩
  exact tab_last
theorem tab_isEmpty : (tab n f).isEmpty = decide (n = 0) := by
  cases n with
  | zero => rfl
  | succ m => rw [tab_succ]; simp
end
theorem rangeD_tab (lo : Int) (n : Nat) : rangeD lo n = tab n fun i => .int (lo + (i : Nat)) := rfl
theorem ints_tab {n : Nat} {g : Nat → Int} : tab n (fun k => PyData.int (g k)) = (tab n g).map .int := by rw [tab_map]
theorem intsOf_tab {n : Nat} {g : Nat → Int} : intsOf (tab n fun k => .int (g k)) = some (tab n g) := by rw [ints_tab]; exact intsOf_map _
theorem boolsOf_tab {n : Nat} {g : Nat → Bool} : boolsOf (tab n fun k => .bool (g k)) = some (tab n g) := by
  rw [show tab n (fun k => PyData.bool (g k)) = (tab n g).map .bool by rw [tab_map]]
  exact boolsOf_map _
/-- the sum of the first n -/
def sumN (g : Nat → Int) : Nat → Int
  | 0 => 0
  | n + 1 => sumN g n + g n
theorem tab_sum {n : Nat} {g : Nat → Int} : (tab n g).sum = sumN g n := by
  induction n with
  | zero => rfl
  | succ n ih => rw [tab_succ, List.sum_append, ih]; simp [sumN]
theorem sumD_tab {n : Nat} {g : Nat → Int} : sumD [.list (tab n fun k => .int (g k))] = some (.int (sumN g n)) := by
  show (intsOf _).map _ = _
  rw [intsOf_tab]
  show some (PyData.int (tab n g).sum) = _
  rw [tab_sum]
theorem all_tab {n : Nat} {g : Nat → Bool} : allD [.list (tab n fun k => .bool (g k))] = some (.bool ((tab n g).all id)) := by
  show (boolsOf _).map _ = _
  rw [boolsOf_tab]
  rfl
theorem all_tabT {n : Nat} {g : Nat → Bool} (h : ∀ k, k < n → g k = true) : allD [.list (tab n fun k => .bool (g k))] = some (.bool true) := by
  rw [all_tab]
  congr 2
  refine List.all_eq_true.mpr fun b hb => ?_
  obtain ⟨k, hk, rfl⟩ := tab_mem.mp hb
  exact h k hk
theorem sumN_congr {g h : Nat → Int} : ∀ {n : Nat}, (∀ k, k < n → g k = h k) → sumN g n = sumN h n
  | 0, _ => rfl
  | n + 1, e => by
    unfold sumN
    rw [sumN_congr fun k hk => e k (Nat.lt_succ_of_lt hk), e n (Nat.lt_succ_self n)]
/-- a slice from the start -/
theorem cut_tab {α : Type} {n : Nat} {f : Nat → α} {k : Int} (h0 : 0 ≤ k) (h : k ≤ n) : cutG (tab n f) none (some k) = tab k.toNat f := by
  unfold cutG
  have e : k = ((k.toNat : Nat) : Int) := by omega
  rw [tab_length, HT.sIx_none, e, HT.sIx_nat]
  rw [List.drop_zero, Nat.sub_zero, Nat.min_eq_left (by omega)]
  exact tab_take (by omega)
/-! loops over places -/
theorem for_tab {t : MG} {b : MS} {n : Nat} {f : Nat → PyData} (I : Nat → Sg → Sto → Prop) {sd : Sg} {S : Sto} (h0 : I 0 sd S)
    (st : ∀ k sd S, k < n → I k sd S → ∃ sd1 sd2 S2, t (f k) sd = some sd1 ∧ b sd1 S = .nx sd2 S2 ∧ I (k + 1) sd2 S2) : ∃ sd' S', forLoop t b (tab n f) sd S = .nx sd' S' ∧ I n sd' S' := by
  obtain ⟨sd', S', h1, h2⟩ := for_inv (t := t) (b := b) (fun pre sd S => I pre.length sd S) (tab n f) [] sd S (fun p x q sd S e hI => by
    have hk : p.length < n := by
      have := congrArg List.length e
      simp at this
      omega
    have hx : f p.length = x := by
      have h1 := tab_get (f := f) hk
      have e' : tab n f = p ++ x :: q := by simpa using e
      rw [e', List.getElem?_append_right (Nat.le_refl _), Nat.sub_self] at h1
      exact (Option.some.inj h1).symm
    obtain ⟨sd1, sd2, S2, q1, q2, q3⟩ := st p.length sd S hk hI
    rw [hx] at q1
    exact ⟨sd1, sd2, S2, q1, q2, by rw [List.length_append]; exact q3⟩) h0
  exact ⟨sd', S', h1, by simpa using h2⟩
theorem lc_tab {t : MG} {e : ME} {sd0 : Sg} {n : Nat} {f : Nat → PyData} (I : Nat → Sto → Prop) (P : Nat → PyData → Prop) {S : Sto} (hn : n ≤ cap) (h0 : I 0 S)
    (st : ∀ k S, k < n → I k S → ∃ sd2 d S2, t (f k) sd0 = some sd2 ∧ e sd2 S = .ok d S2 ∧ P k d ∧ I (k + 1) S2) : ∃ h S', (∀ k, k < n → P k (h k)) ∧ lcLoop t eYes e sd0 (tab n f) [] S = .ok (.list (tab n h)) S' ∧ I n S' := by
  obtain ⟨acc, S', h1, h2, h3, h4⟩ := lc_inv (t := t) (c := eYes) (e := e) (sd0 := sd0) (fun pre acc S => acc.length = pre.length ∧ (∀ k d, acc[k]? = some d → P k d) ∧ I pre.length S) (tab n f) [] [] S (fun p x q acc S e0 hI => by
    obtain ⟨hl, hP, hI⟩ := hI
    have hk : p.length < n := by
      have := congrArg List.length e0
      simp at this
      omega
    have hx : f p.length = x := by
      have h1 := tab_get (f := f) hk
      have e' : tab n f = p ++ x :: q := by simpa using e0
      rw [e', List.getElem?_append_right (Nat.le_refl _), Nat.sub_self] at h1
      exact (Option.some.inj h1).symm
    obtain ⟨sd2, d, S2, q1, q2, q3, q4⟩ := st p.length S hk hI
    rw [hx] at q1
    refine ⟨sd2, S, q1, .inl ⟨rfl, d, S2, q2, by omega, by simp [hl], fun k d' hd => ?_, by rw [List.length_append]; exact q4⟩⟩
    by_cases hk2 : k < acc.length
    · rw [List.getElem?_append_left hk2] at hd
      exact hP k d' hd
    · rw [List.getElem?_append_right (by omega)] at hd
      have hk3 : k = acc.length := by
        cases q : k - acc.length with
        | zero => omega
        | succ j =>
          rw [q] at hd
          cases hd
      subst hk3
      rw [Nat.sub_self] at hd
      cases (Option.some.inj hd)
      rw [hl]
      exact q3) ⟨rfl, fun k d hd => by simp at hd, h0⟩
  have hl : acc.length = n := by simpa using h2
  refine ⟨fun k => acc.getD k .none, S', fun k hk => h3 k _ ?_, ?_, by simpa using h4⟩
  · show acc[k]? = some (acc.getD k .none)
    rw [List.getD_eq_getElem?_getD, List.getElem?_eq_getElem (by omega)]
    rfl
  · have e1 := tab_of acc .none
    rw [hl] at e1
    rw [h1, ← e1]
/-- .. that leaves the store -/
theorem lc_tabP {t : MG} {e : ME} {sd0 : Sg} {n : Nat} {f : Nat → PyData} {S : Sto} (h : Nat → PyData) (hn : n ≤ cap)
    (st : ∀ k, k < n → ∃ sd2, t (f k) sd0 = some sd2 ∧ e sd2 S = .ok (h k) S) : lcLoop t eYes e sd0 (tab n f) [] S = .ok (.list (tab n h)) S := by
  obtain ⟨h', S', h1, h2, h3⟩ := lc_tab (t := t) (e := e) (sd0 := sd0) (f := f) (fun _ S' => S' = S) (fun k d => d = h k) hn rfl (fun k S1 hk e1 => by
    subst e1
    obtain ⟨sd2, q1, q2⟩ := st k hk
    exact ⟨sd2, _, _, q1, q2, rfl, rfl⟩)
  rw [h2, h3, tab_congr h1]
/-! data that are compared -/
theorem canLay_all {ds : List PyData} (h : ∀ d ∈ ds, d.canLay0 = true) : PyData.canLayAll0 ds = true := by
  induction ds with
  | nil => simp [PyData.canLayAll0]
  | cons d ds ih =>
    simp only [PyData.canLayAll0, Bool.and_eq_true]
    exact ⟨h d List.mem_cons_self, ih fun e he => h e (List.mem_cons_of_mem _ he)⟩
theorem depth_all {ds : List PyData} {k : Nat} (h : ∀ d ∈ ds, d.depth ≤ k) : PyData.depthAll ds ≤ k := by
  induction ds with
  | nil => simp [PyData.depthAll]
  | cons d ds ih =>
    simp only [PyData.depthAll]
    have h1 := h d List.mem_cons_self
    have h2 := ih fun e he => h e (List.mem_cons_of_mem _ he)
    omega
/-- flat within k -/
structure Flat (k : Nat) (d : PyData) : Prop where
  c : d.canLay0 = true
  d : d.depth ≤ k
theorem Flat.shaped {k : Nat} {d : PyData} (h : Flat k d) (hk : k ≤ 64) : SeqAt.shaped d = true := by
  unfold SeqAt.shaped
  rw [h.c, Bool.true_and]
  exact decide_eq_true (Nat.le_trans h.d hk)
theorem flat_int {k : Nat} (i : Int) : Flat k (.int i) := ⟨by simp [PyData.canLay0], by simp [PyData.depth]⟩
theorem flat_none {k : Nat} : Flat k .none := ⟨by simp [PyData.canLay0], by simp [PyData.depth]⟩
theorem flat_bool {k : Nat} (i : Bool) : Flat k (.bool i) := ⟨by simp [PyData.canLay0], by simp [PyData.depth]⟩
theorem flat_list {k : Nat} {ds : List PyData} (h : ∀ d ∈ ds, Flat k d) : Flat (k + 1) (.list ds) := ⟨by rw [PyData.canLay0]; exact canLay_all fun d hd => (h d hd).c, by rw [PyData.depth]; have := depth_all fun d hd => (h d hd).d; omega⟩
theorem flat_tuple {k : Nat} {ds : List PyData} (h : ∀ d ∈ ds, Flat k d) : Flat (k + 1) (.tuple ds) := ⟨by rw [PyData.canLay0]; exact canLay_all fun d hd => (h d hd).c, by rw [PyData.depth]; have := depth_all fun d hd => (h d hd).d; omega⟩
theorem flat_tab {k n : Nat} {f : Nat → PyData} (h : ∀ i, i < n → Flat k (f i)) : Flat (k + 1) (.list (tab n f)) := flat_list fun d hd => by
  obtain ⟨i, hi, rfl⟩ := tab_mem.mp hd
  exact h i hi
end Bc

namespace Mir
open PySem Bc
def b__law_cell : MS :=
  (sSeq (sIf (eTru (eVar 0)) (sRet (eOp itemD (eVar 0) (eOp modD (eVar 1) (eB lenD (aCons (eVar 0) aNil))))) sNil)
  (sRet (eC (.int (0)))))
def f__law_cell : Fn := runF 2 b__law_cell
def b__law_mix : MS :=
  (sSeq (sSet 2 (eOp modD (eOp addD (eCall f__law_cell (aCons (eVar 0) (aCons (eVar 1) aNil))) (eOp mulD (eC (.int (104729))) (eOp addD (eVar 1) (eC (.int (1)))))) (eC (.int (4294967291)))))
  (sSeq (sSet 2 (eOp modD (eOp powD (eVar 2) (eC (.int (5)))) (eC (.int (4294967279)))))
  (sRet (eOp modD (eOp addD (eOp mulD (eOp fdivD (eVar 2) (eC (.int (64)))) (eC (.int (69621)))) (eVar 2)) (eC (.int (4294967231)))))))
def f__law_mix : Fn := runF 3 b__law_mix
def b__law_draw : MS :=
  (sSeq (sAppL 1 (eC (.int (0))))
  (sRet (eOp modD (eOp fdivD (eCall f__law_mix (aCons (eVar 0) (aCons (eLenL 1) aNil))) (eC (.int (8)))) (eVar 2))))
def f__law_draw : Fn := runF 3 b__law_draw
def b_is_whole : MS :=
  (sRet (eAnd (eIs "int" (eVar 0)) (eAnd (eNot (eIs "bool" (eVar 0))) (eChain leD leD (eVar 1) (eVar 0) (eVar 2)))))
def f_is_whole : Fn := runF 3 b_is_whole
def b_look_reads : MS :=
  (sSeq (sIf (eNot (eTru (eCall f_is_whole (aCons (eVar 0) (aCons (eC (.int (1))) (aCons (eC (.int (65535))) aNil)))))) (sRaise "BadNumber") sNil)
  (sIf (eOr (eNot (eTru (eIs "list" (eVar 1)))) (eOr (eOp gtD (eB lenD (aCons (eVar 1) aNil)) (eC (.int (100)))) (eNot (eTru (eB allD (aCons (eLc (iSeq (eVar 1)) [2] (gN 2) eYes (eCall f_is_whole (aCons (eVar 2) (aCons (eC (.int (0))) (aCons (eVar 0) aNil))))) aNil)))))) (sRaise "BadReads") sNil))
def f_look_reads : Fn := runF 3 b_look_reads
def b_fitting : MS :=
  (sSeq (sSet 4 (eB maxD (aCons (eC (.int (0))) (aCons (eOp subD (eVar 2) (eVar 3)) aNil))))
  (sSeq (sSet 5 (eOp addD (eVar 4) (eOp modD (eOp subD (eVar 1) (eVar 4)) (eVar 0))))
  (sRet (eLc (iSeq (eTup (aCons (eVar 5) (aCons (eOp addD (eVar 5) (eVar 0)) aNil)))) [6] (gN 6) (eOp leD (eVar 6) (eOp addD (eVar 2) (eVar 3))) (eVar 6)))))
def f_fitting : Fn := runF 7 b_fitting
def l1_sure_totals : MS :=
  (sIf (eOp eqD (eVar 5) (eC (.int (0)))) (sApp 4 (eC (.int (0)))) (sSeq (sSet 6 (eCall f_fitting (aCons (eOp addD (eVar 0) (eC (.int (1)))) (aCons (eOp subD (eOp itemD (eVar 1) (eVar 5)) (eOp itemD (eVar 1) (eOp subD (eVar 5) (eC (.int (1)))))) (aCons (eOp subD (eOp itemD (eVar 2) (eVar 5)) (eOp itemD (eVar 2) (eOp subD (eVar 5) (eC (.int (1)))))) (aCons (eVar 3) aNil))))))
  (sSeq (sSet 7 (eAnd (eOp eqD (eB lenD (aCons (eVar 6) aNil)) (eC (.int (1)))) (eOp notND (eOwIx 4 (eNeg (eC (.int (1))))) (eC .none))))
  (sApp 4 (eIf (eTru (eVar 7)) (eOp addD (eOwIx 4 (eNeg (eC (.int (1))))) (eOp itemD (eVar 6) (eC (.int (0))))) (eC .none))))))
def b_sure_totals : MS :=
  (sSeq (sExpr (eCall f_look_reads (aCons (eVar 0) (aCons (eVar 1) aNil))))
  (sSeq (sIf (eOr (eNot (eTru (eIs "list" (eVar 2)))) (eOp neD (eB lenD (aCons (eVar 2) aNil)) (eB lenD (aCons (eVar 1) aNil)))) (sRaise "BadReads") sNil)
  (sSeq (sIf (eOr (eNot (eTru (eB allD (aCons (eLc (iSeq (eVar 2)) [8] (gN 8) eYes (eCall f_is_whole (aCons (eVar 8) (aCons (eC (.int (0))) (aCons (eC (.int (1000000000))) aNil))))) aNil)))) (eOp neD (eB sortedD (aCons (eVar 2) aNil)) (eVar 2))) (sRaise "BadReads") sNil)
  (sSeq (sIf (eNot (eTru (eCall f_is_whole (aCons (eVar 3) (aCons (eC (.int (0))) (aCons (eC (.int (1000000))) aNil)))))) (sRaise "BadNumber") sNil)
  (sSeq (sOwn 4 aNil)
  (sSeq (sFor (iRng rng1 (aCons (eB lenD (aCons (eVar 1) aNil)) aNil)) (gN 5) l1_sure_totals)
  (sPub 4 (sRet (eVar 4)))))))))
def f_sure_totals : Fn := runF 9 b_sure_totals
def b_evened : MS :=
  (sSeq (sIf (eOr (eNot (eTru (eCall f_is_whole (aCons (eVar 0) (aCons (eC (.int (1))) (aCons (eC (.int (1000000000))) aNil)))))) (eOr (eNot (eTru (eCall f_is_whole (aCons (eVar 1) (aCons (eC (.int (1))) (aCons (eC (.int (1000000000))) aNil)))))) (eOp ltD (eVar 0) (eVar 1)))) (sRaise "BadNumber") sNil)
  (sSeq (sIf (eNot (eTru (eCall f_is_whole (aCons (eVar 2) (aCons (eC (.int (0))) (aCons (eC (.int (200))) aNil)))))) (sRaise "BadNumber") sNil)
  (sRet (eLc (iRng rng1 (aCons (eVar 2) aNil)) [3] (gN 3) eYes (eOp subD (eOp fdivD (eOp mulD (eOp addD (eVar 3) (eC (.int (1)))) (eVar 0)) (eVar 1)) (eOp fdivD (eOp mulD (eVar 3) (eVar 0)) (eVar 1)))))))
def f_evened : Fn := runF 4 b_evened
def l1_drift : MS :=
  (sSeq (sSet 4 (eOp addD (eVar 4) (eOp itemD (eVar 0) (eVar 5))))
  (sApp 3 (eOp subD (eOp mulD (eVar 4) (eVar 2)) (eOp mulD (eOp addD (eVar 5) (eC (.int (1)))) (eVar 1)))))
def b_drift : MS :=
  (sSeq (sIf (eOr (eNot (eTru (eIs "list" (eVar 0)))) (eOp gtD (eB lenD (aCons (eVar 0) aNil)) (eC (.int (200))))) (sRaise "BadReads") sNil)
  (sSeq (sIf (eNot (eTru (eB allD (aCons (eLc (iSeq (eVar 0)) [6] (gN 6) eYes (eCall f_is_whole (aCons (eVar 6) (aCons (eC (.int (0))) (aCons (eC (.int (1000000000))) aNil))))) aNil)))) (sRaise "BadReads") sNil)
  (sSeq (sExpr (eCall f_evened (aCons (eVar 1) (aCons (eVar 2) (aCons (eC (.int (0))) aNil)))))
  (sSeq (sOwn 3 (aCons (eC (.int (0))) aNil))
  (sSeq (sSet 4 (eC (.int (0))))
  (sSeq (sFor (iRng rng1 (aCons (eB lenD (aCons (eVar 0) aNil)) aNil)) (gN 5) l1_drift)
  (sPub 3 (sRet (eTup (aCons (eB minD (aCons (eVar 3) aNil)) (aCons (eB maxD (aCons (eVar 3) aNil)) aNil)))))))))))
def f_drift : Fn := runF 7 b_drift
def b__law_pick : MS :=
  (sRet (eOp itemD (eVar 2) (eCall f__law_draw (aCons (eVar 0) (aCons (eVar 1) (aCons (eB lenD (aCons (eVar 2) aNil)) aNil))))))
def f__law_pick : Fn := runF 3 b__law_pick
def l1__law_sure : MS :=
  (sSeq (sSet 6 (eOp subD (eOp itemD (eVar 2) (eVar 5)) (eOp itemD (eVar 2) (eOp subD (eVar 5) (eC (.int (1)))))))
  (sSeq (sSet 7 (eOp modD (eOp subD (eOp itemD (eVar 1) (eVar 5)) (eOp itemD (eVar 1) (eOp subD (eVar 5) (eC (.int (1)))))) (eVar 0)))
  (sSeq (sSet 8 (eB maxD (aCons (eC (.int (0))) (aCons (eOp subD (eOp fdivD (eOp subD (eVar 6) (eVar 3)) (eVar 0)) (eC (.int (1)))) aNil))))
  (sSeq (sSet 9 (eLc (iRng rng2 (aCons (eVar 8) (aCons (eOp addD (eOp addD (eVar 8) (eOp fdivD (eOp mulD (eC (.int (2))) (eVar 3)) (eVar 0))) (eC (.int (5)))) aNil))) [10] (gN 10) eYes (eOp addD (eVar 7) (eOp mulD (eVar 10) (eVar 0)))))
  (sSeq (sSet 9 (eLc (iSeq (eVar 9)) [11] (gN 11) (eOp leD (eB absD (aCons (eOp subD (eVar 11) (eVar 6)) aNil)) (eVar 3)) (eVar 11)))
  (sApp 4 (eIf (eAnd (eOp eqD (eB lenD (aCons (eVar 9) aNil)) (eC (.int (1)))) (eOp notND (eOwIx 4 (eNeg (eC (.int (1))))) (eC .none))) (eOp addD (eOwIx 4 (eNeg (eC (.int (1))))) (eOp itemD (eVar 9) (eC (.int (0))))) (eC .none))))))))
def b__law_sure : MS :=
  (sSeq (sOwn 4 (aCons (eC (.int (0))) aNil))
  (sSeq (sFor (iRng rng2 (aCons (eC (.int (1))) (aCons (eB lenD (aCons (eVar 1) aNil)) aNil))) (gN 5) l1__law_sure)
  (sPub 4 (sRet (eVar 4)))))
def f__law_sure : Fn := runF 12 b__law_sure
def l1_totals : MS :=
  (sApp 2 (eIf (eOp gtD (eVar 3) (eC (.int (0)))) (eOp addD (eOwIx 2 (eNeg (eC (.int (1))))) (eOp modD (eOp subD (eOp itemD (eVar 1) (eVar 3)) (eOp itemD (eVar 1) (eOp subD (eVar 3) (eC (.int (1)))))) (eOp addD (eVar 0) (eC (.int (1)))))) (eC (.int (0)))))
def b_totals : MS :=
  (sSeq (sExpr (eCall f_look_reads (aCons (eVar 0) (aCons (eVar 1) aNil))))
  (sSeq (sOwn 2 aNil)
  (sSeq (sFor (iRng rng1 (aCons (eB lenD (aCons (eVar 1) aNil)) aNil)) (gN 3) l1_totals)
  (sPub 2 (sRet (eVar 2))))))
def f_totals : Fn := runF 4 b_totals
def l1_law : MS :=
  (sApp 10 (eOp addD (eOwIx 10 (eNeg (eC (.int (1))))) (eB maxD (aCons (eC (.int (0))) (aCons (eOp addD (eVar 11) (eIf (eOp eqD (eCall f__law_draw (aCons (eVar 0) (aCons (eVar 1) (aCons (eC (.int (2))) aNil)))) (eC (.int (0)))) (eVar 9) (eOp subD (eC (.int (0))) (eVar 9)))) aNil)))))
def l2_law : MS :=
  (sIf (eOp neD (eB sumD (aCons (eSl (eVar 16) oNone (oSome (eVar 17))) aNil)) (eOp fdivD (eOp mulD (eVar 14) (eVar 17)) (eVar 13))) (sRet (eC (.bool false))) sNil)
def b_law : MS :=
  (sSeq (sNewL 1)
  (sSeq (sSet 2 (eOp addD (eC (.int (1))) (eCall f__law_draw (aCons (eVar 0) (aCons (eVar 1) (aCons (eCall f__law_pick (aCons (eVar 0) (aCons (eVar 1) (aCons (eLst (aCons (eC (.int (9))) (aCons (eC (.int (300))) (aCons (eC (.int (65535))) aNil)))) aNil)))) aNil))))))
  (sSeq (sSet 3 (eLc (iRng rng1 (aCons (eCall f__law_draw (aCons (eVar 0) (aCons (eVar 1) (aCons (eC (.int (12))) aNil)))) aNil)) [17] (gN 17) eYes (eCall f__law_draw (aCons (eVar 0) (aCons (eVar 1) (aCons (eOp addD (eVar 2) (eC (.int (1)))) aNil))))))
  (sSeq (sSet 4 (eCall f__law_draw (aCons (eVar 0) (aCons (eVar 1) (aCons (eOp addD (eVar 2) (eC (.int (1)))) aNil)))))
  (sSeq (sSet 5 (eLc (iRng rng1 (aCons (eOp addD (eB lenD (aCons (eVar 3) aNil)) (eC (.int (1)))) aNil)) [17] (gN 17) eYes (eB sumD (aCons (eSl (eVar 3) oNone (oSome (eVar 17))) aNil))))
  (sSeq (sSet 6 (eLc (iSeq (eVar 5)) [11] (gN 11) eYes (eOp modD (eOp addD (eVar 4) (eVar 11)) (eOp addD (eVar 2) (eC (.int (1)))))))
  (sSeq (sIf (eOr (eOp neD (eCall f_totals (aCons (eVar 2) (aCons (eVar 6) aNil))) (eVar 5)) (eOp neD (eCall f_totals (aCons (eVar 2) (aCons (eLst aNil) aNil))) (eLst aNil))) (sRet (eC (.bool false))) sNil)
  (sSeq (sSet 7 (eLc (iSeq (eVar 3)) [11] (gN 11) eYes (eOp addD (eVar 11) (eOp mulD (eOp addD (eVar 2) (eC (.int (1)))) (eCall f__law_draw (aCons (eVar 0) (aCons (eVar 1) (aCons (eC (.int (4))) aNil))))))))
  (sSeq (sSet 5 (eLc (iRng rng1 (aCons (eOp addD (eB lenD (aCons (eVar 7) aNil)) (eC (.int (1)))) aNil)) [17] (gN 17) eYes (eB sumD (aCons (eSl (eVar 7) oNone (oSome (eVar 17))) aNil))))
  (sSeq (sSet 6 (eLc (iSeq (eVar 5)) [11] (gN 11) eYes (eOp modD (eOp addD (eVar 4) (eVar 11)) (eOp addD (eVar 2) (eC (.int (1)))))))
  (sSeq (sSet 8 (eCall f__law_draw (aCons (eVar 0) (aCons (eVar 1) (aCons (eCall f__law_pick (aCons (eVar 0) (aCons (eVar 1) (aCons (eLst (aCons (eC (.int (1))) (aCons (eOp addD (eOp fdivD (eVar 2) (eC (.int (2)))) (eC (.int (1)))) (aCons (eOp mulD (eC (.int (2))) (eVar 2)) aNil)))) aNil)))) aNil)))))
  (sSeq (sSet 9 (eCall f__law_draw (aCons (eVar 0) (aCons (eVar 1) (aCons (eOp addD (eVar 8) (eC (.int (1)))) aNil)))))
  (sSeq (sOwn 10 (aCons (eC (.int (7))) aNil))
  (sSeq (sFor (iSeq (eVar 7)) (gN 11) l1_law)
  (sPub 10 (sSeq (sSet 12 (eCall f_sure_totals (aCons (eVar 2) (aCons (eVar 6) (aCons (eVar 10) (aCons (eVar 8) aNil))))))
  (sSeq (sIf (eOp neD (eVar 12) (eCall f__law_sure (aCons (eOp addD (eVar 2) (eC (.int (1)))) (aCons (eVar 6) (aCons (eVar 10) (aCons (eVar 8) aNil)))))) (sRet (eC (.bool false))) sNil)
  (sSeq (sIf (eAnd (eOp leD (eOp mulD (eC (.int (2))) (eVar 8)) (eVar 2)) (eOp neD (eVar 12) (eVar 5))) (sRet (eC (.bool false))) sNil)
  (sSeq (sSet 13 (eOp addD (eC (.int (1))) (eCall f__law_draw (aCons (eVar 0) (aCons (eVar 1) (aCons (eCall f__law_pick (aCons (eVar 0) (aCons (eVar 1) (aCons (eLst (aCons (eC (.int (7))) (aCons (eC (.int (1000))) aNil))) aNil)))) aNil))))))
  (sSeq (sSet 14 (eOp addD (eVar 13) (eCall f__law_draw (aCons (eVar 0) (aCons (eVar 1) (aCons (eC (.int (100000))) aNil))))))
  (sSeq (sSet 15 (eCall f__law_draw (aCons (eVar 0) (aCons (eVar 1) (aCons (eC (.int (60))) aNil)))))
  (sSeq (sSet 16 (eCall f_evened (aCons (eVar 14) (aCons (eVar 13) (aCons (eVar 15) aNil)))))
  (sSeq (sFor (iRng rng2 (aCons (eC (.int (1))) (aCons (eOp addD (eVar 15) (eC (.int (1)))) aNil))) (gN 17) l2_law)
  (sSeq (sAsg (eCall f_drift (aCons (eVar 16) (aCons (eVar 14) (aCons (eVar 13) aNil)))) (gT (gsCons (gN 20) (gsCons (gN 21) gsNil))))
  (sSeq (sIf (eOr (eOp neD (eB lenD (aCons (eVar 16) aNil)) (eVar 15)) (eOr (eNot (eChain ltD leD (eOp subD (eC (.int (0))) (eVar 13)) (eVar 20) (eC (.int (0))))) (eOp neD (eVar 21) (eC (.int (0)))))) (sRet (eC (.bool false))) sNil)
  (sSeq (sSet 18 (eLc (iSeq (eVar 16)) [11] (gN 11) eYes (eOp addD (eVar 11) (eCall f__law_draw (aCons (eVar 0) (aCons (eVar 1) (aCons (eC (.int (3))) aNil)))))))
  (sSeq (sSet 19 (eOp addD (eLst (aCons (eC (.int (0))) aNil)) (eLc (iRng rng2 (aCons (eC (.int (1))) (aCons (eOp addD (eVar 15) (eC (.int (1)))) aNil))) [17] (gN 17) eYes (eOp subD (eOp mulD (eB sumD (aCons (eSl (eVar 18) oNone (oSome (eVar 17))) aNil)) (eVar 13)) (eOp mulD (eVar 17) (eVar 14))))))
  (sRet (eOp eqD (eCall f_drift (aCons (eVar 18) (aCons (eVar 14) (aCons (eVar 13) aNil)))) (eTup (aCons (eB minD (aCons (eVar 19) aNil)) (aCons (eB maxD (aCons (eVar 19) aNil)) aNil))))))))))))))))))))))))))))))))
def f_law : Fn := runF 22 b_law
end Mir

namespace Der
open PySem PySem.Spec PyProof.Rows L2 Bc
open Mir
def topS (i : Nat) : Stmt := PySem.Challenge.pw_beatchips_k42_whole_totals.main.body.getD i (.Pass ⟨0, 0, 0, 0⟩)
/-! _law_cell -/
abbrev s__law_cell : Stmt := topS 19
abbrev n__law_cell : List Str := ["script", "k"]
theorem sc__law_cell : FnScope ["script", "k"] ["script", "k"] (defScope s__law_cell) := ⟨rfl, rfl, rfl, by decide +kernel, rfl, by decide +kernel, by decide +kernel⟩
/-! _law_mix -/
abbrev s__law_mix : Stmt := topS 20
abbrev n__law_mix : List Str := ["script", "k", "number"]
theorem sc__law_mix : FnScope ["script", "k", "number"] ["script", "k"] (defScope s__law_mix) := ⟨rfl, rfl, rfl, by decide +kernel, rfl, by decide +kernel, by decide +kernel⟩
/-! _law_draw -/
abbrev s__law_draw : Stmt := topS 21
abbrev n__law_draw : List Str := ["script", "town", "many"]
theorem sc__law_draw : FnScope ["script", "town", "many"] ["script", "town", "many"] (defScope s__law_draw) := ⟨rfl, rfl, rfl, by decide +kernel, rfl, by decide +kernel, by decide +kernel⟩
/-! is_whole -/
abbrev s_is_whole : Stmt := topS 6
abbrev n_is_whole : List Str := ["thing", "low", "most"]
theorem sc_is_whole : FnScope ["thing", "low", "most"] ["thing", "low", "most"] (defScope s_is_whole) := ⟨rfl, rfl, rfl, by decide +kernel, rfl, by decide +kernel, by decide +kernel⟩
/-! look_reads -/
abbrev s_look_reads : Stmt := topS 12
abbrev n_look_reads : List Str := ["top", "reads", "one"]
theorem sc_look_reads : FnScope ["top", "reads", "one"] ["top", "reads"] (defScope s_look_reads) := ⟨rfl, rfl, rfl, by decide +kernel, rfl, by decide +kernel, by decide +kernel⟩
/-! fitting -/
abbrev s_fitting : Stmt := topS 15
abbrev n_fitting : List Str := ["size", "rest", "told", "slip", "low", "first", "one"]
theorem sc_fitting : FnScope ["size", "rest", "told", "slip", "low", "first", "one"] ["size", "rest", "told", "slip"] (defScope s_fitting) := ⟨rfl, rfl, rfl, by decide +kernel, rfl, by decide +kernel, by decide +kernel⟩
/-! sure_totals -/
abbrev s_sure_totals : Stmt := topS 14
abbrev n_sure_totals : List Str := ["top", "reads", "times", "slip", "found", "k", "some", "is_sure", "one"]
theorem sc_sure_totals : FnScope ["top", "reads", "times", "slip", "found", "k", "some", "is_sure", "one"] ["top", "reads", "times", "slip"] (defScope s_sure_totals) := ⟨rfl, rfl, rfl, by decide +kernel, rfl, by decide +kernel, by decide +kernel⟩
/-! evened -/
abbrev s_evened : Stmt := topS 16
abbrev n_evened : List Str := ["top", "under", "many", "k"]
theorem sc_evened : FnScope ["top", "under", "many", "k"] ["top", "under", "many"] (defScope s_evened) := ⟨rfl, rfl, rfl, by decide +kernel, rfl, by decide +kernel, by decide +kernel⟩
/-! drift -/
abbrev s_drift : Stmt := topS 17
abbrev n_drift : List Str := ["periods", "top", "under", "found", "total", "k", "one"]
theorem sc_drift : FnScope ["periods", "top", "under", "found", "total", "k", "one"] ["periods", "top", "under"] (defScope s_drift) := ⟨rfl, rfl, rfl, by decide +kernel, rfl, by decide +kernel, by decide +kernel⟩
/-! _law_pick -/
abbrev s__law_pick : Stmt := topS 22
abbrev n__law_pick : List Str := ["script", "town", "some"]
theorem sc__law_pick : FnScope ["script", "town", "some"] ["script", "town", "some"] (defScope s__law_pick) := ⟨rfl, rfl, rfl, by decide +kernel, rfl, by decide +kernel, by decide +kernel⟩
/-! _law_sure -/
abbrev s__law_sure : Stmt := topS 23
abbrev n__law_sure : List Str := ["size", "reads", "times", "slip", "found", "k", "told", "rest", "first", "some", "j", "one"]
theorem sc__law_sure : FnScope ["size", "reads", "times", "slip", "found", "k", "told", "rest", "first", "some", "j", "one"] ["size", "reads", "times", "slip"] (defScope s__law_sure) := ⟨rfl, rfl, rfl, by decide +kernel, rfl, by decide +kernel, by decide +kernel⟩
/-! totals -/
abbrev s_totals : Stmt := topS 13
abbrev n_totals : List Str := ["top", "reads", "found", "k"]
theorem sc_totals : FnScope ["top", "reads", "found", "k"] ["top", "reads"] (defScope s_totals) := ⟨rfl, rfl, rfl, by decide +kernel, rfl, by decide +kernel, by decide +kernel⟩
/-! law -/
abbrev s_law : Stmt := topS 24
abbrev n_law : List Str := ["script", "town", "high", "steps", "first", "sums", "reads", "wide", "slip", "off", "times", "one", "told", "under", "over", "many", "periods", "k", "bent", "offs", "low", "top_now"]
theorem sc_law : FnScope ["script", "town", "high", "steps", "first", "sums", "reads", "wide", "slip", "off", "times", "one", "told", "under", "over", "many", "periods", "k", "bent", "offs", "low", "top_now"] ["script"] (defScope s_law) := ⟨rfl, rfl, rfl, by decide +kernel, rfl, by decide +kernel, by decide +kernel⟩
structure Txt (K : PySem.W.Frag) (mg : Str → Option Value) : Prop where
  n_abs : mg "abs" = none
  n_all : mg "all" = none
  n_bool : mg "bool" = none
  n_int : mg "int" = none
  n_isinstance : mg "isinstance" = none
  n_len : mg "len" = none
  n_list : mg "list" = none
  n_max : mg "max" = none
  n_min : mg "min" = none
  n_range : mg "range" = none
  n_sorted : mg "sorted" = none
  n_sum : mg "sum" = none
  g_MOST_PERIODS : ∃ t, mg "MOST_PERIODS" = some (.int (200) t)
  g_MOST_READS : ∃ t, mg "MOST_READS" = some (.int (100) t)
  g_MOST_SLIP : ∃ t, mg "MOST_SLIP" = some (.int (1000000) t)
  g_MOST_SPAN : ∃ t, mg "MOST_SPAN" = some (.int (1000000000) t)
  g_MOST_TOP : ∃ t, mg "MOST_TOP" = some (.int (65535) t)
  x_BadNumber : ExcT K mg "BadNumber"
  x_BadReads : ExcT K mg "BadReads"
  d__law_cell : Def K mg "_law_cell" s__law_cell ["script", "k"]
  d__law_mix : Def K mg "_law_mix" s__law_mix ["script", "k"]
  d__law_draw : Def K mg "_law_draw" s__law_draw ["script", "town", "many"]
  d_is_whole : Def K mg "is_whole" s_is_whole ["thing", "low", "most"]
  d_look_reads : Def K mg "look_reads" s_look_reads ["top", "reads"]
  d_fitting : Def K mg "fitting" s_fitting ["size", "rest", "told", "slip"]
  d_sure_totals : Def K mg "sure_totals" s_sure_totals ["top", "reads", "times", "slip"]
  d_evened : Def K mg "evened" s_evened ["top", "under", "many"]
  d_drift : Def K mg "drift" s_drift ["periods", "top", "under"]
  d__law_pick : Def K mg "_law_pick" s__law_pick ["script", "town", "some"]
  d__law_sure : Def K mg "_law_sure" s__law_sure ["size", "reads", "times", "slip"]
  d_totals : Def K mg "totals" s_totals ["top", "reads"]
section
variable {P : Program} {w : World} {K : PySem.W.Frag} {mg : Str → Option Value} {base : Heap}
theorem db__law_cell (T : Txt K mg) (f : Addr) (cdv : Value) (A : Around) (outer : List PySem.Env) (s : Shared) (H : Hp) (E : XK) (hr : Room 0 (A.deeper (envOfC "_law_cell" (defScope s__law_cell) s.heap.objs.size f cdv))) :
    DSs (cxOf (L2.CX P w) P w K mg base ["script", "k"] "_law_cell" (defScope s__law_cell) f cdv A outer s H E) (fun cls d _ H => E cls d H) (defBody s__law_cell) b__law_cell :=
  (dss_cons (ds_if (dt_truth (de_var 0)) (dss_one (ds_ret (de_ix (de_var 0) (de_op opd_mod (de_var 1) (de_callB cd_len T.n_len bt_len (da_cons (de_var 0) da_nil) (fun a b => pe_callB a rfl T.n_len bt_len b)))))) dss_nil)
  (dss_one (ds_ret de_int)))
theorem d__law_cell (T : Txt K mg) : Good P w K mg base 1 "_law_cell" ["script", "k"] f__law_cell := good_of T.d__law_cell sc__law_cell (by decide) (db__law_cell T)
theorem db__law_mix (T : Txt K mg) (f : Addr) (cdv : Value) (A : Around) (outer : List PySem.Env) (s : Shared) (H : Hp) (E : XK) (hr : Room 1 (A.deeper (envOfC "_law_mix" (defScope s__law_mix) s.heap.objs.size f cdv))) :
    DSs (cxOf (L2.CX P w) P w K mg base ["script", "k", "number"] "_law_mix" (defScope s__law_mix) f cdv A outer s H E) (fun cls d _ H => E cls d H) (defBody s__law_mix) b__law_mix :=
  (dss_cons (ds_set 2 sc__law_mix.nd (de_op opd_mod (de_op opd_add (de_call (d__law_cell T) (hr.mono (by decide)) (takes_of rfl rfl rfl rfl) (da_cons (de_var 0) (da_cons (de_var 1) da_nil)) (aCons_len (aCons_len (fun _ _ _ _ h => aNil_len h)))) (de_op opd_mul de_int (de_op opd_add (de_var 1) de_int))) de_int))
  (dss_cons (ds_set 2 sc__law_mix.nd (de_op opd_mod (de_op opd_pow (de_var 2) de_int) de_int))
  (dss_one (ds_ret (de_op opd_mod (de_op opd_add (de_op opd_mul (de_op opd_fdiv (de_var 2) de_int) de_int) (de_var 2)) de_int)))))
theorem d__law_mix (T : Txt K mg) : Good P w K mg base 2 "_law_mix" ["script", "k"] f__law_mix := good_of T.d__law_mix sc__law_mix (by decide) (db__law_mix T)
theorem db__law_draw (T : Txt K mg) (f : Addr) (cdv : Value) (A : Around) (outer : List PySem.Env) (s : Shared) (H : Hp) (E : XK) (hr : Room 2 (A.deeper (envOfC "_law_draw" (defScope s__law_draw) s.heap.objs.size f cdv))) :
    DSs (cxOf (L2.CX P w) P w K mg base ["script", "town", "many"] "_law_draw" (defScope s__law_draw) f cdv A outer s H E) (fun cls d _ H => E cls d H) (defBody s__law_draw) b__law_draw :=
  (dss_cons (ds_appL 1 de_int (pv 1) (fun a b => pe_bm PySem.F.plainAttrs_list PySem.F.slot_list_append PySem.F.type_list_append mt_append a b))
  (dss_one (ds_ret (de_op opd_mod (de_op opd_fdiv (de_call (d__law_mix T) (hr.mono (by decide)) (takes_of rfl rfl rfl rfl) (da_cons (de_var 0) (da_cons (de_lenL 1 (pv 1) (fun a b => pe_callB a rfl T.n_len bt_len b)) da_nil)) (aCons_len (aCons_len (fun _ _ _ _ h => aNil_len h)))) de_int) (de_var 2)))))
theorem d__law_draw (T : Txt K mg) : Good P w K mg base 3 "_law_draw" ["script", "town", "many"] f__law_draw := good_of T.d__law_draw sc__law_draw (by decide) (db__law_draw T)
theorem db_is_whole (T : Txt K mg) (f : Addr) (cdv : Value) (A : Around) (outer : List PySem.Env) (s : Shared) (H : Hp) (E : XK) (hr : Room 0 (A.deeper (envOfC "is_whole" (defScope s_is_whole) s.heap.objs.size f cdv))) :
    DSs (cxOf (L2.CX P w) P w K mg base ["thing", "low", "most"] "is_whole" (defScope s_is_whole) f cdv A outer s H E) (fun cls d _ H => E cls d H) (defBody s_is_whole) b_is_whole :=
  (dss_one (ds_ret (de_and (de_is "int" (de_var 0) (pe_bltn rfl T.n_int bt_int rfl) (fun a b => pe_callB a rfl T.n_isinstance bt_isinstance b)) (de_and (de_not (de_is "bool" (de_var 0) (pe_bltn rfl T.n_bool bt_bool rfl) (fun a b => pe_callB a rfl T.n_isinstance bt_isinstance b))) (de_one (de_chain opd_le opd_le (de_var 1) (de_var 0) (de_var 2) (fun a b c d e => pe_chain a b c d e)))))))
theorem d_is_whole (T : Txt K mg) : Good P w K mg base 1 "is_whole" ["thing", "low", "most"] f_is_whole := good_of T.d_is_whole sc_is_whole (by decide) (db_is_whole T)
theorem db_look_reads (T : Txt K mg) (f : Addr) (cdv : Value) (A : Around) (outer : List PySem.Env) (s : Shared) (H : Hp) (E : XK) (hr : Room 1 (A.deeper (envOfC "look_reads" (defScope s_look_reads) s.heap.objs.size f cdv))) :
    DSs (cxOf (L2.CX P w) P w K mg base ["top", "reads", "one"] "look_reads" (defScope s_look_reads) f cdv A outer s H E) (fun cls d _ H => E cls d H) (defBody s_look_reads) b_look_reads :=
  (dss_cons (ds_if (dt_not (dt_truth (de_call (d_is_whole T) (hr.mono (by decide)) (takes_of rfl rfl rfl rfl) (da_cons (de_var 0) (da_cons de_int (da_cons (de_gint T.g_MOST_TOP) da_nil))) (aCons_len (aCons_len (aCons_len (fun _ _ _ _ h => aNil_len h))))))) (dss_one (ds_raise rfl (takes_of rfl rfl rfl rfl) T.x_BadNumber)) dss_nil)
  (dss_one (ds_if (DW.dt (dw_or (dt_not (dt_truth (de_is "list" (de_var 1) (pe_bltn rfl T.n_list bt_list rfl) (fun a b => pe_callB a rfl T.n_isinstance bt_isinstance b)))) (dw_or (dt_cmp opd_gt (de_callB cd_len T.n_len bt_len (da_cons (de_var 1) da_nil) (fun a b => pe_callB a rfl T.n_len bt_len b)) (de_gint T.g_MOST_READS) (nomark _)) (dw_or1 (dt_not (dt_truth (de_callB (cd_all rfl) T.n_all bt_all (da_cons (de_lc (own := [("one", 2)]) rfl sc_look_reads.nd (di_seq (de_var 1)) (blkOk_by (N := n_look_reads) (sc := defScope s_look_reads) (by decide +kernel)) (fun _ _ _ _ _ => (dg_name 2 sc_look_reads.nd)) (fun _ _ _ _ _ => dts_nil) (fun _ _ _ _ _ => (de_call (d_is_whole T) (hr.mono (by decide)) takes0 (da_cons (de_var 2) (da_cons de_int (da_cons (de_var 0) da_nil))) (aCons_len (aCons_len (aCons_len (fun _ _ _ _ h => aNil_len h))))))) da_nil) (fun a b => pe_callB a rfl T.n_all bt_all b)))))))) (dss_one (ds_raise rfl (takes_of rfl rfl rfl rfl) T.x_BadReads)) dss_nil)))
theorem d_look_reads (T : Txt K mg) : Good P w K mg base 2 "look_reads" ["top", "reads"] f_look_reads := good_of T.d_look_reads sc_look_reads (by decide) (db_look_reads T)
theorem db_fitting (T : Txt K mg) (f : Addr) (cdv : Value) (A : Around) (outer : List PySem.Env) (s : Shared) (H : Hp) (E : XK) (hr : Room 0 (A.deeper (envOfC "fitting" (defScope s_fitting) s.heap.objs.size f cdv))) :
    DSs (cxOf (L2.CX P w) P w K mg base ["size", "rest", "told", "slip", "low", "first", "one"] "fitting" (defScope s_fitting) f cdv A outer s H E) (fun cls d _ H => E cls d H) (defBody s_fitting) b_fitting :=
  (dss_cons (ds_set 4 sc_fitting.nd (de_callB (cd_max rfl) T.n_max bt_max (da_cons de_int (da_cons (de_op opd_sub (de_var 2) (de_var 3)) da_nil)) (fun a b => pe_callB a rfl T.n_max bt_max b)))
  (dss_cons (ds_set 5 sc_fitting.nd (de_op opd_add (de_var 4) (de_op opd_mod (de_op opd_sub (de_var 1) (de_var 4)) (de_var 0))))
  (dss_one (ds_ret (de_lc (own := [("one", 6)]) rfl sc_fitting.nd (di_seq (de_tup (da_cons (de_var 5) (da_cons (de_op opd_add (de_var 5) (de_var 0)) da_nil)))) (blkOk_by (N := n_fitting) (sc := defScope s_fitting) (by decide +kernel)) (fun _ _ _ _ _ => (dg_name 6 sc_fitting.nd)) (fun _ _ _ _ _ => (dts_one (dt_cmp opd_le (de_var 6) (de_op opd_add (de_var 2) (de_var 3)) (nomark _)))) (fun _ _ _ _ _ => (de_var 6)))))))
theorem d_fitting (T : Txt K mg) : Good P w K mg base 1 "fitting" ["size", "rest", "told", "slip"] f_fitting := good_of T.d_fitting sc_fitting (by decide) (db_fitting T)
theorem db_sure_totals (T : Txt K mg) (f : Addr) (cdv : Value) (A : Around) (outer : List PySem.Env) (s : Shared) (H : Hp) (E : XK) (hr : Room 2 (A.deeper (envOfC "sure_totals" (defScope s_sure_totals) s.heap.objs.size f cdv))) :
    DSs (cxOf (L2.CX P w) P w K mg base ["top", "reads", "times", "slip", "found", "k", "some", "is_sure", "one"] "sure_totals" (defScope s_sure_totals) f cdv A outer s H E) (fun cls d _ H => E cls d H) (defBody s_sure_totals) b_sure_totals :=
  (dss_cons (ds_expr (de_call (d_look_reads T) (hr.mono (by decide)) (takes_of rfl rfl rfl rfl) (da_cons (de_var 0) (da_cons (de_var 1) da_nil)) (aCons_len (aCons_len (fun _ _ _ _ h => aNil_len h)))))
  (dss_cons (ds_if (DW.dt (dw_or (dt_not (dt_truth (de_is "list" (de_var 2) (pe_bltn rfl T.n_list bt_list rfl) (fun a b => pe_callB a rfl T.n_isinstance bt_isinstance b)))) (dw_or1 (dt_cmp (opd_ne hr.units) (de_callB cd_len T.n_len bt_len (da_cons (de_var 2) da_nil) (fun a b => pe_callB a rfl T.n_len bt_len b)) (de_callB cd_len T.n_len bt_len (da_cons (de_var 1) da_nil) (fun a b => pe_callB a rfl T.n_len bt_len b)) (nomark _))))) (dss_one (ds_raise rfl (takes_of rfl rfl rfl rfl) T.x_BadReads)) dss_nil)
  (dss_cons (ds_if (DW.dt (dw_or (dt_not (dt_truth (de_callB (cd_all rfl) T.n_all bt_all (da_cons (de_lc (own := [("one", 8)]) rfl sc_sure_totals.nd (di_seq (de_var 2)) (blkOk_by (N := n_sure_totals) (sc := defScope s_sure_totals) (by decide +kernel)) (fun _ _ _ _ _ => (dg_name 8 sc_sure_totals.nd)) (fun _ _ _ _ _ => dts_nil) (fun _ _ _ _ _ => (de_call (d_is_whole T) (hr.mono (by decide)) takes0 (da_cons (de_var 8) (da_cons de_int (da_cons (de_gint T.g_MOST_SPAN) da_nil))) (aCons_len (aCons_len (aCons_len (fun _ _ _ _ h => aNil_len h))))))) da_nil) (fun a b => pe_callB a rfl T.n_all bt_all b)))) (dw_or1 (dt_cmp (opd_ne hr.units) (de_callB cd_sorted T.n_sorted bt_sorted (da_cons (de_var 2) da_nil) (fun a b => pe_callB a rfl T.n_sorted bt_sorted b)) (de_var 2) (nomark _))))) (dss_one (ds_raise rfl (takes_of rfl rfl rfl rfl) T.x_BadReads)) dss_nil)
  (dss_cons (ds_if (dt_not (dt_truth (de_call (d_is_whole T) (hr.mono (by decide)) (takes_of rfl rfl rfl rfl) (da_cons (de_var 3) (da_cons de_int (da_cons (de_gint T.g_MOST_SLIP) da_nil))) (aCons_len (aCons_len (aCons_len (fun _ _ _ _ h => aNil_len h))))))) (dss_one (ds_raise rfl (takes_of rfl rfl rfl rfl) T.x_BadNumber)) dss_nil)
  (dss_cons (ds_own 4 sc_sure_totals.nd da_nil)
  (dss_cons (ds_for (passes_of rfl) rfl (di_rng1 (da_cons (de_callB cd_len T.n_len bt_len (da_cons (de_var 1) da_nil) (fun a b => pe_callB a rfl T.n_len bt_len b)) da_nil) (fun a => pi_range1 rfl T.n_range a)) (dg_name 5 sc_sure_totals.nd) (dss_one (ds_if (dt_cmp (opd_eq hr.units) (de_var 5) de_int (nomark _)) (dss_one (ds_app 4 de_int (pv 4) (fun a b => pe_bm PySem.F.plainAttrs_list PySem.F.slot_list_append PySem.F.type_list_append mt_append a b))) (dss_cons (ds_set 6 sc_sure_totals.nd (de_call (d_fitting T) (hr.mono (by decide)) (takes_of rfl rfl rfl rfl) (da_cons (de_op opd_add (de_var 0) de_int) (da_cons (de_op opd_sub (de_ix (de_var 1) (de_var 5)) (de_ix (de_var 1) (de_op opd_sub (de_var 5) de_int))) (da_cons (de_op opd_sub (de_ix (de_var 2) (de_var 5)) (de_ix (de_var 2) (de_op opd_sub (de_var 5) de_int))) (da_cons (de_var 3) da_nil)))) (aCons_len (aCons_len (aCons_len (aCons_len (fun _ _ _ _ h => aNil_len h)))))))
  (dss_cons (ds_set 7 sc_sure_totals.nd (de_and (de_cmp (opd_eq hr.units) (de_callB cd_len T.n_len bt_len (da_cons (de_var 6) da_nil) (fun a b => pe_callB a rfl T.n_len bt_len b)) de_int (nomark _)) (de_one (de_cmp opd_notN (de_owIx 4 (de_neg de_int) (pv 4)) de_non (nomark _)))))
  (dss_one (ds_app 4 (de_if (dt_truth (de_var 7)) (de_op opd_add (de_owIx 4 (de_neg de_int) (pv 4)) (de_ix (de_var 6) de_int)) de_non) (pv 4) (fun a b => pe_bm PySem.F.plainAttrs_list PySem.F.slot_list_append PySem.F.type_list_append mt_append a b))))))))
  (dss_pub 4 (dss_one (ds_ret (de_var 4))))))))))
theorem d_sure_totals (T : Txt K mg) : Good P w K mg base 3 "sure_totals" ["top", "reads", "times", "slip"] f_sure_totals := good_of T.d_sure_totals sc_sure_totals (by decide) (db_sure_totals T)
theorem db_evened (T : Txt K mg) (f : Addr) (cdv : Value) (A : Around) (outer : List PySem.Env) (s : Shared) (H : Hp) (E : XK) (hr : Room 1 (A.deeper (envOfC "evened" (defScope s_evened) s.heap.objs.size f cdv))) :
    DSs (cxOf (L2.CX P w) P w K mg base ["top", "under", "many", "k"] "evened" (defScope s_evened) f cdv A outer s H E) (fun cls d _ H => E cls d H) (defBody s_evened) b_evened :=
  (dss_cons (ds_if (DW.dt (dw_or (dt_not (dt_truth (de_call (d_is_whole T) (hr.mono (by decide)) (takes_of rfl rfl rfl rfl) (da_cons (de_var 0) (da_cons de_int (da_cons (de_gint T.g_MOST_SPAN) da_nil))) (aCons_len (aCons_len (aCons_len (fun _ _ _ _ h => aNil_len h))))))) (dw_or (dt_not (dt_truth (de_call (d_is_whole T) (hr.mono (by decide)) (takes_of rfl rfl rfl rfl) (da_cons (de_var 1) (da_cons de_int (da_cons (de_gint T.g_MOST_SPAN) da_nil))) (aCons_len (aCons_len (aCons_len (fun _ _ _ _ h => aNil_len h))))))) (dw_or1 (dt_cmp (opd_lt hr.units0) (de_var 0) (de_var 1) (nomark _)))))) (dss_one (ds_raise rfl (takes_of rfl rfl rfl rfl) T.x_BadNumber)) dss_nil)
  (dss_cons (ds_if (dt_not (dt_truth (de_call (d_is_whole T) (hr.mono (by decide)) (takes_of rfl rfl rfl rfl) (da_cons (de_var 2) (da_cons de_int (da_cons (de_gint T.g_MOST_PERIODS) da_nil))) (aCons_len (aCons_len (aCons_len (fun _ _ _ _ h => aNil_len h))))))) (dss_one (ds_raise rfl (takes_of rfl rfl rfl rfl) T.x_BadNumber)) dss_nil)
  (dss_one (ds_ret (de_lc (own := [("k", 3)]) rfl sc_evened.nd (di_rng1 (da_cons (de_var 2) da_nil) (fun a => pi_range1 rfl T.n_range a)) (blkOk_by (N := n_evened) (sc := defScope s_evened) (by decide +kernel)) (fun _ _ _ _ _ => (dg_name 3 sc_evened.nd)) (fun _ _ _ _ _ => dts_nil) (fun _ _ _ _ _ => (de_op opd_sub (de_op opd_fdiv (de_op opd_mul (de_op opd_add (de_var 3) de_int) (de_var 0)) (de_var 1)) (de_op opd_fdiv (de_op opd_mul (de_var 3) (de_var 0)) (de_var 1)))))))))
theorem d_evened (T : Txt K mg) : Good P w K mg base 2 "evened" ["top", "under", "many"] f_evened := good_of T.d_evened sc_evened (by decide) (db_evened T)
theorem db_drift (T : Txt K mg) (f : Addr) (cdv : Value) (A : Around) (outer : List PySem.Env) (s : Shared) (H : Hp) (E : XK) (hr : Room 2 (A.deeper (envOfC "drift" (defScope s_drift) s.heap.objs.size f cdv))) :
    DSs (cxOf (L2.CX P w) P w K mg base ["periods", "top", "under", "found", "total", "k", "one"] "drift" (defScope s_drift) f cdv A outer s H E) (fun cls d _ H => E cls d H) (defBody s_drift) b_drift :=
  (dss_cons (ds_if (DW.dt (dw_or (dt_not (dt_truth (de_is "list" (de_var 0) (pe_bltn rfl T.n_list bt_list rfl) (fun a b => pe_callB a rfl T.n_isinstance bt_isinstance b)))) (dw_or1 (dt_cmp opd_gt (de_callB cd_len T.n_len bt_len (da_cons (de_var 0) da_nil) (fun a b => pe_callB a rfl T.n_len bt_len b)) (de_gint T.g_MOST_PERIODS) (nomark _))))) (dss_one (ds_raise rfl (takes_of rfl rfl rfl rfl) T.x_BadReads)) dss_nil)
  (dss_cons (ds_if (dt_not (dt_truth (de_callB (cd_all rfl) T.n_all bt_all (da_cons (de_lc (own := [("one", 6)]) rfl sc_drift.nd (di_seq (de_var 0)) (blkOk_by (N := n_drift) (sc := defScope s_drift) (by decide +kernel)) (fun _ _ _ _ _ => (dg_name 6 sc_drift.nd)) (fun _ _ _ _ _ => dts_nil) (fun _ _ _ _ _ => (de_call (d_is_whole T) (hr.mono (by decide)) takes0 (da_cons (de_var 6) (da_cons de_int (da_cons (de_gint T.g_MOST_SPAN) da_nil))) (aCons_len (aCons_len (aCons_len (fun _ _ _ _ h => aNil_len h))))))) da_nil) (fun a b => pe_callB a rfl T.n_all bt_all b)))) (dss_one (ds_raise rfl (takes_of rfl rfl rfl rfl) T.x_BadReads)) dss_nil)
  (dss_cons (ds_expr (de_call (d_evened T) (hr.mono (by decide)) (takes_of rfl rfl rfl rfl) (da_cons (de_var 1) (da_cons (de_var 2) (da_cons de_int da_nil))) (aCons_len (aCons_len (aCons_len (fun _ _ _ _ h => aNil_len h))))))
  (dss_cons (ds_own 3 sc_drift.nd (da_cons de_int da_nil))
  (dss_cons (ds_set 4 sc_drift.nd de_int)
  (dss_cons (ds_for (passes_of rfl) rfl (di_rng1 (da_cons (de_callB cd_len T.n_len bt_len (da_cons (de_var 0) da_nil) (fun a b => pe_callB a rfl T.n_len bt_len b)) da_nil) (fun a => pi_range1 rfl T.n_range a)) (dg_name 5 sc_drift.nd) (dss_cons (ds_set 4 sc_drift.nd (de_op opd_add (de_var 4) (de_ix (de_var 0) (de_var 5))))
  (dss_one (ds_app 3 (de_op opd_sub (de_op opd_mul (de_var 4) (de_var 2)) (de_op opd_mul (de_op opd_add (de_var 5) de_int) (de_var 1))) (pv 3) (fun a b => pe_bm PySem.F.plainAttrs_list PySem.F.slot_list_append PySem.F.type_list_append mt_append a b)))))
  (dss_pub 3 (dss_one (ds_ret (de_tup (da_cons (de_callB (cd_min rfl) T.n_min bt_min (da_cons (de_var 3) da_nil) (fun a b => pe_callB a rfl T.n_min bt_min b)) (da_cons (de_callB (cd_max rfl) T.n_max bt_max (da_cons (de_var 3) da_nil) (fun a b => pe_callB a rfl T.n_max bt_max b)) da_nil))))))))))))
theorem d_drift (T : Txt K mg) : Good P w K mg base 3 "drift" ["periods", "top", "under"] f_drift := good_of T.d_drift sc_drift (by decide) (db_drift T)
theorem db__law_pick (T : Txt K mg) (f : Addr) (cdv : Value) (A : Around) (outer : List PySem.Env) (s : Shared) (H : Hp) (E : XK) (hr : Room 3 (A.deeper (envOfC "_law_pick" (defScope s__law_pick) s.heap.objs.size f cdv))) :
    DSs (cxOf (L2.CX P w) P w K mg base ["script", "town", "some"] "_law_pick" (defScope s__law_pick) f cdv A outer s H E) (fun cls d _ H => E cls d H) (defBody s__law_pick) b__law_pick :=
  (dss_one (ds_ret (de_ix (de_var 2) (de_call (d__law_draw T) (hr.mono (by decide)) (takes_of rfl rfl rfl rfl) (da_cons (de_var 0) (da_cons (de_var 1) (da_cons (de_callB cd_len T.n_len bt_len (da_cons (de_var 2) da_nil) (fun a b => pe_callB a rfl T.n_len bt_len b)) da_nil))) (aCons_len (aCons_len (aCons_len (fun _ _ _ _ h => aNil_len h))))))))
theorem d__law_pick (T : Txt K mg) : Good P w K mg base 4 "_law_pick" ["script", "town", "some"] f__law_pick := good_of T.d__law_pick sc__law_pick (by decide) (db__law_pick T)
theorem db__law_sure (T : Txt K mg) (f : Addr) (cdv : Value) (A : Around) (outer : List PySem.Env) (s : Shared) (H : Hp) (E : XK) (hr : Room 0 (A.deeper (envOfC "_law_sure" (defScope s__law_sure) s.heap.objs.size f cdv))) :
    DSs (cxOf (L2.CX P w) P w K mg base ["size", "reads", "times", "slip", "found", "k", "told", "rest", "first", "some", "j", "one"] "_law_sure" (defScope s__law_sure) f cdv A outer s H E) (fun cls d _ H => E cls d H) (defBody s__law_sure) b__law_sure :=
  (dss_cons (ds_own 4 sc__law_sure.nd (da_cons de_int da_nil))
  (dss_cons (ds_for (passes_of rfl) rfl (di_rng2 (da_cons de_int (da_cons (de_callB cd_len T.n_len bt_len (da_cons (de_var 1) da_nil) (fun a b => pe_callB a rfl T.n_len bt_len b)) da_nil)) (fun a => pi_range2 rfl T.n_range a)) (dg_name 5 sc__law_sure.nd) (dss_cons (ds_set 6 sc__law_sure.nd (de_op opd_sub (de_ix (de_var 2) (de_var 5)) (de_ix (de_var 2) (de_op opd_sub (de_var 5) de_int))))
  (dss_cons (ds_set 7 sc__law_sure.nd (de_op opd_mod (de_op opd_sub (de_ix (de_var 1) (de_var 5)) (de_ix (de_var 1) (de_op opd_sub (de_var 5) de_int))) (de_var 0)))
  (dss_cons (ds_set 8 sc__law_sure.nd (de_callB (cd_max rfl) T.n_max bt_max (da_cons de_int (da_cons (de_op opd_sub (de_op opd_fdiv (de_op opd_sub (de_var 6) (de_var 3)) (de_var 0)) de_int) da_nil)) (fun a b => pe_callB a rfl T.n_max bt_max b)))
  (dss_cons (ds_setLc 9 (own := [("j", 10)]) rfl sc__law_sure.nd (sw_true rfl rfl rfl (by decide +kernel)) (di_rng2 (da_cons (de_var 8) (da_cons (de_op opd_add (de_op opd_add (de_var 8) (de_op opd_fdiv (de_op opd_mul de_int (de_var 3)) (de_var 0))) de_int) da_nil)) (fun a => pi_range2 rfl T.n_range a)) (blkOk_by (N := n__law_sure) (sc := defScope s__law_sure) (by decide +kernel)) (fun _ _ _ _ _ => (dg_name 10 sc__law_sure.nd)) (fun _ _ _ _ _ => dts_nil) (fun _ _ _ _ _ => (de_op opd_add (de_var 7) (de_op opd_mul (de_var 10) (de_var 0)))))
  (dss_cons (ds_setLc 9 (own := [("one", 11)]) rfl sc__law_sure.nd (sw_true rfl rfl rfl (by decide +kernel)) (di_seq (de_var 9)) (blkOk_by (N := n__law_sure) (sc := defScope s__law_sure) (by decide +kernel)) (fun _ _ _ _ _ => (dg_name 11 sc__law_sure.nd)) (fun _ _ _ _ _ => (dts_one (dt_cmp opd_le (de_callB cd_abs T.n_abs bt_abs (da_cons (de_op opd_sub (de_var 11) (de_var 6)) da_nil) (fun a b => pe_callB a rfl T.n_abs bt_abs b)) (de_var 3) (nomark _)))) (fun _ _ _ _ _ => (de_var 11)))
  (dss_one (ds_app 4 (de_if (DW.dt (dw_and (dt_cmp (opd_eq hr.units) (de_callB cd_len T.n_len bt_len (da_cons (de_var 9) da_nil) (fun a b => pe_callB a rfl T.n_len bt_len b)) de_int (nomark _)) (dw_and1 (dt_cmp opd_notN (de_owIx 4 (de_neg de_int) (pv 4)) de_non (nomark _))))) (de_op opd_add (de_owIx 4 (de_neg de_int) (pv 4)) (de_ix (de_var 9) de_int)) de_non) (pv 4) (fun a b => pe_bm PySem.F.plainAttrs_list PySem.F.slot_list_append PySem.F.type_list_append mt_append a b)))))))))
  (dss_pub 4 (dss_one (ds_ret (de_var 4))))))
theorem d__law_sure (T : Txt K mg) : Good P w K mg base 1 "_law_sure" ["size", "reads", "times", "slip"] f__law_sure := good_of T.d__law_sure sc__law_sure (by decide) (db__law_sure T)
theorem db_totals (T : Txt K mg) (f : Addr) (cdv : Value) (A : Around) (outer : List PySem.Env) (s : Shared) (H : Hp) (E : XK) (hr : Room 2 (A.deeper (envOfC "totals" (defScope s_totals) s.heap.objs.size f cdv))) :
    DSs (cxOf (L2.CX P w) P w K mg base ["top", "reads", "found", "k"] "totals" (defScope s_totals) f cdv A outer s H E) (fun cls d _ H => E cls d H) (defBody s_totals) b_totals :=
  (dss_cons (ds_expr (de_call (d_look_reads T) (hr.mono (by decide)) (takes_of rfl rfl rfl rfl) (da_cons (de_var 0) (da_cons (de_var 1) da_nil)) (aCons_len (aCons_len (fun _ _ _ _ h => aNil_len h)))))
  (dss_cons (ds_own 2 sc_totals.nd da_nil)
  (dss_cons (ds_for (passes_of rfl) rfl (di_rng1 (da_cons (de_callB cd_len T.n_len bt_len (da_cons (de_var 1) da_nil) (fun a b => pe_callB a rfl T.n_len bt_len b)) da_nil) (fun a => pi_range1 rfl T.n_range a)) (dg_name 3 sc_totals.nd) (dss_one (ds_app 2 (de_if (dt_cmp opd_gt (de_var 3) de_int (nomark _)) (de_op opd_add (de_owIx 2 (de_neg de_int) (pv 2)) (de_op opd_mod (de_op opd_sub (de_ix (de_var 1) (de_var 3)) (de_ix (de_var 1) (de_op opd_sub (de_var 3) de_int))) (de_op opd_add (de_var 0) de_int))) de_int) (pv 2) (fun a b => pe_bm PySem.F.plainAttrs_list PySem.F.slot_list_append PySem.F.type_list_append mt_append a b))))
  (dss_pub 2 (dss_one (ds_ret (de_var 2)))))))
theorem d_totals (T : Txt K mg) : Good P w K mg base 3 "totals" ["top", "reads"] f_totals := good_of T.d_totals sc_totals (by decide) (db_totals T)
theorem db_law (T : Txt K mg) (f : Addr) (cdv : Value) (A : Around) (outer : List PySem.Env) (s : Shared) (H : Hp) (E : XK) (hr : Room 4 (A.deeper (envOfC "law" (defScope s_law) s.heap.objs.size f cdv))) :
    DSs (cxOf (L2.CX P w) P w K mg base ["script", "town", "high", "steps", "first", "sums", "reads", "wide", "slip", "off", "times", "one", "told", "under", "over", "many", "periods", "k", "bent", "offs", "low", "top_now"] "law" (defScope s_law) f cdv A outer s H E) (fun cls d _ H => E cls d H) (defBody s_law) b_law :=
  (dss_cons (ds_newL 1 sc_law.nd)
  (dss_cons (ds_set 2 sc_law.nd (de_op opd_add de_int (de_call (d__law_draw T) (hr.mono (by decide)) (takes_of rfl rfl rfl rfl) (da_cons (de_var 0) (da_cons (de_var 1) (da_cons (de_call (d__law_pick T) (hr.mono (by decide)) (takes_of rfl rfl rfl rfl) (da_cons (de_var 0) (da_cons (de_var 1) (da_cons (de_lst (da_cons de_int (da_cons de_int (da_cons de_int da_nil)))) da_nil))) (aCons_len (aCons_len (aCons_len (fun _ _ _ _ h => aNil_len h))))) da_nil))) (aCons_len (aCons_len (aCons_len (fun _ _ _ _ h => aNil_len h)))))))
  (dss_cons (ds_set 3 sc_law.nd (de_lc (own := [("k", 17)]) rfl sc_law.nd (di_rng1 (da_cons (de_call (d__law_draw T) (hr.mono (by decide)) (takes_of rfl rfl rfl rfl) (da_cons (de_var 0) (da_cons (de_var 1) (da_cons de_int da_nil))) (aCons_len (aCons_len (aCons_len (fun _ _ _ _ h => aNil_len h))))) da_nil) (fun a => pi_range1 rfl T.n_range a)) (blkOk_by (N := n_law) (sc := defScope s_law) (by decide +kernel)) (fun _ _ _ _ _ => (dg_name 17 sc_law.nd)) (fun _ _ _ _ _ => dts_nil) (fun _ _ _ _ _ => (de_call (d__law_draw T) (hr.mono (by decide)) takes0 (da_cons (de_var 0) (da_cons (de_var 1) (da_cons (de_op opd_add (de_var 2) de_int) da_nil))) (aCons_len (aCons_len (aCons_len (fun _ _ _ _ h => aNil_len h))))))))
  (dss_cons (ds_set 4 sc_law.nd (de_call (d__law_draw T) (hr.mono (by decide)) (takes_of rfl rfl rfl rfl) (da_cons (de_var 0) (da_cons (de_var 1) (da_cons (de_op opd_add (de_var 2) de_int) da_nil))) (aCons_len (aCons_len (aCons_len (fun _ _ _ _ h => aNil_len h))))))
  (dss_cons (ds_setLc 5 (own := [("k", 17)]) rfl sc_law.nd (sw_true rfl rfl rfl (by decide +kernel)) (di_rng1 (da_cons (de_op opd_add (de_callB cd_len T.n_len bt_len (da_cons (de_var 3) da_nil) (fun a b => pe_callB a rfl T.n_len bt_len b)) de_int) da_nil) (fun a => pi_range1 rfl T.n_range a)) (blkOk_by (N := n_law) (sc := defScope s_law) (by decide +kernel)) (fun _ _ _ _ _ => (dg_name 17 sc_law.nd)) (fun _ _ _ _ _ => dts_nil) (fun _ _ _ _ _ => (de_callB (cd_sum rfl) T.n_sum bt_sum (da_cons (de_sl (de_var 3) do_none (do_some (W := WF) (de_var 17))) da_nil) (fun a b => pe_callB a rfl T.n_sum bt_sum b))))
  (dss_cons (ds_setLc 6 (own := [("one", 11)]) rfl sc_law.nd (sw_true rfl rfl rfl (by decide +kernel)) (di_seq (de_var 5)) (blkOk_by (N := n_law) (sc := defScope s_law) (by decide +kernel)) (fun _ _ _ _ _ => (dg_name 11 sc_law.nd)) (fun _ _ _ _ _ => dts_nil) (fun _ _ _ _ _ => (de_op opd_mod (de_op opd_add (de_var 4) (de_var 11)) (de_op opd_add (de_var 2) de_int))))
  (dss_cons (ds_if (DW.dt (dw_or (dt_cmp (opd_ne hr.units) (de_call (d_totals T) (hr.mono (by decide)) (takes_of rfl rfl rfl rfl) (da_cons (de_var 2) (da_cons (de_var 6) da_nil)) (aCons_len (aCons_len (fun _ _ _ _ h => aNil_len h)))) (de_var 5) (nomark _)) (dw_or1 (dt_cmp (opd_ne hr.units) (de_call (d_totals T) (hr.mono (by decide)) (takes_of rfl rfl rfl rfl) (da_cons (de_var 2) (da_cons (de_lst da_nil) da_nil)) (aCons_len (aCons_len (fun _ _ _ _ h => aNil_len h)))) (de_lst da_nil) (nomark _))))) (dss_one (ds_ret de_bl)) dss_nil)
  (dss_cons (ds_set 7 sc_law.nd (de_lc (own := [("one", 11)]) rfl sc_law.nd (di_seq (de_var 3)) (blkOk_by (N := n_law) (sc := defScope s_law) (by decide +kernel)) (fun _ _ _ _ _ => (dg_name 11 sc_law.nd)) (fun _ _ _ _ _ => dts_nil) (fun _ _ _ _ _ => (de_op opd_add (de_var 11) (de_op opd_mul (de_op opd_add (de_var 2) de_int) (de_call (d__law_draw T) (hr.mono (by decide)) takes0 (da_cons (de_var 0) (da_cons (de_var 1) (da_cons de_int da_nil))) (aCons_len (aCons_len (aCons_len (fun _ _ _ _ h => aNil_len h))))))))))
  (dss_cons (ds_setLc 5 (own := [("k", 17)]) rfl sc_law.nd (sw_true rfl rfl rfl (by decide +kernel)) (di_rng1 (da_cons (de_op opd_add (de_callB cd_len T.n_len bt_len (da_cons (de_var 7) da_nil) (fun a b => pe_callB a rfl T.n_len bt_len b)) de_int) da_nil) (fun a => pi_range1 rfl T.n_range a)) (blkOk_by (N := n_law) (sc := defScope s_law) (by decide +kernel)) (fun _ _ _ _ _ => (dg_name 17 sc_law.nd)) (fun _ _ _ _ _ => dts_nil) (fun _ _ _ _ _ => (de_callB (cd_sum rfl) T.n_sum bt_sum (da_cons (de_sl (de_var 7) do_none (do_some (W := WF) (de_var 17))) da_nil) (fun a b => pe_callB a rfl T.n_sum bt_sum b))))
  (dss_cons (ds_setLc 6 (own := [("one", 11)]) rfl sc_law.nd (sw_true rfl rfl rfl (by decide +kernel)) (di_seq (de_var 5)) (blkOk_by (N := n_law) (sc := defScope s_law) (by decide +kernel)) (fun _ _ _ _ _ => (dg_name 11 sc_law.nd)) (fun _ _ _ _ _ => dts_nil) (fun _ _ _ _ _ => (de_op opd_mod (de_op opd_add (de_var 4) (de_var 11)) (de_op opd_add (de_var 2) de_int))))
  (dss_cons (ds_set 8 sc_law.nd (de_call (d__law_draw T) (hr.mono (by decide)) (takes_of rfl rfl rfl rfl) (da_cons (de_var 0) (da_cons (de_var 1) (da_cons (de_call (d__law_pick T) (hr.mono (by decide)) (takes_of rfl rfl rfl rfl) (da_cons (de_var 0) (da_cons (de_var 1) (da_cons (de_lst (da_cons de_int (da_cons (de_op opd_add (de_op opd_fdiv (de_var 2) de_int) de_int) (da_cons (de_op opd_mul de_int (de_var 2)) da_nil)))) da_nil))) (aCons_len (aCons_len (aCons_len (fun _ _ _ _ h => aNil_len h))))) da_nil))) (aCons_len (aCons_len (aCons_len (fun _ _ _ _ h => aNil_len h))))))
  (dss_cons (ds_set 9 sc_law.nd (de_call (d__law_draw T) (hr.mono (by decide)) (takes_of rfl rfl rfl rfl) (da_cons (de_var 0) (da_cons (de_var 1) (da_cons (de_op opd_add (de_var 8) de_int) da_nil))) (aCons_len (aCons_len (aCons_len (fun _ _ _ _ h => aNil_len h))))))
  (dss_cons (ds_own 10 sc_law.nd (da_cons de_int da_nil))
  (dss_cons (ds_for (passes_of rfl) rfl (di_seq (de_var 7)) (dg_name 11 sc_law.nd) (dss_one (ds_app 10 (de_op opd_add (de_owIx 10 (de_neg de_int) (pv 10)) (de_callB (cd_max rfl) T.n_max bt_max (da_cons de_int (da_cons (de_op opd_add (de_var 11) (de_if (dt_cmp (opd_eq hr.units) (de_call (d__law_draw T) (hr.mono (by decide)) (takes_of rfl rfl rfl rfl) (da_cons (de_var 0) (da_cons (de_var 1) (da_cons de_int da_nil))) (aCons_len (aCons_len (aCons_len (fun _ _ _ _ h => aNil_len h))))) de_int (nomark _)) (de_var 9) (de_op opd_sub de_int (de_var 9)))) da_nil)) (fun a b => pe_callB a rfl T.n_max bt_max b))) (pv 10) (fun a b => pe_bm PySem.F.plainAttrs_list PySem.F.slot_list_append PySem.F.type_list_append mt_append a b))))
  (dss_pub 10 (dss_cons (ds_set 12 sc_law.nd (de_call (d_sure_totals T) (hr.mono (by decide)) (takes_of rfl rfl rfl rfl) (da_cons (de_var 2) (da_cons (de_var 6) (da_cons (de_var 10) (da_cons (de_var 8) da_nil)))) (aCons_len (aCons_len (aCons_len (aCons_len (fun _ _ _ _ h => aNil_len h)))))))
  (dss_cons (ds_if (dt_cmp (opd_ne hr.units) (de_var 12) (de_call (d__law_sure T) (hr.mono (by decide)) (takes_of rfl rfl rfl rfl) (da_cons (de_op opd_add (de_var 2) de_int) (da_cons (de_var 6) (da_cons (de_var 10) (da_cons (de_var 8) da_nil)))) (aCons_len (aCons_len (aCons_len (aCons_len (fun _ _ _ _ h => aNil_len h)))))) (nomark _)) (dss_one (ds_ret de_bl)) dss_nil)
  (dss_cons (ds_if (DW.dt (dw_and (dt_cmp opd_le (de_op opd_mul de_int (de_var 8)) (de_var 2) (nomark _)) (dw_and1 (dt_cmp (opd_ne hr.units) (de_var 12) (de_var 5) (nomark _))))) (dss_one (ds_ret de_bl)) dss_nil)
  (dss_cons (ds_set 13 sc_law.nd (de_op opd_add de_int (de_call (d__law_draw T) (hr.mono (by decide)) (takes_of rfl rfl rfl rfl) (da_cons (de_var 0) (da_cons (de_var 1) (da_cons (de_call (d__law_pick T) (hr.mono (by decide)) (takes_of rfl rfl rfl rfl) (da_cons (de_var 0) (da_cons (de_var 1) (da_cons (de_lst (da_cons de_int (da_cons de_int da_nil))) da_nil))) (aCons_len (aCons_len (aCons_len (fun _ _ _ _ h => aNil_len h))))) da_nil))) (aCons_len (aCons_len (aCons_len (fun _ _ _ _ h => aNil_len h)))))))
  (dss_cons (ds_set 14 sc_law.nd (de_op opd_add (de_var 13) (de_call (d__law_draw T) (hr.mono (by decide)) (takes_of rfl rfl rfl rfl) (da_cons (de_var 0) (da_cons (de_var 1) (da_cons de_int da_nil))) (aCons_len (aCons_len (aCons_len (fun _ _ _ _ h => aNil_len h)))))))
  (dss_cons (ds_set 15 sc_law.nd (de_call (d__law_draw T) (hr.mono (by decide)) (takes_of rfl rfl rfl rfl) (da_cons (de_var 0) (da_cons (de_var 1) (da_cons de_int da_nil))) (aCons_len (aCons_len (aCons_len (fun _ _ _ _ h => aNil_len h))))))
  (dss_cons (ds_set 16 sc_law.nd (de_call (d_evened T) (hr.mono (by decide)) (takes_of rfl rfl rfl rfl) (da_cons (de_var 14) (da_cons (de_var 13) (da_cons (de_var 15) da_nil))) (aCons_len (aCons_len (aCons_len (fun _ _ _ _ h => aNil_len h))))))
  (dss_cons (ds_for (passes_of rfl) rfl (di_rng2 (da_cons de_int (da_cons (de_op opd_add (de_var 15) de_int) da_nil)) (fun a => pi_range2 rfl T.n_range a)) (dg_name 17 sc_law.nd) (dss_one (ds_if (dt_cmp (opd_ne hr.units) (de_callB (cd_sum rfl) T.n_sum bt_sum (da_cons (de_sl (de_var 16) do_none (do_some (W := WF) (de_var 17))) da_nil) (fun a b => pe_callB a rfl T.n_sum bt_sum b)) (de_op opd_fdiv (de_op opd_mul (de_var 14) (de_var 17)) (de_var 13)) (nomark _)) (dss_one (ds_ret de_bl)) dss_nil)))
  (dss_cons (ds_asg (de_call (d_drift T) (hr.mono (by decide)) (takes_of rfl rfl rfl rfl) (da_cons (de_var 16) (da_cons (de_var 14) (da_cons (de_var 13) da_nil))) (aCons_len (aCons_len (aCons_len (fun _ _ _ _ h => aNil_len h))))) (dg_tup rfl (dgs_cons (dg_name 20 sc_law.nd) (dgs_cons (dg_name 21 sc_law.nd) dgs_nil)) (gsCons_len (gsCons_len gsNil_len))) (fun a b => ps_asg a b))
  (dss_cons (ds_if (DW.dt (dw_or (dt_cmp (opd_ne hr.units) (de_callB cd_len T.n_len bt_len (da_cons (de_var 16) da_nil) (fun a b => pe_callB a rfl T.n_len bt_len b)) (de_var 15) (nomark _)) (dw_or (dt_not (dt_chain (opd_lt hr.units0) opd_le (de_op opd_sub de_int (de_var 13)) (de_var 20) de_int (fun a b c d e => pt_chain a b c d e))) (dw_or1 (dt_cmp (opd_ne hr.units) (de_var 21) de_int (nomark _)))))) (dss_one (ds_ret de_bl)) dss_nil)
  (dss_cons (ds_set 18 sc_law.nd (de_lc (own := [("one", 11)]) rfl sc_law.nd (di_seq (de_var 16)) (blkOk_by (N := n_law) (sc := defScope s_law) (by decide +kernel)) (fun _ _ _ _ _ => (dg_name 11 sc_law.nd)) (fun _ _ _ _ _ => dts_nil) (fun _ _ _ _ _ => (de_op opd_add (de_var 11) (de_call (d__law_draw T) (hr.mono (by decide)) takes0 (da_cons (de_var 0) (da_cons (de_var 1) (da_cons de_int da_nil))) (aCons_len (aCons_len (aCons_len (fun _ _ _ _ h => aNil_len h)))))))))
  (dss_cons (ds_set 19 sc_law.nd (de_op opd_add (de_lst (da_cons de_int da_nil)) (de_lc (own := [("k", 17)]) rfl sc_law.nd (di_rng2 (da_cons de_int (da_cons (de_op opd_add (de_var 15) de_int) da_nil)) (fun a => pi_range2 rfl T.n_range a)) (blkOk_by (N := n_law) (sc := defScope s_law) (by decide +kernel)) (fun _ _ _ _ _ => (dg_name 17 sc_law.nd)) (fun _ _ _ _ _ => dts_nil) (fun _ _ _ _ _ => (de_op opd_sub (de_op opd_mul (de_callB (cd_sum rfl) T.n_sum bt_sum (da_cons (de_sl (de_var 18) do_none (do_some (W := WF) (de_var 17))) da_nil) (fun a b => pe_callB a rfl T.n_sum bt_sum b)) (de_var 13)) (de_op opd_mul (de_var 17) (de_var 14)))))))
  (dss_one (ds_ret (de_cmp (opd_eq hr.units) (de_call (d_drift T) (hr.mono (by decide)) (takes_of rfl rfl rfl rfl) (da_cons (de_var 18) (da_cons (de_var 14) (da_cons (de_var 13) da_nil))) (aCons_len (aCons_len (aCons_len (fun _ _ _ _ h => aNil_len h))))) (de_tup (da_cons (de_callB (cd_min rfl) T.n_min bt_min (da_cons (de_var 19) da_nil) (fun a b => pe_callB a rfl T.n_min bt_min b)) (da_cons (de_callB (cd_max rfl) T.n_max bt_max (da_cons (de_var 19) da_nil) (fun a b => pe_callB a rfl T.n_max bt_max b)) da_nil))) (nomark _)))))))))))))))))))))))))))))))
end
end Der

namespace Pu
open PySem Bc Mir
local macro_rules | `(tactic| walk_at "ev") => `(tactic| first
  | with_reducible exact ok_c
  | ((with_reducible apply ok_var); rfl)
  | with_reducible exact ok_nil
  | ((with_reducible apply ok_cons); walk_at "ev"; walk_at "ev")
  | ((with_reducible apply ok_op); walk_at "ev"; walk_at "ev"; walk_at "op")
  | ((with_reducible apply ok_b); walk_at "ev"; walk_at "bi")
  | ((with_reducible apply ok_call); walk_at "ev"; walk_at "fn")
  | ((with_reducible apply ok_tup); walk_at "ev"; walk_at "sz")
  | ((with_reducible apply ok_lst); walk_at "ev"; walk_at "sz")
  | ((with_reducible apply ok_neg); walk_at "ev")
  | ((with_reducible apply ok_tru); walk_at "ev"; rfl)
  | ((with_reducible apply ok_is); walk_at "ev"; walk_at "is")
  | ((with_reducible apply ok_not); walk_at "ev")
  | ((with_reducible apply ok_notT); walk_at "ev")
  | ((with_reducible apply ok_notF); walk_at "ev")
  | ((with_reducible apply ok_owIx); rfl; walk_at "ev"; walk_at "op")
  | ((with_reducible apply ok_owLen); rfl)
  | ((with_reducible apply ok_owTru); rfl)
  | ((with_reducible apply ok_sl); walk_at "ev"; walk_at "ev"; walk_at "ev"; rfl)
  | with_reducible exact ok_oNone
  | ((with_reducible apply ok_oSome); walk_at "ev")
  | ((with_reducible apply ok_iSeq); walk_at "ev"; rfl)
  | ((with_reducible apply ok_iRng); walk_at "ev"; walk_at "bi")
  | ((with_reducible apply ok_if); walk_at "ev"; walk_at "if")
  | ((with_reducible apply ok_chain); walk_at "ev"; walk_at "ev"; walk_at "op"; walk_at "if"))
local macro_rules | `(tactic| walk_at "sz") => `(tactic| first | exact Nat.le_of_ble_eq_true rfl | (simp [cap]; done) | (simp [cap]; omega) | omega)
local macro_rules | `(tactic| walk_at "op") => `(tactic| first
  | with_reducible exact add_ii
  | with_reducible exact sub_ii
  | ((with_reducible apply mod_ii); omega)
  | ((with_reducible apply fdiv_ii) <;> omega)
  | ((with_reducible apply mul_l) <;> omega)
  | ((with_reducible apply mul_r) <;> omega)
  | ((with_reducible apply pow_ii) <;> omega)
  | with_reducible exact eq_ii
  | with_reducible exact ne_ii
  | assumption
  | rfl
  | ((with_reducible apply gt_T); omega)
  | ((with_reducible apply gt_F); omega)
  | ((with_reducible apply lt_T); omega)
  | ((with_reducible apply lt_F); omega)
  | ((with_reducible apply le_T); omega)
  | ((with_reducible apply le_F); omega)
  | ((with_reducible apply ge_T); omega)
  | ((with_reducible apply ge_F); omega)
  | ((with_reducible apply eq_T); omega)
  | ((with_reducible apply eq_F); omega)
  | ((with_reducible apply ne_T); omega)
  | ((with_reducible apply ne_F); omega))
local macro_rules | `(tactic| walk_at "bi") => `(tactic| first | assumption | rfl)
local macro_rules | `(tactic| walk_at "fn") => `(tactic| assumption)
local macro_rules | `(tactic| walk_at "if") => `(tactic| first
  | (rw [if_pos (by first | rfl | decide | omega | (simp; done) | (simp; omega))]; walk_at "ev")
  | (rw [if_neg (by first | decide | omega | (simp; done) | (simp; omega))]; walk_at "ev"))
local macro_rules | `(tactic| walk_at "is") => `(tactic| first | with_reducible exact is_bool_int | with_reducible exact is_bool_bool | with_reducible exact is_bool_str | with_reducible exact is_bool_list | with_reducible exact is_bool_tuple | with_reducible exact is_int_int | with_reducible exact is_int_bool | with_reducible exact is_int_str | with_reducible exact is_int_list | with_reducible exact is_int_tuple | with_reducible exact is_str_int | with_reducible exact is_str_bool | with_reducible exact is_str_str | with_reducible exact is_str_list | with_reducible exact is_str_tuple | with_reducible exact is_list_int | with_reducible exact is_list_bool | with_reducible exact is_list_str | with_reducible exact is_list_list | with_reducible exact is_list_tuple | with_reducible exact is_tuple_int | with_reducible exact is_tuple_bool | with_reducible exact is_tuple_str | with_reducible exact is_tuple_list | with_reducible exact is_tuple_tuple | with_reducible exact is_NoneType_int | with_reducible exact is_NoneType_bool | with_reducible exact is_NoneType_str | with_reducible exact is_NoneType_list | with_reducible exact is_NoneType_tuple)
def tw (n : Nat) (r : Sto) : Sto := .shl (List.replicate n (.int 0)) :: r
/-! the draws -/
theorem cell_ok (ns : List Int) (k : Nat) (S : Sto) : ∃ v, f__law_cell [frzD (ns.map .int), .int k] S = .ok (.int v) S := by
  unfold f__law_cell b__law_cell
  by_cases h : ns = []
  · subst h
    exact ⟨0, run_ret rfl (st_seq (st_ifF (by walk_at "ev") st_nil) (st_ret (by walk_at "ev")))⟩
  · have hl : 0 < ns.length := List.length_pos_iff.mpr h
    have hi : k % ns.length < ns.length := Nat.mod_lt _ hl
    refine ⟨ns[k % ns.length], run_ret rfl (st_seqRet (st_ifT (S1 := S) ?_ (st_ret (S1 := S) ?_)))⟩
    · refine ok_tru (ok_var rfl) ?_
      show some (!(ns.map PyData.int).isEmpty) = some true
      cases ns with
      | nil => exact absurd rfl h
      | cons a r => rfl
    · refine ok_op (ok_var rfl) (ok_op (ok_var rfl) (ok_b (ok_cons (ok_var rfl) ok_nil) rfl) (mod_ii ?_)) ?_
      · rw [List.length_map]; omega
      · show L2.atI (ns.map PyData.int) _ = _
        rw [List.length_map]
        have e : ((k : Int) % (ns.length : Int)) = ((k % ns.length : Nat) : Int) := by omega
        rw [e]
        refine L2.atI_nat ?_
        rw [List.getElem?_map, List.getElem?_eq_getElem hi]
        rfl
theorem mix_ok (ns : List Int) (k : Nat) (S : Sto) : ∃ v, 0 ≤ v ∧ f__law_mix [frzD (ns.map .int), .int k] S = .ok (.int v) S := by
  obtain ⟨v, hv⟩ := cell_ok ns k S
  unfold f__law_mix b__law_mix
  have h1 := Int.emod_nonneg (v + 104729 * ((k : Int) + 1)) (show (4294967291 : Int) ≠ 0 by decide)
  have h2 := Int.emod_lt_of_pos (v + 104729 * ((k : Int) + 1)) (show (0 : Int) < 4294967291 by decide)
  refine ⟨_, ?_, run_ret rfl (st_seq (st_set (by walk_at "ev")) (st_seq (st_set (by walk_at "ev")) (st_ret (by walk_at "ev"))))⟩
  exact Int.emod_nonneg _ (by decide)
theorem draw_ok (ns : List Int) (n : Nat) (r : Sto) (m : Int) (hm : 0 < m) (hn : n < 50000) : ∃ v, 0 ≤ v ∧ v < m ∧ f__law_draw [frzD (ns.map .int), objD 0, .int m] (tw n r) = .ok (.int v) (tw (n + 1) r) := by
  obtain ⟨v, hv, e⟩ := mix_ok ns (n + 1) (tw (n + 1) r)
  unfold f__law_draw b__law_draw
  refine ⟨v / 8 % m, Int.emod_nonneg _ (by omega), Int.emod_lt_of_pos _ hm, run_ret rfl (st_seq (sd1 := [.im (frzD (ns.map .int)), .im (objD 0), .im (.int m)]) (S1 := tw (n + 1) r) ?_ (st_ret (S1 := tw (n + 1) r) ?_))⟩
  · rw [st_appL (o := 0) rfl rfl ok_c rfl (by rw [List.length_replicate]; show n < 100000; omega)]
    unfold tw
    rw [List.set_cons_zero, ← List.replicate_succ']
    rfl
  · refine ok_op (ok_op (ok_call (ok_cons (ok_var rfl) (ok_cons (ok_lenL (o := 0) rfl rfl) ok_nil)) (S2 := tw (n + 1) r) (d := .int v) ?_) ok_c (fdiv_ii (by decide) (by decide))) (ok_var rfl) (mod_ii hm)
    rw [List.length_replicate]
    exact e
theorem pick_ok (ns : List Int) (n : Nat) (r : Sto) (ds : List PyData) (hm : 0 < ds.length) (hn : n < 50000) : ∃ d, d ∈ ds ∧ f__law_pick [frzD (ns.map .int), objD 0, .list ds] (tw n r) = .ok d (tw (n + 1) r) := by
  obtain ⟨v, h0, h1, e⟩ := draw_ok ns n r ds.length (by omega) hn
  unfold f__law_pick b__law_pick
  have hi : v.toNat < ds.length := by omega
  refine ⟨ds[v.toNat], List.getElem_mem hi, run_ret rfl (st_ret (ok_op (ok_var rfl) (ok_call (ok_cons (ok_var rfl) (ok_cons (ok_var rfl) (ok_cons (ok_b (ok_cons (ok_var rfl) ok_nil) rfl) ok_nil))) e) ?_))⟩
  have ev : v = ((v.toNat : Nat) : Int) := by omega
  have h2 := L2.atI_nat (xs := ds) (List.getElem?_eq_getElem hi)
  rw [← ev] at h2
  exact h2
/-! is_whole -/
def isWh (lo hi : Int) : PyData → Bool
  | .int i => decide (lo ≤ i) && decide (i ≤ hi)
  | _ => false
def noDict : PyData → Bool
  | .dict _ => false
  | _ => true
theorem whole_eq (d : PyData) (lo hi : Int) (S : Sto) (h : noDict d = true) : f_is_whole [d, .int lo, .int hi] S = .ok (.bool (isWh lo hi d)) S := by
  unfold f_is_whole b_is_whole
  cases d with
  | int i =>
    refine run_ret rfl (st_ret (ok_andT (by walk_at "ev") (ok_andT (by walk_at "ev") ?_)))
    refine ok_chain (ok_var rfl) (ok_var rfl) rfl ?_
    show _ = R.ok (.bool (decide (lo ≤ i) && decide (i ≤ hi))) S
    by_cases h1 : lo ≤ i
    · rw [if_pos (by simpa using h1), decide_eq_true h1]
      rfl
    · rw [if_neg (by simpa using h1), decide_eq_false h1]
      rfl
  | bool b => exact run_ret rfl (st_ret (ok_andT (by walk_at "ev") (ok_andF (by walk_at "ev"))))
  | dict _ => cases h
  | none => exact run_ret rfl (st_ret (ok_andF (by walk_at "ev")))
  | str _ => exact run_ret rfl (st_ret (ok_andF (by walk_at "ev")))
  | list _ => exact run_ret rfl (st_ret (ok_andF (by walk_at "ev")))
  | tuple _ => exact run_ret rfl (st_ret (ok_andF (by walk_at "ev")))
theorem wholeT {i lo hi : Int} {S : Sto} (h1 : lo ≤ i) (h2 : i ≤ hi) : f_is_whole [.int i, .int lo, .int hi] S = .ok (.bool true) S := by
  rw [whole_eq _ _ _ _ rfl]
  show R.ok (.bool (decide (lo ≤ i) && decide (i ≤ hi))) S = _
  rw [decide_eq_true h1, decide_eq_true h2]
  rfl
end Pu

namespace Pu
open PySem Bc Mir
local macro_rules | `(tactic| walk_at "ev") => `(tactic| first
  | with_reducible exact ok_c
  | ((with_reducible apply ok_var); rfl)
  | with_reducible exact ok_nil
  | ((with_reducible apply ok_cons); walk_at "ev"; walk_at "ev")
  | ((with_reducible apply ok_op); walk_at "ev"; walk_at "ev"; walk_at "op")
  | ((with_reducible apply ok_b); walk_at "ev"; walk_at "bi")
  | ((with_reducible apply ok_call); walk_at "ev"; walk_at "fn")
  | ((with_reducible apply ok_tup); walk_at "ev"; walk_at "sz")
  | ((with_reducible apply ok_lst); walk_at "ev"; walk_at "sz")
  | ((with_reducible apply ok_neg); walk_at "ev")
  | ((with_reducible apply ok_tru); walk_at "ev"; rfl)
  | ((with_reducible apply ok_is); walk_at "ev"; walk_at "is")
  | ((with_reducible apply ok_not); walk_at "ev")
  | ((with_reducible apply ok_notT); walk_at "ev")
  | ((with_reducible apply ok_notF); walk_at "ev")
  | ((with_reducible apply ok_owIx); rfl; walk_at "ev"; walk_at "op")
  | ((with_reducible apply ok_owLen); rfl)
  | ((with_reducible apply ok_owTru); rfl)
  | ((with_reducible apply ok_sl); walk_at "ev"; walk_at "ev"; walk_at "ev"; rfl)
  | with_reducible exact ok_oNone
  | ((with_reducible apply ok_oSome); walk_at "ev")
  | ((with_reducible apply ok_iSeq); walk_at "ev"; rfl)
  | ((with_reducible apply ok_iRng); walk_at "ev"; walk_at "bi")
  | ((with_reducible apply ok_if); walk_at "ev"; walk_at "if")
  | ((with_reducible apply ok_chain); walk_at "ev"; walk_at "ev"; walk_at "op"; walk_at "if"))
local macro_rules | `(tactic| walk_at "sz") => `(tactic| first | exact Nat.le_of_ble_eq_true rfl | (simp [cap]; done) | (simp [cap]; omega) | omega)
local macro_rules | `(tactic| walk_at "op") => `(tactic| first
  | with_reducible exact add_ii
  | with_reducible exact sub_ii
  | ((with_reducible apply mod_ii); omega)
  | ((with_reducible apply fdiv_ii) <;> omega)
  | ((with_reducible apply mul_l) <;> omega)
  | ((with_reducible apply mul_r) <;> omega)
  | ((with_reducible apply pow_ii) <;> omega)
  | with_reducible exact eq_ii
  | with_reducible exact ne_ii
  | assumption
  | rfl
  | ((with_reducible apply gt_T); omega)
  | ((with_reducible apply gt_F); omega)
  | ((with_reducible apply lt_T); omega)
  | ((with_reducible apply lt_F); omega)
  | ((with_reducible apply le_T); omega)
  | ((with_reducible apply le_F); omega)
  | ((with_reducible apply ge_T); omega)
  | ((with_reducible apply ge_F); omega)
  | ((with_reducible apply eq_T); omega)
  | ((with_reducible apply eq_F); omega)
  | ((with_reducible apply ne_T); omega)
  | ((with_reducible apply ne_F); omega))
local macro_rules | `(tactic| walk_at "bi") => `(tactic| first | assumption | rfl)
local macro_rules | `(tactic| walk_at "fn") => `(tactic| assumption)
local macro_rules | `(tactic| walk_at "if") => `(tactic| first
  | (rw [if_pos (by first | rfl | decide | omega | (simp; done) | (simp; omega))]; walk_at "ev")
  | (rw [if_neg (by first | decide | omega | (simp; done) | (simp; omega))]; walk_at "ev"))
local macro_rules | `(tactic| walk_at "is") => `(tactic| first | with_reducible exact is_bool_int | with_reducible exact is_bool_bool | with_reducible exact is_bool_str | with_reducible exact is_bool_list | with_reducible exact is_bool_tuple | with_reducible exact is_int_int | with_reducible exact is_int_bool | with_reducible exact is_int_str | with_reducible exact is_int_list | with_reducible exact is_int_tuple | with_reducible exact is_str_int | with_reducible exact is_str_bool | with_reducible exact is_str_str | with_reducible exact is_str_list | with_reducible exact is_str_tuple | with_reducible exact is_list_int | with_reducible exact is_list_bool | with_reducible exact is_list_str | with_reducible exact is_list_list | with_reducible exact is_list_tuple | with_reducible exact is_tuple_int | with_reducible exact is_tuple_bool | with_reducible exact is_tuple_str | with_reducible exact is_tuple_list | with_reducible exact is_tuple_tuple | with_reducible exact is_NoneType_int | with_reducible exact is_NoneType_bool | with_reducible exact is_NoneType_str | with_reducible exact is_NoneType_list | with_reducible exact is_NoneType_tuple)
local macro_rules | `(tactic| walk_at "fn") => `(tactic| first | assumption | ((with_reducible apply wholeT) <;> omega))
/-- a list of whole numbers by place -/
abbrev iT (n : Nat) (g : Nat → Int) : PyData := .list (tab n fun k => .int (g k))
/-- all([is_whole(one, lo, hi) for one in xs]) -/
theorem all_whole {n : Nat} {g : Nat → Int} {lo hi : Int} {sd : Sg} {S : Sto} {t : MG} {e : ME} {vs : List Nat} {m : ME} (hm : m sd S = .ok (iT n g) S) (hn : n ≤ cap) (hno : noOw sd vs = true) (hg : ∀ k, k < n → lo ≤ g k ∧ g k ≤ hi)
    (ht : ∀ k, k < n → ∃ sd2, t (.int (g k)) (wipeD sd vs) = some sd2 ∧ e sd2 S = .ok (.bool true) S) : eB allD (aCons (eLc (iSeq m) vs t eYes e) aNil) sd S = .ok (.bool true) S := by
  refine ok_b (ok_cons (ok_lc (ok_iSeq hm rfl) hno (lc_tabP (fun _ => .bool true) hn ht)) ok_nil) ?_
  exact all_tabT (g := fun _ => true) fun _ _ => rfl
theorem look_reads_ok {top : Int} {n : Nat} {g : Nat → Int} {S : Sto} (h1 : 1 ≤ top) (h2 : top ≤ 65535) (hn : n ≤ 100) (hg : ∀ k, k < n → 0 ≤ g k ∧ g k ≤ top) : f_look_reads [.int top, iT n g] S = .ok .none S := by
  unfold f_look_reads b_look_reads
  refine run_nx rfl (st_seq (st_ifF (by walk_at "ev") st_nil) (st_ifF (ok_orF (by walk_at "ev") (ok_orF (ok_op (by walk_at "ev") ok_c (gt_F ?_)) (ok_notF (ok_tru (d := .bool true) ?_ rfl)))) st_nil))
  · rw [tab_length]; omega
  · refine all_whole (ok_var rfl) (by show n ≤ 100000; omega) rfl hg fun k hk => ⟨_, rfl, ?_⟩
    have := hg k hk
    walk_at "ev"
def totN (top : Int) (g : Nat → Int) : Nat → Int
  | 0 => 0
  | k + 1 => totN top g k + (g (k + 1) - g k) % (top + 1)
theorem item_iT {n k : Nat} {g : Nat → Int} (h : k < n) : itemD (iT n g) (.int (k : Int)) = some (.int (g k)) := tab_at (f := fun k => PyData.int (g k)) h
theorem item_iTs {n k : Nat} {g : Nat → Int} (h : k < n) (h0 : 0 < k) : itemD (iT n g) (.int ((k : Int) - 1)) = some (.int (g (k - 1))) := by
  have e : ((k : Int) - 1) = ((k - 1 : Nat) : Int) := by omega
  rw [e]
  exact item_iT (by omega)
theorem totals_ok {top : Int} {n : Nat} {g : Nat → Int} {S : Sto} (h1 : 1 ≤ top) (h2 : top ≤ 65535) (hn : n ≤ 100) (hg : ∀ k, k < n → 0 ≤ g k ∧ g k ≤ top) : f_totals [.int top, iT n g] S = .ok (iT n (totN top g)) S := by
  unfold f_totals b_totals
  have hl := look_reads_ok (S := S) h1 h2 hn hg
  obtain ⟨sd', S', e1, e2, v, e3⟩ := for_tab (n := n) (f := fun i => .int (0 + (i : Nat)))
    (t := gN 3) (b := l1_totals)
    (fun k sd S' => S' = S ∧ ∃ v, sd = [.im (.int top), .im (iT n g), .ow (tab k fun i => .int (totN top g i)), v])
    (sd := [.im (.int top), .im (iT n g), .ow [], .un]) (S := S) ⟨rfl, .un, rfl⟩ (fun k sd S' hk hI => by
      obtain ⟨rfl, v, rfl⟩ := hI
      refine ⟨_, _, S', rfl, st_app (ds := tab k fun i => .int (totN top g i)) (d := .int (totN top g k)) rfl ?_ (by rw [tab_length]; show k < 100000; omega), rfl, .im (.int (0 + (k : Nat))), ?_⟩
      · cases k with
        | zero => exact ok_if (k := false) (by walk_at "ev") (by rw [if_neg (by simp)]; exact ok_c)
        | succ k =>
          refine ok_if (k := true) (ok_op (ok_var rfl) ok_c (gt_T (by omega))) ?_
          rw [if_pos rfl, Int.zero_add]
          refine ok_op (ok_owIx (k := .int (-1)) rfl (ok_neg ok_c) (tab_last (f := fun i => PyData.int (totN top g i)))) (ok_op (ok_op (ok_op (ok_var rfl) (ok_var rfl) (item_iT hk)) (ok_op (ok_var rfl) (ok_op (ok_var rfl) ok_c sub_ii) (item_iTs hk (by omega))) sub_ii) (by walk_at "ev") (mod_ii (by omega))) add_ii
      · rw [tab_succ]; rfl)
  subst e2 e3
  refine run_ret rfl (st_seq (st_expr (by walk_at "ev")) (st_seq (st_own ok_nil (Nat.zero_le _)) (st_seq (st_for (ok_iRng (by walk_at "ev") (ds := tab n fun i => .int (0 + (i : Nat))) ?_) e1) (st_pub rfl (st_ret (ok_var rfl))))))
  show (if _ then some (rangeD 0 ((tab n _).length : Int).toNat) else none) = _
  rw [tab_length, if_pos (by omega), rangeD_tab, Int.toNat_natCast]
theorem rng1_ok {n : Nat} (h : n ≤ 100000) : rng1 [.int (n : Int)] = some (tab n fun i => .int (0 + (i : Nat))) := by
  show (if _ then some (rangeD 0 (n : Int).toNat) else none) = _
  rw [if_pos (by omega), rangeD_tab, Int.toNat_natCast]
theorem rng1_i {j : Int} (h0 : 0 ≤ j) (h : j ≤ 100000) : rng1 [.int j] = some (tab j.toNat fun i => .int (0 + (i : Nat))) := by
  show (if _ then some (rangeD 0 j.toNat) else none) = _
  rw [if_pos (by omega), rangeD_tab]
theorem rng2_i {i j : Int} (h0 : 0 ≤ i) (h1 : i ≤ 100000000000) (h2 : 0 ≤ j) (h3 : j ≤ 100000000000) : rng2 [.int i, .int j] = some (tab (j - i).toNat fun k => .int (i + (k : Nat))) := by
  show (if _ then some (rangeD i (j - i).toNat) else none) = _
  rw [if_pos (by omega), rangeD_tab]
/-! fitting -/
abbrev fitL (size rest told slip : Int) : Int := (if 0 < told - slip then told - slip else 0)
abbrev fitF (size rest told slip : Int) : Int := fitL size rest told slip + (rest - fitL size rest told slip) % size
def fitD (size rest told slip : Int) : List Int := ([fitF size rest told slip, fitF size rest told slip + size]).filter fun x => decide (x ≤ told + slip)
theorem fitting_ok {size rest told slip : Int} {S : Sto} (h : 0 < size) : f_fitting [.int size, .int rest, .int told, .int slip] S = .ok (.list ((fitD size rest told slip).map .int)) S := by
  unfold f_fitting b_fitting
  refine run_ret rfl (st_seq (st_set (d := .int (fitL size rest told slip)) (ok_b (by walk_at "ev") ?_)) (st_seq (st_set (d := .int (fitF size rest told slip)) (ok_op (ok_var rfl) (ok_op (ok_op (ok_var rfl) (ok_var rfl) sub_ii) (ok_var rfl) (mod_ii h)) add_ii)) (st_ret (ok_lc (ds := [.int (fitF size rest told slip), .int (fitF size rest told slip + size)]) (ok_iSeq (d := .tuple [.int (fitF size rest told slip), .int (fitF size rest told slip + size)]) (by walk_at "ev") rfl) rfl ?_))))
  · rfl
  · refine Eq.trans (lc_filter (fun d => match d with | .int x => decide (x ≤ told + slip) | _ => false) id _ _ ?_ ?_) ?_
    · exact Nat.le_of_ble_eq_true rfl
    · intro x hx
      have hx' : ∃ i, x = .int i := by
        rcases List.mem_cons.mp hx with q | q
        · exact ⟨_, q⟩
        · exact ⟨_, List.mem_singleton.mp q⟩
      obtain ⟨i, rfl⟩ := hx'
      exact ⟨_, rfl, ok_op (ok_var rfl) (by walk_at "ev") rfl, fun _ => ok_var rfl⟩
    · congr 2
      rw [List.map_id, List.nil_append]
      show List.filter _ (List.map PyData.int [_, _]) = _
      rw [List.filter_map]
      rfl
def optD : Option Int → PyData
  | some i => .int i
  | none => .none
def sureN (size slip : Int) (g ts : Nat → Int) : Nat → Option Int
  | 0 => some 0
  | k + 1 => match sureN size slip g ts k, fitD size (g (k + 1) - g k) (ts (k + 1) - ts k) slip with
    | some v, [x] => some (v + x)
    | _, _ => none
theorem sorted_same {ns : List Int} (h : ns.Pairwise (· ≤ ·)) : sortI ns = ns := sorted_unique (sortI_perm ns) (sortI_sorted ns) h
theorem tab_sorted {n : Nat} {g : Nat → Int} (h : ∀ k, k + 1 < n → g k ≤ g (k + 1)) : (tab n g).Pairwise (· ≤ ·) := by
  induction n with
  | zero => exact List.Pairwise.nil
  | succ n ih =>
    rw [tab_succ]
    refine List.pairwise_append.mpr ⟨ih fun k hk => h k (by omega), List.pairwise_singleton _ _, fun a ha b hb => ?_⟩
    obtain ⟨k, hk, rfl⟩ := tab_mem.mp ha
    rw [List.mem_singleton.mp hb]
    have all : ∀ j, k + j ≤ n → g k ≤ g (k + j) := fun j => by
      induction j with
      | zero => exact fun _ => Int.le_refl _
      | succ j ihj => exact fun hj => Int.le_trans (ihj (by omega)) (h (k + j) (by omega))
    have := all (n - k) (by omega)
    rw [show k + (n - k) = n by omega] at this
    exact this
theorem sure_ok {top slip : Int} {n : Nat} {g ts : Nat → Int} {S : Sto} (h1 : 1 ≤ top) (h2 : top ≤ 65535) (hn : n ≤ 100) (hg : ∀ k, k < n → 0 ≤ g k ∧ g k ≤ top) (ht : ∀ k, k < n → 0 ≤ ts k ∧ ts k ≤ 1000000000) (hs : ∀ k, k + 1 < n → ts k ≤ ts (k + 1)) (hl0 : 0 ≤ slip) (hl1 : slip ≤ 1000000) :
    f_sure_totals [.int top, iT n g, iT n ts, .int slip] S = .ok (.list (tab n fun k => optD (sureN (top + 1) slip g ts k))) S := by
  unfold f_sure_totals b_sure_totals
  have hl := look_reads_ok (S := S) h1 h2 hn hg
  obtain ⟨sd', S', e1, e2, v1, v2, v3, v4, e3⟩ := for_tab (n := n) (f := fun i => .int (0 + (i : Nat))) (t := gN 5) (b := l1_sure_totals)
    (fun k sd S' => S' = S ∧ ∃ v1 v2 v3 v4 fs, sd = [.im (.int top), .im (iT n g), .im (iT n ts), .im (.int slip), .ow fs, v1, v2, v3, v4] ∧ fs = tab k fun i => optD (sureN (top + 1) slip g ts i))
    (sd := [.im (.int top), .im (iT n g), .im (iT n ts), .im (.int slip), .ow [], .un, .un, .un, .un]) (S := S) ⟨rfl, .un, .un, .un, .un, [], rfl, rfl⟩ (fun k sd S' hk hI => by
      obtain ⟨rfl, v1, v2, v3, v4, fs, rfl, rfl⟩ := hI
      unfold l1_sure_totals
      cases k with
      | zero => exact ⟨_, _, S', rfl, st_ifT (by walk_at "ev") (st_app rfl ok_c (by rw [tab_length]; decide)), rfl, _, _, _, _, _, rfl, rfl⟩
      | succ k =>
        have q1 := item_iT (g := g) hk
        have q2 := item_iTs (g := g) hk (by omega)
        have q3 := item_iT (g := ts) hk
        have q4 := item_iTs (g := ts) hk (by omega)
        rw [Nat.add_sub_cancel] at q2 q4
        have hf := fitting_ok (size := top + 1) (rest := g (k + 1) - g k) (told := ts (k + 1) - ts k) (slip := slip) (S := S') (by omega)
        have hlast : itemD (.list (tab (k + 1) fun i => optD (sureN (top + 1) slip g ts i))) (.int (-1)) = some (optD (sureN (top + 1) slip g ts k)) := tab_last (f := fun i => optD (sureN (top + 1) slip g ts i))
        have hlen : lenD [.list ((fitD (top + 1) (g (k + 1) - g k) (ts (k + 1) - ts k) slip).map .int)] = some (.int (fitD (top + 1) (g (k + 1) - g k) (ts (k + 1) - ts k) slip).length) := by
          show some (PyData.int ((List.map _ _).length : Nat)) = _
          rw [List.length_map]
        rw [Int.zero_add]
        refine ⟨_, _, S', rfl, st_ifF (ok_op (ok_var rfl) ok_c (eq_F (by omega))) (st_seq (st_set (ok_call (by walk_at "ev") hf)) (st_seq (sd1 := [.im (.int top), .im (iT n g), .im (iT n ts), .im (.int slip), .ow (tab (k + 1) fun i => optD (sureN (top + 1) slip g ts i)), .im (.int ((k + 1 : Nat) : Int)), .im (.list ((fitD (top + 1) (g (k + 1) - g k) (ts (k + 1) - ts k) slip).map .int)), .im (.bool (decide ((fitD (top + 1) (g (k + 1) - g k) (ts (k + 1) - ts k) slip).length = 1) && (sureN (top + 1) slip g ts k).isSome)), v4]) (S1 := S') ?_ (st_app (d := optD (sureN (top + 1) slip g ts (k + 1))) rfl ?_ (by rw [tab_length]; show _ < 100000; omega)))), rfl, _, _, _, _, _, rfl, tab_succ.symm⟩
        · have z := st_set (i := 7) (sd := [.im (.int top), .im (iT n g), .im (iT n ts), .im (.int slip), .ow (tab (k + 1) fun i => optD (sureN (top + 1) slip g ts i)), .im (.int ((k + 1 : Nat) : Int)), .im (.list ((fitD (top + 1) (g (k + 1) - g k) (ts (k + 1) - ts k) slip).map .int)), v3, v4]) (S := S') (m := (eAnd (eOp eqD (eB lenD (aCons (eVar 6) aNil)) (eC (.int (1)))) (eOp notND (eOwIx 4 (eNeg (eC (.int (1))))) (eC .none)))) (S1 := S') (d := .bool (decide ((fitD (top + 1) (g (k + 1) - g k) (ts (k + 1) - ts k) slip).length = 1) && (sureN (top + 1) slip g ts k).isSome)) ?_
          · exact z
          · refine ok_and (ok_op (ok_b (by walk_at "ev") hlen) ok_c ?_) fun _ => ok_op (ok_owIx (k := .int (-1)) rfl (ok_neg ok_c) hlast) ok_c ?_
            · rw [eq_ii]
              congr 2
              by_cases q : (fitD (top + 1) (g (k + 1) - g k) (ts (k + 1) - ts k) slip).length = 1
              · rw [decide_eq_true q, q]; rfl
              · rw [decide_eq_false q]
                exact beq_eq_false_iff_ne.mpr (by omega)
            · cases sureN (top + 1) slip g ts k <;> rfl
        · refine ok_if (ok_tru (ok_var rfl) rfl) ?_
          cases q1 : sureN (top + 1) slip g ts k with
          | none =>
            rw [Option.isSome_none, Bool.and_false, if_neg (by decide)]
            rw [show sureN (top + 1) slip g ts (k + 1) = none by unfold sureN; rw [q1]]
            exact ok_c
          | some v =>
            rw [q1] at hlast
            cases q2 : fitD (top + 1) (g (k + 1) - g k) (ts (k + 1) - ts k) slip with
            | nil =>
              rw [show sureN (top + 1) slip g ts (k + 1) = none by unfold sureN; rw [q1, q2]]
              rw [if_neg (by simp)]
              exact ok_c
            | cons x r =>
              cases r with
              | cons y r =>
                rw [show sureN (top + 1) slip g ts (k + 1) = none by unfold sureN; rw [q1, q2]]
                rw [if_neg (by simp)]
                exact ok_c
              | nil =>
                rw [show sureN (top + 1) slip g ts (k + 1) = some (v + x) by unfold sureN; rw [q1, q2]]
                rw [if_pos (by rfl)]
                refine ok_op (ok_owIx (k := .int (-1)) rfl (ok_neg ok_c) hlast) (ok_op (ok_var rfl) ok_c (d := .int x) ?_) add_ii
                rfl)
  obtain ⟨fs, e3, e4⟩ := e3
  subst e4 e2 e3
  refine run_ret rfl (st_seq (st_expr (by walk_at "ev")) (st_seq (st_ifF (ok_orF (by walk_at "ev") (ok_op (by walk_at "ev") (by walk_at "ev") (ne_F (by simp)))) st_nil) (st_seq (st_ifF (ok_orF (ok_notF (ok_tru (S1 := S') (d := .bool true) ?_ rfl)) (ok_op (d := .bool false) (ok_b (d := iT n ts) (by walk_at "ev") ?_) (ok_var rfl) (ne_same ?_))) st_nil) (st_seq (st_ifF (by walk_at "ev") st_nil) (st_seq (st_own ok_nil (Nat.zero_le _)) (st_seq (st_for (ok_iRng (by walk_at "ev") (ds := tab n fun i => .int (0 + (i : Nat))) ?_) e1) (st_pub rfl (st_ret (ok_var rfl)))))))))
  · refine all_whole (ok_var rfl) (by show n ≤ 100000; omega) rfl ht fun k hk => ⟨_, rfl, ?_⟩
    have := ht k hk
    walk_at "ev"
  · show (intsOf _).map _ = _
    rw [intsOf_tab]
    show some (PyData.list ((sortI (tab n ts)).map .int)) = _
    rw [sorted_same (tab_sorted hs), tab_map]
  · exact (flat_tab (k := 0) fun i _ => flat_int _).shaped (by decide)
  · rw [tab_length]
    exact rng1_ok (by omega)
end Pu

namespace Pu
open PySem Bc Mir
local macro_rules | `(tactic| walk_at "ev") => `(tactic| first
  | with_reducible exact ok_c
  | ((with_reducible apply ok_var); rfl)
  | with_reducible exact ok_nil
  | ((with_reducible apply ok_cons); walk_at "ev"; walk_at "ev")
  | ((with_reducible apply ok_op); walk_at "ev"; walk_at "ev"; walk_at "op")
  | ((with_reducible apply ok_b); walk_at "ev"; walk_at "bi")
  | ((with_reducible apply ok_call); walk_at "ev"; walk_at "fn")
  | ((with_reducible apply ok_tup); walk_at "ev"; walk_at "sz")
  | ((with_reducible apply ok_lst); walk_at "ev"; walk_at "sz")
  | ((with_reducible apply ok_neg); walk_at "ev")
  | ((with_reducible apply ok_tru); walk_at "ev"; rfl)
  | ((with_reducible apply ok_is); walk_at "ev"; walk_at "is")
  | ((with_reducible apply ok_not); walk_at "ev")
  | ((with_reducible apply ok_notT); walk_at "ev")
  | ((with_reducible apply ok_notF); walk_at "ev")
  | ((with_reducible apply ok_owIx); rfl; walk_at "ev"; walk_at "op")
  | ((with_reducible apply ok_owLen); rfl)
  | ((with_reducible apply ok_owTru); rfl)
  | ((with_reducible apply ok_sl); walk_at "ev"; walk_at "ev"; walk_at "ev"; rfl)
  | with_reducible exact ok_oNone
  | ((with_reducible apply ok_oSome); walk_at "ev")
  | ((with_reducible apply ok_iSeq); walk_at "ev"; rfl)
  | ((with_reducible apply ok_iRng); walk_at "ev"; walk_at "bi")
  | ((with_reducible apply ok_if); walk_at "ev"; walk_at "if")
  | ((with_reducible apply ok_chain); walk_at "ev"; walk_at "ev"; walk_at "op"; walk_at "if"))
local macro_rules | `(tactic| walk_at "sz") => `(tactic| first | exact Nat.le_of_ble_eq_true rfl | (simp [cap]; done) | (simp [cap]; omega) | omega)
local macro_rules | `(tactic| walk_at "op") => `(tactic| first
  | with_reducible exact add_ii
  | with_reducible exact sub_ii
  | ((with_reducible apply mod_ii); omega)
  | ((with_reducible apply fdiv_ii) <;> omega)
  | ((with_reducible apply mul_l) <;> omega)
  | ((with_reducible apply mul_r) <;> omega)
  | ((with_reducible apply pow_ii) <;> omega)
  | with_reducible exact eq_ii
  | with_reducible exact ne_ii
  | assumption
  | rfl
  | ((with_reducible apply gt_T); omega)
  | ((with_reducible apply gt_F); omega)
  | ((with_reducible apply lt_T); omega)
  | ((with_reducible apply lt_F); omega)
  | ((with_reducible apply le_T); omega)
  | ((with_reducible apply le_F); omega)
  | ((with_reducible apply ge_T); omega)
  | ((with_reducible apply ge_F); omega)
  | ((with_reducible apply eq_T); omega)
  | ((with_reducible apply eq_F); omega)
  | ((with_reducible apply ne_T); omega)
  | ((with_reducible apply ne_F); omega))
local macro_rules | `(tactic| walk_at "bi") => `(tactic| first | assumption | rfl)
local macro_rules | `(tactic| walk_at "fn") => `(tactic| assumption)
local macro_rules | `(tactic| walk_at "if") => `(tactic| first
  | (rw [if_pos (by first | rfl | decide | omega | (simp; done) | (simp; omega))]; walk_at "ev")
  | (rw [if_neg (by first | decide | omega | (simp; done) | (simp; omega))]; walk_at "ev"))
local macro_rules | `(tactic| walk_at "is") => `(tactic| first | with_reducible exact is_bool_int | with_reducible exact is_bool_bool | with_reducible exact is_bool_str | with_reducible exact is_bool_list | with_reducible exact is_bool_tuple | with_reducible exact is_int_int | with_reducible exact is_int_bool | with_reducible exact is_int_str | with_reducible exact is_int_list | with_reducible exact is_int_tuple | with_reducible exact is_str_int | with_reducible exact is_str_bool | with_reducible exact is_str_str | with_reducible exact is_str_list | with_reducible exact is_str_tuple | with_reducible exact is_list_int | with_reducible exact is_list_bool | with_reducible exact is_list_str | with_reducible exact is_list_list | with_reducible exact is_list_tuple | with_reducible exact is_tuple_int | with_reducible exact is_tuple_bool | with_reducible exact is_tuple_str | with_reducible exact is_tuple_list | with_reducible exact is_tuple_tuple | with_reducible exact is_NoneType_int | with_reducible exact is_NoneType_bool | with_reducible exact is_NoneType_str | with_reducible exact is_NoneType_list | with_reducible exact is_NoneType_tuple)
local macro_rules | `(tactic| walk_at "fn") => `(tactic| first | assumption | ((with_reducible apply wholeT) <;> omega))
section
variable {α : Type} {f : Nat → α} {p : α → Bool}
theorem filter_none : ∀ {n : Nat}, (∀ i, i < n → p (f i) = false) → (tab n f).filter p = []
  | 0, _ => rfl
  | n + 1, h => by
    rw [tab_succ, List.filter_append, filter_none fun i hi => h i (by omega)]
    simp [h n (Nat.lt_succ_self n)]
theorem filter_one {i0 : Nat} : ∀ {n : Nat}, i0 < n → p (f i0) = true → (∀ i, i < n → i ≠ i0 → p (f i) = false) → (tab n f).filter p = [f i0]
  | 0, h, _, _ => by omega
  | n + 1, h, h1, h2 => by
    rw [tab_succ, List.filter_append]
    by_cases q : i0 = n
    · subst q
      rw [filter_none fun i hi => h2 i (by omega) (by omega)]
      simp [h1]
    · rw [filter_one (n := n) (by omega) h1 fun i hi hn => h2 i (by omega) hn]
      simp [h2 n (by omega) (fun e => q e.symm)]
theorem filter_two {i0 i1 : Nat} : ∀ {n : Nat}, i0 < i1 → i1 < n → p (f i0) = true → p (f i1) = true → 2 ≤ ((tab n f).filter p).length
  | 0, _, h, _, _ => by omega
  | n + 1, h0, h, h1, h2 => by
    rw [tab_succ, List.filter_append, List.length_append]
    by_cases q : i1 = n
    · subst q
      have : f i0 ∈ (tab i1 f).filter p := List.mem_filter.mpr ⟨tab_mem.mpr ⟨i0, h0, rfl⟩, h1⟩
      have := List.length_pos_of_mem this
      simp [h2]
      omega
    · have := filter_two (n := n) h0 (by omega) h1 h2
      omega
end
/-- what fits, by trial -/
theorem fit_trial {size rest told slip : Int} (hs : 2 ≤ size) (hl : 0 ≤ slip) (fst : Int) (hf : fst = (if (told - slip) / size - 1 > 0 then (told - slip) / size - 1 else 0)) (cnt : Nat) (hc : 5 ≤ cnt) (L : List Int)
    (hL : ((tab cnt fun j => rest % size + (fst + (j : Nat)) * size).filter fun x => decide ((if x - told < 0 then -(x - told) else x - told) ≤ slip)) = L) :
    (∀ x, fitD size rest told slip = [x] → L = [x]) ∧ (L.length = 1 → (fitD size rest told slip).length = 1) := by
  have hlow : 0 ≤ fitL size rest told slip ∧ told - slip ≤ fitL size rest told slip ∧ (0 < fitL size rest told slip → fitL size rest told slip = told - slip) := by
    show 0 ≤ (if 0 < told - slip then told - slip else 0) ∧ told - slip ≤ (if 0 < told - slip then told - slip else 0) ∧ (0 < (if 0 < told - slip then told - slip else 0) → (if 0 < told - slip then told - slip else 0) = told - slip)
    split <;> omega
  have hfd : fitD size rest told slip = ([fitF size rest told slip, fitF size rest told slip + size]).filter fun x => decide (x ≤ told + slip) := rfl
  have hF : fitF size rest told slip = fitL size rest told slip + (rest - fitL size rest told slip) % size := rfl
  generalize fitF size rest told slip = a at hfd hF
  generalize fitL size rest told slip = low at hlow hF
  obtain ⟨l1, l2, l3⟩ := hlow
  have m1 := Int.emod_nonneg (rest - low) (show size ≠ 0 by omega)
  have m2 := Int.emod_lt_of_pos (rest - low) (show 0 < size by omega)
  have r1 := Int.emod_nonneg rest (show size ≠ 0 by omega)
  have r2 := Int.emod_lt_of_pos rest (show 0 < size by omega)
  -- a is of rest's kind
  have hk : a % size = rest % size := by
    rw [hF, Int.add_emod, Int.emod_emod_of_dvd _ (Int.dvd_refl size), ← Int.add_emod]
    congr 1
    omega
  have hdiv := Int.mul_ediv_add_emod a size
  rw [hk] at hdiv
  generalize hj0 : a / size = j0 at hdiv
  have a0 : 0 ≤ a := by omega
  have j00 : 0 ≤ j0 := by rw [← hj0]; exact Int.ediv_nonneg a0 (by omega)
  generalize hq : (told - slip) / size = q at hf
  have q1 := Int.mul_ediv_self_le (x := told - slip) (k := size) (by omega)
  have q2 := Int.lt_mul_ediv_self_add (x := told - slip) (k := size) (by omega)
  rw [hq] at q1 q2
  have mono : ∀ u v : Int, u ≤ v → size * u ≤ size * v := fun u v h => Int.mul_le_mul_of_nonneg_left h (by omega)
  have f0 : 0 ≤ fst ∧ q - 1 ≤ fst ∧ (0 < fst → fst = q - 1) := by
    rw [hf]
    split <;> omega
  have jlo : fst ≤ j0 := by
    by_cases h : 0 < fst
    · have e := f0.2.2 h
      have hq0 : 0 < q := by omega
      by_cases hh : q ≤ j0
      · omega
      · exfalso
        have := mono (j0 + 1) q (by omega)
        rw [Int.mul_add, Int.mul_one] at this
        have : 0 ≤ size * q := Int.mul_nonneg (by omega) (by omega)
        omega
    · omega
  have jhi : j0 ≤ fst + 2 := by
    by_cases h : 0 < low
    · have e := l3 h
      by_cases hh : j0 ≤ q + 1
      · omega
      · exfalso
        have := mono (q + 2) j0 (by omega)
        rw [Int.mul_add] at this
        omega
    · have e : low = 0 := by omega
      have : a < size := by omega
      have : j0 = 0 := by rw [← hj0]; exact Int.ediv_eq_zero_of_lt a0 this
      omega
  have xj : ∀ j : Nat, rest % size + (fst + (j : Nat)) * size = a + size * (fst + j - j0) := fun j => by
    rw [Int.mul_sub, Int.mul_comm size (fst + j)]
    omega
  have lo : ∀ j : Nat, fst + (j : Int) < j0 → ¬ ((if rest % size + (fst + (j : Nat)) * size - told < 0 then -(rest % size + (fst + (j : Nat)) * size - told) else rest % size + (fst + (j : Nat)) * size - told) ≤ slip) := fun j hj => by
    have h1 := mono (fst + j - j0) (-1) (by omega)
    have h2 : 0 ≤ (fst + (j : Int)) * size := Int.mul_nonneg (by omega) (by omega)
    have h3 := xj j
    split <;> omega
  have up : ∀ j : Nat, j0 ≤ fst + (j : Int) → (((if rest % size + (fst + (j : Nat)) * size - told < 0 then -(rest % size + (fst + (j : Nat)) * size - told) else rest % size + (fst + (j : Nat)) * size - told) ≤ slip) ↔ a + size * (fst + j - j0) ≤ told + slip) := fun j hj => by
    have h1 := mono 0 (fst + j - j0) (by omega)
    have h3 := xj j
    rw [Int.mul_zero] at h1
    split <;> omega
  generalize hi : (j0 - fst).toNat = i0
  have ei : fst + (i0 : Int) = j0 := by omega
  have i0c : i0 + 1 < cnt := by omega
  have at0 : rest % size + (fst + ((i0 : Nat) : Int)) * size = a := by
    rw [xj, ei, Int.sub_self, Int.mul_zero, Int.add_zero]
  by_cases c1 : a ≤ told + slip
  · by_cases c2 : a + size ≤ told + slip
    · have e2 : fitD size rest told slip = [a, a + size] := by
        rw [hfd, List.filter_cons_of_pos (by simpa using c1), List.filter_cons_of_pos (by simpa using c2)]
        rfl
      have t2 := filter_two (f := fun j : Nat => rest % size + (fst + (j : Nat)) * size) (p := fun x => decide ((if x - told < 0 then -(x - told) else x - told) ≤ slip)) (i0 := i0) (i1 := i0 + 1) (n := cnt) (by omega) i0c
        (decide_eq_true ((up i0 (by omega)).mpr (by rw [ei, Int.sub_self, Int.mul_zero]; omega)))
        (decide_eq_true ((up (i0 + 1) (by omega)).mpr (by
          have e5 : fst + ((i0 + 1 : Nat) : Int) - j0 = 1 := by omega
          rw [e5, Int.mul_one]
          exact c2)))
      refine ⟨fun x hx => ?_, fun h => ?_⟩
      · rw [e2] at hx
        cases hx
      · have : L.length = 1 := h
        have t2 : 2 ≤ L.length := by rw [← hL]; exact t2
        omega
    · have e2 : fitD size rest told slip = [a] := by
        rw [hfd, List.filter_cons_of_pos (by simpa using c1), List.filter_cons_of_neg (by simpa using c2)]
        rfl
      have eL : L = [a] := by
        have := filter_one (f := fun j : Nat => rest % size + (fst + (j : Nat)) * size) (p := fun x => decide ((if x - told < 0 then -(x - told) else x - told) ≤ slip)) (i0 := i0) (n := cnt) (by omega)
          (decide_eq_true ((up i0 (by omega)).mpr (by rw [ei, Int.sub_self, Int.mul_zero]; omega))) (fun i hi' hn => decide_eq_false (by
            by_cases hh : fst + (i : Int) < j0
            · exact lo i hh
            · rw [up i (by omega)]
              have := mono 1 (fst + i - j0) (by omega)
              omega))
        rw [at0] at this
        exact hL.symm.trans this
      refine ⟨fun x hx => ?_, fun _ => ?_⟩
      · rw [e2] at hx
        rw [eL, hx]
      · rw [e2]
        rfl
  · have eL : L = [] := hL.symm.trans <| filter_none (f := fun j : Nat => rest % size + (fst + (j : Nat)) * size) (p := fun x => decide ((if x - told < 0 then -(x - told) else x - told) ≤ slip)) (n := cnt) (fun i hi' => decide_eq_false (by
            by_cases hh : fst + (i : Int) < j0
            · exact lo i hh
            · rw [up i (by omega)]
              have := mono 0 (fst + i - j0) (by omega)
              omega))
    have e2 : fitD size rest told slip = [] := by
      rw [hfd, List.filter_cons_of_neg (by simpa using c1), List.filter_cons_of_neg (by simp; omega)]
      rfl
    refine ⟨fun x hx => ?_, fun h => ?_⟩
    · rw [e2] at hx
      cases hx
    · rw [eL] at h
      cases h
theorem evened_ok {top under : Int} {many : Nat} {S : Sto} (h1 : 1 ≤ under) (h2 : under ≤ top) (h3 : top ≤ 1000000000) (hn : many ≤ 200) :
    f_evened [.int top, .int under, .int (many : Int)] S = .ok (iT many fun k => ((k : Int) + 1) * top / under - (k : Int) * top / under) S := by
  unfold f_evened b_evened
  refine run_ret rfl (st_seq (st_ifF (ok_orF (by walk_at "ev") (ok_orF (by walk_at "ev") (ok_op (ok_var rfl) (ok_var rfl) (lt_F (by omega))))) st_nil) (st_seq (st_ifF (by walk_at "ev") st_nil) (st_ret (ok_lc (ok_iRng (by walk_at "ev") (rng1_ok (by omega))) rfl ?_))))
  refine lc_tabP (fun k => .int (((k : Int) + 1) * top / under - (k : Int) * top / under)) (by show many ≤ 100000; omega) fun k hk => ⟨_, rfl, ?_⟩
  rw [Int.zero_add]
  exact ok_op (ok_op (ok_op (ok_op (ok_var rfl) ok_c add_ii) (ok_var rfl) (mul_l (by omega) (by omega))) (ok_var rfl) (fdiv_ii (by omega) (by omega))) (ok_op (ok_op (ok_var rfl) (ok_var rfl) (mul_l (by omega) (by omega))) (ok_var rfl) (fdiv_ii (by omega) (by omega))) sub_ii
/-- sums against the fraction's multiples -/
def offN (g : Nat → Int) (top under : Int) (k : Nat) : Int := sumN g k * under - (k : Int) * top
theorem sumN_bound {g : Nat → Int} {b : Int} (hb : 0 ≤ b) : ∀ {n : Nat}, (∀ k, k < n → 0 ≤ g k ∧ g k ≤ b) → 0 ≤ sumN g n ∧ sumN g n ≤ n * b
  | 0, _ => by simp [sumN]
  | n + 1, h => by
    have ih := sumN_bound hb fun k hk => h k (Nat.lt_succ_of_lt hk)
    have hn := h n (Nat.lt_succ_self n)
    unfold sumN
    refine ⟨by omega, ?_⟩
    rw [show ((n + 1 : Nat) : Int) * b = (n : Int) * b + b by rw [Int.natCast_add, Int.add_mul]; simp]
    omega
theorem drift_ok {top under : Int} {n : Nat} {g : Nat → Int} {S : Sto} (h1 : 1 ≤ under) (h2 : under ≤ top) (h3 : top ≤ 1000000000) (hn : n ≤ 200) (hg : ∀ k, k < n → 0 ≤ g k ∧ g k ≤ 1000000000) :
    f_drift [iT n g, .int top, .int under] S = .ok (.tuple [.int (minL (tab (n + 1) (offN g top under))), .int (maxL (tab (n + 1) (offN g top under)))]) S := by
  unfold f_drift b_drift
  have hev : f_evened [.int top, .int under, .int 0] S = .ok (iT 0 fun k => ((k : Int) + 1) * top / under - (k : Int) * top / under) S := evened_ok (many := 0) (S := S) h1 h2 h3 (by decide)
  obtain ⟨sd', S', e1, e2, v2, v3, fs, e3, e4⟩ := for_tab (n := n) (f := fun i => .int (0 + (i : Nat))) (t := gN 5) (b := l1_drift)
    (fun k sd S' => S' = S ∧ ∃ v2 v3 fs, sd = [.im (iT n g), .im (.int top), .im (.int under), .ow fs, .im (.int (sumN g k)), v2, v3] ∧ fs = tab (k + 1) fun i => .int (offN g top under i))
    (sd := [.im (iT n g), .im (.int top), .im (.int under), .ow [.int 0], .im (.int 0), .un, .un]) (S := S) ⟨rfl, .un, .un, [.int 0], rfl, by
      rw [tab_succ]
      show _ = [PyData.int (0 * under - ((0 : Nat) : Int) * top)]
      rw [Int.zero_mul]
      simp⟩ (fun k sd S' hk hI => by
      obtain ⟨rfl, v2, v3, fs, rfl, rfl⟩ := hI
      have hb := sumN_bound (g := g) (b := 1000000000) (by decide) (n := k + 1) fun j hj => hg j (by omega)
      rw [Int.zero_add]
      unfold l1_drift
      refine ⟨_, _, S', rfl, st_seq (st_set (d := .int (sumN g (k + 1))) (ok_op (ok_var rfl) (ok_op (ok_var rfl) (ok_var rfl) (item_iT hk)) add_ii)) (st_app (d := .int (offN g top under (k + 1))) rfl (ok_op (ok_op (ok_var rfl) (ok_var rfl) (mul_l (by omega) (by omega))) (ok_op (ok_op (ok_var rfl) ok_c add_ii) (ok_var rfl) (mul_l (by omega) (by omega))) ?_) (by rw [tab_length]; show _ < 100000; omega)), rfl, _, _, _, rfl, tab_succ.symm⟩
      rw [sub_ii]
      rfl)
  subst e4 e2 e3
  refine run_ret rfl (st_seq (st_ifF (ok_orF (by walk_at "ev") (ok_op (by walk_at "ev") ok_c (gt_F ?_))) st_nil) (st_seq (st_ifF (ok_notF (ok_tru (S1 := S') (d := .bool true) ?_ rfl)) st_nil) (st_seq (st_expr (ok_call (by walk_at "ev") hev)) (st_seq (st_own (by walk_at "ev") (by decide)) (st_seq (st_set ok_c) (st_seq (st_for (ok_iRng (by walk_at "ev") (ds := tab n fun i => .int (0 + (i : Nat))) ?_) e1) (st_pub rfl (st_ret (ok_tup (ok_cons (ok_b (ok_cons (ok_var rfl) ok_nil) ?_) (ok_cons (ok_b (ok_cons (ok_var rfl) ok_nil) ?_) ok_nil)) (Nat.le_of_ble_eq_true rfl)))))))))) 
  · rw [tab_length]; omega
  · refine all_whole (ok_var rfl) (by show n ≤ 100000; omega) rfl hg fun k hk => ⟨_, rfl, ?_⟩
    have := hg k hk
    walk_at "ev"
  · rw [tab_length]
    exact rng1_ok (by omega)
  · show (match intsOf (tab (n + 1) fun i => .int (offN g top under i)) with | some ns => if 0 < ns.length then some (PyData.int (minL ns)) else none | none => none) = _
    rw [intsOf_tab]
    show (if 0 < (tab (n + 1) (offN g top under)).length then _ else _) = _
    rw [if_pos (by rw [tab_length]; omega)]
  · show (match intsOf (tab (n + 1) fun i => .int (offN g top under i)) with | some ns => if 0 < ns.length then some (PyData.int (maxL ns)) else none | none => none) = _
    rw [intsOf_tab]
    show (if 0 < (tab (n + 1) (offN g top under)).length then _ else _) = _
    rw [if_pos (by rw [tab_length]; omega)]
end Pu

namespace Pu
open PySem Bc Mir
local macro_rules | `(tactic| walk_at "ev") => `(tactic| first
  | with_reducible exact ok_c
  | ((with_reducible apply ok_var); rfl)
  | with_reducible exact ok_nil
  | ((with_reducible apply ok_cons); walk_at "ev"; walk_at "ev")
  | ((with_reducible apply ok_op); walk_at "ev"; walk_at "ev"; walk_at "op")
  | ((with_reducible apply ok_b); walk_at "ev"; walk_at "bi")
  | ((with_reducible apply ok_call); walk_at "ev"; walk_at "fn")
  | ((with_reducible apply ok_tup); walk_at "ev"; walk_at "sz")
  | ((with_reducible apply ok_lst); walk_at "ev"; walk_at "sz")
  | ((with_reducible apply ok_neg); walk_at "ev")
  | ((with_reducible apply ok_tru); walk_at "ev"; rfl)
  | ((with_reducible apply ok_is); walk_at "ev"; walk_at "is")
  | ((with_reducible apply ok_not); walk_at "ev")
  | ((with_reducible apply ok_notT); walk_at "ev")
  | ((with_reducible apply ok_notF); walk_at "ev")
  | ((with_reducible apply ok_owIx); rfl; walk_at "ev"; walk_at "op")
  | ((with_reducible apply ok_owLen); rfl)
  | ((with_reducible apply ok_owTru); rfl)
  | ((with_reducible apply ok_sl); walk_at "ev"; walk_at "ev"; walk_at "ev"; rfl)
  | with_reducible exact ok_oNone
  | ((with_reducible apply ok_oSome); walk_at "ev")
  | ((with_reducible apply ok_iSeq); walk_at "ev"; rfl)
  | ((with_reducible apply ok_iRng); walk_at "ev"; walk_at "bi")
  | ((with_reducible apply ok_if); walk_at "ev"; walk_at "if")
  | ((with_reducible apply ok_chain); walk_at "ev"; walk_at "ev"; walk_at "op"; walk_at "if"))
local macro_rules | `(tactic| walk_at "sz") => `(tactic| first | exact Nat.le_of_ble_eq_true rfl | (simp [cap]; done) | (simp [cap]; omega) | omega)
local macro_rules | `(tactic| walk_at "op") => `(tactic| first
  | with_reducible exact add_ii
  | with_reducible exact sub_ii
  | ((with_reducible apply mod_ii); omega)
  | ((with_reducible apply fdiv_ii) <;> omega)
  | ((with_reducible apply mul_l) <;> omega)
  | ((with_reducible apply mul_r) <;> omega)
  | ((with_reducible apply pow_ii) <;> omega)
  | with_reducible exact eq_ii
  | with_reducible exact ne_ii
  | assumption
  | rfl
  | ((with_reducible apply gt_T); omega)
  | ((with_reducible apply gt_F); omega)
  | ((with_reducible apply lt_T); omega)
  | ((with_reducible apply lt_F); omega)
  | ((with_reducible apply le_T); omega)
  | ((with_reducible apply le_F); omega)
  | ((with_reducible apply ge_T); omega)
  | ((with_reducible apply ge_F); omega)
  | ((with_reducible apply eq_T); omega)
  | ((with_reducible apply eq_F); omega)
  | ((with_reducible apply ne_T); omega)
  | ((with_reducible apply ne_F); omega))
local macro_rules | `(tactic| walk_at "bi") => `(tactic| first | assumption | rfl)
local macro_rules | `(tactic| walk_at "fn") => `(tactic| assumption)
local macro_rules | `(tactic| walk_at "if") => `(tactic| first
  | (rw [if_pos (by first | rfl | decide | omega | (simp; done) | (simp; omega))]; walk_at "ev")
  | (rw [if_neg (by first | decide | omega | (simp; done) | (simp; omega))]; walk_at "ev"))
local macro_rules | `(tactic| walk_at "is") => `(tactic| first | with_reducible exact is_bool_int | with_reducible exact is_bool_bool | with_reducible exact is_bool_str | with_reducible exact is_bool_list | with_reducible exact is_bool_tuple | with_reducible exact is_int_int | with_reducible exact is_int_bool | with_reducible exact is_int_str | with_reducible exact is_int_list | with_reducible exact is_int_tuple | with_reducible exact is_str_int | with_reducible exact is_str_bool | with_reducible exact is_str_str | with_reducible exact is_str_list | with_reducible exact is_str_tuple | with_reducible exact is_list_int | with_reducible exact is_list_bool | with_reducible exact is_list_str | with_reducible exact is_list_list | with_reducible exact is_list_tuple | with_reducible exact is_tuple_int | with_reducible exact is_tuple_bool | with_reducible exact is_tuple_str | with_reducible exact is_tuple_list | with_reducible exact is_tuple_tuple | with_reducible exact is_NoneType_int | with_reducible exact is_NoneType_bool | with_reducible exact is_NoneType_str | with_reducible exact is_NoneType_list | with_reducible exact is_NoneType_tuple)
local macro_rules | `(tactic| walk_at "fn") => `(tactic| first | assumption | ((with_reducible apply wholeT) <;> omega))
def absI (x : Int) : Int := if x < 0 then -x else x
theorem law_sure_ok {size slip : Int} {n : Nat} {g ts : Nat → Int} {S : Sto} (h1 : 2 ≤ size) (h2 : size ≤ 65536) (hn0 : 1 ≤ n) (hn : n ≤ 100) (ht : ∀ k, k < n → 0 ≤ ts k ∧ ts k ≤ 1000000000) (hl0 : 0 ≤ slip) (hl1 : slip < 2 * size) :
    f__law_sure [.int size, iT n g, iT n ts, .int slip] S = .ok (.list (tab n fun k => optD (sureN size slip g ts k))) S := by
  unfold f__law_sure b__law_sure
  obtain ⟨sd', S', e1, e2, v5, v6, v7, v8, v9, v10, v11, fs, e3, e4⟩ := for_tab (n := n - 1) (f := fun i => .int (1 + (i : Nat))) (t := gN 5) (b := l1__law_sure)
    (fun k sd S' => S' = S ∧ ∃ v5 v6 v7 v8 v9 v10 v11 fs, sd = [.im (.int size), .im (iT n g), .im (iT n ts), .im (.int slip), .ow fs, v5, v6, v7, v8, v9, v10, v11] ∧ (match v9 with | .ow _ => False | _ => True) ∧ (match v10 with | .ow _ => False | _ => True) ∧ (match v11 with | .ow _ => False | _ => True) ∧ fs = tab (k + 1) fun i => optD (sureN size slip g ts i))
    (sd := [.im (.int size), .im (iT n g), .im (iT n ts), .im (.int slip), .ow [.int 0], .un, .un, .un, .un, .un, .un, .un]) (S := S) ⟨rfl, .un, .un, .un, .un, .un, .un, .un, [.int 0], rfl, trivial, trivial, trivial, rfl⟩ (fun k sd S' hk hI => by
      obtain ⟨rfl, v5, v6, v7, v8, v9, v10, v11, fs, rfl, w9, w10, w11, rfl⟩ := hI
      unfold l1__law_sure
      have hk1 : k + 1 < n := by omega
      have q1 : itemD (iT n g) (.int (1 + (k : Int))) = some (.int (g (k + 1))) := by
        have := item_iT (g := g) hk1
        rw [Int.natCast_add, Int.add_comm] at this
        exact this
      have q2 : itemD (iT n g) (.int (1 + (k : Int) - 1)) = some (.int (g k)) := by
        rw [show 1 + (k : Int) - 1 = (k : Int) by omega]
        exact item_iT (by omega)
      have q3 : itemD (iT n ts) (.int (1 + (k : Int))) = some (.int (ts (k + 1))) := by
        have := item_iT (g := ts) hk1
        rw [Int.natCast_add, Int.add_comm] at this
        exact this
      have q4 : itemD (iT n ts) (.int (1 + (k : Int) - 1)) = some (.int (ts k)) := by
        rw [show 1 + (k : Int) - 1 = (k : Int) by omega]
        exact item_iT (by omega)
      have t1 := ht (k + 1) hk1
      have t0 := ht k (by omega)
      generalize hrest : g (k + 1) - g k = rest
      generalize htold : ts (k + 1) - ts k = told
      generalize hfst : (if (told - slip) / size - 1 > 0 then (told - slip) / size - 1 else 0) = fst
      have hs2 : 0 ≤ 2 * slip / size ∧ 2 * slip / size ≤ 4 := ⟨Int.ediv_nonneg (by omega) (by omega), by
        have := Int.ediv_lt_of_lt_mul (a := 2 * slip) (b := 5) (c := size) (by omega) (by omega)
        omega⟩
      have hf0 : 0 ≤ fst ∧ fst ≤ 1000000000 := by
        have hb : (told - slip) / size ≤ 1000000000 := by
          by_cases hneg : told - slip ≤ 0
          · have := Int.ediv_le_ediv (c := size) (by omega) hneg
            rw [Int.zero_ediv] at this
            omega
          · have := Int.ediv_le_self (a := told - slip) size (by omega)
            omega
        rw [← hfst]
        split <;> omega
      generalize hcnt : (fst + 2 * slip / size + 5 - fst).toNat = cnt
      have hc5 : 5 ≤ cnt ∧ cnt ≤ 9 := by omega
      have tri := fit_trial (size := size) (rest := rest) (told := told) (slip := slip) h1 hl0 fst hfst.symm cnt hc5.1 _ rfl
      generalize hL : ((tab cnt fun j => rest % size + (fst + (j : Nat)) * size).filter fun x => decide ((if x - told < 0 then -(x - told) else x - told) ≤ slip)) = L at tri
      have hlast : itemD (.list (tab (k + 1) fun i => optD (sureN size slip g ts i))) (.int (-1)) = some (optD (sureN size slip g ts k)) := tab_last (f := fun i => optD (sureN size slip g ts i))
      have hno9 : ∀ d, noOw [.im (.int size), .im (iT n g), .im (iT n ts), .im (.int slip), .ow (tab (k + 1) fun i => optD (sureN size slip g ts i)), .im (.int (1 + (k : Int))), .im (.int told), .im (.int (rest % size)), .im (.int fst), v9, v10, v11] [10] = true ∧ noOw [.im (.int size), .im (iT n g), .im (iT n ts), .im (.int slip), .ow (tab (k + 1) fun i => optD (sureN size slip g ts i)), .im (.int (1 + (k : Int))), .im (.int told), .im (.int (rest % size)), .im (.int fst), .im d, v10, v11] [11] = true := fun d => by
        constructor
        · cases v10 with
          | ow _ => exact w10.elim
          | _ => rfl
        · cases v11 with
          | ow _ => exact w11.elim
          | _ => rfl
      refine ⟨_, _, S', rfl, st_seq (st_set (d := .int told) (ok_op (ok_op (ok_var rfl) (ok_var rfl) q3) (ok_op (ok_var rfl) (ok_op (ok_var rfl) ok_c sub_ii) q4) ?a1)) (st_seq (st_set (d := .int (rest % size)) (ok_op (ok_op (ok_op (ok_var rfl) (ok_var rfl) q1) (ok_op (ok_var rfl) (ok_op (ok_var rfl) ok_c sub_ii) q2) ?a2) (ok_var rfl) (mod_ii (by omega)))) (st_seq (st_set (d := .int fst) (ok_b (ok_cons ok_c (ok_cons (ok_op (ok_op (ok_op (ok_var rfl) (ok_var rfl) sub_ii) (ok_var rfl) (fdiv_ii (by omega) (by omega))) ok_c sub_ii) ok_nil)) ?a3))
        (st_seq (st_set (S1 := S') (d := .list (tab cnt fun j => .int (rest % size + (fst + (j : Nat)) * size))) (ok_lc (ds := tab cnt fun j => .int (fst + (j : Nat))) (ok_iRng (ok_cons (ok_var rfl) (ok_cons (ok_op (ok_op (ok_var rfl) (ok_op (ok_op ok_c (ok_var rfl) (mul_l (by omega) (by omega))) (ok_var rfl) (fdiv_ii (by omega) (by omega))) add_ii) ok_c add_ii) ok_nil)) ?a4) ?a5 ?a6))
        (st_seq (st_set (S1 := S') (d := .list (L.map .int)) (ok_lc (ok_iSeq (ok_var rfl) rfl) ?a7 ?a8))
        (st_app (d := optD (sureN size slip g ts (k + 1))) rfl ?a9 (by rw [tab_length]; show _ < 100000; omega)))))), rfl, _, _, _, _, _, _, _, _, rfl, trivial, w10, w11, tab_succ.symm⟩
      case a1 => rw [sub_ii, htold]
      case a2 => rw [sub_ii, hrest]
      case a3 =>
        show some (PyData.int (if (told - slip) / size - 1 > 0 then (told - slip) / size - 1 else 0)) = _
        rw [hfst]
      case a4 =>
        rw [rng2_i (by omega) (by omega) (by omega) (by omega), hcnt]
      case a5 => exact (hno9 .none).1
      case a6 =>
        refine lc_tabP (fun j => .int (rest % size + (fst + (j : Nat)) * size)) (by show cnt ≤ 100000; omega) fun j hj => ⟨_, rfl, ?_⟩
        exact ok_op (ok_var rfl) (ok_op (ok_var rfl) (ok_var rfl) (mul_r (by omega) (by omega))) add_ii
      case a7 => exact (hno9 _).2
      case a8 =>
        refine Eq.trans (lc_filter (fun d => match d with | .int x => decide ((if x - told < 0 then -(x - told) else x - told) ≤ slip) | _ => false) id _ _ ?_ ?_) ?_
        · show 0 + (tab cnt _).length ≤ 100000
          rw [tab_length]
          omega
        · intro x hx
          obtain ⟨j, hj, rfl⟩ := tab_mem.mp hx
          exact ⟨_, rfl, ok_op (ok_b (ok_cons (ok_op (ok_var rfl) (ok_var rfl) sub_ii) ok_nil) rfl) (ok_var rfl) rfl, fun _ => ok_var rfl⟩
        · rw [List.map_id, List.nil_append, ints_tab, List.filter_map, ← hL]
          rfl
      case a9 =>
        have hlen : lenD [.list (L.map .int)] = some (.int L.length) := by
          show some (PyData.int ((List.map _ _).length : Nat)) = _
          rw [List.length_map]
        refine ok_if (k := decide (L.length = 1) && (sureN size slip g ts k).isSome) (ok_and (ok_op (ok_b (ok_cons (ok_var rfl) ok_nil) hlen) ok_c ?_) fun _ => ok_op (ok_owIx (k := .int (-1)) rfl (ok_neg ok_c) hlast) ok_c ?_) ?_
        · rw [eq_ii]
          congr 2
          by_cases q : L.length = 1
          · rw [decide_eq_true q, q]; rfl
          · rw [decide_eq_false q]
            exact beq_eq_false_iff_ne.mpr (by omega)
        · cases sureN size slip g ts k <;> rfl
        · have es : sureN size slip g ts (k + 1) = (match sureN size slip g ts k, fitD size rest told slip with | some v, [x] => some (v + x) | _, _ => none) := by
            rw [← hrest, ← htold]
            rfl
          rw [es]
          cases p1 : sureN size slip g ts k with
          | none =>
            rw [Option.isSome_none, Bool.and_false, if_neg (by decide)]
            exact ok_c
          | some v =>
            rw [p1] at hlast
            cases p2 : fitD size rest told slip with
            | nil =>
              rw [if_neg (by
                rw [Option.isSome_some, Bool.and_true, decide_eq_true_eq]
                intro h
                have := tri.2 h
                rw [p2] at this
                cases this)]
              exact ok_c
            | cons x r =>
              cases r with
              | cons y r =>
                rw [if_neg (by
                  rw [Option.isSome_some, Bool.and_true, decide_eq_true_eq]
                  intro h
                  have := tri.2 h
                  rw [p2] at this
                  simp at this)]
                exact ok_c
              | nil =>
                have eL := tri.1 x p2
                rw [eL]
                rw [if_pos (by rfl)]
                refine ok_op (ok_owIx (k := .int (-1)) rfl (ok_neg ok_c) hlast) (ok_op (ok_var rfl) ok_c (d := .int x) ?_) add_ii
                rfl)
  have en : n - 1 + 1 = n := by omega
  obtain ⟨_, _, _, e4⟩ := e4
  subst e4 e2 e3
  rw [en] at e1
  refine run_ret rfl (st_seq (st_own (by walk_at "ev") (by decide)) (st_seq (st_for (ok_iRng (by walk_at "ev") (ds := tab (n - 1) fun i => .int (1 + (i : Nat))) ?_) e1) (st_pub rfl (st_ret (ok_var rfl)))))
  rw [tab_length, rng2_i (by omega) (by omega) (by omega) (by omega)]
  rw [show ((n : Int) - 1).toNat = n - 1 by omega]
end Pu

namespace Pu
open PySem Bc Mir
/-! the mathematics of the law -/
theorem emod_step {a b s : Int} : ((a + b) % s - a % s) % s = b % s := by
  rw [← Int.sub_emod]
  congr 1
  omega
theorem tot_is {high first : Int} {st : Nat → Int} : ∀ {n : Nat}, 0 < high + 1 → (∀ k, k < n → 0 ≤ st k ∧ st k ≤ high) → totN high (fun k => (first + sumN st k) % (high + 1)) n = sumN st n
  | 0, _, _ => rfl
  | n + 1, h0, h => by
    have ih := tot_is (first := first) (n := n) h0 fun k hk => h k (by omega)
    have hn := h n (Nat.lt_succ_self n)
    unfold totN
    rw [ih]
    have e : (first + sumN st (n + 1)) = (first + sumN st n) + st n := by
      show first + (sumN st n + st n) = _
      omega
    rw [e, emod_step, Int.emod_eq_of_lt hn.1 (by omega)]
    rfl
def mx (y : Int) : Int := if y > 0 then y else 0
structure TimesOk (wd : Nat → Int) (off : Int) (k : Nat) (ts : Nat → Int) : Prop where
  z : ts 0 = 7
  s : ∀ i, i < k → ∃ e, (e = off ∨ e = 0 - off) ∧ ts (i + 1) = ts i + mx (wd i + e)
theorem TimesOk.mono {wd ts : Nat → Int} {off : Int} {k : Nat} (h : TimesOk wd off k ts) : ∀ i, i < k → ts i ≤ ts (i + 1) := fun i hi => by
  obtain ⟨e, _, q⟩ := h.s i hi
  rw [q]
  unfold mx
  split <;> omega
theorem TimesOk.bound {wd ts : Nat → Int} {off b : Int} {k : Nat} (h : TimesOk wd off k ts) (ho : 0 ≤ off) (hb : ∀ i, i < k → wd i + off ≤ b) (hb0 : 0 ≤ b) : ∀ i, i ≤ k → 7 ≤ ts i ∧ ts i ≤ 7 + i * b := fun i => by
  induction i with
  | zero =>
    intro _
    rw [h.z]
    simp
  | succ i ih =>
    intro hi
    have := ih (by omega)
    obtain ⟨e, he, q⟩ := h.s i (by omega)
    have hw := hb i (by omega)
    have e1 : ((i + 1 : Nat) : Int) * b = (i : Int) * b + b := by rw [Int.natCast_add, Int.add_mul]; simp
    rw [q, e1]
    unfold mx
    split <;> rcases he with rfl | rfl <;> omega
theorem fit_one {s slip wd rest told off : Int} (hs : 2 * slip < s) (hr : rest % s = wd % s) (hw : 0 ≤ wd) (ho : 0 ≤ off) (hos : off ≤ slip) (ht : ∃ e, (e = off ∨ e = 0 - off) ∧ told = mx (wd + e)) : fitD s rest told slip = [wd] := by
  obtain ⟨e, he, ht⟩ := ht
  have b1 : told ≤ wd + slip ∧ wd - slip ≤ told ∧ 0 ≤ told := by
    rw [ht]
    unfold mx
    split <;> rcases he with rfl | rfl <;> omega
  have hl : fitL s rest told slip = (if 0 < told - slip then told - slip else 0) := rfl
  have b2 : 0 ≤ fitL s rest told slip ∧ fitL s rest told slip ≤ wd ∧ wd - fitL s rest told slip ≤ 2 * slip := by
    rw [hl]
    split <;> omega
  have hF : fitF s rest told slip = wd := by
    show fitL s rest told slip + (rest - fitL s rest told slip) % s = wd
    have e1 : (rest - fitL s rest told slip) % s = wd - fitL s rest told slip := by
      rw [Int.sub_emod, hr, ← Int.sub_emod]
      exact Int.emod_eq_of_lt (by omega) (by omega)
    rw [e1]
    omega
  show ([fitF s rest told slip, fitF s rest told slip + s]).filter _ = _
  rw [hF, List.filter_cons_of_pos (by simp; omega), List.filter_cons_of_neg (by simp; omega)]
  rfl
theorem sure_is {high first slip off : Int} {wd ts : Nat → Int} : ∀ {n : Nat}, 2 * slip ≤ high → 0 ≤ off → off ≤ slip → (∀ k, k < n → 0 ≤ wd k) → TimesOk wd off n ts → sureN (high + 1) slip (fun k => (first + sumN wd k) % (high + 1)) ts n = some (sumN wd n)
  | 0, _, _, _, _, _ => rfl
  | n + 1, h1, h2, h3, h4, h5 => by
    have ih := sure_is (first := first) (n := n) h1 h2 h3 (fun k hk => h4 k (by omega)) ⟨h5.z, fun i hi => h5.s i (by omega)⟩
    unfold sureN
    rw [ih]
    have e : (first + sumN wd (n + 1)) = (first + sumN wd n) + wd n := by
      show first + (sumN wd n + wd n) = _
      omega
    obtain ⟨e0, he, q⟩ := h5.s n (Nat.lt_succ_self n)
    rw [fit_one (s := high + 1) (wd := wd n) (off := off) (by omega) (by rw [e]; exact emod_step) (h4 n (by omega)) h2 h3 ⟨e0, he, by rw [q]; omega⟩]
    rfl
theorem even_sum {o u : Int} : ∀ n : Nat, sumN (fun k => ((k : Int) + 1) * o / u - (k : Int) * o / u) n = (n : Int) * o / u
  | 0 => by simp [sumN]
  | n + 1 => by
    unfold sumN
    rw [even_sum n, Int.natCast_add]
    simp
    omega
theorem even_bound {o u : Int} (h1 : 1 ≤ u) (h2 : 0 ≤ o) (k : Nat) : 0 ≤ ((k : Int) + 1) * o / u - (k : Int) * o / u ∧ ((k : Int) + 1) * o / u - (k : Int) * o / u ≤ o := by
  rw [Int.add_mul, Int.one_mul]
  have a1 : (k : Int) * o / u ≤ ((k : Int) * o + o) / u := Int.ediv_le_ediv (by omega) (by omega)
  have a2 : ((k : Int) * o + o) / u ≤ ((k : Int) * o + o * u) / u := Int.ediv_le_ediv (by omega) (by
    have : o * 1 ≤ o * u := Int.mul_le_mul_of_nonneg_left h1 h2
    omega)
  rw [Int.add_mul_ediv_right _ _ (by omega)] at a2
  omega
theorem even_off {o u : Int} (h1 : 1 ≤ u) (k : Nat) : 0 - u < offN (fun k => ((k : Int) + 1) * o / u - (k : Int) * o / u) o u k ∧ offN (fun k => ((k : Int) + 1) * o / u - (k : Int) * o / u) o u k ≤ 0 := by
  unfold offN
  rw [even_sum]
  have := Int.mul_ediv_self_le (x := (k : Int) * o) (k := u) (by omega)
  have := Int.lt_mul_ediv_self_add (x := (k : Int) * o) (k := u) (by omega)
  rw [Int.mul_comm u] at *
  omega
theorem minL_in : ∀ {ns : List Int}, ns ≠ [] → minL ns ∈ ns
  | [a], _ => by simp [minL]
  | a :: b :: r, _ => by
    have ih := minL_in (ns := b :: r) (by simp)
    show min a (minL (b :: r)) ∈ a :: b :: r
    rcases Int.le_total a (minL (b :: r)) with q | q
    · rw [Int.min_eq_left q]; exact List.mem_cons_self
    · rw [Int.min_eq_right q]; exact List.mem_cons_of_mem _ ih
theorem tab_ne {α : Type} {n : Nat} {f : Nat → α} : tab (n + 1) f ≠ [] := by
  rw [tab_succ]
  simp
theorem even_drift {o u : Int} (h1 : 1 ≤ u) (n : Nat) : (0 - u < minL (tab (n + 1) (offN (fun k => ((k : Int) + 1) * o / u - (k : Int) * o / u) o u)) ∧ minL (tab (n + 1) (offN (fun k => ((k : Int) + 1) * o / u - (k : Int) * o / u) o u)) ≤ 0) ∧ maxL (tab (n + 1) (offN (fun k => ((k : Int) + 1) * o / u - (k : Int) * o / u) o u)) = 0 := by
  constructor
  · obtain ⟨k, hk, e⟩ := tab_mem.mp (minL_in (tab_ne (n := n) (f := offN (fun k => ((k : Int) + 1) * o / u - (k : Int) * o / u) o u)))
    rw [← e]
    exact even_off h1 k
  · refine (maxL_mem (tab_mem.mpr ⟨0, by omega, ?_⟩) fun y hy => ?_).symm
    · unfold offN
      simp [sumN]
    · obtain ⟨k, hk, rfl⟩ := tab_mem.mp hy
      exact (even_off h1 k).2
theorem tab_cons {α : Type} {n : Nat} {f : Nat → α} : tab (n + 1) f = f 0 :: tab n fun i => f (i + 1) := by
  refine List.ext_getElem? fun i => ?_
  cases i with
  | zero => rw [tab_get (by omega)]; rfl
  | succ i =>
    by_cases h : i < n
    · rw [tab_get (by omega), List.getElem?_cons_succ, tab_get h]
    · rw [List.getElem?_eq_none (by simp; omega), List.getElem?_eq_none (by simp; omega)]
end Pu

namespace Pu
open PySem Bc Mir
local macro_rules | `(tactic| walk_at "ev") => `(tactic| first
  | with_reducible exact ok_c
  | ((with_reducible apply ok_var); rfl)
  | with_reducible exact ok_nil
  | ((with_reducible apply ok_cons); walk_at "ev"; walk_at "ev")
  | ((with_reducible apply ok_op); walk_at "ev"; walk_at "ev"; walk_at "op")
  | ((with_reducible apply ok_b); walk_at "ev"; walk_at "bi")
  | ((with_reducible apply ok_call); walk_at "ev"; walk_at "fn")
  | ((with_reducible apply ok_tup); walk_at "ev"; walk_at "sz")
  | ((with_reducible apply ok_lst); walk_at "ev"; walk_at "sz")
  | ((with_reducible apply ok_neg); walk_at "ev")
  | ((with_reducible apply ok_tru); walk_at "ev"; rfl)
  | ((with_reducible apply ok_is); walk_at "ev"; walk_at "is")
  | ((with_reducible apply ok_not); walk_at "ev")
  | ((with_reducible apply ok_notT); walk_at "ev")
  | ((with_reducible apply ok_notF); walk_at "ev")
  | ((with_reducible apply ok_owIx); rfl; walk_at "ev"; walk_at "op")
  | ((with_reducible apply ok_owLen); rfl)
  | ((with_reducible apply ok_owTru); rfl)
  | ((with_reducible apply ok_sl); walk_at "ev"; walk_at "ev"; walk_at "ev"; rfl)
  | with_reducible exact ok_oNone
  | ((with_reducible apply ok_oSome); walk_at "ev")
  | ((with_reducible apply ok_iSeq); walk_at "ev"; rfl)
  | ((with_reducible apply ok_iRng); walk_at "ev"; walk_at "bi")
  | ((with_reducible apply ok_if); walk_at "ev"; walk_at "if")
  | ((with_reducible apply ok_chain); walk_at "ev"; walk_at "ev"; walk_at "op"; walk_at "if"))
local macro_rules | `(tactic| walk_at "sz") => `(tactic| first | exact Nat.le_of_ble_eq_true rfl | (simp [cap]; done) | (simp [cap]; omega) | omega)
local macro_rules | `(tactic| walk_at "op") => `(tactic| first
  | with_reducible exact add_ii
  | with_reducible exact sub_ii
  | ((with_reducible apply mod_ii); omega)
  | ((with_reducible apply fdiv_ii) <;> omega)
  | ((with_reducible apply mul_l) <;> omega)
  | ((with_reducible apply mul_r) <;> omega)
  | ((with_reducible apply pow_ii) <;> omega)
  | with_reducible exact eq_ii
  | with_reducible exact ne_ii
  | assumption
  | rfl
  | ((with_reducible apply gt_T); omega)
  | ((with_reducible apply gt_F); omega)
  | ((with_reducible apply lt_T); omega)
  | ((with_reducible apply lt_F); omega)
  | ((with_reducible apply le_T); omega)
  | ((with_reducible apply le_F); omega)
  | ((with_reducible apply ge_T); omega)
  | ((with_reducible apply ge_F); omega)
  | ((with_reducible apply eq_T); omega)
  | ((with_reducible apply eq_F); omega)
  | ((with_reducible apply ne_T); omega)
  | ((with_reducible apply ne_F); omega))
local macro_rules | `(tactic| walk_at "bi") => `(tactic| first | assumption | rfl)
local macro_rules | `(tactic| walk_at "fn") => `(tactic| assumption)
local macro_rules | `(tactic| walk_at "if") => `(tactic| first
  | (rw [if_pos (by first | rfl | decide | omega | (simp; done) | (simp; omega))]; walk_at "ev")
  | (rw [if_neg (by first | decide | omega | (simp; done) | (simp; omega))]; walk_at "ev"))
local macro_rules | `(tactic| walk_at "is") => `(tactic| first | with_reducible exact is_bool_int | with_reducible exact is_bool_bool | with_reducible exact is_bool_str | with_reducible exact is_bool_list | with_reducible exact is_bool_tuple | with_reducible exact is_int_int | with_reducible exact is_int_bool | with_reducible exact is_int_str | with_reducible exact is_int_list | with_reducible exact is_int_tuple | with_reducible exact is_str_int | with_reducible exact is_str_bool | with_reducible exact is_str_str | with_reducible exact is_str_list | with_reducible exact is_str_tuple | with_reducible exact is_list_int | with_reducible exact is_list_bool | with_reducible exact is_list_str | with_reducible exact is_list_list | with_reducible exact is_list_tuple | with_reducible exact is_tuple_int | with_reducible exact is_tuple_bool | with_reducible exact is_tuple_str | with_reducible exact is_tuple_list | with_reducible exact is_tuple_tuple | with_reducible exact is_NoneType_int | with_reducible exact is_NoneType_bool | with_reducible exact is_NoneType_str | with_reducible exact is_NoneType_list | with_reducible exact is_NoneType_tuple)
local macro_rules | `(tactic| walk_at "fn") => `(tactic| first | assumption | ((with_reducible apply wholeT) <;> omega))
def Nw (v : Sl) : Prop := ∀ ds, v ≠ .ow ds
theorem nw_un : Nw .un := fun _ h => nomatch h
theorem nw_im {d : PyData} : Nw (.im d) := fun _ h => nomatch h
theorem noOw_one {sd : Sg} {i : Nat} {v : Sl} (h : sd[i]? = some v) (hv : Nw v) : noOw sd [i] = true := by
  unfold noOw
  simp only [List.all_cons, List.all_nil, Bool.and_true, h]
  cases v with
  | ow ds => exact absurd rfl (hv ds)
  | _ => rfl
def Yes (r : RS) : Prop := ∃ S', r = .ret (.bool true) S'
section
variable {sd sd1 : Sg} {S S1 : Sto} {a b : MS} {m : ME} {i n : Nat} {ds es : List PyData}
theorem yes_seq (ha : a sd S = .nx sd1 S1) (hb : Yes (b sd1 S1)) : Yes (sSeq a b sd S) := by
  obtain ⟨S', e⟩ := hb
  exact ⟨S', st_seq ha e⟩
theorem yes_pub (hs : sd[i]? = some (.ow ds)) (h : Yes (a (sd.set i (.im (.list ds))) S)) : Yes (sPub i a sd S) := by
  obtain ⟨S', e⟩ := h
  exact ⟨S', st_pub hs e⟩
theorem yes_ret (h : m sd S = .ok (.bool true) S1) : Yes (sRet m sd S) := ⟨S1, st_ret h⟩
theorem yes_env {f : MS} (P : Sg → Prop) (h : P sd) (H : ∀ sd0, P sd0 → Yes (f sd0 S)) : Yes (f sd S) := H sd h
theorem yes_run (e : es.map Sl.im ++ List.replicate (n - es.length) .un = sd) (h : Yes (b sd S)) : ∃ S', runF n b es S = .ok (.bool true) S' := by
  obtain ⟨S', q⟩ := h
  exact ⟨S', run_ret e q⟩
end
theorem ints_of {n : Nat} {h : Nat → PyData} {Q : Nat → Int → Prop} (H : ∀ k, k < n → ∃ v, h k = .int v ∧ Q k v) : ∃ st : Nat → Int, tab n h = tab n (fun k => .int (st k)) ∧ ∀ k, k < n → Q k (st k) := by
  refine ⟨fun k => match h k with | .int v => v | _ => 0, tab_congr fun k hk => ?_, fun k hk => ?_⟩
  · obtain ⟨v, e, _⟩ := H k hk
    dsimp only
    rw [e]
  · obtain ⟨v, e, q⟩ := H k hk
    dsimp only
    rw [e]
    exact q
theorem itab_snoc {k : Nat} {ts : Nat → Int} {y : Int} : (tab (k + 1) fun i => PyData.int (ts i)) ++ [.int y] = tab (k + 1 + 1) fun i => PyData.int (if i ≤ k then ts i else y) := by
  rw [tab_succ (n := k + 1), if_neg (by omega)]
  rw [tab_congr (n := k + 1) (f := fun i => PyData.int (ts i)) (g := fun i => PyData.int (if i ≤ k then ts i else y)) fun i hi => by rw [if_pos (by omega)]]
/-- [sum(xs[:k]) for k in range(len(xs) + 1)] -/
theorem sums_lc {n : Nat} {g : Nat → Int} {sd0 : Sg} {S : Sto} {t : MG} {i : Nat} {ix : Nat} (hn : n ≤ 1000) (ht : ∀ k, ∃ sd2, t (.int (0 + ((k : Nat) : Int))) sd0 = some sd2 ∧ sd2[i]? = some (.im (iT n g)) ∧ sd2[ix]? = some (.im (.int (0 + ((k : Nat) : Int))))) :
    lcLoop t eYes (eB sumD (aCons (eSl (eVar i) oNone (oSome (eVar ix))) aNil)) sd0 (tab (n + 1) fun j => .int (0 + ((j : Nat) : Int))) [] S = .ok (iT (n + 1) (sumN g)) S := by
  refine lc_tabP (fun k => .int (sumN g k)) (by show _ ≤ 100000; omega) fun k hk => ?_
  obtain ⟨sd2, h1, h2, h3⟩ := ht k
  refine ⟨sd2, h1, ok_b (ok_cons (ok_sl (x := iT k g) (ok_var h2) ok_oNone (ok_oSome (ok_var h3)) ?_) ok_nil) sumD_tab⟩
  show some (PyData.list (cutG (tab n fun k => .int (g k)) none (some (0 + (k : Int))))) = _
  rw [cut_tab (by omega) (by omega)]
  rw [show (0 + (k : Int)).toNat = k by omega]
theorem set_self {α : Type} {l : List α} {i : Nat} {x : α} (h : l[i]? = some x) : l.set i x = l := by
  refine List.ext_getElem? fun j => ?_
  by_cases e : i = j
  · subst e
    rw [List.getElem?_set_self (List.getElem?_eq_some_iff.mp h).1, h]
  · rw [List.getElem?_set_ne e]
/-- for k in range(1, many + 1): the sums are right -/
theorem sums_for {m : Nat} {per : Nat → Int} {over under : Int} {S : Sto} {sd0 : Sg} (hm : m ≤ 100) (hu : 1 ≤ under) (hu2 : under ≤ 1000) (hps : ∀ k : Nat, sumN per k = (k : Int) * over / under) (ho : 0 ≤ over) (ho2 : over ≤ 200000)
    (h13 : sd0[13]? = some (.im (.int under))) (h14 : sd0[14]? = some (.im (.int over))) (h16 : sd0[16]? = some (.im (iT m per))) (hl : 17 < sd0.length)
    (h17 : sd0[17]? = some .un) : ∃ v, Nw v ∧ forLoop (gN 17) l2_law (tab m fun i => .int (1 + ((i : Nat) : Int))) sd0 S = .nx (sd0.set 17 v) S := by
  obtain ⟨sd', S', z, rfl, v, wv, rfl⟩ := for_tab (n := m) (f := fun i => .int (1 + (i : Nat))) (t := gN 17) (b := l2_law) (fun k sd S' => S' = S ∧ ∃ v, Nw v ∧ sd = sd0.set 17 v) (sd := sd0) (S := S) ⟨rfl, .un, nw_un, (set_self h17).symm⟩ (fun k sd S' hk hI => by
    obtain ⟨rfl, v, _, rfl⟩ := hI
    have g13 : ((sd0.set 17 v).set 17 (.im (.int (1 + ((k : Nat) : Int)))))[13]? = some (.im (.int under)) := by rw [List.set_set, List.getElem?_set_ne (by decide)]; exact h13
    have g14 : ((sd0.set 17 v).set 17 (.im (.int (1 + ((k : Nat) : Int)))))[14]? = some (.im (.int over)) := by rw [List.set_set, List.getElem?_set_ne (by decide)]; exact h14
    have g16 : ((sd0.set 17 v).set 17 (.im (.int (1 + ((k : Nat) : Int)))))[16]? = some (.im (iT m per)) := by rw [List.set_set, List.getElem?_set_ne (by decide)]; exact h16
    have g17 : ((sd0.set 17 v).set 17 (.im (.int (1 + ((k : Nat) : Int)))))[17]? = some (.im (.int (1 + ((k : Nat) : Int)))) := by rw [List.set_set, List.getElem?_set_self hl]
    unfold l2_law
    refine ⟨_, _, S', rfl, st_ifF (ok_op (ok_b (ok_cons (ok_sl (x := iT (k + 1) per) (ok_var g16) ok_oNone (ok_oSome (ok_var g17)) ?_) ok_nil) sumD_tab) (ok_op (ok_op (ok_var g14) (ok_var g17) (mul_l (by omega) (by omega))) (ok_var g13) (fdiv_ii (by omega) (by omega))) (ne_F ?_)) st_nil, rfl, .im (.int (1 + ((k : Nat) : Int))), nw_im, by rw [List.set_set]⟩
    · show some (PyData.list (cutG (tab m fun k => .int (per k)) none (some (1 + (k : Int))))) = _
      rw [cut_tab (by omega) (by omega), show (1 + (k : Int)).toNat = k + 1 by omega]
    · rw [hps, Int.natCast_add, Int.mul_comm over]
      congr 2
      omega)
  exact ⟨v, wv, z⟩
theorem law_ok (ns : List Int) (_h : ns.length ≤ 63) : ∃ S', f_law [frzD (ns.map .int)] [] = .ok (.bool true) S' := by
  unfold f_law b_law
  refine yes_run rfl (yes_seq (S1 := tw 0 []) st_newL ?_)
  -- high
  obtain ⟨d1, m1, p1⟩ := pick_ok ns 0 [] [.int 9, .int 300, .int 65535] (by decide) (by decide)
  obtain ⟨c1, rfl, hc1⟩ : ∃ c, d1 = .int c ∧ 1 ≤ c ∧ c ≤ 65535 := by
    simp at m1
    rcases m1 with rfl | rfl | rfl <;> exact ⟨_, rfl, by decide, by decide⟩
  obtain ⟨v1, a1, b1, e1⟩ := draw_ok ns 1 [] c1 (by omega) (by decide)
  generalize hhigh : 1 + v1 = high
  have hh : 1 ≤ high ∧ high ≤ 65535 := by omega
  refine yes_seq (st_set (d := .int high) (ok_op ok_c (ok_call (ok_cons (ok_var rfl) (ok_cons (ok_var rfl) (ok_cons (ok_call (ok_cons (ok_var rfl) (ok_cons (ok_var rfl) (ok_cons (by walk_at "ev") ok_nil))) p1) ok_nil))) e1) (by rw [add_ii, hhigh]))) ?_
  -- steps
  obtain ⟨c2, a2, b2, e2⟩ := draw_ok ns 2 [] 12 (by decide) (by decide)
  obtain ⟨n, hn⟩ : ∃ n : Nat, c2 = n := ⟨c2.toNat, by omega⟩
  subst hn
  obtain ⟨h3, S3, q3, z3, rfl⟩ := lc_tab (n := n) (f := fun i => .int (0 + (i : Nat))) (t := gN 17) (e := eCall f__law_draw (aCons (eVar 0) (aCons (eVar 1) (aCons (eOp addD (eVar 2) (eC (.int (1)))) aNil))))
    (sd0 := wipeD ([.im (frzD (ns.map .int)), .im (objD 0), .im (.int high)] ++ List.replicate 19 .un) [17]) (fun k S => S = tw (3 + k) []) (fun k d => ∃ v, d = .int v ∧ 0 ≤ v ∧ v ≤ high) (S := tw 3 []) (by show _ ≤ 100000; omega) rfl (fun k S hk hS => by
      subst hS
      obtain ⟨v, a, b, e⟩ := draw_ok ns (3 + k) [] (high + 1) (by omega) (by omega)
      exact ⟨_, .int v, _, rfl, ok_call (by walk_at "ev") e, ⟨v, rfl, a, by omega⟩, rfl⟩)
  obtain ⟨st, es, hst⟩ := ints_of q3
  rw [es] at z3
  refine yes_seq (st_set (d := iT n st) (S1 := tw (3 + n) []) (ok_lc (ok_iRng (ok_cons (ok_call (by walk_at "ev") e2) ok_nil) (rng1_ok (by omega))) rfl z3)) ?_
  -- first
  obtain ⟨first, a4, b4, e4⟩ := draw_ok ns (3 + n) [] (high + 1) (by omega) (by omega)
  refine yes_seq (st_set (d := .int first) (ok_call (by walk_at "ev") e4)) ?_
  -- sums
  have hlen : ∀ g : Nat → Int, lenD [iT n g] = some (.int (n : Int)) := fun g => by
    show some (PyData.int ((tab n _).length : Nat)) = _
    rw [tab_length]
  have hrng : rng1 [.int ((n : Int) + 1)] = some (tab (n + 1) fun i => .int (0 + (i : Nat))) := by
    have := rng1_ok (n := n + 1) (by omega)
    rw [Int.natCast_add] at this
    exact this
  refine yes_seq (st_set (d := iT (n + 1) (sumN st)) (S1 := tw (3 + n + 1) []) (ok_lc (ok_iRng (ok_cons (ok_op (ok_b (ok_cons (ok_var rfl) ok_nil) (hlen st)) ok_c add_ii) ok_nil) hrng) rfl (sums_lc (by omega) fun k => ⟨_, rfl, rfl, rfl⟩))) ?_
  -- reads
  refine yes_seq (st_set (d := iT (n + 1) (fun k => (first + sumN st k) % (high + 1))) (S1 := tw (3 + n + 1) []) (ok_lc (ok_iSeq (ok_var rfl) rfl) rfl (lc_tabP (fun k => .int ((first + sumN st k) % (high + 1))) (by show _ ≤ 100000; omega) fun k hk => ⟨_, rfl, by walk_at "ev"⟩))) ?_
  -- totals
  have hmod : ∀ (g : Nat → Int) (k : Nat), 0 ≤ (first + g k) % (high + 1) ∧ (first + g k) % (high + 1) ≤ high := fun g k => ⟨Int.emod_nonneg _ (by omega), by
    have := Int.emod_lt_of_pos (first + g k) (show 0 < high + 1 by omega)
    omega⟩
  have t1 := totals_ok (top := high) (n := n + 1) (g := fun k => (first + sumN st k) % (high + 1)) (S := tw (3 + n + 1) []) hh.1 hh.2 (by omega) fun k hk => hmod _ k
  have t1' : iT (n + 1) (totN high fun k => (first + sumN st k) % (high + 1)) = iT (n + 1) (sumN st) := congrArg PyData.list (tab_congr fun k hk => by rw [tot_is (by omega) fun j hj => hst j (by omega)])
  rw [t1'] at t1
  have t2 : f_totals [.int high, .list []] (tw (3 + n + 1) []) = .ok (.list []) (tw (3 + n + 1) []) := totals_ok (top := high) (n := 0) (g := fun _ => 0) hh.1 hh.2 (by omega) fun k hk => by omega
  refine yes_seq (st_ifF (ok_orF (ok_op (ok_call (by walk_at "ev") t1) (ok_var rfl) (ne_same ((flat_tab (k := 0) fun i _ => flat_int _).shaped (by decide)))) (ok_op (ok_call (by walk_at "ev") t2) (by walk_at "ev") (ne_same ((flat_list (k := 0) (ds := []) (fun d hd => nomatch hd)).shaped (by decide))))) st_nil) ?_
  -- wide
  obtain ⟨h5, S5, q5, z5, rfl⟩ := lc_tab (n := n) (f := fun k => .int (st k)) (t := gN 11) (e := (eOp addD (eVar 11) (eOp mulD (eOp addD (eVar 2) (eC (.int (1)))) (eCall f__law_draw (aCons (eVar 0) (aCons (eVar 1) (aCons (eC (.int (4))) aNil)))))))
    (sd0 := wipeD ([.im (frzD (ns.map .int)), .im (objD 0), .im (.int high), .im (iT n st), .im (.int first), .im (iT (n + 1) (sumN st)), .im (iT (n + 1) (fun k => (first + sumN st k) % (high + 1)))] ++ List.replicate 15 .un) [11]) (fun k S => S = tw (3 + n + 1 + k) []) (fun k d => ∃ v, d = .int v ∧ 0 ≤ v ∧ v ≤ 262143) (S := tw (3 + n + 1) []) (by show _ ≤ 100000; omega) rfl (fun k S hk hS => by
      subst hS
      obtain ⟨v, a, b, e⟩ := draw_ok ns (3 + n + 1 + k) [] 4 (by omega) (by omega)
      have hb := hst k hk
      have hm : (high + 1) * v ≤ (high + 1) * 3 := Int.mul_le_mul_of_nonneg_left (by omega) (by omega)
      have hm0 : 0 ≤ (high + 1) * v := Int.mul_nonneg (by omega) (by omega)
      exact ⟨_, .int (st k + (high + 1) * v), _, rfl, ok_op (ok_var rfl) (ok_op (by walk_at "ev") (ok_call (by walk_at "ev") e) (mul_l (by omega) (by omega))) add_ii, ⟨_, rfl, by omega, by omega⟩, rfl⟩)
  obtain ⟨wd, ew, hwd⟩ := ints_of q5
  rw [ew] at z5
  refine yes_seq (st_set (d := iT n wd) (S1 := tw (3 + n + 1 + n) []) (ok_lc (ok_iSeq (ok_var rfl) rfl) rfl z5)) ?_
  refine yes_seq (st_set (d := iT (n + 1) (sumN wd)) (S1 := tw (3 + n + 1 + n) []) (ok_lc (ok_iRng (ok_cons (ok_op (ok_b (ok_cons (ok_var rfl) ok_nil) (hlen wd)) ok_c add_ii) ok_nil) hrng) rfl (sums_lc (by omega) fun k => ⟨_, rfl, rfl, rfl⟩))) ?_
  refine yes_seq (st_set (d := iT (n + 1) (fun k => (first + sumN wd k) % (high + 1))) (S1 := tw (3 + n + 1 + n) []) (ok_lc (ok_iSeq (ok_var rfl) rfl) rfl (lc_tabP (fun k => .int ((first + sumN wd k) % (high + 1))) (by show _ ≤ 100000; omega) fun k hk => ⟨_, rfl, by walk_at "ev"⟩))) ?_
  -- slip, off
  obtain ⟨d6, m6, p6⟩ := pick_ok ns (3 + n + 1 + n) [] [.int 1, .int (high / 2 + 1), .int (2 * high)] (by simp) (by omega)
  obtain ⟨c6, rfl, hc6⟩ : ∃ c, d6 = .int c ∧ 1 ≤ c ∧ c ≤ 2 * high := by
    simp at m6
    rcases m6 with rfl | rfl | rfl
    · exact ⟨_, rfl, by decide, by omega⟩
    · exact ⟨_, rfl, by omega, by omega⟩
    · exact ⟨_, rfl, by omega, by omega⟩
  obtain ⟨slip, a7, b7, e7⟩ := draw_ok ns (3 + n + 1 + n + 1) [] c6 (by omega) (by omega)
  refine yes_seq (st_set (d := .int slip) (ok_call (ok_cons (ok_var rfl) (ok_cons (ok_var rfl) (ok_cons (ok_call (ok_cons (ok_var rfl) (ok_cons (ok_var rfl) (ok_cons (by walk_at "ev") ok_nil))) p6) ok_nil))) e7)) ?_
  obtain ⟨off, a8, b8, e8⟩ := draw_ok ns (3 + n + 1 + n + 1 + 1) [] (slip + 1) (by omega) (by omega)
  refine yes_seq (st_set (d := .int off) (ok_call (by walk_at "ev") e8)) ?_
  -- times
  refine yes_seq (st_own (ds := [.int 7]) (by walk_at "ev") (by decide)) ?_
  obtain ⟨sd9, S9, z9, rfl, fs, ts, v9, rfl, rfl, w9, hts⟩ := for_tab (n := n) (f := fun k => .int (wd k)) (t := gN 11) (b := l1_law)
    (fun k sd S => S = tw (3 + n + 1 + n + 1 + 1 + 1 + k) [] ∧ ∃ fs ts v, sd = [.im (frzD (ns.map .int)), .im (objD 0), .im (.int high), .im (iT n st), .im (.int first), .im (iT (n + 1) (sumN wd)), .im (iT (n + 1) (fun k => (first + sumN wd k) % (high + 1))), .im (iT n wd), .im (.int slip), .im (.int off), .ow fs, v] ++ List.replicate 10 .un ∧ fs = (tab (k + 1) fun i => .int (ts i)) ∧ Nw v ∧ TimesOk wd off k ts)
    (sd := [.im (frzD (ns.map .int)), .im (objD 0), .im (.int high), .im (iT n st), .im (.int first), .im (iT (n + 1) (sumN wd)), .im (iT (n + 1) (fun k => (first + sumN wd k) % (high + 1))), .im (iT n wd), .im (.int slip), .im (.int off), .ow [.int 7], .un] ++ List.replicate 10 .un)
    (S := tw (3 + n + 1 + n + 1 + 1 + 1) []) ⟨rfl, [.int 7], fun _ => 7, .un, rfl, rfl, nw_un, rfl, fun i hi => by omega⟩ (fun k sd S hk hI => by
      obtain ⟨rfl, fs, ts, v, rfl, rfl, _, ht⟩ := hI
      obtain ⟨w, a, b, e⟩ := draw_ok ns (3 + n + 1 + n + 1 + 1 + 1 + k) [] 2 (by omega) (by omega)
      have hlast : itemD (.list (tab (k + 1) fun i => .int (ts i))) (.int (-1)) = some (.int (ts k)) := tab_last (f := fun i => PyData.int (ts i))
      unfold l1_law
      obtain ⟨ee, hee, hev⟩ : ∃ ee, (ee = off ∨ ee = 0 - off) ∧ ∀ sd, sd[0]? = some (.im (frzD (ns.map .int))) → sd[1]? = some (.im (objD 0)) → sd[9]? = some (.im (.int off)) →
          (eIf (eOp eqD (eCall f__law_draw (aCons (eVar 0) (aCons (eVar 1) (aCons (eC (.int (2))) aNil)))) (eC (.int (0)))) (eVar 9) (eOp subD (eC (.int (0))) (eVar 9))) sd (tw (3 + n + 1 + n + 1 + 1 + 1 + k) []) = .ok (.int ee) (tw (3 + n + 1 + n + 1 + 1 + 1 + k + 1) []) := by
        by_cases hw : w = 0
        · exact ⟨off, .inl rfl, fun sd h0 h1 h9 => ok_if (k := true) (ok_op (ok_call (ok_cons (ok_var h0) (ok_cons (ok_var h1) (ok_cons ok_c ok_nil))) e) ok_c (eq_T hw)) (by rw [if_pos rfl]; exact ok_var h9)⟩
        · exact ⟨0 - off, .inr rfl, fun sd h0 h1 h9 => ok_if (k := false) (ok_op (ok_call (ok_cons (ok_var h0) (ok_cons (ok_var h1) (ok_cons ok_c ok_nil))) e) ok_c (eq_F hw)) (by rw [if_neg (by decide)]; exact ok_op ok_c (ok_var h9) sub_ii)⟩
      refine ⟨_, _, _, rfl, st_app (d := .int (ts k + mx (wd k + ee))) rfl (ok_op (ok_owIx (k := .int (-1)) rfl (ok_neg ok_c) hlast) (ok_b (ok_cons ok_c (ok_cons (ok_op (ok_var rfl) (hev _ rfl rfl rfl) add_ii) ok_nil)) (d := .int (mx (wd k + ee))) rfl) add_ii) (by rw [tab_length]; show _ < 100000; omega), rfl, _, fun i => if i ≤ k then ts i else ts k + mx (wd k + ee), _, rfl, ?_, nw_im, ?_, fun i hi => ?_⟩
      · exact itab_snoc
      · show (if 0 ≤ k then ts 0 else _) = 7
        rw [if_pos (by omega)]
        exact ht.z
      · show ∃ e, _ ∧ (if i + 1 ≤ k then ts (i + 1) else ts k + mx (wd k + ee)) = (if i ≤ k then ts i else ts k + mx (wd k + ee)) + mx (wd i + e)
        by_cases hik : i < k
        · rw [if_pos (by omega), if_pos (by omega)]
          exact ht.s i hik
        · have : i = k := by omega
          subst this
          rw [if_neg (by omega), if_pos (Nat.le_refl _)]
          exact ⟨ee, hee, rfl⟩)
  refine yes_seq (st_for (ok_iSeq (ok_var rfl) rfl) z9) ?_
  refine yes_pub rfl ?_
  have hwb : ∀ i, i < n → wd i + off ≤ 400000 := fun i hi => by
    have := hwd i hi
    omega
  have htb := hts.bound a8 hwb (by decide)
  have htb2 : ∀ k, k < n + 1 → 0 ≤ ts k ∧ ts k ≤ 1000000000 := fun k hk => by
    have := htb k (by omega)
    omega
  -- told
  have s1 := sure_ok (top := high) (slip := slip) (n := n + 1) (g := fun k => (first + sumN wd k) % (high + 1)) (ts := ts) (S := tw (3 + n + 1 + n + 1 + 1 + 1 + n) []) hh.1 hh.2 (by omega) (fun k hk => hmod _ k) htb2 (fun k hk => hts.mono k (by omega)) a7 (by omega)
  refine yes_seq (st_set (ok_call (by walk_at "ev") s1)) ?_
  have s2 := law_sure_ok (size := high + 1) (slip := slip) (n := n + 1) (g := fun k => (first + sumN wd k) % (high + 1)) (ts := ts) (S := tw (3 + n + 1 + n + 1 + 1 + 1 + n) []) (by omega) (by omega) (by omega) (by omega) htb2 a7 (by omega)
  have fl : SeqAt.shaped (.list (tab (n + 1) fun k => optD (sureN (high + 1) slip (fun k => (first + sumN wd k) % (high + 1)) ts k))) = true := (flat_tab (k := 0) fun i _ => by
    cases sureN (high + 1) slip (fun k => (first + sumN wd k) % (high + 1)) ts i with
    | none => exact flat_none
    | some v => exact flat_int v).shaped (by decide)
  refine yes_seq (st_ifF (ok_op (ok_var rfl) (ok_call (by walk_at "ev") s2) (ne_same fl)) st_nil) ?_
  refine yes_seq (sd1 := _) (S1 := tw (3 + n + 1 + n + 1 + 1 + 1 + n) []) (st_ifF (S1 := tw (3 + n + 1 + n + 1 + 1 + 1 + n) []) ?_ st_nil) ?_
  · by_cases h2s : 2 * slip ≤ high
    · refine ok_andT (ok_op (ok_op ok_c (ok_var rfl) (mul_l (by decide) (by decide))) (ok_var rfl) (le_T h2s)) ?_
      have e : (.list (tab (n + 1) fun k => optD (sureN (high + 1) slip (fun k => (first + sumN wd k) % (high + 1)) ts k))) = iT (n + 1) (sumN wd) := congrArg PyData.list (tab_congr fun k hk => by
        rw [sure_is (n := k) h2s a8 (by omega) (fun j hj => (hwd j (by omega)).1) ⟨hts.z, fun i hi => hts.s i (by omega)⟩]
        rfl)
      rw [e]
      exact ok_op (ok_var rfl) (ok_var rfl) (ne_same ((flat_tab (k := 0) fun i _ => flat_int _).shaped (by decide)))
    · exact ok_andF (ok_op (ok_op ok_c (ok_var rfl) (mul_l (by decide) (by decide))) (ok_var rfl) (le_F h2s))
  -- under, over, many
  generalize hT : 3 + n + 1 + n + 1 + 1 + 1 + n = tt
  have htt : tt < 100 := by omega
  obtain ⟨d10, m10, p10⟩ := pick_ok ns tt [] [.int 7, .int 1000] (by decide) (by omega)
  obtain ⟨c10, rfl, hc10⟩ : ∃ c, d10 = .int c ∧ 1 ≤ c ∧ c ≤ 1000 := by
    simp at m10
    rcases m10 with rfl | rfl <;> exact ⟨_, rfl, by decide, by decide⟩
  obtain ⟨v10, a10, b10, e10⟩ := draw_ok ns (tt + 1) [] c10 (by omega) (by omega)
  generalize hund : 1 + v10 = under
  have hu : 1 ≤ under ∧ under ≤ 1000 := by omega
  refine yes_seq (st_set (d := .int under) (ok_op ok_c (ok_call (ok_cons (ok_var rfl) (ok_cons (ok_var rfl) (ok_cons (ok_call (ok_cons (ok_var rfl) (ok_cons (ok_var rfl) (ok_cons (by walk_at "ev") ok_nil))) p10) ok_nil))) e10) (by rw [add_ii, hund]))) ?_
  obtain ⟨v11, a11, b11, e11⟩ := draw_ok ns (tt + 1 + 1) [] 100000 (by decide) (by omega)
  generalize hov : under + v11 = over
  have ho : under ≤ over ∧ over ≤ 101000 := by omega
  refine yes_seq (st_set (d := .int over) (ok_op (ok_var rfl) (ok_call (by walk_at "ev") e11) (by rw [add_ii, hov]))) ?_
  obtain ⟨c12, a12, b12, e12⟩ := draw_ok ns (tt + 1 + 1 + 1) [] 60 (by decide) (by omega)
  obtain ⟨m, hm⟩ : ∃ m : Nat, c12 = m := ⟨c12.toNat, by omega⟩
  subst hm
  refine yes_seq (st_set (d := .int (m : Int)) (ok_call (by walk_at "ev") e12)) ?_
  generalize hT2 : tt + 1 + 1 + 1 + 1 = tu
  have htu : tu < 110 := by omega
  -- periods
  have ev1 := evened_ok (top := over) (under := under) (many := m) (S := tw tu []) hu.1 ho.1 (by omega) (by omega)
  refine yes_seq (st_set (ok_call (by walk_at "ev") ev1)) ?_
  generalize hper : (fun k : Nat => ((k : Int) + 1) * over / under - (k : Int) * over / under) = per at ev1 ⊢
  have hpb : ∀ k, k < m → 0 ≤ per k ∧ per k ≤ 101000 := fun k hk => by
    have := even_bound (o := over) (u := under) hu.1 (by omega) k
    rw [← hper]
    dsimp only
    omega
  have hps : ∀ k : Nat, sumN per k = (k : Int) * over / under := fun k => by rw [← hper]; exact even_sum k
  have hmr : rng2 [.int 1, .int ((m : Int) + 1)] = some (tab m fun i => .int (1 + (i : Nat))) := by
    rw [rng2_i (by omega) (by omega) (by omega) (by omega), show ((m : Int) + 1 - 1).toNat = m by omega]
  refine yes_env (fun sd0 => sd0.length = 22 ∧ sd0[0]? = some (.im (frzD (ns.map .int))) ∧ sd0[1]? = some (.im (objD 0)) ∧ (∃ v, Nw v ∧ sd0[11]? = some v) ∧ sd0[13]? = some (.im (.int under)) ∧ sd0[14]? = some (.im (.int over)) ∧ sd0[15]? = some (.im (.int (m : Int))) ∧ sd0[16]? = some (.im (iT m per)) ∧ sd0[17]? = some .un) ⟨rfl, rfl, rfl, ⟨v9, w9, rfl⟩, rfl, rfl, rfl, rfl, rfl⟩ ?_
  rintro sd0 ⟨hl, h0, h1, h11, h13, h14, h15, h16, h17⟩
  obtain ⟨v11, w11, h11⟩ := h11
  obtain ⟨v17, w17, z17⟩ := sums_for (m := m) (per := per) (over := over) (under := under) (S := tw tu []) (sd0 := sd0) (by omega) hu.1 hu.2 hps (by omega) (by omega) h13 h14 h16 (by omega) h17
  refine yes_seq (st_for (ok_iRng (ok_cons ok_c (ok_cons (ok_op (ok_var h15) ok_c add_ii) ok_nil)) hmr) z17) ?_
  clear z17
  -- the rows of sd0 but 17
  have gs : ∀ (i : Nat) (x : Sl), i ≠ 17 → sd0[i]? = some x → (sd0.set 17 v17)[i]? = some x := fun i x hi h => by rw [List.getElem?_set_ne (Ne.symm hi)]; exact h
  have g17 : (sd0.set 17 v17)[17]? = some v17 := List.getElem?_set_self (by omega)
  have hl' : (sd0.set 17 v17).length = 22 := by rw [List.length_set]; exact hl
  generalize sd0.set 17 v17 = sd1 at gs g17 hl' ⊢
  have h0 := gs 0 _ (by decide) h0
  have h1 := gs 1 _ (by decide) h1
  have h11 := gs 11 _ (by decide) h11
  have h13 := gs 13 _ (by decide) h13
  have h14 := gs 14 _ (by decide) h14
  have h15 := gs 15 _ (by decide) h15
  have h16 := gs 16 _ (by decide) h16
  -- drift
  have dr1 := drift_ok (top := over) (under := under) (n := m) (g := per) (S := tw tu []) hu.1 ho.1 (by omega) (by omega) fun k hk => by
    have := hpb k hk
    omega
  have dr2 := even_drift (o := over) (u := under) hu.1 m
  rw [hper] at dr2
  generalize minL (tab (m + 1) (offN per over under)) = low at dr1 dr2
  generalize maxL (tab (m + 1) (offN per over under)) = topn at dr1 dr2
  refine yes_seq (st_asg (sd1 := (sd1.set 20 (.im (.int low))).set 21 (.im (.int topn))) (ok_call (ok_cons (ok_var h16) (ok_cons (ok_var h14) (ok_cons (ok_var h13) ok_nil))) dr1) rfl) ?_
  have k20 : ((sd1.set 20 (.im (.int low))).set 21 (.im (.int topn)))[20]? = some (.im (.int low)) := by rw [List.getElem?_set_ne (by decide), List.getElem?_set_self (by omega)]
  have k21 : ((sd1.set 20 (.im (.int low))).set 21 (.im (.int topn)))[21]? = some (.im (.int topn)) := List.getElem?_set_self (by rw [List.length_set]; omega)
  have ks : ∀ (i : Nat) (x : Sl), i < 20 → sd1[i]? = some x → ((sd1.set 20 (.im (.int low))).set 21 (.im (.int topn)))[i]? = some x := fun i x hi h => by rw [List.getElem?_set_ne (by omega), List.getElem?_set_ne (by omega)]; exact h
  have hl2 : ((sd1.set 20 (.im (.int low))).set 21 (.im (.int topn))).length = 22 := by rw [List.length_set, List.length_set]; exact hl'
  generalize (sd1.set 20 (.im (.int low))).set 21 (.im (.int topn)) = sd2 at k20 k21 ks hl2 ⊢
  have h0 := ks 0 _ (by decide) h0
  have h1 := ks 1 _ (by decide) h1
  have h11 := ks 11 _ (by decide) h11
  have h13 := ks 13 _ (by decide) h13
  have h14 := ks 14 _ (by decide) h14
  have h15 := ks 15 _ (by decide) h15
  have h16 := ks 16 _ (by decide) h16
  have g17 := ks 17 _ (by decide) g17
  have hlm : lenD [iT m per] = some (.int (m : Int)) := by
    show some (PyData.int ((tab m _).length : Nat)) = _
    rw [tab_length]
  refine yes_seq (st_ifF (ok_orF (ok_op (ok_b (ok_cons (ok_var h16) ok_nil) hlm) (ok_var h15) (ne_F rfl)) (ok_orF (ok_notF (ok_chain (k := true) (ok_op ok_c (ok_var h13) sub_ii) (ok_var k20) (lt_T dr2.1.1) (r := .ok (.bool true) (tw tu [])) ?_)) (ok_op (ok_var k21) ok_c (ne_F dr2.2)))) st_nil) ?_
  · rw [if_pos rfl]
    show R.of (tw tu []) (leD (.int low) (.int 0)) = _
    rw [le_T dr2.1.2]
    rfl
  -- bent
  obtain ⟨hb, Sb, qb, zb, rfl⟩ := lc_tab (n := m) (f := fun k => .int (per k)) (t := gN 11) (e := (eOp addD (eVar 11) (eCall f__law_draw (aCons (eVar 0) (aCons (eVar 1) (aCons (eC (.int (3))) aNil))))))
    (sd0 := wipeD sd2 [11]) (fun k S => S = tw (tu + k) []) (fun k d => ∃ v, d = .int v ∧ per k ≤ v ∧ v ≤ per k + 2) (S := tw tu []) (by show _ ≤ 100000; omega) rfl (fun k S hk hS => by
      subst hS
      obtain ⟨v, a, b, e⟩ := draw_ok ns (tu + k) [] 3 (by decide) (by omega)
      have w0 : ((wipeD sd2 [11]).set 11 (.im (.int (per k))))[0]? = some (.im (frzD (ns.map .int))) := by rw [List.getElem?_set_ne (by decide), wipeD_out (by decide)]; exact h0
      have w1 : ((wipeD sd2 [11]).set 11 (.im (.int (per k))))[1]? = some (.im (objD 0)) := by rw [List.getElem?_set_ne (by decide), wipeD_out (by decide)]; exact h1
      have w11 : ((wipeD sd2 [11]).set 11 (.im (.int (per k))))[11]? = some (.im (.int (per k))) := List.getElem?_set_self (by rw [wipeD_length]; omega)
      exact ⟨_, .int (per k + v), _, rfl, ok_op (ok_var w11) (ok_call (ok_cons (ok_var w0) (ok_cons (ok_var w1) (ok_cons ok_c ok_nil))) e) add_ii, ⟨_, rfl, by omega, by omega⟩, rfl⟩)
  obtain ⟨bent, eb, hbent⟩ := ints_of qb
  rw [eb] at zb
  refine yes_seq (st_set (d := iT m bent) (S1 := tw (tu + m) []) (ok_lc (ok_iSeq (ok_var h16) rfl) (noOw_one h11 w11) zb)) ?_
  have hbb : ∀ k, k < m → 0 ≤ bent k ∧ bent k ≤ 1000000000 := fun k hk => by
    have h1 := hbent k hk
    have h2 := hpb k hk
    omega
  have j18 : (sd2.set 18 (.im (iT m bent)))[18]? = some (.im (iT m bent)) := List.getElem?_set_self (by omega)
  have js : ∀ (i : Nat) (x : Sl), i ≠ 18 → sd2[i]? = some x → (sd2.set 18 (.im (iT m bent)))[i]? = some x := fun i x hi h => by rw [List.getElem?_set_ne (Ne.symm hi)]; exact h
  have hl3 : (sd2.set 18 (.im (iT m bent))).length = 22 := by rw [List.length_set]; exact hl2
  generalize sd2.set 18 (.im (iT m bent)) = sd3 at j18 js hl3 ⊢
  have h13 := js 13 _ (by decide) h13
  have h14 := js 14 _ (by decide) h14
  have h15 := js 15 _ (by decide) h15
  have g17 := js 17 _ (by decide) g17
  -- offs
  have hoffs : (.list ([.int 0] ++ tab m fun i => .int (sumN bent (i + 1) * under - (1 + ((i : Nat) : Int)) * over)) : PyData) = iT (m + 1) (offN bent over under) := by
    refine congrArg PyData.list ?_
    rw [tab_cons]
    have e0 : offN bent over under 0 = 0 := by
      unfold offN
      simp [sumN]
    rw [e0]
    show PyData.int 0 :: _ = PyData.int 0 :: _
    refine congrArg (PyData.int 0 :: ·) (tab_congr fun i hi => ?_)
    unfold offN
    rw [Int.natCast_add, Int.add_comm (i : Int)]
    rfl
  have zo : lcLoop (gN 17) eYes (eOp subD (eOp mulD (eB sumD (aCons (eSl (eVar 18) oNone (oSome (eVar 17))) aNil)) (eVar 13)) (eOp mulD (eVar 17) (eVar 14))) (wipeD sd3 [17]) (tab m fun i => .int (1 + ((i : Nat) : Int))) [] (tw (tu + m) []) = .ok (.list (tab m fun i => .int (sumN bent (i + 1) * under - (1 + ((i : Nat) : Int)) * over))) (tw (tu + m) []) := by
    refine lc_tabP (fun i => .int (sumN bent (i + 1) * under - (1 + ((i : Nat) : Int)) * over)) (by show _ ≤ 100000; omega) fun k hk => ⟨_, rfl, ?_⟩
    have x13 : ((wipeD sd3 [17]).set 17 (.im (.int (1 + ((k : Nat) : Int)))))[13]? = some (.im (.int under)) := by rw [List.getElem?_set_ne (by decide), wipeD_out (by decide)]; exact h13
    have x14 : ((wipeD sd3 [17]).set 17 (.im (.int (1 + ((k : Nat) : Int)))))[14]? = some (.im (.int over)) := by rw [List.getElem?_set_ne (by decide), wipeD_out (by decide)]; exact h14
    have x18 : ((wipeD sd3 [17]).set 17 (.im (.int (1 + ((k : Nat) : Int)))))[18]? = some (.im (iT m bent)) := by rw [List.getElem?_set_ne (by decide), wipeD_out (by decide)]; exact j18
    have x17 : ((wipeD sd3 [17]).set 17 (.im (.int (1 + ((k : Nat) : Int)))))[17]? = some (.im (.int (1 + ((k : Nat) : Int)))) := List.getElem?_set_self (by rw [wipeD_length]; omega)
    have sb := sumN_bound (g := bent) (b := 1000000000) (by decide) (n := k + 1) fun j hj => hbb j (by omega)
    refine ok_op (ok_op (ok_b (ok_cons (ok_sl (x := iT (k + 1) bent) (ok_var x18) ok_oNone (ok_oSome (ok_var x17)) ?_) ok_nil) sumD_tab) (ok_var x13) (mul_l (by omega) (by omega))) (ok_op (ok_var x17) (ok_var x14) (mul_l (by omega) (by omega))) sub_ii
    show some (PyData.list (cutG (tab m fun k => .int (bent k)) none (some (1 + (k : Int))))) = _
    rw [cut_tab (by omega) (by omega), show (1 + (k : Int)).toNat = k + 1 by omega]
  refine yes_seq (st_set (d := iT (m + 1) (offN bent over under)) (S1 := tw (tu + m) []) (ok_op (ok_lst (ok_cons ok_c ok_nil) (Nat.le_of_ble_eq_true rfl)) (ok_lc (ok_iRng (ok_cons ok_c (ok_cons (ok_op (ok_var h15) ok_c add_ii) ok_nil)) hmr) (noOw_one g17 w17) zo) ?_)) ?_
  · show (if _ then some (PyData.list _) else none) = _
    rw [if_pos (by rw [tab_length]; show 1 + m ≤ 100000; omega), hoffs]
  have i19 : (sd3.set 19 (.im (iT (m + 1) (offN bent over under))))[19]? = some (.im (iT (m + 1) (offN bent over under))) := List.getElem?_set_self (by omega)
  have is : ∀ (i : Nat) (x : Sl), i ≠ 19 → sd3[i]? = some x → (sd3.set 19 (.im (iT (m + 1) (offN bent over under))))[i]? = some x := fun i x hi h => by rw [List.getElem?_set_ne (Ne.symm hi)]; exact h
  have dr3 := drift_ok (top := over) (under := under) (n := m) (g := bent) (S := tw (tu + m) []) hu.1 ho.1 (by omega) (by omega) hbb
  have mn : minD [iT (m + 1) (offN bent over under)] = some (.int (minL (tab (m + 1) (offN bent over under)))) := by
    show (match intsOf (tab (m + 1) fun i => .int (offN bent over under i)) with | some ns => if 0 < ns.length then some (PyData.int (minL ns)) else none | none => none) = _
    rw [intsOf_tab]
    show (if 0 < (tab (m + 1) (offN bent over under)).length then _ else _) = _
    rw [if_pos (by rw [tab_length]; omega)]
  have mxx : maxD [iT (m + 1) (offN bent over under)] = some (.int (maxL (tab (m + 1) (offN bent over under)))) := by
    show (match intsOf (tab (m + 1) fun i => .int (offN bent over under i)) with | some ns => if 0 < ns.length then some (PyData.int (maxL ns)) else none | none => none) = _
    rw [intsOf_tab]
    show (if 0 < (tab (m + 1) (offN bent over under)).length then _ else _) = _
    rw [if_pos (by rw [tab_length]; omega)]
  refine yes_ret (ok_op (ok_call (ok_cons (ok_var (is 18 _ (by decide) j18)) (ok_cons (ok_var (is 14 _ (by decide) h14)) (ok_cons (ok_var (is 13 _ (by decide) h13)) ok_nil))) dr3) (ok_tup (ok_cons (ok_b (ok_cons (ok_var i19) ok_nil) mn) (ok_cons (ok_b (ok_cons (ok_var i19) ok_nil) mxx) ok_nil)) (Nat.le_of_ble_eq_true rfl)) (eq_same ?_))
  refine (flat_tuple (k := 0) fun d hd => ?_).shaped (by decide)
  simp at hd
  rcases hd with rfl | rfl <;> exact flat_int _
end Pu

open Pu
open PySem PySem.W PyProof.Rows Bc
theorem Der.all_mk {l : PySem.W.OpenLaw} {w : World} {K : PySem.W.Frag} {h : Heap} {mg : Str → Option Value} {fa f5 : Addr} (X : K.In h) (G : h.Ns mainGlobals mg) (hfa : mg "law" = some (.ref fa)) (T : Der.Txt K mg)
    {od5 an5 : Option Addr} {sl5 : Array (Option Value)} {oc5 kV5 dc5 pm5 cd5 ct5 : Value}
    (a5 : PySem.W.nsIn K mainGlobals "law" = some (some (.ref f5))) (l5 : K.lookup f5 = some ⟨oc5, od5, .func (PySem.W.fnOf "law" "law" (L2.defArgs Der.s_law) (L2.defBody Der.s_law) (L2.defScope Der.s_law) .none kV5 dc5 pm5 an5 cd5 ct5), sl5⟩) (c5 : PySem.W.codeIn K cd5 "law" = true) (k5 : PySem.W.keepIn K (.ref f5) = true)
    (hm : ∀ ns : List Int, ns.length ≤ 63 → ∃ S', Mir.f_law [frzD (ns.map .int)] [] = .ok (.bool true) S') :
    ∃ fd : FuncData, (∀ (s : Shared) (v : Value), BindsTo s fd ⟨[v], []⟩ [("script", v)]) ∧ ∀ base : Heap, K.In base → base.Ns mainGlobals mg → L2.FnOk l.prog w K mg base (L2.CX l.prog w) 5 fa fd ["script"] (Bc.spLaw K) := by
  have e := hfa.symm.trans (PySem.W.mg_of X G a5)
  cases e
  have F5 := L2.fun_mk (st := Der.s_law) l5 c5 k5
  exact ⟨PySem.W.fnOf "law" "law" (L2.defArgs Der.s_law) (L2.defBody Der.s_law) (L2.defScope Der.s_law) .none kV5 dc5 pm5 an5 cd5 ct5, fun s v => .of_eq rfl, fun base _ _ => law_imp (fnok_of F5 Der.sc_law (by decide) (Der.db_law T)) hm⟩
set_option maxRecDepth 100000 in
set_option maxHeartbeats 0 in
theorem PySem.Challenge.cw_beatchips_k42_whole_totals_holds : PySem.Challenge.rw_beatchips_k42_whole_totals.Holds := by
  w_on; o_law; k_head; (case hw => w_witness2)
  k_fill
  refine Bc.walk_ofX (l := PySem.Challenge.rw_beatchips_k42_whole_totals) (n := 63) (k := 5) (x := "script") rfl (by decide) rfl ⟨rfl, by decide, by decide⟩ (fun w h Y => PySem.W.kIn_of Y) ?F rfl
  case F =>
    intro w mg fa h KX G XV hmg
    refine' Der.all_mk KX G hmg (Der.Txt.mk (PySem.W.mg_none_of KX G ?z_abs) (PySem.W.mg_none_of KX G ?z_all) (PySem.W.mg_none_of KX G ?z_bool) (PySem.W.mg_none_of KX G ?z_int) (PySem.W.mg_none_of KX G ?z_isinstance) (PySem.W.mg_none_of KX G ?z_len) (PySem.W.mg_none_of KX G ?z_list) (PySem.W.mg_none_of KX G ?z_max) (PySem.W.mg_none_of KX G ?z_min) (PySem.W.mg_none_of KX G ?z_range) (PySem.W.mg_none_of KX G ?z_sorted) (PySem.W.mg_none_of KX G ?z_sum) (gint_mk KX G ?z_MOST_PERIODS) (gint_mk KX G ?z_MOST_READS) (loose_int XV (by first | exact List.mem_cons_self | decide +kernel)) (loose_int XV (by first | exact List.mem_cons_self | decide +kernel)) (gint_mk KX G ?z_MOST_TOP) (exc_mk KX G ?a_BadNumber ?q_BadNumber ?k_BadNumber ?b_BadNumber ?t_BadNumber) (exc_mk KX G ?a_BadReads ?q_BadReads ?k_BadReads ?b_BadReads ?t_BadReads) (def_mk (st := Der.s__law_cell) KX G ?a__law_cell ?l__law_cell ?c__law_cell ?k__law_cell (fun _ _ _ _ _ _ us hl => match us, hl with | [_, _], _ => rfl)) (def_mk (st := Der.s__law_mix) KX G ?a__law_mix ?l__law_mix ?c__law_mix ?k__law_mix (fun _ _ _ _ _ _ us hl => match us, hl with | [_, _], _ => rfl)) (def_mk (st := Der.s__law_draw) KX G ?a__law_draw ?l__law_draw ?c__law_draw ?k__law_draw (fun _ _ _ _ _ _ us hl => match us, hl with | [_, _, _], _ => rfl)) (def_mk (st := Der.s_is_whole) KX G ?a_is_whole ?l_is_whole ?c_is_whole ?k_is_whole (fun _ _ _ _ _ _ us hl => match us, hl with | [_, _, _], _ => rfl)) (def_mk (st := Der.s_look_reads) KX G ?a_look_reads ?l_look_reads ?c_look_reads ?k_look_reads (fun _ _ _ _ _ _ us hl => match us, hl with | [_, _], _ => rfl)) (def_mk (st := Der.s_fitting) KX G ?a_fitting ?l_fitting ?c_fitting ?k_fitting (fun _ _ _ _ _ _ us hl => match us, hl with | [_, _, _, _], _ => rfl)) (def_mk (st := Der.s_sure_totals) KX G ?a_sure_totals ?l_sure_totals ?c_sure_totals ?k_sure_totals (fun _ _ _ _ _ _ us hl => match us, hl with | [_, _, _, _], _ => rfl)) (def_mk (st := Der.s_evened) KX G ?a_evened ?l_evened ?c_evened ?k_evened (fun _ _ _ _ _ _ us hl => match us, hl with | [_, _, _], _ => rfl)) (def_mk (st := Der.s_drift) KX G ?a_drift ?l_drift ?c_drift ?k_drift (fun _ _ _ _ _ _ us hl => match us, hl with | [_, _, _], _ => rfl)) (def_mk (st := Der.s__law_pick) KX G ?a__law_pick ?l__law_pick ?c__law_pick ?k__law_pick (fun _ _ _ _ _ _ us hl => match us, hl with | [_, _, _], _ => rfl)) (def_mk (st := Der.s__law_sure) KX G ?a__law_sure ?l__law_sure ?c__law_sure ?k__law_sure (fun _ _ _ _ _ _ us hl => match us, hl with | [_, _, _, _], _ => rfl)) (def_mk (st := Der.s_totals) KX G ?a_totals ?l_totals ?c_totals ?k_totals (fun _ _ _ _ _ _ us hl => match us, hl with | [_, _], _ => rfl))) ?a5 ?l5 ?c5 ?k5 law_ok
    (case z_abs => k_is)
    (case z_all => k_is)
    (case z_bool => k_is)
    (case z_int => k_is)
    (case z_isinstance => k_is)
    (case z_len => k_is)
    (case z_list => k_is)
    (case z_max => k_is)
    (case z_min => k_is)
    (case z_range => k_is)
    (case z_sorted => k_is)
    (case z_sum => k_is)
    (case z_MOST_PERIODS => k_is)
    (case z_MOST_READS => k_is)
    (case z_MOST_TOP => k_is)
    (case a_BadNumber => k_is)
    (case q_BadNumber => k_exc)
    (case k_BadNumber => k_is)
    (case b_BadNumber => k_is)
    (case t_BadNumber => k_is)
    (case a_BadReads => k_is)
    (case q_BadReads => k_exc)
    (case k_BadReads => k_is)
    (case b_BadReads => k_is)
    (case t_BadReads => k_is)
    (case a__law_cell => k_is)
    (case l__law_cell => k_is)
    (case c__law_cell => k_is)
    (case k__law_cell => k_is)
    (case a__law_mix => k_is)
    (case l__law_mix => k_is)
    (case c__law_mix => k_is)
    (case k__law_mix => k_is)
    (case a__law_draw => k_is)
    (case l__law_draw => k_is)
    (case c__law_draw => k_is)
    (case k__law_draw => k_is)
    (case a_is_whole => k_is)
    (case l_is_whole => k_is)
    (case c_is_whole => k_is)
    (case k_is_whole => k_is)
    (case a_look_reads => k_is)
    (case l_look_reads => k_is)
    (case c_look_reads => k_is)
    (case k_look_reads => k_is)
    (case a_fitting => k_is)
    (case l_fitting => k_is)
    (case c_fitting => k_is)
    (case k_fitting => k_is)
    (case a_sure_totals => k_is)
    (case l_sure_totals => k_is)
    (case c_sure_totals => k_is)
    (case k_sure_totals => k_is)
    (case a_evened => k_is)
    (case l_evened => k_is)
    (case c_evened => k_is)
    (case k_evened => k_is)
    (case a_drift => k_is)
    (case l_drift => k_is)
    (case c_drift => k_is)
    (case k_drift => k_is)
    (case a__law_pick => k_is)
    (case l__law_pick => k_is)
    (case c__law_pick => k_is)
    (case k__law_pick => k_is)
    (case a__law_sure => k_is)
    (case l__law_sure => k_is)
    (case c__law_sure => k_is)
    (case k__law_sure => k_is)
    (case a_totals => k_is)
    (case l_totals => k_is)
    (case c_totals => k_is)
    (case k_totals => k_is)
    (case a5 => k_is)
    (case l5 => k_is)
    (case c5 => k_is)
    (case k5 => k_is)
