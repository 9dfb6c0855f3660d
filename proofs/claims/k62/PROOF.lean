import PyProof.Rows.All
import Wide.All
import OpenK.AllK
import Wide.FinOn
import HandS.Exc
import HandS.Lambda
import KE.KLam
import HandS.ForMost
import HandS.Evl
import HandS.IsInst
import HandS.Conv
import HandS.TupAny
import HandS.TupMul
import HandS.Deep
import HandS.Flt
import HandS.Style
import HandS.ExcInit
import HandS.ExcIs
import HandS.ExcField
import HandS.WordsExc
import KE.KExcSuper
import KE.KExcIs
import HandS.SetFor
import KE.KNestM
import HandS.Walk
import HandS.Zip
import HandS.MakeKwOnly
import PySem.Challenge.RW_staytrue_k62_costs_refused
section
set_option Elab.async false
set_option linter.all false
set_option maxRecDepth 100000
set_option maxHeartbeats 2000000
/-! An exception that was raised and caught, as a tracked thing. -/
namespace Z
open PySem L2
/-- at a: an exception of the class at C that was raised; its dict at d -/
def exoX (a C d : Addr) : HO := .ext fun h => ∃ (o : Obj) (vs : Array Value), h.get? a = some o ∧ o.cls = .ref C ∧ o.dict = some d ∧ o.data = .fields vs
theorem exoX_ok {P : Program} {w : World} {H : Hp} {h : Heap} {a C d : Addr} {o : Obj} {vs : Array Value} (e : h.get? a = some o) (hz : Zc (.ref C) (some d) o) (hd : o.data = .fields vs) : ObjOk P w H h a (exoX a C d) :=
  ⟨⟨o, vs, e, hz.1, hz.2, hd⟩, ⟨o, e⟩, fun h1 h2 ⟨o', vs', z1, z2, z3, z4⟩ k => ⟨o', vs', k _ z1, z2, z3, z4⟩⟩
theorem exoX_at {P : Program} {w : World} {H : Hp} {h : Heap} {a C d : Addr} (x : HOk P w H h) (e : H a = some (exoX a C d)) : ∃ (o : Obj) (vs : Array Value), h.get? a = some o ∧ o.cls = .ref C ∧ o.dict = some d ∧ o.data = .fields vs := by
  have z : ObjOk P w H h a (.ext fun h => ∃ (o : Obj) (vs : Array Value), h.get? a = some o ∧ o.cls = .ref C ∧ o.dict = some d ∧ o.data = .fields vs) := x a _ e
  exact z.1
end Z
end
section
set_option Elab.async false
set_option linter.all false
set_option maxRecDepth 100000
set_option maxHeartbeats 2000000
/-! Z: data by value. A judgement ties a reading of the hand layer to a plain function on data. -/
namespace Z
open PySem L2
open Evl (Ex)

/-- data: a value with all that it leads to -/
inductive D where
  | non | bl (b : Bool) | int (i : Int) | str (x : Str)
  | tup (ds : List D) | lst (ds : List D)
  | dic (ks : List Key) (ds : List D)
  | ins (c : Str) (ks : List Str) (ds : List D)
  | ty (n : String)
  | pen
  | exc (c : Str) (ks : List Str) (ds : List D)

/-- what stays through a whole law: the written part, where the pen and its cells stand, where the classes stand -/
structure Par where
  K : PySem.W.Frag
  pa : Addr
  ca : Addr
  cl : Str → Addr
  T : List (Addr × Str)
/-- what may change under the hand of others: the pen, the tables of code objects -/
def Par.hot (P : Par) (a : Addr) : Prop := a = P.pa ∨ ∃ q, (a, q) ∈ P.T

mutual
def Rv (P : Par) (H : Hp) : D → V → Prop
  | .non, v => v = .non
  | .bl b, v => v = .bl b
  | .int i, v => v = .int i
  | .str x, v => v = .str x
  | .tup ds, v => ∃ a vs, v = .ref a ∧ SqT P.K H a vs ∧ Rvs P H ds vs
  | .lst ds, v => ∃ a vs, v = .ref a ∧ H a = some (.lst vs) ∧ Rvs P H ds vs
  | .dic ks ds, v => ∃ a kvs, v = .ref a ∧ H a = some (.dK kvs) ∧ kvs.map (·.1) = ks ∧ Rvs P H ds (kvs.map (·.2))
  | .ins c ks ds, v => ∃ a dx fs, v = .ref a ∧ H a = some (.ins (P.cl c) dx fs) ∧ fs.map (·.1) = ks ∧ Rvs P H ds (fs.map (·.2))
  | .ty n, v => v = .ty n
  | .pen, v => v = .ref P.pa
  | .exc c ks ds, v => ∃ a dd vs, v = .ref a ∧ H a = some (exoX a (P.cl c) dd) ∧ H dd = some (.xd (ks.zip vs)) ∧ ks.length = vs.length ∧ Rvs P H ds vs
def Rvs (P : Par) (H : Hp) : List D → List V → Prop
  | [], vs => vs = []
  | d :: ds, vs => ∃ v r, vs = v :: r ∧ Rv P H d v ∧ Rvs P H ds r
end

section
variable {P : Par} {H H' : Hp}
theorem sqt_ex {K : PySem.W.Frag} {a : Addr} {xs : List V} (e : Ex H H') (h : SqT K H a xs) : SqT K H' a xs := Evl.ex_t e h
mutual
theorem Rv.ex (e : Ex H H') : ∀ (d : D) (v : V), Rv P H d v → Rv P H' d v
  | .non, _, h => h
  | .bl _, _, h => h
  | .int _, _, h => h
  | .str _, _, h => h
  | .tup ds, _, ⟨a, vs, h1, h2, h3⟩ => ⟨a, vs, h1, sqt_ex e h2, Rvs.ex e ds vs h3⟩
  | .lst ds, _, ⟨a, vs, h1, h2, h3⟩ => ⟨a, vs, h1, e _ _ h2, Rvs.ex e ds vs h3⟩
  | .dic _ ds, _, ⟨a, kvs, h1, h2, h3, h4⟩ => ⟨a, kvs, h1, e _ _ h2, h3, Rvs.ex e ds _ h4⟩
  | .ins _ _ ds, _, ⟨a, dx, fs, h1, h2, h3, h4⟩ => ⟨a, dx, fs, h1, e _ _ h2, h3, Rvs.ex e ds _ h4⟩
  | .ty _, _, h => h
  | .pen, _, h => h
  | .exc _ _ ds, _, ⟨a, dd, vs, h1, h2, h3, h4, h5⟩ => ⟨a, dd, vs, h1, e _ _ h2, e _ _ h3, h4, Rvs.ex e ds vs h5⟩
theorem Rvs.ex (e : Ex H H') : ∀ (ds : List D) (vs : List V), Rvs P H ds vs → Rvs P H' ds vs
  | [], _, h => h
  | d :: ds, _, ⟨v, r, h1, h2, h3⟩ => ⟨v, r, h1, Rv.ex e d v h2, Rvs.ex e ds r h3⟩
end
theorem Rvs.len : ∀ {ds : List D} {vs : List V}, Rvs P H ds vs → vs.length = ds.length
  | [], _, h => by rw [show _ = _ from h]; rfl
  | d :: ds, _, ⟨v, r, h1, h2, h3⟩ => by rw [h1, List.length_cons, List.length_cons, Rvs.len h3]
theorem Rvs.get : ∀ {ds : List D} {vs : List V} {i : Nat} {d : D}, Rvs P H ds vs → ds[i]? = some d → ∃ v, vs[i]? = some v ∧ Rv P H d v
  | [], _, _, _, _, e => by simp at e
  | d :: ds, _, 0, d', ⟨v, r, h1, h2, h3⟩, e => by
    have : d = d' := by simpa using e
    subst this
    exact ⟨v, by rw [h1]; rfl, h2⟩
  | d :: ds, _, i + 1, d', ⟨v, r, h1, h2, h3⟩, e => by
    obtain ⟨u, a, b⟩ := Rvs.get (i := i) h3 (by simpa using e)
    exact ⟨u, by rw [h1]; simpa using a, b⟩
theorem Rvs.getv : ∀ {ds : List D} {vs : List V} {i : Nat} {v : V}, Rvs P H ds vs → vs[i]? = some v → ∃ d, ds[i]? = some d ∧ Rv P H d v
  | [], _, _, _, h, e => by rw [show _ = _ from h] at e; simp at e
  | d :: ds, _, 0, v', ⟨v, r, h1, h2, h3⟩, e => by
    rw [h1] at e
    have : v = v' := by simpa using e
    subst this
    exact ⟨d, rfl, h2⟩
  | d :: ds, _, i + 1, v', ⟨v, r, h1, h2, h3⟩, e => by
    rw [h1] at e
    obtain ⟨u, a, b⟩ := Rvs.getv (i := i) h3 (by simpa using e)
    exact ⟨u, by simpa using a, b⟩
theorem Rvs.app : ∀ {ds es : List D} {vs ws : List V}, Rvs P H ds vs → Rvs P H es ws → Rvs P H (ds ++ es) (vs ++ ws)
  | [], _, _, _, h, g => by rw [show _ = _ from h]; exact g
  | d :: ds, _, _, _, ⟨v, r, h1, h2, h3⟩, g => by rw [h1]; exact ⟨v, _, rfl, h2, Rvs.app h3 g⟩
theorem Rvs.one {d : D} {v : V} (h : Rv P H d v) : Rvs P H [d] [v] := ⟨v, [], rfl, h, rfl⟩
theorem Rvs.drop : ∀ {ds : List D} {vs : List V} (n : Nat), Rvs P H ds vs → Rvs P H (ds.drop n) (vs.drop n)
  | _, _, 0, h => h
  | [], _, n + 1, h => by rw [show _ = _ from h]; exact rfl
  | d :: ds, _, n + 1, ⟨v, r, h1, h2, h3⟩ => by rw [h1]; exact Rvs.drop n h3
theorem Rvs.take : ∀ {ds : List D} {vs : List V} (n : Nat), Rvs P H ds vs → Rvs P H (ds.take n) (vs.take n)
  | _, _, 0, h => rfl
  | [], _, n + 1, h => by rw [show _ = _ from h]; exact rfl
  | d :: ds, _, n + 1, ⟨v, r, h1, h2, h3⟩ => by rw [h1]; exact ⟨v, _, rfl, h2, Rvs.take n h3⟩
theorem Rvs.rep {d : D} {v : V} (h : Rv P H d v) : ∀ n, Rvs P H (List.replicate n d) (List.replicate n v)
  | 0 => rfl
  | n + 1 => ⟨v, _, rfl, h, Rvs.rep h n⟩
end

/-! ### the plain side -/
structure Pen where
  cells : List Int
  spot : Int
  rest : Int
inductive Res (α : Type) where
  | ok (a : α) (p : Pen)
  | ex (c : Str) (ks : List Str) (ds : List D) (p : Pen)
  | stuck
abbrev M (α : Type) := Pen → Res α
def M.pure {α : Type} (a : α) : M α := fun p => .ok a p
def M.no {α : Type} : M α := fun _ => .stuck
def M.bind {α β : Type} (x : M α) (f : α → M β) : M β := fun p => match x p with
  | .ok a p' => f a p'
  | .ex c ks ds p' => .ex c ks ds p'
  | .stuck => .stuck
def M.of {α : Type} : Option α → M α
  | some a => M.pure a
  | none => M.no
theorem M.bind_ok {α β : Type} {x : M α} {f : α → M β} {p p' : Pen} {b : β} (h : M.bind x f p = .ok b p') : ∃ a q, x p = .ok a q ∧ f a q = .ok b p' := by
  unfold M.bind at h
  cases e : x p with
  | ok a q => rw [e] at h; exact ⟨a, q, rfl, h⟩
  | ex c ks ds q => rw [e] at h; cases h
  | stuck => rw [e] at h; cases h
theorem M.of_ok {α : Type} {o : Option α} {p p' : Pen} {a : α} (h : M.of o p = .ok a p') : o = some a ∧ p = p' := by
  cases o with
  | none => cases h
  | some b =>
    cases h
    exact ⟨rfl, rfl⟩
@[simp] theorem M.bind_app {α β : Type} {x : M α} {f : α → M β} {p p' : Pen} {a : α} (h : x p = .ok a p') : M.bind x f p = f a p' := by
  unfold M.bind; rw [h]

/-- a slot: not known, data, a list of this call's own that grows -/
inductive SD where
  | un | im (d : D) | ow (ds : List D)
abbrev Sl := List SD

/-! ### heaps -/
def Keep (P : Par) (H H' : Hp) : Prop := ∀ a o, ¬ P.hot a → H a = some o → H' a = some o
theorem Keep.refl {P : Par} (H : Hp) : Keep P H H := fun _ _ _ h => h
theorem Keep.trans {P : Par} {H H1 H2 : Hp} (a : Keep P H H1) (b : Keep P H1 H2) : Keep P H H2 := fun c o n h => b c o n (a c o n h)
theorem Keep.ofEx {P : Par} {H H' : Hp} (e : Ex H H') : Keep P H H' := fun a o _ h => e a o h
theorem Keep.new {P : Par} {H : Hp} {p : Addr} {o : HO} (h : H p = none) : Keep P H (upd H p o) := .ofEx (Ex.new h)
/-- the heap without some places -/
noncomputable def hid (O : Addr → Prop) (H : Hp) : Hp := fun a => open Classical in if O a then none else H a
theorem fz_some {O : Addr → Prop} {H : Hp} {a : Addr} {o : HO} : hid O H a = some o ↔ ¬ O a ∧ H a = some o := by
  unfold hid
  by_cases h : O a
  · rw [if_pos h]; exact ⟨(fun z => nomatch z), fun z => absurd h z.1⟩
  · rw [if_neg h]; exact ⟨fun z => ⟨h, z⟩, fun z => z.2⟩
theorem fz_up {O : Addr → Prop} {H : Hp} : Ex (hid O H) H := fun a o h => (fz_some.mp h).2
theorem fz_less {O O' : Addr → Prop} {H : Hp} (h : ∀ a, O' a → O a) : Ex (hid O H) (hid O' H) := fun a o e => by
  obtain ⟨h1, h2⟩ := fz_some.mp e
  exact fz_some.mpr ⟨fun z => h1 (h a z), h2⟩
theorem fz_keep {P : Par} {O : Addr → Prop} {H H' : Hp} (hp : ∀ a, P.hot a → O a) (k : Keep P H H') : Ex (hid O H) (hid O H') := fun a o e => by
  obtain ⟨h1, h2⟩ := fz_some.mp e
  exact fz_some.mpr ⟨h1, k a o (fun z => h1 (hp a z)) h2⟩
def PenAt (P : Par) (H : Hp) (p : Pen) : Prop := P.ca ≠ P.pa ∧ H P.pa = some (.lst [.ref P.ca, V.int p.spot, .int p.rest]) ∧ H P.ca = some (.lst (p.cells.map .int)) ∧ LamX.Tabs P.T H

/-- where one stands: what is protected, what was so at the entry, the heap at the entry -/
structure Fr where
  O : Addr → Prop
  Ob : Addr → Prop
  H0 : Hp
structure Rel (P : Par) (C : Fr) (s : Sl) (p : Pen) (σ : L2.St) (H : Hp) : Prop where
  len : σ.length = s.length
  pa : ∀ a, P.hot a → C.Ob a
  ca : ¬ C.O P.ca
  ca0 : ∃ o, C.H0 P.ca = some o
  pen : PenAt P H p
  dom : ∀ l, C.O l → ∃ o, H l = some o
  dom0 : ∀ l, C.Ob l → ∃ o, C.H0 l = some o
  base : Keep P C.H0 H
  sub : ∀ l, C.Ob l → C.O l
  im : ∀ (i : Nat) (d : D), s[i]? = some (SD.im d) → ∃ v : V, σ[i]? = some (some v) ∧ Rv P (hid C.O H) d v
  ow : ∀ (i : Nat) (ds : List D), s[i]? = some (SD.ow ds) → ∃ (l : Addr) (vs : List V), σ[i]? = some (some (.ref l)) ∧ C.O l ∧ C.H0 l = none ∧ H l = some (.lst vs) ∧ Rvs P (hid C.O H) ds vs
  inj : ∀ (i j : Nat) (ds es : List D) (l : Addr), s[i]? = some (SD.ow ds) → s[j]? = some (SD.ow es) → σ[i]? = some (some (.ref l)) → σ[j]? = some (some (.ref l)) → i = j
section
variable {P : Par} {C : Fr} {s : Sl} {p p' : Pen} {σ : L2.St} {H H' : Hp}
theorem Rel.paO (r : Rel P C s p σ H) : ∀ a, P.hot a → C.O a := fun a h => r.sub _ (r.pa a h)
theorem Rel.nob (r : Rel P C s p σ H) {l : Addr} (h : C.H0 l = none) : ¬ C.Ob l := fun z => by
  obtain ⟨o, e⟩ := r.dom0 l z
  rw [h] at e; cases e
theorem Rel.npa (r : Rel P C s p σ H) {l : Addr} (h : C.H0 l = none) : ¬ P.hot l := fun z => r.nob h (r.pa l z)
theorem Rel.nca (r : Rel P C s p σ H) {l : Addr} (h : C.H0 l = none) : l ≠ P.ca := fun z => by
  obtain ⟨o, e⟩ := r.ca0
  rw [← z, h] at e
  cases e
theorem Rel.fz (r : Rel P C s p σ H) (k : Keep P H H') : Ex (hid C.O H) (hid C.O H') := fz_keep r.paO k
theorem Rel.keep (r : Rel P C s p σ H) (k : Keep P H H') (q : PenAt P H' p') : Rel P C s p' σ H' where
  len := r.len
  pa := r.pa
  ca := r.ca
  ca0 := r.ca0
  pen := q
  dom := fun l hl => by
    by_cases e : P.hot l
    · rcases e with e | ⟨y, e⟩
      · subst e; exact ⟨_, q.2.1⟩
      · obtain ⟨ps, z, _⟩ := q.2.2.2 _ e
        exact ⟨_, z⟩
    · obtain ⟨o, h⟩ := r.dom l hl
      exact ⟨o, k l o e h⟩
  dom0 := r.dom0
  base := r.base.trans k
  sub := r.sub
  im := fun i d h => by
    obtain ⟨v, h1, h2⟩ := r.im i d h
    exact ⟨v, h1, Rv.ex (r.fz k) d v h2⟩
  ow := fun i ds h => by
    obtain ⟨l, vs, h1, h2, h3, h4, h5⟩ := r.ow i ds h
    exact ⟨l, vs, h1, h2, h3, k l _ (r.npa h3) h4, Rvs.ex (r.fz k) ds vs h5⟩
  inj := r.inj
/-- a new object is not protected -/
theorem Rel.free (r : Rel P C s p σ H) {a : Addr} (h : H a = none) : ¬ C.O a := fun z => by
  obtain ⟨o, e⟩ := r.dom a z
  rw [h] at e; cases e
theorem PenAt.keepNew {a : Addr} {o : HO} (q : PenAt P H p) (h : H a = none) : PenAt P (upd H a o) p := by
  obtain ⟨h0, h1, h2, h3⟩ := q
  exact ⟨h0, Ex.new h _ _ h1, Ex.new h _ _ h2, h3.ext (Ex.new h)⟩
theorem PenAt.hot (q : PenAt P H p) {a : Addr} (h : P.hot a) : ∃ o, H a = some o := by
  rcases h with rfl | ⟨y, e⟩
  · exact ⟨_, q.2.1⟩
  · obtain ⟨ps, z, _⟩ := q.2.2.2 _ e
    exact ⟨_, z⟩
theorem tabs_upd {T : List (Addr × Str)} {a : Addr} {o : HO} (t : LamX.Tabs T H) (n : ∀ y, (a, y) ∉ T) (ho : ∀ c q, H c = some (LamX.CodeO c q) → c ≠ a) : LamX.Tabs T (upd H a o) := fun p hp => by
  obtain ⟨ps, h1, h2, h3⟩ := t p hp
  refine ⟨ps, by rw [upd_ne (fun z => n p.2 (by rw [← z]; exact hp))]; exact h1, h2, fun pos cv hc => ?_⟩
  obtain ⟨c, e1, e2⟩ := h3 pos cv hc
  exact ⟨c, e1, by rw [upd_ne (ho c _ e2)]; exact e2⟩
/-- a list is written that is none of these -/
theorem PenAt.upd (q : PenAt P H p) {a : Addr} {o : HO} {vs : List V} (n : ¬ P.hot a) (nc : a ≠ P.ca) (hv : H a = some (.lst vs)) : PenAt P (upd H a o) p :=
  ⟨q.1, by rw [upd_ne (fun z => n (.inl z.symm))]; exact q.2.1, by rw [upd_ne (Ne.symm nc)]; exact q.2.2.1, tabs_upd q.2.2.2 (fun y z => n (.inr ⟨y, z⟩)) fun c q e z => by
    rw [z, hv] at e
    cases e⟩
/-- the pen is written -/
theorem PenAt.put (q : PenAt P H p) (m k : Int) : PenAt P (L2.upd H P.pa (.lst [.ref P.ca, .int m, .int k])) ⟨p.cells, m, k⟩ :=
  ⟨q.1, upd_same, by rw [upd_ne q.1]; exact q.2.2.1, tabs_upd q.2.2.2 (fun y z => by
    obtain ⟨ps, h, _⟩ := q.2.2.2 _ z
    rw [q.2.1] at h
    cases h) fun c y e z => by
    rw [z, q.2.1] at e
    cases e⟩
theorem PenAt.ex (q : PenAt P H p) (e : Ex H H') : PenAt P H' p := ⟨q.1, e _ _ q.2.1, e _ _ q.2.2.1, q.2.2.2.ext e⟩
end

/-! ### judgements -/
def PostE (P : Par) (C : Fr) (H : Hp) (d : D) (p' : Pen) (Q : VK) : Prop := ∀ v H', Keep P H H' → PenAt P H' p' → Rv P (hid C.O H') d v → Q v H'
def PostA (P : Par) (C : Fr) (H : Hp) (ds : List D) (p' : Pen) (Q : List V → Hp → Prop) : Prop := ∀ vs H', Keep P H H' → PenAt P H' p' → Rvs P (hid C.O H') ds vs → Q vs H'
def PostT (P : Par) (C : Fr) (H : Hp) (b : Bool) (p' : Pen) (Q : Bool → Hp → Prop) : Prop := ∀ H', Keep P H H' → PenAt P H' p' → Q b H'
def JE (P : Par) (te : TE) (f : Sl → M D) : Prop := ∀ C s p σ H, Rel P C s p σ H → ∀ d p', f s p = .ok d p' → ∀ Q : VK, PostE P C H d p' Q → te σ H Q
def JA (P : Par) (ta : TA) (f : Sl → M (List D)) : Prop := ∀ C s p σ H, Rel P C s p σ H → ∀ ds p', f s p = .ok ds p' → ∀ Q, PostA P C H ds p' Q → ta σ H Q
def JT (P : Par) (tt : TT) (f : Sl → M Bool) : Prop := ∀ C s p σ H, Rel P C s p σ H → ∀ b p', f s p = .ok b p' → ∀ Q, PostT P C H b p' Q → tt σ H Q
inductive Out where
  | nx | rt (d : D) | bk | ct
/-- what holds where a statement ends -/
structure Go (P : Par) (C C' : Fr) (H H' : Hp) : Prop where
  h0 : C'.H0 = C.H0
  ob : C'.Ob = C.Ob
  fz : Ex (hid C.O H) (hid C'.O H')
def Lands (P : Par) (C : Fr) (H : Hp) (o : Out) (s' : Sl) (p' : Pen) (E : Ends) : Prop := match o with
  | .nx => ∀ C' σ' H', Rel P C' s' p' σ' H' → Go P C C' H H' → E.nx σ' H'
  | .rt d => ∀ v H', Keep P C.H0 H' → PenAt P H' p' → Rv P (hid C.Ob H') d v → E.rt v H'
  | .bk => ∀ C' σ' H', Rel P C' s' p' σ' H' → Go P C C' H H' → E.bk σ' H'
  | .ct => ∀ C' σ' H', Rel P C' s' p' σ' H' → Go P C C' H H' → E.ct σ' H'
def JS (P : Par) (ts : TS) (g : Sl → M (Out × Sl)) : Prop := ∀ C s p σ H, Rel P C s p σ H → ∀ o s' p', g s p = .ok (o, s') p' → ∀ E : Ends, Lands P C H o s' p' E → ts E σ H
/-- targets: the slots js alone are changed -/
def Off (js : List Nat) (σ σ' : L2.St) : Prop := σ'.length = σ.length ∧ ∀ i, i ∉ js → σ'[i]? = σ[i]?
def JG (P : Par) (tg : TG) (js : List Nat) (f : D → Sl → Option Sl) : Prop := ∀ C s p σ H, Rel P C s p σ H → ∀ d v, Rv P (hid C.O H) d v → ∀ s', f d s = some s' → ∀ Q : L2.St → Hp → Prop, (∀ σ', Rel P C s' p σ' H → Off js σ σ' → Q σ' H) → tg v σ H Q
def JGs (P : Par) (tg : TGs) (js : List Nat) (f : List D → Sl → Option Sl) : Prop := ∀ C s p σ H, Rel P C s p σ H → ∀ ds vs, Rvs P (hid C.O H) ds vs → ∀ s', f ds s = some s' → ∀ Q : L2.St → Hp → Prop, (∀ σ', Rel P C s' p σ' H → Off js σ σ' → Q σ' H) → tg vs σ H Q
/-- an operation on two values; a call on values -/
def JR (P : Par) (r : R2) (g : D → D → Option D) : Prop := ∀ (O : Addr → Prop) (H : Hp) x y dx dy, (∀ a, P.hot a → O a) → (∀ l, O l → ∃ o, H l = some o) → Rv P (hid O H) dx x → Rv P (hid O H) dy y → ∀ d, g dx dy = some d → ∀ Q : VK, (∀ v H', Ex H H' → Rv P (hid O H') d v → Q v H') → r x y H Q
def JC (P : Par) (r : List V → Hp → VK → Prop) (g : List D → Option D) : Prop := ∀ (O : Addr → Prop) (H : Hp) xs ds, (∀ a, P.hot a → O a) → (∀ l, O l → ∃ o, H l = some o) → Rvs P (hid O H) ds xs → ∀ d, g ds = some d → ∀ Q : VK, (∀ v H', Ex H H' → Rv P (hid O H') d v → Q v H') → r xs H Q

section
variable {P : Par} {ta tb te tc : TE} {fa fb fc : Sl → M D}
/-! ### expressions -/
def eVar (i : Nat) : Sl → M D := fun s => match s[i]? with
  | some (.im d) => M.pure d
  | _ => M.no
theorem j_var (i : Nat) : JE P (tVar i) (eVar i) := fun C s p σ H r d p' h Q q => by
  unfold eVar at h
  cases e : s[i]? with
  | none => rw [e] at h; cases h
  | some z =>
    rw [e] at h
    cases z with
    | un => cases h
    | ow _ => cases h
    | im d' =>
      cases h
      obtain ⟨v, h1, h2⟩ := r.im i _ e
      exact ⟨v, h1, q v H (.refl H) r.pen h2⟩
def eC (d : D) : Sl → M D := fun _ => M.pure d
theorem j_c {d : D} {v : V} (h : ∀ H, Rv P H d v) : JE P (tC v) (eC d) := fun C s p σ H r d p' e Q q => by
  cases e
  exact q v H (.refl H) r.pen (h _)
theorem j_int {i : Int} : JE P (tC (.int i)) (eC (.int i)) := j_c fun _ => rfl
theorem j_bl {b : Bool} : JE P (tC (.bl b)) (eC (.bl b)) := j_c fun _ => rfl
theorem j_non : JE P (tC .non) (eC .non) := j_c fun _ => rfl
theorem j_str {x : Str} : JE P (tC (.str x)) (eC (.str x)) := j_c fun _ => rfl
def eOp (g : D → D → Option D) (fa fb : Sl → M D) : Sl → M D := fun s => (fa s).bind fun x => (fb s).bind fun y => M.of (g x y)
theorem j_op {r : R2} {g : D → D → Option D} (hr : JR P r g) (ha : JE P ta fa) (hb : JE P tb fb) : JE P (tOp r ta tb) (eOp g fa fb) := fun C s p σ H rl d p' h Q q => by
  obtain ⟨x, p1, h1, h⟩ := M.bind_ok h
  obtain ⟨y, p2, h2, h⟩ := M.bind_ok h
  obtain ⟨h3, rfl⟩ := M.of_ok h
  refine ha C s p σ H rl x p1 h1 _ fun v1 H1 k1 q1 r1 => ?_
  have rl1 := rl.keep k1 q1
  refine hb C s p1 σ H1 rl1 y p2 h2 _ fun v2 H2 k2 q2 r2 => ?_
  have rl2 := rl1.keep k2 q2
  refine hr C.O H2 v1 v2 x y rl.paO rl2.dom (Rv.ex (rl1.fz k2) x v1 r1) r2 d h3 Q fun v H3 e3 r3 => ?_
  exact q v H3 ((k1.trans k2).trans (.ofEx e3)) (q2.ex e3) r3
/-! arguments -/
def aNil : Sl → M (List D) := fun _ => M.pure []
def aCons (f : Sl → M D) (g : Sl → M (List D)) : Sl → M (List D) := fun s => (f s).bind fun x => (g s).bind fun xs => M.pure (x :: xs)
theorem ja_nil : JA P tNil aNil := fun C s p σ H r d p' h Q q => by
  cases h
  exact q [] H (.refl H) r.pen rfl
theorem ja_cons {tr : TA} {g : Sl → M (List D)} (ha : JE P ta fa) (hr : JA P tr g) : JA P (tCons ta tr) (aCons fa g) := fun C s p σ H rl ds p' h Q q => by
  obtain ⟨x, p1, h1, h⟩ := M.bind_ok h
  obtain ⟨xs, p2, h2, h⟩ := M.bind_ok h
  cases h
  refine ha C s p σ H rl x p1 h1 _ fun v1 H1 k1 q1 r1 => ?_
  have rl1 := rl.keep k1 q1
  refine hr C s p1 σ H1 rl1 xs _ h2 _ fun vs H2 k2 q2 r2 => ?_
  exact q _ H2 (k1.trans k2) q2 ⟨v1, vs, rfl, Rv.ex (rl1.fz k2) x v1 r1, r2⟩
def sz (n : Nat) : Bool := decide (n ≤ 100000)
theorem sz_ok {n : Nat} (h : sz n = true) : n ≤ sizeLine := Evl.sz_of (of_decide_eq_true h)
def eTup (f : Sl → M (List D)) : Sl → M D := fun s => (f s).bind fun ds => if sz ds.length = true then M.pure (.tup ds) else M.no
def eLst (f : Sl → M (List D)) : Sl → M D := fun s => (f s).bind fun ds => if sz ds.length = true then M.pure (.lst ds) else M.no
theorem fz_new {O : Addr → Prop} {H : Hp} {a : Addr} {o : HO} (hd : ∀ l, O l → ∃ o, H l = some o) (h : H a = none) : hid O (upd H a o) a = some o := by
  refine fz_some.mpr ⟨fun z => ?_, upd_same⟩
  obtain ⟨o, e⟩ := hd a z
  rw [h] at e
  cases e
theorem fz_ex {O : Addr → Prop} {H H' : Hp} (e : Ex H H') : Ex (hid O H) (hid O H') := fun a o h => by
  obtain ⟨h1, h2⟩ := fz_some.mp h
  exact fz_some.mpr ⟨h1, e a o h2⟩
theorem j_tup {t : TA} {f : Sl → M (List D)} (h : JA P t f) : JE P (tTup t) (eTup f) := fun C s p σ H rl d p' e Q q => by
  obtain ⟨ds, p1, h1, e⟩ := M.bind_ok e
  split at e
  · rename_i hz
    cases e
    refine h C s p σ H rl ds _ h1 _ fun vs H1 k1 q1 r1 => ⟨by rw [r1.len]; exact sz_ok hz, fun a ha => ?_⟩
    have rl1 := rl.keep k1 q1
    exact q _ _ (k1.trans (.new ha)) (q1.keepNew ha) ⟨a, vs, rfl, .inl (.inl (fz_new rl1.dom ha)), Rvs.ex (fz_ex (Ex.new ha)) ds vs r1⟩
  · cases e
theorem j_lst {t : TA} {f : Sl → M (List D)} (h : JA P t f) : JE P (tLst t) (eLst f) := fun C s p σ H rl d p' e Q q => by
  obtain ⟨ds, p1, h1, e⟩ := M.bind_ok e
  split at e
  · rename_i hz
    cases e
    refine h C s p σ H rl ds _ h1 _ fun vs H1 k1 q1 r1 => ⟨by rw [r1.len]; exact sz_ok hz, fun a ha => ?_⟩
    have rl1 := rl.keep k1 q1
    exact q _ _ (k1.trans (.new ha)) (q1.keepNew ha) ⟨a, vs, rfl, fz_new rl1.dom ha, Rvs.ex (fz_ex (Ex.new ha)) ds vs r1⟩
  · cases e
def eCall (g : List D → Option D) (f : Sl → M (List D)) : Sl → M D := fun s => (f s).bind fun ds => M.of (g ds)
theorem j_cb {t : TA} {f : Sl → M (List D)} {r : List V → Hp → VK → Prop} {g : List D → Option D} (hr : JC P r g) (h : JA P t f) : JE P (tCB r t) (eCall g f) := fun C s p σ H rl d p' e Q q => by
  obtain ⟨ds, p1, h1, e⟩ := M.bind_ok e
  obtain ⟨h3, rfl⟩ := M.of_ok e
  refine h C s p σ H rl ds _ h1 _ fun vs H1 k1 q1 r1 => ?_
  have rl1 := rl.keep k1 q1
  exact hr C.O H1 vs ds rl.paO rl1.dom r1 d h3 Q fun v H2 e2 r2 => q v H2 (k1.trans (.ofEx e2)) (q1.ex e2) r2
end

/-! ### own defs -/
def spM (K : PySem.W.Frag) (cl : Str → Addr) (n : Nat) (m : List D → M D) : Sp := fun vs H Q _ => ∃ (P : Par), P.K = K ∧ P.cl = cl ∧ ∃ (O : Addr → Prop) (ds : List D) (p : Pen) (d : D) (p' : Pen), ds.length = n ∧ (∀ a, P.hot a → O a) ∧ ¬ O P.ca ∧ (∀ l, O l → ∃ o, H l = some o) ∧ PenAt P H p ∧ Rvs P (hid O H) ds vs ∧
  m ds p = .ok d p' ∧ ∀ v H', Keep P H H' → PenAt P H' p' → Rv P (hid O H') d v → Q v H'
theorem spM.len {K : PySem.W.Frag} {cl : Str → Addr} {n : Nat} {m : List D → M D} {vs : List V} {H : Hp} {Q : VK} {E : XK} (h : spM K cl n m vs H Q E) : vs.length = n := by
  obtain ⟨P, _, _, O, ds, p, d, p', hn, _, _, _, _, r, _⟩ := h
  rw [r.len, hn]
def eOwn (n : Nat) (m : List D → M D) (f : Sl → M (List D)) : Sl → M D := fun s => (f s).bind fun ds => if ds.length = n then m ds else M.no
section
variable {P : Par}
theorem j_own {n : Nat} {m : List D → M D} {E : XK} {t : TA} {f : Sl → M (List D)} (h : JA P t f) : JE P (tCall (spM P.K P.cl n m) [] E t) (eOwn n m f) := fun C s p σ H rl d p' e Q q => by
  obtain ⟨ds, p1, h1, e⟩ := M.bind_ok e
  split at e
  · rename_i hn
    refine h C s p σ H rl ds _ h1 _ fun vs H1 k1 q1 r1 => ?_
    have rl1 := rl.keep k1 q1
    show spM P.K P.cl n m (vs ++ []) H1 Q E
    rw [List.append_nil]
    exact ⟨P, rfl, rfl, C.O, ds, p1, d, p', hn, rl.paO, rl.ca, rl1.dom, q1, r1, e, fun v H2 k2 q2 r2 => q v H2 (k1.trans k2) q2 r2⟩
  · cases e
end
def bodyM (N : Nat) (g : Sl → M (Out × Sl)) : List D → M D := fun ds => (g (ds.map SD.im ++ List.replicate (N - ds.length) .un)).bind fun r => match r.1 with
  | .nx => M.pure .non
  | .rt d => M.pure d
  | _ => M.no
theorem start_rel {P : Par} {N : List Str} {O : Addr → Prop} {ds : List D} {vs : List V} {p : Pen} {H : Hp} (hO : ∀ a, P.hot a → O a) (hc : ¬ O P.ca) (hdom : ∀ l, O l → ∃ o, H l = some o) (hp : PenAt P H p) (r : Rvs P (hid O H) ds vs) :
    Rel P ⟨O, O, H⟩ (ds.map SD.im ++ List.replicate (N.length - ds.length) .un) p (L2.start N vs) H := by
  have hl := r.len
  exact
    { len := by unfold L2.start; simp [hl]
      pa := hO, ca := hc, ca0 := ⟨_, hp.2.2.1⟩, pen := hp, dom := hdom, dom0 := hdom, base := .refl H, sub := fun _ h => h
      im := fun i e hi => by
        unfold L2.start
        by_cases hlt : i < ds.length
        · rw [List.getElem?_append_left (by simpa using hlt)] at hi
          rw [List.getElem?_append_left (by simpa [hl] using hlt)]
          have hi' : ds[i]? = some e := by
            rw [List.getElem?_map] at hi
            cases hq : ds[i]? with
            | none => rw [hq] at hi; cases hi
            | some z => rw [hq] at hi; simp at hi; rw [hi]
          obtain ⟨v, hv, rv⟩ := r.get hi'
          exact ⟨v, by rw [List.getElem?_map, hv]; rfl, rv⟩
        · rw [List.getElem?_append_right (by simpa using hlt)] at hi
          rw [List.getElem?_replicate] at hi
          split at hi <;> simp at hi
      ow := fun i e hi => by
        by_cases hlt : i < ds.length
        · rw [List.getElem?_append_left (by simpa using hlt), List.getElem?_map] at hi
          cases hq : ds[i]? <;> rw [hq] at hi <;> simp at hi
        · rw [List.getElem?_append_right (by simpa using hlt), List.getElem?_replicate] at hi
          split at hi <;> simp at hi
      inj := fun i j e e' l hi => by
        by_cases hlt : i < ds.length
        · rw [List.getElem?_append_left (by simpa using hlt), List.getElem?_map] at hi
          cases hq : ds[i]? <;> rw [hq] at hi <;> simp at hi
        · rw [List.getElem?_append_right (by simpa using hlt), List.getElem?_replicate] at hi
          split at hi <;> simp at hi }
theorem body_ok {K : PySem.W.Frag} {cl : Str → Addr} {N : List Str} {n : Nat} {g : Sl → M (Out × Sl)} {ts : TS} (h : ∀ pa ca tt, JS ⟨K, pa, ca, cl, tt⟩ ts g) {vs : List V} {H : Hp} {Q : VK} {E : XK} (sp : spM K cl n (bodyM N.length g) vs H Q E) : ts { nx := fun _ H' => Q .non H', rt := Q } (L2.start N vs) H := by
  obtain ⟨P, rfl, rfl, O, ds, p, d, p', hd, hO, hc, hdom, hp, r, hm, q⟩ := sp
  obtain ⟨⟨o, s'⟩, p1, h1, h2⟩ := M.bind_ok hm
  have r0 := start_rel (N := N) hO hc hdom hp r
  refine h P.pa P.ca P.T ⟨O, O, H⟩ _ p _ H r0 o s' p1 h1 _ ?_
  cases o with
  | nx =>
    intro C' σ' H' r1 g1
    cases h2
    refine q .non H' ?_ r1.pen rfl
    have := r1.base
    rw [g1.h0] at this
    exact this
  | rt e =>
    intro v H' k pn rv
    cases h2
    exact q v H' k pn rv
  | bk => cases h2
  | ct => cases h2
end Z
end
section
set_option Elab.async false
set_option linter.all false
set_option maxRecDepth 100000
set_option maxHeartbeats 2000000
namespace Z
open PySem L2
open Evl (Ex)
section
variable {P : Par} {ta tb te tc : TE} {fa fb fc : Sl → M D} {tt tu : TT} {ft fu : Sl → M Bool}
/-! ### tests -/
def asB : D → Option Bool
  | .bl b => some b
  | _ => none
theorem asB_ok {d : D} {b : Bool} (h : asB d = some b) : d = .bl b := by
  cases d <;> cases h <;> rfl
def bTest (f : Sl → M D) : Sl → M Bool := fun s => (f s).bind fun d => M.of (asB d)
theorem jt_test (h : JE P te fa) : JT P (tTest te) (bTest fa) := fun C s p σ H r b p' e Q q => by
  obtain ⟨d, p1, h1, e⟩ := M.bind_ok e
  obtain ⟨h2, rfl⟩ := M.of_ok e
  have := asB_ok h2
  subst this
  exact h C s p σ H r _ _ h1 _ fun v H1 k1 q1 r1 => ⟨b, r1, q H1 k1 q1⟩
theorem jt_val (h : JE P te fa) : JT P (tB te) (bTest fa) := fun C s p σ H r b p' e Q q => by
  obtain ⟨d, p1, h1, e⟩ := M.bind_ok e
  obtain ⟨h2, rfl⟩ := M.of_ok e
  have := asB_ok h2
  subst this
  exact h C s p σ H r _ _ h1 _ fun v H1 k1 q1 r1 => ⟨b, r1, q H1 k1 q1⟩
def bAnd (f g : Sl → M Bool) : Sl → M Bool := fun s => (f s).bind fun b => if b = true then g s else M.pure false
def bOr (f g : Sl → M Bool) : Sl → M Bool := fun s => (f s).bind fun b => if b = true then M.pure true else g s
def bNot (f : Sl → M Bool) : Sl → M Bool := fun s => (f s).bind fun b => M.pure (!b)
theorem jt_and (h : JT P tt ft) (g : JT P tu fu) : JT P (tAnd tt tu) (bAnd ft fu) := fun C s p σ H r b p' e Q q => by
  obtain ⟨c, p1, h1, e⟩ := M.bind_ok e
  refine h C s p σ H r c p1 h1 _ fun H1 k1 q1 => ?_
  cases c with
  | true =>
    rw [if_pos rfl] at e ⊢
    exact g C s p1 σ H1 (r.keep k1 q1) b p' e Q fun H2 k2 q2 => q H2 (k1.trans k2) q2
  | false =>
    rw [if_neg Bool.false_ne_true] at e ⊢
    cases e
    exact q H1 k1 q1
theorem jt_or (h : JT P tt ft) (g : JT P tu fu) : JT P (tOr tt tu) (bOr ft fu) := fun C s p σ H r b p' e Q q => by
  obtain ⟨c, p1, h1, e⟩ := M.bind_ok e
  refine h C s p σ H r c p1 h1 _ fun H1 k1 q1 => ?_
  cases c with
  | true =>
    rw [if_pos rfl] at e ⊢
    cases e
    exact q H1 k1 q1
  | false =>
    rw [if_neg Bool.false_ne_true] at e ⊢
    exact g C s p1 σ H1 (r.keep k1 q1) b p' e Q fun H2 k2 q2 => q H2 (k1.trans k2) q2
theorem jt_not (h : JT P tt ft) : JT P (tNot tt) (bNot ft) := fun C s p σ H r b p' e Q q => by
  obtain ⟨c, p1, h1, e⟩ := M.bind_ok e
  cases e
  exact h C s p σ H r c _ h1 _ fun H1 k1 q1 => q H1 k1 q1
def bYes : Sl → M Bool := fun _ => M.pure true
theorem jt_yes : JT P tYes bYes := fun C s p σ H r b p' e Q q => by
  cases e
  exact q H (.refl H) r.pen
/-! ### values of tests -/
def eAnd (f g : Sl → M D) : Sl → M D := fun s => (f s).bind fun d => (M.of (asB d)).bind fun b => if b = true then g s else M.pure (.bl false)
def eOr (f g : Sl → M D) : Sl → M D := fun s => (f s).bind fun d => (M.of (asB d)).bind fun b => if b = true then M.pure (.bl true) else g s
def eNot (f : Sl → M D) : Sl → M D := fun s => (f s).bind fun d => (M.of (asB d)).bind fun b => M.pure (.bl (!b))
def eIf (c : Sl → M Bool) (f g : Sl → M D) : Sl → M D := fun s => (c s).bind fun b => if b = true then f s else g s
theorem j_and (ha : JE P ta fa) (hb : JE P tb fb) : JE P (tAndV ta tb) (eAnd fa fb) := fun C s p σ H r d p' e Q q => by
  obtain ⟨x, p1, h1, e1⟩ := M.bind_ok e
  obtain ⟨b, p2, h2a, e2⟩ := M.bind_ok e1
  clear e1
  obtain ⟨h2, rfl⟩ := M.of_ok h2a
  have := asB_ok h2
  subst this
  refine ha C s p σ H r _ _ h1 _ fun v H1 k1 q1 r1 => ⟨b, r1, ?_⟩
  cases b with
  | true =>
    rw [if_pos rfl] at e2 ⊢
    exact hb C s _ σ H1 (r.keep k1 q1) d p' e2 Q fun v H2 k2 q2 r2 => q v H2 (k1.trans k2) q2 r2
  | false =>
    rw [if_neg Bool.false_ne_true] at e2 ⊢
    cases e2
    exact q _ H1 k1 q1 rfl
theorem j_or (ha : JE P ta fa) (hb : JE P tb fb) : JE P (tOrV ta tb) (eOr fa fb) := fun C s p σ H r d p' e Q q => by
  obtain ⟨x, p1, h1, e1⟩ := M.bind_ok e
  obtain ⟨b, p2, h2a, e2⟩ := M.bind_ok e1
  clear e1
  obtain ⟨h2, rfl⟩ := M.of_ok h2a
  have := asB_ok h2
  subst this
  refine ha C s p σ H r _ _ h1 _ fun v H1 k1 q1 r1 => ⟨b, r1, ?_⟩
  cases b with
  | true =>
    rw [if_pos rfl] at e2 ⊢
    cases e2
    exact q _ H1 k1 q1 rfl
  | false =>
    rw [if_neg Bool.false_ne_true] at e2 ⊢
    exact hb C s _ σ H1 (r.keep k1 q1) d p' e2 Q fun v H2 k2 q2 r2 => q v H2 (k1.trans k2) q2 r2
theorem j_not (ha : JE P ta fa) : JE P (tNotV ta) (eNot fa) := fun C s p σ H r d p' e Q q => by
  obtain ⟨x, p1, h1, e1⟩ := M.bind_ok e
  obtain ⟨b, p2, h2a, e2⟩ := M.bind_ok e1
  clear e1
  obtain ⟨h2, rfl⟩ := M.of_ok h2a
  have := asB_ok h2
  subst this
  cases e2
  exact ha C s p σ H r _ _ h1 _ fun v H1 k1 q1 r1 => ⟨b, r1, q _ H1 k1 q1 rfl⟩
theorem j_if (hc : JT P tt ft) (ha : JE P ta fa) (hb : JE P tb fb) : JE P (tIf tt ta tb) (eIf ft fa fb) := fun C s p σ H r d p' e Q q => by
  obtain ⟨b, p1, h1, e⟩ := M.bind_ok e
  refine hc C s p σ H r b p1 h1 _ fun H1 k1 q1 => ?_
  cases b with
  | true =>
    rw [if_pos rfl] at e ⊢
    exact ha C s p1 σ H1 (r.keep k1 q1) d p' e Q fun v H2 k2 q2 r2 => q v H2 (k1.trans k2) q2 r2
  | false =>
    rw [if_neg Bool.false_ne_true] at e ⊢
    exact hb C s p1 σ H1 (r.keep k1 q1) d p' e Q fun v H2 k2 q2 r2 => q v H2 (k1.trans k2) q2 r2
def eChain (g g' : D → D → Option D) (fa fb fc : Sl → M D) : Sl → M D := fun s => (fa s).bind fun x => (fb s).bind fun y => (M.of ((g x y).bind asB)).bind fun b => if b = true then (fc s).bind fun z => M.of (g' y z) else M.pure (.bl false)
theorem j_chain {r r' : R2} {g g' : D → D → Option D} (hr : JR P r g) (hr' : JR P r' g') (ha : JE P ta fa) (hb : JE P tb fb) (hc : JE P tc fc) : JE P (tChain r r' ta tb tc) (eChain g g' fa fb fc) := fun C s p σ H rl d p' h Q q => by
  obtain ⟨x, p1, h1, h⟩ := M.bind_ok h
  obtain ⟨y, p2, h2, h⟩ := M.bind_ok h
  obtain ⟨b, p3, h3a, h⟩ := M.bind_ok h
  obtain ⟨h3, rfl⟩ := M.of_ok h3a
  have h3' : g x y = some (.bl b) := by
    cases e : g x y with
    | none => rw [e] at h3; cases h3
    | some z =>
      rw [e] at h3
      rw [asB_ok (show asB z = some b from h3)]
  refine ha C s p σ H rl x p1 h1 _ fun v1 H1 k1 q1 r1 => ?_
  have rl1 := rl.keep k1 q1
  refine hb C s p1 σ H1 rl1 y _ h2 _ fun v2 H2 k2 q2 r2 => ?_
  have rl2 := rl1.keep k2 q2
  refine hr C.O H2 v1 v2 x y rl.paO rl2.dom (Rv.ex (rl1.fz k2) x v1 r1) r2 _ h3' _ fun v H3 e3 r3 => ⟨b, r3, ?_⟩
  have k3 := (k1.trans k2).trans (.ofEx e3)
  have rl3 := rl2.keep (.ofEx e3) (q2.ex e3)
  cases b with
  | true =>
    rw [if_pos rfl] at h ⊢
    obtain ⟨z, p4, h4, h⟩ := M.bind_ok h
    obtain ⟨h5, rfl⟩ := M.of_ok h
    refine hc C s _ σ H3 rl3 z _ h4 _ fun v4 H4 k4 q4 r4 => ?_
    have rl4 := rl3.keep k4 q4
    exact hr' C.O H4 v2 v4 y z rl.paO rl4.dom (Rv.ex (rl3.fz k4) y v2 (Rv.ex (fz_ex e3) y v2 r2)) r4 d h5 Q fun v H5 e5 r5 => q v H5 ((k3.trans k4).trans (.ofEx e5)) (q4.ex e5) r5
  | false =>
    rw [if_neg Bool.false_ne_true] at h ⊢
    cases h
    exact q _ H3 k3 (q2.ex e3) rfl
end

/-! ### operations -/
section
variable {P : Par}
def gI (f : Int → Int → D) : D → D → Option D
  | .int i, .int j => some (f i j)
  | _, _ => none
theorem gI_ok {f : Int → Int → D} {x y d : D} (h : gI f x y = some d) : ∃ i j, x = .int i ∧ y = .int j ∧ d = f i j := by
  cases x <;> cases y <;> cases h <;> exact ⟨_, _, rfl, rfl, rfl⟩
theorem jr_I0 {g : Int → Int → V} {f : Int → Int → D} (hg : ∀ i j H, Rv P H (f i j) (g i j)) : JR P (rI0 g) (gI f) := fun O H x y dx dy hp hd rx ry d h Q q => by
  obtain ⟨i, j, rfl, rfl, rfl⟩ := gI_ok h
  exact ⟨i, j, rx, ry, q _ H (Evl.Ex.refl H) (hg i j _)⟩
def gIc (c : Int → Int → Bool) (f : Int → Int → D) : D → D → Option D
  | .int i, .int j => if c i j = true then some (f i j) else none
  | _, _ => none
theorem jr_Ic {c : Int → Int → Bool} {cp : Int → Int → Prop} {g : Int → Int → V} {f : Int → Int → D} (hc : ∀ i j, c i j = true → cp i j) (hg : ∀ i j H, Rv P H (f i j) (g i j)) : JR P (rI cp g) (gIc c f) := fun O H x y dx dy hp hd rx ry d h Q q => by
  cases dx <;> cases dy <;> first | cases h | skip
  rename_i i j
  unfold gIc at h
  dsimp only at h
  split at h
  · rename_i hcc
    cases h
    exact ⟨i, j, rx, ry, hc i j hcc, q _ H (Evl.Ex.refl H) (hg i j _)⟩
  · cases h
def dAdd := gI fun i j => .int (i + j)
def dSub := gI fun i j => .int (i - j)
def dLt := gI fun i j => .bl (decide (i < j))
def dLe := gI fun i j => .bl (decide (i ≤ j))
def dGt := gI fun i j => .bl (decide (j < i))
def dGe := gI fun i j => .bl (decide (j ≤ i))
theorem jr_add : JR P (rI0 fun i j => .int (i + j)) dAdd := jr_I0 fun _ _ _ => rfl
theorem jr_sub : JR P (rI0 fun i j => .int (i - j)) dSub := jr_I0 fun _ _ _ => rfl
theorem jr_lt : JR P (rI0 fun i j => .bl (decide (i < j))) dLt := jr_I0 fun _ _ _ => rfl
theorem jr_le : JR P (rI0 fun i j => .bl (decide (i ≤ j))) dLe := jr_I0 fun _ _ _ => rfl
theorem jr_gt : JR P (rI0 fun i j => .bl (decide (j < i))) dGt := jr_I0 fun _ _ _ => rfl
theorem jr_ge : JR P (rI0 fun i j => .bl (decide (j ≤ i))) dGe := jr_I0 fun _ _ _ => rfl
/-- a small factor on the left -/
def dMul := gIc (fun i _ => decide (-18446744073709551616 < i ∧ i < 18446744073709551616)) fun i j => .int (i * j)
theorem jr_mul : JR P (rI CMul fun i j => .int (i * j)) dMul := jr_Ic (fun i j h => .inl (by have := of_decide_eq_true h; constructor <;> omega)) fun _ _ _ => rfl
def dMod := gIc (fun _ j => decide (j ≠ 0)) fun i j => .int (i.fmod j)
theorem jr_mod : JR P (rI (fun _ j => j ≠ 0) fun i j => .int (i.fmod j)) dMod := jr_Ic (fun i j h => of_decide_eq_true h) fun _ _ _ => rfl
def dDiv := gIc (fun _ j => decide (j ≠ 0 ∧ j.natAbs < 1073741824)) fun i j => .int (i.fdiv j)
theorem jr_div : JR P (rI CDivN fun i j => .int (i.fdiv j)) dDiv := jr_Ic (fun i j h => of_decide_eq_true (p := j ≠ 0 ∧ j.natAbs < 1073741824) h) fun _ _ _ => rfl
/-- == of plain things -/
def dEq : D → D → Option D
  | .int i, .int j => some (.bl (decide (i = j)))
  | .str i, .str j => some (.bl (decide (i = j)))
  | .bl i, .bl j => some (.bl (decide (i = j)))
  | _, _ => none
def dNe (x y : D) : Option D := match dEq x y with
  | some (.bl b) => some (.bl (!b))
  | _ => none
theorem dEq_ok {O : Addr → Prop} {H : Hp} {dx dy d : D} {x y : V} (rx : Rv P (hid O H) dx x) (ry : Rv P (hid O H) dy y) (h : dEq dx dy = some d) : scal x y = true ∧ d = .bl (decide (x = y)) := by
  cases dx <;> cases dy <;> cases h
  · rw [show x = _ from rx, show y = _ from ry]
    refine ⟨rfl, ?_⟩
    congr 1
    simp
  · rw [show x = _ from rx, show y = _ from ry]
    refine ⟨rfl, ?_⟩
    congr 1
    simp
  · rw [show x = _ from rx, show y = _ from ry]
    refine ⟨rfl, ?_⟩
    congr 1
    simp
theorem jr_eq : JR P rEq dEq := fun O H x y dx dy hp hd rx ry d h Q q => by
  obtain ⟨h1, rfl⟩ := dEq_ok rx ry h
  exact ⟨h1, q _ H (Evl.Ex.refl H) rfl⟩
theorem jr_ne : JR P rNe dNe := fun O H x y dx dy hp hd rx ry d h Q q => by
  unfold dNe at h
  cases e : dEq dx dy with
  | none => rw [e] at h; cases h
  | some z =>
    obtain ⟨h1, rfl⟩ := dEq_ok rx ry e
    rw [e] at h
    cases h
    exact ⟨h1, q _ H (Evl.Ex.refl H) rfl⟩
/-- lists, tuples: + -/
def dCatL : D → D → Option D
  | .lst xs, .lst ys => if sz (xs.length + ys.length) = true then some (.lst (xs ++ ys)) else none
  | _, _ => none
theorem jr_catL : JR P rCat dCatL := fun O H x y dx dy hp hd rx ry d h Q q => by
  cases dx <;> cases dy <;> first | cases h | skip
  rename_i xs ys
  unfold dCatL at h
  dsimp only at h
  split at h
  · rename_i hz
    cases h
    obtain ⟨a, vs, rfl, h1, h2⟩ := rx
    obtain ⟨b, ws, rfl, h3, h4⟩ := ry
    refine ⟨a, b, vs, ws, rfl, rfl, (fz_some.mp h1).2, (fz_some.mp h3).2, by rw [h2.len, h4.len]; exact sz_ok hz, fun p hp => ?_⟩
    exact q _ _ (Ex.new hp) ⟨p, vs ++ ws, rfl, fz_new hd hp, Rvs.ex (fz_ex (Ex.new hp)) _ _ (h2.app h4)⟩
  · cases h
def dCatT : D → D → Option D
  | .tup xs, .tup ys => if sz (xs.length + ys.length) = true then some (.tup (xs ++ ys)) else none
  | _, _ => none
end
end Z
end
section
set_option Elab.async false
set_option linter.all false
set_option maxRecDepth 100000
set_option maxHeartbeats 2000000
/-! Promises that also know that no repr is under way around them (the list of guards is empty): what repr of a list asks. -/
namespace Z
open PySem L2 PyProof.Rows
structure FnG (P : Program) (w : World) (K : PySem.W.Frag) (mg : Str → Option Value) (base : Heap) (X : CXT) (k : Nat) (f : Addr) (fd : FuncData) (ps : List Str) (sp : Sp) : Prop where
  ln : ∀ vs H Q E, sp vs H Q E → vs.length = ps.length
  go : ∀ (A : Around) (ou : List Env) (s : Shared) (H : Hp) (ar : Args) (us : List Value) (vs : List V) (Q : VK) (E : XK), Room k A → A.guards = some [] → Env0 P w K mg base A ou s H →
    BindsTo s fd ar (ps.zip us) → Vals vs us → sp vs H Q E → codeAny (model P w) A (.call (.ref f) ar) (CR X ou P w H s Q E) s
section
variable {P : Program} {w : World} {K : PySem.W.Frag} {mg : Str → Option Value} {base : Heap} {CX : CXT} {f : Addr} {fd : FuncData} {ps : List Str} {sp : Sp}
theorem FnG.up {j k : Nat} (F : FnG P w K mg base CX j f fd ps sp) (h : j ≤ k) : FnG P w K mg base CX k f fd ps sp :=
  ⟨F.ln, fun A ou s H ar us vs Q E r g e b v q => F.go A ou s H ar us vs Q E (r.mono h) g e b v q⟩
theorem FnG.imp {k : Nat} {sp' : Sp} (F : FnG P w K mg base CX k f fd ps sp) (h : ∀ vs H Q E, sp' vs H Q E → sp vs H Q E) : FnG P w K mg base CX k f fd ps sp' :=
  ⟨fun vs H Q E q => F.ln vs H Q E (h _ _ _ _ q), fun A ou s H ar us vs Q E r g e b v q => F.go A ou s H ar us vs Q E r g e b v (h _ _ _ _ q)⟩
/-- the end of a body -/
theorem body_end {N : List Str} {q : Str} {sc : Scope} {cd : Value} {A : Around} {ou : List Env} {s s' : Shared} {H : Hp} {Q : VK} {E : XK} {fl : Flow}
    (h : SP (cxOf CX P w K mg base N q sc f cd A ou s H E) [] { nx := fun _ H' => Q .non H', rt := Q } fl s') : CR CX ou P w H s Q E (.ok (match fl with | .ret u => .ret u | _ => .ret .none)) s' := by
  cases fl with
  | ret u => obtain ⟨v, _, H', J, r, z⟩ := h; exact ⟨v, H', J.os, J.bare, J.base, J.hok, r, z⟩
  | next => obtain ⟨_, H', J, z⟩ := h; exact ⟨.non, H', J.os, J.bare, J.base, J.hok, rfl, z⟩
  | brk => obtain ⟨_, _, _, z⟩ := h; exact z.elim
  | cont => obtain ⟨_, _, _, z⟩ := h; exact z.elim
theorem fn_g {x qual : Str} {st : Stmt} {N : List Str} {k : Nat} (F : Fun K x qual st f fd) (T : FnScope N ps (defScope st)) (ln : ∀ vs H Q E, sp vs H Q E → vs.length = ps.length)
    (hb : ∀ (cd : Value) (A : Around) (ou : List Env) (s : Shared) (H : Hp) (vs : List V) (Q : VK) (E : XK), Room k (A.deeper (envOfC qual (defScope st) s.heap.objs.size f cd)) → A.guards = some [] → sp vs H Q E →
      ∃ t, PSs (cxOf CX P w K mg base N qual (defScope st) f cd A ou s H E) (defBody st) t ∧ t { nx := fun _ H' => Q .non H', rt := Q } (L2.start N vs) H) : FnG P w K mg base CX (k + 1) f fd ps sp := by
  obtain ⟨oc, od, kV, doc, pm, an, cd, ct, sl, rfl, lk, hcd⟩ := F.ex
  refine ⟨ln, fun A ou s H ar us vs Q E r g e0 bd rv q => ?_⟩
  have inK : K.In s.heap := e0.mod.kin.keeps fun b o z => (e0.bs b o z).1
  have kinds : ∀ y ∈ ps.zip us, (defScope st).names.lookup y.1 = some .local ∨ ((defScope st).names.lookup y.1 = some .cell ∧ ((cellsFrom (s.heap.objs.size + 1) (defScope st).names []).lookup y.1).isSome = true) := by
    rintro ⟨n, v⟩ hy
    rcases T.par n (List.of_mem_zip hy).1 with c | c
    · exact Or.inl c
    · exact Or.inr ⟨c, PySem.W.cellsFrom_some _ _ _ (Or.inl c)⟩
  refine codeAny_call_function r.depth (inK _ _ lk) rfl T.co T.gen rfl (PySem.W.codeRec_of inK hcd) (bd _ _ _ _ ?_)
  refine wpAny_newFunctionEnv_cells T.kind kinds fun env he s1 x1 => ?_
  subst he
  refine ⟨(e0.mod.nolimit.keeps fun b o z => (e0.bs b o z).1).keeps x1.toInCall.keep, codeAny_func ?_⟩
  obtain ⟨t, ht, hq⟩ := hb cd A ou s H vs Q E (r.deeper _) g q
  have J := inv_start (K := K) (mg := mg) (base := base) (CX := CX) (E := E) (P := P) (w := w) T r.hd e0 (ln _ _ _ _ q) rv x1
  refine wpAny_mono (ht.run [] s1 (L2.start N vs) H _ J hq) (fun fl s' hs => ?_) fun _ _ z => z
  have z := body_end hs
  cases fl <;> exact z
section
variable {Y : Cx} {k : Nat} {dvs : List V} {ds : List Value} {E : XK} {x : Str} {p pos : Pos} {e : Expr} {es : List Expr} {t : TA}
theorem run_g {pins : List (Addr × Obj)} {σ : L2.St} {H : Hp} {s : Shared} {Q : VK} {us : List Value} {vs : List V} {ar : Args} (F : FnG Y.prog Y.w Y.K Y.mg Y.base CX k f fd ps sp) (r : Room k Y.A) (g : Y.A.guards = some []) (ex : Passes CX Y E)
    (I : Inv Y pins σ H s) (bd : BindsTo s fd ar (ps.zip us)) (rv : Vals vs us) (h : sp vs H Q E) : wpAny (model Y.prog Y.w) Y.A (call (.ref f) ar.pos ar.kw) (EP Y pins σ Q) Y.xe s := by
  refine wpAny_call (codeAny_mono (F.go Y.A Y.stack s H ar us vs Q E r g I.env0 bd rv h) fun res s' z => ?_)
  match res, z with
  | .ok (.ret u), z => exact I.after z
  | .ok .next, z => exact False.elim z
  | .ok .brk, z => exact False.elim z
  | .ok .cont, z => exact False.elim z
  | .error e, z => exact ex pins σ H s e s' I z
theorem pe_g (F : FnG Y.prog Y.w Y.K Y.mg Y.base CX k f fd ps sp) (r : Room k Y.A) (g : Y.A.guards = some []) (hg : Gl Y x) (hm : Y.mg x = some (.ref f)) (hk : PySem.W.keepIn Y.K (.ref f) = true) (hb : Binds Y.K fd ps ds) (hd : Vals dvs ds) (ex : Passes CX Y E)
    (ha : PA Y (e :: es) t) (hdb : (x == ("__debug__" : Str)) = false := by decide) (he : starEach (e :: es) Y.env = (false, eval e Y.env) :: starEach es Y.env := by rfl) (hpl : (backTo pos (starEach es Y.env)).any (·.1) = false := by rfl) :
    PE Y (.Call (.Name x p) (e :: es) [] pos) (tCall sp dvs E t) := by
  constructor
  intro pins s σ H Q I h
  refine wpAny_Call_Name_kw (ld_glob I hg hm ?_ hdb)
  refine PySem.W.callWith_K (h₀ := Y.base) I.ok.mod.kin hk (thn (ha.run pos pins s σ H _ I h) fun us s1 z => ?_) he hpl
  obtain ⟨vs, H1, I1, rv, q⟩ := z
  have r2 : Vals (vs ++ dvs) (us ++ ds) := rv.append hd
  exact ⟨I1.kIn, run_g (ar := ⟨us, []⟩) F r g ex I1 (hb s1 us I1.kIn (by rw [← r2.length]; exact F.ln _ _ _ _ q)) r2 q⟩
end
end
/-! ### the law's own call -/
section
variable {P : Program} {w : World} {K : PySem.W.Frag} {mg mb : Str → Option Value} {k : Nat} {fa a : Addr} {fd : FuncData} {x : Str} {sp : Sp} {s₁ : Shared} {vs : List Value} {ns : List Int}
/-- what is behind the call of a law -/
def LawEnd (s₁ : Shared) (r : Result) (s' : Shared) : Prop := r = .ok (.ret (.bool true)) ∧ OldK s₁.heap s'.heap ∧ s'.os = s₁.os ∧ AllBare s'.gens
theorem law_core (KX : K.In s₁.heap) (hns : s₁.heap.Ns mainGlobals mg) (hb : s₁.heap.Ns builtinsNs mb) (hbb : ∀ y : Str, y ≠ "__name__" → mb y = bootBuiltins y) (lim : s₁.heap.NoLimit) (hg : s₁.gens = #[])
    (ha : s₁.heap.get? a = some { cls := .type "list", data := .seq vs.toArray }) (r : Room k callerA)
    (F : ∀ base : Heap, K.In base → base.Ns mainGlobals mg → FnG P w K mg base CX0 k fa fd [x] sp) (bd : ∀ (s : Shared) (u : Value), BindsTo s fd ⟨[u], []⟩ [(x, u)])
    {H : Hp} (hO : Only H) (hs : sp [.ref a] H (fun v _ => v = .bl true) fun _ _ _ => False) (ok : HOk P w H s₁.heap) (hA : ∀ b, H b ≠ none → b = a) (hK : H a ≠ none → K.lookup a = none) :
    codeAny (model P w) callerA (.call (.ref fa) ⟨[.ref a], []⟩) (LawEnd s₁) s₁ := by
  -- a place of the written part, a place with a dict: neither is tracked
  have freeK : ∀ {b : Addr} {o : Obj}, K.lookup b = some o → H b = none := by
    intro b o e
    refine Classical.byContradiction fun z => ?_
    have q := hA b z
    subst q
    rw [hK z] at e
    cases e
  have freeD : ∀ {b : Addr} {o : Obj} {es : Array DictEntry} {ep : Nat}, s₁.heap.get? b = some o → o.data = .dict es ep → H b = none := by
    intro b o es ep e d
    refine Classical.byContradiction fun z => ?_
    have q := hA b z
    subst q
    rw [ha] at e
    cases e
    cases (show Data.seq vs.toArray _ = Data.dict es ep from d)
  have bNs : ∀ {b : Addr} {m : Str → Option Value}, s₁.heap.Ns b m → (hidT s₁.heap H).Ns b m := by
    rintro b m ⟨o, es, ep, e, d, z⟩
    exact ⟨o, es, ep, hidT_get e (freeD e d), d, z⟩
  have bK : K.In (hidT s₁.heap H) := fun b o e => hidT_get (KX b o e) (freeK e)
  have md : Mod K mg (hidT s₁.heap H) := by
    obtain ⟨mc, l1, l2⟩ := lim
    exact ⟨bK, bNs hns, ⟨mb, bNs hb, hbb⟩, mc, bNs l1, l2⟩
  have e0 : Env0 P w K mg (hidT s₁.heap H) callerA [] s₁ H :=
    { frames := rfl, mod := md, bs := fun b o e => of_hidT e, bsz := Nat.le_of_eq (hidT_size _ _), funs := trivial, frf := (fun b z => nomatch z), hok := ok, bare := .of_eq hg }
  refine codeAny_mono ((F _ bK (bNs hns)).go callerA [] s₁ H ⟨[.ref a], []⟩ [.ref a] [.ref a] _ _ r rfl e0 (bd s₁ (.ref a)) (.cons rfl .nil) hs) fun res s' z => ?_
  match res, z with
  | .ok .next, z => exact False.elim z
  | .ok .brk, z => exact False.elim z
  | .ok .cont, z => exact False.elim z
  | .error e, z => exact False.elim z
  | .ok (.ret u), z =>
    obtain ⟨v, H', os, br, un, ok', rv, q⟩ := z
    rw [show v = V.bl true from q] at rv
    rw [show u = Value.bool true from rv]
    refine ⟨rfl, OldK.of_keep fun b o e => ?_, os, br⟩
    rcases hO b with z | ⟨ob, xs, z⟩
    · exact un.keep b o e z (fun y => (nomatch y)) (fun y => (nomatch y))
    · have h1 := (ok b _ z).1
      have h2 := (ok' b _ (un.frzs b ob _ z)).1
      rw [e] at h1
      cases h1
      exact h2
theorem law_g (KX : K.In s₁.heap) (hns : s₁.heap.Ns mainGlobals mg) (hb : s₁.heap.Ns builtinsNs mb) (hbb : ∀ y : Str, y ≠ "__name__" → mb y = bootBuiltins y) (lim : s₁.heap.NoLimit) (hg : s₁.gens = #[])
    (ha : s₁.heap.get? a = some { cls := .type "list", data := .seq vs.toArray }) (hi : IntsAre vs ns) (hl : ns.length ≤ sizeLine) (r : Room k callerA)
    (F : ∀ base : Heap, K.In base → base.Ns mainGlobals mg → FnG P w K mg base CX0 k fa fd [x] sp) (bd : ∀ (s : Shared) (u : Value), BindsTo s fd ⟨[u], []⟩ [(x, u)])
    (hs : ∀ H : Hp, Only H → SqL K H a (ns.map V.int) → sp [.ref a] H (fun v _ => v = .bl true) fun _ _ _ => False) :
    codeAny (model P w) callerA (.call (.ref fa) ⟨[.ref a], []⟩) (LawEnd s₁) s₁ := by
  have rv := vals_ints hi
  cases hk : K.lookup a with
  | some o =>
    have e := KX a o hk
    rw [ha] at e
    cases e
    have hO : Only fun _ => none := fun _ => Or.inl rfl
    refine law_core KX hns hb hbb lim hg ha r F bd hO (hs _ hO (Or.inr ⟨_, vs.toArray, _, hk, rfl, rfl, rfl, ?_, ?_⟩)) (fun b u z => nomatch z) (fun b z => absurd rfl z) fun z => absurd rfl z
    · rw [List.size_toArray, hi.length]
      exact hl
    · simpa using rv
  | none =>
    let H : Hp := fun b => if b = a then some (.frz { cls := .type "list", data := .seq vs.toArray } (.lst (ns.map V.int))) else none
    have at_ : H a = some (.frz { cls := .type "list", data := .seq vs.toArray } (.lst (ns.map V.int))) := if_pos rfl
    have off : ∀ {b}, b ≠ a → H b = none := fun n => if_neg n
    have hO : Only H := fun b => if e : b = a then Or.inr ⟨_, _, e ▸ at_⟩ else Or.inl (off e)
    refine law_core KX hns hb hbb lim hg ha r F bd hO (hs _ hO (Or.inl (Or.inr ⟨_, at_⟩))) (fun b u z => ?_) (fun b z => Classical.byContradiction fun n => z (off n)) fun _ => hk
    by_cases e : b = a
    · subst e
      rw [at_] at z
      cases z
      exact ⟨ha, by rw [List.length_map]; exact hl, vs, _, rv, ha⟩
    · rw [off e] at z
      cases z
theorem walk_g {l : PySem.W.OpenLaw} {n : Nat} {q : Program} {loose : List Str} {XP : (Str → Option Value) → Heap → Prop} {YP : World → Heap → Prop} {d : DefRec} {K : Params → PySem.W.Frag} {sp : World → PySem.W.Frag → Sp}
    (hn : l.most = some n) (hn2 : n ≤ sizeLine) (hdf : d.params.defaults = []) (r : Room k callerA) (hY : ∀ (w : World) (h : Heap), YP w h → (K w.params).In h)
    (F : ∀ (w : World) (mg : Str → Option Value) (fa : Addr) (h : Heap), (K w.params).In h → h.Ns mainGlobals mg → mg d.name = some (.ref fa) →
      ∃ fd : FuncData, (∀ (s : Shared) (u : Value), BindsTo s fd ⟨[u], []⟩ [(x, u)]) ∧ ∀ base : Heap, (K w.params).In base → base.Ns mainGlobals mg → FnG l.prog w (K w.params) mg base CX0 k fa fd [x] (sp w (K w.params)))
    (hs : ∀ (w : World) (K : PySem.W.Frag) (H : Hp) (a : Addr) (ns : List Int), ns.length ≤ n → Only H → SqL K H a (ns.map V.int) → sp w K [.ref a] H (fun v _ => v = .bl true) fun _ _ _ => False) :
    PySem.W.WalkO q loose XP YP l.row.toRowW d [] (fun f vs => PySem.call f vs) := by
  refine Att.attach_call hn hdf fun w s₀ s₁ mg mb fa o pm cd doc a vs ns G Y ho hd hcd hmg hobj hi hlen hg => ?_
  obtain ⟨fd, b, hF⟩ := F w mg fa _ (hY w _ Y) G.T.g hmg
  exact law_g (hY w _ Y) G.T.g G.T.b G.T.builtins G.T.nolimit hg hobj hi (Nat.le_trans hlen hn2) r hF b fun H hO hS => hs w _ H a ns hlen hO hS
end
end Z
end
section
set_option Elab.async false
set_option linter.all false
set_option maxRecDepth 100000
set_option maxHeartbeats 2000000
namespace Z
open PySem L2
open Evl (Ex)
section
variable {P : Par} {C C' C'' : Fr} {s : Sl} {p : Pen} {σ σ' : L2.St} {H H' H'' : Hp}
theorem Go.refl : Go P C C H H := ⟨rfl, rfl, Evl.Ex.refl _⟩
theorem Go.trans (a : Go P C C' H H') (b : Go P C' C'' H' H'') : Go P C C'' H H'' := ⟨b.h0.trans a.h0, b.ob.trans a.ob, a.fz.trans b.fz⟩
theorem Rel.go (r : Rel P C s p σ H) (k : Keep P H H') : Go P C C H H' := ⟨rfl, rfl, r.fz k⟩
theorem Lands.back {o : Out} {s' : Sl} {p' : Pen} {E : Ends} (g : Go P C C' H H') (l : Lands P C H o s' p' E) : Lands P C' H' o s' p' E := by
  cases o with
  | nx => exact fun C2 σ2 H2 r2 g2 => l C2 σ2 H2 r2 (g.trans g2)
  | bk => exact fun C2 σ2 H2 r2 g2 => l C2 σ2 H2 r2 (g.trans g2)
  | ct => exact fun C2 σ2 H2 r2 g2 => l C2 σ2 H2 r2 (g.trans g2)
  | rt d =>
    intro v H2 k q rv
    refine l v H2 (by rw [← g.h0]; exact k) q ?_
    rw [← g.ob]
    exact rv
theorem set_get {α : Type} {l : List α} {i j : Nat} {x y : α} (h : (l.set i x)[j]? = some y) : (j = i ∧ y = x ∧ i < l.length) ∨ (j ≠ i ∧ l[j]? = some y) := by
  by_cases e : i = j
  · subst e
    by_cases hl : i < l.length
    · rw [List.getElem?_set_self hl] at h
      exact .inl ⟨rfl, (Option.some.inj h).symm, hl⟩
    · rw [List.getElem?_eq_none (by rw [List.length_set]; omega)] at h
      cases h
  · rw [List.getElem?_set_ne e] at h
    exact .inr ⟨fun z => e z.symm, h⟩
/-- a slot gets data -/
theorem Rel.set (r : Rel P C s p σ H) (i : Nat) {d : D} {v : V} (rv : Rv P (hid C.O H) d v) : Rel P C (s.set i (.im d)) p (σ.set i (some v)) H where
  len := by rw [List.length_set, List.length_set]; exact r.len
  pa := r.pa
  ca := r.ca
  ca0 := r.ca0
  pen := r.pen
  dom := r.dom
  dom0 := r.dom0
  base := r.base
  sub := r.sub
  im := fun j e h => by
    rcases set_get h with ⟨rfl, e1, hl⟩ | ⟨hn, h⟩
    · cases e1
      exact ⟨v, List.getElem?_set_self (by rw [r.len]; exact hl), rv⟩
    · obtain ⟨u, h1, h2⟩ := r.im j e h
      exact ⟨u, by rw [List.getElem?_set_ne (Ne.symm hn)]; exact h1, h2⟩
  ow := fun j ds h => by
    rcases set_get h with ⟨_, e1, _⟩ | ⟨hn, h⟩
    · cases e1
    · obtain ⟨l, vs, h1, h2⟩ := r.ow j ds h
      exact ⟨l, vs, by rw [List.getElem?_set_ne (Ne.symm hn)]; exact h1, h2⟩
  inj := fun j k ds es l h1 h2 h3 h4 => by
    rcases set_get h1 with ⟨_, e1, _⟩ | ⟨hn, h1⟩
    · cases e1
    · rcases set_get h2 with ⟨_, e1, _⟩ | ⟨hm, h2⟩
      · cases e1
      · rw [List.getElem?_set_ne (Ne.symm hn)] at h3
        rw [List.getElem?_set_ne (Ne.symm hm)] at h4
        exact r.inj j k ds es l h1 h2 h3 h4
/-- a slot gets a new list of this call's own -/
theorem Rel.setOw (r : Rel P C s p σ H) (i : Nat) {a : Addr} {ds : List D} {vs : List V} (hn : H a = none) (k : Keep P H H') (q : PenAt P H' p) (ha : H' a = some (.lst vs)) (rv : Rvs P (hid (fun l => C.O l ∨ l = a) H') ds vs) :
    Rel P { C with O := fun l => C.O l ∨ l = a } (s.set i (.ow ds)) p (σ.set i (some (.ref a))) H' := by
  have r1 := r.keep k q
  have n0 : C.H0 a = none := by
    cases e : C.H0 a with
    | none => rfl
    | some o =>
      by_cases z : P.hot a
      · obtain ⟨u, y⟩ := r.pen.hot z; rw [y] at hn; cases hn
      · rw [r.base a o z e] at hn; cases hn
  have less : ∀ {K : Hp}, Ex (hid (fun l => C.O l ∨ l = a) K) (hid C.O K) := fz_less fun _ z => .inl z
  have na : ∀ l, C.O l → l ≠ a := fun l z e => r.free hn (e ▸ z)
  -- what was known does not lean on the new list
  have up : Ex (hid C.O H) (hid (fun l => C.O l ∨ l = a) H') := fun b o e => by
    obtain ⟨e1, e2⟩ := fz_some.mp e
    refine fz_some.mpr ⟨fun z => ?_, k b o (fun z => e1 (r.paO _ z)) e2⟩
    rcases z with z | z
    · exact e1 z
    · subst z; rw [hn] at e2; cases e2
  exact
    { len := by rw [List.length_set, List.length_set]; exact r.len
      pa := r.pa, ca := (fun z => z.elim r.ca fun e => by have q := r.pen.2.2.1; rw [e, hn] at q; cases q), ca0 := r.ca0, pen := q
      dom := fun l hl => by
        rcases hl with hl | hl
        · exact r1.dom l hl
        · subst hl; exact ⟨_, ha⟩
      dom0 := r.dom0, base := r1.base, sub := fun l hl => .inl (r.sub l hl)
      im := fun j e h => by
        rcases set_get h with ⟨_, e1, _⟩ | ⟨hne, h⟩
        · cases e1
        · obtain ⟨u, h1, h2⟩ := r.im j e h
          exact ⟨u, by rw [List.getElem?_set_ne (Ne.symm hne)]; exact h1, Rv.ex up e u h2⟩
      ow := fun j es h => by
        rcases set_get h with ⟨rfl, e1, hl⟩ | ⟨hne, h⟩
        · cases e1
          exact ⟨a, vs, List.getElem?_set_self (by rw [r.len]; exact hl), .inr rfl, n0, ha, rv⟩
        · obtain ⟨l, ws, h1, h2, h3, h4, h5⟩ := r.ow j es h
          exact ⟨l, ws, by rw [List.getElem?_set_ne (Ne.symm hne)]; exact h1, .inl h2, h3, k l _ (r.npa h3) h4, Rvs.ex up es ws h5⟩
      inj := fun j m es fs l h1 h2 h3 h4 => by
        rcases set_get h1 with ⟨rfl, e1, hl1⟩ | ⟨hn1, h1'⟩
        · rcases set_get h2 with ⟨rfl, _, _⟩ | ⟨hn2, h2⟩
          · rfl
          · rw [List.getElem?_set_self (by rw [r.len]; exact hl1)] at h3
            rw [List.getElem?_set_ne (Ne.symm hn2)] at h4
            obtain ⟨l2, _, g1, g2, _⟩ := r.ow m fs h2
            rw [g1] at h4
            cases h3
            cases h4
            exact absurd rfl (na _ g2)
        · rcases set_get h2 with ⟨rfl, e1, hl2⟩ | ⟨hn2, h2'⟩
          · rw [List.getElem?_set_self (by rw [r.len]; exact hl2)] at h4
            rw [List.getElem?_set_ne (Ne.symm hn1)] at h3
            obtain ⟨l2, _, g1, g2, _⟩ := r.ow j es h1'
            rw [g1] at h3
            cases h3
            cases h4
            exact absurd rfl (na _ g2)
          · rw [List.getElem?_set_ne (Ne.symm hn1)] at h3
            rw [List.getElem?_set_ne (Ne.symm hn2)] at h4
            exact r.inj j m es fs l h1' h2' h3 h4 }
theorem Rel.goOw (r : Rel P C s p σ H) {a : Addr} (hn : H a = none) (k : Keep P H H') : Go P C { C with O := fun l => C.O l ∨ l = a } H H' := ⟨rfl, rfl, fun b o e => by
    obtain ⟨e1, e2⟩ := fz_some.mp e
    refine fz_some.mpr ⟨fun z => ?_, k b o (fun z => e1 (r.paO _ z)) e2⟩
    rcases z with z | z
    · exact e1 z
    · subst z; rw [hn] at e2; cases e2⟩
/-- an own list changes -/
theorem Rel.chg (r : Rel P C s p σ H) {i : Nat} {ds es : List D} {l : Addr} {vs ws : List V} (hi : s[i]? = some (.ow ds)) (hl : σ[i]? = some (some (.ref l))) (ho : C.O l) (h0 : C.H0 l = none) (hv : H l = some (.lst vs)) (rv : Rvs P (hid C.O H) es ws) :
    Rel P C (s.set i (.ow es)) p σ (upd H l (.lst ws)) ∧ Go P C C H (upd H l (.lst ws)) := by
  have up : Ex (hid C.O H) (hid C.O (upd H l (.lst ws))) := fun b o e => by
    obtain ⟨e1, e2⟩ := fz_some.mp e
    exact fz_some.mpr ⟨e1, by rw [upd_ne (fun z => e1 (by rw [z]; exact ho))]; exact e2⟩
  have npa := r.npa h0
  have nca := r.nca h0
  refine ⟨?_, rfl, rfl, up⟩
  exact
    { len := by rw [List.length_set]; exact r.len
      pa := r.pa, ca := r.ca, ca0 := r.ca0
      pen := r.pen.upd npa nca hv
      dom := fun b hb => by
        by_cases z : b = l
        · subst z; exact ⟨_, upd_same⟩
        · rw [upd_ne z]; exact r.dom b hb
      dom0 := r.dom0
      base := fun b o n e => by
        rw [upd_ne (fun z => by subst z; rw [h0] at e; cases e)]
        exact r.base b o n e
      sub := r.sub
      im := fun j e h => by
        rcases set_get h with ⟨_, e1, _⟩ | ⟨hne, h⟩
        · cases e1
        · obtain ⟨u, h1, h2⟩ := r.im j e h
          exact ⟨u, h1, Rv.ex up e u h2⟩
      ow := fun j fs h => by
        rcases set_get h with ⟨rfl, e1, _⟩ | ⟨hne, h⟩
        · cases e1
          exact ⟨l, ws, hl, ho, h0, upd_same, Rvs.ex up _ ws rv⟩
        · obtain ⟨l2, us, h1, h2, h3, h4, h5⟩ := r.ow j fs h
          have nl : l2 ≠ l := fun z => hne (r.inj j i fs ds l h hi (z ▸ h1) hl)
          exact ⟨l2, us, h1, h2, h3, by rw [upd_ne nl]; exact h4, Rvs.ex up fs us h5⟩
      inj := fun j m es' fs l' h1 h2 h3 h4 => by
        have a1 : ∃ q, s[j]? = some (SD.ow q) := by
          rcases set_get h1 with ⟨rfl, _, _⟩ | ⟨_, h1⟩
          · exact ⟨_, hi⟩
          · exact ⟨_, h1⟩
        have a2 : ∃ q, s[m]? = some (SD.ow q) := by
          rcases set_get h2 with ⟨rfl, _, _⟩ | ⟨_, h2⟩
          · exact ⟨_, hi⟩
          · exact ⟨_, h2⟩
        obtain ⟨q1, a1⟩ := a1
        obtain ⟨q2, a2⟩ := a2
        exact r.inj j m q1 q2 l' a1 a2 h3 h4 }
def frzS (i : Nat) (s : Sl) : Sl := match s[i]? with
  | some (.ow ds) => s.set i (.im (.lst ds))
  | _ => s
/-- an own list is given away -/
theorem Rel.frz (r : Rel P C s p σ H) (i : Nat) : ∃ C', Rel P C' (frzS i s) p σ H ∧ Go P C C' H H := by
  unfold frzS
  cases hi : s[i]? with
  | none => exact ⟨C, r, .refl⟩
  | some z =>
    cases z with
    | un => exact ⟨C, r, .refl⟩
    | im d => exact ⟨C, r, .refl⟩
    | ow ds =>
      obtain ⟨l, vs, hl, ho, h0, hv, rv⟩ := r.ow i ds hi
      have less : Ex (hid C.O H) (hid (fun a => C.O a ∧ a ≠ l) H) := fz_less fun _ z => z.1
      refine ⟨{ C with O := fun a => C.O a ∧ a ≠ l }, ?_, rfl, rfl, less⟩
      exact
        { len := by rw [List.length_set]; exact r.len
          pa := r.pa, ca := (fun z => r.ca z.1), ca0 := r.ca0, pen := r.pen
          dom := fun b hb => r.dom b hb.1
          dom0 := r.dom0, base := r.base
          sub := fun b hb => ⟨r.sub b hb, fun z => r.nob h0 (z ▸ hb)⟩
          im := fun j e h => by
            rcases set_get h with ⟨rfl, e1, _⟩ | ⟨hne, h⟩
            · cases e1
              exact ⟨.ref l, hl, l, vs, rfl, fz_some.mpr ⟨fun z => z.2 rfl, hv⟩, Rvs.ex less ds vs rv⟩
            · obtain ⟨u, h1, h2⟩ := r.im j e h
              exact ⟨u, h1, Rv.ex less e u h2⟩
          ow := fun j es h => by
            rcases set_get h with ⟨_, e1, _⟩ | ⟨hne, h⟩
            · cases e1
            · obtain ⟨l2, us, h1, h2, h3, h4, h5⟩ := r.ow j es h
              exact ⟨l2, us, h1, ⟨h2, fun z => hne (r.inj j i es ds l h hi (z ▸ h1) hl)⟩, h3, h4, Rvs.ex less es us h5⟩
          inj := fun j m es fs l' h1 h2 h3 h4 => by
            rcases set_get h1 with ⟨_, e1, _⟩ | ⟨_, h1⟩
            · cases e1
            · rcases set_get h2 with ⟨_, e1, _⟩ | ⟨_, h2⟩
              · cases e1
              · exact r.inj j m es fs l' h1 h2 h3 h4 }
/-- slots are forgotten -/
def wipeS (s : Sl) : List Nat → Sl
  | [] => s
  | v :: vs => (wipeS s vs).set v .un
theorem Rel.forget (r : Rel P C s p σ H) (i : Nat) : Rel P C (s.set i .un) p (σ.set i none) H where
  len := by rw [List.length_set, List.length_set]; exact r.len
  pa := r.pa
  ca := r.ca
  ca0 := r.ca0
  pen := r.pen
  dom := r.dom
  dom0 := r.dom0
  base := r.base
  sub := r.sub
  im := fun j e h => by
    rcases set_get h with ⟨_, e1, _⟩ | ⟨hn, h⟩
    · cases e1
    · obtain ⟨u, h1, h2⟩ := r.im j e h
      exact ⟨u, by rw [List.getElem?_set_ne (Ne.symm hn)]; exact h1, h2⟩
  ow := fun j ds h => by
    rcases set_get h with ⟨_, e1, _⟩ | ⟨hn, h⟩
    · cases e1
    · obtain ⟨l, vs, h1, h2⟩ := r.ow j ds h
      exact ⟨l, vs, by rw [List.getElem?_set_ne (Ne.symm hn)]; exact h1, h2⟩
  inj := fun j k ds es l h1 h2 h3 h4 => by
    rcases set_get h1 with ⟨_, e1, _⟩ | ⟨hn, h1⟩
    · cases e1
    · rcases set_get h2 with ⟨_, e1, _⟩ | ⟨hm, h2⟩
      · cases e1
      · rw [List.getElem?_set_ne (Ne.symm hn)] at h3
        rw [List.getElem?_set_ne (Ne.symm hm)] at h4
        exact r.inj j k ds es l h1 h2 h3 h4
theorem Rel.wipe (r : Rel P C s p σ H) : ∀ vs : List Nat, Rel P C (wipeS s vs) p (L2.wipe σ vs) H
  | [] => r
  | v :: vs => Rel.forget (Rel.wipe r vs) v
theorem wipe_get (σ : L2.St) (i : Nat) : ∀ vs : List Nat, (L2.wipe σ vs)[i]? = if i ∈ vs ∧ i < σ.length then some none else σ[i]?
  | [] => by simp [L2.wipe]
  | v :: vs => by
    show ((L2.wipe σ vs).set v none)[i]? = _
    by_cases e : v = i
    · subst e
      by_cases hl : v < σ.length
      · rw [List.getElem?_set_self (by rw [wipe_length]; exact hl), if_pos ⟨List.mem_cons_self, hl⟩]
      · rw [if_neg (fun z => hl z.2), List.getElem?_eq_none (by rw [List.length_set, wipe_length]; omega), List.getElem?_eq_none (by omega)]
    · rw [List.getElem?_set_ne e, wipe_get σ i vs]
      have : (i ∈ v :: vs ∧ i < σ.length) ↔ (i ∈ vs ∧ i < σ.length) := by
        rw [List.mem_cons]
        exact ⟨fun ⟨a, b⟩ => ⟨a.resolve_left (Ne.symm e), b⟩, fun ⟨a, b⟩ => ⟨.inr a, b⟩⟩
      simp only [this]
theorem Off.wipe {vs : List Nat} (o : Off vs (L2.wipe σ vs) σ') : L2.wipe σ' vs = L2.wipe σ vs := by
  refine List.ext_getElem? fun i => ?_
  rw [wipe_get, wipe_get]
  have hl : σ'.length = σ.length := by rw [o.1, wipe_length]
  by_cases hi : i ∈ vs
  · by_cases hlt : i < σ.length
    · rw [if_pos ⟨hi, by omega⟩, if_pos ⟨hi, hlt⟩]
    · rw [if_neg (fun z => hlt (by have := z.2; omega)), if_neg (fun z => hlt z.2), List.getElem?_eq_none (by omega), List.getElem?_eq_none (by omega)]
  · rw [if_neg (fun z => hi z.1), if_neg (fun z => hi z.1), o.2 i hi, wipe_get, if_neg (fun z => hi z.1)]
theorem Off.refl {js : List Nat} : Off js σ σ := ⟨rfl, fun _ _ => rfl⟩
theorem Off.set {i : Nat} {v : Option V} : Off [i] σ (σ.set i v) := ⟨List.length_set, fun j hj => List.getElem?_set_ne (fun z => hj (by rw [← z]; exact List.mem_singleton.mpr rfl))⟩
theorem Off.app {js ks : List Nat} {σ2 : L2.St} (a : Off js σ σ') (b : Off ks σ' σ2) : Off (js ++ ks) σ σ2 := ⟨b.1.trans a.1, fun i hi => by
  rw [List.mem_append, not_or] at hi
  rw [b.2 i hi.2, a.2 i hi.1]⟩
end

/-! ### targets -/
section
variable {P : Par}
def tgN (i : Nat) : D → Sl → Option Sl := fun d s => some (s.set i (.im d))
theorem jg_name (i : Nat) : JG P (gName i) [i] (tgN i) := fun C s p σ H r d v rv s' e Q q => by
  cases e
  exact q _ (r.set i rv) Off.set
def tgNil : List D → Sl → Option Sl
  | [], s => some s
  | _ :: _, _ => none
def tgCons (f : D → Sl → Option Sl) (g : List D → Sl → Option Sl) : List D → Sl → Option Sl
  | [], _ => none
  | d :: ds, s => (f d s).bind (g ds)
theorem jgs_nil : JGs P gNil [] tgNil := fun C s p σ H r ds vs rv s' e Q q => by
  cases ds with
  | nil =>
    cases e
    exact ⟨rv, q _ r Off.refl⟩
  | cons d ds => cases e
theorem jgs_cons {t : TG} {u : TGs} {js ks : List Nat} {f : D → Sl → Option Sl} {g : List D → Sl → Option Sl} (h : JG P t js f) (k : JGs P u ks g) : JGs P (gCons t u) (js ++ ks) (tgCons f g) := fun C s p σ H r ds vs rv s' e Q q => by
  cases ds with
  | nil => cases e
  | cons d ds =>
    obtain ⟨v, ws, rfl, r1, r2⟩ := rv
    have e : (f d s).bind (g ds) = some s' := e
    cases e1 : f d s with
    | none => rw [e1] at e; cases e
    | some s1 =>
      rw [e1] at e
      exact ⟨v, ws, rfl, h C s p σ H r d v r1 s1 e1 _ fun σ1 a1 o1 => k C s1 p σ1 H a1 ds ws r2 s' e Q fun σ2 a2 o2 => q σ2 a2 (o1.app o2)⟩
def tgTup (n : Nat) (g : List D → Sl → Option Sl) : D → Sl → Option Sl
  | .tup ds, s => if ds.length = n then g ds s else none
  | _, _ => none
theorem jg_tup {u : TGs} {n : Nat} {js : List Nat} {g : List D → Sl → Option Sl} (k : JGs P u js g) : JG P (gTup P.K n u) js (tgTup n g) := fun C s p σ H r d v rv s' e Q q => by
  cases d <;> first | cases e | skip
  rename_i ds
  unfold tgTup at e
  dsimp only at e
  split at e
  · rename_i hn
    obtain ⟨a, vs, rfl, h1, h2⟩ := rv
    exact ⟨a, vs, rfl, sqt_ex fz_up h1, by rw [h2.len, hn], k C s p σ H r ds vs h2 s' e Q q⟩
  · cases e
end

/-! ### statements -/
section
variable {P : Par} {ta tb te tc : TE} {fa fb fc : Sl → M D} {tt tu : TT} {ft fu : Sl → M Bool} {t1 t2 : TS} {g1 g2 : Sl → M (Out × Sl)} {tg : TG} {js : List Nat} {ft' : D → Sl → Option Sl}
def sNx : Sl → M (Out × Sl) := fun s => M.pure (.nx, s)
theorem js_nil : JS P tNext sNx := fun C s p σ H r o s' p' e E l => by
  cases e
  exact l C σ H r .refl
def sSeq (g1 g2 : Sl → M (Out × Sl)) : Sl → M (Out × Sl) := fun s => (g1 s).bind fun r => match r.1 with
  | .nx => g2 r.2
  | o => M.pure (o, r.2)
theorem js_seq (h1 : JS P t1 g1) (h2 : JS P t2 g2) : JS P (tSeq t1 t2) (sSeq g1 g2) := fun C s p σ H r o s' p' e E l => by
  obtain ⟨⟨o1, s1⟩, p1, e1, e2⟩ := M.bind_ok e
  refine h1 C s p σ H r o1 s1 p1 e1 { E with nx := t2 E } ?_
  cases o1 with
  | nx => exact fun C1 σ1 H1 r1 go => h2 C1 s1 p1 σ1 H1 r1 o s' p' e2 E (l.back go)
  | rt d => cases e2; exact l
  | bk => cases e2; exact l
  | ct => cases e2; exact l
def sRet (f : Sl → M D) : Sl → M (Out × Sl) := fun s => (f s).bind fun d => M.pure (.rt d, s)
theorem js_ret (h : JE P te fa) : JS P (tRet te) (sRet fa) := fun C s p σ H r o s' p' e E l => by
  obtain ⟨d, p1, e1, e2⟩ := M.bind_ok e
  cases e2
  exact h C s p σ H r d _ e1 _ fun v H1 k1 q1 r1 => l v H1 (r.base.trans k1) q1 (Rv.ex (fz_less r.sub) d v r1)
def sRetN : Sl → M (Out × Sl) := fun s => M.pure (.rt .non, s)
theorem js_retN : JS P tRetN sRetN := fun C s p σ H r o s' p' e E l => by
  cases e
  exact l .non H r.base r.pen rfl
def sIf (c : Sl → M Bool) (g1 g2 : Sl → M (Out × Sl)) : Sl → M (Out × Sl) := fun s => (c s).bind fun b => if b = true then g1 s else g2 s
theorem js_if (hc : JT P tt ft) (h1 : JS P t1 g1) (h2 : JS P t2 g2) : JS P (tIfS tt t1 t2) (sIf ft g1 g2) := fun C s p σ H r o s' p' e E l => by
  obtain ⟨b, p1, e1, e2⟩ := M.bind_ok e
  refine hc C s p σ H r b p1 e1 _ fun H1 k1 q1 => ?_
  have rl := r.keep k1 q1
  cases b with
  | true =>
    rw [if_pos rfl] at e2 ⊢
    exact h1 C s p1 σ H1 rl o s' p' e2 E (l.back (r.go k1))
  | false =>
    rw [if_neg Bool.false_ne_true] at e2 ⊢
    exact h2 C s p1 σ H1 rl o s' p' e2 E (l.back (r.go k1))
def sAsg (f : Sl → M D) (t : D → Sl → Option Sl) : Sl → M (Out × Sl) := fun s => (f s).bind fun d => (M.of (t d s)).bind fun s' => M.pure (.nx, s')
theorem js_asg (h : JE P te fa) (hg : JG P tg js ft') : JS P (tAsg te tg) (sAsg fa ft') := fun C s p σ H r o s' p' e E l => by
  obtain ⟨d, p1, e1, e2⟩ := M.bind_ok e
  obtain ⟨s1, p2, e3, e4⟩ := M.bind_ok e2
  obtain ⟨e5, rfl⟩ := M.of_ok e3
  cases e4
  refine h C s p σ H r d _ e1 _ fun v H1 k1 q1 r1 => ?_
  exact hg C s _ σ H1 (r.keep k1 q1) d v r1 s' e5 _ fun σ1 a1 _ => l C σ1 H1 a1 (r.go k1)
def sDrop (f : Sl → M D) : Sl → M (Out × Sl) := fun s => (f s).bind fun _ => M.pure (.nx, s)
theorem js_drop (h : JE P te fa) : JS P (tDrop te) (sDrop fa) := fun C s p σ H r o s' p' e E l => by
  obtain ⟨d, p1, e1, e2⟩ := M.bind_ok e
  cases e2
  exact h C s p σ H r d _ e1 _ fun v H1 k1 q1 _ => l C σ H1 (r.keep k1 q1) (r.go k1)
def sPar (i j : Nat) (f : Sl → M (List D)) : Sl → M (Out × Sl) := fun s => (f s).bind fun ds => match ds with
  | [a, b] => M.pure (.nx, (s.set i (.im a)).set j (.im b))
  | _ => M.no
theorem js_par {i j : Nat} {t : TA} {f : Sl → M (List D)} (h : JA P t f) : JS P (tPar i j t) (sPar i j f) := fun C s p σ H r o s' p' e E l => by
  obtain ⟨ds, p1, e1, e2⟩ := M.bind_ok e
  match ds, e1, e2 with
  | [a, b], e1, e2 =>
    cases e2
    refine h C s p σ H r _ _ e1 _ fun vs H1 k1 q1 r1 => ?_
    obtain ⟨v, r', rfl, x1, w, r'', rfl, x2, rfl⟩ := r1
    have rl := r.keep k1 q1
    exact ⟨v, w, rfl, l C _ H1 ((rl.set i x1).set j x2) (r.go k1)⟩
  | [], _, e2 => cases e2
  | [_], _, e2 => cases e2
  | _ :: _ :: _ :: _, _, e2 => cases e2
/-- a new list, of nobody else's -/
def JL (P : Par) (te : TE) (f : Sl → M (List D)) : Prop := ∀ C s p σ H, Rel P C s p σ H → ∀ ds p', f s p = .ok ds p' → ∀ Q : VK,
  (∀ a vs H', H a = none → Keep P H H' → PenAt P H' p' → H' a = some (.lst vs) → Rvs P (hid (fun l => C.O l ∨ l = a) H') ds vs → Q (.ref a) H') → te σ H Q
def eL (f : Sl → M (List D)) : Sl → M D := fun s => (f s).bind fun ds => M.pure (.lst ds)
theorem j_ofL {f : Sl → M (List D)} (h : JL P te f) : JE P te (eL f) := fun C s p σ H r d p' e Q q => by
  obtain ⟨ds, p1, e1, e2⟩ := M.bind_ok e
  cases e2
  exact h C s p σ H r ds _ e1 Q fun a vs H' hn k q' ha rv => q _ H' k q' ⟨a, vs, rfl, fz_some.mpr ⟨r.free hn, ha⟩, Rvs.ex (fz_less fun _ z => .inl z) ds vs rv⟩
def lLst (f : Sl → M (List D)) : Sl → M (List D) := fun s => (f s).bind fun ds => if sz ds.length = true then M.pure ds else M.no
theorem jl_lst {t : TA} {f : Sl → M (List D)} (h : JA P t f) : JL P (tLst t) (lLst f) := fun C s p σ H rl ds p' e Q q => by
  obtain ⟨es, p1, h1, e⟩ := M.bind_ok e
  split at e
  · rename_i hz
    cases e
    refine h C s p σ H rl _ _ h1 _ fun vs H1 k1 q1 r1 => ⟨by rw [r1.len]; exact sz_ok hz, fun a ha => ?_⟩
    have rl1 := rl.keep k1 q1
    have hH : H a = none := by
      cases z : H a with
      | none => rfl
      | some o =>
        by_cases y : P.hot a
        · obtain ⟨u, y⟩ := q1.hot y; rw [y] at ha; cases ha
        · rw [k1 a o y z] at ha; cases ha
    refine q a vs _ hH (k1.trans (.new ha)) (q1.keepNew ha) upd_same (Rvs.ex (fun b o e => ?_) _ vs r1)
    obtain ⟨e1, e2⟩ := fz_some.mp e
    refine fz_some.mpr ⟨fun z => ?_, Ex.new ha b o e2⟩
    rcases z with z | z
    · exact e1 z
    · subst z; rw [ha] at e2; cases e2
  · cases e
def sOwn (i : Nat) (f : Sl → M (List D)) : Sl → M (Out × Sl) := fun s => (f s).bind fun ds => M.pure (.nx, s.set i (.ow ds))
theorem js_own {i : Nat} {f : Sl → M (List D)} (h : JL P te f) : JS P (tAsg te (gName i)) (sOwn i f) := fun C s p σ H r o s' p' e E l => by
  obtain ⟨ds, p1, e1, e2⟩ := M.bind_ok e
  cases e2
  refine h C s p σ H r ds _ e1 _ fun a vs H' hn k q' ha rv => ?_
  have r' : Rel P C s p' σ H' := r.keep k q'
  -- from the state ahead, with the pen as it is behind
  have rp : Rel P { C with O := fun l => C.O l ∨ l = a } (s.set i (.ow ds)) p' (σ.set i (some (.ref a))) H' := by
    have z := r.setOw (H' := H') i (a := a) (ds := ds) (vs := vs) hn k
    have n0 : C.H0 a = none := by
      cases e : C.H0 a with
      | none => rfl
      | some o =>
        by_cases y : P.hot a
        · obtain ⟨u, y⟩ := r.pen.hot y; rw [y] at hn; cases hn
        · rw [r.base a o y e] at hn; cases hn
    have up := (r.goOw hn k).fz
    exact
      { len := by rw [List.length_set, List.length_set]; exact r.len
        pa := r.pa, ca := (fun z => z.elim r.ca fun e => by have q := r.pen.2.2.1; rw [e, hn] at q; cases q), ca0 := r.ca0, pen := q'
        dom := fun l hl => by
          rcases hl with hl | hl
          · exact r'.dom l hl
          · subst hl; exact ⟨_, ha⟩
        dom0 := r.dom0, base := r'.base, sub := fun l hl => .inl (r.sub l hl)
        im := fun j e h => by
          rcases set_get h with ⟨_, e1, _⟩ | ⟨hne, h⟩
          · cases e1
          · obtain ⟨u, h1, h2⟩ := r.im j e h
            exact ⟨u, by rw [List.getElem?_set_ne (Ne.symm hne)]; exact h1, Rv.ex up e u h2⟩
        ow := fun j es h => by
          rcases set_get h with ⟨rfl, e1, hl⟩ | ⟨hne, h⟩
          · cases e1
            exact ⟨a, vs, List.getElem?_set_self (by rw [r.len]; exact hl), .inr rfl, n0, ha, rv⟩
          · obtain ⟨l, ws, h1, h2, h3, h4, h5⟩ := r.ow j es h
            exact ⟨l, ws, by rw [List.getElem?_set_ne (Ne.symm hne)]; exact h1, .inl h2, h3, k l _ (r.npa h3) h4, Rvs.ex up es ws h5⟩
        inj := fun j m es fs l h1 h2 h3 h4 => by
          have na : ∀ l, C.O l → l ≠ a := fun l z e => r.free hn (e ▸ z)
          rcases set_get h1 with ⟨rfl, e1, hl1⟩ | ⟨hn1, h1'⟩
          · rcases set_get h2 with ⟨rfl, _, _⟩ | ⟨hn2, h2⟩
            · rfl
            · rw [List.getElem?_set_self (by rw [r.len]; exact hl1)] at h3
              rw [List.getElem?_set_ne (Ne.symm hn2)] at h4
              obtain ⟨l2, _, g1, g2, _⟩ := r.ow m fs h2
              rw [g1] at h4
              cases h3
              cases h4
              exact absurd rfl (na _ g2)
          · rcases set_get h2 with ⟨rfl, e1, hl2⟩ | ⟨hn2, h2'⟩
            · rw [List.getElem?_set_self (by rw [r.len]; exact hl2)] at h4
              rw [List.getElem?_set_ne (Ne.symm hn1)] at h3
              obtain ⟨l2, _, g1, g2, _⟩ := r.ow j es h1'
              rw [g1] at h3
              cases h3
              cases h4
              exact absurd rfl (na _ g2)
            · rw [List.getElem?_set_ne (Ne.symm hn1)] at h3
              rw [List.getElem?_set_ne (Ne.symm hn2)] at h4
              exact r.inj j m es fs l h1' h2' h3 h4 }
  exact l _ _ H' rp (r.goOw hn k)
/-- xs.append(e), xs an own list -/
def sApp (i : Nat) (f : Sl → M D) : Sl → M (Out × Sl) := fun s => (f s).bind fun d => match s[i]? with
  | some (.ow ds) => if sz (ds.length + 1) = true then M.pure (.nx, s.set i (.ow (ds ++ [d]))) else M.no
  | _ => M.no
theorem js_app {i : Nat} (h : JE P te fa) : JS P (tDrop (tBM P.K "list" rAppend (tVar i) (tCons te tNil))) (sApp i fa) := fun C s p σ H r o s' p' e E l => by
  obtain ⟨d, p1, e1, e2⟩ := M.bind_ok e
  cases hi : s[i]? with
  | none => rw [hi] at e2; cases e2
  | some z =>
    cases z with
    | un => rw [hi] at e2; cases e2
    | im d => rw [hi] at e2; cases e2
    | ow ds =>
      rw [hi] at e2
      dsimp only at e2
      split at e2
      · rename_i hz
        cases e2
        obtain ⟨a, vs, h1, h2, h3, h4, h5⟩ := r.ow i ds hi
        refine ⟨.ref a, h1, Or.inl ⟨rfl, vs, Evl.sq_of h4⟩, ?_⟩
        refine h C s p σ H r d _ e1 _ fun v H1 k1 q1 r1 => ?_
        have rl := r.keep k1 q1
        have h4' := k1 a _ (r.npa h3) h4
        refine ⟨a, vs, v, rfl, rfl, h4', by rw [h5.len]; have := of_decide_eq_true (show decide (ds.length + 1 ≤ 100000) = true from hz); exact Evl.sz_lt (by omega), ?_⟩
        obtain ⟨x1, x2⟩ := rl.chg hi h1 h2 h3 h4' ((Rvs.ex (r.fz k1) ds vs h5).app (Rvs.one r1))
        exact l C σ _ x1 ((r.go k1).trans x2)
      · cases e2
/-- an own list is given away ahead of a statement -/
theorem js_frz (i : Nat) (h : JS P t1 g1) : JS P t1 (fun s => g1 (frzS i s)) := fun C s p σ H r o s' p' e E l => by
  obtain ⟨C1, r1, go⟩ := r.frz i
  exact h C1 _ p σ H r1 o s' p' e E (l.back go)
/-! ### loops -/
def loopD (t : D → Sl → Option Sl) (g : Sl → M (Out × Sl)) : List D → Sl → M (Out × Sl)
  | [], s => M.pure (.nx, s)
  | d :: ds, s => (M.of (t d s)).bind fun s1 => (g s1).bind fun r => match r.1 with
    | .nx => loopD t g ds r.2
    | .ct => loopD t g ds r.2
    | .bk => M.pure (.nx, r.2)
    | .rt v => M.pure (.rt v, r.2)
/-- one turn -/
theorem loop_turn {C C1 : Fr} {s1 : Sl} {p1 : Pen} {σ1 : L2.St} {H H1 : Hp} {d : D} {ds : List D} {x : V} {o : Out} {sf : Sl} {pf : Pen} {E : Ends} {W : L2.St → Hp → Prop} (hg : JG P tg js ft') (hb : JS P t1 g1) (l : Lands P C H o sf pf E)
    (r1 : Rel P C1 s1 p1 σ1 H1) (go : Go P C C1 H H1) (rx : Rv P (hid C1.O H1) d x) (e : loopD ft' g1 (d :: ds) s1 p1 = .ok (o, sf) pf)
    (hW : ∀ C2 s2 p2 σ2 H2, Rel P C2 s2 p2 σ2 H2 → Go P C C2 H H2 → loopD ft' g1 ds s2 p2 = .ok (o, sf) pf → W σ2 H2) : tg x σ1 H1 fun σ2 H2 => t1 { E with nx := W, ct := W, bk := E.nx } σ2 H2 := by
  obtain ⟨s2, p2, e1, e2⟩ := M.bind_ok e
  obtain ⟨e3, rfl⟩ := M.of_ok e1
  obtain ⟨⟨o3, s3⟩, p3, e4, e5⟩ := M.bind_ok e2
  refine hg C1 s1 _ σ1 H1 r1 d x rx s2 e3 _ fun σ2 a2 _ => ?_
  refine hb C1 s2 _ σ2 H1 a2 o3 s3 p3 e4 _ ?_
  cases o3 with
  | nx => exact fun C4 σ4 H4 r4 g4 => hW C4 s3 p3 σ4 H4 r4 (go.trans g4) e5
  | ct => exact fun C4 σ4 H4 r4 g4 => hW C4 s3 p3 σ4 H4 r4 (go.trans g4) e5
  | bk =>
    cases e5
    exact fun C4 σ4 H4 r4 g4 => l C4 σ4 H4 r4 (go.trans g4)
  | rt v =>
    cases e5
    exact (l.back go)
def unL : D → Option (List D)
  | .lst ds => some ds
  | _ => none
def unT : D → Option (List D)
  | .tup ds => some ds
  | _ => none
def sForL (f : Sl → M D) (t : D → Sl → Option Sl) (g : Sl → M (Out × Sl)) : Sl → M (Out × Sl) := fun s => (f s).bind fun d => (M.of (unL d)).bind fun ds => loopD t g ds s
def sForT (f : Sl → M D) (t : D → Sl → Option Sl) (g : Sl → M (Out × Sl)) : Sl → M (Out × Sl) := fun s => (f s).bind fun d => (M.of (unT d)).bind fun ds => loopD t g ds s
theorem drop_at {α : Type} {l : List α} {i : Nat} {x : α} (h : l[i]? = some x) : l.drop i = x :: l.drop (i + 1) := by
  obtain ⟨hl, e⟩ := List.getElem?_eq_some_iff.mp h
  rw [← e]
  exact List.drop_eq_getElem_cons hl
theorem js_forL (ha : JE P te fa) (hg : JG P tg js ft') (hb : JS P t1 g1) : JS P (tFor (iList P.K te) tg t1) (sForL fa ft' g1) := fun C s p σ H r o sf pf e E l => by
  obtain ⟨d, p1, e1, e2⟩ := M.bind_ok e
  obtain ⟨ds, p2, e3, e4⟩ := M.bind_ok e2
  obtain ⟨e5, rfl⟩ := M.of_ok e3
  cases d <;> cases e5
  refine ha C s p σ H r _ _ e1 _ fun v H1 k1 q1 r1 => ?_
  obtain ⟨a, vs, rfl, h1, h2⟩ := r1
  have rl := r.keep k1 q1
  have go1 := r.go k1
  refine ⟨a, rfl, ⟨vs, Evl.sq_of (fz_some.mp h1).2⟩, for_list (xs := vs) (fun i σ' H' => ∃ C' s' p', Rel P C' s' p' σ' H' ∧ Go P C C' H1 H' ∧ loopD ft' g1 (ds.drop i) s' p' = .ok (o, sf) pf) ⟨C, s, _, rl, .refl, e4⟩ ?_ ?_ ?_⟩
  · rintro i σ' H' _ ⟨C', s', p', r', g', _⟩
    exact Evl.sq_of (fz_some.mp (g'.fz a _ h1)).2
  · rintro i x σ' H' hx ⟨C', s', p', r', g', e'⟩
    obtain ⟨dx, hd, rx⟩ := h2.getv hx
    rw [drop_at hd] at e'
    exact loop_turn hg hb (l.back go1) r' g' (Rv.ex g'.fz dx x rx) e' fun C2 s2 p2 σ2 H2 r2 g2 e2 => ⟨C2, s2, p2, r2, g2, e2⟩
  · rintro σ' H' ⟨C', s', p', r', g', e'⟩
    rw [List.drop_eq_nil_of_le (by rw [h2.len]; exact Nat.le_refl _)] at e'
    cases e'
    exact l C' σ' H' r' (go1.trans g')
theorem js_forT (ha : JE P te fa) (hg : JG P tg js ft') (hb : JS P t1 g1) : JS P (tFor (iTup P.K te) tg t1) (sForT fa ft' g1) := fun C s p σ H r o sf pf e E l => by
  obtain ⟨d, p1, e1, e2⟩ := M.bind_ok e
  obtain ⟨ds, p2, e3, e4⟩ := M.bind_ok e2
  obtain ⟨e5, rfl⟩ := M.of_ok e3
  cases d <;> cases e5
  refine ha C s p σ H r _ _ e1 _ fun v H1 k1 q1 r1 => ?_
  obtain ⟨a, vs, rfl, h1, h2⟩ := r1
  have rl := r.keep k1 q1
  have go1 := r.go k1
  refine ⟨a, rfl, ⟨vs, sqt_ex fz_up h1⟩, for_tup (xs := vs) (fun i σ' H' => ∃ C' s' p', Rel P C' s' p' σ' H' ∧ Go P C C' H1 H' ∧ loopD ft' g1 (ds.drop i) s' p' = .ok (o, sf) pf) ⟨C, s, _, rl, .refl, e4⟩ ?_ ?_ ?_⟩
  · rintro i σ' H' _ ⟨C', s', p', r', g', _⟩
    exact sqt_ex (g'.fz.trans fz_up) h1
  · rintro i x σ' H' hx ⟨C', s', p', r', g', e'⟩
    obtain ⟨dx, hd, rx⟩ := h2.getv hx
    rw [drop_at hd] at e'
    exact loop_turn hg hb (l.back go1) r' g' (Rv.ex g'.fz dx x rx) e' fun C2 s2 p2 σ2 H2 r2 g2 e2 => ⟨C2, s2, p2, r2, g2, e2⟩
  · rintro σ' H' ⟨C', s', p', r', g', e'⟩
    rw [List.drop_eq_nil_of_le (by rw [h2.len]; exact Nat.le_refl _)] at e'
    cases e'
    exact l C' σ' H' r' (go1.trans g')
/-- ranges -/
def rngD (lo : Int) (n : Nat) : List D := (List.range n).map fun i : Nat => D.int (lo + (i : Int))
theorem rngD_len (lo : Int) (n : Nat) : (rngD lo n).length = n := by unfold rngD; rw [List.length_map, List.length_range]
theorem rngD_at {lo : Int} {n i : Nat} (h : i < n) : (rngD lo n)[i]? = some (.int (lo + (i : Int))) := by
  unfold rngD
  rw [List.getElem?_map, List.getElem?_range h]
  rfl
def rg1 : List D → Option (Int × Nat)
  | [.int j] => if decide (-1000000 ≤ j ∧ j ≤ 1000000) = true then some (0, j.toNat) else none
  | _ => none
def rg2 : List D → Option (Int × Nat)
  | [.int i, .int j] => if decide (-1000000 ≤ i ∧ i ≤ 1000000 ∧ -1000000 ≤ j ∧ j ≤ 1000000) = true then some (i, (j - i).toNat) else none
  | _ => none
theorem rg1_ok {ds : List D} {lo : Int} {n : Nat} (h : rg1 ds = some (lo, n)) : ∃ j : Int, ds = [.int j] ∧ -1000000 ≤ j ∧ j ≤ 1000000 ∧ lo = 0 ∧ n = j.toNat := by
  match ds, h with
  | [.int j], h =>
    unfold rg1 at h
    dsimp only at h
    split at h
    · rename_i hz
      cases h
      have := of_decide_eq_true hz
      exact ⟨j, rfl, this.1, this.2, rfl, rfl⟩
    · cases h
theorem rg2_ok {ds : List D} {lo : Int} {n : Nat} (h : rg2 ds = some (lo, n)) : ∃ i j : Int, ds = [.int i, .int j] ∧ (-1000000 ≤ i ∧ i ≤ 1000000 ∧ -1000000 ≤ j ∧ j ≤ 1000000) ∧ lo = i ∧ n = (j - i).toNat := by
  match ds, h with
  | [.int i, .int j], h =>
    unfold rg2 at h
    dsimp only at h
    split at h
    · rename_i hz
      cases h
      exact ⟨_, j, rfl, of_decide_eq_true hz, rfl, rfl⟩
    · cases h
def sForR (rg : List D → Option (Int × Nat)) (f : Sl → M (List D)) (t : D → Sl → Option Sl) (g : Sl → M (Out × Sl)) : Sl → M (Out × Sl) := fun s => (f s).bind fun ds => (M.of (rg ds)).bind fun r => loopD t g (rngD r.1 r.2) s
theorem forR_core {C : Fr} {s : Sl} {p : Pen} {σ : L2.St} {H : Hp} {o : Out} {sf : Sl} {pf : Pen} {E : Ends} {lo : Int} {n : Nat} (hg : JG P tg js ft') (hb : JS P t1 g1) (rl : Rel P C s p σ H) (l : Lands P C H o sf pf E) (e : loopD ft' g1 (rngD lo n) s p = .ok (o, sf) pf) :
    ∃ W : Nat → Nat → L2.St → Hp → Prop, (∃ m, W 0 m σ H) ∧ ∀ i m σ H, W i m σ H →
      ((Itr lo n).stop i H ∧ E.nx σ H) ∨ ((Itr lo n).go i H ∧ ∃ N : L2.St → Hp → Prop, (∀ σ' H', N σ' H' → ∃ m', m' < m ∧ W (i + 1) m' σ' H') ∧ ∀ x H', (Itr lo n).yld i H x H' → tg x σ H' fun σ2 H2 => t1 { E with nx := N, ct := N, bk := E.nx } σ2 H2) := by
  refine for_range (fun i σ' H' => ∃ C' s' p', Rel P C' s' p' σ' H' ∧ Go P C C' H H' ∧ loopD ft' g1 ((rngD lo n).drop i) s' p' = .ok (o, sf) pf) ⟨C, s, p, rl, .refl, e⟩ ?_ ?_
  · rintro i σ' H' hi ⟨C', s', p', r', g', e'⟩
    rw [drop_at (rngD_at hi)] at e'
    exact loop_turn hg hb l r' g' (show Rv P (hid C'.O H') (.int (lo + (i : Int))) (.int (lo + (i : Int))) from rfl) e' fun C2 s2 p2 σ2 H2 r2 g2 e2 => ⟨C2, s2, p2, r2, g2, e2⟩
  · rintro σ' H' ⟨C', s', p', r', g', e'⟩
    rw [List.drop_eq_nil_of_le (by rw [rngD_len]; exact Nat.le_refl _)] at e'
    cases e'
    exact l C' σ' H' r' g'
theorem js_forR1 {t : TA} {f : Sl → M (List D)} (ha : JA P t f) (hg : JG P tg js ft') (hb : JS P t1 g1) : JS P (tFor (iRng1 t) tg t1) (sForR rg1 f ft' g1) := fun C s p σ H r o sf pf e E l => by
  obtain ⟨ds, p1, e1, e2⟩ := M.bind_ok e
  obtain ⟨⟨lo, n⟩, p2, e3, e4⟩ := M.bind_ok e2
  obtain ⟨e5, rfl⟩ := M.of_ok e3
  obtain ⟨j, rfl, b1, b2, rfl, rfl⟩ := rg1_ok e5
  refine ha C s p σ H r _ _ e1 _ fun vs H1 k1 q1 r1 => ?_
  obtain ⟨v, r', rfl, x1, x2⟩ := r1
  cases x1
  cases x2
  exact ⟨j, rfl, by omega, by omega, forR_core hg hb (r.keep k1 q1) (l.back (r.go k1)) e4⟩
theorem js_forR2 {t : TA} {f : Sl → M (List D)} (ha : JA P t f) (hg : JG P tg js ft') (hb : JS P t1 g1) : JS P (tFor (iRng2 t) tg t1) (sForR rg2 f ft' g1) := fun C s p σ H r o sf pf e E l => by
  obtain ⟨ds, p1, e1, e2⟩ := M.bind_ok e
  obtain ⟨⟨lo, n⟩, p2, e3, e4⟩ := M.bind_ok e2
  obtain ⟨e5, rfl⟩ := M.of_ok e3
  obtain ⟨i, j, rfl, ⟨b1, b2, b3, b4⟩, rfl, rfl⟩ := rg2_ok e5
  refine ha C s p σ H r _ _ e1 _ fun vs H1 k1 q1 r1 => ?_
  obtain ⟨v, r', rfl, x1, w, r'', rfl, x2, x3⟩ := r1
  cases x1
  cases x2
  cases x3
  exact ⟨lo, j, rfl, ⟨by omega, by omega, by omega, by omega⟩, forR_core hg hb (r.keep k1 q1) (l.back (r.go k1)) e4⟩
end
end Z
end
section
set_option Elab.async false
set_option linter.all false
set_option maxRecDepth 100000
set_option maxHeartbeats 2000000
/-! Z: comprehensions -/
namespace Z
open PySem L2
open Evl (Ex)
section
variable {P : Par} {C : Fr} {s : Sl} {p p' : Pen} {σ : L2.St} {H H1 H' : Hp}
/-- a new object joins what is protected -/
theorem Rel.under (r : Rel P C s p σ H) {a : Addr} {o : HO} (hn : H a = none) (k : Keep P H H') (q : PenAt P H' p') (ha : H' a = some o) : Rel P { C with O := fun l => C.O l ∨ l = a } s p' σ H' := by
  have r' := r.keep k q
  have up := (r.goOw hn k).fz
  exact
    { len := r.len, pa := r.pa, ca := (fun z => z.elim r.ca fun e => by have q := r.pen.2.2.1; rw [e, hn] at q; cases q), ca0 := r.ca0, pen := q
      dom := fun l hl => by
        rcases hl with hl | hl
        · exact r'.dom l hl
        · subst hl; exact ⟨_, ha⟩
      dom0 := r.dom0, base := r'.base, sub := fun l hl => .inl (r.sub l hl)
      im := fun j e h => by
        obtain ⟨u, h1, h2⟩ := r.im j e h
        exact ⟨u, h1, Rv.ex up e u h2⟩
      ow := fun j es h => by
        obtain ⟨l, ws, h1, h2, h3, h4, h5⟩ := r.ow j es h
        exact ⟨l, ws, h1, .inl h2, h3, k l _ (r.npa h3) h4, Rvs.ex up es ws h5⟩
      inj := r.inj }
theorem lost {a : Addr} (k : Keep P H H1) (q : PenAt P H1 p) (h : H1 a = none) : H a = none := by
  cases e : H a with
  | none => rfl
  | some o =>
    by_cases z : P.hot a
    · obtain ⟨u, y⟩ := q.hot z; rw [y] at h; cases h
    · rw [k a o z e] at h; cases h
end
/-! ### the plain side -/
def lcD (t : D → Sl → Option Sl) (ft : Sl → M Bool) (fe : Sl → M D) : List D → Sl → M (List D)
  | [], _ => M.pure []
  | d :: ds, s => (M.of (t d s)).bind fun s1 => (ft s1).bind fun b => if b = true then (fe s1).bind fun y => (lcD t ft fe ds s).bind fun r => M.pure (y :: r) else lcD t ft fe ds s
theorem lcD_len {t : D → Sl → Option Sl} {ft : Sl → M Bool} {fe : Sl → M D} : ∀ {ds : List D} {s : Sl} {p p' : Pen} {r : List D}, lcD t ft fe ds s p = .ok r p' → r.length ≤ ds.length
  | [], s, p, p', r, e => by cases e; exact Nat.le_refl _
  | d :: ds, s, p, p', r, e => by
    obtain ⟨s1, p1, e1, e2⟩ := M.bind_ok e
    obtain ⟨b, p2, e3, e4⟩ := M.bind_ok e2
    cases b with
    | true =>
      rw [if_pos rfl] at e4
      obtain ⟨y, p3, e5, e6⟩ := M.bind_ok e4
      obtain ⟨r1, p4, e7, e8⟩ := M.bind_ok e6
      cases e8
      have := lcD_len e7
      simp only [List.length_cons]
      omega
    | false =>
      rw [if_neg Bool.false_ne_true] at e4
      have := lcD_len e4
      simp only [List.length_cons]
      omega
/-- between two turns: what is made so far stands at L, what is left will give rest -/
structure Mid (P : Par) (C : Fr) (t : D → Sl → Option Sl) (ft : Sl → M Bool) (fe : Sl → M D) (sw : Sl) (total : List D) (pf : Pen) (H1 : Hp) (L : Addr) (ds : List D) (p : Pen) (H : Hp) (acc : List D) (vs : List V) : Prop where
  keep : Keep P H1 H
  pen : PenAt P H p
  at_ : H L = some (.lst vs)
  rv : Rvs P (hid (fun l => C.O l ∨ l = L) H) acc vs
  eq : ∃ rest, lcD t ft fe ds sw p = .ok rest pf ∧ acc ++ rest = total
section
variable {P : Par} {C : Fr} {s : Sl} {p pf : Pen} {σ : L2.St} {H1 H : Hp} {t : D → Sl → Option Sl} {ft : Sl → M Bool} {fe : Sl → M D} {sw : Sl} {total : List D} {L : Addr} {d : D} {ds acc : List D} {avs : List V} {tg : TG} {vs : List Nat} {tt : TT} {te : TE}
theorem hid_at {O : Addr → Prop} {H : Hp} {L : Addr} {o : HO} (h : O L) : Ex (hid O H) (hid O (upd H L o)) := fun b u e => by
  obtain ⟨e1, e2⟩ := fz_some.mp e
  exact fz_some.mpr ⟨e1, by rw [upd_ne (fun z => e1 (by rw [z]; exact h))]; exact e2⟩
theorem lc_turn {pr : Pen} (r : Rel P C sw pr (L2.wipe σ vs) H1) (hL : H1 L = none) (hz : total.length ≤ 100000) (hg : JG P tg vs t) (ht : JT P tt ft) (he : JE P te fe)
    (m : Mid P C t ft fe sw total pf H1 L (d :: ds) p H acc avs) {x : V} (rx : Rv P (hid C.O H1) d x) (W : Hp → Prop) (hW : ∀ p' H' acc' avs', Mid P C t ft fe sw total pf H1 L ds p' H' acc' avs' → W H') :
    tg x (L2.wipe σ vs) H fun σ2 H2 => L2.wipe σ2 vs = L2.wipe σ vs ∧ tt σ2 H2 fun b H3 =>
      if b = true then te σ2 H3 fun y H4 => ∃ acc, H4 L = some (.lst acc) ∧ acc.length < sizeLine ∧ W (upd H4 L (.lst (acc ++ [y]))) else W H3 := by
  obtain ⟨rest, e, et⟩ := m.eq
  have nL : ¬ P.hot L := fun z => by obtain ⟨u, y⟩ := r.pen.hot z; rw [y] at hL; cases hL
  have nL2 : L ≠ P.ca := fun z => by rw [z, r.pen.2.2.1] at hL; cases hL
  have ru := r.under hL m.keep m.pen m.at_
  obtain ⟨s1, p1, e1, e2⟩ := M.bind_ok e
  obtain ⟨e3, rfl⟩ := M.of_ok e1
  obtain ⟨b, p2, e4, e5⟩ := M.bind_ok e2
  refine hg _ sw _ _ H ru d x (Rv.ex ((r.goOw hL m.keep).fz) d x rx) s1 e3 _ fun σ2 a2 of2 => ⟨of2.wipe, ?_⟩
  refine ht _ s1 _ σ2 H a2 b p2 e4 _ fun H3 k3 q3 => ?_
  have r3 := a2.keep k3 q3
  have up3 := a2.fz k3
  cases b with
  | false =>
    rw [if_neg Bool.false_ne_true] at e5 ⊢
    exact hW p2 H3 acc avs ⟨m.keep.trans k3, q3, k3 L _ nL m.at_, Rvs.ex up3 acc avs m.rv, rest, e5, et⟩
  | true =>
    rw [if_pos rfl] at e5 ⊢
    obtain ⟨y, p4, e6, e7⟩ := M.bind_ok e5
    obtain ⟨r1, p5, e8, e9⟩ := M.bind_ok e7
    cases e9
    refine he _ s1 p2 σ2 H3 r3 y p4 e6 _ fun v H4 k4 q4 r4 => ?_
    have up4 := r3.fz k4
    have at4 : H4 L = some (.lst avs) := k4 L _ nL (k3 L _ nL m.at_)
    have la : avs.length = acc.length := m.rv.len
    refine ⟨avs, at4, Evl.sz_lt ?_, ?_⟩
    · have : acc.length + 1 ≤ total.length := by rw [← et, List.length_append, List.length_cons]; omega
      omega
    · refine hW p4 _ (acc ++ [y]) (avs ++ [v]) ⟨fun b o n z => ?_, q4.upd nL nL2 at4, upd_same, ?_, r1, e8, by rw [List.append_assoc]; exact et⟩
      · rw [upd_ne (fun y => by rw [y, hL] at z; cases z)]
        exact k4 b o n (k3 b o n (m.keep b o n z))
      · exact Rvs.ex (hid_at (.inr rfl)) _ _ ((Rvs.ex (up3.trans up4) acc avs m.rv).app (Rvs.one r4))
theorem lc_start {pr : Pen} {rest : List D} (r : Rel P C sw pr (L2.wipe σ vs) H1) (hL : H1 L = none) (e : lcD t ft fe ds sw pr = .ok total pf) : Mid P C t ft fe sw total pf H1 L ds pr (upd H1 L (.lst [])) [] [] :=
  ⟨.new hL, r.pen.keepNew hL, upd_same, rfl, total, e, rfl⟩
end
section
variable {P : Par} {ta te : TE} {fi fe : Sl → M D} {tt : TT} {ft : Sl → M Bool} {tg : TG} {vs : List Nat} {t : D → Sl → Option Sl}
def lcOf (vs : List Nat) (un : D → Option (List D)) (fi : Sl → M D) (t : D → Sl → Option Sl) (ft : Sl → M Bool) (fe : Sl → M D) : Sl → M (List D) := fun s => (fi s).bind fun d => (M.of (un d)).bind fun ds => if sz ds.length = true then lcD t ft fe ds (wipeS s vs) else M.no
theorem lc_fin {C : Fr} {s : Sl} {p p1 pf : Pen} {σ : L2.St} {H H1 H' : Hp} {total : List D} {L : Addr} {acc : List D} {avs : List V} {Q : VK} (r : Rel P C s p σ H) (k1 : Keep P H H1) (q1 : PenAt P H1 p1) (hL : H1 L = none) {sw : Sl}
    {p2 : Pen} (m : Mid P C t ft fe sw total pf H1 L [] p2 H' acc avs)
    (q : ∀ a vs H', H a = none → Keep P H H' → PenAt P H' pf → H' a = some (.lst vs) → Rvs P (hid (fun l => C.O l ∨ l = a) H') total vs → Q (.ref a) H') : Q (.ref L) H' := by
  obtain ⟨rest, e, et⟩ := m.eq
  cases e
  rw [List.append_nil] at et
  subst et
  exact q L avs H' (lost k1 q1 hL) (k1.trans m.keep) m.pen m.at_ m.rv
theorem jl_lcL (hi : JE P ta fi) (hg : JG P tg vs t) (ht : JT P tt ft) (he : JE P te fe) : JL P (tLc (iList P.K ta) tg tt te vs) (lcOf vs unL fi t ft fe) := fun C s p σ H r total pf e Q q => by
  obtain ⟨d, p1, e1, e2⟩ := M.bind_ok e
  obtain ⟨ds, p2, e3, e4⟩ := M.bind_ok e2
  obtain ⟨e5, rfl⟩ := M.of_ok e3
  split at e4
  · rename_i hz
    cases d <;> cases e5
    refine hi C s p σ H r _ _ e1 _ fun v H1 k1 q1 r1 => ?_
    obtain ⟨a, ws, rfl, h1, h2⟩ := r1
    have rw := (r.keep k1 q1).wipe vs
    have hz' : total.length ≤ 100000 := Nat.le_trans (lcD_len e4) (of_decide_eq_true hz)
    refine ⟨a, rfl, ⟨ws, Evl.sq_of (fz_some.mp h1).2⟩, fun L hL => lc_list (xs := ws) (fun i H' => ∃ p' acc avs, Mid P C t ft fe (wipeS s vs) total pf H1 L (ds.drop i) p' H' acc avs) ⟨_, _, _, lc_start (rest := []) rw hL e4⟩ ?_ ?_ ?_⟩
    · rintro i H' _ ⟨p', acc, avs, m⟩
      exact Evl.sq_of (m.keep a _ (fun z => (fz_some.mp h1).1 (r.paO _ z)) (fz_some.mp h1).2)
    · rintro i x H' hx ⟨p', acc, avs, m⟩
      obtain ⟨dx, hd, rx⟩ := h2.getv hx
      rw [drop_at hd] at m
      exact lc_turn rw hL hz' hg ht he m rx _ fun p2 H2 acc2 avs2 m2 => ⟨p2, acc2, avs2, m2⟩
    · rintro H' ⟨p', acc, avs, m⟩
      rw [List.drop_eq_nil_of_le (by rw [h2.len]; exact Nat.le_refl _)] at m
      exact lc_fin r k1 q1 hL m q
  · cases e4
theorem jl_lcT (hi : JE P ta fi) (hg : JG P tg vs t) (ht : JT P tt ft) (he : JE P te fe) : JL P (tLc (iTup P.K ta) tg tt te vs) (lcOf vs unT fi t ft fe) := fun C s p σ H r total pf e Q q => by
  obtain ⟨d, p1, e1, e2⟩ := M.bind_ok e
  obtain ⟨ds, p2, e3, e4⟩ := M.bind_ok e2
  obtain ⟨e5, rfl⟩ := M.of_ok e3
  split at e4
  · rename_i hz
    cases d <;> cases e5
    refine hi C s p σ H r _ _ e1 _ fun v H1 k1 q1 r1 => ?_
    obtain ⟨a, ws, rfl, h1, h2⟩ := r1
    have rw := (r.keep k1 q1).wipe vs
    have hz' : total.length ≤ 100000 := Nat.le_trans (lcD_len e4) (of_decide_eq_true hz)
    refine ⟨a, rfl, ⟨ws, sqt_ex fz_up h1⟩, fun L hL => lc_tup (xs := ws) (fun i H' => ∃ p' acc avs, Mid P C t ft fe (wipeS s vs) total pf H1 L (ds.drop i) p' H' acc avs) ⟨_, _, _, lc_start (rest := []) rw hL e4⟩ ?_ ?_ ?_⟩
    · rintro i H' _ ⟨p', acc, avs, m⟩
      exact sqt_ex ((fz_keep r.paO m.keep).trans fz_up) h1
    · rintro i x H' hx ⟨p', acc, avs, m⟩
      obtain ⟨dx, hd, rx⟩ := h2.getv hx
      rw [drop_at hd] at m
      exact lc_turn rw hL hz' hg ht he m rx _ fun p2 H2 acc2 avs2 m2 => ⟨p2, acc2, avs2, m2⟩
    · rintro H' ⟨p', acc, avs, m⟩
      rw [List.drop_eq_nil_of_le (by rw [h2.len]; exact Nat.le_refl _)] at m
      exact lc_fin r k1 q1 hL m q
  · cases e4
def lcRg (vs : List Nat) (rg : List D → Option (Int × Nat)) (fi : Sl → M (List D)) (t : D → Sl → Option Sl) (ft : Sl → M Bool) (fe : Sl → M D) : Sl → M (List D) := fun s => (fi s).bind fun ds => (M.of (rg ds)).bind fun r => if sz r.2 = true then lcD t ft fe (rngD r.1 r.2) (wipeS s vs) else M.no
theorem lc_rng_core {C : Fr} {s : Sl} {p p1 pf : Pen} {σ : L2.St} {H H1 : Hp} {total : List D} {lo : Int} {n : Nat} {Q : VK} (r : Rel P C s p σ H) (k1 : Keep P H H1) (q1 : PenAt P H1 p1) (hz : sz n = true) (hg : JG P tg vs t) (ht : JT P tt ft) (he : JE P te fe)
    (e4 : lcD t ft fe (rngD lo n) (wipeS s vs) p1 = .ok total pf)
    (q : ∀ a vs H', H a = none → Keep P H H' → PenAt P H' pf → H' a = some (.lst vs) → Rvs P (hid (fun l => C.O l ∨ l = a) H') total vs → Q (.ref a) H') :
    ∀ L, H1 L = none → ∃ W : Nat → Nat → Hp → Prop, (∃ m, W 0 m (upd H1 L (.lst []))) ∧ ∀ i m H, W i m H →
      ((Itr lo n).stop i H ∧ Q (.ref L) H) ∨ ((Itr lo n).go i H ∧ ∃ Nx : Hp → Prop, (∀ H', Nx H' → ∃ m', m' < m ∧ W (i + 1) m' H') ∧ ∀ x H', (Itr lo n).yld i H x H' → tg x (L2.wipe σ vs) H' fun σ2 H2 => L2.wipe σ2 vs = L2.wipe σ vs ∧ tt σ2 H2 fun b H3 =>
        if b = true then te σ2 H3 fun y H4 => ∃ acc, H4 L = some (.lst acc) ∧ acc.length < sizeLine ∧ Nx (upd H4 L (.lst (acc ++ [y]))) else Nx H3) := fun L hL => by
  have rw := (r.keep k1 q1).wipe vs
  have hz' : total.length ≤ 100000 := by
    have h := lcD_len e4
    rw [rngD_len] at h
    exact Nat.le_trans h (of_decide_eq_true hz)
  refine lc_range (fun i H' => ∃ p' acc avs, Mid P C t ft fe (wipeS s vs) total pf H1 L ((rngD lo n).drop i) p' H' acc avs) ⟨_, _, _, lc_start (rest := []) rw hL e4⟩ ?_ ?_
  · rintro i H' hi ⟨p', acc, avs, m⟩
    rw [drop_at (rngD_at hi)] at m
    exact lc_turn rw hL hz' hg ht he m (show Rv P (hid C.O H1) (.int (lo + (i : Int))) (.int (lo + (i : Int))) from rfl) _ fun p2 H2 acc2 avs2 m2 => ⟨p2, acc2, avs2, m2⟩
  · rintro H' ⟨p', acc, avs, m⟩
    rw [List.drop_eq_nil_of_le (by rw [rngD_len]; exact Nat.le_refl _)] at m
    exact lc_fin r k1 q1 hL m q
theorem jl_lcR1 {ts : TA} {f : Sl → M (List D)} (hi : JA P ts f) (hg : JG P tg vs t) (ht : JT P tt ft) (he : JE P te fe) : JL P (tLc (iRng1 ts) tg tt te vs) (lcRg vs rg1 f t ft fe) := fun C s p σ H r total pf e Q q => by
  obtain ⟨ds, p1, e1, e2⟩ := M.bind_ok e
  obtain ⟨⟨lo, n⟩, p2, e3, e4⟩ := M.bind_ok e2
  obtain ⟨e5, rfl⟩ := M.of_ok e3
  obtain ⟨j, rfl, b1, b2, rfl, rfl⟩ := rg1_ok e5
  dsimp only at e4
  split at e4
  · rename_i hz
    refine hi C s p σ H r _ _ e1 _ fun ws H1 k1 q1 r1 => ?_
    obtain ⟨v, r', rfl, x1, x2⟩ := r1
    cases x1
    cases x2
    exact ⟨j, rfl, by omega, by omega, lc_rng_core r k1 q1 hz hg ht he e4 q⟩
  · cases e4
theorem jl_lcR2 {ts : TA} {f : Sl → M (List D)} (hi : JA P ts f) (hg : JG P tg vs t) (ht : JT P tt ft) (he : JE P te fe) : JL P (tLc (iRng2 ts) tg tt te vs) (lcRg vs rg2 f t ft fe) := fun C s p σ H r total pf e Q q => by
  obtain ⟨ds, p1, e1, e2⟩ := M.bind_ok e
  obtain ⟨⟨lo, n⟩, p2, e3, e4⟩ := M.bind_ok e2
  obtain ⟨e5, rfl⟩ := M.of_ok e3
  obtain ⟨i, j, rfl, ⟨b1, b2, b3, b4⟩, rfl, rfl⟩ := rg2_ok e5
  dsimp only at e4
  split at e4
  · rename_i hz
    refine hi C s p σ H r _ _ e1 _ fun ws H1 k1 q1 r1 => ?_
    obtain ⟨v, r', rfl, x1, w, r'', rfl, x2, x3⟩ := r1
    cases x1
    cases x2
    cases x3
    exact ⟨_, j, rfl, ⟨by omega, by omega, by omega, by omega⟩, lc_rng_core r k1 q1 hz hg ht he e4 q⟩
  · cases e4
end
end Z
end
section
set_option Elab.async false
set_option linter.all false
set_option maxRecDepth 100000
set_option maxHeartbeats 2000000
/-! Z: operations and calls -/
namespace Z
open PySem L2
open Evl (Ex)
mutual
def toP : D → PyData
  | .non => .none
  | .bl b => .bool b
  | .int i => .int i
  | .str x => .str x
  | .tup ds => .tuple (toPs ds)
  | .lst ds => .list (toPs ds)
  | _ => .none
def toPs : List D → List PyData
  | [] => []
  | d :: ds => toP d :: toPs ds
end
mutual
def plain : D → Bool
  | .non => true
  | .bl _ => true
  | .int _ => true
  | .str _ => true
  | .tup ds => plains ds
  | .lst ds => plains ds
  | _ => false
def plains : List D → Bool
  | [] => true
  | d :: ds => plain d && plains ds
end
theorem toPs_map : ∀ ds, toPs ds = ds.map toP
  | [] => rfl
  | d :: ds => by rw [toPs, toPs_map ds]; rfl
theorem plains_all : ∀ ds, plains ds = ds.all plain
  | [] => rfl
  | d :: ds => by rw [plains, plains_all ds]; rfl
section
variable {P : Par} {H : Hp}
mutual
theorem Rv.dp : ∀ (d : D) (v : V), plain d = true → Rv P H d v → Dp P.K H v (toP d)
  | .non, _, _, h => by rw [show _ = _ from h]; exact .non
  | .bl b, _, _, h => by rw [show _ = _ from h]; exact .bl b
  | .int i, _, _, h => by rw [show _ = _ from h]; exact .int i
  | .str x, _, _, h => by rw [show _ = _ from h]; exact .str x
  | .tup ds, _, hp, ⟨a, vs, h1, h2, h3⟩ => by
    subst h1
    exact .tup h2 (Rvs.dp ds vs (by simpa only [plain] using hp) h3)
  | .lst ds, _, hp, ⟨a, vs, h1, h2, h3⟩ => by
    subst h1
    exact .lst (Evl.sq_of h2) (Rvs.dp ds vs (by simpa only [plain] using hp) h3)
  | .dic _ _, _, hp, _ => by simp only [plain] at hp; cases hp
  | .ins _ _ _, _, hp, _ => by simp only [plain] at hp; cases hp
  | .ty _, _, hp, _ => by simp only [plain] at hp; cases hp
  | .pen, _, hp, _ => by simp only [plain] at hp; cases hp
theorem Rvs.dp : ∀ (ds : List D) (vs : List V), plains ds = true → Rvs P H ds vs → DpAll P.K H vs (toPs ds)
  | [], _, _, h => by rw [show _ = _ from h]; exact .nil
  | d :: ds, _, hp, ⟨v, r, h1, h2, h3⟩ => by
    subst h1
    simp only [plains, Bool.and_eq_true] at hp
    exact .cons (Rv.dp d v hp.1 h2) (Rvs.dp ds r hp.2 h3)
end
end
def fitD (d : D) : Bool := plain d && SeqAt.shaped (toP d)
theorem fitD_ok {d : D} (h : fitD d = true) : plain d = true ∧ SeqAt.shaped (toP d) = true := by
  simpa only [fitD, Bool.and_eq_true] using h
section
variable {P : Par}
/-! == at any depth -/
def dEqD (x y : D) : Option D := if fitD x = true ∧ fitD y = true then some (.bl (PyData.eqv (toP x) (toP y))) else none
def dNeD (x y : D) : Option D := if fitD x = true ∧ fitD y = true then some (.bl (!PyData.eqv (toP x) (toP y))) else none
theorem jr_eqD : JR P (rEqD P.K) dEqD := fun O H x y dx dy hp hd rx ry d h Q q => by
  unfold dEqD at h
  split at h
  · rename_i hf
    cases h
    obtain ⟨a1, a2⟩ := fitD_ok hf.1
    obtain ⟨b1, b2⟩ := fitD_ok hf.2
    exact ⟨_, _, Rv.dp dx x a1 (Rv.ex fz_up dx x rx), Rv.dp dy y b1 (Rv.ex fz_up dy y ry), a2, b2, q _ H (Evl.Ex.refl H) rfl⟩
  · cases h
theorem jr_neD : JR P (rNeD P.K) dNeD := fun O H x y dx dy hp hd rx ry d h Q q => by
  unfold dNeD at h
  split at h
  · rename_i hf
    cases h
    obtain ⟨a1, a2⟩ := fitD_ok hf.1
    obtain ⟨b1, b2⟩ := fitD_ok hf.2
    exact ⟨_, _, Rv.dp dx x a1 (Rv.ex fz_up dx x rx), Rv.dp dy y b1 (Rv.ex fz_up dy y ry), a2, b2, q _ H (Evl.Ex.refl H) rfl⟩
  · cases h
/-! in a list, at any depth -/
def hasD (x : D) (ds : List D) : Bool := ds.any fun z => PyData.eqv (toP z) (toP x)
def dInD : D → D → Option D
  | x, .lst ds => if fitD x = true ∧ fitD (.lst ds) = true then some (.bl (hasD x ds)) else none
  | _, _ => none
def dNotInD : D → D → Option D
  | x, .lst ds => if fitD x = true ∧ fitD (.lst ds) = true then some (.bl (!hasD x ds)) else none
  | _, _ => none
theorem hasD_eq (x : D) (ds : List D) : ((toPs ds).any fun z => PyData.eqv z (toP x)) = hasD x ds := by
  rw [toPs_map, List.any_map]
  rfl
theorem jr_inD : JR P (rInD P.K) dInD := fun O H x y dx dy hp hd rx ry d h Q q => by
  cases dy <;> first | (cases dx <;> cases h) | skip
  rename_i ds
  have h : (if fitD dx = true ∧ fitD (.lst ds) = true then some (D.bl (hasD dx ds)) else none) = some d := by cases dx <;> exact h
  split at h
  · rename_i hf
    cases h
    obtain ⟨a1, a2⟩ := fitD_ok hf.1
    obtain ⟨b1, b2⟩ := fitD_ok hf.2
    refine ⟨_, toPs ds, Rv.dp dx x a1 (Rv.ex fz_up dx x rx), Rv.dp (.lst ds) y b1 (Rv.ex fz_up (.lst ds) y ry), a2, b2, ?_⟩
    rw [hasD_eq]
    exact q _ H (Evl.Ex.refl H) rfl
  · cases h
theorem jr_notInD : JR P (rNotInD P.K) dNotInD := fun O H x y dx dy hp hd rx ry d h Q q => by
  cases dy <;> first | (cases dx <;> cases h) | skip
  rename_i ds
  have h : (if fitD dx = true ∧ fitD (.lst ds) = true then some (D.bl (!hasD dx ds)) else none) = some d := by cases dx <;> exact h
  split at h
  · rename_i hf
    cases h
    obtain ⟨a1, a2⟩ := fitD_ok hf.1
    obtain ⟨b1, b2⟩ := fitD_ok hf.2
    refine ⟨_, toPs ds, Rv.dp dx x a1 (Rv.ex fz_up dx x rx), Rv.dp (.lst ds) y b1 (Rv.ex fz_up (.lst ds) y ry), a2, b2, ?_⟩
    rw [hasD_eq]
    exact q _ H (Evl.Ex.refl H) rfl
  · cases h
/-! in an own list -/
def eInOw (neg : Bool) (i : Nat) (f : Sl → M D) : Sl → M D := fun s => (f s).bind fun x => match s[i]? with
  | some (.ow ds) => if fitD x = true ∧ fitD (.lst ds) = true then M.pure (.bl (if neg = true then !hasD x ds else hasD x ds)) else M.no
  | _ => M.no
theorem Rel.owDp {C : Fr} {s : Sl} {p : Pen} {σ : L2.St} {H : Hp} {i : Nat} {ds : List D} (r : Rel P C s p σ H) (hi : s[i]? = some (.ow ds)) (hf : fitD (.lst ds) = true) : ∃ a, σ[i]? = some (some (.ref a)) ∧ Dp P.K H (.ref a) (.list (toPs ds)) := by
  obtain ⟨a, vs, h1, h2, h3, h4, h5⟩ := r.ow i ds hi
  refine ⟨a, h1, .lst (Evl.sq_of h4) (Rvs.dp ds vs ?_ (Rvs.ex fz_up ds vs h5))⟩
  have := (fitD_ok hf).1
  simpa only [plain] using this
theorem j_notInOw {te : TE} {fe : Sl → M D} {i : Nat} (h : JE P te fe) : JE P (tOp (rNotInD P.K) te (tVar i)) (eInOw true i fe) := fun C s p σ H r d p' e Q q => by
  obtain ⟨x, p1, e1, e2⟩ := M.bind_ok e
  cases hi : s[i]? with
  | none => rw [hi] at e2; cases e2
  | some z =>
    cases z with
    | un => rw [hi] at e2; cases e2
    | im d => rw [hi] at e2; cases e2
    | ow ds =>
      rw [hi] at e2
      dsimp only at e2
      split at e2
      · rename_i hf
        cases e2
        refine h C s p σ H r x _ e1 _ fun v H1 k1 q1 r1 => ?_
        have rl := r.keep k1 q1
        obtain ⟨a, h1, h2⟩ := rl.owDp hi hf.2
        obtain ⟨a1, a2⟩ := fitD_ok hf.1
        refine ⟨_, h1, _, toPs ds, Rv.dp x v a1 (Rv.ex fz_up x v r1), h2, a2, (fitD_ok hf.2).2, ?_⟩
        rw [hasD_eq]
        exact q _ H1 k1 q1 rfl
      · cases e2
theorem j_inOw {te : TE} {fe : Sl → M D} {i : Nat} (h : JE P te fe) : JE P (tOp (rInD P.K) te (tVar i)) (eInOw false i fe) := fun C s p σ H r d p' e Q q => by
  obtain ⟨x, p1, e1, e2⟩ := M.bind_ok e
  cases hi : s[i]? with
  | none => rw [hi] at e2; cases e2
  | some z =>
    cases z with
    | un => rw [hi] at e2; cases e2
    | im d => rw [hi] at e2; cases e2
    | ow ds =>
      rw [hi] at e2
      dsimp only at e2
      split at e2
      · rename_i hf
        cases e2
        refine h C s p σ H r x _ e1 _ fun v H1 k1 q1 r1 => ?_
        have rl := r.keep k1 q1
        obtain ⟨a, h1, h2⟩ := rl.owDp hi hf.2
        obtain ⟨a1, a2⟩ := fitD_ok hf.1
        refine ⟨_, h1, _, toPs ds, Rv.dp x v a1 (Rv.ex fz_up x v r1), h2, a2, (fitD_ok hf.2).2, ?_⟩
        rw [hasD_eq]
        exact q _ H1 k1 q1 rfl
      · cases e2
/-! len, items, slices -/
def dLen : List D → Option D
  | [.lst ds] => some (.int ds.length)
  | [.tup ds] => some (.int ds.length)
  | _ => none
theorem jc_len : JC P (fun xs H Q => ∃ p ys, xs = [.ref p] ∧ (SqL P.K H p ys ∨ SqT P.K H p ys) ∧ Q (.int ys.length) H) dLen := fun O H xs ds hp hd r d h Q q => by
  match ds, h with
  | [.lst es], h =>
    cases h
    obtain ⟨v, r', rfl, ⟨a, vs, rfl, h1, h2⟩, h3⟩ := r
    cases h3
    refine ⟨a, vs, rfl, .inl (Evl.sq_of (fz_some.mp h1).2), q _ H (Evl.Ex.refl H) ?_⟩
    rw [h2.len]
    exact rfl
  | [.tup es], h =>
    cases h
    obtain ⟨v, r', rfl, ⟨a, vs, rfl, h1, h2⟩, h3⟩ := r
    cases h3
    refine ⟨a, vs, rfl, .inr (sqt_ex fz_up h1), q _ H (Evl.Ex.refl H) ?_⟩
    rw [h2.len]
    exact rfl
theorem Rvs.atI {H : Hp} {ds : List D} {vs : List V} {i : Int} {d : D} (r : Rvs P H ds vs) (h : L2.atI ds i = some d) : ∃ v, L2.atI vs i = some v ∧ Rv P H d v := by
  unfold L2.atI at h ⊢
  rw [r.len]
  cases e : ixN ds.length i with
  | none => rw [e] at h; cases h
  | some j =>
    rw [e] at h
    exact r.get h
def dIxL : D → D → Option D
  | .lst ds, .int i => L2.atI ds i
  | _, _ => none
def dIxT : D → D → Option D
  | .tup ds, .int i => L2.atI ds i
  | _, _ => none
theorem jr_ixL : JR P (rIxL P.K) dIxL := fun O H x y dx dy hp hd rx ry d h Q q => by
  cases dx <;> cases dy <;> first | cases h | skip
  obtain ⟨a, vs, rfl, h1, h2⟩ := rx
  obtain ⟨v, e, rv⟩ := h2.atI h
  exact ⟨a, vs, _, v, rfl, ry, Evl.sq_of (fz_some.mp h1).2, e, q v H (Evl.Ex.refl H) rv⟩
theorem jr_ixT : JR P (rIxT P.K) dIxT := fun O H x y dx dy hp hd rx ry d h Q q => by
  cases dx <;> cases dy <;> first | cases h | skip
  obtain ⟨a, vs, rfl, h1, h2⟩ := rx
  obtain ⟨v, e, rv⟩ := h2.atI h
  exact ⟨a, vs, _, v, rfl, ry, sqt_ex fz_up h1, e, q v H (Evl.Ex.refl H) rv⟩
def JO (P : Par) (to : TO) (f : Sl → M (Option Int)) : Prop := ∀ C s p σ H, Rel P C s p σ H → ∀ o p', f s p = .ok o p' → ∀ Q : Option Int → Hp → Prop, (∀ H', Keep P H H' → PenAt P H' p' → Q o H') → to σ H Q
def oNone : Sl → M (Option Int) := fun _ => M.pure none
def asI : D → Option Int
  | .int i => some i
  | _ => none
theorem asI_ok {d : D} {i : Int} (h : asI d = some i) : d = .int i := by
  cases d <;> cases h <;> rfl
def oPart (f : Sl → M D) : Sl → M (Option Int) := fun s => (f s).bind fun d => (M.of (asI d)).bind fun i => M.pure (some i)
theorem jo_none : JO P tNoPart oNone := fun C s p σ H r o p' e Q q => by
  cases e
  exact q H (.refl H) r.pen
theorem jo_part {te : TE} {fe : Sl → M D} (h : JE P te fe) : JO P (tPart te) (oPart fe) := fun C s p σ H r o p' e Q q => by
  obtain ⟨d, p1, e1, e2⟩ := M.bind_ok e
  obtain ⟨i, p2, e3, e4⟩ := M.bind_ok e2
  obtain ⟨e5, rfl⟩ := M.of_ok e3
  have e6 := asI_ok e5
  subst e6
  cases e4
  exact h C s p σ H r _ _ e1 _ fun v H1 k1 q1 r1 => ⟨i, r1, q H1 k1 q1⟩
def cutD (ds : List D) (lo hi : Option Int) : List D := (ds.drop (HT.sIx ds.length 0 lo)).take (HT.sIx ds.length ds.length hi - HT.sIx ds.length 0 lo)
def eSlL (f : Sl → M D) (fl fh : Sl → M (Option Int)) : Sl → M D := fun s => (f s).bind fun d => (fl s).bind fun l => (fh s).bind fun h => match d with
  | .lst ds => M.pure (.lst (cutD ds l h))
  | _ => M.no
theorem j_slL {te : TE} {tl th : TO} {fe : Sl → M D} {fl fh : Sl → M (Option Int)} (he : JE P te fe) (hl : JO P tl fl) (hh : JO P th fh) : JE P (tSl (rSlL P.K) te tl th) (eSlL fe fl fh) := fun C s p σ H r d p' e Q q => by
  obtain ⟨x, p1, e1, e2⟩ := M.bind_ok e
  obtain ⟨l, p2, e3, e4⟩ := M.bind_ok e2
  obtain ⟨h, p3, e5, e6⟩ := M.bind_ok e4
  cases x <;> cases e6
  rename_i ds
  refine he C s p σ H r _ _ e1 _ fun v H1 k1 q1 r1 => ?_
  obtain ⟨a, vs, rfl, h1, h2⟩ := r1
  have rl1 := r.keep k1 q1
  refine hl C s p1 σ H1 rl1 l _ e3 _ fun H2 k2 q2 => ?_
  have rl2 := rl1.keep k2 q2
  refine hh C s p2 σ H2 rl2 h _ e5 _ fun H3 k3 q3 => ?_
  have rl3 := rl2.keep k3 q3
  have k := (rl1.fz k2).trans (rl2.fz k3)
  refine ⟨a, vs, rfl, Evl.sq_of (fz_some.mp (k a _ h1)).2, fun b hb => ?_⟩
  refine q _ _ (((k1.trans k2).trans k3).trans (.new hb)) (q3.keepNew hb) ⟨b, cutV vs l h, rfl, fz_new rl3.dom hb, ?_⟩
  unfold cutD cutV
  rw [h2.len]
  exact Rvs.take _ (Rvs.drop _ (Rvs.ex (k.trans (fz_ex (Ex.new hb))) _ _ h2))
/-! list(..), tuple(..) of lists and tuples; list(range(..)) -/
def dList : List D → Option D
  | [.lst ds] => some (.lst ds)
  | [.tup ds] => some (.lst ds)
  | _ => none
theorem jc_list : JC P (fun xs H Q => ∃ p ys, xs = [.ref p] ∧ (SqL P.K H p ys ∨ SqT P.K H p ys) ∧ ∀ l, H l = none → Q (.ref l) (upd H l (.lst ys))) dList := fun O H xs ds hp hd r d h Q q => by
  match ds, h with
  | [.lst es], h =>
    cases h
    obtain ⟨v, r', rfl, ⟨a, vs, rfl, h1, h2⟩, h3⟩ := r
    cases h3
    exact ⟨a, vs, rfl, .inl (Evl.sq_of (fz_some.mp h1).2), fun l hl => q _ _ (Ex.new hl) ⟨l, vs, rfl, fz_new hd hl, Rvs.ex (fz_ex (Ex.new hl)) _ _ h2⟩⟩
  | [.tup es], h =>
    cases h
    obtain ⟨v, r', rfl, ⟨a, vs, rfl, h1, h2⟩, h3⟩ := r
    cases h3
    exact ⟨a, vs, rfl, .inr (sqt_ex fz_up h1), fun l hl => q _ _ (Ex.new hl) ⟨l, vs, rfl, fz_new hd hl, Rvs.ex (fz_ex (Ex.new hl)) _ _ h2⟩⟩
def dTuple : List D → Option D
  | [.lst ds] => some (.tup ds)
  | [.tup ds] => some (.tup ds)
  | _ => none
theorem jc_tuple : JC P (fun xs H Q => ∃ p ys, xs = [.ref p] ∧ ((SqL P.K H p ys ∧ ∀ l, H l = none → Q (.ref l) (upd H l (.tup ys))) ∨ (SqT P.K H p ys ∧ Q (.ref p) H))) dTuple := fun O H xs ds hp hd r d h Q q => by
  match ds, h with
  | [.lst es], h =>
    cases h
    obtain ⟨v, r', rfl, ⟨a, vs, rfl, h1, h2⟩, h3⟩ := r
    cases h3
    exact ⟨a, vs, rfl, .inl ⟨Evl.sq_of (fz_some.mp h1).2, fun l hl => q _ _ (Ex.new hl) ⟨l, vs, rfl, .inl (.inl (fz_new hd hl)), Rvs.ex (fz_ex (Ex.new hl)) _ _ h2⟩⟩⟩
  | [.tup es], h =>
    cases h
    obtain ⟨v, r', rfl, ⟨a, vs, rfl, h1, h2⟩, h3⟩ := r
    cases h3
    exact ⟨a, vs, rfl, .inr ⟨sqt_ex fz_up h1, q _ H (Evl.Ex.refl H) ⟨a, vs, rfl, h1, h2⟩⟩⟩
theorem rgV_rngD {H : Hp} (a : Int) : ∀ (b : Int), Rvs P H (rngD a (b - a).toNat) (rgV a b) := fun b => by
  unfold rngD rgV
  generalize (List.range (b - a).toNat) = l
  induction l with
  | nil => exact rfl
  | cons x l ih => exact ⟨_, _, rfl, rfl, ih⟩
def lRg1 (f : Sl → M D) : Sl → M (List D) := fun s => (f s).bind fun d => (M.of (rg1 [d])).bind fun r => M.pure (rngD r.1 r.2)
def lRg2 (f g : Sl → M D) : Sl → M (List D) := fun s => (f s).bind fun d => (g s).bind fun e => (M.of (rg2 [d, e])).bind fun r => M.pure (rngD r.1 r.2)
theorem fz_in {C : Fr} {H1 : Hp} {b : Addr} {o : HO} (hb : H1 b = none) : Ex (hid C.O H1) (hid (fun l => C.O l ∨ l = b) (upd H1 b o)) := fun c u e => by
  obtain ⟨e1, e2⟩ := fz_some.mp e
  refine fz_some.mpr ⟨fun z => ?_, Ex.new hb c u e2⟩
  rcases z with z | z
  · exact e1 z
  · rw [z, hb] at e2; cases e2
theorem jl_rg1 {ta : TE} {fa : Sl → M D} (h : JE P ta fa) : JL P (tLstRg (tRg1 ta)) (lRg1 fa) := fun C s p σ H r ds p' e Q q => by
  obtain ⟨d, p1, e1, e2⟩ := M.bind_ok e
  obtain ⟨⟨lo, n⟩, p2, e3, e4⟩ := M.bind_ok e2
  obtain ⟨e5, rfl⟩ := M.of_ok e3
  obtain ⟨j, e6, b1, b2, rfl, rfl⟩ := rg1_ok e5
  cases e6
  cases e4
  refine h C s p σ H r _ _ e1 _ fun v H1 k1 q1 r1 => ⟨j, r1, ⟨by omega, by omega, by omega, by omega, by omega⟩, fun b hb => ?_⟩
  refine q b _ _ (lost k1 q1 hb) (k1.trans (.new hb)) (q1.keepNew hb) upd_same ?_
  have := rgV_rngD (P := P) (H := hid (fun l => C.O l ∨ l = b) (upd H1 b (.lst (rgV 0 j)))) 0 j
  rw [Int.sub_zero] at this
  exact this
theorem jl_rg2 {ta tb : TE} {fa fb : Sl → M D} (h : JE P ta fa) (h2 : JE P tb fb) : JL P (tLstRg (tRg2 ta tb)) (lRg2 fa fb) := fun C s p σ H r ds p' e Q q => by
  obtain ⟨d, p1, e1, e2⟩ := M.bind_ok e
  obtain ⟨d', p1', e1', e2⟩ := M.bind_ok e2
  obtain ⟨⟨lo, n⟩, p2, e3, e4⟩ := M.bind_ok e2
  obtain ⟨e5, rfl⟩ := M.of_ok e3
  obtain ⟨i, j, e6, ⟨b1, b2, b3, b4⟩, rfl, rfl⟩ := rg2_ok e5
  cases e6
  cases e4
  refine h C s p σ H r _ _ e1 _ fun v H1 k1 q1 r1 => ?_
  refine h2 C s p1 σ H1 (r.keep k1 q1) _ _ e1' _ fun v2 H2 k2 q2 r2 => ⟨_, j, r1, r2, ⟨by omega, by omega, by omega, by omega, by omega⟩, fun b hb => ?_⟩
  exact q b _ _ (lost (k1.trans k2) q2 hb) ((k1.trans k2).trans (.new hb)) (q2.keepNew hb) upd_same (rgV_rngD _ j)
/-! numbers -/
def dInt : List D → Option D
  | [.int i] => some (.int i)
  | [.bl b] => some (.int (if b then 1 else 0))
  | _ => none
theorem jc_int : JC P (fun xs H Q => (∃ i, xs = [.int i] ∧ Q (.int i) H) ∨ ∃ k, xs = [.bl k] ∧ Q (.int (if k then 1 else 0)) H) dInt := fun O H xs ds hp hd r d h Q q => by
  match ds, h with
  | [.int i], h =>
    cases h
    obtain ⟨v, r', rfl, h1, h3⟩ := r
    cases h3
    exact .inl ⟨i, by rw [show v = _ from h1], q _ H (Evl.Ex.refl H) rfl⟩
  | [.bl b], h =>
    cases h
    obtain ⟨v, r', rfl, h1, h3⟩ := r
    cases h3
    exact .inr ⟨b, by rw [show v = _ from h1], q _ H (Evl.Ex.refl H) rfl⟩
def dAbs : List D → Option D
  | [.int i] => some (.int (if i < 0 then -i else i))
  | _ => none
theorem jc_abs : JC P (fun xs H Q => ∃ i, xs = [.int i] ∧ Q (.int (if i < 0 then -i else i)) H) dAbs := fun O H xs ds hp hd r d h Q q => by
  match ds, h with
  | [.int i], h =>
    cases h
    obtain ⟨v, r', rfl, h1, h3⟩ := r
    cases h3
    exact ⟨i, by rw [show v = _ from h1], q _ H (Evl.Ex.refl H) rfl⟩
def dMax2 : List D → Option D
  | [.int i, .int j] => some (.int (if j > i then j else i))
  | _ => none
def dMin2 : List D → Option D
  | [.int i, .int j] => some (.int (if j < i then j else i))
  | _ => none
theorem jc_max2 : JC P (fun xs H Q => ∃ i j, xs = [.int i, .int j] ∧ Q (.int (if j > i then j else i)) H) dMax2 := fun O H xs ds hp hd r d h Q q => by
  match ds, h with
  | [.int i, .int j], h =>
    cases h
    obtain ⟨v, r', rfl, h1, w, r'', rfl, h2, h3⟩ := r
    cases h3
    exact ⟨i, j, by rw [show v = _ from h1, show w = _ from h2], q _ H (Evl.Ex.refl H) rfl⟩
theorem jc_min2 : JC P (fun xs H Q => ∃ i j, xs = [.int i, .int j] ∧ Q (.int (if j < i then j else i)) H) dMin2 := fun O H xs ds hp hd r d h Q q => by
  match ds, h with
  | [.int i, .int j], h =>
    cases h
    obtain ⟨v, r', rfl, h1, w, r'', rfl, h2, h3⟩ := r
    cases h3
    exact ⟨i, j, by rw [show v = _ from h1, show w = _ from h2], q _ H (Evl.Ex.refl H) rfl⟩
def min3I (i j k : Int) : Int := let m := if j < i then j else i; if k < m then k else m
def dMin3 : List D → Option D
  | [.int i, .int j, .int k] => some (.int (min3I i j k))
  | _ => none
theorem jc_min3 : JC P (rNuC3 nuMin3) dMin3 := fun O H xs ds hp hd r d h Q q => by
  match ds, h with
  | [.int i, .int j, .int k], h =>
    cases h
    obtain ⟨v, r', rfl, h1, w, r'', rfl, h2, u, r3, rfl, h4, h3⟩ := r
    cases h3
    rw [show v = _ from h1, show w = _ from h2, show u = _ from h4]
    refine ⟨.int i, .int j, .int k, .int (min3I i j k), rfl, ?_, q _ H (Evl.Ex.refl H) rfl⟩
    show (Option.map _ (some (decide (j < i)))).bind _ = _
    unfold min3I
    by_cases h : j < i
    · by_cases h' : k < j
      · simp [h, h', nuMin2, nuLt, nuCB]
      · simp [h, h', nuMin2, nuLt, nuCB]
    · by_cases h' : k < i
      · simp [h, h', nuMin2, nuLt, nuCB]
      · simp [h, h', nuMin2, nuLt, nuCB]
end
end Z
end
section
set_option Elab.async false
set_option linter.all false
set_option maxRecDepth 100000
set_option maxHeartbeats 2000000
/-! Z: isinstance, repr, tuples, the pen -/
namespace Z
open PySem L2
open Evl (Ex)
section
variable {P : Par}
theorem j_ty {n : String} : JE P (tC (.ty n)) (eC (.ty n)) := j_c fun _ => rfl
def tyD : D → Option String
  | .non => some "NoneType"
  | .bl _ => some "bool"
  | .int _ => some "int"
  | .str _ => some "str"
  | .tup _ => some "tuple"
  | .lst _ => some "list"
  | .dic _ _ => some "dict"
  | _ => none
theorem tyD_ok {H : Hp} {d : D} {v : V} {a : String} (h : tyD d = some a) (r : Rv P H d v) : TyX P.K H v (.type a) := by
  cases d <;> cases h
  · rw [show v = _ from r]; exact .base .non
  · rw [show v = _ from r]; exact .base (.bl _)
  · rw [show v = _ from r]; exact .base (.int _)
  · rw [show v = _ from r]; exact .base (.str _)
  · obtain ⟨a, vs, rfl, h1, _⟩ := r
    rcases h1 with (h1 | ⟨o, h1⟩) | ⟨o, its, n, h1, h2, _⟩
    · exact .base (.tup h1)
    · exact .fTuple h1
    · exact .kTuple h1 h2
  · obtain ⟨a, vs, rfl, h1, _⟩ := r
    exact .base (.lst h1)
  · obtain ⟨a, kvs, rfl, h1, _⟩ := r
    exact .base (.dK h1)
def isT (a n : String) : Bool := a == n || (a == "bool" && n == "int")
def tyAll : List String := ["NoneType", "bool", "int", "str", "tuple", "list", "dict"]
def tyAsk : List String := ["bool", "int", "str", "tuple", "list", "dict"]
theorem kit_tab : (tyAll.all fun a => tyAsk.all fun n => decide (kitB a n = some (isT a n))) = true := by decide +kernel
theorem tyD_in {d : D} {a : String} (h : tyD d = some a) : a ∈ tyAll := by
  cases d <;> cases h <;> decide
theorem kit_at {a n : String} (h1 : a ∈ tyAll) (h2 : tyAsk.contains n = true) : PySem.W.kitOne P.K (.type a) (.type n) = some (isT a n) := by
  have := List.all_eq_true.mp (List.all_eq_true.mp kit_tab a h1) n (by simpa using h2)
  exact kit_ty (of_decide_eq_true this)
def dIsi : List D → Option D
  | [x, .ty n] => match tyD x with
    | some a => if tyAsk.contains n = true then some (.bl (isT a n)) else none
    | none => none
  | _ => none
theorem jc_isi : JC P (rIsi P.K) dIsi := fun O H xs ds hp hd r d h Q q => by
  match ds, h with
  | [x, .ty n], h =>
    obtain ⟨v, r', rfl, h1, w, r'', rfl, h2, h3⟩ := r
    cases h3
    rw [show w = _ from h2]
    unfold dIsi at h
    dsimp only at h
    cases e : tyD x with
    | none => rw [e] at h; cases h
    | some a =>
      rw [e] at h
      dsimp only at h
      split at h
      · rename_i hn
        cases h
        exact ⟨v, .ty n, .type a, .type n, isT a n, rfl, .ty n, tyD_ok e (Rv.ex fz_up x v h1), kit_at (tyD_in e) hn, q _ H (Evl.Ex.refl H) rfl⟩
      · cases h
/-- isinstance(x, (a, b)) -/
def eIsi2 (a b : String) (f : Sl → M D) : Sl → M D := fun s => (f s).bind fun x => match tyD x with
  | some t => if tyAsk.contains a = true ∧ tyAsk.contains b = true then M.pure (.bl (isT t a || isT t b)) else M.no
  | none => M.no
theorem j_isi2 {te : TE} {fe : Sl → M D} {a b : String} (h : JE P te fe) : JE P (tCB (rIsiT P.K) (tCons te (tCons (tTup (tCons (tC (.ty a)) (tCons (tC (.ty b)) tNil))) tNil))) (eIsi2 a b fe) := fun C s p σ H r d p' e Q q => by
  obtain ⟨x, p1, e1, e2⟩ := M.bind_ok e
  cases et : tyD x with
  | none => rw [et] at e2; cases e2
  | some t =>
    rw [et] at e2
    dsimp only at e2
    split at e2
    · rename_i hn
      cases e2
      refine h C s p σ H r x _ e1 _ fun v H1 k1 q1 r1 => ⟨(by show 2 ≤ sizeLine; rw [sizeLine_eq]; decide), fun b' hb => ?_⟩
      refine ⟨v, b', [.ty a, .ty b], .type t, [.type a, .type b], isT t a || isT t b, rfl, upd_same, .cons (.ty a) (.cons (.ty b) .nil), tyD_ok et (Rv.ex (fz_up.trans (Ex.new hb)) x v r1), ?_, q _ _ (k1.trans (.new hb)) (q1.keepNew hb) rfl⟩
      refine kitAny_cons (kit_at (tyD_in et) hn.1) (fun z => ?_) (fun z => by rw [z]; rfl)
      rw [z, Bool.false_or]
      refine kitAny_cons (kit_at (tyD_in et) hn.2) (fun y => ?_) (fun y => y)
      rw [y]
      exact kitAny_nil
    · cases e2
/-! tuples: + -/
theorem jr_catT : JR P (rCatA P.K) dCatT := fun O H x y dx dy hp hd rx ry d h Q q => by
  cases dx <;> cases dy <;> first | cases h | skip
  rename_i xs ys
  unfold dCatT at h
  dsimp only at h
  split at h
  · rename_i hz
    cases h
    obtain ⟨a, vs, rfl, h1, h2⟩ := rx
    obtain ⟨b, ws, rfl, h3, h4⟩ := ry
    refine ⟨a, b, vs, ws, rfl, rfl, sqt_ex fz_up h1, sqt_ex fz_up h3, by rw [h2.len, h4.len]; exact sz_ok hz, fun e => ?_, fun _ e => ?_, fun _ _ p hp => ?_⟩
    · have hx : xs = [] := List.length_eq_zero_iff.mp (by rw [← h2.len, e]; rfl)
      subst hx
      exact q _ H (Evl.Ex.refl H) ⟨b, ws, rfl, h3, h4⟩
    · have hy : ys = [] := List.length_eq_zero_iff.mp (by rw [← h4.len, e]; rfl)
      subst hy
      rw [List.append_nil] at q
      exact q _ H (Evl.Ex.refl H) ⟨a, vs, rfl, h1, h2⟩
    · exact q _ _ (Ex.new hp) ⟨p, vs ++ ws, rfl, .inl (.inl (fz_new hd hp)), Rvs.ex (fz_ex (Ex.new hp)) _ _ (h2.app h4)⟩
  · cases h
/-- xs * k -/
def dRepL : D → D → Option D
  | .lst xs, .int k => if sz (xs.length * k.toNat) = true ∧ decide (-1000000 ≤ k ∧ k ≤ 1000000) = true then some (.lst (List.replicate k.toNat xs).flatten) else none
  | _, _ => none
theorem Rvs.flat {H : Hp} {ds : List D} {vs : List V} (r : Rvs P H ds vs) : ∀ n, Rvs P H (List.replicate n ds).flatten (List.replicate n vs).flatten
  | 0 => rfl
  | n + 1 => by
    rw [List.replicate_succ, List.replicate_succ, List.flatten_cons, List.flatten_cons]
    exact r.app (Rvs.flat r n)
end
section
variable {P : Par}
theorem jr_repL : JR P rRep dRepL := fun O H x y dx dy hp hd rx ry d h Q q => by
  cases dx <;> cases dy <;> first | cases h | skip
  rename_i xs k
  unfold dRepL at h
  dsimp only at h
  split at h
  · rename_i hz
    cases h
    obtain ⟨a, vs, rfl, h1, h2⟩ := rx
    have hk := of_decide_eq_true hz.2
    refine ⟨a, k, vs, rfl, ry, (fz_some.mp h1).2, by omega, by omega, by rw [h2.len]; exact sz_ok hz.1, fun p hp => ?_⟩
    exact q _ _ (Ex.new hp) ⟨p, _, rfl, fz_new hd hp, Rvs.ex (fz_ex (Ex.new hp)) _ _ (Rvs.flat h2 _)⟩
  · cases h
/-! the pen -/
def ePen (i : Nat) (k : Int) : Sl → M D := fun s => match s[i]? with
  | some (.im .pen) => fun p => if k = 0 then .ok (.lst (p.cells.map .int)) p else if k = 1 then .ok (.int p.spot) p else if k = 2 then .ok (.int p.rest) p else .stuck
  | _ => M.no
theorem ints_rvs {H : Hp} : ∀ ns : List Int, Rvs P H (ns.map .int) (ns.map .int)
  | [] => rfl
  | n :: ns => ⟨_, _, rfl, rfl, ints_rvs ns⟩
theorem j_pen {i : Nat} {k : Int} : JE P (tOp (rIxL P.K) (tVar i) (tC (.int k))) (ePen i k) := fun C s p σ H r d p' e Q q => by
  unfold ePen at e
  cases hi : s[i]? with
  | none => rw [hi] at e; cases e
  | some z =>
    rw [hi] at e
    cases z with
    | un => cases e
    | ow _ => cases e
    | im d' =>
      cases d' <;> first | cases e | skip
      obtain ⟨v, h1, rfl⟩ := r.im i _ hi
      dsimp only at e
      refine ⟨_, h1, ?_⟩
      have sq : SqL P.K H P.pa _ := Evl.sq_of r.pen.2.1
      by_cases k0 : k = 0
      · subst k0
        rw [if_pos rfl] at e
        cases e
        exact ⟨P.pa, _, 0, .ref P.ca, rfl, rfl, sq, rfl, q _ H (.refl H) r.pen ⟨P.ca, _, rfl, fz_some.mpr ⟨r.ca, r.pen.2.2.1⟩, ints_rvs _⟩⟩
      · rw [if_neg k0] at e
        by_cases k1 : k = 1
        · subst k1
          rw [if_pos rfl] at e
          cases e
          exact ⟨P.pa, _, 1, _, rfl, rfl, sq, rfl, q _ H (.refl H) r.pen rfl⟩
        · rw [if_neg k1] at e
          by_cases k2 : k = 2
          · subst k2
            rw [if_pos rfl] at e
            cases e
            exact ⟨P.pa, _, 2, _, rfl, rfl, sq, rfl, q _ H (.refl H) r.pen rfl⟩
          · rw [if_neg k2] at e
            cases e
def sPen (i : Nat) (k : Int) (f : Sl → M D) : Sl → M (Out × Sl) := fun s => (f s).bind fun d => (M.of (asI d)).bind fun n => match s[i]? with
  | some (.im .pen) => fun p => if k = 1 then .ok (.nx, s) { p with spot := n } else if k = 2 then .ok (.nx, s) { p with rest := n } else .stuck
  | _ => M.no
theorem js_pen {te : TE} {fe : Sl → M D} {i : Nat} {k : Int} (h : JE P te fe) : JS P (tAsg te (gSub (tVar i) (tC (.int k)) rSetL)) (sPen i k fe) := fun C s p σ H r o s' p' e E l => by
  obtain ⟨d, p1, e1, e2⟩ := M.bind_ok e
  obtain ⟨n, p2, e3, e4⟩ := M.bind_ok e2
  obtain ⟨e5, rfl⟩ := M.of_ok e3
  have e6 := asI_ok e5
  subst e6
  cases hi : s[i]? with
  | none => rw [hi] at e4; cases e4
  | some z =>
    rw [hi] at e4
    cases z with
    | un => cases e4
    | ow _ => cases e4
    | im d' =>
      cases d' <;> first | cases e4 | skip
      dsimp only at e4
      refine h C s p σ H r _ _ e1 _ fun v H1 k1 q1 r1 => ?_
      have rl := r.keep k1 q1
      obtain ⟨w, h1, rfl⟩ := r.im i _ hi
      cases r1
      have kp : ∀ o, Keep P H1 (upd H1 P.pa o) := fun o b u nb eb => by rw [upd_ne (fun z => nb (.inl z))]; exact eb
      refine ⟨_, h1, ?_⟩
      by_cases k0 : k = 1
      · subst k0
        rw [if_pos rfl] at e4
        cases e4
        have pn : PenAt P (upd H1 P.pa (.lst [.ref P.ca, .int n, .int p1.rest])) { p1 with spot := n } := q1.put _ _
        exact ⟨P.pa, _, 1, 1, rfl, rfl, q1.2.1, rfl, l C σ _ (rl.keep (kp _) pn) ((r.go k1).trans (rl.go (kp _)))⟩
      · rw [if_neg k0] at e4
        by_cases k2 : k = 2
        · subst k2
          rw [if_pos rfl] at e4
          cases e4
          have pn : PenAt P (upd H1 P.pa (.lst [.ref P.ca, .int p1.spot, .int n])) { p1 with rest := n } := q1.put _ _
          exact ⟨P.pa, _, 2, 2, rfl, rfl, q1.2.1, rfl, l C σ _ (rl.keep (kp _) pn) ((r.go k1).trans (rl.go (kp _)))⟩
        · rw [if_neg k2] at e4
          cases e4
/-! powers -/
def dPow := gIc (fun i j => decide (0 ≤ j ∧ j ≤ 1000000 ∧ i.natAbs < 18446744073709551616)) fun i j => .int (i ^ j.toNat)
theorem jr_pow : JR P (rI CPow fun i j => .int (i ^ j.toNat)) dPow := jr_Ic (fun i j h => of_decide_eq_true (p := 0 ≤ j ∧ j ≤ 1000000 ∧ i.natAbs < 18446744073709551616) h) fun _ _ _ => rfl
end
/-! repr of data -/
section
variable {X : Cx}
def rRepr (K : PySem.W.Frag) : List V → Hp → VK → Prop := fun xs H Q => ∃ v d, xs = [v] ∧ Dp K H v d ∧ d.showable = true ∧ d.hasDict = false ∧ d.depth ≤ 60 ∧ d.shown.length ≤ sizeLine ∧ Q (.str d.shown) H
theorem call_repr (hg : X.A.guards = some []) (hu : X.A.units + 64 < cLine) : CallR X (.builtin "repr") (rRepr X.K) := by
  intro pins s σ H xs us Q I r h
  obtain ⟨v, d, rfl, hd, h1, h2, h3, h4, q⟩ := h
  obtain ⟨u, rfl, ru⟩ := vals1 r
  have big : ∀ {a : Addr} {as : List Addr}, Reads s.heap (.ref a) d as → wpAny (model X.prog X.w) X.A (call (.builtin "repr") [.ref a]) (EP X pins σ Q) X.xe s := fun {a as} rd =>
    repr_of_reads' rd h1 (fun z => by rw [h2] at z; cases z) hg (by omega) (fun _ _ e => e) (fun h' u tk k => ⟨.str d.shown, H, I.kept k, ⟨_, rfl⟩, q⟩) h4
  cases hd with
  | non => cases ru; exact PySem.P.repr_of_none ⟨.str _, H, I.tok _, ⟨_, rfl⟩, q⟩
  | bl b => cases ru; exact PySem.P.repr_of_bool ⟨.str _, H, I.tok _, ⟨_, rfl⟩, q⟩
  | int i =>
    obtain ⟨t, rfl⟩ := ru
    exact PySem.P.repr_of_int (of_decide_eq_true (by simpa only [PyData.showable] using h1)) ⟨.str _, H, I.tok _, ⟨_, rfl⟩, by simpa only [PyData.shown] using q⟩
  | str x =>
    obtain ⟨t, rfl⟩ := ru
    exact PySem.P.repr_of_str ⟨.str _, H, I.tok _, ⟨_, rfl⟩, by simpa only [PyData.shown] using q⟩ (by simpa only [PyData.shown] using h4)
  | lst hs ha =>
    obtain ⟨as, rd⟩ := Dp.reads I _ _ u (Dp.lst hs ha) ru
    cases ru
    exact big rd
  | tup hs ha =>
    obtain ⟨as, rd⟩ := Dp.reads I _ _ u (Dp.tup hs ha) ru
    cases ru
    exact big rd
end
section
variable {P : Par}
def reprOk (d : D) : Bool := plain d && (toP d).showable && decide ((toP d).hasDict = false) && decide ((toP d).depth ≤ 60) && sz (toP d).shown.length
def dRepr : List D → Option D
  | [d] => if reprOk d = true then some (.str (toP d).shown) else none
  | _ => none
theorem jc_repr : JC P (rRepr P.K) dRepr := fun O H xs ds hp hd r d h Q q => by
  match ds, h with
  | [x], h =>
    obtain ⟨v, r', rfl, h1, h3⟩ := r
    cases h3
    unfold dRepr at h
    dsimp only at h
    split at h
    · rename_i hr
      cases h
      simp only [reprOk, Bool.and_eq_true, decide_eq_true_eq] at hr
      obtain ⟨⟨⟨⟨a1, a2⟩, a3⟩, a4⟩, a5⟩ := hr
      exact ⟨v, _, rfl, Rv.dp x v a1 (Rv.ex fz_up x v h1), a2, a3, a4, sz_ok a5, q _ H (Evl.Ex.refl H) rfl⟩
    · cases h
end
end Z
end
section
set_option Elab.async false
set_option linter.all false
set_option maxRecDepth 100000
set_option maxHeartbeats 2000000
/-! Z: further statements, own defs as they stand, keywords -/
namespace Z
open PySem L2
open Evl (Ex)
section
variable {P : Par}
def sPar3 (i j l : Nat) (f : Sl → M (List D)) : Sl → M (Out × Sl) := fun s => (f s).bind fun ds => match ds with
  | [a, b, c] => M.pure (.nx, ((s.set i (.im a)).set j (.im b)).set l (.im c))
  | _ => M.no
theorem js_par3 {i j l : Nat} {t : TA} {f : Sl → M (List D)} (h : JA P t f) : JS P (tPar3 i j l t) (sPar3 i j l f) := fun C s p σ H r o s' p' e E ld => by
  obtain ⟨ds, p1, e1, e2⟩ := M.bind_ok e
  match ds, e1, e2 with
  | [a, b, c], e1, e2 =>
    cases e2
    refine h C s p σ H r _ _ e1 _ fun vs H1 k1 q1 r1 => ?_
    obtain ⟨u, _, rfl, x0, v, _, rfl, x1, w, _, rfl, x2, rfl⟩ := r1
    have rl := r.keep k1 q1
    exact ⟨u, v, w, rfl, ld C _ H1 (((rl.set i x0).set j x1).set l x2) (r.go k1)⟩
  | [], _, e2 => cases e2
  | [_], _, e2 => cases e2
  | [_, _], _, e2 => cases e2
  | _ :: _ :: _ :: _ :: _, _, e2 => cases e2
/-- a, b = [..], e: a an own list -/
def sParOw (i j : Nat) (f : Sl → M (List D)) (g : Sl → M D) : Sl → M (Out × Sl) := fun s => (f s).bind fun ds => (g s).bind fun d => M.pure (.nx, (s.set i (.ow ds)).set j (.im d))
theorem js_parOw {i j : Nat} {ta tb : TE} {f : Sl → M (List D)} {g : Sl → M D} (ha : JL P ta f) (hb : JE P tb g) : JS P (tPar i j (tCons ta (tCons tb tNil))) (sParOw i j f g) := fun C s p σ H r o s' p' e E l => by
  obtain ⟨ds, p1, e1, e2⟩ := M.bind_ok e
  obtain ⟨d, p2, e3, e4⟩ := M.bind_ok e2
  cases e4
  refine ha C s p σ H r ds _ e1 _ fun a vs H1 hn k1 q1 h1 rv => ?_
  have ru : Rel P { C with O := fun l => C.O l ∨ l = a } s p1 σ H1 := r.under hn k1 q1 h1
  refine hb _ s p1 σ H1 ru d _ e3 _ fun v H2 k2 q2 r2 => ⟨.ref a, v, rfl, ?_⟩
  have na : ¬ P.hot a := fun z => by obtain ⟨u, y⟩ := r.pen.hot z; rw [y] at hn; cases hn
  have h2 : H2 a = some (.lst vs) := k2 a _ na h1
  -- the state behind both, then the stores
  have r2' : Rel P { C with O := fun l => C.O l ∨ l = a } (s.set i (.ow ds)) p' (σ.set i (some (.ref a))) H2 := by
    have rk := ru.keep k2 q2
    have n0 : C.H0 a = none := by
      cases e : C.H0 a with
      | none => rfl
      | some o => rw [r.base a o na e] at hn; cases hn
    have rv2 := Rvs.ex (ru.fz k2) ds vs rv
    have no : ∀ l, C.O l → l ≠ a := fun l z e => r.free hn (e ▸ z)
    exact
      { len := by rw [List.length_set, List.length_set]; exact r.len
        pa := rk.pa, ca := rk.ca, ca0 := rk.ca0, pen := q2, dom := rk.dom, dom0 := rk.dom0, base := rk.base, sub := rk.sub
        im := fun j e h => by
          rcases set_get h with ⟨_, e1, _⟩ | ⟨hne, h⟩
          · cases e1
          · obtain ⟨u, g1, g2⟩ := rk.im j e h
            exact ⟨u, by rw [List.getElem?_set_ne (Ne.symm hne)]; exact g1, g2⟩
        ow := fun j es h => by
          rcases set_get h with ⟨rfl, e1, hl⟩ | ⟨hne, h⟩
          · cases e1
            exact ⟨a, vs, List.getElem?_set_self (by rw [r.len]; exact hl), .inr rfl, n0, h2, rv2⟩
          · obtain ⟨l, ws, g1, g2⟩ := rk.ow j es h
            exact ⟨l, ws, by rw [List.getElem?_set_ne (Ne.symm hne)]; exact g1, g2⟩
        inj := fun j m es fs l a1 a2 a3 a4 => by
          rcases set_get a1 with ⟨rfl, b1, hl1⟩ | ⟨hn1, b1⟩
          · rcases set_get a2 with ⟨rfl, _, _⟩ | ⟨hn2, b2⟩
            · rfl
            · rw [List.getElem?_set_self (by rw [r.len]; exact hl1)] at a3
              rw [List.getElem?_set_ne (Ne.symm hn2)] at a4
              obtain ⟨l2, _, g1, g2, _⟩ := r.ow m fs b2
              rw [g1] at a4
              cases a3
              cases a4
              exact absurd rfl (no _ g2)
          · rcases set_get a2 with ⟨rfl, b2, hl2⟩ | ⟨hn2, b2⟩
            · rw [List.getElem?_set_self (by rw [r.len]; exact hl2)] at a4
              rw [List.getElem?_set_ne (Ne.symm hn1)] at a3
              obtain ⟨l2, _, g1, g2, _⟩ := r.ow j es b1
              rw [g1] at a3
              cases a3
              cases a4
              exact absurd rfl (no _ g2)
            · rw [List.getElem?_set_ne (Ne.symm hn1)] at a3
              rw [List.getElem?_set_ne (Ne.symm hn2)] at a4
              exact r.inj j m es fs l b1 b2 a3 a4 }
  exact l _ _ H2 (r2'.set j r2) ((r.goOw hn (k1.trans k2)))
def dIsB : D → D → Option D
  | .bl a, .bl b => some (.bl (decide (a = b)))
  | _, _ => none
theorem jr_isB : JR P rIsB dIsB := fun O H x y dx dy hp hd rx ry d h Q q => by
  cases dx <;> cases dy <;> cases h
  exact ⟨_, _, rx, ry, q _ H (Evl.Ex.refl H) rfl⟩
def isN : D → Bool
  | .non => true
  | _ => false
def dIsN (x y : D) : Option D := if isN y = true then some (.bl (isN x)) else none
def dNotN (x y : D) : Option D := if isN y = true then some (.bl (!isN x)) else none
theorem isN_v {H : Hp} {d : D} {v : V} (r : Rv P H d v) : decide (v = .non) = isN d := by
  cases d
  case non => rw [show v = _ from r]; rfl
  case bl => rw [show v = _ from r]; rfl
  case int => rw [show v = _ from r]; rfl
  case str => rw [show v = _ from r]; rfl
  case ty => rw [show v = _ from r]; rfl
  case pen => rw [show v = _ from r]; rfl
  all_goals
    obtain ⟨a, _, h⟩ := r
    first
      | (obtain ⟨_, h, _⟩ := h; subst h; rfl)
      | (obtain ⟨h, _⟩ := h; subst h; rfl)
      | (subst h; rfl)
theorem jr_isN : JR P (fun x y H Q => y = .non ∧ Q (.bl (decide (x = .non))) H) dIsN := fun O H x y dx dy hp hd rx ry d h Q q => by
  unfold dIsN at h
  split at h
  · rename_i hn
    cases h
    refine ⟨?_, ?_⟩
    · rw [← isN_v ry] at hn
      exact of_decide_eq_true hn
    · rw [isN_v rx]
      exact q _ H (Evl.Ex.refl H) rfl
  · cases h
theorem jr_notN : JR P (fun x y H Q => y = .non ∧ Q (.bl (!decide (x = .non))) H) dNotN := fun O H x y dx dy hp hd rx ry d h Q q => by
  unfold dNotN at h
  split at h
  · rename_i hn
    cases h
    refine ⟨?_, ?_⟩
    · rw [← isN_v ry] at hn
      exact of_decide_eq_true hn
    · rw [isN_v rx]
      exact q _ H (Evl.Ex.refl H) rfl
  · cases h
def sNo : Sl → M (Out × Sl) := fun _ => M.no
theorem js_never : JS P tNever sNo := fun C s p σ H r o s' p' e E l => nomatch e
/-- keywords: gD puts the arguments in the parameters' order -/
def eOwnK (n : Nat) (m : List D → M D) (gD : List D → List D → List D) (f k : Sl → M (List D)) : Sl → M D := fun s => (f s).bind fun ds => (k s).bind fun es => if (gD ds es).length = n then m (gD ds es) else M.no
theorem j_ownK {n : Nat} {m : List D → M D} {gV : List V → List V → List V} {gD : List D → List D → List D} {E : XK} {t tk : TA} {f k : Sl → M (List D)} (hg : ∀ H ds es vs ws, Rvs P H ds vs → Rvs P H es ws → Rvs P H (gD ds es) (gV vs ws)) (h : JA P t f) (h2 : JA P tk k) :
    JE P (tCallK (spM P.K P.cl n m) gV E t tk) (eOwnK n m gD f k) := fun C s p σ H rl d p' e Q q => by
  obtain ⟨ds, p1, h1, e⟩ := M.bind_ok e
  obtain ⟨es, p2, h3, e⟩ := M.bind_ok e
  split at e
  · rename_i hn
    refine h C s p σ H rl ds _ h1 _ fun vs H1 k1 q1 r1 => ?_
    have rl1 := rl.keep k1 q1
    refine h2 C s p1 σ H1 rl1 es _ h3 _ fun ws H2 k2 q2 r2 => ?_
    have rl2 := rl1.keep k2 q2
    exact ⟨P, rfl, rfl, C.O, gD ds es, p2, d, p', hn, rl.paO, rl.ca, rl2.dom, q2, hg _ _ _ _ _ (Rvs.ex (rl1.fz k2) ds vs r1) r2, e, fun v H3 k3 q3 r3 => q v H3 ((k1.trans k2).trans k3) q3 r3⟩
  · cases e
end
/-! ### own defs -/
open PyProof.Rows
section
variable (Pg : Program) (w : World) (K : PySem.W.Frag) (mg : Str → Option Value) (base : Heap)
/-- the def st stands at the module's name x -/
def DefIn (K : PySem.W.Frag) (mg : Str → Option Value) (x : Str) (st : Stmt) : Prop := ∃ f fd, Fun K x x st f fd ∧ mg x = some (.ref f)
/-- .. and keeps a promise -/
def Own (k : Nat) (x : Str) (ps : List Str) (sp : Sp) : Prop := ∃ f fd, FnG Pg w K mg base CX0 k f fd ps sp ∧ Binds K fd ps [] ∧ mg x = some (.ref f) ∧ PySem.W.keepIn K (.ref f) = true
end
section
variable {Pg : Program} {w : World} {K : PySem.W.Frag} {mg : Str → Option Value} {base : Heap}
/-- .. with the def itself told -/
def OwnF (Pg : Program) (w : World) (K : PySem.W.Frag) (mg : Str → Option Value) (base : Heap) (k : Nat) (x : Str) (st : Stmt) (ps : List Str) (sp : Sp) : Prop := ∃ f fd, Fun K x x st f fd ∧ FnG Pg w K mg base CX0 k f fd ps sp ∧ mg x = some (.ref f)
theorem OwnF.own {k : Nat} {x : Str} {st : Stmt} {ps : List Str} {sp : Sp} (h : OwnF Pg w K mg base k x st ps sp)
    (hbi : ∀ (kV doc pm : Value) (an : Option Addr) (cd ct : Value) (us : List Value), us.length = ps.length → bindArgs (PySem.W.fnOf x x (defArgs st) (defBody st) (defScope st) .none kV doc pm an cd ct) ⟨us, []⟩ = pure (ps.zip us)) : Own Pg w K mg base k x ps sp := by
  obtain ⟨f, fd, F, G, m⟩ := h
  exact ⟨f, fd, G, F.binds hbi, m, F.kp⟩
theorem own_of {x : Str} {st : Stmt} {N ps : List Str} {k : Nat} {sp : Sp} (h : DefIn K mg x st) (T : FnScope N ps (defScope st)) (ln : ∀ vs H Q E, sp vs H Q E → vs.length = ps.length)
    (hb : ∀ (f : Addr) (cd : Value) (A : Around) (ou : List Env) (s : Shared) (H : Hp) (vs : List V) (Q : VK) (E : XK), Room k (A.deeper (envOfC x (defScope st) s.heap.objs.size f cd)) → A.guards = some [] → sp vs H Q E →
      ∃ t, PSs (cxOf CX0 Pg w K mg base N x (defScope st) f cd A ou s H E).nox (defBody st) t ∧ t { nx := fun _ H' => Q .non H', rt := Q } (L2.start N vs) H) : OwnF Pg w K mg base (k + 1) x st ps sp := by
  obtain ⟨f, fd, F, m⟩ := h
  exact ⟨f, fd, F, fn_g F T ln (fun cd A ou s H vs Q E r g q => let ⟨t, h1, h2⟩ := hb f cd A ou s H vs Q E r g q; ⟨t, h1.nox, h2⟩), m⟩
variable {Y : Cx} {k : Nat} {ps ks : List Str} {sp : Sp} {x : Str} {p pos : Pos} {e : Expr} {es : List Expr} {kws : List Keyword} {t tk : TA}
theorem pe_own (h : Own Y.prog Y.w Y.K Y.mg Y.base k x ps sp) (r : Room k Y.A) (g : Y.A.guards = some []) (ha : PA Y (e :: es) t) (hg : Gl Y x := by rfl) (hdb : (x == ("__debug__" : Str)) = false := by decide)
    (he : starEach (e :: es) Y.env = (false, eval e Y.env) :: starEach es Y.env := by rfl) (hpl : (backTo pos (starEach es Y.env)).any (·.1) = false := by rfl) : PE Y (.Call (.Name x p) (e :: es) [] pos) (tCall sp [] E0 t) := by
  obtain ⟨f, fd, F, b, m, kp⟩ := h
  exact pe_g F r g hg m kp b .nil pass0 ha hdb he hpl
theorem pe_gi {i : Int} (h : ∃ t, Y.mg x = some (.int i t)) (hg : Gl Y x := by rfl) (hd : (x == ("__debug__" : Str)) = false := by decide) : PE Y (.Name x pos) (tC (.int i)) := by
  obtain ⟨t, h⟩ := h
  exact pe_glob hg h ⟨t, rfl⟩ hd
/-- a call by keywords alone -/
def OwnK (Pg : Program) (w : World) (K : PySem.W.Frag) (mg : Str → Option Value) (base : Heap) (k : Nat) (x : Str) (ps ks : List Str) (g : List Value → List Value → List Value) (gV : List V → List V → List V) (sp : Sp) : Prop :=
  ∃ f fd, FnG Pg w K mg base CX0 k f fd ps sp ∧ KBinds K fd ps ks g gV ∧ mg x = some (.ref f) ∧ PySem.W.keepIn K (.ref f) = true
theorem OwnF.ownK {Pg : Program} {w : World} {K : PySem.W.Frag} {mg : Str → Option Value} {base : Heap} {st : Stmt} {g : List Value → List Value → List Value} {gV : List V → List V → List V} (h : OwnF Pg w K mg base k x st ps sp)
    (hb : ∀ (kV doc pm : Value) (an : Option Addr) (cd ct : Value) (us ws : List Value), (g us ws).length = ps.length → bindArgs (PySem.W.fnOf x x (defArgs st) (defBody st) (defScope st) .none kV doc pm an cd ct) ⟨us, ks.zip ws⟩ = pure (ps.zip (g us ws)))
    (hr : ∀ {vs : List V} {us : List Value} {zs : List V} {ws : List Value}, Vals vs us → Vals zs ws → Vals (gV vs zs) (g us ws)) : OwnK Pg w K mg base k x ps ks g gV sp := by
  obtain ⟨f, fd, F, G, m⟩ := h
  obtain ⟨oc, od, kV, doc, pm, an, cd, ct, osl, rfl, _⟩ := id F.ex
  exact ⟨f, _, G, ⟨fun s us ws _ hl => .of_eq (hb kV doc pm an cd ct us ws hl), hr⟩, m, F.kp⟩
theorem pe_ownK0 {g : List Value → List Value → List Value} {gV : List V → List V → List V} (h : OwnK Y.prog Y.w Y.K Y.mg Y.base k x ps ks g gV sp) (r : Room k Y.A) (gd : Y.A.guards = some []) (hk : PK Y kws tk) (hg : Gl Y x := by rfl)
    (hall : (backToKw pos (keywordEach kws Y.env)).all (·.1.isSome) = true := by rfl) (hks : (backToKw pos (keywordEach kws Y.env)).filterMap (·.1) = ks := by rfl) (hdb : (x == ("__debug__" : Str)) = false := by decide)
    (hpl : ((backTo pos (starEach [] Y.env)).any (·.1) || (backToKw pos (keywordEach kws Y.env)).any (·.1.isNone)) = false := by rfl) : PE Y (.Call (.Name x p) [] kws pos) (tCallK sp gV E0 tNil tk) := by
  obtain ⟨f, fd, F, b, m, kp⟩ := h
  constructor
  intro pins s σ H Q I hq
  refine wpAny_Call_Name_kw (ld_glob I hg m ?_ hdb)
  refine PySem.W.callWith_KW0 (h₀ := Y.base) I.ok.mod.kin kp hall (thn (hk.run pos pins s σ H _ I hq) fun ws s1 z => ?_) hpl
  obtain ⟨zs, H1, I1, rz, q⟩ := z
  rw [hks]
  have rg := b.rel (vs := []) (us := []) .nil rz
  refine ⟨I1.kIn, run_g (ar := ⟨[], ks.zip ws⟩) F r gd pass0 I1 (b.to s1 [] ws I1.kIn (by rw [← rg.length]; exact F.ln _ _ _ _ q)) rg q⟩
end
end Z
namespace Z
open PySem L2
/-! in, over flat things: lists and tuples -/
def dV : D → Option V
  | .non => some .non
  | .bl b => some (.bl b)
  | .int i => some (.int i)
  | .str x => some (.str x)
  | _ => none
def dVs : List D → Option (List V)
  | [] => some []
  | d :: ds => (dV d).bind fun v => (dVs ds).map fun vs => v :: vs
section
variable {P : Par}
theorem dV_v {H : Hp} {d : D} {v u : V} (h : dV d = some u) (r : Rv P H d v) : v = u := by
  cases d <;> cases h <;> exact r
theorem dV_flat {d : D} {u : V} (h : dV d = some u) : flatV u = true := by
  cases d <;> cases h <;> rfl
theorem dVs_v {H : Hp} : ∀ {ds : List D} {vs us : List V}, dVs ds = some us → Rvs P H ds vs → vs = us ∧ us.all flatV = true
  | [], _, _, h, r => by
    cases h
    exact ⟨r, rfl⟩
  | d :: ds, _, us, h, ⟨v, ws, rfl, r1, r2⟩ => by
    unfold dVs at h
    cases e : dV d with
    | none => rw [e] at h; cases h
    | some u =>
      rw [e] at h
      cases e2 : dVs ds with
      | none => rw [e2] at h; cases h
      | some xs =>
        rw [e2] at h
        cases h
        obtain ⟨h1, h2⟩ := dVs_v e2 r2
        refine ⟨by rw [dV_v e r1, h1], ?_⟩
        rw [List.all_cons, dV_flat e, h2]
        rfl
def seqOf : D → Option (List D)
  | .lst ds => some ds
  | .tup ds => some ds
  | _ => none
def dInF (neg : Bool) (x y : D) : Option D := (dV x).bind fun u => (seqOf y).bind fun ds => (dVs ds).map fun us => .bl (if neg then !inV u us else inV u us)
theorem jr_inF {neg : Bool} : JR P (rIn P.K neg) (dInF neg) := fun O H x y dx dy hp hd rx ry d h Q q => by
  unfold dInF at h
  cases e1 : dV dx with
  | none => rw [e1] at h; cases h
  | some u =>
    rw [e1] at h
    cases e2 : seqOf dy with
    | none => rw [e2] at h; cases h
    | some ds =>
      rw [e2] at h
      cases e3 : dVs ds with
      | none =>
        have h : (dVs ds).map (fun us => D.bl (if neg then !inV u us else inV u us)) = some d := h
        rw [e3] at h
        cases h
      | some us =>
        have h : (dVs ds).map (fun us => D.bl (if neg then !inV u us else inV u us)) = some d := h
        rw [e3] at h
        cases h
        have hx := dV_v e1 rx
        subst hx
        cases dy <;> cases e2
        · obtain ⟨a, vs, rfl, h1, h2⟩ := ry
          obtain ⟨rfl, hf⟩ := dVs_v e3 h2
          exact ⟨a, vs, rfl, .inr (sqt_ex fz_up h1), dV_flat e1, hf, q _ H (Evl.Ex.refl H) rfl⟩
        · obtain ⟨a, vs, rfl, h1, h2⟩ := ry
          obtain ⟨rfl, hf⟩ := dVs_v e3 h2
          exact ⟨a, vs, rfl, .inl (Evl.sq_of (fz_some.mp h1).2), dV_flat e1, hf, q _ H (Evl.Ex.refl H) rfl⟩
end
end Z
end
section
set_option Elab.async false
set_option linter.all false
set_option maxRecDepth 100000
set_option maxHeartbeats 2000000
/-! Rules whose reading names the written part K itself (so that it does not hang on the state within a comprehension). -/
namespace Z
open PySem L2 PyProof.Rows
section
variable {X : Cx} {K : PySem.W.Frag}
theorem k_ixL (h : X.K = K) : IxR X (rIxL K) := h ▸ ix_list
theorem k_ixT (h : X.K = K) : IxR X (rIxT K) := h ▸ ix_tup
theorem k_ix (h : X.K = K) : IxR X (rIx K) := h ▸ ix_seq
theorem k_slL (h : X.K = K) : SlR X (rSlL K) := h ▸ sl_list
theorem k_len (h : X.K = K) : CallR X (.builtin "len") (fun xs H Q => ∃ p ys, xs = [.ref p] ∧ (SqL K H p ys ∨ SqT K H p ys) ∧ Q (.int ys.length) H) := h ▸ call_len_seq
theorem k_list (h : X.K = K) : CallR X (.type "list") (fun xs H Q => ∃ p ys, xs = [.ref p] ∧ (SqL K H p ys ∨ SqT K H p ys) ∧ ∀ l, H l = none → Q (.ref l) (upd H l (.lst ys))) := h ▸ call_list_of
theorem k_tuple (h : X.K = K) : CallR X (.type "tuple") (fun xs H Q => ∃ p ys, xs = [.ref p] ∧ ((SqL K H p ys ∧ ∀ l, H l = none → Q (.ref l) (upd H l (.tup ys))) ∨ (SqT K H p ys ∧ Q (.ref p) H))) := h ▸ call_tuple_of
theorem k_catT (h : X.K = K) : OpR X (binaryOp .Add) (rCatA K) := h ▸ op_catA
theorem k_eqD (h : X.K = K) (hu : X.A.units + 64 < cLine) : OpR X (compareOp .Eq) (rEqD K) := h ▸ op_eqD hu
theorem k_neD (h : X.K = K) (hu : X.A.units + 64 < cLine) : OpR X (compareOp .NotEq) (rNeD K) := h ▸ op_neD hu
theorem k_inD (h : X.K = K) (hu : X.A.units + 65 < cLine) : OpR X (compareOp .In) (rInD K) := h ▸ op_inD hu
theorem k_notInD (h : X.K = K) (hu : X.A.units + 65 < cLine) : OpR X (compareOp .NotIn) (rNotInD K) := h ▸ op_notInD hu
theorem k_in (h : X.K = K) : OpR X (compareOp .In) (rIn K false) := h ▸ op_in_seq
theorem k_notIn (h : X.K = K) : OpR X (compareOp .NotIn) (rIn K true) := h ▸ op_notIn_seq
theorem k_isi (h : X.K = K) : CallR X (.builtin "isinstance") (rIsi K) := h ▸ call_isi
theorem k_isiT (h : X.K = K) : CallR X (.builtin "isinstance") (rIsiT K) := h ▸ call_isiT
theorem k_repr (h : X.K = K) (hg : X.A.guards = some []) (hu : X.A.units + 64 < cLine) : CallR X (.builtin "repr") (rRepr K) := h ▸ call_repr hg hu
theorem k_piL {tg l : Expr} {tl : TE} (h : X.K = K) (hl : PE X l tl) : PI X tg l (iList K tl) := h ▸ pi_list hl
theorem k_piT {tg l : Expr} {tl : TE} (h : X.K = K) (hl : PE X l tl) : PI X tg l (iTup K tl) := h ▸ pi_tup hl
theorem k_pgT {es : List Expr} {k : Nat} {pos : Pos} {t : TGs} {n : Nat} (h : X.K = K) (hc : X.calm = true) (hp : PGs X es t) (hn : (assignEach es X.env).length = n := by rfl) (hst : (assignEach es X.env).findIdx? (·.1) = none := by rfl) : PG X (.Tuple es k pos) (gTup K n t) := h ▸ pg_tup hc hp hn hst
end
/-- an index into a list or a tuple -/
def dIx : D → D → Option D
  | .lst ds, .int i => L2.atI ds i
  | .tup ds, .int i => L2.atI ds i
  | _, _ => none
theorem jr_ix {P : Par} : JR P (rIx P.K) dIx := fun O H x y dx dy hp hd rx ry d h Q q => by
  cases dx <;> cases dy <;> first | cases h | skip
  · exact .inr (.inl (jr_ixT O H x y _ _ hp hd rx ry d h Q q))
  · exact .inl (jr_ixL O H x y _ _ hp hd rx ry d h Q q)
end Z
end
section
set_option Elab.async false
set_option linter.all false
set_option maxRecDepth 100000
set_option maxHeartbeats 2000000
/-! The law's own def, the pen's making, and the end. -/
namespace Z
open PySem L2 PyProof.Rows
open Evl (Ex)
/-- a def as the head's facts tell it -/
def DefK (K : PySem.W.Frag) (x : Str) (st : Stmt) : Prop := ∃ (f : Addr) (oc : Value) (od : Option Addr) (kV doc pm : Value) (an : Option Addr) (cd ct : Value) (sl : Array (Option Value)),
  PySem.W.nsIn K mainGlobals x = some (some (.ref f)) ∧ K.lookup f = some ⟨oc, od, .func (PySem.W.fnOf x x (defArgs st) (defBody st) (defScope st) .none kV doc pm an cd ct), sl⟩ ∧ PySem.W.codeIn K cd x = true ∧ PySem.W.keepIn K (.ref f) = true
theorem DefK.mk {K : PySem.W.Frag} {x : Str} {st : Stmt} {f : Addr} {oc : Value} {od : Option Addr} {kV doc pm : Value} {an : Option Addr} {cd ct : Value} {sl : Array (Option Value)}
    (a : PySem.W.nsIn K mainGlobals x = some (some (.ref f))) (l : K.lookup f = some ⟨oc, od, .func (PySem.W.fnOf x x (defArgs st) (defBody st) (defScope st) .none kV doc pm an cd ct), sl⟩) (c : PySem.W.codeIn K cd x = true) (k : PySem.W.keepIn K (.ref f) = true) : DefK K x st :=
  ⟨f, oc, od, kV, doc, pm, an, cd, ct, sl, a, l, c, k⟩
theorem ex_int {K : PySem.W.Frag} {x : Str} {i : Int} {t : Tok} (h : PySem.W.nsIn K mainGlobals x = some (some (.int i t))) : ∃ t, PySem.W.nsIn K mainGlobals x = some (some (.int i t)) := ⟨t, h⟩
theorem DefK.inn {K : PySem.W.Frag} {x : Str} {st : Stmt} {h : Heap} {mg : Str → Option Value} (X : K.In h) (G : h.Ns mainGlobals mg) (d : DefK K x st) : DefIn K mg x st := by
  obtain ⟨f, oc, od, kV, doc, pm, an, cd, ct, sl, a, l, c, k⟩ := d
  exact ⟨f, _, fun_mk l c k, PySem.W.mg_of X G a⟩
def spPen (K : PySem.W.Frag) : Sp := fun vs H Q _ => ∃ (a : Addr) (ns : List Int), vs = [.ref a] ∧ SqL K H a (ns.map V.int) ∧ ns.length ≤ 63 ∧
  ∀ p c H', H p = none → p ≠ c → Ex H H' → H' p = some (.lst [.ref c, .int 0, .int 0]) → H' c = some (.lst (ns.map V.int)) → Q (.ref p) H'
/-- the law's own promise; T: the tables of code objects that it fills -/
def spLawT (K : PySem.W.Frag) (T : List (Addr × Str)) : Sp := fun vs H Q _ => ∃ (a : Addr) (ns : List Int), vs = [.ref a] ∧ SqL K H a (ns.map V.int) ∧ ns.length ≤ 63 ∧ LamX.Tabs T H ∧ ∀ H', Q (.bl true) H'
abbrev spLaw (K : PySem.W.Frag) : Sp := spLawT K []
theorem spPen.len {K : PySem.W.Frag} {vs : List V} {H : Hp} {Q : VK} {E : XK} (h : spPen K vs H Q E) : vs.length = 1 := by
  obtain ⟨a, ns, rfl, _⟩ := h
  rfl
theorem spLaw.len {K : PySem.W.Frag} {T : List (Addr × Str)} {vs : List V} {H : Hp} {Q : VK} {E : XK} (h : spLawT K T vs H Q E) : vs.length = 1 := by
  obtain ⟨a, ns, rfl, _⟩ := h
  rfl
/-- the reading of return [[int(cell) for cell in script[:63]], 0, 0] -/
theorem pen_reads {K : PySem.W.Frag} {vs : List V} {H : Hp} {Q : VK} {E : XK} {i : Nat} {m : Int} (hi : i = 1) (hm : 63 ≤ m) (h : spPen K vs H Q E) :
    tRet (tLst (tCons (tLc (iList K (tSl (rSlL K) (tVar 0) tNoPart (tPart (tC (.int m))))) (gName i) tYes (tCB (fun xs H Q => (∃ i, xs = [.int i] ∧ Q (.int i) H) ∨ ∃ k, xs = [.bl k] ∧ Q (.int (if k then 1 else 0)) H) (tCons (tVar i) tNil)) [i]) (tCons (tC (.int 0)) (tCons (tC (.int 0)) tNil))))
      { nx := fun _ H' => Q .non H', rt := Q } (vs.map some ++ [none]) H := by
  subst hi
  obtain ⟨a, ns, rfl, hs, hl, k⟩ := h
  have cut : cutV (ns.map V.int) none (some m) = ns.map V.int := by
    unfold cutV
    have h1 : HT.sIx (ns.map V.int).length 0 none = 0 := rfl
    have h2 : (ns.map V.int).length ≤ HT.sIx (ns.map V.int).length (ns.map V.int).length (some m) := by
      rw [List.length_map]
      show ns.length ≤ _
      unfold HT.sIx
      dsimp only
      split <;> omega
    rw [h1, List.drop_zero, Nat.sub_zero]
    exact List.take_of_length_le h2
  have e1 : Evl.EvL (tSl (rSlL K) (tVar 0) tNoPart (tPart (tC (.int m)))) ([V.ref a].map some ++ [none]) H (ns.map V.int) := by
    have := Evl.el_sl (K := K) (te := tVar 0) (tl := tNoPart) (th := tPart (tC (.int m))) (σ := [V.ref a].map some ++ [none]) (H := H) (a := a) (xs := ns.map V.int) (lo := none) (hi := some m) (Evl.ev_var rfl) Evl.eo_none (Evl.eo_some Evl.ev_c) hs
    rw [cut] at this
    exact this
  have e2 := Evl.el_lcNL (K := K) (σ := [V.ref a].map some ++ [none]) (H := H) (xs := ns.map V.int) (j := 1) (vs := [1]) (t := tYes) (te := tCB (fun xs H Q => (∃ i, xs = [.int i] ∧ Q (.int i) H) ∨ ∃ k, xs = [.bl k] ∧ Q (.int (if k then 1 else 0)) H) (tCons (tVar 1) tNil))
    (fun _ => true) (fun i => .int (ns.getD i 0)) e1 (by rw [List.length_map]; omega) (fun x => rfl) (fun i x H1 e hx => fun H2 e2 Q q => q H2 (Evl.Ex.refl H2)) (fun i x H1 e hx _ => by
      intro H2 e2 Q q
      rw [List.getElem?_map] at hx
      cases hn : ns[i]? with
      | none => rw [hn] at hx; cases hx
      | some n =>
        rw [hn] at hx
        cases hx
        have hd : ns.getD i 0 = n := by rw [List.getD_eq_getElem?_getD, hn]; rfl
        rw [hd] at q
        exact ⟨.int n, rfl, .inl ⟨n, rfl, q H2 (Evl.Ex.refl H2)⟩⟩)
  have gv : Evl.given (ns.map V.int).length (fun _ => true) (fun i => V.int (ns.getD i 0)) = ns.map V.int := by
    unfold Evl.given
    rw [List.length_map, List.filter_eq_self.mpr (fun _ _ => rfl)]
    refine List.ext_getElem? fun j => ?_
    rw [List.getElem?_map, List.getElem?_map]
    by_cases hj : j < ns.length
    · rw [List.getElem?_range hj, List.getElem?_eq_getElem hj]
      show some (V.int (ns.getD j 0)) = _
      rw [List.getD_eq_getElem?_getD, List.getElem?_eq_getElem hj]
      rfl
    · rw [List.getElem?_eq_none (by rw [List.length_range]; omega), List.getElem?_eq_none (by omega)]
      rfl
  rw [gv] at e2
  unfold tRet tLst tCons
  dsimp only
  refine e2 H (Evl.Ex.refl H) _ fun c H2 hc e hcv => ?_
  refine ⟨by show 3 ≤ sizeLine; rw [sizeLine_eq]; decide, fun p hp => ?_⟩
  have npc : p ≠ c := fun z => by rw [z, hcv] at hp; cases hp
  exact k p c _ (Evl.fresh_back e hp) npc (e.trans (Ex.new hp)) upd_same (by rw [upd_ne npc.symm]; exact hcv)
/-- where the law's turns begin -/
def s0 (N i : Nat) : Sl := (List.replicate N SD.un).set i (.im .pen)
def LawM (N i : Nat) (g : Sl → M (Out × Sl)) : Prop := ∀ cells : List Int, cells.length ≤ 63 → ∃ s' p', g (s0 N i) ⟨cells, 0, 0⟩ = .ok (.rt (.bl true), s') p'
theorem law_reads {K : PySem.W.Frag} {T : List (Addr × Str)} {cl : Str → Addr} {N : List Str} {i : Nat} {ts : TS} {g : Sl → M (Out × Sl)} (hN : 0 < N.length) (hi : i < N.length) (h : ∀ pa ca, JS ⟨K, pa, ca, cl, T⟩ ts g) (hm : LawM N.length i g) {vs : List V} {H : Hp} {Q : VK} {E : XK} (sp : spLawT K T vs H Q E) :
    tSeq (tAsg (tCall (spPen K) [] E0 (tCons (tVar 0) tNil)) (gName i)) ts { nx := fun _ H' => Q .non H', rt := Q } (L2.start N vs) H := by
  obtain ⟨a, ns, rfl, hs, hl, tb, k⟩ := sp
  have st : L2.start N [V.ref a] = some (V.ref a) :: List.replicate (N.length - 1) none := rfl
  refine ⟨.ref a, by rw [st]; rfl, a, ns, rfl, hs, hl, fun p c H' hp npc e h1 h2 => ?_⟩
  obtain ⟨s', p', hg⟩ := hm ns hl
  have tb' := tb.ext e
  have hot : ∀ l, (⟨K, p, c, cl, T⟩ : Par).hot l → ∃ o, H' l = some o := fun l z => by
    rcases z with z | ⟨y, z⟩
    · have z : l = p := z
      exact ⟨_, by rw [z]; exact h1⟩
    · obtain ⟨ps, w, _⟩ := tb' _ z
      exact ⟨_, w⟩
  have nc : ¬ (⟨K, p, c, cl, T⟩ : Par).hot c := fun z => by
    rcases z with z | ⟨y, z⟩
    · exact npc (show c = p from z).symm
    · obtain ⟨ps, w, _⟩ := tb' _ z
      rw [h2] at w
      cases w
  refine h p c ⟨(⟨K, p, c, cl, T⟩ : Par).hot, (⟨K, p, c, cl, T⟩ : Par).hot, H'⟩ (s0 N.length i) ⟨ns, 0, 0⟩ _ H' ?_ _ s' p' hg _ ?_
  · have sl : ∀ j d, (s0 N.length i)[j]? = some d → d = .un ∨ (j = i ∧ d = .im .pen) := fun j d hj => by
      rcases set_get hj with ⟨e1, e2, _⟩ | ⟨_, hj⟩
      · exact .inr ⟨e1, e2⟩
      · rw [List.getElem?_replicate] at hj
        split at hj
        · exact .inl (Option.some.inj hj).symm
        · cases hj
    exact
      { len := by show ((L2.start N [V.ref a]).set i _).length = _; unfold s0; rw [st]; simp; omega
        pa := fun l z => z, ca := nc, ca0 := ⟨_, h2⟩
        pen := ⟨fun z => npc z.symm, h1, h2, tb'⟩
        dom := hot, dom0 := hot
        base := .refl H', sub := fun _ z => z
        im := fun j d hj => by
          rcases sl j _ hj with z | ⟨rfl, z⟩
          · cases z
          · cases z
            exact ⟨.ref p, List.getElem?_set_self (by rw [st]; simp; omega), rfl⟩
        ow := fun j d hj => by
          rcases sl j _ hj with z | ⟨_, z⟩ <;> cases z
        inj := fun j m d e l hj => by
          rcases sl j _ hj with z | ⟨_, z⟩ <;> cases z }
  · intro v H2 _ _ rv
    rw [show v = V.bl true from rv]
    exact k H2
theorem law_binds {K : PySem.W.Frag} {x : Str} {st : Stmt} {f : Addr} {fd : FuncData} {ps : List Str} (F : Fun K x x st f fd)
    (h : ∀ (kV doc pm : Value) (an : Option Addr) (cd ct : Value) (us : List Value), us.length = ps.length → bindArgs (PySem.W.fnOf x x (defArgs st) (defBody st) (defScope st) .none kV doc pm an cd ct) ⟨us, []⟩ = pure (ps.zip us)) (hp : ps = (["script"] : List Str)) : ∀ (s : Shared) (u : Value), BindsTo s fd ⟨[u], []⟩ [("script", u)] := by
  subst hp
  obtain ⟨oc, od, kV, doc, pm, an, cd, ct, sl, rfl, _⟩ := F.ex
  exact fun s u => .of_eq (h kV doc pm an cd ct [u] rfl)
end Z
end
section
set_option Elab.async false
set_option linter.all false
set_option maxRecDepth 100000
set_option maxHeartbeats 4000000
/-! The draws. -/
namespace Z
open PySem L2
/-- the plain side of _law_draw -/
def drawG (a b c e : Int) : Sl → M (Out × Sl) := (sSeq (sIf (bTest (eOp dGt (ePen 0 2) (eC (.int 0)))) (sSeq (sAsg (eCall dInt (aCons (ePen 0 2) aNil)) (tgN 2))
    (sSeq (sPen 0 2 (eOp dDiv (eVar 2) (eVar 1)))
    (sRet (eOp dMod (eCall dInt (aCons (eVar 2) aNil)) (eVar 1))))) sNx)
    (sSeq (sAsg (ePen 0 1) (tgN 3))
    (sSeq (sPen 0 1 (eOp dAdd (eVar 3) (eC (.int 1))))
    (sSeq (sAsg (eOp dAdd (eOp dMul (eC (.int a)) (eVar 3)) (eC (.int b))) (tgN 4))
    (sSeq (sIf (bTest (eOp dNeD (ePen 0 0) (eLst aNil))) (sAsg (eOp dIxL (ePen 0 0) (eOp dMod (eCall dInt (aCons (eVar 3) aNil)) (eCall dLen (aCons (ePen 0 0) aNil)))) (tgN 4)) sNx)
    (sSeq (sIf (bAnd (bTest (eOp dLt (eVar 3) (eCall dLen (aCons (ePen 0 0) aNil)))) (bTest (eOp dGe (eCall dAbs (aCons (eVar 4) aNil)) (eOp dPow (eC (.int 10)) (eC (.int 18)))))) (sSeq (sAsg (eOp dAdd (eOp dMul (eC (.int 2)) (eOp dSub (eCall dAbs (aCons (eVar 4) aNil)) (eOp dPow (eC (.int 10)) (eC (.int 18))))) (eCall dInt (aCons (eOp dLt (eVar 4) (eC (.int 0))) aNil))) (tgN 5))
    (sSeq (sPen 0 2 (eOp dDiv (eCall dInt (aCons (eVar 5) aNil)) (eVar 1)))
    (sRet (eOp dMod (eCall dInt (aCons (eVar 5) aNil)) (eVar 1))))) sNx)
    (sSeq (sAsg (eOp dMod (eCall dInt (aCons (eOp dPow (eOp dAdd (eOp dAdd (eOp dMod (eCall dInt (aCons (eVar 4) aNil)) (eC (.int 2147483549))) (eOp dMul (eC (.int c)) (eVar 3))) (eC (.int b))) (eC (.int 3))) aNil)) (eC (.int 2147483629))) (tgN 6))
    (sSeq (sAsg (eOp dMod (eCall dInt (aCons (eOp dPow (eOp dAdd (eOp dAdd (eOp dMul (eVar 6) (eOp dAdd (eOp dMul (eC (.int 2)) (eVar 3)) (eC (.int e)))) (eOp dMul (eOp dMul (eC (.int b)) (eVar 3)) (eVar 3))) (eC (.int a))) (eC (.int 5))) aNil)) (eC (.int 2147483563))) (tgN 6))
    (sRet (eOp dMod (eCall dInt (aCons (eOp dDiv (eVar 6) (eC (.int 32))) aNil)) (eVar 1)))))))))))
theorem canLay_ints : ∀ ns : List Int, PyData.canLayAll0 (toPs (ns.map .int)) = true
  | [] => by simp [toPs, PyData.canLayAll0]
  | n :: ns => by simp [toPs, toP, PyData.canLayAll0, PyData.canLay0, canLay_ints ns]
theorem depth_ints : ∀ ns : List Int, PyData.depthAll (toPs (ns.map .int)) = 0
  | [] => by simp [toPs, PyData.depthAll]
  | n :: ns => by simp [toPs, toP, PyData.depthAll, PyData.depth, depth_ints ns]
theorem plains_ints : ∀ ns : List Int, plains (ns.map .int) = true
  | [] => rfl
  | n :: ns => by simp [plains, plain, plains_ints ns]
theorem fit_ints (ns : List Int) : fitD (.lst (ns.map .int)) = true := by
  simp [fitD, plain, plains_ints, SeqAt.shaped, toP, PyData.canLay0, canLay_ints, PyData.depth, depth_ints]
theorem fit_nil : fitD (.lst []) = true := fit_ints []
theorem ne_nil (ns : List Int) : dNeD (.lst (ns.map .int)) (.lst []) = some (.bl (!ns.isEmpty)) := by
  unfold dNeD
  rw [if_pos ⟨fit_ints ns, fit_nil⟩]
  cases ns with
  | nil => simp [toP, toPs, PyData.eqv, PyData.eqvAll]
  | cons n ns => simp [toP, toPs, PyData.eqv, PyData.eqvAll]
/-- how a draw stands towards the pen ahead of it -/
structure Drawn (p p' : Pen) : Prop where
  cells : p'.cells = p.cells
  lo : p.spot ≤ p'.spot
  hi : p'.spot ≤ p.spot + 1
theorem fmod_pos {x m : Int} (hm : 0 < m) : 0 ≤ x.fmod m ∧ x.fmod m < m := ⟨Int.fmod_nonneg_of_pos x hm, Int.fmod_lt_of_pos x hm⟩
section
variable {a b c e many : Int} {p : Pen}
theorem dMod_ok {x m : Int} (hm : 0 < m) : dMod (.int x) (.int m) = some (.int (x.fmod m)) := by
  unfold dMod gIc
  dsimp only
  rw [if_pos (decide_eq_true (show m ≠ 0 by omega))]
theorem dDiv_ok {x m : Int} (hm : 0 < m) (h2 : m < 1073741824) : dDiv (.int x) (.int m) = some (.int (x.fdiv m)) := by
  unfold dDiv gIc
  dsimp only
  rw [if_pos (decide_eq_true (show m ≠ 0 ∧ m.natAbs < 1073741824 by omega))]
theorem dMul_ok {x y : Int} (h1 : -18446744073709551616 < x) (h2 : x < 18446744073709551616) : dMul (.int x) (.int y) = some (.int (x * y)) := by
  unfold dMul gIc
  dsimp only
  rw [if_pos (decide_eq_true ⟨h1, h2⟩)]
theorem dPow_ok {x y : Int} (h0 : 0 ≤ y) (h1 : y ≤ 1000000) (h2 : x.natAbs < 18446744073709551616) : dPow (.int x) (.int y) = some (.int (x ^ y.toNat)) := by
  unfold dPow gIc
  dsimp only
  rw [if_pos (decide_eq_true ⟨h0, h1, h2⟩)]
theorem atI_ints {cells : List Int} {i : Int} (h0 : 0 ≤ i) (h1 : i < cells.length) : ∃ x, L2.atI (cells.map D.int) i = some (.int x) := by
  unfold L2.atI ixN
  rw [List.length_map, if_pos h0, if_pos h1]
  have hj : i.toNat < cells.length := by omega
  refine ⟨cells[i.toNat], ?_⟩
  show (cells.map D.int)[i.toNat]? = _
  rw [List.getElem?_map, List.getElem?_eq_getElem hj]
  rfl
/-- the numbers that are mixed -/
def mix1 (b c spot x : Int) : Int := ((x.fmod 2147483549 + c * spot + b) ^ 3).fmod 2147483629
def mix2 (a b e spot m : Int) : Int := ((m * (2 * spot + e) + b * spot * spot + a) ^ 5).fmod 2147483563
theorem small_prod {x y n m : Int} (h0 : 0 ≤ x) (h1 : x < n) (g0 : 0 ≤ y) (g1 : y < m) : 0 ≤ x * y ∧ x * y ≤ n * m := by
  refine ⟨Int.mul_nonneg h0 g0, ?_⟩
  exact Int.mul_le_mul (by omega) (by omega) g0 (by omega)
def drawTail (a b c e : Int) : Sl → M (Out × Sl) := (sSeq (sAsg (eOp dMod (eCall dInt (aCons (eOp dPow (eOp dAdd (eOp dAdd (eOp dMod (eCall dInt (aCons (eVar 4) aNil)) (eC (.int 2147483549))) (eOp dMul (eC (.int c)) (eVar 3))) (eC (.int b))) (eC (.int 3))) aNil)) (eC (.int 2147483629))) (tgN 6))
    (sSeq (sAsg (eOp dMod (eCall dInt (aCons (eOp dPow (eOp dAdd (eOp dAdd (eOp dMul (eVar 6) (eOp dAdd (eOp dMul (eC (.int 2)) (eVar 3)) (eC (.int e)))) (eOp dMul (eOp dMul (eC (.int b)) (eVar 3)) (eVar 3))) (eC (.int a))) (eC (.int 5))) aNil)) (eC (.int 2147483563))) (tgN 6))
    (sRet (eOp dMod (eCall dInt (aCons (eOp dDiv (eVar 6) (eC (.int 32))) aNil)) (eVar 1)))))
theorem tail_ok {spot x : Int} {d5 : SD} (hm : 0 < many) (hs : 0 ≤ spot) (hs2 : spot < 1000000) (ha : 0 ≤ a) (ha2 : a < 1000000) (hb : 0 ≤ b) (hb2 : b < 1000000) (hc : 0 ≤ c) (hc2 : c < 1000000) (he : 0 ≤ e) (he2 : e < 1000000) :
    drawTail a b c e [.im .pen, .im (.int many), .un, .im (.int spot), .im (.int x), d5, .un] p = .ok (.rt (.int (((mix2 a b e spot (mix1 b c spot x)).fdiv 32).fmod many)), [.im .pen, .im (.int many), .un, .im (.int spot), .im (.int x), d5, .im (.int (mix2 a b e spot (mix1 b c spot x)))]) p := by
  have f1 := fmod_pos (x := x) (show (0 : Int) < 2147483549 by decide)
  have p1 := small_prod hc hc2 hs hs2
  have m1 : (x.fmod 2147483549 + c * spot + b).natAbs < 18446744073709551616 := by omega
  have g1 := fmod_pos (x := (x.fmod 2147483549 + c * spot + b) ^ 3) (show (0 : Int) < 2147483629 by decide)
  have q1 : 0 ≤ mix1 b c spot x ∧ mix1 b c spot x < 2147483629 := g1
  have p2 := small_prod (x := mix1 b c spot x) (y := 2 * spot + e) (n := 2147483629) (m := 3000000) q1.1 q1.2 (by omega) (by omega)
  have p3 := small_prod hb hb2 hs hs2
  have p4 := small_prod (x := b * spot) (y := spot) (n := 1000000000001) (m := 1000000) p3.1 (by omega) hs hs2
  have m2 : (mix1 b c spot x * (2 * spot + e) + b * spot * spot + a).natAbs < 18446744073709551616 := by omega
  have e1 : dMod (.int ((x.fmod 2147483549 + c * spot + b) ^ 3)) (.int 2147483629) = some (.int (mix1 b c spot x)) := dMod_ok (by decide)
  have e2 : dMod (.int ((mix1 b c spot x * (2 * spot + e) + b * spot * spot + a) ^ 5)) (.int 2147483563) = some (.int (mix2 a b e spot (mix1 b c spot x))) := dMod_ok (by decide)
  have w3 : dPow (.int (x.fmod 2147483549 + c * spot + b)) (.int 3) = some (.int ((x.fmod 2147483549 + c * spot + b) ^ 3)) := dPow_ok (by decide) (by decide) m1
  have w5 : dPow (.int (mix1 b c spot x * (2 * spot + e) + b * spot * spot + a)) (.int 5) = some (.int ((mix1 b c spot x * (2 * spot + e) + b * spot * spot + a) ^ 5)) := dPow_ok (by decide) (by decide) m2
  have k1 : dMul (.int c) (.int spot) = some (.int (c * spot)) := dMul_ok (by omega) (by omega)
  have k2 : dMul (.int (mix1 b c spot x)) (.int (2 * spot + e)) = some (.int (mix1 b c spot x * (2 * spot + e))) := dMul_ok (by omega) (by omega)
  have k3 : dMul (.int b) (.int spot) = some (.int (b * spot)) := dMul_ok (by omega) (by omega)
  have k4 : dMul (.int (b * spot)) (.int spot) = some (.int (b * spot * spot)) := dMul_ok (by omega) (by omega)
  have k5 : dMul (.int 2) (.int spot) = some (.int (2 * spot)) := dMul_ok (by omega) (by omega)
  have r1 : dMod (.int x) (.int 2147483549) = some (.int (x.fmod 2147483549)) := dMod_ok (by decide)
  have r2 : dDiv (.int (mix2 a b e spot (mix1 b c spot x))) (.int 32) = some (.int ((mix2 a b e spot (mix1 b c spot x)).fdiv 32)) := dDiv_ok (by decide) (by decide)
  simp [drawTail, sSeq, sAsg, eOp, eCall, aCons, aNil, eC, eVar, M.bind, M.pure, M.of, dInt, tgN, dAdd, gI, sRet, k1, k2, k3, k4, k5, e1, e2, w3, w5, r1, r2, dMod_ok hm]
theorem draw_ok (hm : 0 < many) (hm2 : many < 1073741824) (hs : 0 ≤ p.spot) (hs2 : p.spot < 1000000) (ha : 0 ≤ a) (ha2 : a < 1000000) (hb : 0 ≤ b) (hb2 : b < 1000000) (hc : 0 ≤ c) (hc2 : c < 1000000) (he : 0 ≤ e) (he2 : e < 1000000) :
    ∃ r p', bodyM 7 (drawG a b c e) [.pen, .int many] p = .ok (.int r) p' ∧ 0 ≤ r ∧ r < many ∧ Drawn p p' := by
  obtain ⟨cells, spot, rest⟩ := p
  dsimp only at hs hs2
  have start : ([D.pen, .int many].map SD.im ++ List.replicate (7 - [D.pen, .int many].length) SD.un) = [.im .pen, .im (.int many), .un, .un, .un, .un, .un] := rfl
  unfold bodyM
  rw [start]
  by_cases hr : rest > 0
  · refine ⟨rest.fmod many, ⟨cells, spot, rest.fdiv many⟩, ?_, (fmod_pos hm).1, (fmod_pos hm).2, rfl, Int.le_refl _, by show spot ≤ spot + 1; omega⟩
    simp [drawG, sSeq, sIf, bTest, eOp, dGt, gI, ePen, eC, M.bind, M.pure, M.of, asB, hr, sAsg, eCall, aCons, aNil, dInt, tgN, sPen, eVar, dDiv_ok hm hm2, dMod_ok hm, asI, sRet]
  · -- the next cell
    have ka : dMul (.int a) (.int spot) = some (.int (a * spot)) := dMul_ok (by omega) (by omega)
    have kt : dPow (.int 10) (.int 18) = some (.int 1000000000000000000) := (dPow_ok (by decide) (by decide) (by decide)).trans (by rfl)
    have k2 : ∀ y, dMul (.int 2) (.int y) = some (.int (2 * y)) := fun y => dMul_ok (by decide) (by decide)
    have tl : drawG a b c e = (sSeq (sIf (bTest (eOp dGt (ePen 0 2) (eC (.int 0)))) (sSeq (sAsg (eCall dInt (aCons (ePen 0 2) aNil)) (tgN 2))
        (sSeq (sPen 0 2 (eOp dDiv (eVar 2) (eVar 1))) (sRet (eOp dMod (eCall dInt (aCons (eVar 2) aNil)) (eVar 1))))) sNx)
        (sSeq (sAsg (ePen 0 1) (tgN 3)) (sSeq (sPen 0 1 (eOp dAdd (eVar 3) (eC (.int 1)))) (sSeq (sAsg (eOp dAdd (eOp dMul (eC (.int a)) (eVar 3)) (eC (.int b))) (tgN 4))
        (sSeq (sIf (bTest (eOp dNeD (ePen 0 0) (eLst aNil))) (sAsg (eOp dIxL (ePen 0 0) (eOp dMod (eCall dInt (aCons (eVar 3) aNil)) (eCall dLen (aCons (ePen 0 0) aNil)))) (tgN 4)) sNx)
        (sSeq (sIf (bAnd (bTest (eOp dLt (eVar 3) (eCall dLen (aCons (ePen 0 0) aNil)))) (bTest (eOp dGe (eCall dAbs (aCons (eVar 4) aNil)) (eOp dPow (eC (.int 10)) (eC (.int 18)))))) (sSeq (sAsg (eOp dAdd (eOp dMul (eC (.int 2)) (eOp dSub (eCall dAbs (aCons (eVar 4) aNil)) (eOp dPow (eC (.int 10)) (eC (.int 18))))) (eCall dInt (aCons (eOp dLt (eVar 4) (eC (.int 0))) aNil))) (tgN 5))
        (sSeq (sPen 0 2 (eOp dDiv (eCall dInt (aCons (eVar 5) aNil)) (eVar 1))) (sRet (eOp dMod (eCall dInt (aCons (eVar 5) aNil)) (eVar 1))))) sNx) (drawTail a b c e))))))) := rfl
    have dr : Drawn ⟨cells, spot, rest⟩ ⟨cells, spot + 1, rest⟩ := ⟨rfl, by show spot ≤ spot + 1; omega, Int.le_refl _⟩
    rw [tl]
    cases cells with
    | nil =>
      have hn : ¬ spot < 0 := by omega
      refine ⟨((mix2 a b e spot (mix1 b c spot (a * spot + b))).fdiv 32).fmod many, ⟨[], spot + 1, rest⟩, ?_, (fmod_pos hm).1, (fmod_pos hm).2, dr⟩
      have nn := ne_nil []
      simp only [List.map_nil] at nn
      have t := tail_ok (p := ⟨[], spot + 1, rest⟩) (x := a * spot + b) (d5 := .un) hm hs hs2 ha ha2 hb hb2 hc hc2 he he2
      simp [sSeq, sIf, bTest, eOp, dGt, gI, ePen, eC, M.bind, M.pure, M.of, asB, hr, sAsg, eCall, aCons, aNil, dInt, tgN, sPen, eVar, asI, sNx, dAdd, ka, eLst, sz, nn, bAnd, dLt, dLen, hn, t]
    | cons z zs =>
      have nn := ne_nil (z :: zs)
      have hl : (0 : Int) < ((z :: zs).length : Int) := by simp only [List.length_cons]; omega
      have hf := fmod_pos (x := spot) hl
      obtain ⟨x, hx⟩ := atI_ints (cells := z :: zs) (i := spot.fmod ((z :: zs).length : Int)) hf.1 hf.2
      have hx' : dIxL (.lst ((z :: zs).map .int)) (.int (spot.fmod ((z :: zs).length : Int))) = some (.int x) := hx
      have hmo : dMod (.int spot) (.int ((z :: zs).length : Int)) = some (.int (spot.fmod ((z :: zs).length : Int))) := dMod_ok hl
      have hle : dLen [.lst ((z :: zs).map .int)] = some (.int ((z :: zs).length : Int)) := by
        show some (D.int (((z :: zs).map D.int).length : Int)) = _
        rw [List.length_map]
      generalize hL : ((z :: zs).map D.int) = L at *
      generalize ((z :: zs).length : Int) = n at *
      have t := tail_ok (p := ⟨z :: zs, spot + 1, rest⟩) (x := x) (d5 := .un) hm hs hs2 ha ha2 hb hb2 hc hc2 he he2
      have ePenR : ∀ (S : Sl) (q : Pen), S[0]? = some (.im .pen) → ePen 0 2 S q = .ok (.int q.rest) q := fun S q h => by simp [ePen, h]
      have ePenS : ∀ (S : Sl) (q : Pen), S[0]? = some (.im .pen) → ePen 0 1 S q = .ok (.int q.spot) q := fun S q h => by simp [ePen, h]
      have pe : ∀ q : Pen, q.cells = z :: zs → ePen 0 0 [.im .pen, .im (.int many), .un, .im (.int spot), .im (.int (a * spot + b)), .un, .un] q = .ok (.lst L) q := fun q hq => by
        unfold ePen
        simp [hq]
        rw [← hL]
        rfl
      have pe2 : ∀ q : Pen, q.cells = z :: zs → ePen 0 0 [.im .pen, .im (.int many), .un, .im (.int spot), .im (.int x), .un, .un] q = .ok (.lst L) q := fun q hq => by
        unfold ePen
        simp [hq]
        rw [← hL]
        rfl
      by_cases h1 : spot < n
      · by_cases h2 : (if x < 0 then -x else x) ≥ 1000000000000000000
        · refine ⟨(2 * ((if x < 0 then -x else x) - 1000000000000000000) + (if x < 0 then 1 else 0)).fmod many, ⟨z :: zs, spot + 1, (2 * ((if x < 0 then -x else x) - 1000000000000000000) + (if x < 0 then 1 else 0)).fdiv many⟩, ?_, (fmod_pos hm).1, (fmod_pos hm).2, ⟨rfl, by show spot ≤ spot + 1; omega, Int.le_refl _⟩⟩
          simp [sSeq, sIf, bTest, eOp, dGt, gI, M.bind, M.pure, M.of, asB, hr, sAsg, eCall, aCons, aNil, dInt, tgN, sPen, ePenR, ePenS, eVar, asI, sNx, dAdd, ka, eLst, sz, nn, bAnd, dLt, hle, pe, pe2, hmo, hx', h1, dAbs, dGe, h2, kt, dSub, k2, eC, dDiv_ok hm hm2, dMod_ok hm, sRet]
        · refine ⟨((mix2 a b e spot (mix1 b c spot x)).fdiv 32).fmod many, ⟨z :: zs, spot + 1, rest⟩, ?_, (fmod_pos hm).1, (fmod_pos hm).2, ⟨rfl, by show spot ≤ spot + 1; omega, Int.le_refl _⟩⟩
          simp [sSeq, sIf, bTest, eOp, dGt, gI, M.bind, M.pure, M.of, asB, hr, sAsg, eCall, aCons, aNil, dInt, tgN, sPen, ePenR, ePenS, eVar, asI, sNx, dAdd, ka, eLst, sz, nn, bAnd, dLt, hle, pe, pe2, hmo, hx', h1, dAbs, dGe, h2, kt, dSub, k2, eC, dDiv_ok hm hm2, dMod_ok hm, sRet, t]
      · refine ⟨((mix2 a b e spot (mix1 b c spot x)).fdiv 32).fmod many, ⟨z :: zs, spot + 1, rest⟩, ?_, (fmod_pos hm).1, (fmod_pos hm).2, ⟨rfl, by show spot ≤ spot + 1; omega, Int.le_refl _⟩⟩
        simp [sSeq, sIf, bTest, eOp, dGt, gI, M.bind, M.pure, M.of, asB, hr, sAsg, eCall, aCons, aNil, dInt, tgN, sPen, ePenR, ePenS, eVar, asI, sNx, dAdd, ka, eLst, sz, nn, bAnd, dLt, hle, pe, pe2, hmo, hx', h1, dAbs, dGe, kt, dSub, k2, eC, dDiv_ok hm hm2, dMod_ok hm, sRet, t]
end
end Z
end
section
set_option Elab.async false
set_option linter.all false
set_option maxRecDepth 100000
set_option maxHeartbeats 4000000
/-! Exceptions of the program whose __init__ says super().__init__(x); self.x = x: made, raised. -/
namespace Z
open PySem PySem.Calls PyProof.Rows L2
/-- the def of such an __init__, of the class at D, stands at fI -/
structure InitAt (P : Program) (K : PySem.W.Frag) (D fI : Addr) (st : Stmt) (qual : Str) : Prop where
  fn : ∃ (oc : Value) (od : Option Addr) (kV doc pm : Value) (an : Option Addr) (cda cc : Addr) (ct : Value) (osl : Array (Option Value)),
    K.lookup fI = some ⟨oc, od, .func (PySem.W.ksFn "__init__" qual (defArgs st) (defBody st) (defScope st) .none kV doc pm an (.ref cda) ct cc), osl⟩ ∧ PySem.W.codeIn K (.ref cda) qual = true ∧
    (∃ c d vs sl file tf, K.lookup cda = some ⟨c, d, .fields vs, sl⟩ ∧ vs[2]? = some (.str file tf) ∧ ((P.main.file : Str) == file) = true) ∧ (∃ c d sl, K.lookup cc = some ⟨c, d, .cell (some (.ref D)), sl⟩)
  cls : ∃ cd, PySem.W.clsIn K D = some cd
  top : (P.main.scope.names.lookup ("super" : Str)).isSome = false
  typ : PySem.W.typeIn K (.ref fI) = some (.type "function")
/-- a class that is made by it -/
structure ClsX (K : PySem.W.Frag) (C D fI : Addr) : Prop where
  oex : OexC K C
  up : PySem.W.mroIn K C (.ref D) = some true
  sup : PySem.W.ks_superIn K C D "__init__" = some (some (.builtin "ValueError.__init__"))
  sub : PySem.W.subIn K (.ref C) (.type "ValueError") = some true
  ini : PySem.W.findIn K (.ref C) "__init__" = some (some (.ref fI))
  sta : PySem.W.nsIn K cStatics "thirdparty.any" = some none
/-- def __init__(self, x): super().__init__(x); self.x = x -/
structure Init1 (st : Stmt) (sf x : Str) : Prop where
  args : ∃ a b, (defArgs st).posonlyargs ++ (defArgs st).args = [a, b] ∧ a.arg = sf
  body : ∃ (p0 p1 p2 p3 p4 p5 p6 p7 p8 p9 : Pos) (pl : Sem Bool), defBody st = [.Expr (.Call (.Attribute (.Call (.Name "super" p0) [] [] p1) "__init__" p2) [.Name x p3] [] p4) p5, .Assign [.Attribute (.Name sf p6) x p7] (.Name x p8) p9] ∧
    (∀ env : Env, eval (.Call (.Attribute (.Call (.Name "super" p0) [] [] p1) "__init__" p2) [.Name x p3] [] p4) env = (do
      let ov ← attributeBase (.Call (.Name "super" p0) [] [] p1) "__init__" env (eval (.Call (.Name "super" p0) [] [] p1) env)
      standAt p2.atName
      let (f, first) ← holding [ov] (getMethod ov "__init__" pl)
      callWith p4 f first (backTo p4 (starEach [.Name x p3] env)) []))
  kind : (defScope st).kind = .function
  co : (defScope st).isCoroutine = false
  gen : (defScope st).isGenerator = false
  cell : ∀ y ∈ (defScope st).names, y.2 ≠ .cell
  k1 : (defScope st).names.lookup sf = some .local
  k2 : (defScope st).names.lookup x = some .local
  ks : (defScope st).names.lookup ("super" : Str) = some .globalImplicit
  kc : (defScope st).names.lookup ("__class__" : Str) = some .free
  bnd : ∀ (qual : Str) (kV doc pm : Value) (an : Option Addr) (cd : Value) (ct : Value) (cc : Addr) (v u : Value), bindArgs (PySem.W.ksFn "__init__" qual (defArgs st) (defBody st) (defScope st) .none kV doc pm an cd ct cc) ⟨[v, u], []⟩ = pure [(sf, v), (x, u)]
  ne : sf ≠ x
  dbg : (sf == ("__debug__" : Str)) = false ∧ (x == ("__debug__" : Str)) = false

theorem in_cell {K : PySem.W.Frag} {h : Heap} (X : K.In h) {a : Addr} {o : Obj} (e : K.lookup a = some o) : h.get? a = some o := X _ _ e
section
variable {P : Program} {w : World} {K : PySem.W.Frag} {mg : Str → Option Value} {base : Heap} {A : Around} {C D fI e t0 : Addr} {st : Stmt} {qual sf x : Str} {u : Value}
theorem sup_run (N : InitAt P K D fI st qual) (T : ClsX K C D fI) (S : Init1 st sf x) (M : Mod K mg base) (hs : mg "super" = none) (hx : PySem.W.findIn K (.ref C) x = some none) (q : PySem.W.excInitIn K C [.type "ValueError", .type "Exception", .type "BaseException", .type "object"] "ValueError.__new__" = true)
    {hp : Heap} {g : Array GenState} {d : PySem.Drawn} {tk : Nat} {os : OsState} {R : Result → Shared → Prop} (kb : ∀ b o, base.get? b = some o → hp.get? b = some o) (ne : base.get? e = none) (he : hp.get? e = some (PySem.HandSPX.excO C t0)) (hd : A.depth < recursionLimit)
    (hR : ∀ h' tk' dx t1, (∀ b o, b ≠ e → hp.get? b = some o → h'.get? b = some o) → hp.objs.size ≤ dx → dx ≠ e → h'.get? e = some (PySem.W.excObj C t1 (some dx) .none) → h'.Ns1 dx (fun y => if y = x then some u else none) → R (.ok (.ret .none)) ⟨h', g, d, tk', os⟩) :
    codeAny (model P w) A (.call (.ref fI) ⟨[.ref e, u], []⟩) R ⟨hp, g, d, tk, os⟩ := by
  obtain ⟨oc, od, kV, doc, pm, an, cda, cc, ct, osl, lk, hcd, ⟨c1, d1, vs, l1, file, tf, lc, hv, hfile⟩, c2, d2, l2, lcc⟩ := N.fn
  obtain ⟨cdD, hcD⟩ := N.cls
  obtain ⟨ar, ar2, ha1, ha2⟩ := S.args
  obtain ⟨p0, p1, p2, p3, p4, p5, p6, p7, p8, p9, pl, hb, hcall⟩ := S.body
  have X : K.In hp := M.kin.keeps kb
  refine PySem.ks_codeAny_call_defAt (fd := PySem.W.ksFn "__init__" qual (defArgs st) (defBody st) (defScope st) .none kV doc pm an (.ref cda) ct cc) (body := defBody st) (binds := [(sf, .ref e), (x, u)]) hd (X _ _ lk) rfl (M.nolimit.keeps kb) (PySem.W.codeRec_of X hcd) rfl
    (BindsTo.of_eq (S.bnd _ _ _ _ _ _ _ _ _ _)) S.cell (fun y hy => ?_) (fun h1 hns hk => ?_) S.co S.gen S.kind
  · rcases List.mem_cons.mp hy with rfl | hy
    · exact S.k1
    · rcases List.mem_cons.mp hy with rfl | hy
      · exact S.k2
      · cases hy
  · -- the body
    have nb : ∀ b o, base.get? b = some o → b ∉ [e] := fun b o z y => by
      rw [List.mem_singleton.mp y, ne] at z
      cases z
    have Fr0 : PyProof.Rows.Fr (PySem.W.hideAll hp [e]) hp.objs.size h1 (fun y => [(sf, .ref e), (x, u)].reverse.lookup y) := ⟨hns, fun b o z => hk b o (PySem.W.of_hideAll _ z), Nat.le_of_eq (PySem.W.hideAll_size _ _)⟩
    have X0 : K.In (PySem.W.hideAll hp [e]) := M.kin.keeps fun b o z => PySem.W.hideAll_get _ (kb b o z) (nb b o z)
    have N0 : News (PySem.W.hideAll hp [e]) hp.objs.size h1 [(e, PySem.W.excObj C t0 none .none)] := fun p hp' => by
      rw [List.mem_singleton.mp hp']
      exact ⟨hk _ _ he, Nat.ne_of_lt (Heap.lt_size he), PySem.W.hideAll_none _ (by simp)⟩
    have v1 : ([(sf, Value.ref e), (x, u)].reverse.lookup sf) = some (.ref e) := by
      have hsx : (sf == x) = false := beq_eq_false_iff_ne.mpr S.ne
      simp [List.lookup, hsx]
    have v2 : ([(sf, Value.ref e), (x, u)].reverse.lookup x) = some u := by simp [List.lookup]
    have X1 : K.In h1 := X.keeps hk
    have B1 : ∀ b o, base.get? b = some o → h1.get? b = some o := fun b o z => hk b o (kb b o z)
    rw [hb]
    refine PySem.ks_wpAt_execs_cons (PySem.ks_wpAt_Expr_any (PySem.ks_wpAt_MethodCall ?_ (hcall _)) (by show ((defScope st).kind == ScopeKind.module && _) = false; rw [S.kind]; rfl))
    refine PySem.ks_wpAt_super_base (f := fI) (cc := cda) (ar := ar) S.ks S.kc (by decide) rfl (hk _ _ (X _ _ lk)) rfl (by show List.head? ((defArgs st).posonlyargs ++ (defArgs st).args) = _; rw [ha1]; rfl) rfl (hk _ _ (X _ _ lc)) rfl hv hfile N.top ?_
    obtain ⟨mb, hmb1, hmb2⟩ := M.blt
    refine PySem.W.ks_loadName_global S.kind S.ks (loadGlobal_builtin (mg := mg) (mb := mb) (M.glob.keeps B1) hs (hmb1.keeps B1) (hmb2 "super" (by decide)) ⟨rfl, ?_⟩)
    refine wpAny_loadName_free S.kind S.kc (show [(("__class__" : Str), cc)].lookup ("__class__" : Str) = some cc from rfl) ⟨_, hk _ _ (X _ _ lcc), rfl⟩ ?_
    rw [ha2]
    refine wpAny_loadName_local S.kind S.k1 hns v1 ?_
    obtain ⟨oD, eD1, eD2⟩ : ∃ o, h1.get? D = some o ∧ o.data = .cls cdD := by
      have hcD' := hcD
      unfold PySem.W.clsIn at hcD'
      split at hcD'
      · rename_i a b c z hz
        cases hcD'
        exact ⟨_, X1 _ _ hz, rfl⟩
      · cases hcD'
    refine PySem.ks_wpAny_isType_cls eD1 eD2 ⟨rfl, ?_⟩
    refine PySem.ks_wpAny_call_super eD1 eD2 (hk _ _ he) rfl (fun z y => by cases y) (PySem.W.looks_mroIn X1 T.up) (fun h2 eS k2 => ?_)
    obtain ⟨F2, N2, o2⟩ := PySem.W.ks_newsPush (s := ⟨h1, g, d, tk + 2, os⟩) Fr0 N0 rfl eS k2
    have I2 : PySem.W.InstAt h2 e (PySem.W.excObj C t0 none .none) C none := ⟨k2 _ _ (hk _ _ he), rfl, rfl, trivial⟩
    refine PySem.W.kxs_method (s := ⟨h2, g, d, _, os⟩) PySem.W.kxs_ValueError F2 X0 N2 (List.mem_cons_self) I2 T.sta T.sup T.sub rfl (fun q2 h3 F3 N3 l3 => ?_)
    refine PySem.W.kxs_callWith1 N3 (List.mem_cons_self) ?_ (by rfl) (by rfl)
    refine Calls.spliced_cons (wpAny_Name (wpAny_loadName_local S.kind S.k2 F3.ns v2 ?_) S.dbg.2)
    refine Calls.spliced_nil ⟨PySem.W.kxs_at N3 (List.mem_cons_self), ?_⟩
    refine PySem.W.kxs_call (s := ⟨h3, g, d, _, os⟩) F3 X0 N3 F.excBase_ValueError q (List.mem_cons_self) (.tail (Nat.ne_of_gt (l3 (e, PySem.W.excObj C t0 none .none) (by simp))) (.tail (Nat.ne_of_gt (o2 (e, PySem.W.excObj C t0 none .none) (by simp))) (.head (fun p hp => by cases hp)))) (by show 1 ≤ sizeLine; decide) (fun t' h4 F4 N4 l4 => ?_)
    have K4 : ∀ b o, b ≠ e → hp.get? b = some o → h4.get? b = some o := fun b o hb z => F4.keep b o (PySem.W.hideAll_get _ z (by simpa using hb))
    have E4 : h4.get? e = some (PySem.W.excObj C t' none .none) := (N4 (e, PySem.W.excObj C t' none .none) (by simp)).1
    have X4 : K.In h4 := X0.keeps F4.keep
    obtain ⟨nm, qn, NN, bs, bm, sn, sub, ab, col, dd, j0, j1, j2, j3, j5, hC, hbm⟩ := T.oex.cls
    have hcl : PySem.W.clsIn K C = some { name := nm, bases := bs, mro := .ref C :: bm, ns := NN, qualname := qn, hasDict := true, slotNames := sn, subclasses := sub, abstract := ab, collection := col, hasDel := false } := by unfold PySem.W.clsIn; rw [hC] <;> rfl
    refine PySem.ks_wpAt_execs_cons (PySem.ks_wpAt_Assign_Attr (wpAt_of_wpAny (wpAny_Name (wpAny_loadName_local S.kind S.k2 F4.ns v2 ?_) S.dbg.2)) (by rfl))
    refine wpAny_Name (wpAny_loadName_local S.kind S.k1 F4.ns v1 ?_) S.dbg.1
    refine PySem.W.set_plain X4 (ox := PySem.W.excObj C t' none .none) (od := none) ⟨E4, rfl, rfl, trivial⟩ T.oex.sa ?_
    refine PySem.HandSPX.exc_osa X4 E4 hcl (show PySem.HandSPX.refsVE (.ref C :: bm) = true from hbm) rfl hx (fun h5 tk5 dx k5 ds dn e5 n5 => ?_)
    obtain ⟨oL, _, _, hL, _⟩ := F4.ns
    have z := hR h5 tk5 dx t' (fun b o hb z => k5 b o hb (K4 b o hb z)) (Nat.le_of_lt (Nat.lt_of_lt_of_le (Heap.lt_size hL) ds)) dn e5 n5
    exact wpAt_of_wpAny (wpAny_pure z)
end
/-- x(e), an own exception: its reading -/
def tMk1 (C : Addr) (f : Str) (ta : TA) : L2.St → Hp → XK → Prop := fun σ H Q => ta σ H fun vs H1 => ∃ v, vs = [v] ∧ ∀ d, H1 d = none → Q (.ref C) (some d) (upd H1 d (.xd [(f, v)]))
section
variable {X : Cx} {C D fI : Addr} {st : Stmt} {qual sf x nm : Str} {k : Nat} {e : Expr} {ta : TA} {p pos : Pos}
theorem pmk_sup (N : InitAt X.prog X.K D fI st qual) (T : ClsX X.K C D fI) (S : Init1 st sf x) (hs : X.mg "super" = none) (hx : PySem.W.findIn X.K (.ref C) x = some none) (q : PySem.W.excInitIn X.K C [.type "ValueError", .type "Exception", .type "BaseException", .type "object"] "ValueError.__new__" = true)
    (hr : Room (k + 1) X.A) (hg : Gl X nm) (hm : X.mg nm = some (.ref C)) (ha : PA X [e] ta) (hdb : (nm == ("__debug__" : Str)) = false := by decide) (he : starEach [e] X.env = (false, eval e X.env) :: starEach [] X.env := by rfl) (hpl : (backTo pos (starEach [] X.env)).any (·.1) = false := by rfl) :
    PMk X (.Call (.Name nm p) [e] [] pos) (tMk1 C x ta) := by
  intro pins s σ H Q I h
  obtain ⟨cn, qn, NN, bs, bm, sn, sub, ab, col, dd, j0, j1, j2, j3, j5, hC, hbm⟩ := T.oex.cls
  refine wpAny_Call_Name_kw (ld_glob I hg hm ?_ hdb)
  refine PySem.W.callWith_K (h₀ := X.base) I.ok.mod.kin T.oex.kC (thn (ha.run pos pins s σ H _ I h) fun us s1 z => ?_) he hpl
  obtain ⟨vs, H1, I1, r1, v, ev, q1⟩ := z
  subst ev
  refine ⟨I1.kIn, ?_⟩
  cases r1 with
  | @cons _ u _ ur ru rr =>
    cases rr
    show wpAny _ _ (call (.ref C) [u]) _ _ _
    have E0 := I1.env0
    obtain ⟨hp, g, dr, tk, os⟩ := s1
    have kb : ∀ b o, X.base.get? b = some o → hp.get? b = some o := fun b o z => (E0.bs b o z).1
    have kk : ∀ b o, hp.get? b = some o → ((hp.push (PySem.W.kdv_tup [u])).push (PySem.HandSPX.excO C hp.objs.size)).get? b = some o := fun b o z => Heap.get?_push_of_some _ (Heap.get?_push_of_some _ z)
    have hget : ((hp.push (PySem.W.kdv_tup [u])).push (PySem.HandSPX.excO C hp.objs.size)).get? (hp.objs.size + 1) = some (PySem.HandSPX.excO C hp.objs.size) := by heap_get
    have fresh : ∀ n, hp.get? (hp.objs.size + n) = none := fun n => Heap.get?_none_of_le (Nat.le_add_right _ _)
    have nb : X.base.get? (hp.objs.size + 1) = none := by
      cases z : X.base.get? (hp.objs.size + 1) with
      | none => rfl
      | some o =>
        have y := kb _ _ z
        rw [fresh 1] at y
        cases y
    refine wpAny_call (PySem.HandSPX.call_own F.excBase_ValueError (fun Y => PySem.HandSPX.refsVE_contains Y bm hbm) (I1.kIn _ _ hC) (PySem.W.looks_findIn I1.kIn T.ini) (fun y => PySem.W.bind_fn I1.kIn y N.typ) (by show 1 ≤ sizeLine; decide) ?_)
    refine sup_run (e := hp.objs.size + 1) N T S I.ok.mod hs hx q (fun b o z => kk b o (kb b o z)) nb hget (hr.make C [u] []).depth (fun h' tk' dx t1 k5 ds dn e5 n5 => ?_)
    refine ⟨rfl, ?_⟩
    -- the exception is let go, its dict stays
    obtain ⟨G, gY, gN⟩ := L2.restrict h' fun b => decide (b ≠ hp.objs.size + 1)
    have gk : ∀ b, b ≠ hp.objs.size + 1 → G.get? b = h'.get? b := fun b hb => gY b (decide_eq_true hb)
    have ge : G.get? (hp.objs.size + 1) = none := gN _ (by simp)
    have big : hp.objs.size ≤ ((hp.push (PySem.W.kdv_tup [u])).push (PySem.HandSPX.excO C hp.objs.size)).objs.size := by rw [Heap.size_push, Heap.size_push]; omega
    have hd1 : H1 dx = none := I1.hok.fresh (Nat.le_trans big ds)
    have old : ∀ b o, hp.get? b = some o → G.get? b = some o := fun b o z => by
      have hb : b ≠ hp.objs.size + 1 := fun y => by
        rw [y, fresh 1] at z
        cases z
      rw [gk b hb]
      exact k5 b o hb (kk b o z)
    have dict : ObjOk X.prog X.w (upd H1 dx (.xd [(x, v)])) G dx (.xd [(x, v)]) := ⟨_, n5.at fun o y => (gk dx dn).trans y, relO_put (fs := []) ru fun g => True.intro⟩
    have J : Inv X pins σ (upd H1 dx (.xd [(x, v)])) ⟨G, g, dr, tk', os⟩ := I1.laid (t' := tk') old (Nat.le_trans big ds) dict
    refine ⟨hp.objs.size + 1, _, _, ⟨G, g, dr, tk', os⟩, _, .ref C, some dx, rfl, J, fun b o z => ?_, ge, e5, ⟨rfl, rfl⟩, rfl, rfl, ?_, rfl, J.bare, raises_own T.oex.exC T.oex.tyC, q1 dx hd1⟩
    · by_cases hb : b = hp.objs.size + 1
      · rw [hb, ge] at z
        cases z
      · exact (gk b hb).symm.trans z
    · rw [upd_ne (Ne.symm dn)]
      exact I1.hok.fresh (Nat.le_succ _)
end
end Z
end
section
set_option Elab.async false
set_option linter.all false
set_option maxRecDepth 100000
set_option maxHeartbeats 4000000
/-! A caught exception that is kept in a local behind the suite: its place, its class, its fields. -/
namespace Z
open PySem PySem.Spec PySem.Calls PyProof.Rows L2
section
variable {X : Cx} {pins : List (Addr × Obj)} {σ : L2.St} {H : Hp} {s : Shared}
theorem track {a C dd : Addr} {o : Obj} {vs : Array Value} (I : Inv X pins σ H s) (n0 : X.s_0.heap.get? a = none) (na : H a = none) (e : s.heap.get? a = some o) (hz : Zc (.ref C) (some dd) o) (hd : o.data = .fields vs) (nL : a ≠ X.env.locals)
    (hp : ∀ p ∈ X.pn ++ pins, p.1 ≠ a) : Inv X pins σ (upd H a (exoX a C dd)) s where
  ok := I.ok
  os := I.os
  bare := I.bare
  base :=
    { keep := I.base.keep, slot := I.base.slot, there := I.base.there
      free := fun b u z n x => by
        have hb : b ≠ a := fun y => by
          rw [y, n0] at z
          cases z
        rw [upd_ne hb]
        exact I.base.free b u z n x
      tups := fun b u z => by
        have z := I.base.tups b u z
        rw [upd_ne (ne_of_none z na)]
        exact z
      frzs := fun b u v z => by
        have z := I.base.frzs b u v z
        rw [upd_ne (ne_of_none z na)]
        exact z
      tbls := fun b u z => by
        obtain ⟨m, z⟩ := I.base.tbls b u z
        exact ⟨m, by rw [upd_ne (ne_of_none z na)]; exact z⟩ }
  loc := I.loc
  cell := I.cell
  free := by rw [upd_ne (Ne.symm nL)]; exact I.free
  freeC := fun x c z => by
    have hc : c ≠ a := fun y => by
      obtain ⟨v, u, h1, h2⟩ := I.cell x c z
      rw [y, e] at h1
      cases h1
      rw [hd] at h2
      cases h2
    rw [upd_ne hc]
    exact I.freeC x c z
  pin := fun p hp' => by
    obtain ⟨h1, h2, h3⟩ := I.pin p hp'
    exact ⟨h1, by rw [upd_ne (hp p hp')]; exact h2, h3⟩
  hok := fun b u z => by
    by_cases hb : b = a
    · subst hb
      rw [upd_same] at z
      cases z
      exact exoX_ok e hz hd
    · rw [upd_ne hb] at z
      exact (I.hok b u z).stay (fun c v _ y => y) (fun c y => by rw [upd_ne (ne_of_none y na)]; exact y) fun c xs y => by rw [upd_ne (ne_of_none y na)]; exact y
  len := I.len
/-- what is wished of an exception of the body: it is kept in slot j -/
def wKeep (K : PySem.W.Frag) (CT : Value) (n i j : Nat) (D : Ends) : WX := fun cls d σ H => PySem.W.exmOne K cls CT = some true ∧ ∃ C dd, cls = .ref C ∧ d = some dd ∧ ∀ a, H a = none → σ.length = n → D.nx (((σ.set i (some (.ref a))).set j (some (.ref a))).set i none) (upd H a (exoX a C dd))
theorem ps_try_keep {x n m : Str} {CT : Value} {i j : Nat} {body : List Stmt} {np q1 q2 q3 q4 pos : Pos} {tb : WX → TS} (hs : X.stack = X.env :: X.outer) (hf : X.env.frame = some X.env.locals) (hN : X.N.Nodup) (hi : X.N[i]? = some n) (hln : X.env.kindOf n = some .local) (hj : X.N[j]? = some m) (hlm : X.env.kindOf m = some .local)
    (hc : Names X x CT) (hx0 : X.ex = []) (hd1 : (n == ("__debug__" : Str)) = false := by decide) (hd2 : (n == ("__classdict__" : Str)) = false := by decide) (hsw : swapsWith (.Name n q2) (some (.Name m q1)) q3.line X.env = pure false := by rfl)
    (hb : ∀ (W : WX) (pn : List (Addr × Obj)) (xe : Value → Shared → Prop), Takes (X.tr pn xe) W → PSs (X.tr pn xe) body (tb W)) :
    PS X (.Try body [.ExceptHandler (some (.Name x np)) (some n) [.Assign [.Name m q1] (.Name n q2) q3] q4] [] [] pos) (fun D σ H => tb (wKeep X.K CT X.N.length i j D) D σ H) := by
  refine ⟨fun pins s σ H D I h => ?_⟩
  have ok := I.ok
  have frm : X.A.frames = some (X.env :: X.outer) := by rw [ok.frames, hs]
  refine wpAny_Try_except (wpAny_mono ((hb (wKeep X.K CT X.N.length i j D) (X.pn ++ pins) _ (fun u s' xx => ?_)).run [] s σ H D (I.toTry _) h) (fun f s1 hsp => ?_) (fun e s1 he => he))
  · obtain ⟨a, B, t0, ps0, y0, G0, cls, d, rfl, J0, nb, up, sky, na, os, ag, hm, C, dd, rfl, rfl, yes⟩ := xx
    have R0 : Inv X pins y0 G0 t0 := J0.ofTry ok
    have sky1 : Sky B (X.env :: X.outer) a (Zc (.ref C) (some dd)) X.env.locals s'.heap := by rw [← hs]; exact sky
    show wpAny (model X.prog X.w) X.A (noteFrame (.ref a) X.env) _ _ _
    refine Sky.land Zc.steady frm hf sky1 fun g1 f1 u1 => ?_
    have R1 : Inv X pins y0 G0 { s' with heap := g1 } := R0.landed nb f1.1 (up.trans u1) os ag
    obtain ⟨o1, w1, e1, z1, d1⟩ := f1.there
    have bare : ∀ {h : Heap} {o : Obj} {vs : Array Value}, h.FunFrames B (X.env :: X.outer) → h.get? a = some o → o.data = .fields vs → a ∉ frs (X.env :: X.outer) := fun {h o vs} ff e dd hm => by
      obtain ⟨_, o2, e2, nf⟩ := ff.mem hm
      rw [e] at e2
      cases e2
      exact nf _ dd
    have nfr := bare f1.2.2.1 e1 d1
    have nL : a ≠ X.env.locals := fun z => nfr (List.mem_filterMap.mpr ⟨X.env, List.mem_cons_self, by rw [hf, z]⟩)
    have nF : a ∉ X.fs := fun z => by
      obtain ⟨v, hv, y⟩ := List.mem_filterMap.mp z
      exact nfr (List.mem_filterMap.mpr ⟨v, List.mem_cons_of_mem _ hv, y⟩)
    have nI : t0.heap.get? a = none := by
      cases z : t0.heap.get? a with
      | none => rfl
      | some o =>
        have y := nb a o z (by rw [hs]; exact nfr)
        rw [f1.2.1] at y
        cases y
    have n0 : X.s_0.heap.get? a = none := by
      cases z : X.s_0.heap.get? a with
      | none => rfl
      | some o =>
        have hx : a ∉ X.ex := by rw [hx0]; exact fun y => nomatch y
        obtain ⟨o2, y⟩ := R0.base.there a o z hx
        rw [nI] at y
        cases y
    have nps : ∀ p ∈ X.pn ++ pins, p.1 ≠ a := fun p hp y => by
      have z := (R0.pin p hp).1
      rw [y, nI] at z
      cases z
    have S1 := R1.suite e1 d1 na nL nF
    refine wpAny_handleBy_cons (codeAny_handlers_test ?_) (fun z => by cases z)
    have LT : PySem.W.Looks (model X.prog X.w) g1 (typeOf (.ref a)) (.ref C) := fun A Q E s k q => wpAny_typeOf_ref (k _ _ e1) (by rw [z1.1]; exact q)
    have LM := PySem.W.exm_one (M := model X.prog X.w) R1.kIn LT hm
    have test : ∀ {Q : Value → Shared → Prop} {E : Value → Shared → Prop}, Q CT { s' with heap := g1 } → wpAny (model X.prog X.w) (X.A.mark (some (.ref a))) (eval (.Name x np) X.env) Q E { s' with heap := g1 } := fun {Q E} q => by
      obtain ⟨hg, hdb, hm | ⟨hm, hv, hnn⟩⟩ := hc
      · exact ld_glob (X := X.suite a ((a, o1) :: (X.pn ++ pins))) S1 hg hm q hdb
      · exact ld_blt (X := X.suite a ((a, o1) :: (X.pn ++ pins))) S1 hg hm hv q hnn hdb
    refine test (LM.here ?_)
    refine codeAny_handlers_suite_as ?_
    refine PySem.HandSPX.lands_againZ f1 fun g2 f2 u2 => ?_
    have R2 : Inv X pins y0 G0 { s' with heap := g2 } := R0.landed nb f2.1 ((up.trans u1).trans u2) os ag
    obtain ⟨o2, w2, e2, z2, d2⟩ := f2.there
    have S2 := R2.suite e2 d2 na nL nF
    refine store_ok (X := X.suite a ((a, o2) :: (X.pn ++ pins))) (v := .ref a) S2 hN hi (Or.inl hln) rfl (fun s5 S5 => ?_) (.inr hln)
    have li : i < y0.length := by rw [R0.len]; exact (List.getElem?_eq_some_iff.mp hi).1
    have P1 := ps_set (X := X.suite a ((a, o2) :: (X.pn ++ pins))) (i := j) (x := m) (pos' := q1) (pos := q3) hN hj (Or.inl hlm) (pe_var (X := X.suite a ((a, o2) :: (X.pn ++ pins))) (pos := q2) (i := i) hi (Or.inl hln) hd1 hd2) hsw (.inr hlm)
    refine wpAny_mono ((pss_one P1).run [] s5 _ G0 { nx := fun y G => y = (y0.set i (some (.ref a))).set j (some (.ref a)) ∧ G = G0, rt := fun _ _ => False, bk := fun _ _ => False, ct := fun _ _ => False } S5 ⟨.ref a, List.getElem?_set_self li, rfl, rfl⟩) (fun f s6 hsp => ?_) (fun _ _ z => False.elim z)
    cases f with
    | next =>
      obtain ⟨y, G, K1, rfl, rfl⟩ := hsp
      obtain ⟨e3, _⟩ := K1.pin (a, o2) (List.mem_append_left _ List.mem_cons_self)
      have R6 := track (K1.unsuite ok) n0 na e3 z2 d2 nL nps
      exact gone_ok R6 hN hi hln fun s7 J7 => ⟨_, _, J7, yes a na R0.len⟩
    | brk =>
      obtain ⟨_, _, _, w⟩ := hsp
      exact w.elim
    | cont =>
      obtain ⟨_, _, _, w⟩ := hsp
      exact w.elim
    | ret u =>
      obtain ⟨_, _, _, _, _, w⟩ := hsp
      exact w.elim
  · cases f with
    | next =>
      obtain ⟨y, G, K1, w⟩ := hsp
      exact wpAny_execs_nil ⟨y, G, K1.ofTry ok, w⟩
    | brk =>
      obtain ⟨y, G, K1, w⟩ := hsp
      exact ⟨y, G, K1.ofTry ok, w⟩
    | cont =>
      obtain ⟨y, G, K1, w⟩ := hsp
      exact ⟨y, G, K1.ofTry ok, w⟩
    | ret u =>
      obtain ⟨v, y, G, K1, r, w⟩ := hsp
      exact ⟨v, y, G, K1.ofTry ok, r, w⟩
end
/-! ### asked of it: a field, its class -/
def rFldX (K : PySem.W.Frag) (f : Str) : V → Hp → VK → Prop := fun x H Q => ∃ (a C dd : Addr) (fs : List (Str × V)) (v : V), x = .ref a ∧ H a = some (exoX a C dd) ∧ H dd = some (.xd fs) ∧ XfC K C ∧ PySem.W.findIn K (.ref C) f = some none ∧ fs.lookup f = some v ∧ Q v H
def tFldX (K : PySem.W.Frag) (f : Str) (te : TE) : TE := fun σ H Q => te σ H fun x H1 => rFldX K f x H1 Q
section
variable {X : Cx} {e : Expr} {te : TE} {f : Str} {pos : Pos}
theorem inst_of {pins : List (Addr × Obj)} {σ : L2.St} {H : Hp} {s : Shared} {a C dd : Addr} {fs : List (Str × V)} (I : Inv X pins σ H s) (ha : H a = some (exoX a C dd)) (hd : H dd = some (.xd fs)) :
    ∃ (o od : Obj), PySem.W.InstAt s.heap a o C (some od) ∧ ∃ mA : Str → Option Value, (∀ f, RelO (fs.lookup f) (mA f)) ∧ ∀ f, PySem.W.lookIn f od = some (mA f) := by
  obtain ⟨o, vs, h1, h2, h3, h4⟩ := exoX_at I.hok ha
  have hx : ObjOk X.prog X.w H s.heap dd (.xd fs) := I.hok dd _ hd
  obtain ⟨mA, hns, hr⟩ := hx
  obtain ⟨od, ho, hl⟩ := lookIn_ns hns
  exact ⟨o, od, ⟨h1, h2, by unfold PySem.W.notCls; rw [h4] <;> rfl, by rw [h3]; exact ho⟩, mA, hr, fun f => hl f⟩
theorem pe_fldX (he : PE X e te) (hb : attributeBase e f X.env (eval e X.env) = eval e X.env := by rfl) : PE X (.Attribute e f pos) (tFldX X.K f te) := by
  refine ⟨fun pins s σ H Q I h => attr_of hb (thn (he.run pins s σ H _ I h) fun u s1 z => ?_)⟩
  obtain ⟨x, H1, I1, rx, a, C, dd, fs, v, rfl, ha, hd, T, hno, l, q⟩ := z
  obtain rfl : u = Value.ref a := rx
  obtain ⟨o, od, J, mA, hr, hl⟩ := inst_of I1 ha hd
  obtain ⟨w, hw, rw'⟩ := RelO.some_of (v := v) (o := mA f) (by rw [← l]; exact hr f)
  exact PySem.HandSPX.exc_get I1.kIn J T.ga T.gg T.exC (PySem.W.findObj_own T.hdC hno rfl (by rw [hl, hw])) (handed_of rw') ⟨v, H1, I1.tok _, rw', q⟩
/-- what a class says, so that isinstance may be asked of its instances -/
structure ClsI (K : PySem.W.Frag) (C : Addr) : Prop where
  cl : (PySem.W.clsIn K C).isSome = true
  ga : PySem.W.findIn K (.ref C) "__getattribute__" = some (some (.builtin "BaseException.__getattribute__"))
  gg : PySem.W.findIn K (.ref C) "__getattr__" = some none
  ex : PySem.W.subIn K (.ref C) (.type "BaseException") = some true
  ca : PySem.W.findIn K (.ref C) "__class__" = some (some (.builtin "object.__class__"))
  gs : PySem.W.specialIn K (.builtin "object.__class__") "__get__" = some (some (.builtin "getset_descriptor.__get__"))
  tk : PySem.W.takesIn K (.builtin "object.__class__") = some true
  mo : PySem.W.mroIn K C (.type "object") = some true
def rIsX (K : PySem.W.Frag) : List V → Hp → VK → Prop := fun xs H Q => ∃ (a C dd : Addr) (fs : List (Str × V)) (c : V) (cv : Value) (b : Bool), xs = [.ref a, c] ∧ H a = some (exoX a C dd) ∧ H dd = some (.xd fs) ∧ ClsI K C ∧ (∀ u, RelV c u → u = cv) ∧ PySem.W.kitOne K (.ref C) cv = some b ∧ Q (.bl b) H
theorem call_isX : CallR X (.builtin "isinstance") (rIsX X.K) := by
  intro pins s σ H xs us Q I r h
  obtain ⟨a, C, dd, fs, c, cv, b, rfl, ha, hd, T, hcv, hk, q⟩ := h
  cases r with
  | cons rx rr =>
    cases rr with
    | cons rt rr =>
      cases rr
      cases rx
      have ec := hcv _ rt
      subst ec
      obtain ⟨o, od, J, _⟩ := inst_of I ha hd
      exact PySem.W.kia_one (PySem.W.kitx_exc T.cl T.ga T.gg T.ex T.ca T.gs T.tk T.mo) I.kIn J hk (fun z => nomatch z) fun tk => ⟨.bl b, H, I.kept (t' := tk) fun _ _ z => z, rfl, q⟩
theorem k_isX {K : PySem.W.Frag} (h : X.K = K) : CallR X (.builtin "isinstance") (rIsX K) := h ▸ call_isX
end
end Z
end
section
set_option Elab.async false
set_option linter.all false
set_option maxRecDepth 100000
set_option maxHeartbeats 2000000
/-! Defs that raise: what the mirrors say of it. -/
namespace Z
open PySem L2 PyProof.Rows
theorem M.bind_ex {α β : Type} {x : M α} {f : α → M β} {p p' : Pen} {c : Str} {ks : List Str} {ds : List D} (h : M.bind x f p = .ex c ks ds p') : x p = .ex c ks ds p' ∨ ∃ a q, x p = .ok a q ∧ f a q = .ex c ks ds p' := by
  unfold M.bind at h
  cases e : x p with
  | ok a q => rw [e] at h; exact .inr ⟨a, q, rfl, h⟩
  | ex c' ks' ds' q =>
    rw [e] at h
    cases h
    exact .inl rfl
  | stuck => rw [e] at h; cases h
/-- what never raises -/
def Nm {α : Type} (x : M α) : Prop := ∀ p c ks ds p', x p ≠ .ex c ks ds p'
def Nx {α : Type} (f : Sl → M α) : Prop := ∀ s, Nm (f s)
theorem Nm.pure {α : Type} (a : α) : Nm (M.pure a) := fun _ _ _ _ _ z => by cases z
theorem Nm.no {α : Type} : Nm (M.no : M α) := fun _ _ _ _ _ z => by cases z
theorem Nm.of {α : Type} (o : Option α) : Nm (M.of o) := match o with
  | none => Nm.no
  | some a => Nm.pure a
/-- where it leaves the def -/
def LX (P : Par) (C : Fr) (c : Str) (ks : List Str) (ds : List D) (p' : Pen) (W : XK) : Prop := ∀ dd H' vs, Keep P C.H0 H' → PenAt P H' p' → ¬ C.Ob dd → H' dd = some (.xd (ks.zip vs)) → ks.length = vs.length → Rvs P (hid C.Ob H') ds vs → W (.ref (P.cl c)) (some dd) H'
/-- where it is caught: in the same frame -/
def PostX (P : Par) (C : Fr) (H : Hp) (c : Str) (ks : List Str) (ds : List D) (p' : Pen) (W : XK) : Prop := ∀ dd H' vs, Keep P H H' → PenAt P H' p' → ¬ C.O dd → H' dd = some (.xd (ks.zip vs)) → ks.length = vs.length → Rvs P (hid C.O H') ds vs → W (.ref (P.cl c)) (some dd) H'
def JXE (P : Par) (W : XK) (te : TE) (f : Sl → M D) : Prop := ∀ C s p σ H, Rel P C s p σ H → ∀ c ks ds p', f s p = .ex c ks ds p' → PostX P C H c ks ds p' W → ∀ Q, te σ H Q
def JXS (P : Par) (W : XK) (ts : TS) (g : Sl → M (Out × Sl)) : Prop := ∀ C s p σ H, Rel P C s p σ H → ∀ c ks ds p', g s p = .ex c ks ds p' → LX P C c ks ds p' W → ∀ E, ts E σ H
section
variable {P : Par} {W : XK} {C C' : Fr} {H H' : Hp} {te : TE} {ta : TA} {tt : TT} {t1 t2 : TS} {tg : TG} {fa : Sl → M D} {fl : Sl → M (List D)} {ft : Sl → M Bool} {g1 g2 : Sl → M (Out × Sl)} {t : D → Sl → Option Sl} {c : Str} {ks : List Str} {ds : List D} {p' : Pen}
theorem LX.back (g : Go P C C' H H') (l : LX P C c ks ds p' W) : LX P C' c ks ds p' W := fun dd H2 vs k q n h hl r => l dd H2 vs (by rw [← g.h0]; exact k) q (by rw [← g.ob]; exact n) h hl (by rw [← g.ob]; exact r)
theorem LX.post {s : Sl} {p : Pen} {σ : L2.St} (r : Rel P C s p σ H) (l : LX P C c ks ds p' W) : PostX P C H c ks ds p' W := fun dd H2 vs k q n h hl r2 => l dd H2 vs (r.base.trans k) q (fun z => n (r.sub _ z)) h hl (Rvs.ex (fz_less r.sub) ds vs r2)
theorem x_e (h : Nx fa) : JXE P W te fa := fun C s p σ H r c ks ds p' e => absurd e (h s p c ks ds p')
theorem x_s (h : Nx g1) : JXS P W t1 g1 := fun C s p σ H r c ks ds p' e => absurd e (h s p c ks ds p')
theorem x_seq (h1 : JS P t1 g1) (x1 : JXS P W t1 g1) (x2 : JXS P W t2 g2) : JXS P W (tSeq t1 t2) (sSeq g1 g2) := fun C s p σ H r c ks ds p' e l E => by
  rcases M.bind_ex e with e | ⟨⟨o, s1⟩, p1, e1, e2⟩
  · exact x1 C s p σ H r c ks ds p' e l _
  · cases o with
    | nx => exact h1 C s p σ H r .nx s1 p1 e1 { E with nx := t2 E } fun C1 σ1 H1 r1 go => x2 C1 s1 p1 σ1 H1 r1 c ks ds p' e2 (l.back go) E
    | rt d => cases e2
    | bk => cases e2
    | ct => cases e2
theorem x_if (hc : JT P tt ft) (nc : Nx ft) (x1 : JXS P W t1 g1) (x2 : JXS P W t2 g2) : JXS P W (tIfS tt t1 t2) (sIf ft g1 g2) := fun C s p σ H r c ks ds p' e l E => by
  rcases M.bind_ex e with e | ⟨b, p1, e1, e2⟩
  · exact absurd e (nc s p c ks ds p')
  · refine hc C s p σ H r b p1 e1 _ fun H1 k1 q1 => ?_
    have rl := r.keep k1 q1
    cases b with
    | true =>
      rw [if_pos rfl] at e2 ⊢
      exact x1 C s p1 σ H1 rl c ks ds p' e2 l E
    | false =>
      rw [if_neg Bool.false_ne_true] at e2 ⊢
      exact x2 C s p1 σ H1 rl c ks ds p' e2 l E
theorem x_drop (h : JXE P W te fa) : JXS P W (tDrop te) (sDrop fa) := fun C s p σ H r c ks ds p' e l E => by
  rcases M.bind_ex e with e | ⟨d, p1, e1, e2⟩
  · exact h C s p σ H r c ks ds p' e (l.post r) _
  · cases e2
theorem x_asg (h : JXE P W te fa) : JXS P W (tAsg te tg) (sAsg fa t) := fun C s p σ H r c ks ds p' e l E => by
  rcases M.bind_ex e with e | ⟨d, p1, e1, e2⟩
  · exact h C s p σ H r c ks ds p' e (l.post r) _
  · rcases M.bind_ex e2 with e2 | ⟨s1, p2, e3, e4⟩
    · exact absurd e2 (Nm.of _ _ _ _ _ _)
    · cases e4
theorem x_ret (h : JXE P W te fa) : JXS P W (tRet te) (sRet fa) := fun C s p σ H r c ks ds p' e l E => by
  rcases M.bind_ex e with e | ⟨d, p1, e1, e2⟩
  · exact h C s p σ H r c ks ds p' e (l.post r) _
  · cases e2
/-- raise c(e), c an exception with one field -/
def sRaise (c k : Str) (f : Sl → M D) : Sl → M (Out × Sl) := fun s => (f s).bind fun d => fun p => .ex c [k] [d] p
theorem js_raise {c k : Str} : JS P t1 (sRaise c k fa) := fun C s p σ H r o s' p' e => by
  obtain ⟨d, p1, e1, e2⟩ := M.bind_ok e
  cases e2
theorem x_raise {c k : Str} (h : JA P ta (aCons fa aNil)) (nc : Nx fa) : JXS P W (fun _ σ H => tMk1 (P.cl c) k ta σ H W) (sRaise c k fa) := fun C s p σ H r c' ks ds p' e l E => by
  rcases M.bind_ex e with e | ⟨d, p1, e1, e2⟩
  · exact absurd e (nc s p c' ks ds p')
  · cases e2
    have e3 : aCons fa aNil s p = .ok [d] p' := by
      unfold aCons
      rw [M.bind_app e1]
      rfl
    refine h C s p σ H r [d] _ e3 _ fun vs H1 k1 q1 r1 => ?_
    obtain ⟨v, r', rfl, r2, r3⟩ := r1
    have r3 : r' = [] := r3
    subst r3
    refine ⟨v, rfl, fun dd hd => l dd _ [v] (r.base.trans (k1.trans (.new hd))) (q1.keepNew hd) (fun z => (r.keep k1 q1).free hd (r.sub _ z)) upd_same rfl ⟨v, [], rfl, ?_, rfl⟩⟩
    exact Rv.ex (fun b o z => by
      obtain ⟨z1, z2⟩ := fz_some.mp z
      exact fz_some.mpr ⟨fun y => z1 (r.sub _ y), Evl.Ex.new hd b o z2⟩) d v r2
/-- the promise of a def that may raise -/
def spX (K : PySem.W.Frag) (cl : Str → Addr) (n : Nat) (m : List D → M D) : Sp := fun vs H Q E => spM K cl n m vs H Q E ∨ ∃ (P : Par), P.K = K ∧ P.cl = cl ∧ ∃ (O : Addr → Prop) (ds : List D) (p : Pen) (c : Str) (ks : List Str) (es : List D) (p' : Pen), ds.length = n ∧ (∀ a, P.hot a → O a) ∧ ¬ O P.ca ∧
  (∀ l, O l → ∃ o, H l = some o) ∧ PenAt P H p ∧ Rvs P (hid O H) ds vs ∧ m ds p = .ex c ks es p' ∧ ∀ dd H' ws, Keep P H H' → PenAt P H' p' → ¬ O dd → H' dd = some (.xd (ks.zip ws)) → ks.length = ws.length → Rvs P (hid O H') es ws → E (.ref (cl c)) (some dd) H'
theorem spX.len {K : PySem.W.Frag} {cl : Str → Addr} {n : Nat} {m : List D → M D} {vs : List V} {H : Hp} {Q : VK} {E : XK} (h : spX K cl n m vs H Q E) : vs.length = n := by
  rcases h with h | ⟨P, _, _, O, ds, p, c, ks, es, p', hn, _, _, _, _, r, _⟩
  · exact spM.len h
  · rw [r.len, hn]
theorem j_ownX {n : Nat} {m : List D → M D} {E : XK} (h : JA P ta fl) : JE P (tCall (spX P.K P.cl n m) [] E ta) (eOwn n m fl) := fun C s p σ H rl d p' e Q q => by
  obtain ⟨ds, p1, h1, e⟩ := M.bind_ok e
  split at e
  · rename_i hn
    refine h C s p σ H rl ds _ h1 _ fun vs H1 k1 q1 r1 => ?_
    have rl1 := rl.keep k1 q1
    show spX P.K P.cl n m (vs ++ []) H1 Q E
    rw [List.append_nil]
    exact .inl ⟨P, rfl, rfl, C.O, ds, p1, d, p', hn, rl.paO, rl.ca, rl1.dom, q1, r1, e, fun v H2 k2 q2 r2 => q v H2 (k1.trans k2) q2 r2⟩
  · cases e
theorem x_own {n : Nat} {m : List D → M D} (h : JA P ta fl) (nl : Nx fl) : JXE P W (tCall (spX P.K P.cl n m) [] W ta) (eOwn n m fl) := fun C s p σ H rl c ks es p' e l Q => by
  rcases M.bind_ex e with e | ⟨ds, p1, h1, e⟩
  · exact absurd e (nl s p c ks es p')
  · split at e
    · rename_i hn
      refine h C s p σ H rl ds _ h1 _ fun vs H1 k1 q1 r1 => ?_
      have rl1 := rl.keep k1 q1
      show spX P.K P.cl n m (vs ++ []) H1 Q W
      rw [List.append_nil]
      exact .inr ⟨P, rfl, rfl, C.O, ds, p1, c, ks, es, p', hn, rl.paO, rl.ca, rl1.dom, q1, r1, e, fun dd H2 ws k2 q2 nd hd hl r2 => l dd H2 ws (k1.trans k2) q2 nd hd hl r2⟩
    · cases e
end
theorem body_okX {K : PySem.W.Frag} {cl : Str → Addr} {N : List Str} {n : Nat} {g : Sl → M (Out × Sl)} {ts : TS} {vs : List V} {H : Hp} {Q : VK} {E : XK} (h : ∀ pa ca tt, JS ⟨K, pa, ca, cl, tt⟩ ts g) (hx : ∀ pa ca tt, JXS ⟨K, pa, ca, cl, tt⟩ E ts g)
    (sp : spX K cl n (bodyM N.length g) vs H Q E) : ts { nx := fun _ H' => Q .non H', rt := Q } (L2.start N vs) H := by
  rcases sp with sp | ⟨P, rfl, rfl, O, ds, p, c, ks, es, p', hd, hO, hc, hdom, hp, r, hm, q⟩
  · exact body_ok h sp
  · rcases M.bind_ex hm with e | ⟨⟨o, s1⟩, p1, e1, e2⟩
    · exact hx P.pa P.ca P.T ⟨O, O, H⟩ _ p _ H (start_rel (N := N) hO hc hdom hp r) c ks es p' e (fun dd H' ws k q' n h1 h2 h3 => q dd H' ws k q' n h1 h2 h3) _
    · cases o <;> cases e2
end Z
end
section
set_option Elab.async false
set_option linter.all false
set_option maxRecDepth 100000
set_option maxHeartbeats 4000000
/-! f(lambda: body): the lambda made, its table of code objects alone changed. -/
namespace Z
open PySem PySem.Spec PyProof.Rows L2 LamX
section
variable {X : Cx} {pins : List (Addr × Obj)} {σ : L2.St} {H HZ : Hp} {s s1 : Shared}
/-- the name of the lambda's code -/
abbrev lq (X : Cx) : Str := X.env.qual ++ "<lambda>"
abbrev lamO (X : Cx) (ar : Arguments) (bd : Expr) (sc : Scope) (pm : Value) (d : Addr) (cv : Value) : Obj := PySem.W.kla_obj "<lambda>" (lq X) ar bd sc (cloFrom X.env.cells sc.names []) pm d cv
theorem lam_new {T : List (Addr × Str)} {c P : Addr} {ar : Arguments} {bd : Expr} {sc : Scope} {po : Pos} {E Q : Value → Shared → Prop} (J : Inv X pins σ H s) (tb : TabB X.base X.mg c P) (hcd : X.env.code = .ref c)
    (mem : (P, lq X) ∈ T) (one : ∀ y ∈ T, y.1 = P → y.2 = lq X) (tt : Tabs T H) (hdf : defaultsOf ar X.env = ([], [])) (fr : ∀ y ∈ sc.names, y.2 = .free → ∃ c, X.env.cells.lookup y.1 = some c)
    (h : ∀ (f d : Addr) (pm cv : Value) (H1 : Hp) (s1 : Shared), Inv X pins σ H1 s1 → (∀ b o, b ≠ P → H b = some o → H1 b = some o) → Tabs T H1 → s1.heap.get? f = some (lamO X ar bd sc pm d cv) → H1 f = none → f ∉ frs X.stack → H1 d = some (CodeO d (lq X)) → Q (.ref f) s1) :
    wpAny (model X.prog X.w) X.A (eval (.Lambda ar bd sc po) X.env) Q E s := by
  obtain ⟨us, eP, tr, am⟩ := tt _ mem
  refine PySem.W.kla_eval hdf ?_
  have bP : s.heap.BuiltinsAt X.mg P := tb.bm.keeps J.bk
  have atP : s.heap.get? P = some { cls := .none, data := .fields us } := J.hok P _ eP
  have out : ∀ f, s.heap.objs.size ≤ f → f ∉ frs X.stack := fun f hf z => by
    rcases List.mem_cons.mp (J.stkSub _ z) with e | e
    · have y := J.lt
      rw [← e] at y
      exact Nat.lt_irrefl _ (Nat.lt_of_lt_of_le y hf)
    · exact J.nofs hf e
  cases hc : codeAmong po us.toList with
  | none =>
    refine PySem.W.kla_makeFunction (mg := X.mg) (c := c) (P := P) (ps := us) (closure_ok fr) J.ok.glob (J.mod.glob.keeps J.bk) hcd (tb.code.keeps J.bk) atP tr hc tb.gP bP fun d cv h1 tk k1 ge lt rc ht => ?_
    obtain ⟨d2, od, vs, t, e2, hod, hdd, hvs⟩ := rc
    cases e2
    have big : s.heap.objs.size ≤ h1.objs.size := Nat.le_trans ge (Nat.le_of_lt lt)
    have nd : H d = none := J.hok.fresh ge
    have J1 := inv_table (t' := tk) (more := #[rawInt po.line, rawInt po.col, .ref d]) (h' := h1.push (lamO X ar bd sc ((X.mg "__name__").getD .none) d cv)) J eP (fun b o hb e => Heap.get?_push_of_some _ (k1 b o hb e)) (Heap.get?_push_of_some _ ht) ge ⟨od, vs, t, Heap.get?_push_of_some _ hod, hdd, hvs⟩
    have kp : ∀ b o, b ≠ P → H b = some o → upd (upd H P (.tbl (us ++ #[rawInt po.line, rawInt po.col, .ref d]))) d (CodeO d (lq X)) b = some o := fun b o n e => by rw [upd_ne (ne_of_none e nd), upd_ne n]; exact e
    have kc : ∀ b y, H b = some (CodeO b y) → upd (upd H P (.tbl (us ++ #[rawInt po.line, rawInt po.col, .ref d]))) d (CodeO d (lq X)) b = some (CodeO b y) := fun b y e => kp b _ (fun z => by
      rw [z, eP] at e
      exact codeO_ne us (Option.some.inj e).symm) e
    refine h h1.objs.size d ((X.mg "__name__").getD .none) cv _ _ J1 kp (fun y hy => ?_) (Heap.get?_push_size _ rfl) ?_ (out _ big) upd_same
    · by_cases hb : y.1 = P
      · rw [one y hy hb, hb]
        have eL : (us ++ #[rawInt po.line, rawInt po.col, .ref d]).toList = us.toList ++ [rawInt po.line, rawInt po.col, .ref d] := by simp
        refine ⟨_, by rw [upd_ne (ne_of_none eP nd), upd_same], by rw [eL]; exact TriplesOk_snoc _ _ _ _ tr, fun p2 v2 hv2 => ?_⟩
        rw [eL] at hv2
        rcases among_app _ tr hv2 with z | z
        · obtain ⟨c0, e1, e2⟩ := am p2 v2 z
          exact ⟨c0, e1, kc _ _ e2⟩
        · exact ⟨d, z, upd_same⟩
      · obtain ⟨ws, a1, a2, a3⟩ := tt y hy
        refine ⟨ws, kp _ _ hb a1, a2, fun p2 v2 hv2 => ?_⟩
        obtain ⟨c0, e1, e2⟩ := a3 p2 v2 hv2
        exact ⟨c0, e1, kc _ _ e2⟩
    · rw [upd_ne (Nat.ne_of_gt lt), upd_ne (Nat.ne_of_gt (Nat.lt_of_lt_of_le (Heap.lt_size atP) big))]
      exact J.hok.fresh big
  | some cv =>
    obtain ⟨d, e, hco⟩ := am po cv hc
    subst e
    refine PySem.W.kla_makeFunctionHit (mg := X.mg) (c := c) (P := P) (ps := us) (closure_ok fr) J.ok.glob (J.mod.glob.keeps J.bk) hcd (tb.code.keeps J.bk) atP tr hc bP fun cv2 h1 tk k1 big => ?_
    have J1 : Inv X pins σ H { s with heap := h1.push (lamO X ar bd sc ((X.mg "__name__").getD .none) d cv2), toks := tk } := J.kept fun b o e => Heap.get?_push_of_some _ (k1 b o e)
    exact h h1.objs.size d ((X.mg "__name__").getD .none) cv2 H _ J1 (fun _ _ _ e => e) tt (Heap.get?_push_size _ rfl) (J.hok.fresh big) (out _ big) hco
/-- a(), in the def that got the lambda -/
theorem act_g {E0' E : XK} {Ng : List Str} {qg : Str} {sg sc : Scope} {f0 f d : Addr} {cd0 pm cv : Value} {ar : Arguments} {bd : Expr} {k i : Nat} {a : Str} {pn : List (Addr × Obj)} {xe : Value → Shared → Prop} {W : WX} {tb : TE} {p1 p2 : Pos}
    (J : Inv X pins σ H s) (L : LamS X.env.scope sc) (hf : s.heap.get? f = some (lamO X ar bd sc pm d cv)) (nf : H f = none) (nr : f ∉ frs X.stack) (bd0 : bindArgs (PySem.W.kla_fn "<lambda>" (lq X) ar bd sc (cloFrom X.env.cells sc.names []) pm (.ref d) cv) ⟨[], []⟩ = pure [])
    (tk : Takes ((cxOf C8.CX0 X.prog X.w X.K X.mg X.base Ng qg sg f0 cd0 X.A X.stack s H E0').tr pn xe) W) (hW : ∀ c y z G, E c y G → W c y z G) (hr : Room (k + 1) (X.A.deeper (envOfC qg sg s.heap.objs.size f0 cd0))) (hg : X.A.guards = some [])
    (body : ∀ (A : Around) (ou : List Env) (s : Shared) (H : Hp), Room k (A.deeper (lamEnv X sc s.heap.objs.size f d)) → (A.deeper (lamEnv X sc s.heap.objs.size f d)).guards = some [] → PE (lamCx X A ou s H E sc f d) bd tb)
    (hN : Ng[i]? = some a) (hv : Vis sg a) (h1 : (a == ("__debug__" : Str)) = false := by decide) (h2 : (a == ("__classdict__" : Str)) = false := by decide) :
    PE ((cxOf C8.CX0 X.prog X.w X.K X.mg X.base Ng qg sg f0 cd0 X.A X.stack s H E0').tr pn xe) (.Call (.Name a p1) [] [] p2) (fun y G Q => y[i]? = some (some (.ref f)) ∧ G d = some (CodeO d (lq X)) ∧ tb σ G Q) := by
  refine ⟨fun pz sz y G Q JZ z => ?_⟩
  obtain ⟨at0, hco, ht⟩ := z
  refine wpAny_Call_Name_kw (thn ((pe_var (pos := p1) (i := i) hN hv h1 h2).run pz sz y G (fun v G1 => v = .ref f ∧ G1 = G) JZ ⟨.ref f, at0, rfl, rfl⟩) fun u s2 w => ?_)
  obtain ⟨v, G1, J1, r1, rfl, rfl⟩ := w
  obtain rfl : u = Value.ref f := r1
  have at1 := J1.base.keep f _ hf nf nr (fun z => nomatch (show f ∈ ([] : List Addr) from z))
  refine PySem.W.callWith_F0 ⟨_, _, _, _, at1⟩ ?_
  obtain ⟨⟨od, vs, t, e1, e2, e3⟩, _, _⟩ := J1.hok d _ hco
  have run : codeAny (model X.prog X.w) (X.A.deeper (envOfC qg sg s.heap.objs.size f0 cd0)) (.call (.ref f) ⟨[], []⟩) (CR (L2.CX X.prog X.w) (envOfC qg sg s.heap.objs.size f0 cd0 :: X.stack) X.prog X.w G1 s2 Q E) s2 := by
    refine PySem.W.kla_callFunE hr.depth at1 rfl L.co L.gen rfl ⟨d, od, vs, t, rfl, e1, e2, e3⟩ ?_
    rw [bd0]
    refine wpAny_pure (wpAny_newFunctionEnv (fun b hb => (L.own b hb).2) (fun b hb => absurd hb (by simp)) (fun hp hns hs => ⟨J1.nolimit.fresh _ hs, ?_⟩) L.kind)
    show codeAny _ _ (.expr bd (lamEnv X sc s2.heap.objs.size f d)) _ _
    have J2 := lam_start2 (E := E) (f := f) (c' := d) (tk := s2.toks + ([] : List (Str × Value)).length) J L J1.env0 hr.hd J1.base hns fun b o e => hs.extBut b o (Nat.ne_of_lt (Heap.lt_size e)) (Heap.get?_push_of_some _ e)
    refine PySem.W.kla_codeExpr (wpAny_mono ((body _ _ s2 G1 (hr.deeper _) hg).run [] _ _ G1 Q J2 ht) (fun v sv hq => ?_) fun e se hq => hq)
    obtain ⟨v', G2, J3, rv, q⟩ := hq
    exact ⟨v', G2, J3.os, J3.bare, J3.base, J3.hok, rv, q⟩
  refine wpAny_call (codeAny_mono run fun r sr hq => ?_)
  match r, hq with
  | .error e, hq => exact passes_call tk hW pz y G1 s2 e sr J1 hq
  | .ok (.ret u), hq => exact J1.after hq
  | .ok .next, hq => exact False.elim hq
  | .ok .brk, hq => exact False.elim hq
  | .ok .cont, hq => exact False.elim hq
/-- what is made of the lambda's reading; P: its table -/
def tLamZ (P : Addr) (T : List (Addr × Str)) (TT : (XK → Hp → VK → Prop) → Hp → VK → Prop) (t : XK → TE) : TE := fun σ H Q => Tabs T H ∧ ∀ H1, (∀ b o, b ≠ P → H b = some o → H1 b = some o) → Tabs T H1 → TT (fun E H' Q' => t E σ H' Q') H1 Q
/-- x(lambda: body) -/
theorem pe_lamZ {T : List (Addr × Str)} {TT : (XK → Hp → VK → Prop) → Hp → VK → Prop} {x a : Str} {g c P : Addr} {k : Nat} {st : Stmt} {fd : FuncData} {Ng : List Str} {ar : Arguments} {bd : Expr} {sc : Scope} {t : XK → TE} {p po pos : Pos}
    (F : Fun X.K x x st g fd) (hg : Gl X x) (hm : X.mg x = some (.ref g)) (hb : L2.Binds X.K fd [a] []) (Sg : FnScope Ng [a] (defScope st)) (hN : Ng[0]? = some a) (hv : Vis (defScope st) a)
    (hG : ∀ cd, GivesTo X Ng x (defScope st) g cd (defBody st) a (lq X) TT)
    (tb : TabB X.base X.mg c P) (hcd : X.env.code = .ref c) (mem : (P, lq X) ∈ T) (one : ∀ y ∈ T, y.1 = P → y.2 = lq X) (hr : Room (k + 2) X.A) (gd : X.A.guards = some []) (L : LamS X.env.scope sc) (hdf : defaultsOf ar X.env = ([], []))
    (hbind : ∀ (q : Str) (cl : List (Str × Addr)) (pm cv ctv : Value), bindArgs (PySem.W.kla_fn "<lambda>" q ar bd sc cl pm cv ctv) ⟨[], []⟩ = pure [])
    (body : ∀ (A : Around) (ou : List Env) (s : Shared) (H : Hp) (E : XK) (f d : Addr), Room k (A.deeper (lamEnv X sc s.heap.objs.size f d)) → (A.deeper (lamEnv X sc s.heap.objs.size f d)).guards = some [] → PE (lamCx X A ou s H E sc f d) bd (t E))
    (hdb : (x == ("__debug__" : Str)) = false := by decide) (h1 : (a == ("__debug__" : Str)) = false := by decide) (h2 : (a == ("__classdict__" : Str)) = false := by decide) :
    PE X (.Call (.Name x p) [.Lambda ar bd sc po] [] pos) (tLamZ P T TT t) := by
  obtain ⟨oc, od, kV, doc, pm, an, cd, ct, osl, rfl, lk, hcdg⟩ := F.ex
  refine ⟨fun pins s σ H Q J z => ?_⟩
  obtain ⟨hT, z⟩ := z
  refine wpAny_Call_Name_kw (ld_glob J hg hm ?_ hdb)
  refine PySem.W.callWith_K (h₀ := X.base) J.ok.mod.kin F.kp ?_ (by rfl) (by rfl)
  show wpAny _ _ (spliced ((false, eval (.Lambda ar bd sc po) X.env) :: backTo pos (starEach [] X.env))) _ _ s
  refine Calls.spliced_cons (lam_new J tb hcd mem one hT hdf (L.has J.ok) fun f d pm2 cv H1 s1 J1 kp T1 hf nf nr hco => ?_)
  refine Calls.spliced_nil ⟨J1.kIn, ?_⟩
  have run : codeAny (model X.prog X.w) X.A (.call (.ref g) ⟨[.ref f], []⟩) (CR C8.CX0 X.stack X.prog X.w H1 s1 Q C8.E0) s1 := by
    refine run_ofS (N := Ng) (ps := [a]) (us := [.ref f]) (vs := [.ref f]) lk hcdg Sg hr J1.env0 (hb s1 [.ref f] J1.kIn rfl) (.cons rfl .nil) rfl fun hr2 => ?_
    obtain ⟨t1, ht1, q1⟩ := hG cd f d s1 H1 Q (fun E H' Q' => t E σ H' Q') (fun W pn xe E p1 p2 tk hW => act_g (i := 0) J1 L hf nf nr (hbind _ _ _ _ _) tk hW hr2 gd (fun A ou s H hr3 gd3 => body A ou s H E f d hr3 gd3) hN hv h1 h2) hco (z H1 kp T1)
    exact ⟨t1, ht1.nox, q1⟩
  refine wpAny_call (codeAny_mono run fun r sr hq => ?_)
  match r, hq with
  | .error e, hq => exact (show False from hq).elim
  | .ok (.ret u), hq => exact J1.after hq
  | .ok .next, hq => exact False.elim hq
  | .ok .brk, hq => exact False.elim hq
  | .ok .cont, hq => exact False.elim hq
end
end Z
end
section
set_option Elab.async false
set_option linter.all false
set_option maxRecDepth 100000
set_option maxHeartbeats 4000000
/-! What is heard of a call: nothing, or an exception that is kept and then looked at. -/
namespace Z
open PySem PySem.Spec PyProof.Rows L2 LamX
theorem pe_mono {X : Cx} {e : Expr} {t : TE} (h : PE X e t) : PE X e (fun σ H Q => ∃ Q1 : VK, t σ H Q1 ∧ ∀ v H', Q1 v H' → Q v H') := ⟨fun pins s σ H Q I ⟨Q1, h1, h2⟩ => by
  refine wpAny_mono (h.run pins s σ H Q1 I h1) (fun u s1 z => ?_) fun _ _ z => z
  obtain ⟨v, H1, J, r, q⟩ := z
  exact ⟨v, H1, J, r, h2 v H1 q⟩⟩
/-- the end of a def's body -/
def finM (r : Out × Sl) : M D := match r.1 with
  | .nx => M.pure .non
  | .rt d => M.pure d
  | _ => M.no
def heardM (cs : List Str) (n j : Nat) (rest : Sl → M (Out × Sl)) (x : M D) : M D := fun p => match x p with
  | .ok _ p' => M.bind (rest ((List.replicate n SD.un).set j (.im .non))) finM p'
  | .ex c ks ds p' => if cs.contains c = true then M.bind (rest ((List.replicate n SD.un).set j (.im (.exc c ks ds)))) finM p' else .stuck
  | .stuck => .stuck
def endQ (Q : VK) : Ends := { nx := fun _ H' => Q .non H', rt := Q }
/-- the reading: CT, the class of the clause; tr, what is behind the try -/
def TTh (K : PySem.W.Frag) (CT : Value) (n j : Nat) (tr : TS) : (XK → Hp → VK → Prop) → Hp → VK → Prop := fun tl H Q =>
  tl (fun cls d H' => PySem.W.exmOne K cls CT = some true ∧ ∃ C dd, cls = .ref C ∧ d = some dd ∧ ∀ a, H' a = none → ∀ y : L2.St, y.length = n → y[j]? = some (some (.ref a)) → tr (endQ Q) y (upd H' a (exoX a C dd))) H
    (fun _ H' => ∀ y : L2.St, y.length = n → y[j]? = some (some .non) → tr (endQ Q) y H')
theorem heard_gives {X : Cx} {Ng : List Str} {x a e m v q : Str} {sg : Scope} {g : Addr} {cdg CT : Value} {i j k0 : Nat} {rest : List Stmt} {tr : TS} {r1 r2 r3 p1 p2 p3 p4 p5 q1 q2 q3 q4 : Pos}
    (nd : Ng.Nodup) (ha0 : ∀ f : Addr, ((L2.start Ng [V.ref f]).set j (some .non))[0]? = some (some (V.ref f))) (hl0 : ∀ f : Addr, (L2.start Ng [V.ref f]).length = Ng.length) (hi : Ng[i]? = some v) (hv : sg.names.lookup v = some .local) (hj : Ng[j]? = some m) (hm : sg.names.lookup m = some .local) (ne : i ≠ j)
    (he : sg.names.lookup e = some .globalImplicit) (hme : X.mg e = some CT) (hde : (e == ("__debug__" : Str)) = false)
    (hrest : ∀ s H, PSs (cxOf C8.CX0 X.prog X.w X.K X.mg X.base Ng x sg g cdg X.A X.stack s H C8.E0).nox rest tr)
    (hsw : ∀ (env : Env), swapsWith (.Name v q2) (some (.Name m q1)) q3.line env = pure false) (hsw2 : ∀ (env : Env), swapsWith (.Constant .none k0 r2) (some (.Name m r1)) r3.line env = pure false)
    (hd1 : (v == ("__debug__" : Str)) = false := by decide) (hd2 : (v == ("__classdict__" : Str)) = false := by decide) :
    GivesTo X Ng x sg g cdg (.Assign [.Name m r1] (.Constant .none k0 r2) r3 :: .Try [.Expr (.Call (.Name a p1) [] [] p2) p3] [.ExceptHandler (some (.Name e p4)) (some v) [.Assign [.Name m q1] (.Name v q2) q3] q4] [] [] p5 :: rest) a q (TTh X.K CT Ng.length j tr) := by
  intro f d s H Q tl act hc h
  have jl : j < Ng.length := (List.getElem?_eq_some_iff.mp hj).1
  have hgl : Gl (cxOf C8.CX0 X.prog X.w X.K X.mg X.base Ng x sg g cdg X.A X.stack s H C8.E0).nox e := he
  refine ⟨_, pss_cons (ps_set (X := (cxOf C8.CX0 X.prog X.w X.K X.mg X.base Ng x sg g cdg X.A X.stack s H C8.E0).nox) (i := j) nd hj (Or.inl hm) pe_non (hsw2 _) (.inr hm))
    (pss_cons (ps_try_keep (X := (cxOf C8.CX0 X.prog X.w X.K X.mg X.base Ng x sg g cdg X.A X.stack s H C8.E0).nox) (CT := CT) (i := i) (j := j)
      (tb := fun W D σ H => ∃ (Ech : XK) (Q1 : VK), (∀ cls d σ' H', Ech cls d H' → W cls d σ' H') ∧ (σ[0]? = some (some (.ref f)) ∧ H d = some (CodeO d q) ∧ tl Ech H Q1) ∧ ∀ v H', Q1 v H' → D.nx σ H')
      rfl rfl nd hi hv hj hm ⟨hgl, hde, .inl hme⟩ rfl hd1 hd2 (hsw _) (fun W pn xe tk => ?_)) (hrest s H)), ?_⟩
  · refine ⟨fun pins s' σ H' D I h' => ?_⟩
    obtain ⟨Ech, Q1, hW, h1, hD⟩ := h'
    exact (pss_one (ps_expr (pos := p3) (pe_mono (act W pn xe Ech p1 p2 tk hW)))).run pins s' σ H' D I ⟨Q1, h1, hD⟩
  · refine ⟨_, _, fun cls d2 σ' H' z => ?_, ⟨ha0 f, hc, h⟩, fun v2 H' z => z _ (by rw [List.length_set, hl0]) (List.getElem?_set_self (by rw [hl0]; exact jl))⟩
    obtain ⟨z1, C, dd, z2, z3, z4⟩ := z
    refine ⟨z1, C, dd, z2, z3, fun b hb hl => z4 b hb _ (by simp only [List.length_set]; exact hl) ?_⟩
    rw [List.getElem?_set_ne ne, List.getElem?_set_self (by rw [List.length_set, hl]; exact jl)]
/-- a frame of which one slot alone is known -/
theorem rel_one {P : Par} {C : Fr} {s : Sl} {p : Pen} {σ : L2.St} {H : Hp} (r : Rel P C s p σ H) {n j : Nat} {y : L2.St} {d : D} {v : V} (hl : y.length = n) (hy : y[j]? = some (some v)) (rv : Rv P (hid C.O H) d v) : Rel P ⟨C.O, C.O, H⟩ ((List.replicate n SD.un).set j (.im d)) p y H := by
  have sl : ∀ m e, ((List.replicate n SD.un).set j (.im d))[m]? = some e → e = .un ∨ (m = j ∧ e = .im d) := fun m e h => by
    rcases set_get h with ⟨e1, e2, _⟩ | ⟨_, h⟩
    · exact .inr ⟨e1, e2⟩
    · rw [List.getElem?_replicate] at h
      split at h
      · exact .inl (Option.some.inj h).symm
      · cases h
  exact
    { len := by rw [List.length_set, List.length_replicate]; exact hl
      pa := r.paO, ca := r.ca, ca0 := ⟨_, r.pen.2.2.1⟩, pen := r.pen, dom := r.dom, dom0 := r.dom, base := .refl H, sub := fun _ z => z
      im := fun m e h => by
        rcases sl m _ h with z | ⟨rfl, z⟩
        · cases z
        · cases z
          exact ⟨v, hy, rv⟩
      ow := fun m e h => by rcases sl m _ h with z | ⟨_, z⟩ <;> cases z
      inj := fun m o e f l h => by rcases sl m _ h with z | ⟨_, z⟩ <;> cases z }
theorem j_heard {P : Par} {cs : List Str} {CT : Value} {n j : Nat} {tr : TS} {restG : Sl → M (Out × Sl)} {t : XK → TE} {askF : Sl → M D} {T0 : Addr} {q : Str} (hj : ∀ E, JE P (t E) askF) (hx : ∀ W, JXE P W (t W) askF) (hr : JS P tr restG) (mem : (T0, q) ∈ P.T)
    (hex : ∀ c ∈ cs, PySem.W.exmOne P.K (.ref (P.cl c)) CT = some true) : JE P (tLamZ T0 P.T (TTh P.K CT n j tr) t) (fun s => heardM cs n j restG (askF s)) := fun C s p σ H r d p' e Q post => by
  refine ⟨r.pen.2.2.2, fun H1 kp T1 => ?_⟩
  obtain ⟨ps, eT, _⟩ := r.pen.2.2.2 _ mem
  have nT : ∀ {b vs}, H b = some (.lst vs) → b ≠ T0 := fun {b vs} z y => by
    rw [y, eT] at z
    cases z
  have k1 : Keep P H H1 := fun b o nh z => kp b o (fun y => nh (.inr ⟨q, by rw [y]; exact mem⟩)) z
  have q1 : PenAt P H1 p := ⟨r.pen.1, kp _ _ (nT r.pen.2.1) r.pen.2.1, kp _ _ (nT r.pen.2.2.1) r.pen.2.2.1, T1⟩
  have r1 := r.keep k1 q1
  -- the rest, from where the ask came back
  have fin : ∀ {d0 : D} {p1 : Pen} {H2 : Hp} {y : L2.St} {v : V}, Keep P H1 H2 → PenAt P H2 p1 → Rv P (hid C.O H2) d0 v → y.length = n → y[j]? = some (some v) → M.bind (restG ((List.replicate n SD.un).set j (.im d0))) finM p1 = .ok d p' → tr (endQ Q) y H2 := fun {d0 p1 H2 y v} k2 q2 rv hl hy e => by
    obtain ⟨⟨o, s2⟩, p2, e1, e2⟩ := M.bind_ok e
    have r2 := rel_one (r1.keep k2 q2) hl hy rv
    refine hr _ _ _ y H2 r2 o s2 p2 e1 _ ?_
    cases o with
    | nx =>
      cases e2
      intro C' σ' H' r3 g3
      have z := r3.base
      rw [g3.h0] at z
      exact post .non H' (k1.trans (k2.trans z)) r3.pen rfl
    | rt d2 =>
      cases e2
      intro v2 H' k3 q3 rv2
      exact post v2 H' (k1.trans (k2.trans k3)) q3 rv2
    | bk => cases e2
    | ct => cases e2
  have e : heardM cs n j restG (askF s) p = .ok d p' := e
  unfold heardM at e
  cases ha : askF s p with
  | ok d1 p1 =>
    rw [ha] at e
    exact hj _ C s p σ H1 r1 d1 p1 ha _ fun v H2 k2 q2 _ y hl hy => fin (d0 := .non) k2 q2 (show Rv P _ .non .non from rfl) hl hy e
  | stuck =>
    rw [ha] at e
    cases e
  | ex c ks ds p1 =>
    rw [ha] at e
    dsimp only at e
    split at e
    case isFalse => cases e
    rename_i hc
    refine hx _ C s p σ H1 r1 c ks ds p1 ha (fun dd H2 vs k2 q2 nd hd hl rv => ⟨hex c (by simpa using hc), _, dd, rfl, rfl, fun b hb y hy1 hy2 => ?_⟩) _
    have r2 := r1.keep k2 q2
    have nb : ¬ C.O b := r2.free hb
    have ndb : dd ≠ b := fun z => by rw [z, hb] at hd; cases hd
    refine fin (k2.trans (.new hb)) (q2.keepNew hb) ?_ hy1 hy2 e
    refine ⟨b, dd, vs, rfl, fz_some.mpr ⟨nb, upd_same⟩, fz_some.mpr ⟨nd, by rw [upd_ne ndb]; exact hd⟩, hl, Rvs.ex (fun c2 o z => ?_) ds vs rv⟩
    obtain ⟨z1, z2⟩ := fz_some.mp z
    exact fz_some.mpr ⟨z1, Evl.Ex.new hb _ _ z2⟩
end Z
end
section
set_option Elab.async false
set_option linter.all false
set_option maxRecDepth 100000
set_option maxHeartbeats 2000000
/-! isinstance and fields of a kept exception; list.count, list.index over flat items. -/
namespace Z
open PySem L2 PyProof.Rows
section
variable {P : Par} {te : TE} {fe : Sl → M D}
/-- isinstance(e, x) of an exception of one of the classes cs -/
def eIsX (cs : List Str) (sub : Str → Str → Bool) (x : Str) (f : Sl → M D) : Sl → M D := fun s => (f s).bind fun d => match d with
  | .exc c _ _ => if cs.contains c = true then M.pure (.bl (sub c x)) else M.no
  | _ => M.no
theorem j_isX {cs : List Str} {sub : Str → Str → Bool} {x : Str} (h : JE P te fe) (tab : ∀ c ∈ cs, ClsI P.K (P.cl c) ∧ PySem.W.kitOne P.K (.ref (P.cl c)) (.ref (P.cl x)) = some (sub c x)) :
    JE P (tCB (rIsX P.K) (tCons te (tCons (tC (.ref (P.cl x))) tNil))) (eIsX cs sub x fe) := fun C s p σ H r d p' e Q q => by
  obtain ⟨y, p1, e1, e2⟩ := M.bind_ok e
  cases y <;> first | cases e2 | skip
  rename_i c ks ds
  dsimp only at e2
  split at e2
  · rename_i hc
    cases e2
    refine h C s p σ H r _ _ e1 _ fun v H1 k1 q1 r1 => ?_
    obtain ⟨a, dd, vs, rfl, h1, h2, h3, h4⟩ := r1
    obtain ⟨t1, t2⟩ := tab c (by simpa using hc)
    exact ⟨a, _, dd, _, .ref (P.cl x), .ref (P.cl x), _, rfl, fz_up _ _ h1, fz_up _ _ h2, t1, fun u hu => hu, t2, q _ H1 k1 q1 rfl⟩
  · cases e2
def eFldX (cs : List Str) (k : Str) (f : Sl → M D) : Sl → M D := fun s => (f s).bind fun d => match d with
  | .exc c ks ds => if cs.contains c = true then M.of ((ks.zip ds).lookup k) else M.no
  | _ => M.no
theorem zip_look {H : Hp} {k : Str} {d : D} : ∀ {ks : List Str} {ds : List D} {vs : List V}, Rvs P H ds vs → (ks.zip ds).lookup k = some d → ∃ v, (ks.zip vs).lookup k = some v ∧ Rv P H d v
  | [], _, _, _, e => by simp at e
  | _ :: _, [], _, _, e => by simp at e
  | y :: ks, x :: ds, _, ⟨v, r, rfl, h1, h2⟩, e => by
    rw [List.zip_cons_cons, List.lookup_cons] at e ⊢
    cases hy : (k == y) with
    | true =>
      rw [hy] at e
      cases e
      exact ⟨v, rfl, h1⟩
    | false =>
      rw [hy] at e
      exact zip_look h2 e
theorem j_fldX {cs : List Str} {k : Str} (h : JE P te fe) (tab : ∀ c ∈ cs, XfC P.K (P.cl c) ∧ PySem.W.findIn P.K (.ref (P.cl c)) k = some none) : JE P (tFldX P.K k te) (eFldX cs k fe) := fun C s p σ H r d p' e Q q => by
  obtain ⟨y, p1, e1, e2⟩ := M.bind_ok e
  cases y <;> first | cases e2 | skip
  rename_i c ks ds
  dsimp only at e2
  split at e2
  · rename_i hc
    obtain ⟨e3, rfl⟩ := M.of_ok e2
    refine h C s p σ H r _ _ e1 _ fun v H1 k1 q1 r1 => ?_
    obtain ⟨a, dd, vs, rfl, h1, h2, h3, h4⟩ := r1
    obtain ⟨t1, t2⟩ := tab c (by simpa using hc)
    obtain ⟨w, hw, rw'⟩ := zip_look h4 e3
    exact ⟨a, _, dd, _, w, rfl, fz_up _ _ h1, fz_up _ _ h2, t1, t2, hw, q w H1 k1 q1 rw'⟩
  · cases e2
end
end Z
namespace Z
open PySem PySem.Spec L2 PyProof.Rows
/-- xs.count(y), over flat items -/
def rCntF (K : PySem.W.Frag) : V → List V → Hp → VK → Prop := fun x xs H Q => ∃ (p : Addr) (ys : List V) (y : V), x = .ref p ∧ xs = [y] ∧ SqL K H p ys ∧ flatV y = true ∧ ys.all flatV = true ∧ Q (.int ((ys.countP fun z => eqV z y : Nat) : Int)) H
theorem countP_eqU {y : V} : ∀ {ys : List V} {us : List Value}, Vals ys us → ys.all flatV = true → us.countP (eqU y) = ys.countP fun z => eqV z y
  | _, _, .nil, _ => rfl
  | z :: ys, u :: us, .cons r t, f => by
    rw [List.all_cons, Bool.and_eq_true] at f
    rw [List.countP_cons, List.countP_cons, countP_eqU t f.2, eqU_of r f.1]
theorem mt_countF {X : Cx} : MtR X "list.count" (rCntF X.K) := by
  intro pins s σ H x xs v us Q I rx rxs h
  obtain ⟨p, ys, y, rfl, rfl, hs, fy, fys, q⟩ := h
  cases rx
  obtain ⟨u, rfl, ru⟩ := rxs.one
  obtain ⟨its, rv, ⟨⟨cls, dd, data, sl⟩, n, ho, hc, hdn, hd⟩, hlen⟩ := I.list hs
  simp only at hc hd
  subst hc hd
  have run := SeqAt.list_countAt p its.toArray n dd sl u (eqU y)
  refine call_meets PySem.F.slot_list_count ⟨_, ho, rfl⟩ PySem.F.entry_list_count (PySem.F.args_list_count_2 _ _) run ⟨ho, fun z hz => mem_eqAt ru fy rv fys z (by simpa using hz), ?_⟩
  refine ⟨.int ((ys.countP fun z => eqV z y : Nat) : Int), H, I.tok _, ⟨s.toks, ?_⟩, q⟩
  show Value.int ((its.toArray.toList.countP (eqU y) : Nat) : Int) s.toks = _
  rw [← countP_eqU rv fys]
theorem k_countF {X : Cx} {K : PySem.W.Frag} (h : X.K = K) : MtR X "list.count" (rCntF K) := h ▸ mt_countF
theorem k_indexF {X : Cx} {K : PySem.W.Frag} (h : X.K = K) : MtR X "list.index" (rIndex K) := h ▸ mt_index
section
variable {P : Par} {te : TE} {ta : TE} {fe fa : Sl → M D}
def dCntF (x y : D) : Option D := match x with
  | .lst ds => (dV y).bind fun u => (dVs ds).map fun us => .int ((us.countP fun z => eqV z u : Nat) : Int)
  | _ => none
def dIdxF (x y : D) : Option D := match x with
  | .lst ds => (dV y).bind fun u => (dVs ds).bind fun us => (us.findIdx? fun z => eqV z u).map fun j => .int ((j : Nat) : Int)
  | _ => none
theorem j_cntF (h : JE P te fe) (ha : JE P ta fa) : JE P (tBM P.K "list" (rCntF P.K) te (tCons ta tNil)) (eOp dCntF fe fa) := fun C s p σ H r d p' e Q q => by
  obtain ⟨x, p1, e1, e2⟩ := M.bind_ok e
  obtain ⟨y, p2, e3, e4⟩ := M.bind_ok e2
  obtain ⟨e5, rfl⟩ := M.of_ok e4
  cases x <;> first | cases e5 | skip
  rename_i ds
  have e5 : ((dV y).bind fun u => (dVs ds).map fun us => D.int ((us.countP fun z => eqV z u : Nat) : Int)) = some d := e5
  cases hy : dV y with
  | none => rw [hy] at e5; cases e5
  | some u =>
    rw [hy] at e5
    have e5 : ((dVs ds).map fun us => D.int ((us.countP fun z => eqV z u : Nat) : Int)) = some d := e5
    cases hd : dVs ds with
    | none => rw [hd] at e5; cases e5
    | some us =>
      rw [hd] at e5
      cases e5
      refine h C s p σ H r _ _ e1 _ fun v H1 k1 q1 r1 => ?_
      obtain ⟨a, vs, rfl, h1, h2⟩ := r1
      refine ⟨Or.inl ⟨rfl, vs, Evl.sq_of (fz_some.mp h1).2⟩, ?_⟩
      refine ha C s _ σ H1 (r.keep k1 q1) _ _ e3 _ fun w H2 k2 q2 r2 => ?_
      have h3 := (r.keep k1 q1).fz k2 _ _ h1
      obtain ⟨rfl, hf⟩ := dVs_v hd h2
      obtain rfl := dV_v hy r2
      exact ⟨a, _, w, rfl, rfl, Evl.sq_of (fz_some.mp h3).2, dV_flat hy, hf, q _ H2 (k1.trans k2) q2 rfl⟩
theorem j_idxF (h : JE P te fe) (ha : JE P ta fa) : JE P (tBM P.K "list" (rIndex P.K) te (tCons ta tNil)) (eOp dIdxF fe fa) := fun C s p σ H r d p' e Q q => by
  obtain ⟨x, p1, e1, e2⟩ := M.bind_ok e
  obtain ⟨y, p2, e3, e4⟩ := M.bind_ok e2
  obtain ⟨e5, rfl⟩ := M.of_ok e4
  cases x <;> first | cases e5 | skip
  rename_i ds
  have e5 : ((dV y).bind fun u => (dVs ds).bind fun us => (us.findIdx? fun z => eqV z u).map fun j => D.int ((j : Nat) : Int)) = some d := e5
  cases hy : dV y with
  | none => rw [hy] at e5; cases e5
  | some u =>
    rw [hy] at e5
    have e5 : ((dVs ds).bind fun us => (us.findIdx? fun z => eqV z u).map fun j => D.int ((j : Nat) : Int)) = some d := e5
    cases hd : dVs ds with
    | none => rw [hd] at e5; cases e5
    | some us =>
      rw [hd] at e5
      have e5 : ((us.findIdx? fun z => eqV z u).map fun j => D.int ((j : Nat) : Int)) = some d := e5
      cases hi : us.findIdx? fun z => eqV z u with
      | none => rw [hi] at e5; cases e5
      | some j =>
        rw [hi] at e5
        cases e5
        obtain ⟨hj, h5, h6⟩ := List.findIdx?_eq_some_iff_getElem.mp hi
        refine h C s p σ H r _ _ e1 _ fun v H1 k1 q1 r1 => ?_
        obtain ⟨a, vs, rfl, h1, h2⟩ := r1
        refine ⟨Or.inl ⟨rfl, vs, Evl.sq_of (fz_some.mp h1).2⟩, ?_⟩
        refine ha C s _ σ H1 (r.keep k1 q1) _ _ e3 _ fun w H2 k2 q2 r2 => ?_
        have h3 := (r.keep k1 q1).fz k2 _ _ h1
        obtain ⟨rfl, hf⟩ := dVs_v hd h2
        obtain rfl := dV_v hy r2
        refine ⟨a, _, w, j, _, rfl, rfl, Evl.sq_of (fz_some.mp h3).2, dV_flat hy, hf, List.getElem?_eq_getElem hj, h5, fun m z hm hz => ?_, q _ H2 (k1.trans k2) q2 rfl⟩
        obtain ⟨hl, rfl⟩ := List.getElem?_eq_some_iff.mp hz
        simpa using h6 m hm
end
end Z
namespace Z
open PySem L2
/-- an operation on one value -/
def eUn (g : D → Option D) (f : Sl → M D) : Sl → M D := fun s => (f s).bind fun x => M.of (g x)
def JU (P : Par) (r : V → Hp → VK → Prop) (g : D → Option D) : Prop := ∀ (O : Addr → Prop) (H : Hp) x dx, Rv P (hid O H) dx x → ∀ d, g dx = some d → ∀ Q : VK, (∀ v, Rv P (hid O H) d v → Q v H) → r x H Q
theorem j_un {P : Par} {r : V → Hp → VK → Prop} {g : D → Option D} {te : TE} {fe : Sl → M D} (hr : JU P r g) (h : JE P te fe) : JE P (tUn r te) (eUn g fe) := fun C s p σ H rl d p' e Q q => by
  obtain ⟨x, p1, e1, e2⟩ := M.bind_ok e
  obtain ⟨e3, rfl⟩ := M.of_ok e2
  exact h C s p σ H rl _ _ e1 _ fun v H1 k1 q1 r1 => hr C.O H1 v x r1 d e3 Q fun w rw' => q w H1 k1 q1 rw'
def dNeg : D → Option D
  | .int i => some (.int (-i))
  | _ => none
theorem ju_neg {P : Par} : JU P (rU fun i => .int (-i)) dNeg := fun O H x dx rx d h Q q => by
  cases dx <;> cases h
  exact ⟨_, rx, q _ rfl⟩
end Z
namespace Z
open PySem L2
theorem pe_fldK {X : Cx} {K : PySem.W.Frag} {e : Expr} {te : TE} {f : Str} {pos : Pos} (h : X.K = K) (he : PE X e te) (hb : attributeBase e f X.env (eval e X.env) = eval e X.env := by rfl) : PE X (.Attribute e f pos) (tFldX K f te) := h ▸ pe_fldX he hb
end Z
namespace Z
open PySem L2 PyProof.Rows
theorem pe_bmK {X : Cx} {K : PySem.W.Frag} {o e : Expr} {es : List Expr} {to : TE} {t : TA} {name : Str} {apos cpos : Pos} {T id : String} {r : V → List V → Hp → VK → Prop} (h : X.K = K) (pa : PlainAttrs T) (slot : Slot T name id) (hty : typeOf (.builtin id) = pure (.type "method_descriptor")) (hm : MtR X id r) (ho : PE X o to) (ha : PA X (e :: es) t)
    (hbase : attributeBase o name X.env (eval o X.env) = eval o X.env := by rfl)
    (hfew : ((backTo cpos (starEach (e :: es) X.env)).all (fun x => !x.1) && (backToKw cpos (keywordEach [] X.env)).all (fun x => x.1.isSome) && decide ((e :: es).length + ([] : List Keyword).length + (if ([] : List Keyword).isEmpty then 0 else 1) < 30)) = true := by rfl)
    (hline : (apos.endLine == cpos.line) = true := by rfl) (hs : starEach (e :: es) X.env = (false, eval e X.env) :: starEach es X.env := by rfl) (hplain : (backTo cpos (starEach es X.env)).any (·.1) = false := by rfl) :
    PE X (.Call (.Attribute o name apos) (e :: es) [] cpos) (tBM K T r to t) := h ▸ pe_bm pa slot hty hm ho ha hbase hfew hline hs hplain
end Z
end
section
set_option Elab.async false
set_option linter.all false
set_option maxRecDepth 100000
set_option maxHeartbeats 2000000
/-! What never raises; defs that raise, and their calls. -/
namespace Z
open PySem PySem.Spec L2 PyProof.Rows
def Nl (f : List D → M D) : Prop := ∀ ds, Nm (f ds)
section
variable {α β : Type}
theorem Nm.bind {x : M α} {f : α → M β} (h : Nm x) (k : ∀ a, Nm (f a)) : Nm (M.bind x f) := fun p c ks ds p' e => by
  rcases M.bind_ex e with e | ⟨a, q, _, e2⟩
  · exact h p c ks ds p' e
  · exact k a q c ks ds p' e2
theorem Nm.ite {c : Bool} {x y : M α} (h : Nm x) (k : Nm y) : Nm (if c = true then x else y) := by split <;> assumption
end
section
variable {f f' f'' : Sl → M D} {fl fl' : Sl → M (List D)} {c c' : Sl → M Bool} {g g' : Sl → M (Out × Sl)} {fo fo' : Sl → M (Option Int)} {m : List D → M D}
theorem n_var (i : Nat) : Nx (eVar i) := fun s => by unfold eVar; split <;> first | exact Nm.pure _ | exact Nm.no
theorem n_c (d : D) : Nx (eC d) := fun s => Nm.pure _
theorem n_op (r : D → D → Option D) (h : Nx f) (k : Nx f') : Nx (eOp r f f') := fun s => (h s).bind fun _ => (k s).bind fun _ => Nm.of _
theorem n_nil : Nx aNil := fun s => Nm.pure _
theorem n_cons (h : Nx f) (k : Nx fl) : Nx (aCons f fl) := fun s => (h s).bind fun _ => (k s).bind fun _ => Nm.pure _
theorem n_tup (h : Nx fl) : Nx (eTup fl) := fun s => (h s).bind fun _ => (Nm.pure _).ite Nm.no
theorem n_lst (h : Nx fl) : Nx (eLst fl) := fun s => (h s).bind fun _ => (Nm.pure _).ite Nm.no
theorem n_call (r : List D → Option D) (h : Nx fl) : Nx (eCall r fl) := fun s => (h s).bind fun _ => Nm.of _
theorem n_own (n : Nat) (k : Nl m) (h : Nx fl) : Nx (eOwn n m fl) := fun s => (h s).bind fun ds => by
  split
  · exact k ds
  · exact Nm.no
theorem n_ownK (n : Nat) (k : Nl m) (gD : List D → List D → List D) (h : Nx fl) (h' : Nx fl') : Nx (eOwnK n m gD fl fl') := fun s => (h s).bind fun ds => (h' s).bind fun es => by
  split
  · exact k _
  · exact Nm.no
theorem n_test (h : Nx f) : Nx (bTest f) := fun s => (h s).bind fun _ => Nm.of _
theorem n_bAnd (h : Nx c) (k : Nx c') : Nx (bAnd c c') := fun s => (h s).bind fun b => (k s).ite (Nm.pure _)
theorem n_bOr (h : Nx c) (k : Nx c') : Nx (bOr c c') := fun s => (h s).bind fun b => (Nm.pure _).ite (k s)
theorem n_bNot (h : Nx c) : Nx (bNot c) := fun s => (h s).bind fun b => (Nm.pure _)
theorem n_yes : Nx bYes := fun s => Nm.pure _
theorem n_and (h : Nx f) (k : Nx f') : Nx (eAnd f f') := fun s => (h s).bind fun _ => (Nm.of _).bind fun b => (k s).ite (Nm.pure _)
theorem n_or (h : Nx f) (k : Nx f') : Nx (eOr f f') := fun s => (h s).bind fun _ => (Nm.of _).bind fun b => (Nm.pure _).ite (k s)
theorem n_not (h : Nx f) : Nx (eNot f) := fun s => (h s).bind fun _ => (Nm.of _).bind fun b => (Nm.pure _)
theorem n_if (h : Nx c) (k : Nx f) (k' : Nx f') : Nx (eIf c f f') := fun s => (h s).bind fun b => (k s).ite (k' s)
theorem n_chain (r r' : D → D → Option D) (h : Nx f) (k : Nx f') (k' : Nx f'') : Nx (eChain r r' f f' f'') := fun s => (h s).bind fun _ => (k s).bind fun _ => (Nm.of _).bind fun b => ((k' s).bind fun _ => Nm.of _).ite (Nm.pure _)
theorem n_isi2 (a b : String) (h : Nx f) : Nx (eIsi2 a b f) := fun s => (h s).bind fun x => by
  split
  · split <;> first | exact Nm.pure _ | exact Nm.no
  · exact Nm.no
theorem n_inOw (n : Bool) (i : Nat) (h : Nx f) : Nx (eInOw n i f) := fun s => (h s).bind fun x => by
  split
  · split <;> first | exact Nm.pure _ | exact Nm.no
  · exact Nm.no
theorem n_oNone : Nx oNone := fun s => Nm.pure _
theorem n_oPart (h : Nx f) : Nx (oPart f) := fun s => (h s).bind fun _ => (Nm.of _).bind fun _ => Nm.pure _
theorem n_slL (h : Nx f) (k : Nx fo) (k' : Nx fo') : Nx (eSlL f fo fo') := fun s => (h s).bind fun d => (k s).bind fun _ => (k' s).bind fun _ => by
  split <;> first | exact Nm.pure _ | exact Nm.no
theorem n_rg1 (h : Nx f) : Nx (lRg1 f) := fun s => (h s).bind fun _ => (Nm.of _).bind fun _ => Nm.pure _
theorem n_rg2 (h : Nx f) (k : Nx f') : Nx (lRg2 f f') := fun s => (h s).bind fun _ => (k s).bind fun _ => (Nm.of _).bind fun _ => Nm.pure _
theorem n_L (h : Nx fl) : Nx (eL fl) := fun s => (h s).bind fun _ => Nm.pure _
theorem n_lLst (h : Nx fl) : Nx (lLst fl) := fun s => (h s).bind fun _ => (Nm.pure _).ite Nm.no
theorem n_lcD (t : D → Sl → Option Sl) (h : Nx c) (k : Nx f) : ∀ ds s, Nm (lcD t c f ds s)
  | [], s => Nm.pure _
  | d :: ds, s => (Nm.of _).bind fun s1 => (h s1).bind fun b => ((k s1).bind fun y => (n_lcD t h k ds s).bind fun r => Nm.pure _).ite (n_lcD t h k ds s)
theorem n_lcOf (vs : List Nat) (un : D → Option (List D)) (t : D → Sl → Option Sl) (hi : Nx f') (h : Nx c) (k : Nx f) : Nx (lcOf vs un f' t c f) := fun s => (hi s).bind fun _ => (Nm.of _).bind fun ds => (n_lcD t h k ds _).ite Nm.no
theorem n_lcRg (vs : List Nat) (rg : List D → Option (Int × Nat)) (t : D → Sl → Option Sl) (hi : Nx fl) (h : Nx c) (k : Nx f) : Nx (lcRg vs rg fl t c f) := fun s => (hi s).bind fun _ => (Nm.of _).bind fun r => (n_lcD t h k _ _).ite Nm.no
theorem n_nx : Nx sNx := fun s => Nm.pure _
theorem n_sNo : Nx sNo := fun s => Nm.no
theorem n_seq (h : Nx g) (k : Nx g') : Nx (sSeq g g') := fun s => (h s).bind fun r => by
  split <;> first | exact k _ | exact Nm.pure _
theorem n_ret (h : Nx f) : Nx (sRet f) := fun s => (h s).bind fun _ => Nm.pure _
theorem n_retN : Nx sRetN := fun s => Nm.pure _
theorem n_sIf (h : Nx c) (k : Nx g) (k' : Nx g') : Nx (sIf c g g') := fun s => (h s).bind fun b => (k s).ite (k' s)
theorem n_asg (t : D → Sl → Option Sl) (h : Nx f) : Nx (sAsg f t) := fun s => (h s).bind fun _ => (Nm.of _).bind fun _ => Nm.pure _
theorem n_drop (h : Nx f) : Nx (sDrop f) := fun s => (h s).bind fun _ => Nm.pure _
theorem n_par (i j : Nat) (h : Nx fl) : Nx (sPar i j fl) := fun s => (h s).bind fun ds => by
  split <;> first | exact Nm.pure _ | exact Nm.no
theorem n_par3 (i j l : Nat) (h : Nx fl) : Nx (sPar3 i j l fl) := fun s => (h s).bind fun ds => by
  split <;> first | exact Nm.pure _ | exact Nm.no
theorem n_parOw (i j : Nat) (h : Nx fl) (k : Nx f) : Nx (sParOw i j fl f) := fun s => (h s).bind fun ds => (k s).bind fun _ => Nm.pure _
theorem n_sOwn (i : Nat) (h : Nx fl) : Nx (sOwn i fl) := fun s => (h s).bind fun ds => Nm.pure _
theorem n_app (i : Nat) (h : Nx f) : Nx (sApp i f) := fun s => (h s).bind fun d => by
  split
  · split <;> first | exact Nm.pure _ | exact Nm.no
  · exact Nm.no
theorem n_frz (i : Nat) (h : Nx g) : Nx (fun s => g (frzS i s)) := fun s => h _
theorem n_loop (t : D → Sl → Option Sl) (h : Nx g) : ∀ ds s, Nm (loopD t g ds s)
  | [], s => Nm.pure _
  | d :: ds, s => (Nm.of _).bind fun s1 => (h s1).bind fun r => by
    split
    · exact n_loop t h ds _
    · exact n_loop t h ds _
    · exact Nm.pure _
    · exact Nm.pure _
theorem n_forL (t : D → Sl → Option Sl) (hi : Nx f) (h : Nx g) : Nx (sForL f t g) := fun s => (hi s).bind fun _ => (Nm.of _).bind fun ds => n_loop t h ds s
theorem n_forT (t : D → Sl → Option Sl) (hi : Nx f) (h : Nx g) : Nx (sForT f t g) := fun s => (hi s).bind fun _ => (Nm.of _).bind fun ds => n_loop t h ds s
theorem n_forR (rg : List D → Option (Int × Nat)) (t : D → Sl → Option Sl) (hi : Nx fl) (h : Nx g) : Nx (sForR rg fl t g) := fun s => (hi s).bind fun _ => (Nm.of _).bind fun ds => n_loop t h _ s
theorem n_body (N : Nat) (h : Nx g) : Nl (bodyM N g) := fun ds => (h _).bind fun r => by
  split <;> first | exact Nm.pure _ | exact Nm.no
end
/-! ### defs that raise -/
section
variable {Pg : Program} {w : World} {K : PySem.W.Frag} {mg : Str → Option Value} {base : Heap}
def OwnX (Pg : Program) (w : World) (K : PySem.W.Frag) (mg : Str → Option Value) (base : Heap) (k : Nat) (x : Str) (ps : List Str) (sp : Sp) : Prop := ∃ f fd, FnG Pg w K mg base (L2.CX Pg w) k f fd ps sp ∧ Binds K fd ps [] ∧ mg x = some (.ref f) ∧ PySem.W.keepIn K (.ref f) = true
def OwnXF (Pg : Program) (w : World) (K : PySem.W.Frag) (mg : Str → Option Value) (base : Heap) (k : Nat) (x : Str) (st : Stmt) (ps : List Str) (sp : Sp) : Prop := ∃ f fd, Fun K x x st f fd ∧ FnG Pg w K mg base (L2.CX Pg w) k f fd ps sp ∧ mg x = some (.ref f)
theorem OwnXF.own {k : Nat} {x : Str} {st : Stmt} {ps : List Str} {sp : Sp} (h : OwnXF Pg w K mg base k x st ps sp)
    (hbi : ∀ (kV doc pm : Value) (an : Option Addr) (cd ct : Value) (us : List Value), us.length = ps.length → bindArgs (PySem.W.fnOf x x (defArgs st) (defBody st) (defScope st) .none kV doc pm an cd ct) ⟨us, []⟩ = pure (ps.zip us)) : OwnX Pg w K mg base k x ps sp := by
  obtain ⟨f, fd, F, G, m⟩ := h
  exact ⟨f, fd, G, F.binds hbi, m, F.kp⟩
theorem own_ofX {x : Str} {st : Stmt} {N ps : List Str} {k : Nat} {sp : Sp} (h : DefIn K mg x st) (T : FnScope N ps (defScope st)) (ln : ∀ vs H Q E, sp vs H Q E → vs.length = ps.length)
    (hb : ∀ (f : Addr) (cd : Value) (A : Around) (ou : List Env) (s : Shared) (H : Hp) (vs : List V) (Q : VK) (E : XK), Room k (A.deeper (envOfC x (defScope st) s.heap.objs.size f cd)) → A.guards = some [] → sp vs H Q E →
      ∃ t, PSs (cxOf (L2.CX Pg w) Pg w K mg base N x (defScope st) f cd A ou s H E) (defBody st) t ∧ t { nx := fun _ H' => Q .non H', rt := Q } (L2.start N vs) H) : OwnXF Pg w K mg base (k + 1) x st ps sp := by
  obtain ⟨f, fd, F, m⟩ := h
  exact ⟨f, fd, F, fn_g F T ln (fun cd A ou s H vs Q E r g q => hb f cd A ou s H vs Q E r g q), m⟩
variable {Y : Cx} {k : Nat} {ps ks : List Str} {sp : Sp} {x : Str} {p pos : Pos} {e : Expr} {es : List Expr} {kws : List Keyword} {t tk : TA} {E : XK}
/-- called where no exception comes -/
theorem pe_ownX0 (h : OwnX Y.prog Y.w Y.K Y.mg Y.base k x ps sp) (r : Room k Y.A) (g : Y.A.guards = some []) (ha : PA Y (e :: es) t) (hg : Gl Y x := by rfl) (hdb : (x == ("__debug__" : Str)) = false := by decide)
    (he : starEach (e :: es) Y.env = (false, eval e Y.env) :: starEach es Y.env := by rfl) (hpl : (backTo pos (starEach es Y.env)).any (·.1) = false := by rfl) : PE Y (.Call (.Name x p) (e :: es) [] pos) (tCall sp [] E0 t) := by
  obtain ⟨f, fd, F, b, m, kp⟩ := h
  exact pe_g F r g hg m kp b .nil passL ha hdb he hpl
/-- called where one may come -/
theorem pe_ownX (tk : Takes Y (fun c d _ H => E c d H)) (h : OwnX Y.prog Y.w Y.K Y.mg Y.base k x ps sp) (r : Room k Y.A) (g : Y.A.guards = some []) (ha : PA Y (e :: es) t) (hg : Gl Y x := by rfl) (hdb : (x == ("__debug__" : Str)) = false := by decide)
    (he : starEach (e :: es) Y.env = (false, eval e Y.env) :: starEach es Y.env := by rfl) (hpl : (backTo pos (starEach es Y.env)).any (·.1) = false := by rfl) : PE Y (.Call (.Name x p) (e :: es) [] pos) (tCall sp [] E t) := by
  obtain ⟨f, fd, F, b, m, kp⟩ := h
  exact pe_g F r g hg m kp b .nil (passes_call tk fun _ _ _ _ z => z) ha hdb he hpl
def OwnXK (Pg : Program) (w : World) (K : PySem.W.Frag) (mg : Str → Option Value) (base : Heap) (k : Nat) (x : Str) (ps ks : List Str) (g : List Value → List Value → List Value) (gV : List V → List V → List V) (sp : Sp) : Prop :=
  ∃ f fd, FnG Pg w K mg base (L2.CX Pg w) k f fd ps sp ∧ KBinds K fd ps ks g gV ∧ mg x = some (.ref f) ∧ PySem.W.keepIn K (.ref f) = true
theorem OwnXF.ownK {Pg : Program} {w : World} {K : PySem.W.Frag} {mg : Str → Option Value} {base : Heap} {st : Stmt} {g : List Value → List Value → List Value} {gV : List V → List V → List V} (h : OwnXF Pg w K mg base k x st ps sp)
    (hb : ∀ (kV doc pm : Value) (an : Option Addr) (cd ct : Value) (us ws : List Value), (g us ws).length = ps.length → bindArgs (PySem.W.fnOf x x (defArgs st) (defBody st) (defScope st) .none kV doc pm an cd ct) ⟨us, ks.zip ws⟩ = pure (ps.zip (g us ws)))
    (hr : ∀ {vs : List V} {us : List Value} {zs : List V} {ws : List Value}, Vals vs us → Vals zs ws → Vals (gV vs zs) (g us ws)) : OwnXK Pg w K mg base k x ps ks g gV sp := by
  obtain ⟨f, fd, F, G, m⟩ := h
  obtain ⟨oc, od, kV, doc, pm, an, cd, ct, osl, rfl, _⟩ := id F.ex
  exact ⟨f, _, G, ⟨fun s us ws _ hl => .of_eq (hb kV doc pm an cd ct us ws hl), hr⟩, m, F.kp⟩
theorem pe_ownXK0 {g : List Value → List Value → List Value} {gV : List V → List V → List V} (h : OwnXK Y.prog Y.w Y.K Y.mg Y.base k x ps ks g gV sp) (r : Room k Y.A) (gd : Y.A.guards = some []) (hk : PK Y kws tk) (hg : Gl Y x := by rfl)
    (hall : (backToKw pos (keywordEach kws Y.env)).all (·.1.isSome) = true := by rfl) (hks : (backToKw pos (keywordEach kws Y.env)).filterMap (·.1) = ks := by rfl) (hdb : (x == ("__debug__" : Str)) = false := by decide)
    (hpl : ((backTo pos (starEach [] Y.env)).any (·.1) || (backToKw pos (keywordEach kws Y.env)).any (·.1.isNone)) = false := by rfl) : PE Y (.Call (.Name x p) [] kws pos) (tCallK sp gV E0 tNil tk) := by
  obtain ⟨f, fd, F, b, m, kp⟩ := h
  constructor
  intro pins s σ H Q I hq
  refine wpAny_Call_Name_kw (ld_glob I hg m ?_ hdb)
  refine PySem.W.callWith_KW0 (h₀ := Y.base) I.ok.mod.kin kp hall (thn (hk.run pos pins s σ H _ I hq) fun ws s1 z => ?_) hpl
  obtain ⟨zs, H1, I1, rz, q⟩ := z
  rw [hks]
  have rg := b.rel (vs := []) (us := []) .nil rz
  refine ⟨I1.kIn, run_g (ar := ⟨[], ks.zip ws⟩) F r gd passL I1 (b.to s1 [] ws I1.kIn (by rw [← rg.length]; exact F.ln _ _ _ _ q)) rg q⟩
/-- an exception class that is made of one value and keeps it in the field f -/
structure Rsn (Pg : Program) (K : PySem.W.Frag) (mg : Str → Option Value) (cl : Str → Addr) (c f : Str) : Prop where
  ex : ∃ (D fI : Addr) (st : Stmt) (qual sf : Str), InitAt Pg K D fI st qual ∧ ClsX K (cl c) D fI ∧ Init1 st sf f
  no : PySem.W.findIn K (.ref (cl c)) f = some none
  ini : PySem.W.excInitIn K (cl c) [.type "ValueError", .type "Exception", .type "BaseException", .type "object"] "ValueError.__new__" = true
  sup : mg "super" = none
  at_ : mg c = some (.ref (cl c))
theorem ps_raiseZ {cl : Str → Addr} {f : Str} {p2 : Pos} (R : Rsn Y.prog Y.K Y.mg cl x f) (hc : Y.calm = true) (tk : Takes Y (fun c d _ H => E c d H)) (hr : Room (k + 1) Y.A) (ha : PA Y [e] t) (hg : Gl Y x := by rfl) (hdb : (x == ("__debug__" : Str)) = false := by decide)
    (he : starEach [e] Y.env = (false, eval e Y.env) :: starEach [] Y.env := by rfl) (hpl : (backTo pos (starEach [] Y.env)).any (·.1) = false := by rfl) : PS Y (.Raise (some (.Call (.Name x p) [e] [] pos)) none p2) (fun _ σ H => tMk1 (cl x) f t σ H E) := by
  obtain ⟨D, fI, st, qual, sf, h1, h2, h3⟩ := R.ex
  exact ps_raise hc tk (pmk_sup h1 h2 h3 R.sup R.no R.ini hr hg R.at_ ha hdb he hpl)
end
theorem j_ownXK {P : Par} {n : Nat} {m : List D → M D} {gV : List V → List V → List V} {gD : List D → List D → List D} {E : XK} {t tk : TA} {f k : Sl → M (List D)} (hg : ∀ H ds es vs ws, Rvs P H ds vs → Rvs P H es ws → Rvs P H (gD ds es) (gV vs ws)) (h : JA P t f) (h2 : JA P tk k) :
    JE P (tCallK (spX P.K P.cl n m) gV E t tk) (eOwnK n m gD f k) := fun C s p σ H rl d p' e Q q => by
  obtain ⟨ds, p1, h1, e⟩ := M.bind_ok e
  obtain ⟨es, p2, h3, e⟩ := M.bind_ok e
  split at e
  · rename_i hn
    refine h C s p σ H rl ds _ h1 _ fun vs H1 k1 q1 r1 => ?_
    have rl1 := rl.keep k1 q1
    refine h2 C s p1 σ H1 rl1 es _ h3 _ fun ws H2 k2 q2 r2 => ?_
    have rl2 := rl1.keep k2 q2
    exact .inl ⟨P, rfl, rfl, C.O, gD ds es, p2, d, p', hn, rl.paO, rl.ca, rl2.dom, q2, hg _ _ _ _ _ (Rvs.ex (rl1.fz k2) ds vs r1) r2, e, fun v H3 k3 q3 r3 => q v H3 ((k1.trans k2).trans k3) q3 r3⟩
  · cases e
end Z
namespace Z
open PySem PySem.Spec L2 PyProof.Rows
/-- fn_g where the def's code object is known -/
theorem fn_gC {P : Program} {w : World} {K : PySem.W.Frag} {mg : Str → Option Value} {base : Heap} {CX : CXT} {f c : Addr} {fd : FuncData} {ps : List Str} {sp : Sp} {x qual : Str} {st : Stmt} {N : List Str} {k : Nat} (F : Fun K x qual st f fd) (hc : fd.code = .ref c) (T : FnScope N ps (defScope st)) (ln : ∀ vs H Q E, sp vs H Q E → vs.length = ps.length)
    (hb : ∀ (A : Around) (ou : List Env) (s : Shared) (H : Hp) (vs : List V) (Q : VK) (E : XK), Room k (A.deeper (envOfC qual (defScope st) s.heap.objs.size f (.ref c))) → A.guards = some [] → sp vs H Q E →
      ∃ t, PSs (cxOf CX P w K mg base N qual (defScope st) f (.ref c) A ou s H E) (defBody st) t ∧ t { nx := fun _ H' => Q .non H', rt := Q } (L2.start N vs) H) : FnG P w K mg base CX (k + 1) f fd ps sp := by
  obtain ⟨oc, od, kV, doc, pm, an, cd, ct, sl, rfl, lk, hcd⟩ := id F.ex
  have e : cd = .ref c := hc
  subst e
  refine ⟨ln, fun A ou s H ar us vs Q E r g e0 bd rv q => ?_⟩
  have inK : K.In s.heap := e0.mod.kin.keeps fun b o z => (e0.bs b o z).1
  have kinds : ∀ y ∈ ps.zip us, (defScope st).names.lookup y.1 = some .local ∨ ((defScope st).names.lookup y.1 = some .cell ∧ ((cellsFrom (s.heap.objs.size + 1) (defScope st).names []).lookup y.1).isSome = true) := by
    rintro ⟨n, v⟩ hy
    rcases T.par n (List.of_mem_zip hy).1 with c | c
    · exact Or.inl c
    · exact Or.inr ⟨c, PySem.W.cellsFrom_some _ _ _ (Or.inl c)⟩
  refine codeAny_call_function r.depth (inK _ _ lk) rfl T.co T.gen rfl (PySem.W.codeRec_of inK hcd) (bd _ _ _ _ ?_)
  refine wpAny_newFunctionEnv_cells T.kind kinds fun env he s1 x1 => ?_
  subst he
  refine ⟨(e0.mod.nolimit.keeps fun b o z => (e0.bs b o z).1).keeps x1.toInCall.keep, codeAny_func ?_⟩
  obtain ⟨t, ht, hq⟩ := hb A ou s H vs Q E (r.deeper _) g q
  have J := inv_start (K := K) (mg := mg) (base := base) (CX := CX) (E := E) (P := P) (w := w) T r.hd e0 (ln _ _ _ _ q) rv x1
  refine wpAny_mono (ht.run [] s1 (L2.start N vs) H _ J hq) (fun fl s' hs => ?_) fun _ _ z => z
  have z := body_end hs
  cases fl <;> exact z
end Z
namespace Z
open PySem PySem.Spec L2 PyProof.Rows
/-- what the written part says of an exception class that is raised -/
structure ExcK (Pg : Program) (K : PySem.W.Frag) (C : Addr) (f : Str) : Prop where
  ex : ∃ (D fI : Addr) (st : Stmt) (qual sf : Str), InitAt Pg K D fI st qual ∧ ClsX K C D fI ∧ Init1 st sf f
  no : PySem.W.findIn K (.ref C) f = some none
  ini : PySem.W.excInitIn K C [.type "ValueError", .type "Exception", .type "BaseException", .type "object"] "ValueError.__new__" = true
theorem ExcK.rsn {Pg : Program} {K : PySem.W.Frag} {mg : Str → Option Value} {cl : Str → Addr} {c f : Str} (h : ExcK Pg K (cl c) f) (hs : mg "super" = none) (hc : mg c = some (.ref (cl c))) : Rsn Pg K mg cl c f := ⟨h.ex, h.no, h.ini, hs, hc⟩
theorem ExcK.mk' {Pg : Program} {K : PySem.W.Frag} {C D fI N cda cc : Addr} {f qual sf nm q file : Str} {tf : Tok} (st : Stmt) {bs bm : List Value} {sn : List Str} {sub : List Value} {ab : Bool} {col : Option Bool} {dd od d1 d2 an : Option Addr} {k0 k1 k2 k3 k5 : Option Value} {oc kV doc pm ct c1 c2 : Value} {osl s1 s2 : Array (Option Value)} {vs : Array Value}
    (a1 : K.lookup C = some (excClassObj nm q C N bs bm true sn sub ab col dd k0 k1 k2 k3 k5 "ValueError.__new__")) (a2 : PySem.HandSPX.refsVE bm = true) (a3 : PySem.W.findIn K (.ref C) "__setattr__" = some (some (.builtin "object.__setattr__"))) (a4 : PySem.W.subIn K (.ref C) (.type "BaseException") = some true)
    (a5 : PySem.W.typeIn K (.ref C) = some (.type "type")) (a6 : PySem.W.keepIn K (.ref C) = true) (b1 : PySem.W.findIn K (.ref C) "__init__" = some (some (.ref fI)))
    (b2 : K.lookup fI = some ⟨oc, od, .func (PySem.W.ksFn "__init__" qual (defArgs st) (defBody st) (defScope st) .none kV doc pm an (.ref cda) ct cc), osl⟩) (b3 : PySem.W.codeIn K (.ref cda) qual = true) (b4 : K.lookup cda = some ⟨c1, d1, .fields vs, s1⟩) (b5 : vs[2]? = some (.str file tf)) (b6 : ((Pg.main.file : Str) == file) = true)
    (b7 : K.lookup cc = some ⟨c2, d2, .cell (some (.ref D)), s2⟩) (b8 : (PySem.W.clsIn K D).isSome = true) (b9 : (Pg.main.scope.names.lookup ("super" : Str)).isSome = false) (b10 : PySem.W.typeIn K (.ref fI) = some (.type "function"))
    (e1 : PySem.W.mroIn K C (.ref D) = some true) (e2 : PySem.W.ks_superIn K C D "__init__" = some (some (.builtin "ValueError.__init__"))) (e3 : PySem.W.subIn K (.ref C) (.type "ValueError") = some true) (e4 : PySem.W.nsIn K cStatics "thirdparty.any" = some none)
    (S : Init1 st sf f) (g1 : PySem.W.findIn K (.ref C) f = some none) (g2 : PySem.W.excInitIn K C [.type "ValueError", .type "Exception", .type "BaseException", .type "object"] "ValueError.__new__" = true) : ExcK Pg K C f :=
  ⟨⟨D, fI, st, qual, sf, ⟨⟨oc, od, kV, doc, pm, an, cda, cc, ct, osl, b2, b3, ⟨c1, d1, vs, s1, file, tf, b4, b5, b6⟩, c2, d2, s2, b7⟩, Option.isSome_iff_exists.mp b8, b9, b10⟩, ⟨⟨⟨nm, q, N, bs, bm, sn, sub, ab, col, dd, k0, k1, k2, k3, k5, a1, a2⟩, a3, a4, a5, a6⟩, e1, e2, e3, b1, e4⟩, S⟩, g1, g2⟩
end Z
namespace Z
open PySem PySem.Spec L2 PyProof.Rows
theorem code_of {K : PySem.W.Frag} {h : Heap} {mg : Str → Option Value} {f0 tc : Addr} {st : Stmt} {oc kV doc pm ct : Value} {od an : Option Addr} {sl : Array (Option Value)} {x : Str} (X : K.In h) (G : h.Ns mainGlobals mg) (a : PySem.W.nsIn K mainGlobals x = some (some (.ref f0)))
    (l : K.lookup f0 = some ⟨oc, od, .func (PySem.W.fnOf x x (defArgs st) (defBody st) (defScope st) .none kV doc pm an (.ref tc) ct), sl⟩) : ∀ f fd, Fun K x x st f fd → mg x = some (.ref f) → fd.code = .ref tc := fun f fd F m => by
  have e := (PySem.W.mg_of X G a).symm.trans m
  cases e
  obtain ⟨oc2, od2, kV2, doc2, pm2, an2, cd2, ct2, sl2, rfl, lk, _⟩ := F.ex
  rw [l] at lk
  cases lk
  rfl
def clsBody (s : Stmt) : List Stmt := match s with
  | .ClassDef _ _ _ b _ _ _ _ _ _ _ => b
  | _ => []
end Z
end
section
set_option Elab.async false
set_option linter.all false
set_option maxRecDepth 100000
set_option maxHeartbeats 2000000
/-! The end of a law whose defs make lambdas: the tables of their code objects grow. -/
namespace Z
open PySem PySem.Spec PyProof.Rows L2 LamX
section
variable {P : Program} {w : World} {K : PySem.W.Frag} {mg mb : Str → Option Value} {k : Nat} {fa a : Addr} {fd : FuncData} {x : Str} {sp : Sp} {s₁ : Shared} {vs : List Value} {ns : List Int} {cs : List (Addr × Addr)}
abbrev tab0 : Obj := { cls := .none, data := .fields #[] }
/-- the script or nothing, but for the tables -/
def OnlyT (cs : List (Addr × Addr)) (H : Hp) : Prop := ∀ b, H b = none ∨ b ∈ cs.map (·.2) ∨ ∃ o xs, H b = some (.frz o (.lst xs))
theorem law_coreT (KX : K.In s₁.heap) (hns : s₁.heap.Ns mainGlobals mg) (hb : s₁.heap.Ns builtinsNs mb) (hbb : ∀ y : Str, y ≠ "__name__" → mb y = bootBuiltins y) (lim : s₁.heap.NoLimit) (hg : s₁.gens = #[])
    (tT : ∀ p ∈ cs, s₁.heap.get? p.2 = some tab0) (nT : ∀ p ∈ cs, K.lookup p.2 = none) (cT : ∀ p ∈ cs, PySem.W.CodeHd s₁.heap p.1 p.2)
    (bm : ∃ (m : Addr) (ob : Obj), mg "__builtins__" = some (.ref m) ∧ m ≠ builtinsNs ∧ s₁.heap.get? m = some ob ∧ ob.cls = .type "module" ∧ ob.dict = some builtinsNs ∧ ob.data = .plain)
    (ha : s₁.heap.get? a = some { cls := .type "list", data := .seq vs.toArray }) (r : Room k callerA)
    (F : ∀ base : Heap, K.In base → base.Ns mainGlobals mg → (∀ p ∈ cs, TabB base mg p.1 p.2) → FnG P w K mg base CX0 k fa fd [x] sp) (bd : ∀ (s : Shared) (u : Value), BindsTo s fd ⟨[u], []⟩ [(x, u)])
    {H : Hp} (hO : OnlyT cs H) (hH : ∀ p ∈ cs, H p.2 = some (.tbl #[])) (hs : sp [.ref a] H (fun v _ => v = .bl true) fun _ _ _ => False) (ok : HOk P w H s₁.heap) (hA : ∀ b, H b ≠ none → b = a ∨ b ∈ cs.map (·.2)) (hK : H a ≠ none → K.lookup a = none) :
    codeAny (model P w) callerA (.call (.ref fa) ⟨[.ref a], []⟩) (LawEnd s₁) s₁ := by
  have isT : ∀ {b : Addr}, b ∈ cs.map (·.2) → s₁.heap.get? b = some tab0 ∧ K.lookup b = none := fun {b} z => by
    obtain ⟨y, hy, e⟩ := List.mem_map.mp z
    rw [← e]
    exact ⟨tT y hy, nT y hy⟩
  -- neither the written part nor what is no list and no table is tracked
  have freeK : ∀ {b : Addr} {o : Obj}, K.lookup b = some o → H b = none := by
    intro b o e
    refine Classical.byContradiction fun z => ?_
    rcases hA b z with q | q
    · subst q
      rw [hK z] at e
      cases e
    · rw [(isT q).2] at e
      cases e
  have freeO : ∀ {b : Addr} {o : Obj}, s₁.heap.get? b = some o → (∀ us n, o.data ≠ .seq us n) → o.data ≠ .fields #[] → H b = none := by
    intro b o e n1 n2
    refine Classical.byContradiction fun z => ?_
    rcases hA b z with q | q
    · subst q
      rw [ha] at e
      cases e
      exact n1 _ _ rfl
    · rw [(isT q).1] at e
      cases e
      exact n2 rfl
  have bNs : ∀ {b : Addr} {m : Str → Option Value}, s₁.heap.Ns b m → (hidT s₁.heap H).Ns b m := by
    rintro b m ⟨o, es, ep, e, d, z⟩
    exact ⟨o, es, ep, hidT_get e (freeO e (fun us n y => by rw [d] at y; cases y) (fun y => by rw [d] at y; cases y)), d, z⟩
  have bK : K.In (hidT s₁.heap H) := fun b o e => hidT_get (KX b o e) (freeK e)
  have md : Mod K mg (hidT s₁.heap H) := by
    obtain ⟨mc, l1, l2⟩ := lim
    exact ⟨bK, bNs hns, ⟨mb, bNs hb, hbb⟩, mc, bNs l1, l2⟩
  have TB : ∀ p ∈ cs, TabB (hidT s₁.heap H) mg p.1 p.2 := fun y hy => by
    have at_ := tT y hy
    refine ⟨?_, ?_, fun z => ?_⟩
    · obtain ⟨o, us, f1, f2, f3, f4, f5, f6, f7, e1, g1, g2, g3, g4, g5, g6, g7, g8, g9⟩ := cT y hy
      refine ⟨o, us, f1, f2, f3, f4, f5, f6, f7, hidT_get e1 (freeO e1 (fun us n z => by rw [g2] at z; cases z) (fun z => ?_)), g1, g2, g3, g4, g5, g6, g7, g8, g9⟩
      rw [g2] at z
      cases z
      simp at g3
    · obtain ⟨m, ob, b1, b2, b3, b4, b5, b6⟩ := bm
      refine ⟨m, ob, b1, b2, fun q => ?_, fun q => ?_, hidT_get b3 (freeO b3 (fun us n z => by rw [b6] at z; cases z) (fun z => by rw [b6] at z; cases z)), b4, b5, b6⟩
      · obtain ⟨o, es, ep, e, hd, _⟩ := hns
        rw [q, e] at b3
        cases b3
        rw [hd] at b6
        cases b6
      · rw [q, at_] at b3
        cases b3
        cases b6
    · obtain ⟨o, es, ep, e, hd, _⟩ := hns
      rw [z, at_] at e
      cases e
      cases hd
  have e0 : Env0 P w K mg (hidT s₁.heap H) callerA [] s₁ H :=
    { frames := rfl, mod := md, bs := fun b o e => of_hidT e, bsz := Nat.le_of_eq (hidT_size _ _), funs := trivial, frf := (fun b z => nomatch z), hok := ok, bare := .of_eq hg }
  refine codeAny_mono ((F _ bK (bNs hns) TB).go callerA [] s₁ H ⟨[.ref a], []⟩ [.ref a] [.ref a] _ _ r rfl e0 (bd s₁ (.ref a)) (.cons rfl .nil) hs) fun res s' z => ?_
  match res, z with
  | .ok .next, z => exact False.elim z
  | .ok .brk, z => exact False.elim z
  | .ok .cont, z => exact False.elim z
  | .error e, z => exact False.elim z
  | .ok (.ret u), z =>
    obtain ⟨v, H', os, br, un, ok', rv, q⟩ := z
    rw [show v = V.bl true from q] at rv
    rw [show u = Value.bool true from rv]
    have same : ∀ b o, b ∉ cs.map (·.2) → s₁.heap.get? b = some o → s'.heap.get? b = some o := fun b o nb e => by
      rcases hO b with z | z | ⟨ob, xs, z⟩
      · exact un.keep b o e z (fun y => (nomatch y)) (fun y => (nomatch y))
      · exact absurd z nb
      · have h1 := (ok b _ z).1
        have h2 := (ok' b _ (un.frzs b ob _ z)).1
        rw [e] at h1
        cases h1
        exact h2
    have grew : ∀ {b : Addr}, b ∈ cs.map (·.2) → (∃ y ∈ cs, y.2 = b) ∧ ∃ more : Array Value, s'.heap.get? b = some { cls := .none, data := .fields more } := fun {b} z => by
      obtain ⟨y, hy, e⟩ := List.mem_map.mp z
      subst e
      obtain ⟨more, m2⟩ := un.tbls y.2 #[] (hH y hy)
      exact ⟨⟨y, hy, rfl⟩, _, ok' y.2 _ m2⟩
    refine ⟨rfl, ⟨fun b o e => ?_, fun b o e => ?_⟩, os, br⟩
    · by_cases z : b ∈ cs.map (·.2)
      · obtain ⟨⟨y, hy, e2⟩, more, hm⟩ := grew z
        subst e2
        rw [tT y hy] at e
        cases e
        exact .inr (.inl ⟨((cT y hy).tab (tT y hy)).isCodeTable, rfl, #[], more, rfl, by rw [Array.empty_append]; exact hm⟩)
      · exact .inl (same b o z e)
    · by_cases z : b ∈ cs.map (·.2)
      · obtain ⟨_, more, hm⟩ := grew z
        exact ⟨_, hm⟩
      · exact ⟨o, same b o z e⟩
theorem law_gT (KX : K.In s₁.heap) (hns : s₁.heap.Ns mainGlobals mg) (hb : s₁.heap.Ns builtinsNs mb) (hbb : ∀ y : Str, y ≠ "__name__" → mb y = bootBuiltins y) (lim : s₁.heap.NoLimit) (hg : s₁.gens = #[])
    (tT : ∀ p ∈ cs, s₁.heap.get? p.2 = some tab0) (nT : ∀ p ∈ cs, K.lookup p.2 = none) (cT : ∀ p ∈ cs, PySem.W.CodeHd s₁.heap p.1 p.2)
    (bm : ∃ (m : Addr) (ob : Obj), mg "__builtins__" = some (.ref m) ∧ m ≠ builtinsNs ∧ s₁.heap.get? m = some ob ∧ ob.cls = .type "module" ∧ ob.dict = some builtinsNs ∧ ob.data = .plain)
    (ha : s₁.heap.get? a = some { cls := .type "list", data := .seq vs.toArray }) (hi : IntsAre vs ns) (hl : ns.length ≤ sizeLine) (r : Room k callerA)
    (F : ∀ base : Heap, K.In base → base.Ns mainGlobals mg → (∀ p ∈ cs, TabB base mg p.1 p.2) → FnG P w K mg base CX0 k fa fd [x] sp) (bd : ∀ (s : Shared) (u : Value), BindsTo s fd ⟨[u], []⟩ [(x, u)])
    (hs : ∀ H : Hp, (∀ p ∈ cs, H p.2 = some (.tbl #[])) → SqL K H a (ns.map V.int) → sp [.ref a] H (fun v _ => v = .bl true) fun _ _ _ => False) :
    codeAny (model P w) callerA (.call (.ref fa) ⟨[.ref a], []⟩) (LawEnd s₁) s₁ := by
  have rv := vals_ints hi
  have na : a ∉ cs.map (·.2) := fun z => by
    obtain ⟨y, hy, e⟩ := List.mem_map.mp z
    have q := tT y hy
    rw [e, ha] at q
    cases (congrArg Obj.data (Option.some.inj q) : Data.seq vs.toArray _ = Data.fields #[])
  have inT : ∀ p ∈ cs, p.2 ∈ cs.map (·.2) := fun p hp => List.mem_map.mpr ⟨p, hp, rfl⟩
  have isT : ∀ {b : Addr}, b ∈ cs.map (·.2) → s₁.heap.get? b = some tab0 := fun {b} z => by
    obtain ⟨y, hy, e⟩ := List.mem_map.mp z
    rw [← e]
    exact tT y hy
  cases hk : K.lookup a with
  | some o =>
    have e := KX a o hk
    rw [ha] at e
    cases e
    let H : Hp := fun b => if b ∈ cs.map (·.2) then some (.tbl #[]) else none
    have on : ∀ {b}, b ∈ cs.map (·.2) → H b = some (.tbl #[]) := fun z => if_pos z
    have off : ∀ {b}, b ∉ cs.map (·.2) → H b = none := fun z => if_neg z
    refine law_coreT (H := H) KX hns hb hbb lim hg tT nT cT bm ha r F bd (fun b => ?_) (fun p hp => on (inT p hp)) (hs H (fun p hp => on (inT p hp)) (Or.inr ⟨_, vs.toArray, _, hk, rfl, rfl, rfl, ?_, ?_⟩)) (fun b u z => ?_) (fun b z => ?_) fun z => absurd (off na) z
    · by_cases z : b ∈ cs.map (·.2)
      · exact .inr (.inl z)
      · exact .inl (off z)
    · rw [List.size_toArray, hi.length]
      exact hl
    · simpa using rv
    · by_cases y : b ∈ cs.map (·.2)
      · rw [on y] at z
        cases z
        exact isT y
      · rw [off y] at z
        cases z
    · exact Classical.byContradiction fun y => z (off fun q => y (.inr q))
  | none =>
    let H : Hp := fun b => if b = a then some (.frz { cls := .type "list", data := .seq vs.toArray } (.lst (ns.map V.int))) else if b ∈ cs.map (·.2) then some (.tbl #[]) else none
    have at_ : H a = some (.frz { cls := .type "list", data := .seq vs.toArray } (.lst (ns.map V.int))) := if_pos rfl
    have on : ∀ {b}, b ∈ cs.map (·.2) → H b = some (.tbl #[]) := fun {b} z => (if_neg (show ¬ b = a from fun y => na (by rw [← y]; exact z))).trans (if_pos z)
    have off : ∀ {b}, b ≠ a → b ∉ cs.map (·.2) → H b = none := fun n z => (if_neg n).trans (if_neg z)
    refine law_coreT (H := H) KX hns hb hbb lim hg tT nT cT bm ha r F bd (fun b => ?_) (fun p hp => on (inT p hp)) (hs H (fun p hp => on (inT p hp)) (Or.inl (Or.inr ⟨_, at_⟩))) (fun b u z => ?_) (fun b z => ?_) fun _ => hk
    · by_cases e : b = a
      · subst e
        exact .inr (.inr ⟨_, _, at_⟩)
      · by_cases z : b ∈ cs.map (·.2)
        · exact .inr (.inl z)
        · exact .inl (off e z)
    · by_cases e : b = a
      · subst e
        rw [at_] at z
        cases z
        exact ⟨ha, by rw [List.length_map]; exact hl, vs, _, rv, ha⟩
      · by_cases y : b ∈ cs.map (·.2)
        · rw [on y] at z
          cases z
          exact isT y
        · rw [off e y] at z
          cases z
    · by_cases e : b = a
      · exact .inl e
      · exact .inr (Classical.byContradiction fun y => z (off e y))
theorem walk_gT {l : PySem.W.OpenLaw} {n : Nat} {q : Program} {loose : List Str} {XP : (Str → Option Value) → Heap → Prop} {YP : World → Heap → Prop} {d : DefRec} {K : Params → PySem.W.Frag} {sp : World → PySem.W.Frag → Sp} (cs : List (Addr × Addr))
    (hn : l.most = some n) (hn2 : n ≤ sizeLine) (hdf : d.params.defaults = []) (r : Room k callerA) (hY : ∀ (w : World) (h : Heap), YP w h → (K w.params).In h) (hT : ∀ (w : World) (h : Heap), YP w h → ∀ p ∈ cs, h.get? p.2 = some tab0)
    (nT : ∀ w : World, ∀ p ∈ cs, (K w.params).lookup p.2 = none) (cT : ∀ (w : World), ∀ p ∈ cs, PySem.W.codeHdIn (K w.params) p.1 p.2 = true)
    (F : ∀ (w : World) (mg : Str → Option Value) (fa : Addr) (h : Heap), (K w.params).In h → h.Ns mainGlobals mg → mg d.name = some (.ref fa) →
      ∃ fd : FuncData, (∀ (s : Shared) (u : Value), BindsTo s fd ⟨[u], []⟩ [(x, u)]) ∧ ∀ base : Heap, (K w.params).In base → base.Ns mainGlobals mg → (∀ p ∈ cs, TabB base mg p.1 p.2) → FnG l.prog w (K w.params) mg base CX0 k fa fd [x] (sp w (K w.params)))
    (hs : ∀ (w : World) (K : PySem.W.Frag) (H : Hp) (a : Addr) (ns : List Int), ns.length ≤ n → (∀ p ∈ cs, H p.2 = some (.tbl #[])) → SqL K H a (ns.map V.int) → sp w K [.ref a] H (fun v _ => v = .bl true) fun _ _ _ => False) :
    PySem.W.WalkO q loose XP YP l.row.toRowW d [] (fun f vs => PySem.call f vs) := by
  refine Att.attach_call hn hdf fun w s₀ s₁ mg mb fa o pm cd doc a vs ns G Y ho hd hcd hmg hobj hi hlen hg => ?_
  obtain ⟨fd, b, hF⟩ := F w mg fa _ (hY w _ Y) G.T.g hmg
  exact law_gT (hY w _ Y) G.T.g G.T.b G.T.builtins G.T.nolimit hg (hT w _ Y) (nT w) (fun p hp => PySem.W.codeHd_of_K (hY w _ Y) (cT w p hp)) G.T.bmain hobj hi (Nat.le_trans hlen hn2) r hF b fun H hH hS => hs w _ H a ns hlen hH hS
end
end Z
end
section
set_option Elab.async false
set_option linter.all false
set_option maxRecDepth 100000
set_option maxHeartbeats 2000000
/-! Z: whatever is walked, its items by value: loops (also with bodies that raise) and comprehensions. -/
namespace Z
open PySem PySem.Spec L2 PyProof.Rows
open Evl (Ex)
/-- J gives the items ds, as long as what is known at H1 stands -/
def Wk (P : Par) (O : Addr → Prop) (H1 : Hp) (J : It) (ds : List D) : Prop := ∃ (G : Hp → Prop) (Y : Nat → Hp → V → Hp → Prop), Walk J ds.length G Y ∧ (∀ H', Ex (hid O H1) H' → G H') ∧
  ∀ O' i H x H', (∀ a, O' a → ∃ o, H a = some o) → Ex (hid O H1) (hid O' H) → i < ds.length → Y i H x H' → Ex H H' ∧ ∃ d, ds[i]? = some d ∧ Rv P (hid O' H') d x
def JI (P : Par) (wi : TI) (f : Sl → M (List D)) : Prop := ∀ C s p σ H, Rel P C s p σ H → ∀ ds p', f s p = .ok ds p' → ∀ R : It → Hp → Prop, (∀ J H', Keep P H H' → PenAt P H' p' → Wk P C.O H' J ds → R J H') → wi σ H R
def sForI (f : Sl → M (List D)) (t : D → Sl → Option Sl) (g : Sl → M (Out × Sl)) : Sl → M (Out × Sl) := fun s => (f s).bind fun ds => loopD t g ds s
def lcI (vs : List Nat) (f : Sl → M (List D)) (t : D → Sl → Option Sl) (ft : Sl → M Bool) (fe : Sl → M D) : Sl → M (List D) := fun s => (f s).bind fun ds => if sz ds.length = true then lcD t ft fe ds (wipeS s vs) else M.no
section
variable {P : Par} {wi : TI} {fi : Sl → M (List D)} {tg : TG} {js : List Nat} {t : D → Sl → Option Sl} {t1 : TS} {g1 : Sl → M (Out × Sl)} {W : XK} {te : TE} {fe : Sl → M D} {tt : TT} {ft : Sl → M Bool} {vs : List Nat}
theorem js_forI (hi : JI P wi fi) (hg : JG P tg js t) (hb : JS P t1 g1) : JS P (tFor wi tg t1) (sForI fi t g1) := fun C s p σ H r o sf pf e E l => by
  obtain ⟨ds, p1, e1, e4⟩ := M.bind_ok e
  refine hi C s p σ H r ds p1 e1 _ fun J H1 k1 q1 ⟨G, Y, wk, hG, hY⟩ => ?_
  have go1 := r.go k1
  refine for_it wk (fun i σ' H' => ∃ C' s' p', Rel P C' s' p' σ' H' ∧ Go P C C' H1 H' ∧ loopD t g1 (ds.drop i) s' p' = .ok (o, sf) pf) ⟨C, s, _, r.keep k1 q1, .refl, e4⟩ ?_ ?_ ?_
  · rintro i σ' H' _ ⟨C', s', p', r', g', _⟩
    exact hG H' (g'.fz.trans fz_up)
  · rintro i x σ' H' H2 hi ⟨C', s', p', r', g', e'⟩ y
    obtain ⟨ex, dx, hd, rx⟩ := hY C'.O i H' x H2 r'.dom g'.fz hi y
    rw [drop_at hd] at e'
    have r2 := r'.keep (.ofEx ex) (r'.pen.ex ex)
    exact loop_turn hg hb (l.back go1) r2 (g'.trans (r'.go (.ofEx ex))) rx e' fun C2 s2 p2 σ2 H2 r2 g2 e2 => ⟨C2, s2, p2, r2, g2, e2⟩
  · rintro σ' H' ⟨C', s', p', r', g', e'⟩
    rw [List.drop_eq_nil_of_le (Nat.le_refl _)] at e'
    cases e'
    exact l C' σ' H' r' (go1.trans g')
/-- the body may raise -/
theorem x_forI (hi : JI P wi fi) (ni : Nx fi) (hg : JG P tg js t) (hb : JS P t1 g1) (hx : JXS P W t1 g1) : JXS P W (tFor wi tg t1) (sForI fi t g1) := fun C s p σ H r c ks es pf e l E => by
  rcases M.bind_ex e with e | ⟨ds, p1, e1, e4⟩
  · exact absurd e (ni s p c ks es pf)
  refine hi C s p σ H r ds p1 e1 _ fun J H1 k1 q1 ⟨G, Y, wk, hG, hY⟩ => ?_
  have go1 := r.go k1
  refine for_it wk (fun i σ' H' => ∃ C' s' p', Rel P C' s' p' σ' H' ∧ Go P C C' H1 H' ∧ loopD t g1 (ds.drop i) s' p' = .ex c ks es pf) ⟨C, s, _, r.keep k1 q1, .refl, e4⟩ ?_ ?_ ?_
  · rintro i σ' H' _ ⟨C', s', p', r', g', _⟩
    exact hG H' (g'.fz.trans fz_up)
  · rintro i x σ' H' H2 hi ⟨C', s', p', r', g', e'⟩ y
    obtain ⟨ex, dx, hd, rx⟩ := hY C'.O i H' x H2 r'.dom g'.fz hi y
    rw [drop_at hd] at e'
    have r2 := r'.keep (.ofEx ex) (r'.pen.ex ex)
    have g2 := g'.trans (r'.go (.ofEx ex))
    rcases M.bind_ex e' with e' | ⟨s3, p3, e5, e6⟩
    · exact absurd e' (Nm.of _ _ _ _ _ _)
    obtain ⟨e7, rfl⟩ := M.of_ok e5
    refine hg C' s' _ σ' H2 r2 dx x rx s3 e7 _ fun σ2 a2 _ => ?_
    rcases M.bind_ex e6 with e6 | ⟨⟨o, s4⟩, p4, e8, e9⟩
    · exact hx C' s3 _ σ2 H2 a2 c ks es pf e6 (LX.back (go1.trans g2) l) _
    · refine hb C' s3 _ σ2 H2 a2 o s4 p4 e8 _ ?_
      cases o with
      | nx => exact fun C4 σ4 H4 r4 g4 => ⟨C4, s4, p4, r4, g2.trans g4, e9⟩
      | ct => exact fun C4 σ4 H4 r4 g4 => ⟨C4, s4, p4, r4, g2.trans g4, e9⟩
      | bk => cases e9
      | rt v => cases e9
  · rintro σ' H' ⟨C', s', p', r', g', e'⟩
    rw [List.drop_eq_nil_of_le (Nat.le_refl _)] at e'
    cases e'
theorem Mid.ex {C : Fr} {p pf : Pen} {H1 H H2 : Hp} {sw : Sl} {total acc ds : List D} {L : Addr} {avs : List V} (m : Mid P C t ft fe sw total pf H1 L ds p H acc avs) (e : Ex H H2) : Mid P C t ft fe sw total pf H1 L ds p H2 acc avs :=
  ⟨m.keep.trans (.ofEx e), m.pen.ex e, e _ _ m.at_, Rvs.ex (fz_ex e) _ _ m.rv, m.eq⟩
/-- as lc_turn, the item known at the turn alone -/
theorem lc_turn2 {C : Fr} {σ : L2.St} {H1 H : Hp} {sw : Sl} {total acc ds : List D} {d : D} {p pf : Pen} {L : Addr} {avs : List V} {pr : Pen} (r : Rel P C sw pr (L2.wipe σ vs) H1) (hL : H1 L = none) (hz : total.length ≤ 100000) (hg : JG P tg vs t) (ht : JT P tt ft) (he : JE P te fe)
    (m : Mid P C t ft fe sw total pf H1 L (d :: ds) p H acc avs) {x : V} (rx : Rv P (hid (fun l => C.O l ∨ l = L) H) d x) (Wn : Hp → Prop) (hW : ∀ p' H' acc' avs', Mid P C t ft fe sw total pf H1 L ds p' H' acc' avs' → Wn H') :
    tg x (L2.wipe σ vs) H fun σ2 H2 => L2.wipe σ2 vs = L2.wipe σ vs ∧ tt σ2 H2 fun b H3 =>
      if b = true then te σ2 H3 fun y H4 => ∃ acc, H4 L = some (.lst acc) ∧ acc.length < sizeLine ∧ Wn (upd H4 L (.lst (acc ++ [y]))) else Wn H3 := by
  obtain ⟨rest, e, et⟩ := m.eq
  have nL : ¬ P.hot L := fun z => by obtain ⟨u, y⟩ := r.pen.hot z; rw [y] at hL; cases hL
  have nL2 : L ≠ P.ca := fun z => by rw [z, r.pen.2.2.1] at hL; cases hL
  have ru := r.under hL m.keep m.pen m.at_
  obtain ⟨s1, p1, e1, e2⟩ := M.bind_ok e
  obtain ⟨e3, rfl⟩ := M.of_ok e1
  obtain ⟨b, p2, e4, e5⟩ := M.bind_ok e2
  refine hg _ sw _ _ H ru d x rx s1 e3 _ fun σ2 a2 of2 => ⟨of2.wipe, ?_⟩
  refine ht _ s1 _ σ2 H a2 b p2 e4 _ fun H3 k3 q3 => ?_
  have r3 := a2.keep k3 q3
  have up3 := a2.fz k3
  cases b with
  | false =>
    rw [if_neg Bool.false_ne_true] at e5 ⊢
    exact hW p2 H3 acc avs ⟨m.keep.trans k3, q3, k3 L _ nL m.at_, Rvs.ex up3 acc avs m.rv, rest, e5, et⟩
  | true =>
    rw [if_pos rfl] at e5 ⊢
    obtain ⟨y, p4, e6, e7⟩ := M.bind_ok e5
    obtain ⟨r1, p5, e8, e9⟩ := M.bind_ok e7
    cases e9
    refine he _ s1 p2 σ2 H3 r3 y p4 e6 _ fun v H4 k4 q4 r4 => ?_
    have up4 := r3.fz k4
    have at4 : H4 L = some (.lst avs) := k4 L _ nL (k3 L _ nL m.at_)
    have la : avs.length = acc.length := m.rv.len
    refine ⟨avs, at4, Evl.sz_lt ?_, ?_⟩
    · have : acc.length + 1 ≤ total.length := by rw [← et, List.length_append, List.length_cons]; omega
      omega
    · refine hW p4 _ (acc ++ [y]) (avs ++ [v]) ⟨fun b o n z => ?_, q4.upd nL nL2 at4, upd_same, ?_, r1, e8, by rw [List.append_assoc]; exact et⟩
      · rw [upd_ne (fun y => by rw [y, hL] at z; cases z)]
        exact k4 b o n (k3 b o n (m.keep b o n z))
      · exact Rvs.ex (hid_at (.inr rfl)) _ _ ((Rvs.ex (up3.trans up4) acc avs m.rv).app (Rvs.one r4))
theorem jl_lcI (hi : JI P wi fi) (hg : JG P tg vs t) (ht : JT P tt ft) (he : JE P te fe) : JL P (tLc wi tg tt te vs) (lcI vs fi t ft fe) := fun C s p σ H r total pf e Q q => by
  obtain ⟨ds, p1, e1, e4⟩ := M.bind_ok e
  split at e4
  · rename_i hz
    refine hi C s p σ H r ds p1 e1 _ fun J H1 k1 q1 ⟨G, Y, wk, hG, hY⟩ => ?_
    have rw := (r.keep k1 q1).wipe vs
    have hz' : total.length ≤ 100000 := Nat.le_trans (lcD_len e4) (of_decide_eq_true hz)
    refine fun L hL => lc_it wk (fun i H' => ∃ p' acc avs, Mid P C t ft fe (wipeS s vs) total pf H1 L (ds.drop i) p' H' acc avs) ⟨_, _, _, lc_start (rest := []) rw hL e4⟩ ?_ ?_ ?_
    · rintro i H' _ ⟨p', acc, avs, m⟩
      exact hG H' ((fz_keep r.paO m.keep).trans fz_up)
    · rintro i x H' H2 hi ⟨p', acc, avs, m⟩ y
      have ru := rw.under hL m.keep m.pen m.at_
      have up := (rw.goOw hL m.keep).fz
      obtain ⟨ex, dx, hd, rx⟩ := hY _ i H' x H2 ru.dom up hi y
      rw [drop_at hd] at m
      exact lc_turn2 rw hL hz' hg ht he (m.ex ex) rx _ fun p2 H2 acc2 avs2 m2 => ⟨p2, acc2, avs2, m2⟩
    · rintro H' ⟨p', acc, avs, m⟩
      rw [List.drop_eq_nil_of_le (Nat.le_refl _)] at m
      exact lc_fin r k1 q1 hL m q
  · cases e4
theorem n_forI (t : D → Sl → Option Sl) (hi : Nx fi) (h : Nx g1) : Nx (sForI fi t g1) := fun s => (hi s).bind fun ds => n_loop t h ds s
theorem n_lcI (vs : List Nat) (t : D → Sl → Option Sl) (hi : Nx fi) (h : Nx ft) (k : Nx fe) : Nx (lcI vs fi t ft fe) := fun s => (hi s).bind fun ds => (n_lcD t h k ds _).ite Nm.no
end
/-! ### what is walked -/
/-- a list, a tuple, or a text, sign by sign -/
def iSeq (K : PySem.W.Frag) (te : TE) : TI := fun σ H R => te σ H fun x H1 => (∃ a xs, x = .ref a ∧ SqL K H1 a xs ∧ R (Itl K a) H1) ∨ (∃ a xs, x = .ref a ∧ SqT K H1 a xs ∧ R (Itt K a) H1) ∨ ∃ z, x = .str z ∧ R (Its z) H1
theorem pi_seq {X : Cx} {K : PySem.W.Frag} {tg l : Expr} {te : TE} (hK : X.K = K) (hl : PE X l te) : PI X tg l (iSeq K te) := by
  subst hK
  refine ⟨fun pins s σ H R J h => ?_⟩
  refine thn (hl.run pins s σ H _ J h) fun v s1 ⟨x, H1, J1, r1, q1⟩ => ?_
  rcases q1 with ⟨a, xs, rfl, hq, q⟩ | ⟨a, xs, rfl, hq, q⟩ | ⟨z, rfl, q⟩
  · cases r1
    obtain ⟨its, rv, p, hz⟩ := J1.list hq
    refine wpAny_pyIter_list p.isList ⟨s1.heap.objs.size, [s1.heap.objs.size], _, _, H1, rfl, J1.kept (t' := s1.toks) fun b o e => Heap.get?_push_of_some _ e, turn_list a _, ⟨_, Heap.get?_push_size _ rfl, rfl, rfl⟩, fun b hb => ?_, q⟩
    rw [List.mem_singleton.mp hb]
    exact J1.fpOk (Nat.le_refl _) (J1.hok.fresh (Nat.le_refl _))
  · cases r1
    obtain ⟨its, rv, p, hz⟩ := J1.tuple hq
    refine wpAny_pyIter_tuple (show s1.heap.IsTuple a its.toArray from p) ⟨s1.heap.objs.size, [s1.heap.objs.size], _, _, H1, rfl, J1.kept (t' := s1.toks) fun b o e => Heap.get?_push_of_some _ e, turn_tuple a _, ⟨_, Heap.get?_push_size _ rfl, rfl, rfl⟩, fun b hb => ?_, q⟩
    rw [List.mem_singleton.mp hb]
    exact J1.fpOk (Nat.le_refl _) (J1.hok.fresh (Nat.le_refl _))
  · obtain ⟨t, rfl⟩ := r1
    cases ha : z.cps.all (· < 128)
    · exact wpAny_pyIter_wide ha (pi_one (tk := s1.toks) J1 _ (turn_str _ z t "str_iterator" (.inr rfl)) ⟨_, Heap.get?_push_size _ rfl, rfl, rfl⟩ q)
    · exact wpAny_pyIter_ascii ha (pi_one (tk := s1.toks) J1 _ (turn_str _ z t "str_ascii_iterator" (.inl rfl)) ⟨_, Heap.get?_push_size _ rfl, rfl, rfl⟩ q)
/-- the signs of a text -/
def signs (z : Str) : List D := z.cps.toList.map fun c => .str ⟨#[c]⟩
theorem signs_len (z : Str) : (signs z).length = z.cps.size := by unfold signs; rw [List.length_map, Array.length_toList]
def seqD : D → Option (List D)
  | .lst ds => some ds
  | .tup ds => some ds
  | .str z => some (signs z)
  | _ => none
def iSq (f : Sl → M D) : Sl → M (List D) := fun s => (f s).bind fun d => M.of (seqD d)
section
variable {P : Par} {te : TE} {fe : Sl → M D} {ta : TA} {fa : Sl → M (List D)}
theorem wk_list {O : Addr → Prop} {H : Hp} {a : Addr} {vs : List V} {ds : List D} (h : hid O H a = some (.lst vs)) (rv : Rvs P (hid O H) ds vs) : Wk P O H (Itl P.K a) ds := by
  refine ⟨_, _, by rw [← rv.len]; exact walk_list (xs := vs), fun H' e => Evl.sq_of (e a _ h), fun O' i H1 x H' _ e hi y => ?_⟩
  obtain ⟨rfl, hx⟩ := y
  obtain ⟨d, hd, rx⟩ := rv.getv hx
  exact ⟨Evl.Ex.refl _, d, hd, Rv.ex e d x rx⟩
theorem wk_tup {O : Addr → Prop} {H : Hp} {a : Addr} {vs : List V} {ds : List D} (h : SqT P.K (hid O H) a vs) (rv : Rvs P (hid O H) ds vs) : Wk P O H (Itt P.K a) ds := by
  refine ⟨_, _, by rw [← rv.len]; exact walk_tup (xs := vs), fun H' e => sqt_ex e h, fun O' i H1 x H' _ e hi y => ?_⟩
  obtain ⟨rfl, hx⟩ := y
  obtain ⟨d, hd, rx⟩ := rv.getv hx
  exact ⟨Evl.Ex.refl _, d, hd, Rv.ex e d x rx⟩
theorem wk_str {O : Addr → Prop} {H : Hp} {z : Str} : Wk P O H (Its z) (signs z) := by
  refine ⟨_, _, by rw [signs_len]; exact walk_str (z := z), fun _ _ => True.intro, fun O' i H1 x H' _ e hi y => ?_⟩
  obtain ⟨rfl, c, hc, rfl⟩ := y
  refine ⟨Evl.Ex.refl _, .str ⟨#[c]⟩, ?_, rfl⟩
  unfold signs
  rw [List.getElem?_map, Array.getElem?_toList, hc]
  rfl
theorem ji_seq (h : JE P te fe) : JI P (iSeq P.K te) (iSq fe) := fun C s p σ H r ds p' e R q => by
  obtain ⟨d, p1, e1, e2⟩ := M.bind_ok e
  obtain ⟨e3, rfl⟩ := M.of_ok e2
  refine h C s p σ H r d _ e1 _ fun v H1 k1 q1 r1 => ?_
  cases d <;> cases e3
  · exact .inr (.inr ⟨_, r1, q _ H1 k1 q1 wk_str⟩)
  · obtain ⟨a, vs, rfl, h1, h2⟩ := r1
    exact .inr (.inl ⟨a, vs, rfl, sqt_ex fz_up h1, q _ H1 k1 q1 (wk_tup h1 h2)⟩)
  · obtain ⟨a, vs, rfl, h1, h2⟩ := r1
    exact .inl ⟨a, vs, rfl, Evl.sq_of (fz_some.mp h1).2, q _ H1 k1 q1 (wk_list h1 h2)⟩
theorem n_iSq (h : Nx fe) : Nx (iSq fe) := fun s => (h s).bind fun _ => Nm.of _
/-- range -/
def iRg (rg : List D → Option (Int × Nat)) (f : Sl → M (List D)) : Sl → M (List D) := fun s => (f s).bind fun ds => (M.of (rg ds)).bind fun r => M.pure (rngD r.1 r.2)
theorem n_iRg (rg : List D → Option (Int × Nat)) (h : Nx fa) : Nx (iRg rg fa) := fun s => (h s).bind fun _ => (Nm.of _).bind fun _ => Nm.pure _
theorem wk_rng {O : Addr → Prop} {H : Hp} {lo : Int} {n : Nat} : Wk P O H (Itr lo n) (rngD lo n) := by
  refine ⟨_, _, by rw [rngD_len]; exact walk_range, fun _ _ => True.intro, fun O' i H1 x H' _ e hi y => ?_⟩
  obtain ⟨rfl, rfl⟩ := y
  rw [rngD_len] at hi
  exact ⟨Evl.Ex.refl _, _, rngD_at hi, rfl⟩
theorem ji_rg1 (h : JA P ta fa) : JI P (iRng1 ta) (iRg rg1 fa) := fun C s p σ H r ds p' e R q => by
  obtain ⟨es, p1, e1, e2⟩ := M.bind_ok e
  obtain ⟨⟨lo, n⟩, p2, e3, e4⟩ := M.bind_ok e2
  obtain ⟨e5, rfl⟩ := M.of_ok e3
  obtain ⟨j, rfl, b1, b2, rfl, rfl⟩ := rg1_ok e5
  cases e4
  refine h C s p σ H r _ _ e1 _ fun vs H1 k1 q1 r1 => ?_
  obtain ⟨v, r', rfl, x1, x2⟩ := r1
  cases x1
  cases x2
  exact ⟨j, rfl, by omega, by omega, q _ H1 k1 q1 wk_rng⟩
theorem ji_rg2 (h : JA P ta fa) : JI P (iRng2 ta) (iRg rg2 fa) := fun C s p σ H r ds p' e R q => by
  obtain ⟨es, p1, e1, e2⟩ := M.bind_ok e
  obtain ⟨⟨lo, n⟩, p2, e3, e4⟩ := M.bind_ok e2
  obtain ⟨e5, rfl⟩ := M.of_ok e3
  obtain ⟨i, j, rfl, ⟨b1, b2, b3, b4⟩, rfl, rfl⟩ := rg2_ok e5
  cases e4
  refine h C s p σ H r _ _ e1 _ fun vs H1 k1 q1 r1 => ?_
  obtain ⟨v, r', rfl, x1, w, r'', rfl, x2, x3⟩ := r1
  cases x1
  cases x2
  cases x3
  exact ⟨lo, j, rfl, ⟨by omega, by omega, by omega, by omega⟩, q _ H1 k1 q1 wk_rng⟩
/-- pairs, new at each turn -/
def zipD (ds es : List D) : List D := List.zipWith (fun a b => .tup [a, b]) ds es
def enumD (ds : List D) : List D := zipD (rngD 0 ds.length) ds
theorem zipD_at {ds es : List D} {i : Nat} {a b : D} (h1 : ds[i]? = some a) (h2 : es[i]? = some b) : (zipD ds es)[i]? = some (.tup [a, b]) := by
  unfold zipD
  rw [List.getElem?_zipWith, h1, h2]
theorem wk_pair {O : Addr → Prop} {H : Hp} {J : It} {n : Nat} {G : Hp → Prop} {f g : Nat → Option V} {ds es : List D} (w : Walk J n G (YPair f g)) (hn : n = min ds.length es.length) (hG : ∀ H', Ex (hid O H) H' → G H')
    (hf : ∀ i v, i < n → f i = some v → ∃ d, ds[i]? = some d ∧ Rv P (hid O H) d v) (hg : ∀ i v, i < n → g i = some v → ∃ d, es[i]? = some d ∧ Rv P (hid O H) d v) : Wk P O H J (zipD ds es) := by
  have hl : (zipD ds es).length = n := by
    unfold zipD
    rw [List.length_zipWith, hn]
  refine ⟨_, _, by rw [hl]; exact w, hG, fun O' i H1 x H' hd e hi y => ?_⟩
  obtain ⟨T, u, v, rfl, h2, rfl, h3, h4⟩ := y
  rw [hl] at hi
  obtain ⟨a, a1, a2⟩ := hf i u hi h3
  obtain ⟨b, b1, b2⟩ := hg i v hi h4
  have up := e.trans (fz_ex (O := O') (Ex.new (o := .tup [u, v]) h2))
  exact ⟨Ex.new h2, _, zipD_at a1 b1, T, [u, v], rfl, .inl (.inl (fz_new hd h2)), u, _, rfl, Rv.ex up a u a2, v, _, rfl, Rv.ex up b v b2, rfl⟩
def iEn (f : Sl → M (List D)) : Sl → M (List D) := fun s => (f s).bind fun ds => match ds with
  | [.lst es] => M.pure (enumD es)
  | _ => M.no
theorem n_iEn (h : Nx fa) : Nx (iEn fa) := fun s => (h s).bind fun ds => by split <;> first | exact Nm.pure _ | exact Nm.no
theorem ji_enum (h : JA P ta fa) : JI P (iEnum P.K ta) (iEn fa) := fun C s p σ H r ds p' e R q => by
  obtain ⟨es, p1, e1, e2⟩ := M.bind_ok e
  match es, e2 with
  | [.lst es], e2 =>
    cases e2
    refine h C s p σ H r _ _ e1 _ fun vs H1 k1 q1 r1 => ?_
    obtain ⟨v, r', rfl, ⟨a, ws, rfl, h1, h2⟩, h3⟩ := r1
    cases h3
    refine ⟨a, ws, rfl, Evl.sq_of (fz_some.mp h1).2, q _ H1 k1 q1 (wk_pair (walk_enum (xs := ws)) ?_ (fun H' e => Evl.sq_of (e a _ h1)) ?_ fun i v _ hv => h2.getv hv)⟩
    · rw [rngD_len, h2.len]
      omega
    · intro i v hi hv
      cases hv
      exact ⟨_, rngD_at (by rw [← h2.len]; exact hi), by rw [Int.zero_add]; exact rfl⟩
def iZp (f : Sl → M (List D)) : Sl → M (List D) := fun s => (f s).bind fun ds => match ds with
  | [.lst xs, .lst ys] => M.pure (zipD xs ys)
  | [.tup xs, .tup ys] => M.pure (zipD xs ys)
  | _ => M.no
theorem n_iZp (h : Nx fa) : Nx (iZp fa) := fun s => (h s).bind fun ds => by split <;> first | exact Nm.pure _ | exact Nm.no
theorem walk_zipT {K : PySem.W.Frag} {a b : Addr} {xs ys : List V} {n : Nat} (hn : n = min xs.length ys.length) : Walk (RZ.ItzT K a b) n (fun H => SqT K H a xs ∧ SqT K H b ys) (YPair (fun i => xs[i]?) (fun i => ys[i]?)) := by
  subst hn
  refine ⟨fun i _ hi q => ?_, fun _ q => ⟨xs, ys, q.1, q.2, by omega⟩, fun i H v H' _ q y => ?_⟩
  · have h1 : i < xs.length := by omega
    have h2 : i < ys.length := by omega
    exact ⟨xs, ys, xs[i], ys[i], q.1, q.2, by simp [h1], by simp [h2]⟩
  · obtain ⟨T, x, z, h1, h2, h3, h4, h5⟩ := y
    exact ⟨T, x, z, h1, h2, h3, h4 xs q.1, h5 ys q.2⟩
theorem ji_zip (h : JA P ta fa) : JI P (RZ.iZipA P.K ta) (iZp fa) := fun C s p σ H r ds p' e R q => by
  obtain ⟨es, p1, e1, e2⟩ := M.bind_ok e
  split at e2
  · cases e2
    refine h C s p σ H r _ _ e1 _ fun vs H1 k1 q1 r1 => ?_
    obtain ⟨v, r', rfl, ⟨a, ws, rfl, h1, h2⟩, u, r'', rfl, ⟨b, zs, rfl, h3, h4⟩, h5⟩ := r1
    cases h5
    exact ⟨a, b, ws, zs, rfl, .inl ⟨Evl.sq_of (fz_some.mp h1).2, Evl.sq_of (fz_some.mp h3).2, q _ H1 k1 q1 (wk_pair (walk_zip (xs := ws) (ys := zs) rfl) (by rw [h2.len, h4.len]) (fun H' e => ⟨Evl.sq_of (e a _ h1), Evl.sq_of (e b _ h3)⟩) (fun i v _ hv => h2.getv hv) fun i v _ hv => h4.getv hv)⟩⟩
  · cases e2
    refine h C s p σ H r _ _ e1 _ fun vs H1 k1 q1 r1 => ?_
    obtain ⟨v, r', rfl, ⟨a, ws, rfl, h1, h2⟩, u, r'', rfl, ⟨b, zs, rfl, h3, h4⟩, h5⟩ := r1
    cases h5
    exact ⟨a, b, ws, zs, rfl, .inr ⟨sqt_ex fz_up h1, sqt_ex fz_up h3, q _ H1 k1 q1 (wk_pair (walk_zipT (xs := ws) (ys := zs) rfl) (by rw [h2.len, h4.len]) (fun H' e => ⟨sqt_ex e h1, sqt_ex e h3⟩) (fun i v _ hv => h2.getv hv) fun i v _ hv => h4.getv hv)⟩⟩
  · cases e2
end
end Z
end
section
set_option Elab.async false
set_option linter.all false
set_option maxRecDepth 100000
set_option maxHeartbeats 2000000
/-! Z: calls in one form: values by place, keywords, defaults. -/
namespace Z
open PySem PySem.Spec L2 PyProof.Rows
open Evl (Ex)
/-- where a parameter's value comes from -/
inductive Src where
  | pos (i : Nat) | kw (i : Nat) | dft (i : Nat)
def Src.get {α : Type} (z : α) (us its ws : List α) : Src → α
  | .pos i => (us[i]?).getD z
  | .kw i => (ws[i]?).getD z
  | .dft i => (its[i]?).getD z
def pick3 {α : Type} (z : α) (sh : List Src) (us its ws : List α) : List α := sh.map (Src.get z us its ws)
theorem valsD {vs : List V} {us : List Value} (r : Vals vs us) (i : Nat) : RelV ((vs[i]?).getD .non) ((us[i]?).getD .none) := by
  induction r generalizing i with
  | nil => exact rfl
  | cons h r ih =>
    cases i with
    | zero => exact h
    | succ i => exact ih i
theorem pick_vals {vs ds zs : List V} {us its ws : List Value} (a : Vals vs us) (b : Vals ds its) (c : Vals zs ws) : ∀ sh, Vals (pick3 .non sh vs ds zs) (pick3 .none sh us its ws)
  | [] => .nil
  | x :: sh => .cons (by cases x <;> first | exact valsD a _ | exact valsD b _ | exact valsD c _) (pick_vals a b c sh)
section
variable {P : Par} {H : Hp}
theorem rvsD {ds : List D} {vs : List V} (r : Rvs P H ds vs) (i : Nat) : Rv P H ((ds[i]?).getD .non) ((vs[i]?).getD .non) := by
  cases e : ds[i]? with
  | some d =>
    obtain ⟨v, e2, rv⟩ := r.get e
    rw [e2]
    exact rv
  | none =>
    have e2 : vs[i]? = none := by
      rw [List.getElem?_eq_none_iff] at e ⊢
      rw [r.len]
      exact e
    rw [e2]
    exact rfl
theorem pick_rvs {ds fs es : List D} {vs ws zs : List V} (a : Rvs P H ds vs) (b : Rvs P H fs ws) (c : Rvs P H es zs) : ∀ sh, Rvs P H (pick3 .non sh ds fs es) (pick3 .non sh vs ws zs)
  | [] => rfl
  | x :: sh => ⟨_, _, rfl, by cases x <;> first | exact rvsD a _ | exact rvsD b _ | exact rvsD c _, pick_rvs a b c sh⟩
end
/-- data that stands in the written part -/
def RvC (K : PySem.W.Frag) (ds : List D) (vs : List V) : Prop := ∀ (P : Par) (H : Hp), P.K = K → Rvs P H ds vs
theorem RvC.nil {K : PySem.W.Frag} : RvC K [] [] := fun _ _ _ => rfl
/-- a call of n values by place and keywords named ks binds the parameters ps -/
def ShK (K : PySem.W.Frag) (fd : FuncData) (ps : List Str) (n : Nat) (ks : List Str) (sh : List Src) (dds : List D) : Prop := ∃ (dvs : List V) (its : List Value), RvC K dds dvs ∧ Vals dvs its ∧
  ∀ (s : Shared) (us ws : List Value), K.In s.heap → us.length = n → ws.length = ks.length → BindsTo s fd ⟨us, ks.zip ws⟩ (ps.zip (pick3 .none sh us its ws))
/-- the def st, its defaults dds, stands at the module's name x -/
def DefD (K : PySem.W.Frag) (x qual : Str) (st : Stmt) (dds : List D) (f : Addr) (fd : FuncData) : Prop := ∃ dvs, FunD K x qual (defArgs st) (defBody st) (defScope st) dvs [] f fd ∧ RvC K dds dvs
theorem DefD.of {K : PySem.W.Frag} {x qual : Str} {st : Stmt} {f : Addr} {fd : FuncData} (F : Fun K x qual st f fd) : DefD K x qual st [] f fd := by
  obtain ⟨oc, od, kV, doc, pm, an, cd, ct, sl, rfl, lk, hc⟩ := id F.ex
  exact ⟨[], ⟨⟨oc, od, .none, kV, doc, pm, an, cd, ct, sl, rfl, lk, hc, .inl ⟨rfl, rfl⟩, .inl rfl⟩, F.kp⟩, RvC.nil⟩
theorem DefD.sh0 {K : PySem.W.Frag} {x qual : Str} {st : Stmt} {f : Addr} {fd : FuncData} {ps ks : List Str} {n : Nat} {sh : List Src} (F : DefD K x qual st [] f fd)
    (h : ∀ (kV doc pm : Value) (an : Option Addr) (cd ct : Value) (us ws : List Value), us.length = n → ws.length = ks.length → bindArgs (PySem.W.fnOf x qual (defArgs st) (defBody st) (defScope st) .none kV doc pm an cd ct) ⟨us, ks.zip ws⟩ = pure (ps.zip (pick3 .none sh us [] ws))) : ShK K fd ps n ks sh [] := by
  obtain ⟨dvs, F, rc⟩ := F
  have e : dvs = [] := rc ⟨K, 0, 0, fun _ => 0, []⟩ (fun _ => none) rfl
  subst e
  obtain ⟨oc, od, dV, kV, doc, pm, an, cd, ct, sl, rfl, lk, hc, hD, _⟩ := F.ex
  rcases hD with ⟨_, rfl⟩ | ⟨e, _⟩
  · exact ⟨[], [], RvC.nil, .nil, fun s us ws _ l1 l2 => .of_eq (h kV doc pm an cd ct us ws l1 l2)⟩
  · exact absurd rfl e
theorem DefD.shD {K : PySem.W.Frag} {x qual : Str} {st : Stmt} {f : Addr} {fd : FuncData} {ps ks : List Str} {n : Nat} {sh : List Src} {dds : List D} (F : DefD K x qual st dds f fd) (hd : dds ≠ [])
    (h : ∀ (T : Addr) (kV doc pm : Value) (an : Option Addr) (cd ct : Value) (us ws its : List Value), us.length = n → ws.length = ks.length → its.length = dds.length →
      ∃ k, bindArgs (PySem.W.fnOf x qual (defArgs st) (defBody st) (defScope st) (.ref T) kV doc pm an cd ct) ⟨us, ks.zip ws⟩ = seqItems? (.ref T) >>= k ∧ k (some its.toArray) = pure (ps.zip (pick3 .none sh us its ws))) : ShK K fd ps n ks sh dds := by
  obtain ⟨dvs, F, rc⟩ := F
  have el : dvs.length = dds.length := (rc ⟨K, 0, 0, fun _ => 0, []⟩ (fun _ => none) rfl).len
  obtain ⟨oc, od, dV, kV, doc, pm, an, cd, ct, sl, rfl, lk, hc, hD, _⟩ := F.ex
  rcases hD with ⟨e, _⟩ | ⟨_, T, o, its, m, rfl, lT, oT, rT⟩
  · rw [e] at el
    exact absurd (List.length_eq_zero_iff.mp el.symm) hd
  · refine ⟨dvs, its, rc, rT, fun s us ws X l1 l2 => ?_⟩
    obtain ⟨k, e1, e2⟩ := h T kV doc pm an cd ct us ws its l1 l2 (rT.length.symm.trans el)
    refine BindsTo.of_looks fun M => ?_
    rw [e1]
    exact looks_items X lT oT (.of_pure e2)
/-- the def st at x keeps a promise -/
def OwnQ (CX : CXT) (Pg : Program) (w : World) (K : PySem.W.Frag) (mg : Str → Option Value) (base : Heap) (k : Nat) (x : Str) (st : Stmt) (ps : List Str) (dds : List D) (sp : Sp) : Prop := ∃ f fd, DefD K x x st dds f fd ∧ FnG Pg w K mg base CX k f fd ps sp ∧ mg x = some (.ref f) ∧ PySem.W.keepIn K (.ref f) = true
/-- .. and is called so -/
def OwnC (CX : CXT) (Pg : Program) (w : World) (K : PySem.W.Frag) (mg : Str → Option Value) (base : Heap) (k : Nat) (x : Str) (ps : List Str) (n : Nat) (ks : List Str) (sh : List Src) (dds : List D) (sp : Sp) : Prop :=
  ∃ f fd, FnG Pg w K mg base CX k f fd ps sp ∧ ShK K fd ps n ks sh dds ∧ mg x = some (.ref f) ∧ PySem.W.keepIn K (.ref f) = true
section
variable {CX : CXT} {Pg : Program} {w : World} {K : PySem.W.Frag} {mg : Str → Option Value} {base : Heap} {k n : Nat} {x : Str} {st : Stmt} {ps ks : List Str} {sp : Sp} {sh : List Src} {dds : List D}
theorem OwnQ.c (h : OwnQ CX Pg w K mg base k x st ps dds sp) (s : ∀ f fd, DefD K x x st dds f fd → ShK K fd ps n ks sh dds) : OwnC CX Pg w K mg base k x ps n ks sh dds sp := by
  obtain ⟨f, fd, F, G, m, kp⟩ := h
  exact ⟨f, fd, G, s f fd F, m, kp⟩
/-- fn_g for a def with defaults -/
theorem fn_gD {f : Addr} {fd : FuncData} {N : List Str} {qual : Str} (F : DefD K x qual st dds f fd) (T : FnScope N ps (defScope st)) (ln : ∀ vs H Q E, sp vs H Q E → vs.length = ps.length)
    (hb : ∀ (cd : Value) (A : Around) (ou : List Env) (s : Shared) (H : Hp) (vs : List V) (Q : VK) (E : XK), Room k (A.deeper (envOfC qual (defScope st) s.heap.objs.size f cd)) → A.guards = some [] → sp vs H Q E →
      ∃ t, PSs (cxOf CX Pg w K mg base N qual (defScope st) f cd A ou s H E) (defBody st) t ∧ t { nx := fun _ H' => Q .non H', rt := Q } (L2.start N vs) H) : FnG Pg w K mg base CX (k + 1) f fd ps sp := by
  obtain ⟨dvs, F, _⟩ := F
  obtain ⟨oc, od, dV, kV, doc, pm, an, cd, ct, sl, rfl, lk, hcd, _, _⟩ := F.ex
  refine ⟨ln, fun A ou s H ar us vs Q E r g e0 bd rv q => ?_⟩
  have inK : K.In s.heap := e0.mod.kin.keeps fun b o z => (e0.bs b o z).1
  have kinds : ∀ y ∈ ps.zip us, (defScope st).names.lookup y.1 = some .local ∨ ((defScope st).names.lookup y.1 = some .cell ∧ ((cellsFrom (s.heap.objs.size + 1) (defScope st).names []).lookup y.1).isSome = true) := by
    rintro ⟨n, v⟩ hy
    rcases T.par n (List.of_mem_zip hy).1 with c | c
    · exact Or.inl c
    · exact Or.inr ⟨c, PySem.W.cellsFrom_some _ _ _ (Or.inl c)⟩
  refine codeAny_call_function r.depth (inK _ _ lk) rfl T.co T.gen rfl (PySem.W.codeRec_of inK hcd) (bd _ _ _ _ ?_)
  refine wpAny_newFunctionEnv_cells T.kind kinds fun env he s1 x1 => ?_
  subst he
  refine ⟨(e0.mod.nolimit.keeps fun b o z => (e0.bs b o z).1).keeps x1.toInCall.keep, codeAny_func ?_⟩
  obtain ⟨t, ht, hq⟩ := hb cd A ou s H vs Q E (r.deeper _) g q
  have J := inv_start (K := K) (mg := mg) (base := base) (CX := CX) (E := E) (P := Pg) (w := w) T r.hd e0 (ln _ _ _ _ q) rv x1
  refine wpAny_mono (ht.run [] s1 (L2.start N vs) H _ J hq) (fun fl s' hs => ?_) fun _ _ z => z
  have z := body_end hs
  cases fl <;> exact z
def DefInD (K : PySem.W.Frag) (mg : Str → Option Value) (x : Str) (st : Stmt) (dds : List D) : Prop := ∃ f fd, DefD K x x st dds f fd ∧ mg x = some (.ref f) ∧ PySem.W.keepIn K (.ref f) = true
theorem own_q {N : List Str} (h : DefInD K mg x st dds) (T : FnScope N ps (defScope st)) (ln : ∀ vs H Q E, sp vs H Q E → vs.length = ps.length)
    (hb : ∀ (f : Addr) (cd : Value) (A : Around) (ou : List Env) (s : Shared) (H : Hp) (vs : List V) (Q : VK) (E : XK), Room k (A.deeper (envOfC x (defScope st) s.heap.objs.size f cd)) → A.guards = some [] → sp vs H Q E →
      ∃ t, PSs (cxOf CX Pg w K mg base N x (defScope st) f cd A ou s H E) (defBody st) t ∧ t { nx := fun _ H' => Q .non H', rt := Q } (L2.start N vs) H) : OwnQ CX Pg w K mg base (k + 1) x st ps dds sp := by
  obtain ⟨f, fd, F, m, kp⟩ := h
  exact ⟨f, fd, F, fn_gD F T ln (fun cd A ou s H vs Q E r g q => hb f cd A ou s H vs Q E r g q), m, kp⟩
end
/-! ### the call's reading -/
def tCl (K : PySem.W.Frag) (n m : Nat) (sp : Sp) (sh : List Src) (dds : List D) (E : XK) (t tk : TA) : TE := fun σ H Q => t σ H fun vs H1 => tk σ H1 fun zs H2 => vs.length = n ∧ zs.length = m ∧ ∀ dvs, RvC K dds dvs → sp (pick3 .non sh vs dvs zs) H2 Q E
section
variable {Y : Cx} {CX : CXT} {k n : Nat} {ps ks : List Str} {sp : Sp} {sh : List Src} {dds : List D} {x : Str} {p pos : Pos} {e : Expr} {es : List Expr} {kws : List Keyword} {t tk : TA} {E : XK}
theorem run_c {pins : List (Addr × Obj)} {σ : L2.St} {H : Hp} {s : Shared} {Q : VK} {us ws : List Value} {vs zs : List V} {f : Addr} {fd : FuncData} (F : FnG Y.prog Y.w Y.K Y.mg Y.base CX k f fd ps sp) (r : Room k Y.A) (g : Y.A.guards = some []) (b : ShK Y.K fd ps n ks sh dds) (ex : Passes CX Y E)
    (I : Inv Y pins σ H s) (rv : Vals vs us) (rz : Vals zs ws) (l1 : vs.length = n) (l2 : zs.length = ks.length) (h : ∀ dvs, RvC Y.K dds dvs → sp (pick3 .non sh vs dvs zs) H Q E) : wpAny (model Y.prog Y.w) Y.A (call (.ref f) us (ks.zip ws)) (EP Y pins σ Q) Y.xe s := by
  obtain ⟨dvs, its, rc, ri, bt⟩ := b
  exact run_g (ar := ⟨us, ks.zip ws⟩) F r g ex I (bt s us ws I.kIn (rv.length.symm.trans l1) (rz.length.symm.trans l2)) (pick_vals rv ri rz sh) (h dvs rc)
/-- x(e, .., k = v, ..) -/
theorem pe_c1 (h : OwnC CX Y.prog Y.w Y.K Y.mg Y.base k x ps n ks sh dds sp) (r : Room k Y.A) (g : Y.A.guards = some []) (ex : Passes CX Y E) (ha : PA Y (e :: es) t) (hk : PK Y kws tk) (hg : Gl Y x := by rfl)
    (hall : (backToKw pos (keywordEach kws Y.env)).all (·.1.isSome) = true := by rfl) (hks : (backToKw pos (keywordEach kws Y.env)).filterMap (·.1) = ks := by rfl) (hdb : (x == ("__debug__" : Str)) = false := by decide)
    (he : starEach (e :: es) Y.env = (false, eval e Y.env) :: starEach es Y.env := by rfl) (hpl : ((backTo pos (starEach (e :: es) Y.env)).any (·.1) || (backToKw pos (keywordEach kws Y.env)).any (·.1.isNone)) = false := by rfl) :
    PE Y (.Call (.Name x p) (e :: es) kws pos) (tCl Y.K n ks.length sp sh dds E t tk) := by
  obtain ⟨f, fd, F, b, m, kp⟩ := h
  refine ⟨fun pins s σ H Q I z => ?_⟩
  refine wpAny_Call_Name_kw (ld_glob I hg m ?_ hdb)
  refine PySem.W.callWith_KW (h₀ := Y.base) I.ok.mod.kin kp hall (thn (ha.run pos pins s σ H _ I z) fun us s1 ⟨vs, H1, I1, rv, q⟩ => ?_) hpl he
  refine thn (hk.run pos pins s1 σ H1 _ I1 q) fun ws s2 ⟨zs, H2, I2, rz, l1, l2, q2⟩ => ⟨I2.kIn, ?_⟩
  rw [hks]
  exact run_c F r g b ex I2 rv rz l1 l2 q2
/-- x(k = v, ..) -/
theorem pe_c0 (h : OwnC CX Y.prog Y.w Y.K Y.mg Y.base k x ps n ks sh dds sp) (r : Room k Y.A) (g : Y.A.guards = some []) (ex : Passes CX Y E) (hk : PK Y kws tk) (hg : Gl Y x := by rfl)
    (hall : (backToKw pos (keywordEach kws Y.env)).all (·.1.isSome) = true := by rfl) (hks : (backToKw pos (keywordEach kws Y.env)).filterMap (·.1) = ks := by rfl) (hdb : (x == ("__debug__" : Str)) = false := by decide)
    (hpl : ((backTo pos (starEach [] Y.env)).any (·.1) || (backToKw pos (keywordEach kws Y.env)).any (·.1.isNone)) = false := by rfl) :
    PE Y (.Call (.Name x p) [] kws pos) (tCl Y.K n ks.length sp sh dds E tNil tk) := by
  obtain ⟨f, fd, F, b, m, kp⟩ := h
  refine ⟨fun pins s σ H Q I z => ?_⟩
  refine wpAny_Call_Name_kw (ld_glob I hg m ?_ hdb)
  refine PySem.W.callWith_KW0 (h₀ := Y.base) I.ok.mod.kin kp hall (thn (hk.run pos pins s σ H _ I z) fun ws s1 ⟨zs, H1, I1, rz, l1, l2, q⟩ => ⟨I1.kIn, ?_⟩) hpl
  rw [hks]
  exact run_c (us := []) (vs := []) F r g b ex I1 .nil rz l1 l2 q
/-- x() -/
theorem pe_cn (h : OwnC CX Y.prog Y.w Y.K Y.mg Y.base k x ps n [] sh dds sp) (r : Room k Y.A) (g : Y.A.guards = some []) (ex : Passes CX Y E) (hg : Gl Y x := by rfl) (hdb : (x == ("__debug__" : Str)) = false := by decide) :
    PE Y (.Call (.Name x p) [] [] pos) (tCl Y.K n 0 sp sh dds E tNil tNil) := by
  obtain ⟨f, fd, F, b, m, kp⟩ := h
  refine ⟨fun pins s σ H Q I ⟨l1, l2, q⟩ => ?_⟩
  refine wpAny_Call_Name_kw (ld_glob I hg m ?_ hdb)
  exact PySem.W.callWith_K0 I.kIn kp (run_c (us := []) (ws := []) (vs := []) (zs := []) F r g b ex I .nil .nil l1 l2 q)
end
section
variable {Y : Cx} {K : PySem.W.Frag} {CX : CXT} {k n : Nat} {ps ks : List Str} {sp : Sp} {sh : List Src} {dds : List D} {x : Str} {p pos : Pos} {e : Expr} {es : List Expr} {kws : List Keyword} {t tk : TA} {E : XK}
theorem k_c1 (hK : Y.K = K) (h : OwnC CX Y.prog Y.w Y.K Y.mg Y.base k x ps n ks sh dds sp) (r : Room k Y.A) (g : Y.A.guards = some []) (ex : Passes CX Y E) (ha : PA Y (e :: es) t) (hk : PK Y kws tk) (hg : Gl Y x := by rfl)
    (hall : (backToKw pos (keywordEach kws Y.env)).all (·.1.isSome) = true := by rfl) (hks : (backToKw pos (keywordEach kws Y.env)).filterMap (·.1) = ks := by rfl) (hdb : (x == ("__debug__" : Str)) = false := by decide)
    (he : starEach (e :: es) Y.env = (false, eval e Y.env) :: starEach es Y.env := by rfl) (hpl : ((backTo pos (starEach (e :: es) Y.env)).any (·.1) || (backToKw pos (keywordEach kws Y.env)).any (·.1.isNone)) = false := by rfl) :
    PE Y (.Call (.Name x p) (e :: es) kws pos) (tCl K n ks.length sp sh dds E t tk) := by
  subst hK
  exact pe_c1 h r g ex ha hk hg hall hks hdb he hpl
theorem k_c0 (hK : Y.K = K) (h : OwnC CX Y.prog Y.w Y.K Y.mg Y.base k x ps n ks sh dds sp) (r : Room k Y.A) (g : Y.A.guards = some []) (ex : Passes CX Y E) (hk : PK Y kws tk) (hg : Gl Y x := by rfl)
    (hall : (backToKw pos (keywordEach kws Y.env)).all (·.1.isSome) = true := by rfl) (hks : (backToKw pos (keywordEach kws Y.env)).filterMap (·.1) = ks := by rfl) (hdb : (x == ("__debug__" : Str)) = false := by decide)
    (hpl : ((backTo pos (starEach [] Y.env)).any (·.1) || (backToKw pos (keywordEach kws Y.env)).any (·.1.isNone)) = false := by rfl) :
    PE Y (.Call (.Name x p) [] kws pos) (tCl K n ks.length sp sh dds E tNil tk) := by
  subst hK
  exact pe_c0 h r g ex hk hg hall hks hdb hpl
theorem k_cn (hK : Y.K = K) (h : OwnC CX Y.prog Y.w Y.K Y.mg Y.base k x ps n [] sh dds sp) (r : Room k Y.A) (g : Y.A.guards = some []) (ex : Passes CX Y E) (hg : Gl Y x := by rfl) (hdb : (x == ("__debug__" : Str)) = false := by decide) :
    PE Y (.Call (.Name x p) [] [] pos) (tCl K n 0 sp sh dds E tNil tNil) := by
  subst hK
  exact pe_cn h r g ex hg hdb
end
/-! ### on data -/
def eCl (n m N : Nat) (mm : List D → M D) (sh : List Src) (dds : List D) (f k : Sl → M (List D)) : Sl → M D := fun s => (f s).bind fun ds => (k s).bind fun es => if ds.length = n ∧ es.length = m ∧ sh.length = N then mm (pick3 .non sh ds dds es) else M.no
section
variable {P : Par} {n m N : Nat} {mm : List D → M D} {sh : List Src} {dds : List D} {E W : XK} {t tk : TA} {f k : Sl → M (List D)}
theorem pick_len {α : Type} {z : α} {us its ws : List α} (sh : List Src) : (pick3 z sh us its ws).length = sh.length := by unfold pick3; rw [List.length_map]
theorem j_cl (h : JA P t f) (hk : JA P tk k) : JE P (tCl P.K n m (spM P.K P.cl N mm) sh dds E t tk) (eCl n m N mm sh dds f k) := fun C s p σ H rl d p' e Q q => by
  obtain ⟨ds, p1, h1, e⟩ := M.bind_ok e
  obtain ⟨es, p2, h2, e⟩ := M.bind_ok e
  split at e
  · rename_i hn
    obtain ⟨n1, n2, n3⟩ := hn
    refine h C s p σ H rl ds _ h1 _ fun vs H1 k1 q1 r1 => ?_
    have rl1 := rl.keep k1 q1
    refine hk C s p1 σ H1 rl1 es _ h2 _ fun zs H2 k2 q2 r2 => ?_
    have rl2 := rl1.keep k2 q2
    exact ⟨r1.len.trans n1, r2.len.trans n2, fun dvs rc => ⟨P, rfl, rfl, C.O, _, p2, d, p', by rw [pick_len]; exact n3, rl.paO, rl.ca, rl2.dom, q2, pick_rvs (Rvs.ex (rl1.fz k2) ds vs r1) (rc P _ rfl) r2 sh, e, fun v H3 k3 q3 r3 => q v H3 ((k1.trans k2).trans k3) q3 r3⟩⟩
  · cases e
theorem j_clX (h : JA P t f) (hk : JA P tk k) : JE P (tCl P.K n m (spX P.K P.cl N mm) sh dds E t tk) (eCl n m N mm sh dds f k) := fun C s p σ H rl d p' e Q q => by
  obtain ⟨ds, p1, h1, e⟩ := M.bind_ok e
  obtain ⟨es, p2, h2, e⟩ := M.bind_ok e
  split at e
  · rename_i hn
    obtain ⟨n1, n2, n3⟩ := hn
    refine h C s p σ H rl ds _ h1 _ fun vs H1 k1 q1 r1 => ?_
    have rl1 := rl.keep k1 q1
    refine hk C s p1 σ H1 rl1 es _ h2 _ fun zs H2 k2 q2 r2 => ?_
    have rl2 := rl1.keep k2 q2
    exact ⟨r1.len.trans n1, r2.len.trans n2, fun dvs rc => .inl ⟨P, rfl, rfl, C.O, _, p2, d, p', by rw [pick_len]; exact n3, rl.paO, rl.ca, rl2.dom, q2, pick_rvs (Rvs.ex (rl1.fz k2) ds vs r1) (rc P _ rfl) r2 sh, e, fun v H3 k3 q3 r3 => q v H3 ((k1.trans k2).trans k3) q3 r3⟩⟩
  · cases e
theorem x_cl (h : JA P t f) (nf : Nx f) (hk : JA P tk k) (nk : Nx k) : JXE P W (tCl P.K n m (spX P.K P.cl N mm) sh dds W t tk) (eCl n m N mm sh dds f k) := fun C s p σ H rl c ks es' p' e l Q => by
  rcases M.bind_ex e with e | ⟨ds, p1, h1, e⟩
  · exact absurd e (nf s p c ks es' p')
  rcases M.bind_ex e with e | ⟨es, p2, h2, e⟩
  · exact absurd e (nk s p1 c ks es' p')
  split at e
  · rename_i hn
    obtain ⟨n1, n2, n3⟩ := hn
    refine h C s p σ H rl ds _ h1 _ fun vs H1 k1 q1 r1 => ?_
    have rl1 := rl.keep k1 q1
    refine hk C s p1 σ H1 rl1 es _ h2 _ fun zs H2 k2 q2 r2 => ?_
    have rl2 := rl1.keep k2 q2
    exact ⟨r1.len.trans n1, r2.len.trans n2, fun dvs rc => .inr ⟨P, rfl, rfl, C.O, _, p2, c, ks, es', p', by rw [pick_len]; exact n3, rl.paO, rl.ca, rl2.dom, q2, pick_rvs (Rvs.ex (rl1.fz k2) ds vs r1) (rc P _ rfl) r2 sh, e, fun dd H3 ws k3 q3 nd hd hl r3 => l dd H3 ws ((k1.trans k2).trans k3) q3 nd hd hl r3⟩⟩
  · cases e
theorem n_cl (n m N : Nat) (sh : List Src) (dds : List D) (hm : Nl mm) (h : Nx f) (hk : Nx k) : Nx (eCl n m N mm sh dds f k) := fun s => (h s).bind fun _ => (hk s).bind fun _ => by
  split
  · exact hm _
  · exact Nm.no
end
end Z
end
section
set_option Elab.async false
set_option linter.all false
set_option maxRecDepth 100000
set_option maxHeartbeats 4000000
/-! A lambda with one parameter that has a whole number as its default: f(lambda c2=0: body). -/
namespace Z
open PySem PySem.Spec PyProof.Rows L2 LamX
/-- the function's data, its defaults dv -/
abbrev lamFD (q : Str) (ar : Arguments) (bd : Expr) (sc : Scope) (cls : List (Str × Addr)) (pm cdv ct dv : Value) : FuncData := { PySem.W.kla_fn "<lambda>" q ar bd sc cls pm cdv ct with defaults := dv }
abbrev lamOD (q : Str) (ar : Arguments) (bd : Expr) (sc : Scope) (cls : List (Str × Addr)) (pm cdv ct dv : Value) : Obj := { cls := .type "function", data := .func (lamFD q ar bd sc cls pm cdv ct dv) }
section
variable {M : Model} {A : Around} {E Q : Value → Shared → Prop} {s : Shared} {q : Str} {ar : Arguments} {bd : Expr} {sc : Scope} {env : Env} {c P : Addr} {us : Array Value} {po : Pos} {ln : Nat} {mg : Str → Option Value} {cls : List (Str × Addr)} {dv : Value}
theorem tail_new (hcl : closureFor sc env = pure cls) (hge : env.globals = mainGlobals) (hg : s.heap.Ns mainGlobals mg) (hc : env.code = .ref c) (C : PySem.W.CodeHd s.heap c P) (hP : s.heap.get? P = some { cls := .none, data := .fields us }) (ht : TriplesOk us.toList)
    (hn : codeAmong po us.toList = none) (nP : mainGlobals ≠ P) (hb : s.heap.BuiltinsAt mg P)
    (h : ∀ c' ct h' tk, Heap.ExtBut P s.heap h' → s.heap.objs.size ≤ c' → c' < h'.objs.size → h'.CodeRec (.ref c') q → h'.get? P = some { cls := .none, data := .fields (us ++ #[rawInt po.line, rawInt po.col, .ref c']) } →
      Q (.ref h'.objs.size) { s with heap := h'.push (lamOD q ar bd sc cls ((mg "__name__").getD .none) (.ref c') ct dv), toks := tk }) :
    wpAny M A (makeTail "<lambda>" q ar (.expr bd) sc env dv .none none po ln) Q E s := by
  obtain ⟨m, ob, e1, e2, _, e4, e5, e6, e7, e8⟩ := hb
  unfold makeTail
  rw [hcl, hge]
  refine wpAny_bind (wpAny_pure ?_)
  cases cls with
  | nil =>
    simp only [List.isEmpty_nil, if_true]
    refine wpAny_bind (wpAny_pure (wpAny_bind (wpAny_functionCodeX hc (C.code hP ht) (C.tab hP) hn fun c' h' tk x1 x2 x3 _ x4 x5 _ => ?_)))
    have g' := hg.extBut x1 nP
    exact wpAny_bind (wpAny_builtinsFor g' e1 e2 (x1 _ _ e4 e5) e6 e7 e8 (wpAny_bind (wpAny_nsGet g' (wpAny_bind (wpAny_pure (wpAny_newObj_type (h c' .none h' tk x1 x2 x3 x4 x5.2) (by size_fits)))))))
  | cons y r =>
    simp only [List.isEmpty_cons, Bool.false_eq_true, if_false]
    have up : ∀ (oT : Obj) b o, s.heap.get? b = some o → (s.heap.push oT).get? b = some o := fun _ b o e => Heap.get?_push_of_some _ e
    refine wpAny_bind (wpAny_newTextTuple (wpAny_bind (wpAny_functionCodeX hc ((C.keeps (up _)).code (up _ _ _ hP) ht) ((C.keeps (up _)).tab (up _ _ _ hP)) hn fun c' h' tk x1 x2 x3 _ x4 x5 _ => ?_)))
    have g' := (hg.push _).extBut x1 nP
    have y1 : Heap.ExtBut P s.heap h' := fun b o hb e => x1 b o hb (up _ _ _ e)
    have y2 : s.heap.objs.size ≤ c' := Nat.le_trans (by rw [Heap.size_push]; omega) x2
    exact wpAny_bind (wpAny_builtinsFor g' e1 e2 (y1 _ _ e4 e5) e6 e7 e8 (wpAny_bind (wpAny_nsGet g' (wpAny_bind (wpAny_pure (wpAny_newObj_type (h c' _ h' tk y1 y2 x3 x4 x5.2) (by size_fits)))))))
theorem tail_hit {cv : Value} (hcl : closureFor sc env = pure cls) (hge : env.globals = mainGlobals) (hg : s.heap.Ns mainGlobals mg) (hc : env.code = .ref c) (C : PySem.W.CodeHd s.heap c P) (hP : s.heap.get? P = some { cls := .none, data := .fields us }) (ht : TriplesOk us.toList)
    (hf : codeAmong po us.toList = some cv) (hb : s.heap.BuiltinsAt mg P)
    (h : ∀ (ct : Value) (h' : Heap) (tk : Tok), (∀ b o, s.heap.get? b = some o → h'.get? b = some o) → s.heap.objs.size ≤ h'.objs.size → Q (.ref h'.objs.size) { s with heap := h'.push (lamOD q ar bd sc cls ((mg "__name__").getD .none) cv ct dv), toks := tk }) :
    wpAny M A (makeTail "<lambda>" q ar (.expr bd) sc env dv .none none po ln) Q E s := by
  obtain ⟨m, ob, e1, e2, _, e4, e5, e6, e7, e8⟩ := hb
  unfold makeTail
  rw [hcl, hge]
  refine wpAny_bind (wpAny_pure ?_)
  cases cls with
  | nil =>
    simp only [List.isEmpty_nil, if_true]
    exact wpAny_bind (wpAny_pure (wpAny_bind (wpAny_functionCode_hit hc (C.code hP ht) hf (wpAny_bind (wpAny_builtinsFor hg e1 e2 e5 e6 e7 e8 (wpAny_bind (wpAny_nsGet hg (wpAny_bind (wpAny_pure (wpAny_newObj_type (h .none s.heap s.toks (fun _ _ e => e) (Nat.le_refl _)) (by size_fits)))))))))))
  | cons y r =>
    simp only [List.isEmpty_cons, Bool.false_eq_true, if_false]
    have up : ∀ (oT : Obj) b o, s.heap.get? b = some o → (s.heap.push oT).get? b = some o := fun _ b o e => Heap.get?_push_of_some _ e
    refine wpAny_bind (wpAny_newTextTuple (wpAny_bind (wpAny_functionCode_hit hc ((C.keeps (up _)).code (up _ _ _ hP) ht) hf (wpAny_bind (wpAny_builtinsFor (hg.push _) e1 e2 (up _ _ _ e5) e6 e7 e8 (wpAny_bind (wpAny_nsGet (hg.push _) (wpAny_bind (wpAny_pure (wpAny_newObj_type (h _ _ s.toks (up _) ?_) (by size_fits)))))))))))
    rw [Heap.size_push]
    omega
end
/-- the names of a lambda: its parameters, which nobody around has; captured ones and globals -/
structure LamP (N : List Str) (so sc : Scope) : Prop where
  kind : sc.kind = .function
  co : sc.isCoroutine = false
  gen : sc.isGenerator = false
  own : ∀ y ∈ sc.names, y.2 ≠ .cell
  off : ∀ y ∈ N, sc.names.lookup y ≠ some .local
  free : ∀ y ∈ sc.names, y.2 = .free → so.names.lookup y.1 = some .cell ∨ so.names.lookup y.1 = some .free
def lamPB (N : List Str) (so sc : Scope) : Bool :=
  decide (sc.kind = .function) && !sc.isCoroutine && !sc.isGenerator && (sc.names.all fun y => !decide (y.2 = .cell) && (!decide (y.2 = .free) || decide (so.names.lookup y.1 = some .cell) || decide (so.names.lookup y.1 = some .free))) && N.all fun y => !decide (sc.names.lookup y = some .local)
theorem lamP_by {N : List Str} {so sc : Scope} (h : lamPB N so sc = true) : LamP N so sc := by
  unfold lamPB at h
  simp only [Bool.and_eq_true, Bool.or_eq_true, Bool.not_eq_true', decide_eq_true_eq, decide_eq_false_iff_not, List.all_eq_true] at h
  obtain ⟨⟨⟨⟨a1, a2⟩, a3⟩, a4⟩, a5⟩ := h
  refine ⟨a1, a2, a3, fun y hy => (a4 y hy).1, a5, fun y hy e => ?_⟩
  rcases (a4 y hy).2 with (z | z) | z
  · exact absurd e z
  · exact .inl z
  · exact .inr z
section
variable {X : Cx} {pins : List (Addr × Obj)} {σ : L2.St} {H HZ : Hp} {s s1 : Shared}
theorem LamP.has {N : List Str} {sc : Scope} (L : LamP N X.env.scope sc) (ok : X.Ok) : ∀ y ∈ sc.names, y.2 = .free → ∃ c, X.env.cells.lookup y.1 = some c := fun y hy e => ok.has _ ((L.free y hy e).elim .inl .inr)
theorem lamP_start {A : Around} {ou : List Env} {E : XK} {sc : Scope} {f d : Addr} {h1 : Heap} {tk : Nat} {bs : List (Str × Value)} (J : Inv X pins σ H s) (L : LamP X.N X.env.scope sc) (e0 : Env0 X.prog X.w X.K X.mg X.base A ou s1 HZ) (hd : A.handled = none)
    (un : Un (frs X.stack) [] H HZ s.heap s1.heap) (hns : h1.Ns s1.heap.objs.size fun y => bs.reverse.lookup y) (kp : ∀ b o, s1.heap.get? b = some o → h1.get? b = some o) :
    Inv (lamCx X A ou s1 HZ E sc f d) [] σ HZ { s1 with heap := h1, toks := tk } := by
  have hfr := L.has J.ok
  have up : ∀ {y c}, (cloFrom X.env.cells sc.names []).lookup y = some c → X.env.cells.lookup y = some c := fun {y c} e => by
    rcases cloFrom_mem (PySem.mem_of_lookup e) with hm | ⟨h1, h2⟩
    · cases hm
    · obtain ⟨c1, hc⟩ := hfr _ h1 rfl
      have hc : X.env.cells.lookup y = some c1 := hc
      rw [show c = c1 by rw [h2, hc] <;> rfl]
      exact hc
  have look : ∀ {y}, sc.names.lookup y = some .free → ∃ c, (cloFrom X.env.cells sc.names []).lookup y = some c := fun {y} hl => mem_lookup (cloFrom_has (cells := X.env.cells) (acc := []) (show (y, NameKind.free) ∈ sc.names from PySem.mem_of_lookup hl))
  have ck : ∀ {c : Addr} {v : Option Value}, H c = none → s.heap.IsCell c v → h1.IsCell c v := fun {c v} n ⟨o, ho, hd⟩ => by
    obtain ⟨sl, z⟩ := un.any ho n (by simp)
    exact ⟨_, kp _ _ z, hd⟩
  have no : ∀ b : Addr, b ∉ (lamCx X A ou s1 HZ E sc f d).ex := fun b z => absurd (show b ∈ ([] : List Addr) from z) (by simp)
  refine ⟨⟨e0.mod, L.kind, rfl, rfl, Nat.le_refl _, fun y z c e1 e2 => J.ok.inj y z c (up e1) (up e2), fun y hy => ?_, fun y c z _ => ?_, fun _ => hd, Around.frames_deeper e0.frames, .inr ⟨rfl, rfl⟩, fun b z => absurd z (no b), e0.bs, e0.bsz, fun b _ _ => no b,
      fun b z => absurd z (no b), e0.funs, e0.frf⟩,
    rfl, e0.bare, Un.kept kp, ⟨_, hns, fun i y v e1 e2 e3 => ?_⟩, fun y c e => ?_, e0.hok.fresh (Nat.le_refl _), fun y c e => ?_, fun q hq => absurd (show q ∈ ([] : List (Addr × Obj)) ++ [] from hq) (by simp), e0.hok.kept kp, J.len⟩
  · rcases (show sc.names.lookup y = some .cell ∨ sc.names.lookup y = some .free from hy) with hy | hy
    · exact absurd rfl (L.own _ (PySem.mem_of_lookup hy))
    · exact look hy
  · cases (show false = true from z)
  · rcases (show Vis sc y from e3) with k | k | k
    · exact absurd k (L.off _ (List.mem_of_getElem? (show X.N[i]? = some y from e1)))
    · exact absurd rfl (L.own _ (PySem.mem_of_lookup k))
    · obtain ⟨m, _, hl⟩ := J.loc
      have vis : Vis X.env.scope y := (L.free _ (PySem.mem_of_lookup k) rfl).elim (fun k => .inr (.inl k)) (fun k => .inr (.inr k))
      obtain ⟨w', r, z⟩ := hl i y v e1 e2 vis
      obtain ⟨c2, h2⟩ := look k
      refine ⟨w', r, .inr ⟨.inr k, c2, h2, ?_⟩⟩
      have c1 := up h2
      rcases z with ⟨k', _⟩ | ⟨_, c3, e', z⟩
      · have k' : X.env.scope.names.lookup y = some .local := k'
        rcases L.free _ (PySem.mem_of_lookup k) rfl with k2 | k2 <;> rw [show X.env.scope.names.lookup y = _ from k2] at k' <;> cases k'
      · rw [c1] at e'
        cases e'
        exact ck (J.freeC y _ c1) z
  · obtain ⟨w', z⟩ := J.cell y c (up e)
    exact ⟨w', ck (J.freeC y c (up e)) z⟩
  · obtain ⟨v, o, ho, hd⟩ := J.cell y c (up e)
    exact un.free c o ho (J.freeC y c (up e)) (by simp)
/-- where the defaults stand -/
def DfT (t : Addr) (u : Value) (s : Shared) : Prop := s.heap.get? t = some { cls := .type "tuple", data := .seq #[u] }
abbrev lamOd (X : Cx) (ar : Arguments) (bd : Expr) (sc : Scope) (pm : Value) (d : Addr) (cv : Value) (t : Addr) : Obj := lamOD (lq X) ar bd sc (cloFrom X.env.cells sc.names []) pm (.ref d) cv (.ref t)
theorem lamD_new {T : List (Addr × Str)} {c P : Addr} {ar : Arguments} {bd : Expr} {sc : Scope} {po pd : Pos} {k : Nat} {i : Int} {E Q : Value → Shared → Prop} (J : Inv X pins σ H s) (tb : TabB X.base X.mg c P) (hcd : X.env.code = .ref c)
    (mem : (P, lq X) ∈ T) (one : ∀ y ∈ T, y.1 = P → y.2 = lq X) (tt : Tabs T H) (hdf : defaultsOf ar X.env = ([eval (.Constant (.int i) k pd) X.env], [])) (fr : ∀ y ∈ sc.names, y.2 = .free → ∃ c, X.env.cells.lookup y.1 = some c)
    (h : ∀ (f d t : Addr) (u pm cv : Value) (H1 : Hp) (s1 : Shared), Inv X pins σ H1 s1 → (∀ b o, b ≠ P → H b = some o → H1 b = some o) → Tabs T H1 → s1.heap.get? f = some (lamOd X ar bd sc pm d cv t) → H1 f = none → f ∉ frs X.stack → DfT t u s1 → H1 t = none → t ∉ frs X.stack → H1 d = some (CodeO d (lq X)) → Q (.ref f) s1) :
    wpAny (model X.prog X.w) X.A (eval (.Lambda ar bd sc po) X.env) Q E s := by
  rw [arm_eval_Lambda, hdf]
  show wpAny _ _ (do let dv ← evalAll [eval (.Constant (.int i) k pd) X.env]; let kdv ← holding dv (evalAllOpt []); makeFunction "<lambda>" (lq X) ar (.expr bd) sc X.env dv kdv [] po po.line) Q E s
  refine wpAny_bind ?_
  unfold evalAll
  refine wpAny_bind (thn ((pe_int (i := i) (j := k) (pos := pd)).run pins s σ H (fun v G => v = .int i ∧ G = H) J ⟨rfl, rfl⟩) fun u s0 z => ?_)
  obtain ⟨v, G, Jn, rv, ev, eG⟩ := z
  subst ev
  subst eG
  clear J
  have J := Jn
  clear Jn
  refine wpAny_bind (wpAny_holding (wpAny_pure (wpAny_pure (wpAny_bind (wpAny_holding (wpAny_pure ?_))))))
  rw [makeFunction_eq]
  simp only [List.zip_nil_right, List.filterMap_nil, List.isEmpty_nil, List.isEmpty_cons, Bool.false_eq_true, if_false, if_true, pure_bind]
  refine wpAny_bind (wpAny_newTextTuple ?_)
  have lt0 := J.lt
  have out0 : ∀ f, s0.heap.objs.size ≤ f → f ∉ frs X.stack := fun f hf z => by
    rcases List.mem_cons.mp (J.stkSub _ z) with e | e
    · rw [← e] at lt0
      exact Nat.lt_irrefl _ (Nat.lt_of_lt_of_le lt0 hf)
    · exact J.nofs hf e
  have fr0 : ∀ f, s0.heap.objs.size ≤ f → G f = none := fun f hf => J.hok.fresh hf
  have t0 : (s0.heap.push { cls := .type "tuple", data := .seq [u].toArray }).get? s0.heap.objs.size = some { cls := .type "tuple", data := .seq #[u] } := Heap.get?_push_size _ rfl
  have J' : Inv X pins σ G { s0 with heap := s0.heap.push { cls := .type "tuple", data := .seq [u].toArray } } := J.kept fun b o e => Heap.get?_push_of_some _ e
  have szp : (s0.heap.push { cls := .type "tuple", data := .seq [u].toArray }).objs.size = s0.heap.objs.size + 1 := Heap.size_push ..
  generalize ht : s0.heap.objs.size = t at t0 out0 fr0 szp
  generalize hs : ({ s0 with heap := s0.heap.push { cls := .type "tuple", data := .seq [u].toArray } } : Shared) = s2 at J'
  have hs2 : s0.heap.push { cls := .type "tuple", data := .seq [u].toArray } = s2.heap := by rw [← hs]
  rw [hs2] at t0 szp
  clear hs hs2 J
  have nt : t ∉ frs X.stack := out0 t (Nat.le_refl _)
  have ft : G t = none := fr0 t (Nat.le_refl _)
  obtain ⟨us, eP, tr, am⟩ := tt _ mem
  have bP : s2.heap.BuiltinsAt X.mg P := tb.bm.keeps J'.bk
  have atP : s2.heap.get? P = some { cls := .none, data := .fields us } := J'.hok P _ eP
  have out : ∀ f, s2.heap.objs.size ≤ f → f ∉ frs X.stack := fun f hf => out0 f (by omega)
  have tP : t ≠ P := fun z => by rw [z, eP] at ft; cases ft
  cases hc : codeAmong po us.toList with
  | none =>
    refine tail_new (mg := X.mg) (c := c) (P := P) (us := us) (closure_ok fr) J'.ok.glob (J'.mod.glob.keeps J'.bk) hcd (tb.code.keeps J'.bk) atP tr hc tb.gP bP fun d cv h1 tk k1 ge lt rc ht1 => ?_
    obtain ⟨d2, od, vs, t2, e2, hod, hdd, hvs⟩ := rc
    cases e2
    have big : s2.heap.objs.size ≤ h1.objs.size := Nat.le_trans ge (Nat.le_of_lt lt)
    have nd : G d = none := J'.hok.fresh ge
    have J1 := inv_table (t' := tk) (more := #[rawInt po.line, rawInt po.col, .ref d]) (h' := h1.push (lamOd X ar bd sc ((X.mg "__name__").getD .none) d cv t)) J' eP (fun b o hb e => Heap.get?_push_of_some _ (k1 b o hb e)) (Heap.get?_push_of_some _ ht1) ge ⟨od, vs, t2, Heap.get?_push_of_some _ hod, hdd, hvs⟩
    have kp : ∀ b o, b ≠ P → G b = some o → upd (upd G P (.tbl (us ++ #[rawInt po.line, rawInt po.col, .ref d]))) d (CodeO d (lq X)) b = some o := fun b o n e => by rw [upd_ne (ne_of_none e nd), upd_ne n]; exact e
    have kc : ∀ b y, G b = some (CodeO b y) → upd (upd G P (.tbl (us ++ #[rawInt po.line, rawInt po.col, .ref d]))) d (CodeO d (lq X)) b = some (CodeO b y) := fun b y e => kp b _ (fun z => by
      rw [z, eP] at e
      exact codeO_ne us (Option.some.inj e).symm) e
    have tlt : t < s2.heap.objs.size := Heap.lt_size t0
    refine h h1.objs.size d t u ((X.mg "__name__").getD .none) cv _ _ J1 kp (fun y hy => ?_) (Heap.get?_push_size _ rfl) ?_ (out _ big) (Heap.get?_push_of_some _ (k1 t _ tP t0)) ?_ nt upd_same
    · by_cases hb : y.1 = P
      · rw [one y hy hb, hb]
        have eL : (us ++ #[rawInt po.line, rawInt po.col, .ref d]).toList = us.toList ++ [rawInt po.line, rawInt po.col, .ref d] := by simp
        refine ⟨_, by rw [upd_ne (ne_of_none eP nd), upd_same], by rw [eL]; exact TriplesOk_snoc _ _ _ _ tr, fun p2 v2 hv2 => ?_⟩
        rw [eL] at hv2
        rcases among_app _ tr hv2 with z | z
        · obtain ⟨c0, e1, e2⟩ := am p2 v2 z
          exact ⟨c0, e1, kc _ _ e2⟩
        · exact ⟨d, z, upd_same⟩
      · obtain ⟨ws, a1, a2, a3⟩ := tt y hy
        refine ⟨ws, kp _ _ hb a1, a2, fun p2 v2 hv2 => ?_⟩
        obtain ⟨c0, e1, e2⟩ := a3 p2 v2 hv2
        exact ⟨c0, e1, kc _ _ e2⟩
    · rw [upd_ne (Nat.ne_of_gt lt), upd_ne (Nat.ne_of_gt (Nat.lt_of_lt_of_le (Heap.lt_size atP) big))]
      exact J'.hok.fresh big
    · rw [upd_ne (Nat.ne_of_lt (Nat.lt_of_lt_of_le tlt ge)), upd_ne tP]
      exact ft
  | some cv =>
    obtain ⟨d, e, hco⟩ := am po cv hc
    subst e
    refine tail_hit (mg := X.mg) (c := c) (P := P) (us := us) (closure_ok fr) J'.ok.glob (J'.mod.glob.keeps J'.bk) hcd (tb.code.keeps J'.bk) atP tr hc bP fun cv2 h1 tk k1 big => ?_
    have J1 : Inv X pins σ G { s2 with heap := h1.push (lamOd X ar bd sc ((X.mg "__name__").getD .none) d cv2 t), toks := tk } := J'.kept fun b o e => Heap.get?_push_of_some _ (k1 b o e)
    exact h h1.objs.size d t u ((X.mg "__name__").getD .none) cv2 G _ J1 (fun _ _ _ e => e) tt (Heap.get?_push_size _ rfl) (J'.hok.fresh big) (out _ big) (Heap.get?_push_of_some _ (k1 _ _ t0)) ft nt hco
/-- a(), in the def that got the lambda -/
theorem actD_g {E0' E : XK} {Ng : List Str} {qg y0 : Str} {sg sc : Scope} {f0 f d t : Addr} {u cd0 pm cv : Value} {ar : Arguments} {bd : Expr} {k i : Nat} {a : Str} {pn : List (Addr × Obj)} {xe : Value → Shared → Prop} {W : WX} {tb : TE} {p1 p2 : Pos}
    (J : Inv X pins σ H s) (L : LamP X.N X.env.scope sc) (hf : s.heap.get? f = some (lamOd X ar bd sc pm d cv t)) (nf : H f = none) (nr : f ∉ frs X.stack) (hdt : DfT t u s) (nt : H t = none) (nrt : t ∉ frs X.stack)
    (bd0 : ∃ k, bindArgs (lamFD (lq X) ar bd sc (cloFrom X.env.cells sc.names []) pm (.ref d) cv (.ref t)) ⟨[], []⟩ = seqItems? (.ref t) >>= k ∧ k (some #[u]) = pure [(y0, u)]) (hy : sc.names.lookup y0 = some .local)
    (tk : Takes ((cxOf C8.CX0 X.prog X.w X.K X.mg X.base Ng qg sg f0 cd0 X.A X.stack s H E0').tr pn xe) W) (hW : ∀ c y z G, E c y G → W c y z G) (hr : Room (k + 1) (X.A.deeper (envOfC qg sg s.heap.objs.size f0 cd0))) (hg : X.A.guards = some [])
    (body : ∀ (A : Around) (ou : List Env) (s : Shared) (H : Hp), Room k (A.deeper (lamEnv X sc s.heap.objs.size f d)) → (A.deeper (lamEnv X sc s.heap.objs.size f d)).guards = some [] → PE (lamCx X A ou s H E sc f d) bd tb)
    (hN : Ng[i]? = some a) (hv : Vis sg a) (h1 : (a == ("__debug__" : Str)) = false := by decide) (h2 : (a == ("__classdict__" : Str)) = false := by decide) :
    PE ((cxOf C8.CX0 X.prog X.w X.K X.mg X.base Ng qg sg f0 cd0 X.A X.stack s H E0').tr pn xe) (.Call (.Name a p1) [] [] p2) (fun y G Q => y[i]? = some (some (.ref f)) ∧ G d = some (CodeO d (lq X)) ∧ tb σ G Q) := by
  refine ⟨fun pz sz y G Q JZ z => ?_⟩
  obtain ⟨at0, hco, ht⟩ := z
  refine wpAny_Call_Name_kw (thn ((pe_var (pos := p1) (i := i) hN hv h1 h2).run pz sz y G (fun v G1 => v = .ref f ∧ G1 = G) JZ ⟨.ref f, at0, rfl, rfl⟩) fun u2 s2 w => ?_)
  obtain ⟨v, G1, J1, r1, rfl, rfl⟩ := w
  obtain rfl : u2 = Value.ref f := r1
  have at1 := J1.base.keep f _ hf nf nr (fun z => nomatch (show f ∈ ([] : List Addr) from z))
  have at2 := J1.base.keep t _ hdt nt nrt (fun z => nomatch (show t ∈ ([] : List Addr) from z))
  refine PySem.W.callWith_F0 ⟨_, _, _, _, at1⟩ ?_
  obtain ⟨⟨od, vs, tt, e1, e2, e3⟩, _, _⟩ := J1.hok d _ hco
  have run : codeAny (model X.prog X.w) (X.A.deeper (envOfC qg sg s.heap.objs.size f0 cd0)) (.call (.ref f) ⟨[], []⟩) (CR (L2.CX X.prog X.w) (envOfC qg sg s.heap.objs.size f0 cd0 :: X.stack) X.prog X.w G1 s2 Q E) s2 := by
    refine PySem.W.kla_callFunE hr.depth at1 rfl L.co L.gen rfl ⟨d, od, vs, tt, rfl, e1, e2, e3⟩ ?_
    obtain ⟨k1, b1, b2⟩ := bd0
    refine (BindsTo.of_defaults (T := t) rfl at2 rfl b1 b2) _ _ _ _ ?_
    refine wpAny_newFunctionEnv (fun b hb => L.own b hb) (fun b hb => ?_) (fun hp hns hs => ⟨J1.nolimit.fresh _ hs, ?_⟩) L.kind
    · rw [List.mem_singleton.mp hb]
      exact hy
    show codeAny _ _ (.expr bd (lamEnv X sc s2.heap.objs.size f d)) _ _
    have J2 := lamP_start (E := E) (f := f) (d := d) (tk := s2.toks + ([(y0, u)] : List (Str × Value)).length) J L J1.env0 hr.hd J1.base hns fun b o e => hs.extBut b o (Nat.ne_of_lt (Heap.lt_size e)) (Heap.get?_push_of_some _ e)
    refine PySem.W.kla_codeExpr (wpAny_mono ((body _ _ s2 G1 (hr.deeper _) hg).run [] _ _ G1 Q J2 ht) (fun v sv hq => ?_) fun e se hq => hq)
    obtain ⟨v', G2, J3, rv, q⟩ := hq
    exact ⟨v', G2, J3.os, J3.bare, J3.base, J3.hok, rv, q⟩
  refine wpAny_call (codeAny_mono run fun r sr hq => ?_)
  match r, hq with
  | .error e, hq => exact passes_call tk hW pz y G1 s2 e sr J1 hq
  | .ok (.ret u), hq => exact J1.after hq
  | .ok .next, hq => exact False.elim hq
  | .ok .brk, hq => exact False.elim hq
  | .ok .cont, hq => exact False.elim hq
/-- x(lambda y0=i: body) -/
theorem pe_lamZD {T : List (Addr × Str)} {TT : (XK → Hp → VK → Prop) → Hp → VK → Prop} {x a y0 : Str} {g c P : Addr} {k kd : Nat} {i : Int} {st : Stmt} {fd : FuncData} {Ng : List Str} {ar : Arguments} {bd : Expr} {sc : Scope} {t : XK → TE} {p po pos pd : Pos}
    (F : Fun X.K x x st g fd) (hg : Gl X x) (hm : X.mg x = some (.ref g)) (hb : L2.Binds X.K fd [a] []) (Sg : FnScope Ng [a] (defScope st)) (hN : Ng[0]? = some a) (hv : Vis (defScope st) a)
    (hG : ∀ cd, GivesTo X Ng x (defScope st) g cd (defBody st) a (lq X) TT)
    (tb : TabB X.base X.mg c P) (hcd : X.env.code = .ref c) (mem : (P, lq X) ∈ T) (one : ∀ y ∈ T, y.1 = P → y.2 = lq X) (hr : Room (k + 2) X.A) (gd : X.A.guards = some []) (L : LamP X.N X.env.scope sc) (hdf : defaultsOf ar X.env = ([eval (.Constant (.int i) kd pd) X.env], []))
    (hbind : ∀ (q : Str) (cl : List (Str × Addr)) (pm cv ctv u : Value) (t : Addr), ∃ k, bindArgs (lamFD q ar bd sc cl pm cv ctv (.ref t)) ⟨[], []⟩ = seqItems? (.ref t) >>= k ∧ k (some #[u]) = pure [(y0, u)]) (hy : sc.names.lookup y0 = some .local)
    (body : ∀ (A : Around) (ou : List Env) (s : Shared) (H : Hp) (E : XK) (f d : Addr), Room k (A.deeper (lamEnv X sc s.heap.objs.size f d)) → (A.deeper (lamEnv X sc s.heap.objs.size f d)).guards = some [] → PE (lamCx X A ou s H E sc f d) bd (t E))
    (hdb : (x == ("__debug__" : Str)) = false := by decide) (h1 : (a == ("__debug__" : Str)) = false := by decide) (h2 : (a == ("__classdict__" : Str)) = false := by decide) :
    PE X (.Call (.Name x p) [.Lambda ar bd sc po] [] pos) (tLamZ P T TT t) := by
  obtain ⟨oc, od, kV, doc, pm, an, cd, ct, osl, rfl, lk, hcdg⟩ := F.ex
  refine ⟨fun pins s σ H Q J z => ?_⟩
  obtain ⟨hT, z⟩ := z
  refine wpAny_Call_Name_kw (ld_glob J hg hm ?_ hdb)
  refine PySem.W.callWith_K (h₀ := X.base) J.ok.mod.kin F.kp ?_ (by rfl) (by rfl)
  show wpAny _ _ (spliced ((false, eval (.Lambda ar bd sc po) X.env) :: backTo pos (starEach [] X.env))) _ _ s
  refine Calls.spliced_cons (lamD_new J tb hcd mem one hT hdf (L.has J.ok) fun f d t0 u pm2 cv H1 s1 J1 kp T1 hf nf nr hdt nt nrt hco => ?_)
  refine Calls.spliced_nil ⟨J1.kIn, ?_⟩
  have run : codeAny (model X.prog X.w) X.A (.call (.ref g) ⟨[.ref f], []⟩) (CR C8.CX0 X.stack X.prog X.w H1 s1 Q C8.E0) s1 := by
    refine run_ofS (N := Ng) (ps := [a]) (us := [.ref f]) (vs := [.ref f]) lk hcdg Sg hr J1.env0 (hb s1 [.ref f] J1.kIn rfl) (.cons rfl .nil) rfl fun hr2 => ?_
    obtain ⟨t1, ht1, q1⟩ := hG cd f d s1 H1 Q (fun E H' Q' => t E σ H' Q') (fun W pn xe E p1 p2 tk hW => actD_g (i := 0) J1 L hf nf nr hdt nt nrt (hbind _ _ _ _ _ _ _) hy tk hW hr2 gd (fun A ou s H hr3 gd3 => body A ou s H E f d hr3 gd3) hN hv h1 h2) hco (z H1 kp T1)
    exact ⟨t1, ht1.nox, q1⟩
  refine wpAny_call (codeAny_mono run fun r sr hq => ?_)
  match r, hq with
  | .error e, hq => exact (show False from hq).elim
  | .ok (.ret u), hq => exact J1.after hq
  | .ok .next, hq => exact False.elim hq
  | .ok .brk, hq => exact False.elim hq
  | .ok .cont, hq => exact False.elim hq
end
end Z
end
section
set_option Elab.async false
set_option linter.all false
set_option maxRecDepth 100000
set_option maxHeartbeats 2000000
/-! Z: the written part's facts of defs with defaults; str(n), {}, walks with K named. -/
namespace Z
open PySem PySem.Spec L2 PyProof.Rows
open Evl (Ex)
def DefKD (K : PySem.W.Frag) (x : Str) (st : Stmt) (dds : List D) : Prop := ∃ f fd, DefD K x x st dds f fd ∧ PySem.W.nsIn K mainGlobals x = some (some (.ref f)) ∧ PySem.W.keepIn K (.ref f) = true
theorem DefKD.mk0 {K : PySem.W.Frag} {x : Str} {st : Stmt} {f : Addr} {oc : Value} {od : Option Addr} {kV doc pm : Value} {an : Option Addr} {cd ct : Value} {sl : Array (Option Value)}
    (a : PySem.W.nsIn K mainGlobals x = some (some (.ref f))) (l : K.lookup f = some ⟨oc, od, .func (PySem.W.fnOf x x (defArgs st) (defBody st) (defScope st) .none kV doc pm an cd ct), sl⟩) (c : PySem.W.codeIn K cd x = true) (k : PySem.W.keepIn K (.ref f) = true) : DefKD K x st [] :=
  ⟨f, _, .of (fun_mk l c k), a, k⟩
theorem DefKD.mkD {K : PySem.W.Frag} {x : Str} {st : Stmt} {f T : Addr} {oc oc2 : Value} {od od2 : Option Addr} {kV doc pm : Value} {an : Option Addr} {cd ct : Value} {sl sl2 : Array (Option Value)} {vs : Array Value} {n : Nat} {dvs : List V} {dds : List D}
    (a : PySem.W.nsIn K mainGlobals x = some (some (.ref f))) (l : K.lookup f = some ⟨oc, od, .func (PySem.W.fnOf x x (defArgs st) (defBody st) (defScope st) (.ref T) kV doc pm an cd ct), sl⟩) (c : PySem.W.codeIn K cd x = true) (k : PySem.W.keepIn K (.ref f) = true)
    (lT : K.lookup T = some ⟨oc2, od2, .seq vs n, sl2⟩) (r : Vals dvs vs.toList) (ne : dvs ≠ []) (rc : RvC K dds dvs) : DefKD K x st dds :=
  ⟨f, _, ⟨dvs, ⟨⟨oc, od, .ref T, kV, doc, pm, an, cd, ct, sl, rfl, l, c, .inr ⟨ne, T, _, vs.toList, n, rfl, lT, rfl, r⟩, .inl rfl⟩, k⟩, rc⟩, a, k⟩
theorem DefKD.inn {K : PySem.W.Frag} {x : Str} {st : Stmt} {dds : List D} {h : Heap} {mg : Str → Option Value} (X : K.In h) (G : h.Ns mainGlobals mg) (d : DefKD K x st dds) : DefInD K mg x st dds := by
  obtain ⟨f, fd, F, a, k⟩ := d
  exact ⟨f, fd, F, PySem.W.mg_of X G a, k⟩
/-- a def that lets nothing out -/
theorem own_q0 {Pg : Program} {w : World} {K : PySem.W.Frag} {mg : Str → Option Value} {base : Heap} {k : Nat} {x : Str} {st : Stmt} {ps N : List Str} {sp : Sp} {dds : List D} (h : DefInD K mg x st dds) (T : FnScope N ps (defScope st)) (ln : ∀ vs H Q E, sp vs H Q E → vs.length = ps.length)
    (hb : ∀ (f : Addr) (cd : Value) (A : Around) (ou : List Env) (s : Shared) (H : Hp) (vs : List V) (Q : VK) (E : XK), Room k (A.deeper (envOfC x (defScope st) s.heap.objs.size f cd)) → A.guards = some [] → sp vs H Q E →
      ∃ t, PSs (cxOf CX0 Pg w K mg base N x (defScope st) f cd A ou s H E).nox (defBody st) t ∧ t { nx := fun _ H' => Q .non H', rt := Q } (L2.start N vs) H) : OwnQ CX0 Pg w K mg base (k + 1) x st ps dds sp :=
  own_q h T ln fun f cd A ou s H vs Q E r g q => let ⟨t, h1, h2⟩ := hb f cd A ou s H vs Q E r g q; ⟨t, h1.nox, h2⟩
section
variable {P : Par}
/-! str(n) -/
def dStrI : List D → Option D
  | [.int i] => if decide (i.natAbs.log2 < 1920) = true then some (.str (toString i)) else none
  | _ => none
theorem jc_strI : JC P (fun xs H Q => ∃ i : Int, xs = [.int i] ∧ i.natAbs.log2 < 1920 ∧ Q (.str (toString i)) H) dStrI := fun O H xs ds hp hd r d h Q q => by
  match ds, h with
  | [.int i], h =>
    unfold dStrI at h
    dsimp only at h
    split at h
    · rename_i hz
      cases h
      obtain ⟨v, r', rfl, h1, h3⟩ := r
      cases h3
      exact ⟨i, by rw [show v = _ from h1], of_decide_eq_true hz, q _ H (Evl.Ex.refl H) rfl⟩
    · cases h
/-! {} -/
theorem j_dnew : JE P tDNewK (eC (.dic [] [])) := fun C s p σ H r d p' e Q q => by
  cases e
  exact fun a ha => q _ _ (.new ha) (r.pen.keepNew ha) ⟨a, [], rfl, fz_new r.dom ha, rfl, rfl⟩
end
section
variable {X : Cx} {K : PySem.W.Frag} {e e2 : Expr} {ta : TA} {p pos tpos : Pos} {elts : List Expr} {kk : Nat}
theorem k_piEnum (h : X.K = K) (hg : Gl X "enumerate") (hm : X.mg "enumerate" = none) (ha : PA X [e] ta) (hs : starEach [e] X.env = [(false, eval e X.env)] := by rfl) : PI X (.Tuple elts kk tpos) (.Call (.Name "enumerate" p) [e] [] pos) (iEnum K ta) := h ▸ pi_enum hg hm ha hs
theorem k_piZip (h : X.K = K) (hg : Gl X "zip") (hm : X.mg "zip" = none) (ha : PA X [e, e2] ta) (hs : starEach [e, e2] X.env = (false, eval e X.env) :: starEach [e2] X.env := by rfl) (hpl : (backTo pos (starEach [e2] X.env)).any (·.1) = false := by rfl) :
    PI X (.Tuple elts kk tpos) (.Call (.Name "zip" p) [e, e2] [] pos) (RZ.iZipA K ta) := h ▸ RZ.pi_zipA hg hm ha hs hpl
end
section
variable {P : Par} {W : XK} {te : TE} {fe : Sl → M D}
/-- a call that raises, within a return, an assignment, a statement: x_ret, x_asg, x_drop. A test -/
def JXT (P : Par) (W : XK) (tt : TT) (f : Sl → M Bool) : Prop := ∀ C s p σ H, Rel P C s p σ H → ∀ c ks ds p', f s p = .ex c ks ds p' → PostX P C H c ks ds p' W → ∀ Q, tt σ H Q
end
end Z
end
section
set_option Elab.async false
set_option linter.all false
set_option maxRecDepth 100000
set_option maxHeartbeats 2000000
/-! Z: a, b = e, [..]: b an own list. -/
namespace Z
open PySem L2
open Evl (Ex)
section
variable {P : Par}
theorem Rel.take {C : Fr} {s : Sl} {p p' : Pen} {σ : L2.St} {H H' : Hp} {a : Addr} {vs : List V} {ds : List D} (r : Rel P C s p σ H) (hn : H a = none) (k : Keep P H H') (q' : PenAt P H' p') (ha : H' a = some (.lst vs)) (rv : Rvs P (hid (fun l => C.O l ∨ l = a) H') ds vs) (i : Nat) :
    Rel P { C with O := fun l => C.O l ∨ l = a } (s.set i (.ow ds)) p' (σ.set i (some (.ref a))) H' := by
  have r' : Rel P C s p' σ H' := r.keep k q'
  have n0 : C.H0 a = none := by
    cases e : C.H0 a with
    | none => rfl
    | some o =>
      by_cases y : P.hot a
      · obtain ⟨u, y⟩ := r.pen.hot y; rw [y] at hn; cases hn
      · rw [r.base a o y e] at hn; cases hn
  have up := (r.goOw hn k).fz
  have na : ∀ l, C.O l → l ≠ a := fun l z e => r.free hn (e ▸ z)
  exact
    { len := by rw [List.length_set, List.length_set]; exact r.len
      pa := r.pa, ca := (fun z => z.elim r.ca fun e => by have q := r.pen.2.2.1; rw [e, hn] at q; cases q), ca0 := r.ca0, pen := q'
      dom := fun l hl => by
        rcases hl with hl | hl
        · exact r'.dom l hl
        · subst hl; exact ⟨_, ha⟩
      dom0 := r.dom0, base := r'.base, sub := fun l hl => .inl (r.sub l hl)
      im := fun j e h => by
        rcases set_get h with ⟨_, e1, _⟩ | ⟨hne, h⟩
        · cases e1
        · obtain ⟨u, h1, h2⟩ := r.im j e h
          exact ⟨u, by rw [List.getElem?_set_ne (Ne.symm hne)]; exact h1, Rv.ex up e u h2⟩
      ow := fun j es h => by
        rcases set_get h with ⟨rfl, e1, hl⟩ | ⟨hne, h⟩
        · cases e1
          exact ⟨a, vs, List.getElem?_set_self (by rw [r.len]; exact hl), .inr rfl, n0, ha, rv⟩
        · obtain ⟨l, ws, h1, h2, h3, h4, h5⟩ := r.ow j es h
          exact ⟨l, ws, by rw [List.getElem?_set_ne (Ne.symm hne)]; exact h1, .inl h2, h3, k l _ (r.npa h3) h4, Rvs.ex up es ws h5⟩
      inj := fun j m es fs l h1 h2 h3 h4 => by
        rcases set_get h1 with ⟨rfl, e1, hl1⟩ | ⟨hn1, h1'⟩
        · rcases set_get h2 with ⟨rfl, _, _⟩ | ⟨hn2, h2⟩
          · rfl
          · rw [List.getElem?_set_self (by rw [r.len]; exact hl1)] at h3
            rw [List.getElem?_set_ne (Ne.symm hn2)] at h4
            obtain ⟨l2, _, g1, g2, _⟩ := r.ow m fs h2
            rw [g1] at h4
            cases h3
            cases h4
            exact absurd rfl (na _ g2)
        · rcases set_get h2 with ⟨rfl, e1, hl2⟩ | ⟨hn2, h2'⟩
          · rw [List.getElem?_set_self (by rw [r.len]; exact hl2)] at h4
            rw [List.getElem?_set_ne (Ne.symm hn1)] at h3
            obtain ⟨l2, _, g1, g2, _⟩ := r.ow j es h1'
            rw [g1] at h3
            cases h3
            cases h4
            exact absurd rfl (na _ g2)
          · rw [List.getElem?_set_ne (Ne.symm hn1)] at h3
            rw [List.getElem?_set_ne (Ne.symm hn2)] at h4
            exact r.inj j m es fs l h1' h2' h3 h4 }
def sParOw2 (i j : Nat) (f : Sl → M D) (g : Sl → M (List D)) : Sl → M (Out × Sl) := fun s => (f s).bind fun d => (g s).bind fun ds => M.pure (.nx, (s.set i (.im d)).set j (.ow ds))
theorem js_parOw2 {i j : Nat} {ta tb : TE} {f : Sl → M D} {g : Sl → M (List D)} (ha : JE P ta f) (hb : JL P tb g) : JS P (tPar i j (tCons ta (tCons tb tNil))) (sParOw2 i j f g) := fun C s p σ H r o s' p' e E l => by
  obtain ⟨d, p1, e1, e2⟩ := M.bind_ok e
  obtain ⟨ds, p2, e3, e4⟩ := M.bind_ok e2
  cases e4
  refine ha C s p σ H r d _ e1 _ fun v H1 k1 q1 r1 => ?_
  have rl := r.keep k1 q1
  refine hb C s p1 σ H1 rl ds _ e3 _ fun a vs H2 hn k2 q2 h2 rv => ⟨v, .ref a, rfl, ?_⟩
  exact l _ _ H2 ((rl.set i r1).take hn k2 q2 h2 rv j) ((r.go k1).trans (rl.goOw hn k2))
theorem n_un {f : Sl → M D} (g : D → Option D) (h : Nx f) : Nx (eUn g f) := fun s => (h s).bind fun _ => Nm.of _
theorem n_parOw2 {f : Sl → M D} {g : Sl → M (List D)} (i j : Nat) (h : Nx f) (k : Nx g) : Nx (sParOw2 i j f g) := fun s => (h s).bind fun d => (k s).bind fun ds => Nm.pure _
end
end Z
end
section
set_option Elab.async false
set_option linter.all false
set_option maxRecDepth 100000
set_option maxHeartbeats 4000000
namespace La
open PySem L2 Z PySem.Spec PyProof.Rows
def top (i : Nat) : Stmt := PySem.Challenge.pw_staytrue_k62_costs_refused.main.body.getD i (.Pass ⟨0, 0, 0, 0⟩)
theorem u65 {k : Nat} {A : Around} (r : Room k A) : A.units + 65 < cLine := by have := r.un; omega
def cs0 : List Str := ["BadNumber"]
def sub0 (c x : Str) : Bool := ((([("BadNumber", ["BadNumber", "PartError", "TrueError"])] : List (Str × List Str)).lookup c).getD []).contains x
def cs_line : List Str := []
def cs_most : List Str := []
def cs_part : List Str := ["BadNumber"]
def cs_place : List Str := []
def cs_value : List Str := []
def cs_what : List Str := []
def cs_word : List Str := []
structure Txt (Pg : Program) (K : PySem.W.Frag) (mg : Str → Option Value) (cl : Str → Addr) : Prop where
  x_BadAsk : mg "BadAsk" = some (.ref (cl "BadAsk"))
  x_BadBook : mg "BadBook" = some (.ref (cl "BadBook"))
  x_BadChange : mg "BadChange" = some (.ref (cl "BadChange"))
  x_BadName : mg "BadName" = some (.ref (cl "BadName"))
  x_BadNumber : mg "BadNumber" = some (.ref (cl "BadNumber"))
  x_BadRow : mg "BadRow" = some (.ref (cl "BadRow"))
  x_BadRule : mg "BadRule" = some (.ref (cl "BadRule"))
  x_BadText : mg "BadText" = some (.ref (cl "BadText"))
  x_Clashing : mg "Clashing" = some (.ref (cl "Clashing"))
  x_NoHost : mg "NoHost" = some (.ref (cl "NoHost"))
  x_TooMany : mg "TooMany" = some (.ref (cl "TooMany"))
  x_TrueError : mg "TrueError" = some (.ref (cl "TrueError"))
  r_BadNumber : Rsn Pg K mg cl "BadNumber" "part"
  xi_BadAsk : ∀ c ∈ cs0, ClsI K (cl c) ∧ PySem.W.kitOne K (.ref (cl c)) (.ref (cl "BadAsk")) = some (sub0 c "BadAsk")
  xi_BadBook : ∀ c ∈ cs0, ClsI K (cl c) ∧ PySem.W.kitOne K (.ref (cl c)) (.ref (cl "BadBook")) = some (sub0 c "BadBook")
  xi_BadChange : ∀ c ∈ cs0, ClsI K (cl c) ∧ PySem.W.kitOne K (.ref (cl c)) (.ref (cl "BadChange")) = some (sub0 c "BadChange")
  xi_BadName : ∀ c ∈ cs0, ClsI K (cl c) ∧ PySem.W.kitOne K (.ref (cl c)) (.ref (cl "BadName")) = some (sub0 c "BadName")
  xi_BadNumber : ∀ c ∈ cs0, ClsI K (cl c) ∧ PySem.W.kitOne K (.ref (cl c)) (.ref (cl "BadNumber")) = some (sub0 c "BadNumber")
  xi_BadRow : ∀ c ∈ cs0, ClsI K (cl c) ∧ PySem.W.kitOne K (.ref (cl c)) (.ref (cl "BadRow")) = some (sub0 c "BadRow")
  xi_BadRule : ∀ c ∈ cs0, ClsI K (cl c) ∧ PySem.W.kitOne K (.ref (cl c)) (.ref (cl "BadRule")) = some (sub0 c "BadRule")
  xi_BadText : ∀ c ∈ cs0, ClsI K (cl c) ∧ PySem.W.kitOne K (.ref (cl c)) (.ref (cl "BadText")) = some (sub0 c "BadText")
  xi_Clashing : ∀ c ∈ cs0, ClsI K (cl c) ∧ PySem.W.kitOne K (.ref (cl c)) (.ref (cl "Clashing")) = some (sub0 c "Clashing")
  xi_NoHost : ∀ c ∈ cs0, ClsI K (cl c) ∧ PySem.W.kitOne K (.ref (cl c)) (.ref (cl "NoHost")) = some (sub0 c "NoHost")
  xi_TooMany : ∀ c ∈ cs0, ClsI K (cl c) ∧ PySem.W.kitOne K (.ref (cl c)) (.ref (cl "TooMany")) = some (sub0 c "TooMany")
  xf_line : ∀ c ∈ cs_line, XfC K (cl c) ∧ PySem.W.findIn K (.ref (cl c)) "line" = some none
  xf_most : ∀ c ∈ cs_most, XfC K (cl c) ∧ PySem.W.findIn K (.ref (cl c)) "most" = some none
  xf_part : ∀ c ∈ cs_part, XfC K (cl c) ∧ PySem.W.findIn K (.ref (cl c)) "part" = some none
  xf_place : ∀ c ∈ cs_place, XfC K (cl c) ∧ PySem.W.findIn K (.ref (cl c)) "place" = some none
  xf_value : ∀ c ∈ cs_value, XfC K (cl c) ∧ PySem.W.findIn K (.ref (cl c)) "value" = some none
  xf_what : ∀ c ∈ cs_what, XfC K (cl c) ∧ PySem.W.findIn K (.ref (cl c)) "what" = some none
  xf_word : ∀ c ∈ cs_word, XfC K (cl c) ∧ PySem.W.findIn K (.ref (cl c)) "word" = some none
  xm : ∀ c ∈ cs0, PySem.W.exmOne K (.ref (cl c)) (.ref (cl "TrueError")) = some true
  b_abs : mg "abs" = none
  b_bool : mg "bool" = none
  b_enumerate : mg "enumerate" = none
  b_int : mg "int" = none
  b_isinstance : mg "isinstance" = none
  b_len : mg "len" = none
  b_list : mg "list" = none
  b_max : mg "max" = none
  b_min : mg "min" = none
  b_range : mg "range" = none
  b_repr : mg "repr" = none
  b_str : mg "str" = none
  b_tuple : mg "tuple" = none
  c_MOST_CHANGES : ∃ t, mg "MOST_CHANGES" = some (.int 5 t)
  c_MOST_COPIES_books : ∃ t, mg "MOST_COPIES_books" = some (.int 5 t)
def cinit_part : Stmt := (clsBody (top 10)).getD 0 (.Pass ⟨0, 0, 0, 0⟩)
theorem init1_part : Init1 cinit_part "self" "part" where
  args := ⟨_, _, rfl, rfl⟩
  body := ⟨_, _, _, _, _, _, _, _, _, _, _, rfl, fun _ => rfl⟩
  kind := rfl
  co := rfl
  gen := rfl
  cell := by decide +kernel
  k1 := rfl
  k2 := rfl
  ks := rfl
  kc := rfl
  bnd := fun _ _ _ _ _ _ _ _ _ _ => rfl
  ne := by decide
  dbg := ⟨by decide, by decide⟩
section
variable {Pg : Program} {w : World} {K : PySem.W.Frag} {mg : Str → Option Value} {base : Heap} {cl : Str → Addr}
/-! ### is_integer -/
abbrev s_is_integer : Stmt := top 4
def N_is_integer : List Str := ["value"]
theorem sc_is_integer : FnScope N_is_integer ["value"] (defScope s_is_integer) := ⟨rfl, rfl, rfl, by decide +kernel, rfl, by decide +kernel, by decide +kernel⟩
def g_is_integer : Sl → M (Out × Sl) := (sRet (eAnd (eCall dIsi (aCons (eVar 0) (aCons (eC (.ty "int")) aNil))) (eNot (eCall dIsi (aCons (eVar 0) (aCons (eC (.ty "bool")) aNil))))))
def m_is_integer : List D → M D := bodyM 1 g_is_integer
theorem own_is_integer (h : DefInD K mg "is_integer" s_is_integer []) (T : Txt Pg K mg cl)  : OwnQ CX0 Pg w K mg base 1 "is_integer" s_is_integer ["value"] [] (spM K cl 1 m_is_integer) :=
  own_q0 h sc_is_integer (fun _ _ _ _ h => spM.len h) fun f cd A ou s H vs Q E r g h => by
    refine ⟨_, (pss_one (ps_ret (pe_and (pe_callB (k_isi (K := K) rfl) (by rfl) T.b_isinstance (by decide +kernel) (pa_cons (pv 0) (pa_cons (pe_bltn (v := .ty "int") (u := .type "int") (by rfl) T.b_int (by decide +kernel) rfl) pa_nil))) (pe_one (pe_not (pe_callB (k_isi (K := K) rfl) (by rfl) T.b_isinstance (by decide +kernel) (pa_cons (pv 0) (pa_cons (pe_bltn (v := .ty "bool") (u := .type "bool") (by rfl) T.b_bool (by decide +kernel) rfl) pa_nil)))))))), ?_⟩
    exact body_ok (N := N_is_integer) (fun pa ca tt => (js_ret (j_and (j_cb jc_isi (ja_cons (j_var 0) (ja_cons j_ty ja_nil))) (j_not (j_cb jc_isi (ja_cons (j_var 0) (ja_cons j_ty ja_nil))))))) h
theorem n_is_integer : Nl m_is_integer := n_body 1 (n_ret (n_and (n_call _ (n_cons (n_var 0) (n_cons (n_c _) n_nil))) (n_not (n_call _ (n_cons (n_var 0) (n_cons (n_c _) n_nil))))))
def sh_is_integer_1 : List Src := [.pos 0]
theorem ks_is_integer_1 {K : PySem.W.Frag} : ∀ f fd, DefD K "is_integer" "is_integer" s_is_integer [] f fd → ShK K fd ["value"] 1 [] sh_is_integer_1 [] := fun f fd F => F.sh0 fun _ _ _ _ _ _ us ws h1 h2 => match us, ws, h1, h2 with | [_], [], _, _ => rfl
/-! ### is_within -/
abbrev s_is_within : Stmt := top 5
def N_is_within : List Str := ["value", "least", "most"]
theorem sc_is_within : FnScope N_is_within ["value", "least", "most"] (defScope s_is_within) := ⟨rfl, rfl, rfl, by decide +kernel, rfl, by decide +kernel, by decide +kernel⟩
def g_is_within : Sl → M (Out × Sl) := (sRet (eAnd (eCl 1 0 1 m_is_integer sh_is_integer_1 [] (aCons (eVar 0) aNil) aNil) (eChain dLe dLe (eVar 1) (eVar 0) (eVar 2))))
def m_is_within : List D → M D := bodyM 3 g_is_within
theorem own_is_within (h : DefInD K mg "is_within" s_is_within []) (T : Txt Pg K mg cl) (o_is_integer_1 : OwnC CX0 Pg w K mg base 1 "is_integer" ["value"] 1 [] sh_is_integer_1 [] (spM K cl 1 m_is_integer)) : OwnQ CX0 Pg w K mg base 2 "is_within" s_is_within ["value", "least", "most"] [] (spM K cl 3 m_is_within) :=
  own_q0 h sc_is_within (fun _ _ _ _ h => spM.len h) fun f cd A ou s H vs Q E r g h => by
    refine ⟨_, (pss_one (ps_ret (pe_and (k_c1 (K := K) rfl o_is_integer_1 (r.mono (by decide)) g pass0 (pa_cons (pv 0) pa_nil) pk_nil) (pe_one (pe_chain op_le op_le (pv 1) (pv 0) (pv 2)))))), ?_⟩
    exact body_ok (N := N_is_within) (fun pa ca tt => (js_ret (j_and (j_cl (ja_cons (j_var 0) ja_nil) ja_nil) (j_chain jr_le jr_le (j_var 1) (j_var 0) (j_var 2))))) h
theorem n_is_within : Nl m_is_within := n_body 3 (n_ret (n_and (n_cl _ _ _ _ _ n_is_integer (n_cons (n_var 0) n_nil) n_nil) (n_chain _ _ (n_var 1) (n_var 0) (n_var 2))))
def sh_is_within_3 : List Src := [.pos 0, .pos 1, .pos 2]
theorem ks_is_within_3 {K : PySem.W.Frag} : ∀ f fd, DefD K "is_within" "is_within" s_is_within [] f fd → ShK K fd ["value", "least", "most"] 3 [] sh_is_within_3 [] := fun f fd F => F.sh0 fun _ _ _ _ _ _ us ws h1 h2 => match us, ws, h1, h2 with | [_, _, _], [], _, _ => rfl
/-! ### need_within -/
abbrev s_need_within : Stmt := top 57
def N_need_within : List Str := ["part", "value", "least", "most"]
theorem sc_need_within : FnScope N_need_within ["part", "value", "least", "most"] (defScope s_need_within) := ⟨rfl, rfl, rfl, by decide +kernel, rfl, by decide +kernel, by decide +kernel⟩
def g_need_within : Sl → M (Out × Sl) := (sIf (bNot (bTest (eCl 3 0 3 m_is_within sh_is_within_3 [] (aCons (eVar 1) (aCons (eVar 2) (aCons (eVar 3) aNil))) aNil))) (sRaise "BadNumber" "part" (eVar 0)) sNx)
def m_need_within : List D → M D := bodyM 4 g_need_within
theorem own_need_within (h : DefInD K mg "need_within" s_need_within []) (T : Txt Pg K mg cl) (o_is_within_3 : OwnC CX0 Pg w K mg base 2 "is_within" ["value", "least", "most"] 3 [] sh_is_within_3 [] (spM K cl 3 m_is_within)) : OwnQ (L2.CX Pg w) Pg w K mg base 3 "need_within" s_need_within ["part", "value", "least", "most"] [] (spX K cl 4 m_need_within) :=
  own_q h sc_need_within (fun _ _ _ _ h => spX.len h) fun f cd A ou s H vs Q E r g h => by
    refine ⟨_, (pss_one (ps_if (pt_not (pt_val (k_c1 (K := K) rfl o_is_within_3 (r.mono (by decide)) g pass0 (pa_cons (pv 1) (pa_cons (pv 2) (pa_cons (pv 3) pa_nil))) pk_nil))) (pss_one (ps_raiseZ (k := 1) T.r_BadNumber rfl (takes_of rfl rfl rfl rfl) (r.mono (by decide)) (pa_cons (pv 0) pa_nil))) pss_nil)), ?_⟩
    exact body_okX (N := N_need_within) (fun pa ca tt => (js_if (jt_not (jt_val (j_cl (ja_cons (j_var 1) (ja_cons (j_var 2) (ja_cons (j_var 3) ja_nil))) ja_nil))) js_raise js_nil)) (fun pa ca tt => (x_if (jt_not (jt_val (j_cl (ja_cons (j_var 1) (ja_cons (j_var 2) (ja_cons (j_var 3) ja_nil))) ja_nil))) (n_bNot (n_test (n_cl _ _ _ _ _ n_is_within (n_cons (n_var 1) (n_cons (n_var 2) (n_cons (n_var 3) n_nil))) n_nil))) (x_raise (ja_cons (j_var 0) ja_nil) (n_var 0)) (x_s n_nx))) h
def sh_need_within_4 : List Src := [.pos 0, .pos 1, .pos 2, .pos 3]
theorem ks_need_within_4 {K : PySem.W.Frag} : ∀ f fd, DefD K "need_within" "need_within" s_need_within [] f fd → ShK K fd ["part", "value", "least", "most"] 4 [] sh_need_within_4 [] := fun f fd F => F.sh0 fun _ _ _ _ _ _ us ws h1 h2 => match us, ws, h1, h2 with | [_, _, _, _], [], _, _ => rfl
/-! ### need_plain -/
abbrev s_need_plain : Stmt := top 58
def N_need_plain : List Str := ["copies", "read", "keep"]
theorem sc_need_plain : FnScope N_need_plain ["copies", "read", "keep"] (defScope s_need_plain) := ⟨rfl, rfl, rfl, by decide +kernel, rfl, by decide +kernel, by decide +kernel⟩
def g_need_plain : Sl → M (Out × Sl) := (sSeq (sDrop (eCl 4 0 4 m_need_within sh_need_within_4 [] (aCons (eC (.str "copies")) (aCons (eVar 0) (aCons (eC (.int 1)) (aCons (eC (.int 5)) aNil)))) aNil))
    (sSeq (sDrop (eCl 4 0 4 m_need_within sh_need_within_4 [] (aCons (eC (.str "read")) (aCons (eVar 1) (aCons (eC (.int 1)) (aCons (eVar 0) aNil)))) aNil))
    (sDrop (eCl 4 0 4 m_need_within sh_need_within_4 [] (aCons (eC (.str "keep")) (aCons (eVar 2) (aCons (eC (.int 1)) (aCons (eVar 0) aNil)))) aNil))))
def m_need_plain : List D → M D := bodyM 3 g_need_plain
theorem own_need_plain (h : DefInD K mg "need_plain" s_need_plain []) (T : Txt Pg K mg cl) (o_need_within_4 : OwnC (L2.CX Pg w) Pg w K mg base 3 "need_within" ["part", "value", "least", "most"] 4 [] sh_need_within_4 [] (spX K cl 4 m_need_within)) : OwnQ (L2.CX Pg w) Pg w K mg base 4 "need_plain" s_need_plain ["copies", "read", "keep"] [] (spX K cl 3 m_need_plain) :=
  own_q h sc_need_plain (fun _ _ _ _ h => spX.len h) fun f cd A ou s H vs Q E r g h => by
    refine ⟨_, (pss_cons (ps_expr (k_c1 (K := K) rfl o_need_within_4 (r.mono (by decide)) g (passes_call (takes_of rfl rfl rfl rfl) fun _ _ _ _ z => z) (pa_cons pe_str (pa_cons (pv 0) (pa_cons pe_int (pa_cons (pe_gi T.c_MOST_COPIES_books) pa_nil)))) pk_nil))
      (pss_cons (ps_expr (k_c1 (K := K) rfl o_need_within_4 (r.mono (by decide)) g (passes_call (takes_of rfl rfl rfl rfl) fun _ _ _ _ z => z) (pa_cons pe_str (pa_cons (pv 1) (pa_cons pe_int (pa_cons (pv 0) pa_nil)))) pk_nil))
      (pss_one (ps_expr (k_c1 (K := K) rfl o_need_within_4 (r.mono (by decide)) g (passes_call (takes_of rfl rfl rfl rfl) fun _ _ _ _ z => z) (pa_cons pe_str (pa_cons (pv 2) (pa_cons pe_int (pa_cons (pv 0) pa_nil)))) pk_nil))))), ?_⟩
    exact body_okX (N := N_need_plain) (fun pa ca tt => (js_seq (js_drop (j_clX (ja_cons j_str (ja_cons (j_var 0) (ja_cons j_int (ja_cons j_int ja_nil)))) ja_nil))
      (js_seq (js_drop (j_clX (ja_cons j_str (ja_cons (j_var 1) (ja_cons j_int (ja_cons (j_var 0) ja_nil)))) ja_nil))
      (js_drop (j_clX (ja_cons j_str (ja_cons (j_var 2) (ja_cons j_int (ja_cons (j_var 0) ja_nil)))) ja_nil))))) (fun pa ca tt => (x_seq (js_drop (j_clX (ja_cons j_str (ja_cons (j_var 0) (ja_cons j_int (ja_cons j_int ja_nil)))) ja_nil)) (x_drop (x_cl (ja_cons j_str (ja_cons (j_var 0) (ja_cons j_int (ja_cons j_int ja_nil)))) (n_cons (n_c _) (n_cons (n_var 0) (n_cons (n_c _) (n_cons (n_c _) n_nil)))) ja_nil n_nil))
      (x_seq (js_drop (j_clX (ja_cons j_str (ja_cons (j_var 1) (ja_cons j_int (ja_cons (j_var 0) ja_nil)))) ja_nil)) (x_drop (x_cl (ja_cons j_str (ja_cons (j_var 1) (ja_cons j_int (ja_cons (j_var 0) ja_nil)))) (n_cons (n_c _) (n_cons (n_var 1) (n_cons (n_c _) (n_cons (n_var 0) n_nil)))) ja_nil n_nil))
      (x_drop (x_cl (ja_cons j_str (ja_cons (j_var 2) (ja_cons j_int (ja_cons (j_var 0) ja_nil)))) (n_cons (n_c _) (n_cons (n_var 2) (n_cons (n_c _) (n_cons (n_var 0) n_nil)))) ja_nil n_nil))))) h
def sh_need_plain_3 : List Src := [.pos 0, .pos 1, .pos 2]
theorem ks_need_plain_3 {K : PySem.W.Frag} : ∀ f fd, DefD K "need_plain" "need_plain" s_need_plain [] f fd → ShK K fd ["copies", "read", "keep"] 3 [] sh_need_plain_3 [] := fun f fd F => F.sh0 fun _ _ _ _ _ _ us ws h1 h2 => match us, ws, h1, h2 with | [_, _, _], [], _, _ => rfl
/-! ### plain_rule -/
abbrev s_plain_rule : Stmt := top 60
def N_plain_rule : List Str := ["copies", "read", "keep", "liars", "falls"]
theorem sc_plain_rule : FnScope N_plain_rule ["copies", "read", "keep", "liars", "falls"] (defScope s_plain_rule) := ⟨rfl, rfl, rfl, by decide +kernel, rfl, by decide +kernel, by decide +kernel⟩
def dd_plain_rule : List D := [.int 0, .int 0]
def g_plain_rule : Sl → M (Out × Sl) := (sSeq (sDrop (eCl 3 0 3 m_need_plain sh_need_plain_3 [] (aCons (eVar 0) (aCons (eVar 1) (aCons (eVar 2) aNil))) aNil))
    (sSeq (sDrop (eCl 4 0 4 m_need_within sh_need_within_4 [] (aCons (eC (.str "liars")) (aCons (eVar 3) (aCons (eC (.int 0)) (aCons (eC (.int 5)) aNil)))) aNil))
    (sSeq (sDrop (eCl 4 0 4 m_need_within sh_need_within_4 [] (aCons (eC (.str "falls")) (aCons (eVar 4) (aCons (eC (.int 0)) (aCons (eC (.int 5)) aNil)))) aNil))
    sNo)))
def m_plain_rule : List D → M D := bodyM 5 g_plain_rule
theorem own_plain_rule (h : DefInD K mg "plain_rule" s_plain_rule dd_plain_rule) (T : Txt Pg K mg cl) (o_need_plain_3 : OwnC (L2.CX Pg w) Pg w K mg base 4 "need_plain" ["copies", "read", "keep"] 3 [] sh_need_plain_3 [] (spX K cl 3 m_need_plain)) (o_need_within_4 : OwnC (L2.CX Pg w) Pg w K mg base 3 "need_within" ["part", "value", "least", "most"] 4 [] sh_need_within_4 [] (spX K cl 4 m_need_within)) : OwnQ (L2.CX Pg w) Pg w K mg base 5 "plain_rule" s_plain_rule ["copies", "read", "keep", "liars", "falls"] dd_plain_rule (spX K cl 5 m_plain_rule) :=
  own_q h sc_plain_rule (fun _ _ _ _ h => spX.len h) fun f cd A ou s H vs Q E r g h => by
    refine ⟨_, (pss_cons (ps_expr (k_c1 (K := K) rfl o_need_plain_3 (r.mono (by decide)) g (passes_call (takes_of rfl rfl rfl rfl) fun _ _ _ _ z => z) (pa_cons (pv 0) (pa_cons (pv 1) (pa_cons (pv 2) pa_nil))) pk_nil))
      (pss_cons (ps_expr (k_c1 (K := K) rfl o_need_within_4 (r.mono (by decide)) g (passes_call (takes_of rfl rfl rfl rfl) fun _ _ _ _ z => z) (pa_cons pe_str (pa_cons (pv 3) (pa_cons pe_int (pa_cons (pe_gi T.c_MOST_COPIES_books) pa_nil)))) pk_nil))
      (pss_cons (ps_expr (k_c1 (K := K) rfl o_need_within_4 (r.mono (by decide)) g (passes_call (takes_of rfl rfl rfl rfl) fun _ _ _ _ z => z) (pa_cons pe_str (pa_cons (pv 4) (pa_cons pe_int (pa_cons (pe_gi T.c_MOST_COPIES_books) pa_nil)))) pk_nil))
      (pss_one ps_never)))), ?_⟩
    exact body_okX (N := N_plain_rule) (fun pa ca tt => (js_seq (js_drop (j_clX (ja_cons (j_var 0) (ja_cons (j_var 1) (ja_cons (j_var 2) ja_nil))) ja_nil))
      (js_seq (js_drop (j_clX (ja_cons j_str (ja_cons (j_var 3) (ja_cons j_int (ja_cons j_int ja_nil)))) ja_nil))
      (js_seq (js_drop (j_clX (ja_cons j_str (ja_cons (j_var 4) (ja_cons j_int (ja_cons j_int ja_nil)))) ja_nil))
      js_never)))) (fun pa ca tt => (x_seq (js_drop (j_clX (ja_cons (j_var 0) (ja_cons (j_var 1) (ja_cons (j_var 2) ja_nil))) ja_nil)) (x_drop (x_cl (ja_cons (j_var 0) (ja_cons (j_var 1) (ja_cons (j_var 2) ja_nil))) (n_cons (n_var 0) (n_cons (n_var 1) (n_cons (n_var 2) n_nil))) ja_nil n_nil))
      (x_seq (js_drop (j_clX (ja_cons j_str (ja_cons (j_var 3) (ja_cons j_int (ja_cons j_int ja_nil)))) ja_nil)) (x_drop (x_cl (ja_cons j_str (ja_cons (j_var 3) (ja_cons j_int (ja_cons j_int ja_nil)))) (n_cons (n_c _) (n_cons (n_var 3) (n_cons (n_c _) (n_cons (n_c _) n_nil)))) ja_nil n_nil))
      (x_seq (js_drop (j_clX (ja_cons j_str (ja_cons (j_var 4) (ja_cons j_int (ja_cons j_int ja_nil)))) ja_nil)) (x_drop (x_cl (ja_cons j_str (ja_cons (j_var 4) (ja_cons j_int (ja_cons j_int ja_nil)))) (n_cons (n_c _) (n_cons (n_var 4) (n_cons (n_c _) (n_cons (n_c _) n_nil)))) ja_nil n_nil))
      (x_s n_sNo))))) h
/-! ### together -/
abbrev s_together : Stmt := top 61
def N_together : List Str := ["copies", "others", "changes"]
theorem sc_together : FnScope N_together ["copies", "others", "changes"] (defScope s_together) := ⟨rfl, rfl, rfl, by decide +kernel, rfl, by decide +kernel, by decide +kernel⟩
def g_together : Sl → M (Out × Sl) := (sRet (eOp dAdd (eCall dMax2 (aCons (eVar 0) (aCons (eVar 1) aNil))) (eCall dMin3 (aCons (eVar 0) (aCons (eVar 1) (aCons (eVar 2) aNil))))))
def m_together : List D → M D := bodyM 3 g_together
theorem own_together (h : DefInD K mg "together" s_together []) (T : Txt Pg K mg cl)  : OwnQ CX0 Pg w K mg base 1 "together" s_together ["copies", "others", "changes"] [] (spM K cl 3 m_together) :=
  own_q0 h sc_together (fun _ _ _ _ h => spM.len h) fun f cd A ou s H vs Q E r g h => by
    refine ⟨_, (pss_one (ps_ret (pe_op op_add (pe_callB (call_max2 rfl) (by rfl) T.b_max (by decide +kernel) (pa_cons (pv 0) (pa_cons (pv 1) pa_nil))) (pe_callB (call_min3Nu rfl) (by rfl) T.b_min (by decide +kernel) (pa_cons (pv 0) (pa_cons (pv 1) (pa_cons (pv 2) pa_nil))))))), ?_⟩
    exact body_ok (N := N_together) (fun pa ca tt => (js_ret (j_op jr_add (j_cb jc_max2 (ja_cons (j_var 0) (ja_cons (j_var 1) ja_nil))) (j_cb jc_min3 (ja_cons (j_var 0) (ja_cons (j_var 1) (ja_cons (j_var 2) ja_nil))))))) h
theorem n_together : Nl m_together := n_body 3 (n_ret (n_op _ (n_call _ (n_cons (n_var 0) (n_cons (n_var 1) n_nil))) (n_call _ (n_cons (n_var 0) (n_cons (n_var 1) (n_cons (n_var 2) n_nil))))))
def sh_together_3 : List Src := [.pos 0, .pos 1, .pos 2]
theorem ks_together_3 {K : PySem.W.Frag} : ∀ f fd, DefD K "together" "together" s_together [] f fd → ShK K fd ["copies", "others", "changes"] 3 [] sh_together_3 [] := fun f fd F => F.sh0 fun _ _ _ _ _ _ us ws h1 h2 => match us, ws, h1, h2 with | [_, _, _], [], _, _ => rfl
/-! ### plain_bears -/
abbrev s_plain_bears : Stmt := top 62
def N_plain_bears : List Str := ["one", "other", "changes", "part", "value", "least"]
theorem sc_plain_bears : FnScope N_plain_bears ["one", "other", "changes"] (defScope s_plain_bears) := ⟨rfl, rfl, rfl, by decide +kernel, rfl, by decide +kernel, by decide +kernel⟩
def g_plain_bears : Sl → M (Out × Sl) := (sSeq (sForI (iSq (eTup (aCons (eTup (aCons (eC (.str "one")) (aCons (eVar 0) aNil))) (aCons (eTup (aCons (eC (.str "other")) (aCons (eVar 1) aNil))) aNil)))) (tgTup 2 (tgCons (tgN 3) (tgCons (tgN 4) tgNil)))
    (sSeq (sIf (bOr (bNot (bTest (eIsi2 "list" "tuple" (eVar 4)))) (bTest (eOp dNe (eCall dLen (aCons (eVar 4) aNil)) (eC (.int 4))))) (sRaise "BadNumber" "part" (eVar 3)) sNx)
    (sSeq (sDrop (eCl 3 0 3 m_need_plain sh_need_plain_3 [] (aCons (eOp dIx (eVar 4) (eC (.int 0))) (aCons (eOp dIx (eVar 4) (eC (.int 1))) (aCons (eOp dIx (eVar 4) (eC (.int 2))) aNil))) aNil))
    (sDrop (eCl 4 0 4 m_need_within sh_need_within_4 [] (aCons (eC (.str "liars")) (aCons (eOp dIx (eVar 4) (eC (.int 3))) (aCons (eC (.int 0)) (aCons (eC (.int 5)) aNil)))) aNil)))))
    (sSeq (sDrop (eCl 4 0 4 m_need_within sh_need_within_4 [] (aCons (eC (.str "changes")) (aCons (eVar 2) (aCons (eC (.int 0)) (aCons (eC (.int 5)) aNil)))) aNil))
    (sSeq (sAsg (eCall dMin2 (aCons (eOp dAdd (eOp dIx (eVar 0) (eC (.int 2))) (eOp dIx (eVar 1) (eC (.int 1)))) (aCons (eOp dAdd (eOp dIx (eVar 0) (eC (.int 1))) (eOp dIx (eVar 1) (eC (.int 2)))) aNil))) (tgN 5))
    (sRet (eOp dGt (eVar 5) (eOp dAdd (eCl 3 0 3 m_together sh_together_3 [] (aCons (eOp dIx (eVar 0) (eC (.int 0))) (aCons (eOp dIx (eVar 1) (eC (.int 0))) (aCons (eVar 2) aNil))) aNil) (eCall dMin2 (aCons (eOp dIx (eVar 0) (eC (.int 3))) (aCons (eOp dIx (eVar 1) (eC (.int 3))) aNil)))))))))
def m_plain_bears : List D → M D := bodyM 6 g_plain_bears
theorem own_plain_bears (h : DefInD K mg "plain_bears" s_plain_bears []) (T : Txt Pg K mg cl) (o_need_plain_3 : OwnC (L2.CX Pg w) Pg w K mg base 4 "need_plain" ["copies", "read", "keep"] 3 [] sh_need_plain_3 [] (spX K cl 3 m_need_plain)) (o_need_within_4 : OwnC (L2.CX Pg w) Pg w K mg base 3 "need_within" ["part", "value", "least", "most"] 4 [] sh_need_within_4 [] (spX K cl 4 m_need_within)) (o_together_3 : OwnC CX0 Pg w K mg base 1 "together" ["copies", "others", "changes"] 3 [] sh_together_3 [] (spM K cl 3 m_together)) : OwnQ (L2.CX Pg w) Pg w K mg base 5 "plain_bears" s_plain_bears ["one", "other", "changes"] [] (spX K cl 3 m_plain_bears) :=
  own_q h sc_plain_bears (fun _ _ _ _ h => spX.len h) fun f cd A ou s H vs Q E r g h => by
    refine ⟨_, (pss_cons (ps_for (passes_of rfl) rfl (pi_seq (K := K) rfl (pe_tup (pa_cons (pe_tup (pa_cons pe_str (pa_cons (pv 0) pa_nil))) (pa_cons (pe_tup (pa_cons pe_str (pa_cons (pv 1) pa_nil))) pa_nil)))) (k_pgT (K := K) rfl rfl (pgs_cons (pg_name (i := 3) sc_plain_bears.nd rfl (Or.inl rfl)) (pgs_cons (pg_name (i := 4) sc_plain_bears.nd rfl (Or.inl rfl)) pgs_nil)))
      (pss_cons (ps_if (PW.pt (pw_or (pt_not (pt_val (pe_callB (k_isiT (K := K) rfl) (by rfl) T.b_isinstance (by decide +kernel) (pa_cons (pv 4) (pa_cons (pe_tup (pa_cons (pe_bltn (v := .ty "list") (u := .type "list") (by rfl) T.b_list (by decide +kernel) rfl) (pa_cons (pe_bltn (v := .ty "tuple") (u := .type "tuple") (by rfl) T.b_tuple (by decide +kernel) rfl) pa_nil))) pa_nil))))) (pw_or1 (pt_cmpR op_ne (pe_callB (k_len (K := K) rfl) (by rfl) T.b_len (by decide +kernel) (pa_cons (pv 4) pa_nil)) pe_int (nomark _))))) (pss_one (ps_raiseZ (k := 1) T.r_BadNumber rfl (takes_of rfl rfl rfl rfl) (r.mono (by decide)) (pa_cons (pv 3) pa_nil))) pss_nil)
      (pss_cons (ps_expr (k_c1 (K := K) rfl o_need_plain_3 (r.mono (by decide)) g (passes_call (takes_of rfl rfl rfl rfl) fun _ _ _ _ z => z) (pa_cons (pe_ix (k_ix (K := K) rfl) (pv 4) pe_int (fun _ _ => rfl)) (pa_cons (pe_ix (k_ix (K := K) rfl) (pv 4) pe_int (fun _ _ => rfl)) (pa_cons (pe_ix (k_ix (K := K) rfl) (pv 4) pe_int (fun _ _ => rfl)) pa_nil))) pk_nil))
      (pss_one (ps_expr (k_c1 (K := K) rfl o_need_within_4 (r.mono (by decide)) g (passes_call (takes_of rfl rfl rfl rfl) fun _ _ _ _ z => z) (pa_cons pe_str (pa_cons (pe_ix (k_ix (K := K) rfl) (pv 4) pe_int (fun _ _ => rfl)) (pa_cons pe_int (pa_cons (pe_gi T.c_MOST_COPIES_books) pa_nil)))) pk_nil))))))
      (pss_cons (ps_expr (k_c1 (K := K) rfl o_need_within_4 (r.mono (by decide)) g (passes_call (takes_of rfl rfl rfl rfl) fun _ _ _ _ z => z) (pa_cons pe_str (pa_cons (pv 2) (pa_cons pe_int (pa_cons (pe_gi T.c_MOST_CHANGES) pa_nil)))) pk_nil))
      (pss_cons (ps_set (i := 5) sc_plain_bears.nd rfl (Or.inl rfl) (pe_callB (call_min2 rfl) (by rfl) T.b_min (by decide +kernel) (pa_cons (pe_op op_add (pe_ix (k_ix (K := K) rfl) (pv 0) pe_int (fun _ _ => rfl)) (pe_ix (k_ix (K := K) rfl) (pv 1) pe_int (fun _ _ => rfl))) (pa_cons (pe_op op_add (pe_ix (k_ix (K := K) rfl) (pv 0) pe_int (fun _ _ => rfl)) (pe_ix (k_ix (K := K) rfl) (pv 1) pe_int (fun _ _ => rfl))) pa_nil))))
      (pss_one (ps_ret (pe_cmpR op_gt (pv 5) (pe_op op_add (k_c1 (K := K) rfl o_together_3 (r.mono (by decide)) g pass0 (pa_cons (pe_ix (k_ix (K := K) rfl) (pv 0) pe_int (fun _ _ => rfl)) (pa_cons (pe_ix (k_ix (K := K) rfl) (pv 1) pe_int (fun _ _ => rfl)) (pa_cons (pv 2) pa_nil))) pk_nil) (pe_callB (call_min2 rfl) (by rfl) T.b_min (by decide +kernel) (pa_cons (pe_ix (k_ix (K := K) rfl) (pv 0) pe_int (fun _ _ => rfl)) (pa_cons (pe_ix (k_ix (K := K) rfl) (pv 1) pe_int (fun _ _ => rfl)) pa_nil)))) (nomark _))))))), ?_⟩
    exact body_okX (N := N_plain_bears) (fun pa ca tt => (js_seq (js_forI (ji_seq (j_tup (ja_cons (j_tup (ja_cons j_str (ja_cons (j_var 0) ja_nil))) (ja_cons (j_tup (ja_cons j_str (ja_cons (j_var 1) ja_nil))) ja_nil)))) (jg_tup (jgs_cons (jg_name 3) (jgs_cons (jg_name 4) jgs_nil)))
      (js_seq (js_if (jt_or (jt_not (jt_val (j_isi2 (j_var 4)))) (jt_test (j_op jr_ne (j_cb jc_len (ja_cons (j_var 4) ja_nil)) j_int))) js_raise js_nil)
      (js_seq (js_drop (j_clX (ja_cons (j_op jr_ix (j_var 4) j_int) (ja_cons (j_op jr_ix (j_var 4) j_int) (ja_cons (j_op jr_ix (j_var 4) j_int) ja_nil))) ja_nil))
      (js_drop (j_clX (ja_cons j_str (ja_cons (j_op jr_ix (j_var 4) j_int) (ja_cons j_int (ja_cons j_int ja_nil)))) ja_nil)))))
      (js_seq (js_drop (j_clX (ja_cons j_str (ja_cons (j_var 2) (ja_cons j_int (ja_cons j_int ja_nil)))) ja_nil))
      (js_seq (js_asg (j_cb jc_min2 (ja_cons (j_op jr_add (j_op jr_ix (j_var 0) j_int) (j_op jr_ix (j_var 1) j_int)) (ja_cons (j_op jr_add (j_op jr_ix (j_var 0) j_int) (j_op jr_ix (j_var 1) j_int)) ja_nil))) (jg_name 5))
      (js_ret (j_op jr_gt (j_var 5) (j_op jr_add (j_cl (ja_cons (j_op jr_ix (j_var 0) j_int) (ja_cons (j_op jr_ix (j_var 1) j_int) (ja_cons (j_var 2) ja_nil))) ja_nil) (j_cb jc_min2 (ja_cons (j_op jr_ix (j_var 0) j_int) (ja_cons (j_op jr_ix (j_var 1) j_int) ja_nil)))))))))) (fun pa ca tt => (x_seq (js_forI (ji_seq (j_tup (ja_cons (j_tup (ja_cons j_str (ja_cons (j_var 0) ja_nil))) (ja_cons (j_tup (ja_cons j_str (ja_cons (j_var 1) ja_nil))) ja_nil)))) (jg_tup (jgs_cons (jg_name 3) (jgs_cons (jg_name 4) jgs_nil)))
      (js_seq (js_if (jt_or (jt_not (jt_val (j_isi2 (j_var 4)))) (jt_test (j_op jr_ne (j_cb jc_len (ja_cons (j_var 4) ja_nil)) j_int))) js_raise js_nil)
      (js_seq (js_drop (j_clX (ja_cons (j_op jr_ix (j_var 4) j_int) (ja_cons (j_op jr_ix (j_var 4) j_int) (ja_cons (j_op jr_ix (j_var 4) j_int) ja_nil))) ja_nil))
      (js_drop (j_clX (ja_cons j_str (ja_cons (j_op jr_ix (j_var 4) j_int) (ja_cons j_int (ja_cons j_int ja_nil)))) ja_nil))))) (x_forI (ji_seq (j_tup (ja_cons (j_tup (ja_cons j_str (ja_cons (j_var 0) ja_nil))) (ja_cons (j_tup (ja_cons j_str (ja_cons (j_var 1) ja_nil))) ja_nil)))) (n_iSq (n_tup (n_cons (n_tup (n_cons (n_c _) (n_cons (n_var 0) n_nil))) (n_cons (n_tup (n_cons (n_c _) (n_cons (n_var 1) n_nil))) n_nil)))) (jg_tup (jgs_cons (jg_name 3) (jgs_cons (jg_name 4) jgs_nil))) (js_seq (js_if (jt_or (jt_not (jt_val (j_isi2 (j_var 4)))) (jt_test (j_op jr_ne (j_cb jc_len (ja_cons (j_var 4) ja_nil)) j_int))) js_raise js_nil)
      (js_seq (js_drop (j_clX (ja_cons (j_op jr_ix (j_var 4) j_int) (ja_cons (j_op jr_ix (j_var 4) j_int) (ja_cons (j_op jr_ix (j_var 4) j_int) ja_nil))) ja_nil))
      (js_drop (j_clX (ja_cons j_str (ja_cons (j_op jr_ix (j_var 4) j_int) (ja_cons j_int (ja_cons j_int ja_nil)))) ja_nil))))
      (x_seq (js_if (jt_or (jt_not (jt_val (j_isi2 (j_var 4)))) (jt_test (j_op jr_ne (j_cb jc_len (ja_cons (j_var 4) ja_nil)) j_int))) js_raise js_nil) (x_if (jt_or (jt_not (jt_val (j_isi2 (j_var 4)))) (jt_test (j_op jr_ne (j_cb jc_len (ja_cons (j_var 4) ja_nil)) j_int))) (n_bOr (n_bNot (n_test (n_isi2 _ _ (n_var 4)))) (n_test (n_op _ (n_call _ (n_cons (n_var 4) n_nil)) (n_c _)))) (x_raise (ja_cons (j_var 3) ja_nil) (n_var 3)) (x_s n_nx))
      (x_seq (js_drop (j_clX (ja_cons (j_op jr_ix (j_var 4) j_int) (ja_cons (j_op jr_ix (j_var 4) j_int) (ja_cons (j_op jr_ix (j_var 4) j_int) ja_nil))) ja_nil)) (x_drop (x_cl (ja_cons (j_op jr_ix (j_var 4) j_int) (ja_cons (j_op jr_ix (j_var 4) j_int) (ja_cons (j_op jr_ix (j_var 4) j_int) ja_nil))) (n_cons (n_op _ (n_var 4) (n_c _)) (n_cons (n_op _ (n_var 4) (n_c _)) (n_cons (n_op _ (n_var 4) (n_c _)) n_nil))) ja_nil n_nil))
      (x_drop (x_cl (ja_cons j_str (ja_cons (j_op jr_ix (j_var 4) j_int) (ja_cons j_int (ja_cons j_int ja_nil)))) (n_cons (n_c _) (n_cons (n_op _ (n_var 4) (n_c _)) (n_cons (n_c _) (n_cons (n_c _) n_nil)))) ja_nil n_nil)))))
      (x_seq (js_drop (j_clX (ja_cons j_str (ja_cons (j_var 2) (ja_cons j_int (ja_cons j_int ja_nil)))) ja_nil)) (x_drop (x_cl (ja_cons j_str (ja_cons (j_var 2) (ja_cons j_int (ja_cons j_int ja_nil)))) (n_cons (n_c _) (n_cons (n_var 2) (n_cons (n_c _) (n_cons (n_c _) n_nil)))) ja_nil n_nil))
      (x_seq (js_asg (j_cb jc_min2 (ja_cons (j_op jr_add (j_op jr_ix (j_var 0) j_int) (j_op jr_ix (j_var 1) j_int)) (ja_cons (j_op jr_add (j_op jr_ix (j_var 0) j_int) (j_op jr_ix (j_var 1) j_int)) ja_nil))) (jg_name 5)) (x_s (n_asg _ (n_call _ (n_cons (n_op _ (n_op _ (n_var 0) (n_c _)) (n_op _ (n_var 1) (n_c _))) (n_cons (n_op _ (n_op _ (n_var 0) (n_c _)) (n_op _ (n_var 1) (n_c _))) n_nil)))))
      (x_s (n_ret (n_op _ (n_var 5) (n_op _ (n_cl _ _ _ _ _ n_together (n_cons (n_op _ (n_var 0) (n_c _)) (n_cons (n_op _ (n_var 1) (n_c _)) (n_cons (n_var 2) n_nil))) n_nil) (n_call _ (n_cons (n_op _ (n_var 0) (n_c _)) (n_cons (n_op _ (n_var 1) (n_c _)) n_nil))))))))))) h
/-! ### plain_ends -/
abbrev s_plain_ends : Stmt := top 63
def N_plain_ends : List Str := ["copies", "read", "keep", "liars", "falls"]
theorem sc_plain_ends : FnScope N_plain_ends ["copies", "read", "keep", "liars", "falls"] (defScope s_plain_ends) := ⟨rfl, rfl, rfl, by decide +kernel, rfl, by decide +kernel, by decide +kernel⟩
def g_plain_ends : Sl → M (Out × Sl) := (sSeq (sDrop (eCl 3 0 3 m_need_plain sh_need_plain_3 [] (aCons (eVar 0) (aCons (eVar 1) (aCons (eVar 2) aNil))) aNil))
    (sSeq (sDrop (eCl 4 0 4 m_need_within sh_need_within_4 [] (aCons (eC (.str "liars")) (aCons (eVar 3) (aCons (eC (.int 0)) (aCons (eC (.int 5)) aNil)))) aNil))
    (sSeq (sDrop (eCl 4 0 4 m_need_within sh_need_within_4 [] (aCons (eC (.str "falls")) (aCons (eVar 4) (aCons (eC (.int 0)) (aCons (eC (.int 5)) aNil)))) aNil))
    sNo)))
def m_plain_ends : List D → M D := bodyM 5 g_plain_ends
theorem own_plain_ends (h : DefInD K mg "plain_ends" s_plain_ends []) (T : Txt Pg K mg cl) (o_need_plain_3 : OwnC (L2.CX Pg w) Pg w K mg base 4 "need_plain" ["copies", "read", "keep"] 3 [] sh_need_plain_3 [] (spX K cl 3 m_need_plain)) (o_need_within_4 : OwnC (L2.CX Pg w) Pg w K mg base 3 "need_within" ["part", "value", "least", "most"] 4 [] sh_need_within_4 [] (spX K cl 4 m_need_within)) : OwnQ (L2.CX Pg w) Pg w K mg base 5 "plain_ends" s_plain_ends ["copies", "read", "keep", "liars", "falls"] [] (spX K cl 5 m_plain_ends) :=
  own_q h sc_plain_ends (fun _ _ _ _ h => spX.len h) fun f cd A ou s H vs Q E r g h => by
    refine ⟨_, (pss_cons (ps_expr (k_c1 (K := K) rfl o_need_plain_3 (r.mono (by decide)) g (passes_call (takes_of rfl rfl rfl rfl) fun _ _ _ _ z => z) (pa_cons (pv 0) (pa_cons (pv 1) (pa_cons (pv 2) pa_nil))) pk_nil))
      (pss_cons (ps_expr (k_c1 (K := K) rfl o_need_within_4 (r.mono (by decide)) g (passes_call (takes_of rfl rfl rfl rfl) fun _ _ _ _ z => z) (pa_cons pe_str (pa_cons (pv 3) (pa_cons pe_int (pa_cons (pe_gi T.c_MOST_COPIES_books) pa_nil)))) pk_nil))
      (pss_cons (ps_expr (k_c1 (K := K) rfl o_need_within_4 (r.mono (by decide)) g (passes_call (takes_of rfl rfl rfl rfl) fun _ _ _ _ z => z) (pa_cons pe_str (pa_cons (pv 4) (pa_cons pe_int (pa_cons (pe_gi T.c_MOST_COPIES_books) pa_nil)))) pk_nil))
      (pss_one ps_never)))), ?_⟩
    exact body_okX (N := N_plain_ends) (fun pa ca tt => (js_seq (js_drop (j_clX (ja_cons (j_var 0) (ja_cons (j_var 1) (ja_cons (j_var 2) ja_nil))) ja_nil))
      (js_seq (js_drop (j_clX (ja_cons j_str (ja_cons (j_var 3) (ja_cons j_int (ja_cons j_int ja_nil)))) ja_nil))
      (js_seq (js_drop (j_clX (ja_cons j_str (ja_cons (j_var 4) (ja_cons j_int (ja_cons j_int ja_nil)))) ja_nil))
      js_never)))) (fun pa ca tt => (x_seq (js_drop (j_clX (ja_cons (j_var 0) (ja_cons (j_var 1) (ja_cons (j_var 2) ja_nil))) ja_nil)) (x_drop (x_cl (ja_cons (j_var 0) (ja_cons (j_var 1) (ja_cons (j_var 2) ja_nil))) (n_cons (n_var 0) (n_cons (n_var 1) (n_cons (n_var 2) n_nil))) ja_nil n_nil))
      (x_seq (js_drop (j_clX (ja_cons j_str (ja_cons (j_var 3) (ja_cons j_int (ja_cons j_int ja_nil)))) ja_nil)) (x_drop (x_cl (ja_cons j_str (ja_cons (j_var 3) (ja_cons j_int (ja_cons j_int ja_nil)))) (n_cons (n_c _) (n_cons (n_var 3) (n_cons (n_c _) (n_cons (n_c _) n_nil)))) ja_nil n_nil))
      (x_seq (js_drop (j_clX (ja_cons j_str (ja_cons (j_var 4) (ja_cons j_int (ja_cons j_int ja_nil)))) ja_nil)) (x_drop (x_cl (ja_cons j_str (ja_cons (j_var 4) (ja_cons j_int (ja_cons j_int ja_nil)))) (n_cons (n_c _) (n_cons (n_var 4) (n_cons (n_c _) (n_cons (n_c _) n_nil)))) ja_nil n_nil))
      (x_s n_sNo))))) h
/-! ### plain_pairs -/
abbrev s_plain_pairs : Stmt := top 64
def N_plain_pairs : List Str := ["copies", "liars", "falls", "changes", "found", "read", "keep", "its"]
theorem sc_plain_pairs : FnScope N_plain_pairs ["copies", "liars", "falls", "changes"] (defScope s_plain_pairs) := ⟨rfl, rfl, rfl, by decide +kernel, rfl, by decide +kernel, by decide +kernel⟩
def g_plain_pairs : Sl → M (Out × Sl) := (sSeq (sDrop (eCl 4 0 4 m_need_within sh_need_within_4 [] (aCons (eC (.str "copies")) (aCons (eVar 0) (aCons (eC (.int 1)) (aCons (eC (.int 5)) aNil)))) aNil))
    (sSeq (sDrop (eCl 4 0 4 m_need_within sh_need_within_4 [] (aCons (eC (.str "liars")) (aCons (eVar 1) (aCons (eC (.int 0)) (aCons (eC (.int 5)) aNil)))) aNil))
    (sSeq (sDrop (eCl 4 0 4 m_need_within sh_need_within_4 [] (aCons (eC (.str "falls")) (aCons (eVar 2) (aCons (eC (.int 0)) (aCons (eC (.int 5)) aNil)))) aNil))
    (sSeq (sDrop (eCl 4 0 4 m_need_within sh_need_within_4 [] (aCons (eC (.str "changes")) (aCons (eVar 3) (aCons (eC (.int 0)) (aCons (eC (.int 5)) aNil)))) aNil))
    (sSeq sNo
    (sSeq sNo
    sNo))))))
def m_plain_pairs : List D → M D := bodyM 8 g_plain_pairs
theorem own_plain_pairs (h : DefInD K mg "plain_pairs" s_plain_pairs []) (T : Txt Pg K mg cl) (o_need_within_4 : OwnC (L2.CX Pg w) Pg w K mg base 3 "need_within" ["part", "value", "least", "most"] 4 [] sh_need_within_4 [] (spX K cl 4 m_need_within)) : OwnQ (L2.CX Pg w) Pg w K mg base 4 "plain_pairs" s_plain_pairs ["copies", "liars", "falls", "changes"] [] (spX K cl 4 m_plain_pairs) :=
  own_q h sc_plain_pairs (fun _ _ _ _ h => spX.len h) fun f cd A ou s H vs Q E r g h => by
    refine ⟨_, (pss_cons (ps_expr (k_c1 (K := K) rfl o_need_within_4 (r.mono (by decide)) g (passes_call (takes_of rfl rfl rfl rfl) fun _ _ _ _ z => z) (pa_cons pe_str (pa_cons (pv 0) (pa_cons pe_int (pa_cons (pe_gi T.c_MOST_COPIES_books) pa_nil)))) pk_nil))
      (pss_cons (ps_expr (k_c1 (K := K) rfl o_need_within_4 (r.mono (by decide)) g (passes_call (takes_of rfl rfl rfl rfl) fun _ _ _ _ z => z) (pa_cons pe_str (pa_cons (pv 1) (pa_cons pe_int (pa_cons (pe_gi T.c_MOST_COPIES_books) pa_nil)))) pk_nil))
      (pss_cons (ps_expr (k_c1 (K := K) rfl o_need_within_4 (r.mono (by decide)) g (passes_call (takes_of rfl rfl rfl rfl) fun _ _ _ _ z => z) (pa_cons pe_str (pa_cons (pv 2) (pa_cons pe_int (pa_cons (pe_gi T.c_MOST_COPIES_books) pa_nil)))) pk_nil))
      (pss_cons (ps_expr (k_c1 (K := K) rfl o_need_within_4 (r.mono (by decide)) g (passes_call (takes_of rfl rfl rfl rfl) fun _ _ _ _ z => z) (pa_cons pe_str (pa_cons (pv 3) (pa_cons pe_int (pa_cons (pe_gi T.c_MOST_CHANGES) pa_nil)))) pk_nil))
      (pss_cons ps_never
      (pss_cons ps_never
      (pss_one ps_never))))))), ?_⟩
    exact body_okX (N := N_plain_pairs) (fun pa ca tt => (js_seq (js_drop (j_clX (ja_cons j_str (ja_cons (j_var 0) (ja_cons j_int (ja_cons j_int ja_nil)))) ja_nil))
      (js_seq (js_drop (j_clX (ja_cons j_str (ja_cons (j_var 1) (ja_cons j_int (ja_cons j_int ja_nil)))) ja_nil))
      (js_seq (js_drop (j_clX (ja_cons j_str (ja_cons (j_var 2) (ja_cons j_int (ja_cons j_int ja_nil)))) ja_nil))
      (js_seq (js_drop (j_clX (ja_cons j_str (ja_cons (j_var 3) (ja_cons j_int (ja_cons j_int ja_nil)))) ja_nil))
      (js_seq js_never
      (js_seq js_never
      js_never))))))) (fun pa ca tt => (x_seq (js_drop (j_clX (ja_cons j_str (ja_cons (j_var 0) (ja_cons j_int (ja_cons j_int ja_nil)))) ja_nil)) (x_drop (x_cl (ja_cons j_str (ja_cons (j_var 0) (ja_cons j_int (ja_cons j_int ja_nil)))) (n_cons (n_c _) (n_cons (n_var 0) (n_cons (n_c _) (n_cons (n_c _) n_nil)))) ja_nil n_nil))
      (x_seq (js_drop (j_clX (ja_cons j_str (ja_cons (j_var 1) (ja_cons j_int (ja_cons j_int ja_nil)))) ja_nil)) (x_drop (x_cl (ja_cons j_str (ja_cons (j_var 1) (ja_cons j_int (ja_cons j_int ja_nil)))) (n_cons (n_c _) (n_cons (n_var 1) (n_cons (n_c _) (n_cons (n_c _) n_nil)))) ja_nil n_nil))
      (x_seq (js_drop (j_clX (ja_cons j_str (ja_cons (j_var 2) (ja_cons j_int (ja_cons j_int ja_nil)))) ja_nil)) (x_drop (x_cl (ja_cons j_str (ja_cons (j_var 2) (ja_cons j_int (ja_cons j_int ja_nil)))) (n_cons (n_c _) (n_cons (n_var 2) (n_cons (n_c _) (n_cons (n_c _) n_nil)))) ja_nil n_nil))
      (x_seq (js_drop (j_clX (ja_cons j_str (ja_cons (j_var 3) (ja_cons j_int (ja_cons j_int ja_nil)))) ja_nil)) (x_drop (x_cl (ja_cons j_str (ja_cons (j_var 3) (ja_cons j_int (ja_cons j_int ja_nil)))) (n_cons (n_c _) (n_cons (n_var 3) (n_cons (n_c _) (n_cons (n_c _) n_nil)))) ja_nil n_nil))
      (x_seq js_never (x_s n_sNo)
      (x_seq js_never (x_s n_sNo)
      (x_s n_sNo)))))))) h
/-! ### least_plain -/
abbrev s_least_plain : Stmt := top 65
def N_least_plain : List Str := ["liars", "falls", "changes", "copies"]
theorem sc_least_plain : FnScope N_least_plain ["liars", "falls", "changes"] (defScope s_least_plain) := ⟨rfl, rfl, rfl, by decide +kernel, rfl, by decide +kernel, by decide +kernel⟩
def g_least_plain : Sl → M (Out × Sl) := (sSeq (sDrop (eCl 4 0 4 m_need_within sh_need_within_4 [] (aCons (eC (.str "liars")) (aCons (eVar 0) (aCons (eC (.int 0)) (aCons (eC (.int 5)) aNil)))) aNil))
    (sSeq (sDrop (eCl 4 0 4 m_need_within sh_need_within_4 [] (aCons (eC (.str "falls")) (aCons (eVar 1) (aCons (eC (.int 0)) (aCons (eC (.int 5)) aNil)))) aNil))
    (sSeq (sDrop (eCl 4 0 4 m_need_within sh_need_within_4 [] (aCons (eC (.str "changes")) (aCons (eVar 2) (aCons (eC (.int 0)) (aCons (eC (.int 5)) aNil)))) aNil))
    (sSeq sNo
    (sSeq sNo
    sNo)))))
def m_least_plain : List D → M D := bodyM 4 g_least_plain
theorem own_least_plain (h : DefInD K mg "least_plain" s_least_plain []) (T : Txt Pg K mg cl) (o_need_within_4 : OwnC (L2.CX Pg w) Pg w K mg base 3 "need_within" ["part", "value", "least", "most"] 4 [] sh_need_within_4 [] (spX K cl 4 m_need_within)) : OwnQ (L2.CX Pg w) Pg w K mg base 4 "least_plain" s_least_plain ["liars", "falls", "changes"] [] (spX K cl 3 m_least_plain) :=
  own_q h sc_least_plain (fun _ _ _ _ h => spX.len h) fun f cd A ou s H vs Q E r g h => by
    refine ⟨_, (pss_cons (ps_expr (k_c1 (K := K) rfl o_need_within_4 (r.mono (by decide)) g (passes_call (takes_of rfl rfl rfl rfl) fun _ _ _ _ z => z) (pa_cons pe_str (pa_cons (pv 0) (pa_cons pe_int (pa_cons (pe_gi T.c_MOST_COPIES_books) pa_nil)))) pk_nil))
      (pss_cons (ps_expr (k_c1 (K := K) rfl o_need_within_4 (r.mono (by decide)) g (passes_call (takes_of rfl rfl rfl rfl) fun _ _ _ _ z => z) (pa_cons pe_str (pa_cons (pv 1) (pa_cons pe_int (pa_cons (pe_gi T.c_MOST_COPIES_books) pa_nil)))) pk_nil))
      (pss_cons (ps_expr (k_c1 (K := K) rfl o_need_within_4 (r.mono (by decide)) g (passes_call (takes_of rfl rfl rfl rfl) fun _ _ _ _ z => z) (pa_cons pe_str (pa_cons (pv 2) (pa_cons pe_int (pa_cons (pe_gi T.c_MOST_CHANGES) pa_nil)))) pk_nil))
      (pss_cons ps_never
      (pss_cons ps_never
      (pss_one ps_never)))))), ?_⟩
    exact body_okX (N := N_least_plain) (fun pa ca tt => (js_seq (js_drop (j_clX (ja_cons j_str (ja_cons (j_var 0) (ja_cons j_int (ja_cons j_int ja_nil)))) ja_nil))
      (js_seq (js_drop (j_clX (ja_cons j_str (ja_cons (j_var 1) (ja_cons j_int (ja_cons j_int ja_nil)))) ja_nil))
      (js_seq (js_drop (j_clX (ja_cons j_str (ja_cons (j_var 2) (ja_cons j_int (ja_cons j_int ja_nil)))) ja_nil))
      (js_seq js_never
      (js_seq js_never
      js_never)))))) (fun pa ca tt => (x_seq (js_drop (j_clX (ja_cons j_str (ja_cons (j_var 0) (ja_cons j_int (ja_cons j_int ja_nil)))) ja_nil)) (x_drop (x_cl (ja_cons j_str (ja_cons (j_var 0) (ja_cons j_int (ja_cons j_int ja_nil)))) (n_cons (n_c _) (n_cons (n_var 0) (n_cons (n_c _) (n_cons (n_c _) n_nil)))) ja_nil n_nil))
      (x_seq (js_drop (j_clX (ja_cons j_str (ja_cons (j_var 1) (ja_cons j_int (ja_cons j_int ja_nil)))) ja_nil)) (x_drop (x_cl (ja_cons j_str (ja_cons (j_var 1) (ja_cons j_int (ja_cons j_int ja_nil)))) (n_cons (n_c _) (n_cons (n_var 1) (n_cons (n_c _) (n_cons (n_c _) n_nil)))) ja_nil n_nil))
      (x_seq (js_drop (j_clX (ja_cons j_str (ja_cons (j_var 2) (ja_cons j_int (ja_cons j_int ja_nil)))) ja_nil)) (x_drop (x_cl (ja_cons j_str (ja_cons (j_var 2) (ja_cons j_int (ja_cons j_int ja_nil)))) (n_cons (n_c _) (n_cons (n_var 2) (n_cons (n_c _) (n_cons (n_c _) n_nil)))) ja_nil n_nil))
      (x_seq js_never (x_s n_sNo)
      (x_seq js_never (x_s n_sNo)
      (x_s n_sNo))))))) h
/-! ### _law_pen -/
abbrev s__law_pen : Stmt := top 67
def N__law_pen : List Str := ["script", "cell"]
theorem sc__law_pen : FnScope N__law_pen ["script"] (defScope s__law_pen) := ⟨rfl, rfl, rfl, by decide +kernel, rfl, by decide +kernel, by decide +kernel⟩
theorem own__law_pen (h : DefIn K mg "_law_pen" s__law_pen) (T : Txt Pg K mg cl) : OwnF Pg w K mg base 1 "_law_pen" s__law_pen ["script"] (spPen K) :=
  own_of h sc__law_pen (fun _ _ _ _ h => spPen.len h) fun f cd A ou s H vs Q E r g h => by
    refine ⟨_, (pss_one (ps_ret (pe_lst (pa_cons (pe_lc (own := [("cell", 1)]) rfl sc__law_pen.nd (k_piL (K := K) rfl (pe_slice (k_slL (K := K) rfl) (pv 0) po_none (po_some pe_int))) (blkOk_by (N := N__law_pen) (sc := (defScope s__law_pen)) (by decide +kernel)) (fun _ _ _ _ _ => (pg_name (i := 1) sc__law_pen.nd rfl (Or.inl rfl))) (fun _ _ _ _ _ => pts_nil) (fun _ _ _ _ _ => (pe_callTy call_int1 (by rfl) T.b_int (by decide +kernel) (pa_cons (pv 1) pa_nil)))) (pa_cons pe_int (pa_cons pe_int pa_nil)))))), ?_⟩
    obtain ⟨a, ns, rfl, _⟩ := id h
    exact pen_reads rfl (by decide) h
/-! ### _law_draw -/
abbrev s__law_draw : Stmt := top 68
def N__law_draw : List Str := ["pen", "many", "rest", "spot", "cell", "great", "mixed"]
theorem sc__law_draw : FnScope N__law_draw ["pen", "many"] (defScope s__law_draw) := ⟨rfl, rfl, rfl, by decide +kernel, rfl, by decide +kernel, by decide +kernel⟩
def g__law_draw : Sl → M (Out × Sl) := (sSeq (sIf (bTest (eOp dGt (ePen 0 2) (eC (.int 0)))) (sSeq (sAsg (eCall dInt (aCons (ePen 0 2) aNil)) (tgN 2))
    (sSeq (sPen 0 2 (eOp dDiv (eVar 2) (eVar 1)))
    (sRet (eOp dMod (eCall dInt (aCons (eVar 2) aNil)) (eVar 1))))) sNx)
    (sSeq (sAsg (ePen 0 1) (tgN 3))
    (sSeq (sPen 0 1 (eOp dAdd (eVar 3) (eC (.int 1))))
    (sSeq (sAsg (eOp dAdd (eOp dMul (eC (.int 13494)) (eVar 3)) (eC (.int 2098))) (tgN 4))
    (sSeq (sIf (bTest (eOp dNeD (ePen 0 0) (eLst aNil))) (sAsg (eOp dIxL (ePen 0 0) (eOp dMod (eCall dInt (aCons (eVar 3) aNil)) (eCall dLen (aCons (ePen 0 0) aNil)))) (tgN 4)) sNx)
    (sSeq (sIf (bAnd (bTest (eOp dLt (eVar 3) (eCall dLen (aCons (ePen 0 0) aNil)))) (bTest (eOp dGe (eCall dAbs (aCons (eVar 4) aNil)) (eOp dPow (eC (.int 10)) (eC (.int 18)))))) (sSeq (sAsg (eOp dAdd (eOp dMul (eC (.int 2)) (eOp dSub (eCall dAbs (aCons (eVar 4) aNil)) (eOp dPow (eC (.int 10)) (eC (.int 18))))) (eCall dInt (aCons (eOp dLt (eVar 4) (eC (.int 0))) aNil))) (tgN 5))
    (sSeq (sPen 0 2 (eOp dDiv (eCall dInt (aCons (eVar 5) aNil)) (eVar 1)))
    (sRet (eOp dMod (eCall dInt (aCons (eVar 5) aNil)) (eVar 1))))) sNx)
    (sSeq (sAsg (eOp dMod (eCall dInt (aCons (eOp dPow (eOp dAdd (eOp dAdd (eOp dMod (eCall dInt (aCons (eVar 4) aNil)) (eC (.int 2147483549))) (eOp dMul (eC (.int 83083)) (eVar 3))) (eC (.int 2098))) (eC (.int 3))) aNil)) (eC (.int 2147483629))) (tgN 6))
    (sSeq (sAsg (eOp dMod (eCall dInt (aCons (eOp dPow (eOp dAdd (eOp dAdd (eOp dMul (eVar 6) (eOp dAdd (eOp dMul (eC (.int 2)) (eVar 3)) (eC (.int 445)))) (eOp dMul (eOp dMul (eC (.int 2098)) (eVar 3)) (eVar 3))) (eC (.int 13494))) (eC (.int 5))) aNil)) (eC (.int 2147483563))) (tgN 6))
    (sRet (eOp dMod (eCall dInt (aCons (eOp dDiv (eVar 6) (eC (.int 32))) aNil)) (eVar 1)))))))))))
def m__law_draw : List D → M D := bodyM 7 g__law_draw
theorem own__law_draw (h : DefInD K mg "_law_draw" s__law_draw []) (T : Txt Pg K mg cl)  : OwnQ CX0 Pg w K mg base 1 "_law_draw" s__law_draw ["pen", "many"] [] (spM K cl 2 m__law_draw) :=
  own_q0 h sc__law_draw (fun _ _ _ _ h => spM.len h) fun f cd A ou s H vs Q E r g h => by
    refine ⟨_, (pss_cons (ps_if (pt_cmpR op_gt (pe_ix (k_ixL (K := K) rfl) (pv 0) pe_int (fun _ _ => rfl)) pe_int (nomark _)) (pss_cons (ps_set (i := 2) sc__law_draw.nd rfl (Or.inl rfl) (pe_callTy call_int1 (by rfl) T.b_int (by decide +kernel) (pa_cons (pe_ix (k_ixL (K := K) rfl) (pv 0) pe_int (fun _ _ => rfl)) pa_nil)))
      (pss_cons (ps_asg (pe_op op_fdivN (pv 2) (pv 1)) (pg_sub (pv 0) pe_int set_list))
      (pss_one (ps_ret (pe_op op_modN (pe_callTy call_int1 (by rfl) T.b_int (by decide +kernel) (pa_cons (pv 2) pa_nil)) (pv 1)))))) pss_nil)
      (pss_cons (ps_set (i := 3) sc__law_draw.nd rfl (Or.inl rfl) (pe_ix (k_ixL (K := K) rfl) (pv 0) pe_int (fun _ _ => rfl)))
      (pss_cons (ps_asg (pe_op op_add (pv 3) pe_int) (pg_sub (pv 0) pe_int set_list))
      (pss_cons (ps_set (i := 4) sc__law_draw.nd rfl (Or.inl rfl) (pe_op op_add (pe_op op_mul pe_int (pv 3)) pe_int))
      (pss_cons (ps_if (pt_cmpR (k_neD (K := K) rfl r.units) (pe_ix (k_ixL (K := K) rfl) (pv 0) pe_int (fun _ _ => rfl)) (pe_lst pa_nil) (nomark _)) (pss_one (ps_set (i := 4) sc__law_draw.nd rfl (Or.inl rfl) (pe_ix (k_ixL (K := K) rfl) (pe_ix (k_ixL (K := K) rfl) (pv 0) pe_int (fun _ _ => rfl)) (pe_op op_modN (pe_callTy call_int1 (by rfl) T.b_int (by decide +kernel) (pa_cons (pv 3) pa_nil)) (pe_callB (k_len (K := K) rfl) (by rfl) T.b_len (by decide +kernel) (pa_cons (pe_ix (k_ixL (K := K) rfl) (pv 0) pe_int (fun _ _ => rfl)) pa_nil))) (fun _ _ => rfl)))) pss_nil)
      (pss_cons (ps_if (PW.pt (pw_and (pt_cmpR op_lt (pv 3) (pe_callB (k_len (K := K) rfl) (by rfl) T.b_len (by decide +kernel) (pa_cons (pe_ix (k_ixL (K := K) rfl) (pv 0) pe_int (fun _ _ => rfl)) pa_nil)) (nomark _)) (pw_and1 (pt_cmpR op_ge (pe_callB call_abs (by rfl) T.b_abs (by decide +kernel) (pa_cons (pv 4) pa_nil)) (pe_op op_pow pe_int pe_int) (nomark _))))) (pss_cons (ps_set (i := 5) sc__law_draw.nd rfl (Or.inl rfl) (pe_op op_add (pe_op op_mul pe_int (pe_op op_sub (pe_callB call_abs (by rfl) T.b_abs (by decide +kernel) (pa_cons (pv 4) pa_nil)) (pe_op op_pow pe_int pe_int))) (pe_callTy call_int1 (by rfl) T.b_int (by decide +kernel) (pa_cons (pe_cmpR op_lt (pv 4) pe_int (nomark _)) pa_nil))))
      (pss_cons (ps_asg (pe_op op_fdivN (pe_callTy call_int1 (by rfl) T.b_int (by decide +kernel) (pa_cons (pv 5) pa_nil)) (pv 1)) (pg_sub (pv 0) pe_int set_list))
      (pss_one (ps_ret (pe_op op_modN (pe_callTy call_int1 (by rfl) T.b_int (by decide +kernel) (pa_cons (pv 5) pa_nil)) (pv 1)))))) pss_nil)
      (pss_cons (ps_set (i := 6) sc__law_draw.nd rfl (Or.inl rfl) (pe_op op_modN (pe_callTy call_int1 (by rfl) T.b_int (by decide +kernel) (pa_cons (pe_op op_pow (pe_op op_add (pe_op op_add (pe_op op_modN (pe_callTy call_int1 (by rfl) T.b_int (by decide +kernel) (pa_cons (pv 4) pa_nil)) pe_int) (pe_op op_mul pe_int (pv 3))) pe_int) pe_int) pa_nil)) pe_int))
      (pss_cons (ps_set (i := 6) sc__law_draw.nd rfl (Or.inl rfl) (pe_op op_modN (pe_callTy call_int1 (by rfl) T.b_int (by decide +kernel) (pa_cons (pe_op op_pow (pe_op op_add (pe_op op_add (pe_op op_mul (pv 6) (pe_op op_add (pe_op op_mul pe_int (pv 3)) pe_int)) (pe_op op_mul (pe_op op_mul pe_int (pv 3)) (pv 3))) pe_int) pe_int) pa_nil)) pe_int))
      (pss_one (ps_ret (pe_op op_modN (pe_callTy call_int1 (by rfl) T.b_int (by decide +kernel) (pa_cons (pe_op op_fdivN (pv 6) pe_int) pa_nil)) (pv 1)))))))))))), ?_⟩
    exact body_ok (N := N__law_draw) (fun pa ca tt => (js_seq (js_if (jt_test (j_op jr_gt j_pen j_int)) (js_seq (js_asg (j_cb jc_int (ja_cons j_pen ja_nil)) (jg_name 2))
      (js_seq (js_pen (j_op jr_div (j_var 2) (j_var 1)))
      (js_ret (j_op jr_mod (j_cb jc_int (ja_cons (j_var 2) ja_nil)) (j_var 1))))) js_nil)
      (js_seq (js_asg j_pen (jg_name 3))
      (js_seq (js_pen (j_op jr_add (j_var 3) j_int))
      (js_seq (js_asg (j_op jr_add (j_op jr_mul j_int (j_var 3)) j_int) (jg_name 4))
      (js_seq (js_if (jt_test (j_op jr_neD j_pen (j_lst ja_nil))) (js_asg (j_op jr_ixL j_pen (j_op jr_mod (j_cb jc_int (ja_cons (j_var 3) ja_nil)) (j_cb jc_len (ja_cons j_pen ja_nil)))) (jg_name 4)) js_nil)
      (js_seq (js_if (jt_and (jt_test (j_op jr_lt (j_var 3) (j_cb jc_len (ja_cons j_pen ja_nil)))) (jt_test (j_op jr_ge (j_cb jc_abs (ja_cons (j_var 4) ja_nil)) (j_op jr_pow j_int j_int)))) (js_seq (js_asg (j_op jr_add (j_op jr_mul j_int (j_op jr_sub (j_cb jc_abs (ja_cons (j_var 4) ja_nil)) (j_op jr_pow j_int j_int))) (j_cb jc_int (ja_cons (j_op jr_lt (j_var 4) j_int) ja_nil))) (jg_name 5))
      (js_seq (js_pen (j_op jr_div (j_cb jc_int (ja_cons (j_var 5) ja_nil)) (j_var 1)))
      (js_ret (j_op jr_mod (j_cb jc_int (ja_cons (j_var 5) ja_nil)) (j_var 1))))) js_nil)
      (js_seq (js_asg (j_op jr_mod (j_cb jc_int (ja_cons (j_op jr_pow (j_op jr_add (j_op jr_add (j_op jr_mod (j_cb jc_int (ja_cons (j_var 4) ja_nil)) j_int) (j_op jr_mul j_int (j_var 3))) j_int) j_int) ja_nil)) j_int) (jg_name 6))
      (js_seq (js_asg (j_op jr_mod (j_cb jc_int (ja_cons (j_op jr_pow (j_op jr_add (j_op jr_add (j_op jr_mul (j_var 6) (j_op jr_add (j_op jr_mul j_int (j_var 3)) j_int)) (j_op jr_mul (j_op jr_mul j_int (j_var 3)) (j_var 3))) j_int) j_int) ja_nil)) j_int) (jg_name 6))
      (js_ret (j_op jr_mod (j_cb jc_int (ja_cons (j_op jr_div (j_var 6) j_int) ja_nil)) (j_var 1)))))))))))) h
def sh__law_draw_2 : List Src := [.pos 0, .pos 1]
theorem ks__law_draw_2 {K : PySem.W.Frag} : ∀ f fd, DefD K "_law_draw" "_law_draw" s__law_draw [] f fd → ShK K fd ["pen", "many"] 2 [] sh__law_draw_2 [] := fun f fd F => F.sh0 fun _ _ _ _ _ _ us ws h1 h2 => match us, ws, h1, h2 with | [_, _], [], _, _ => rfl
/-! ### _law_pick -/
abbrev s__law_pick : Stmt := top 69
def N__law_pick : List Str := ["pen", "some"]
theorem sc__law_pick : FnScope N__law_pick ["pen", "some"] (defScope s__law_pick) := ⟨rfl, rfl, rfl, by decide +kernel, rfl, by decide +kernel, by decide +kernel⟩
def g__law_pick : Sl → M (Out × Sl) := (sRet (eOp dIxL (eVar 1) (eCl 2 0 2 m__law_draw sh__law_draw_2 [] (aCons (eVar 0) (aCons (eCall dLen (aCons (eVar 1) aNil)) aNil)) aNil)))
def m__law_pick : List D → M D := bodyM 2 g__law_pick
theorem own__law_pick (h : DefInD K mg "_law_pick" s__law_pick []) (T : Txt Pg K mg cl) (o__law_draw_2 : OwnC CX0 Pg w K mg base 1 "_law_draw" ["pen", "many"] 2 [] sh__law_draw_2 [] (spM K cl 2 m__law_draw)) : OwnQ CX0 Pg w K mg base 2 "_law_pick" s__law_pick ["pen", "some"] [] (spM K cl 2 m__law_pick) :=
  own_q0 h sc__law_pick (fun _ _ _ _ h => spM.len h) fun f cd A ou s H vs Q E r g h => by
    refine ⟨_, (pss_one (ps_ret (pe_ix (k_ixL (K := K) rfl) (pv 1) (k_c1 (K := K) rfl o__law_draw_2 (r.mono (by decide)) g pass0 (pa_cons (pv 0) (pa_cons (pe_callB (k_len (K := K) rfl) (by rfl) T.b_len (by decide +kernel) (pa_cons (pv 1) pa_nil)) pa_nil)) pk_nil) (fun _ _ => rfl)))), ?_⟩
    exact body_ok (N := N__law_pick) (fun pa ca tt => (js_ret (j_op jr_ixL (j_var 1) (j_cl (ja_cons (j_var 0) (ja_cons (j_cb jc_len (ja_cons (j_var 1) ja_nil)) ja_nil)) ja_nil)))) h
/-! ### _law_heard -/
abbrev s__law_heard : Stmt := top 70
def N__law_heard : List Str := ["ask", "caught", "error", "kinds"]
theorem sc__law_heard : FnScope N__law_heard ["ask"] (defScope s__law_heard) := ⟨rfl, rfl, rfl, by decide +kernel, rfl, by decide +kernel, by decide +kernel⟩
def g__law_heard : Sl → M (Out × Sl) := (sSeq (sIf (bTest (eOp dIsN (eVar 1) (eC .non))) (sRet (eC .non)) sNx)
    (sSeq (sIf (bTest (eIsX cs0 sub0 "TooMany" (eVar 1))) (sRet (eTup (aCons (eC (.str "many")) (aCons (eFldX cs_what "what" (eVar 1)) (aCons (eFldX cs_most "most" (eVar 1)) aNil))))) sNx)
    (sSeq (sIf (bTest (eIsX cs0 sub0 "BadText" (eVar 1))) (sRet (eTup (aCons (eC (.str "text")) (aCons (eFldX cs_line "line" (eVar 1)) (aCons (eFldX cs_word "word" (eVar 1)) aNil))))) sNx)
    (sSeq (sIf (bTest (eIsX cs0 sub0 "BadChange" (eVar 1))) (sRet (eTup (aCons (eC (.str "change")) (aCons (eCall dRepr (aCons (eFldX cs_value "value" (eVar 1)) aNil)) aNil)))) sNx)
    (sSeq (sIf (bTest (eIsX cs0 sub0 "NoHost" (eVar 1))) (sRet (eTup (aCons (eC (.str "host")) (aCons (eCall dRepr (aCons (eFldX cs_place "place" (eVar 1)) aNil)) aNil)))) sNx)
    (sSeq (sAsg (eLst (aCons (eIsX cs0 sub0 "BadName" (eVar 1)) (aCons (eIsX cs0 sub0 "BadNumber" (eVar 1)) (aCons (eIsX cs0 sub0 "BadBook" (eVar 1)) (aCons (eIsX cs0 sub0 "BadRow" (eVar 1)) (aCons (eIsX cs0 sub0 "BadRule" (eVar 1)) aNil)))))) (tgN 3))
    (sSeq (sAsg (eOp dCatL (eVar 3) (eLst (aCons (eIsX cs0 sub0 "BadAsk" (eVar 1)) (aCons (eIsX cs0 sub0 "Clashing" (eVar 1)) aNil)))) (tgN 3))
    (sSeq (sIf (bTest (eOp dNe (eOp dCntF (eVar 3) (eC (.bl true))) (eC (.int 1)))) (sRet (eTup (aCons (eC (.str "other")) aNil))) sNx)
    (sRet (eTup (aCons (eOp dIxL (eLst (aCons (eC (.str "name")) (aCons (eC (.str "number")) (aCons (eC (.str "book")) (aCons (eC (.str "row")) (aCons (eC (.str "rule")) (aCons (eC (.str "ask")) (aCons (eC (.str "clash")) aNil)))))))) (eOp dIdxF (eVar 3) (eC (.bl true)))) (aCons (eFldX cs_part "part" (eVar 1)) aNil))))))))))))
theorem heard_law {Nl : List Str} {ql : Str} {scl : Scope} {fl : Addr} {cdl : Value} {A : Around} {ou : List Env} {sl : Shared} {Hl : Hp} {El : XK} (T : Txt Pg K mg cl) (r0 : Room 2 (A.deeper (envOfC ql scl sl.heap.objs.size fl cdl))) (g0 : A.guards = some []) :
    ∃ tr, (∀ q g cd, LamX.GivesTo (cxOf CX0 Pg w K mg base Nl ql scl fl cdl A ou sl Hl El).nox N__law_heard "_law_heard" (defScope s__law_heard) g cd (defBody s__law_heard) "ask" q (TTh K (.ref (cl "TrueError")) 4 1 tr)) ∧ ∀ P : Par, P.K = K → P.cl = cl → JS P tr g__law_heard := by
  refine ⟨_, fun q gg cd => heard_gives (X := (cxOf CX0 Pg w K mg base Nl ql scl fl cdl A ou sl Hl El).nox) (Ng := N__law_heard) (CT := .ref (cl "TrueError")) (i := 2) (j := 1) (by decide +kernel) (fun _ => rfl) (fun _ => rfl) rfl rfl rfl rfl (by decide) rfl T.x_TrueError rfl (fun s H => have r : Room 1 ((A.deeper (envOfC ql scl sl.heap.objs.size fl cdl)).deeper (envOfC "_law_heard" (defScope s__law_heard) s.heap.objs.size gg cd)) := r0.deeper _; have g : A.guards = some [] := g0; (pss_cons (ps_if (pt_cmpR op_isN (pv 1) pe_non (nomark _)) (pss_one (ps_ret pe_non)) pss_nil)
      (pss_cons (ps_if (pt_val (pe_callB (k_isX (K := K) rfl) (by rfl) T.b_isinstance (by decide +kernel) (pa_cons (pv 1) (pa_cons (pe_glob (v := .ref (cl "TooMany")) (by rfl) T.x_TooMany rfl) pa_nil)))) (pss_one (ps_ret (pe_tup (pa_cons pe_str (pa_cons (pe_fldK (K := K) rfl (pv 1)) (pa_cons (pe_fldK (K := K) rfl (pv 1)) pa_nil)))))) pss_nil)
      (pss_cons (ps_if (pt_val (pe_callB (k_isX (K := K) rfl) (by rfl) T.b_isinstance (by decide +kernel) (pa_cons (pv 1) (pa_cons (pe_glob (v := .ref (cl "BadText")) (by rfl) T.x_BadText rfl) pa_nil)))) (pss_one (ps_ret (pe_tup (pa_cons pe_str (pa_cons (pe_fldK (K := K) rfl (pv 1)) (pa_cons (pe_fldK (K := K) rfl (pv 1)) pa_nil)))))) pss_nil)
      (pss_cons (ps_if (pt_val (pe_callB (k_isX (K := K) rfl) (by rfl) T.b_isinstance (by decide +kernel) (pa_cons (pv 1) (pa_cons (pe_glob (v := .ref (cl "BadChange")) (by rfl) T.x_BadChange rfl) pa_nil)))) (pss_one (ps_ret (pe_tup (pa_cons pe_str (pa_cons (pe_callB (k_repr (K := K) rfl g r.units) (by rfl) T.b_repr (by decide +kernel) (pa_cons (pe_fldK (K := K) rfl (pv 1)) pa_nil)) pa_nil))))) pss_nil)
      (pss_cons (ps_if (pt_val (pe_callB (k_isX (K := K) rfl) (by rfl) T.b_isinstance (by decide +kernel) (pa_cons (pv 1) (pa_cons (pe_glob (v := .ref (cl "NoHost")) (by rfl) T.x_NoHost rfl) pa_nil)))) (pss_one (ps_ret (pe_tup (pa_cons pe_str (pa_cons (pe_callB (k_repr (K := K) rfl g r.units) (by rfl) T.b_repr (by decide +kernel) (pa_cons (pe_fldK (K := K) rfl (pv 1)) pa_nil)) pa_nil))))) pss_nil)
      (pss_cons (ps_set (i := 3) sc__law_heard.nd rfl (Or.inl rfl) (pe_lst (pa_cons (pe_callB (k_isX (K := K) rfl) (by rfl) T.b_isinstance (by decide +kernel) (pa_cons (pv 1) (pa_cons (pe_glob (v := .ref (cl "BadName")) (by rfl) T.x_BadName rfl) pa_nil))) (pa_cons (pe_callB (k_isX (K := K) rfl) (by rfl) T.b_isinstance (by decide +kernel) (pa_cons (pv 1) (pa_cons (pe_glob (v := .ref (cl "BadNumber")) (by rfl) T.x_BadNumber rfl) pa_nil))) (pa_cons (pe_callB (k_isX (K := K) rfl) (by rfl) T.b_isinstance (by decide +kernel) (pa_cons (pv 1) (pa_cons (pe_glob (v := .ref (cl "BadBook")) (by rfl) T.x_BadBook rfl) pa_nil))) (pa_cons (pe_callB (k_isX (K := K) rfl) (by rfl) T.b_isinstance (by decide +kernel) (pa_cons (pv 1) (pa_cons (pe_glob (v := .ref (cl "BadRow")) (by rfl) T.x_BadRow rfl) pa_nil))) (pa_cons (pe_callB (k_isX (K := K) rfl) (by rfl) T.b_isinstance (by decide +kernel) (pa_cons (pv 1) (pa_cons (pe_glob (v := .ref (cl "BadRule")) (by rfl) T.x_BadRule rfl) pa_nil))) pa_nil)))))))
      (pss_cons (ps_set (i := 3) sc__law_heard.nd rfl (Or.inl rfl) (pe_op op_cat (pv 3) (pe_lst (pa_cons (pe_callB (k_isX (K := K) rfl) (by rfl) T.b_isinstance (by decide +kernel) (pa_cons (pv 1) (pa_cons (pe_glob (v := .ref (cl "BadAsk")) (by rfl) T.x_BadAsk rfl) pa_nil))) (pa_cons (pe_callB (k_isX (K := K) rfl) (by rfl) T.b_isinstance (by decide +kernel) (pa_cons (pv 1) (pa_cons (pe_glob (v := .ref (cl "Clashing")) (by rfl) T.x_Clashing rfl) pa_nil))) pa_nil)))))
      (pss_cons (ps_if (pt_cmpR op_ne (pe_bmK (K := K) rfl PySem.F.plainAttrs_list PySem.F.slot_list_count PySem.F.type_list_count (k_countF (K := K) rfl) (pv 3) (pa_cons pe_bl pa_nil)) pe_int (nomark _)) (pss_one (ps_ret (pe_tup (pa_cons pe_str pa_nil)))) pss_nil)
      (pss_one (ps_ret (pe_tup (pa_cons (pe_ix (k_ixL (K := K) rfl) (pe_lst (pa_cons pe_str (pa_cons pe_str (pa_cons pe_str (pa_cons pe_str (pa_cons pe_str (pa_cons pe_str (pa_cons pe_str pa_nil)))))))) (pe_bmK (K := K) rfl PySem.F.plainAttrs_list PySem.F.slot_list_index PySem.F.type_list_index (k_indexF (K := K) rfl) (pv 3) (pa_cons pe_bl pa_nil)) (fun _ _ => rfl)) (pa_cons (pe_fldK (K := K) rfl (pv 1)) pa_nil)))))))))))))) (fun _ => by rfl) (fun _ => by rfl), ?_⟩
  rintro ⟨_, pa, ca, _, tt⟩ rfl rfl
  exact (js_seq (js_if (jt_test (j_op jr_isN (j_var 1) j_non)) (js_ret j_non) js_nil)
      (js_seq (js_if (jt_val (j_isX (cs := cs0) (sub := sub0) (j_var 1) (fun c hc => T.xi_TooMany c hc))) (js_ret (j_tup (ja_cons j_str (ja_cons (j_fldX (cs := cs_what) (j_var 1) (fun c hc => T.xf_what c hc)) (ja_cons (j_fldX (cs := cs_most) (j_var 1) (fun c hc => T.xf_most c hc)) ja_nil))))) js_nil)
      (js_seq (js_if (jt_val (j_isX (cs := cs0) (sub := sub0) (j_var 1) (fun c hc => T.xi_BadText c hc))) (js_ret (j_tup (ja_cons j_str (ja_cons (j_fldX (cs := cs_line) (j_var 1) (fun c hc => T.xf_line c hc)) (ja_cons (j_fldX (cs := cs_word) (j_var 1) (fun c hc => T.xf_word c hc)) ja_nil))))) js_nil)
      (js_seq (js_if (jt_val (j_isX (cs := cs0) (sub := sub0) (j_var 1) (fun c hc => T.xi_BadChange c hc))) (js_ret (j_tup (ja_cons j_str (ja_cons (j_cb jc_repr (ja_cons (j_fldX (cs := cs_value) (j_var 1) (fun c hc => T.xf_value c hc)) ja_nil)) ja_nil)))) js_nil)
      (js_seq (js_if (jt_val (j_isX (cs := cs0) (sub := sub0) (j_var 1) (fun c hc => T.xi_NoHost c hc))) (js_ret (j_tup (ja_cons j_str (ja_cons (j_cb jc_repr (ja_cons (j_fldX (cs := cs_place) (j_var 1) (fun c hc => T.xf_place c hc)) ja_nil)) ja_nil)))) js_nil)
      (js_seq (js_asg (j_lst (ja_cons (j_isX (cs := cs0) (sub := sub0) (j_var 1) (fun c hc => T.xi_BadName c hc)) (ja_cons (j_isX (cs := cs0) (sub := sub0) (j_var 1) (fun c hc => T.xi_BadNumber c hc)) (ja_cons (j_isX (cs := cs0) (sub := sub0) (j_var 1) (fun c hc => T.xi_BadBook c hc)) (ja_cons (j_isX (cs := cs0) (sub := sub0) (j_var 1) (fun c hc => T.xi_BadRow c hc)) (ja_cons (j_isX (cs := cs0) (sub := sub0) (j_var 1) (fun c hc => T.xi_BadRule c hc)) ja_nil)))))) (jg_name 3))
      (js_seq (js_asg (j_op jr_catL (j_var 3) (j_lst (ja_cons (j_isX (cs := cs0) (sub := sub0) (j_var 1) (fun c hc => T.xi_BadAsk c hc)) (ja_cons (j_isX (cs := cs0) (sub := sub0) (j_var 1) (fun c hc => T.xi_Clashing c hc)) ja_nil)))) (jg_name 3))
      (js_seq (js_if (jt_test (j_op jr_ne (j_cntF (j_var 3) j_bl) j_int)) (js_ret (j_tup (ja_cons j_str ja_nil))) js_nil)
      (js_ret (j_tup (ja_cons (j_op jr_ixL (j_lst (ja_cons j_str (ja_cons j_str (ja_cons j_str (ja_cons j_str (ja_cons j_str (ja_cons j_str (ja_cons j_str ja_nil)))))))) (j_idxF (j_var 3) j_bl)) (ja_cons (j_fldX (cs := cs_part) (j_var 1) (fun c hc => T.xf_part c hc)) ja_nil))))))))))))
def sh__law_pick_2 : List Src := [.pos 0, .pos 1]
theorem ks__law_pick_2 {K : PySem.W.Frag} : ∀ f fd, DefD K "_law_pick" "_law_pick" s__law_pick [] f fd → ShK K fd ["pen", "some"] 2 [] sh__law_pick_2 [] := fun f fd F => F.sh0 fun _ _ _ _ _ _ us ws h1 h2 => match us, ws, h1, h2 with | [_, _], [], _, _ => rfl
/-! ### _law_first -/
abbrev s__law_first : Stmt := top 71
def N__law_first : List Str := ["pen", "parts", "at", "found", "spot", "name", "low", "high", "wrong"]
theorem sc__law_first : FnScope N__law_first ["pen", "parts"] (defScope s__law_first) := ⟨rfl, rfl, rfl, by decide +kernel, rfl, by decide +kernel, by decide +kernel⟩
def g__law_first : Sl → M (Out × Sl) := (sSeq (sParOw2 2 3 (eCl 2 0 2 m__law_draw sh__law_draw_2 [] (aCons (eVar 0) (aCons (eCall dLen (aCons (eVar 1) aNil)) aNil)) aNil) (lLst aNil))
    (sSeq (sForI (iEn (aCons (eVar 1) aNil)) (tgTup 2 (tgCons (tgN 4) (tgCons (tgTup 3 (tgCons (tgN 5) (tgCons (tgN 6) (tgCons (tgN 7) tgNil)))) tgNil)))
    (sSeq (sAsg (eCl 2 0 2 m__law_pick sh__law_pick_2 [] (aCons (eVar 0) (aCons (eLst (aCons (eC .non) (aCons (eOp dSub (eVar 6) (eC (.int 1))) (aCons (eOp dAdd (eVar 7) (eC (.int 1))) (aCons (eC (.bl true)) (aCons (eCall dStrI (aCons (eVar 6) aNil)) (aCons (eTup (aCons (eVar 6) aNil)) (aCons (eOp dPow (eC (.int 10)) (eC (.int 30))) aNil)))))))) aNil)) aNil) (tgN 8))
    (sApp 3 (eIf (bTest (eOp dLt (eVar 4) (eVar 2))) (eVar 6) (eVar 8)))))
    (fun s => (sRet (eTup (aCons (eVar 3) (aCons (eTup (aCons (eC (.str "number")) (aCons (eOp dIxT (eOp dIxL (eVar 1) (eVar 2)) (eC (.int 0))) aNil))) aNil)))) (frzS 3 s))))
def m__law_first : List D → M D := bodyM 9 g__law_first
theorem own__law_first (h : DefInD K mg "_law_first" s__law_first []) (T : Txt Pg K mg cl) (o__law_draw_2 : OwnC CX0 Pg w K mg base 1 "_law_draw" ["pen", "many"] 2 [] sh__law_draw_2 [] (spM K cl 2 m__law_draw)) (o__law_pick_2 : OwnC CX0 Pg w K mg base 2 "_law_pick" ["pen", "some"] 2 [] sh__law_pick_2 [] (spM K cl 2 m__law_pick)) : OwnQ CX0 Pg w K mg base 3 "_law_first" s__law_first ["pen", "parts"] [] (spM K cl 2 m__law_first) :=
  own_q0 h sc__law_first (fun _ _ _ _ h => spM.len h) fun f cd A ou s H vs Q E r g h => by
    refine ⟨_, (pss_cons (ps_par (i := 2) (j := 3) (by rfl) sc__law_first.nd rfl rfl (by decide) rfl rfl (pa_cons (k_c1 (K := K) rfl o__law_draw_2 (r.mono (by decide)) g pass0 (pa_cons (pv 0) (pa_cons (pe_callB (k_len (K := K) rfl) (by rfl) T.b_len (by decide +kernel) (pa_cons (pv 1) pa_nil)) pa_nil)) pk_nil) (pa_cons (pe_lst pa_nil) pa_nil)) (by rfl))
      (pss_cons (ps_for PassesOwn.never rfl (k_piEnum (K := K) rfl (by rfl) T.b_enumerate (pa_cons (pv 1) pa_nil)) (k_pgT (K := K) rfl rfl (pgs_cons (pg_name (i := 4) sc__law_first.nd rfl (Or.inl rfl)) (pgs_cons (k_pgT (K := K) rfl rfl (pgs_cons (pg_name (i := 5) sc__law_first.nd rfl (Or.inl rfl)) (pgs_cons (pg_name (i := 6) sc__law_first.nd rfl (Or.inl rfl)) (pgs_cons (pg_name (i := 7) sc__law_first.nd rfl (Or.inl rfl)) pgs_nil)))) pgs_nil)))
      (pss_cons (ps_set (i := 8) sc__law_first.nd rfl (Or.inl rfl) (k_c1 (K := K) rfl o__law_pick_2 (r.mono (by decide)) g pass0 (pa_cons (pv 0) (pa_cons (pe_lst (pa_cons pe_non (pa_cons (pe_op op_sub (pv 6) pe_int) (pa_cons (pe_op op_add (pv 7) pe_int) (pa_cons pe_bl (pa_cons (pe_callTy call_str_int (by rfl) T.b_str (by decide +kernel) (pa_cons (pv 6) pa_nil)) (pa_cons (pe_tup (pa_cons (pv 6) pa_nil)) (pa_cons (pe_op op_pow pe_int pe_int) pa_nil)))))))) pa_nil)) pk_nil))
      (pss_one (ps_expr (pe_bm PySem.F.plainAttrs_list PySem.F.slot_list_append PySem.F.type_list_append mt_append (pv 3) (pa_cons (pe_ifExp (pt_cmpR op_lt (pv 4) (pv 2) (nomark _)) (pv 6) (pv 8)) pa_nil))))))
      (pss_one (ps_ret (pe_tup (pa_cons (pv 3) (pa_cons (pe_tup (pa_cons pe_str (pa_cons (pe_ix (k_ixT (K := K) rfl) (pe_ix (k_ixL (K := K) rfl) (pv 1) (pv 2) (fun _ _ => rfl)) pe_int (fun _ _ => rfl)) pa_nil))) pa_nil))))))), ?_⟩
    exact body_ok (N := N__law_first) (fun pa ca tt => (js_seq (js_parOw2 (j_cl (ja_cons (j_var 0) (ja_cons (j_cb jc_len (ja_cons (j_var 1) ja_nil)) ja_nil)) ja_nil) (jl_lst ja_nil))
      (js_seq (js_forI (ji_enum (ja_cons (j_var 1) ja_nil)) (jg_tup (jgs_cons (jg_name 4) (jgs_cons (jg_tup (jgs_cons (jg_name 5) (jgs_cons (jg_name 6) (jgs_cons (jg_name 7) jgs_nil)))) jgs_nil)))
      (js_seq (js_asg (j_cl (ja_cons (j_var 0) (ja_cons (j_lst (ja_cons j_non (ja_cons (j_op jr_sub (j_var 6) j_int) (ja_cons (j_op jr_add (j_var 7) j_int) (ja_cons j_bl (ja_cons (j_cb jc_strI (ja_cons (j_var 6) ja_nil)) (ja_cons (j_tup (ja_cons (j_var 6) ja_nil)) (ja_cons (j_op jr_pow j_int j_int) ja_nil)))))))) ja_nil)) ja_nil) (jg_name 8))
      (js_app (i := 3) (j_if (jt_test (j_op jr_lt (j_var 4) (j_var 2))) (j_var 6) (j_var 8)))))
      (js_frz 3 (js_ret (j_tup (ja_cons (j_var 3) (ja_cons (j_tup (ja_cons j_str (ja_cons (j_op jr_ixT (j_op jr_ixL (j_var 1) (j_var 2)) j_int) ja_nil))) ja_nil)))))))) h
def sh__law_first_2 : List Src := [.pos 0, .pos 1]
theorem ks__law_first_2 {K : PySem.W.Frag} : ∀ f fd, DefD K "_law_first" "_law_first" s__law_first [] f fd → ShK K fd ["pen", "parts"] 2 [] sh__law_first_2 [] := fun f fd F => F.sh0 fun _ _ _ _ _ _ us ws h1 h2 => match us, ws, h1, h2 with | [_, _], [], _, _ => rfl
def sh_plain_rule_5 : List Src := [.pos 0, .pos 1, .pos 2, .pos 3, .pos 4]
theorem ks_plain_rule_5 {K : PySem.W.Frag} : ∀ f fd, DefD K "plain_rule" "plain_rule" s_plain_rule dd_plain_rule f fd → ShK K fd ["copies", "read", "keep", "liars", "falls"] 5 [] sh_plain_rule_5 dd_plain_rule := fun f fd F => F.shD (List.cons_ne_nil _ _) fun _ _ _ _ _ _ _ us ws its h1 h2 h3 => match us, ws, its, h1, h2, h3 with | [_, _, _, _, _], [], [_, _], _, _, _ => ⟨_, rfl, rfl⟩
def sh_plain_ends_5 : List Src := [.pos 0, .pos 1, .pos 2, .pos 3, .pos 4]
theorem ks_plain_ends_5 {K : PySem.W.Frag} : ∀ f fd, DefD K "plain_ends" "plain_ends" s_plain_ends [] f fd → ShK K fd ["copies", "read", "keep", "liars", "falls"] 5 [] sh_plain_ends_5 [] := fun f fd F => F.sh0 fun _ _ _ _ _ _ us ws h1 h2 => match us, ws, h1, h2 with | [_, _, _, _, _], [], _, _ => rfl
def sh_plain_pairs_4 : List Src := [.pos 0, .pos 1, .pos 2, .pos 3]
theorem ks_plain_pairs_4 {K : PySem.W.Frag} : ∀ f fd, DefD K "plain_pairs" "plain_pairs" s_plain_pairs [] f fd → ShK K fd ["copies", "liars", "falls", "changes"] 4 [] sh_plain_pairs_4 [] := fun f fd F => F.sh0 fun _ _ _ _ _ _ us ws h1 h2 => match us, ws, h1, h2 with | [_, _, _, _], [], _, _ => rfl
def sh_least_plain_3 : List Src := [.pos 0, .pos 1, .pos 2]
theorem ks_least_plain_3 {K : PySem.W.Frag} : ∀ f fd, DefD K "least_plain" "least_plain" s_least_plain [] f fd → ShK K fd ["liars", "falls", "changes"] 3 [] sh_least_plain_3 [] := fun f fd F => F.sh0 fun _ _ _ _ _ _ us ws h1 h2 => match us, ws, h1, h2 with | [_, _, _], [], _, _ => rfl
def sh_plain_bears_3 : List Src := [.pos 0, .pos 1, .pos 2]
theorem ks_plain_bears_3 {K : PySem.W.Frag} : ∀ f fd, DefD K "plain_bears" "plain_bears" s_plain_bears [] f fd → ShK K fd ["one", "other", "changes"] 3 [] sh_plain_bears_3 [] := fun f fd F => F.sh0 fun _ _ _ _ _ _ us ws h1 h2 => match us, ws, h1, h2 with | [_, _, _], [], _, _ => rfl
def sh_plain_rule_3 : List Src := [.pos 0, .pos 1, .pos 2, .dft 0, .dft 1]
theorem ks_plain_rule_3 {K : PySem.W.Frag} : ∀ f fd, DefD K "plain_rule" "plain_rule" s_plain_rule dd_plain_rule f fd → ShK K fd ["copies", "read", "keep", "liars", "falls"] 3 [] sh_plain_rule_3 dd_plain_rule := fun f fd F => F.shD (List.cons_ne_nil _ _) fun _ _ _ _ _ _ _ us ws its h1 h2 h3 => match us, ws, its, h1, h2, h3 with | [_, _, _], [], [_, _], _, _, _ => ⟨_, rfl, rfl⟩
/-! ### law -/
abbrev s_law : Stmt := top 72
def N_law : List Str := ["script", "pen", "plain", "rest", "turn", "due", "heard", "bad", "right", "some"]
theorem sc_law : FnScope N_law ["script"] (defScope s_law) := ⟨rfl, rfl, rfl, by decide +kernel, rfl, by decide +kernel, by decide +kernel⟩
def g_law : Sl → M (Out × Sl) := (sSeq (sPar 2 3 (aCons (eLst (aCons (eTup (aCons (eC (.str "copies")) (aCons (eC (.int 1)) (aCons (eC (.int 5)) aNil)))) (aCons (eTup (aCons (eC (.str "read")) (aCons (eC (.int 1)) (aCons (eC (.int 1)) aNil)))) (aCons (eTup (aCons (eC (.str "keep")) (aCons (eC (.int 1)) (aCons (eC (.int 1)) aNil)))) aNil)))) (aCons (eLst (aCons (eTup (aCons (eC (.str "liars")) (aCons (eC (.int 0)) (aCons (eC (.int 5)) aNil)))) (aCons (eTup (aCons (eC (.str "falls")) (aCons (eC (.int 0)) (aCons (eC (.int 5)) aNil)))) aNil))) aNil)))
    (sSeq (sForI (iRg rg1 (aCons (eC (.int 5)) aNil)) (tgN 4)
    (sSeq (sAsg (eCl 2 0 2 m__law_first sh__law_first_2 [] (aCons (eVar 1) (aCons (eOp dCatL (eVar 2) (eVar 3)) aNil)) aNil) (tgTup 2 (tgCons (tgN 9) (tgCons (tgN 5) tgNil))))
    (sSeq (sIf (bOr (bTest (eOp dNeD (fun s => heardM cs0 4 1 g__law_heard ((eCl 5 0 5 m_plain_rule sh_plain_rule_5 dd_plain_rule (aCons (eOp dIxL (eVar 9) (eC (.int 0))) (aCons (eOp dIxL (eVar 9) (eC (.int 1))) (aCons (eOp dIxL (eVar 9) (eC (.int 2))) (aCons (eOp dIxL (eVar 9) (eC (.int 3))) (aCons (eOp dIxL (eVar 9) (eC (.int 4))) aNil))))) aNil) s)) (eVar 5))) (bTest (eOp dNeD (fun s => heardM cs0 4 1 g__law_heard ((eCl 5 0 5 m_plain_ends sh_plain_ends_5 [] (aCons (eOp dIxL (eVar 9) (eC (.int 0))) (aCons (eOp dIxL (eVar 9) (eC (.int 1))) (aCons (eOp dIxL (eVar 9) (eC (.int 2))) (aCons (eOp dIxL (eVar 9) (eC (.int 3))) (aCons (eOp dIxL (eVar 9) (eC (.int 4))) aNil))))) aNil) s)) (eVar 5)))) (sRet (eC (.bl false))) sNx)
    (sSeq (sAsg (eCl 2 0 2 m__law_first sh__law_first_2 [] (aCons (eVar 1) (aCons (eOp dCatL (eOp dCatL (eLst (aCons (eOp dIxL (eVar 2) (eC (.int 0))) aNil)) (eVar 3)) (eLst (aCons (eTup (aCons (eC (.str "changes")) (aCons (eC (.int 0)) (aCons (eC (.int 5)) aNil)))) aNil))) aNil)) aNil) (tgTup 2 (tgCons (tgN 9) (tgCons (tgN 5) tgNil))))
    (sSeq (sIf (bTest (eOp dNeD (fun s => heardM cs0 4 1 g__law_heard ((eCl 4 0 4 m_plain_pairs sh_plain_pairs_4 [] (aCons (eOp dIxL (eVar 9) (eC (.int 0))) (aCons (eOp dIxL (eVar 9) (eC (.int 1))) (aCons (eOp dIxL (eVar 9) (eC (.int 2))) (aCons (eOp dIxL (eVar 9) (eC (.int 3))) aNil)))) aNil) s)) (eVar 5))) (sRet (eC (.bl false))) sNx)
    (sSeq (sAsg (eCl 2 0 2 m__law_first sh__law_first_2 [] (aCons (eVar 1) (aCons (eOp dCatL (eVar 3) (eLst (aCons (eTup (aCons (eC (.str "changes")) (aCons (eC (.int 0)) (aCons (eC (.int 5)) aNil)))) aNil))) aNil)) aNil) (tgTup 2 (tgCons (tgN 9) (tgCons (tgN 5) tgNil))))
    (sSeq (sIf (bTest (eOp dNeD (fun s => heardM cs0 4 1 g__law_heard ((eCl 3 0 3 m_least_plain sh_least_plain_3 [] (aCons (eOp dIxL (eVar 9) (eC (.int 0))) (aCons (eOp dIxL (eVar 9) (eC (.int 1))) (aCons (eOp dIxL (eVar 9) (eC (.int 2))) aNil))) aNil) s)) (eVar 5))) (sRet (eC (.bl false))) sNx)
    (sSeq (sAsg (eCl 2 0 2 m__law_first sh__law_first_2 [] (aCons (eVar 1) (aCons (eOp dCatL (eVar 2) (eSlL (eVar 3) oNone (oPart (eC (.int 1))))) aNil)) aNil) (tgTup 2 (tgCons (tgN 9) (tgCons (tgN 5) tgNil))))
    (sSeq (sAsg (eTup (aCons (eTup (aCons (eC (.int 3)) (aCons (eC (.int 2)) (aCons (eC (.int 2)) (aCons (eC (.int 0)) aNil))))) (aCons (eCl 2 0 2 m__law_pick sh__law_pick_2 [] (aCons (eVar 1) (aCons (eLst (aCons (eC .non) (aCons (eC (.int 5)) (aCons (eTup (aCons (eC (.int 3)) (aCons (eC (.int 2)) (aCons (eC (.int 2)) aNil)))) (aCons (eTup (aCons (eC (.int 3)) (aCons (eC (.int 2)) (aCons (eC (.int 2)) (aCons (eC (.int 0)) (aCons (eC (.int 0)) aNil)))))) (aCons (eC (.str "3220")) (aCons (eC (.dic [] [])) (aCons (eLst aNil) aNil)))))))) aNil)) aNil) aNil))) (tgTup 2 (tgCons (tgN 8) (tgCons (tgN 7) tgNil))))
    (sSeq (sAsg (eLst (aCons (fun s => heardM cs0 4 1 g__law_heard ((eCl 3 0 3 m_plain_bears sh_plain_bears_3 [] (aCons (eVar 7) (aCons (eVar 7) (aCons (eUn dNeg (eC (.int 1))) aNil))) aNil) s)) (aCons (fun s => heardM cs0 4 1 g__law_heard ((eCl 3 0 3 m_plain_bears sh_plain_bears_3 [] (aCons (eVar 8) (aCons (eVar 7) (aCons (eUn dNeg (eC (.int 1))) aNil))) aNil) s)) (aCons (fun s => heardM cs0 4 1 g__law_heard ((eCl 3 0 3 m_plain_bears sh_plain_bears_3 [] (aCons (eVar 8) (aCons (eCall dList (aCons (eVar 8) aNil)) (aCons (eC (.int 6)) aNil))) aNil) s)) aNil)))) (tgN 6))
    (sSeq (sIf (bTest (eOp dNeD (eVar 6) (eLst (aCons (eTup (aCons (eC (.str "number")) (aCons (eC (.str "one")) aNil))) (aCons (eTup (aCons (eC (.str "number")) (aCons (eC (.str "other")) aNil))) (aCons (eTup (aCons (eC (.str "number")) (aCons (eC (.str "changes")) aNil))) aNil)))))) (sRet (eC (.bl false))) sNx)
    (sIf (bOr (bTest (eOp dNeD (fun s => heardM cs0 4 1 g__law_heard ((eCl 3 0 3 m_plain_bears sh_plain_bears_3 [] (aCons (eVar 9) (aCons (eVar 7) (aCons (eUn dNeg (eC (.int 1))) aNil))) aNil) s)) (eVar 5))) (bTest (eOp dNeD (fun s => heardM cs0 4 1 g__law_heard ((eCl 3 0 3 m_plain_bears sh_plain_bears_3 [] (aCons (eVar 8) (aCons (eCall dTuple (aCons (eVar 9) aNil)) (aCons (eUn dNeg (eC (.int 1))) aNil))) aNil) s)) (eVar 5)))) (sRet (eC (.bl false))) sNx))))))))))))
    (sRet (eAnd (eOp dIsB (eCl 3 0 3 m_plain_bears sh_plain_bears_3 [] (aCons (eVar 8) (aCons (eVar 8) (aCons (eC (.int 5)) aNil))) aNil) (eC (.bl false))) (eAnd (eOp dEqD (fun s => heardM cs0 4 1 g__law_heard ((eCl 3 0 5 m_plain_rule sh_plain_rule_3 dd_plain_rule (aCons (eC (.int 3)) (aCons (eC (.int 4)) (aCons (eC (.int 0)) aNil))) aNil) s)) (eTup (aCons (eC (.str "number")) (aCons (eC (.str "read")) aNil)))) (eOp dEqD (fun s => heardM cs0 4 1 g__law_heard ((eCl 3 0 5 m_plain_rule sh_plain_rule_3 dd_plain_rule (aCons (eC (.int 3)) (aCons (eC (.int 3)) (aCons (eC (.int 4)) aNil))) aNil) s)) (eTup (aCons (eC (.str "number")) (aCons (eC (.str "keep")) aNil)))))))))
abbrev lamT (tP : Addr) : List (Addr × Str) := [(tP, (("law" : Str) ++ ".<locals>.") ++ "<lambda>")]
theorem fn_law {f tc tP : Addr} {fd : FuncData} (F : Fun K "law" "law" s_law f fd) (hcode : fd.code = .ref tc) (TB : LamX.TabB base mg tc tP) (hh : DefIn K mg "_law_heard" s__law_heard) (T : Txt Pg K mg cl) (o__law_pen : Own Pg w K mg base 1 "_law_pen" ["script"] (spPen K)) (o__law_first_2 : OwnC CX0 Pg w K mg base 3 "_law_first" ["pen", "parts"] 2 [] sh__law_first_2 [] (spM K cl 2 m__law_first)) (o_plain_rule_5 : OwnC (L2.CX Pg w) Pg w K mg base 5 "plain_rule" ["copies", "read", "keep", "liars", "falls"] 5 [] sh_plain_rule_5 dd_plain_rule (spX K cl 5 m_plain_rule)) (o_plain_ends_5 : OwnC (L2.CX Pg w) Pg w K mg base 5 "plain_ends" ["copies", "read", "keep", "liars", "falls"] 5 [] sh_plain_ends_5 [] (spX K cl 5 m_plain_ends)) (o_plain_pairs_4 : OwnC (L2.CX Pg w) Pg w K mg base 4 "plain_pairs" ["copies", "liars", "falls", "changes"] 4 [] sh_plain_pairs_4 [] (spX K cl 4 m_plain_pairs)) (o_least_plain_3 : OwnC (L2.CX Pg w) Pg w K mg base 4 "least_plain" ["liars", "falls", "changes"] 3 [] sh_least_plain_3 [] (spX K cl 3 m_least_plain)) (o__law_pick_2 : OwnC CX0 Pg w K mg base 2 "_law_pick" ["pen", "some"] 2 [] sh__law_pick_2 [] (spM K cl 2 m__law_pick)) (o_plain_bears_3 : OwnC (L2.CX Pg w) Pg w K mg base 5 "plain_bears" ["one", "other", "changes"] 3 [] sh_plain_bears_3 [] (spX K cl 3 m_plain_bears)) (o_plain_rule_3 : OwnC (L2.CX Pg w) Pg w K mg base 5 "plain_rule" ["copies", "read", "keep", "liars", "falls"] 3 [] sh_plain_rule_3 dd_plain_rule (spX K cl 5 m_plain_rule)) (hm : LawM 10 1 g_law) : FnG Pg w K mg base CX0 8 f fd ["script"] (spLawT K (lamT tP)) :=
  fn_gC F hcode sc_law (fun _ _ _ _ h => spLaw.len h) fun A ou s H vs Q E r g h => by
    obtain ⟨fh, fdh, Fh, mh⟩ := hh
    have bh := Fh.binds (ps := ["ask"]) (fun _ _ _ _ _ _ us hl => match us, hl with | [_], _ => rfl)
    obtain ⟨tr, hG, hJ⟩ := heard_law (Pg := Pg) (w := w) (base := base) (Nl := N_law) (ou := ou) (Hl := H) (El := E) T (r.mono (by decide)) g
    have z : ∃ t, PSs (cxOf CX0 Pg w K mg base N_law "law" (defScope s_law) f (.ref tc) A ou s H E).nox (defBody s_law) t ∧ t { nx := fun _ H' => Q .non H', rt := Q } (L2.start N_law vs) H := by
      refine ⟨_, (pss_cons (ps_set (i := 1) sc_law.nd rfl (Or.inl rfl) (pe_own o__law_pen (r.mono (by decide)) g (pa_cons (pv 0) pa_nil)))
      (pss_cons (ps_par (i := 2) (j := 3) (by rfl) sc_law.nd rfl rfl (by decide) rfl rfl (pa_cons (pe_lst (pa_cons (pe_tup (pa_cons pe_str (pa_cons pe_int (pa_cons pe_int pa_nil)))) (pa_cons (pe_tup (pa_cons pe_str (pa_cons pe_int (pa_cons pe_int pa_nil)))) (pa_cons (pe_tup (pa_cons pe_str (pa_cons pe_int (pa_cons pe_int pa_nil)))) pa_nil)))) (pa_cons (pe_lst (pa_cons (pe_tup (pa_cons pe_str (pa_cons pe_int (pa_cons pe_int pa_nil)))) (pa_cons (pe_tup (pa_cons pe_str (pa_cons pe_int (pa_cons pe_int pa_nil)))) pa_nil))) pa_nil)) (by rfl))
      (pss_cons (ps_for PassesOwn.never rfl (pi_range1 (by rfl) T.b_range (pa_cons pe_int pa_nil)) (pg_name (i := 4) sc_law.nd rfl (Or.inl rfl))
      (pss_cons (ps_asg (k_c1 (K := K) rfl o__law_first_2 (r.mono (by decide)) g pass0 (pa_cons (pv 1) (pa_cons (pe_op op_cat (pv 2) (pv 3)) pa_nil)) pk_nil) (k_pgT (K := K) rfl rfl (pgs_cons (pg_name (i := 9) sc_law.nd rfl (Or.inr rfl)) (pgs_cons (pg_name (i := 5) sc_law.nd rfl (Or.inl rfl)) pgs_nil))))
      (pss_cons (ps_if (PW.pt (pw_or (pt_cmpR (k_neD (K := K) rfl r.units) (pe_lamZ (k := 5) (P := tP) (T := lamT tP) Fh (by rfl) mh bh sc__law_heard rfl (Or.inl rfl) (fun cd => hG _ _ cd) TB (by rfl) (List.mem_singleton.mpr rfl) (fun y hy _ => congrArg Prod.snd (List.mem_singleton.mp hy)) (r.mono (by decide)) g (show LamX.LamS (defScope s_law) _ from LamX.lamS_by (by decide +kernel)) rfl (fun _ _ _ _ _ => rfl) (fun A ou s H E f d r3 g3 => (k_c1 (K := K) rfl o_plain_rule_5 (r3.mono (by decide)) g3 (passes_call (takes_of rfl rfl rfl rfl) fun _ _ _ _ z => z) (pa_cons (pe_ix (k_ixL (K := K) rfl) (pv 9) pe_int (fun _ _ => rfl)) (pa_cons (pe_ix (k_ixL (K := K) rfl) (pv 9) pe_int (fun _ _ => rfl)) (pa_cons (pe_ix (k_ixL (K := K) rfl) (pv 9) pe_int (fun _ _ => rfl)) (pa_cons (pe_ix (k_ixL (K := K) rfl) (pv 9) pe_int (fun _ _ => rfl)) (pa_cons (pe_ix (k_ixL (K := K) rfl) (pv 9) pe_int (fun _ _ => rfl)) pa_nil))))) pk_nil))) (pv 5) (nomark _)) (pw_or1 (pt_cmpR (k_neD (K := K) rfl r.units) (pe_lamZD (k := 5) (P := tP) (T := lamT tP) Fh (by rfl) mh bh sc__law_heard rfl (Or.inl rfl) (fun cd => hG _ _ cd) TB (by rfl) (List.mem_singleton.mpr rfl) (fun y hy _ => congrArg Prod.snd (List.mem_singleton.mp hy)) (r.mono (by decide)) g (show LamP N_law (defScope s_law) _ from lamP_by (by decide +kernel)) rfl (fun _ _ _ _ _ _ _ => ⟨_, rfl, rfl⟩) (by decide +kernel) (fun A ou s H E f d r3 g3 => (k_c1 (K := K) rfl o_plain_ends_5 (r3.mono (by decide)) g3 (passes_call (takes_of rfl rfl rfl rfl) fun _ _ _ _ z => z) (pa_cons (pe_ix (k_ixL (K := K) rfl) (pv 9) pe_int (fun _ _ => rfl)) (pa_cons (pe_ix (k_ixL (K := K) rfl) (pv 9) pe_int (fun _ _ => rfl)) (pa_cons (pe_ix (k_ixL (K := K) rfl) (pv 9) pe_int (fun _ _ => rfl)) (pa_cons (pe_ix (k_ixL (K := K) rfl) (pv 9) pe_int (fun _ _ => rfl)) (pa_cons (pe_ix (k_ixL (K := K) rfl) (pv 9) pe_int (fun _ _ => rfl)) pa_nil))))) pk_nil))) (pv 5) (nomark _))))) (pss_one (ps_ret pe_bl)) pss_nil)
      (pss_cons (ps_asg (k_c1 (K := K) rfl o__law_first_2 (r.mono (by decide)) g pass0 (pa_cons (pv 1) (pa_cons (pe_op op_cat (pe_op op_cat (pe_lst (pa_cons (pe_ix (k_ixL (K := K) rfl) (pv 2) pe_int (fun _ _ => rfl)) pa_nil)) (pv 3)) (pe_lst (pa_cons (pe_tup (pa_cons pe_str (pa_cons pe_int (pa_cons pe_int pa_nil)))) pa_nil))) pa_nil)) pk_nil) (k_pgT (K := K) rfl rfl (pgs_cons (pg_name (i := 9) sc_law.nd rfl (Or.inr rfl)) (pgs_cons (pg_name (i := 5) sc_law.nd rfl (Or.inl rfl)) pgs_nil))))
      (pss_cons (ps_if (pt_cmpR (k_neD (K := K) rfl r.units) (pe_lamZ (k := 4) (P := tP) (T := lamT tP) Fh (by rfl) mh bh sc__law_heard rfl (Or.inl rfl) (fun cd => hG _ _ cd) TB (by rfl) (List.mem_singleton.mpr rfl) (fun y hy _ => congrArg Prod.snd (List.mem_singleton.mp hy)) (r.mono (by decide)) g (show LamX.LamS (defScope s_law) _ from LamX.lamS_by (by decide +kernel)) rfl (fun _ _ _ _ _ => rfl) (fun A ou s H E f d r3 g3 => (k_c1 (K := K) rfl o_plain_pairs_4 (r3.mono (by decide)) g3 (passes_call (takes_of rfl rfl rfl rfl) fun _ _ _ _ z => z) (pa_cons (pe_ix (k_ixL (K := K) rfl) (pv 9) pe_int (fun _ _ => rfl)) (pa_cons (pe_ix (k_ixL (K := K) rfl) (pv 9) pe_int (fun _ _ => rfl)) (pa_cons (pe_ix (k_ixL (K := K) rfl) (pv 9) pe_int (fun _ _ => rfl)) (pa_cons (pe_ix (k_ixL (K := K) rfl) (pv 9) pe_int (fun _ _ => rfl)) pa_nil)))) pk_nil))) (pv 5) (nomark _)) (pss_one (ps_ret pe_bl)) pss_nil)
      (pss_cons (ps_asg (k_c1 (K := K) rfl o__law_first_2 (r.mono (by decide)) g pass0 (pa_cons (pv 1) (pa_cons (pe_op op_cat (pv 3) (pe_lst (pa_cons (pe_tup (pa_cons pe_str (pa_cons pe_int (pa_cons pe_int pa_nil)))) pa_nil))) pa_nil)) pk_nil) (k_pgT (K := K) rfl rfl (pgs_cons (pg_name (i := 9) sc_law.nd rfl (Or.inr rfl)) (pgs_cons (pg_name (i := 5) sc_law.nd rfl (Or.inl rfl)) pgs_nil))))
      (pss_cons (ps_if (pt_cmpR (k_neD (K := K) rfl r.units) (pe_lamZ (k := 4) (P := tP) (T := lamT tP) Fh (by rfl) mh bh sc__law_heard rfl (Or.inl rfl) (fun cd => hG _ _ cd) TB (by rfl) (List.mem_singleton.mpr rfl) (fun y hy _ => congrArg Prod.snd (List.mem_singleton.mp hy)) (r.mono (by decide)) g (show LamX.LamS (defScope s_law) _ from LamX.lamS_by (by decide +kernel)) rfl (fun _ _ _ _ _ => rfl) (fun A ou s H E f d r3 g3 => (k_c1 (K := K) rfl o_least_plain_3 (r3.mono (by decide)) g3 (passes_call (takes_of rfl rfl rfl rfl) fun _ _ _ _ z => z) (pa_cons (pe_ix (k_ixL (K := K) rfl) (pv 9) pe_int (fun _ _ => rfl)) (pa_cons (pe_ix (k_ixL (K := K) rfl) (pv 9) pe_int (fun _ _ => rfl)) (pa_cons (pe_ix (k_ixL (K := K) rfl) (pv 9) pe_int (fun _ _ => rfl)) pa_nil))) pk_nil))) (pv 5) (nomark _)) (pss_one (ps_ret pe_bl)) pss_nil)
      (pss_cons (ps_asg (k_c1 (K := K) rfl o__law_first_2 (r.mono (by decide)) g pass0 (pa_cons (pv 1) (pa_cons (pe_op op_cat (pv 2) (pe_slice (k_slL (K := K) rfl) (pv 3) po_none (po_some pe_int))) pa_nil)) pk_nil) (k_pgT (K := K) rfl rfl (pgs_cons (pg_name (i := 9) sc_law.nd rfl (Or.inr rfl)) (pgs_cons (pg_name (i := 5) sc_law.nd rfl (Or.inl rfl)) pgs_nil))))
      (pss_cons (ps_asg (pe_tup (pa_cons (pe_tup (pa_cons pe_int (pa_cons pe_int (pa_cons pe_int (pa_cons pe_int pa_nil))))) (pa_cons (k_c1 (K := K) rfl o__law_pick_2 (r.mono (by decide)) g pass0 (pa_cons (pv 1) (pa_cons (pe_lst (pa_cons pe_non (pa_cons pe_int (pa_cons (pe_tup (pa_cons pe_int (pa_cons pe_int (pa_cons pe_int pa_nil)))) (pa_cons (pe_tup (pa_cons pe_int (pa_cons pe_int (pa_cons pe_int (pa_cons pe_int (pa_cons pe_int pa_nil)))))) (pa_cons pe_str (pa_cons pe_dnewK (pa_cons (pe_lst pa_nil) pa_nil)))))))) pa_nil)) pk_nil) pa_nil))) (k_pgT (K := K) rfl rfl (pgs_cons (pg_name (i := 8) sc_law.nd rfl (Or.inr rfl)) (pgs_cons (pg_name (i := 7) sc_law.nd rfl (Or.inr rfl)) pgs_nil))))
      (pss_cons (ps_set (i := 6) sc_law.nd rfl (Or.inl rfl) (pe_lst (pa_cons (pe_lamZ (k := 5) (P := tP) (T := lamT tP) Fh (by rfl) mh bh sc__law_heard rfl (Or.inl rfl) (fun cd => hG _ _ cd) TB (by rfl) (List.mem_singleton.mpr rfl) (fun y hy _ => congrArg Prod.snd (List.mem_singleton.mp hy)) (r.mono (by decide)) g (show LamX.LamS (defScope s_law) _ from LamX.lamS_by (by decide +kernel)) rfl (fun _ _ _ _ _ => rfl) (fun A ou s H E f d r3 g3 => (k_c1 (K := K) rfl o_plain_bears_3 (r3.mono (by decide)) g3 (passes_call (takes_of rfl rfl rfl rfl) fun _ _ _ _ z => z) (pa_cons (pv 7) (pa_cons (pv 7) (pa_cons (pe_un un_neg pe_int) pa_nil))) pk_nil))) (pa_cons (pe_lamZD (k := 5) (P := tP) (T := lamT tP) Fh (by rfl) mh bh sc__law_heard rfl (Or.inl rfl) (fun cd => hG _ _ cd) TB (by rfl) (List.mem_singleton.mpr rfl) (fun y hy _ => congrArg Prod.snd (List.mem_singleton.mp hy)) (r.mono (by decide)) g (show LamP N_law (defScope s_law) _ from lamP_by (by decide +kernel)) rfl (fun _ _ _ _ _ _ _ => ⟨_, rfl, rfl⟩) (by decide +kernel) (fun A ou s H E f d r3 g3 => (k_c1 (K := K) rfl o_plain_bears_3 (r3.mono (by decide)) g3 (passes_call (takes_of rfl rfl rfl rfl) fun _ _ _ _ z => z) (pa_cons (pv 8) (pa_cons (pv 7) (pa_cons (pe_un un_neg pe_int) pa_nil))) pk_nil))) (pa_cons (pe_lamZD (k := 5) (P := tP) (T := lamT tP) Fh (by rfl) mh bh sc__law_heard rfl (Or.inl rfl) (fun cd => hG _ _ cd) TB (by rfl) (List.mem_singleton.mpr rfl) (fun y hy _ => congrArg Prod.snd (List.mem_singleton.mp hy)) (r.mono (by decide)) g (show LamP N_law (defScope s_law) _ from lamP_by (by decide +kernel)) rfl (fun _ _ _ _ _ _ _ => ⟨_, rfl, rfl⟩) (by decide +kernel) (fun A ou s H E f d r3 g3 => (k_c1 (K := K) rfl o_plain_bears_3 (r3.mono (by decide)) g3 (passes_call (takes_of rfl rfl rfl rfl) fun _ _ _ _ z => z) (pa_cons (pv 8) (pa_cons (pe_callTy (k_list (K := K) rfl) (by rfl) T.b_list (by decide +kernel) (pa_cons (pv 8) pa_nil)) (pa_cons pe_int pa_nil))) pk_nil))) pa_nil)))))
      (pss_cons (ps_if (pt_cmpR (k_neD (K := K) rfl r.units) (pv 6) (pe_lst (pa_cons (pe_tup (pa_cons pe_str (pa_cons pe_str pa_nil))) (pa_cons (pe_tup (pa_cons pe_str (pa_cons pe_str pa_nil))) (pa_cons (pe_tup (pa_cons pe_str (pa_cons pe_str pa_nil))) pa_nil)))) (nomark _)) (pss_one (ps_ret pe_bl)) pss_nil)
      (pss_one (ps_if (PW.pt (pw_or (pt_cmpR (k_neD (K := K) rfl r.units) (pe_lamZ (k := 5) (P := tP) (T := lamT tP) Fh (by rfl) mh bh sc__law_heard rfl (Or.inl rfl) (fun cd => hG _ _ cd) TB (by rfl) (List.mem_singleton.mpr rfl) (fun y hy _ => congrArg Prod.snd (List.mem_singleton.mp hy)) (r.mono (by decide)) g (show LamX.LamS (defScope s_law) _ from LamX.lamS_by (by decide +kernel)) rfl (fun _ _ _ _ _ => rfl) (fun A ou s H E f d r3 g3 => (k_c1 (K := K) rfl o_plain_bears_3 (r3.mono (by decide)) g3 (passes_call (takes_of rfl rfl rfl rfl) fun _ _ _ _ z => z) (pa_cons (pv 9) (pa_cons (pv 7) (pa_cons (pe_un un_neg pe_int) pa_nil))) pk_nil))) (pv 5) (nomark _)) (pw_or1 (pt_cmpR (k_neD (K := K) rfl r.units) (pe_lamZD (k := 5) (P := tP) (T := lamT tP) Fh (by rfl) mh bh sc__law_heard rfl (Or.inl rfl) (fun cd => hG _ _ cd) TB (by rfl) (List.mem_singleton.mpr rfl) (fun y hy _ => congrArg Prod.snd (List.mem_singleton.mp hy)) (r.mono (by decide)) g (show LamP N_law (defScope s_law) _ from lamP_by (by decide +kernel)) rfl (fun _ _ _ _ _ _ _ => ⟨_, rfl, rfl⟩) (by decide +kernel) (fun A ou s H E f d r3 g3 => (k_c1 (K := K) rfl o_plain_bears_3 (r3.mono (by decide)) g3 (passes_call (takes_of rfl rfl rfl rfl) fun _ _ _ _ z => z) (pa_cons (pv 8) (pa_cons (pe_callTy (k_tuple (K := K) rfl) (by rfl) T.b_tuple (by decide +kernel) (pa_cons (pv 9) pa_nil)) (pa_cons (pe_un un_neg pe_int) pa_nil))) pk_nil))) (pv 5) (nomark _))))) (pss_one (ps_ret pe_bl)) pss_nil)))))))))))))
      (pss_one (ps_ret (pe_and (pe_cmpR op_isBl (k_c1 (K := K) rfl o_plain_bears_3 (r.mono (by decide)) g passL (pa_cons (pv 8) (pa_cons (pv 8) (pa_cons pe_int pa_nil))) pk_nil) pe_bl (nomark _)) (pe_and (pe_cmpR (k_eqD (K := K) rfl r.units) (pe_lamZ (k := 5) (P := tP) (T := lamT tP) Fh (by rfl) mh bh sc__law_heard rfl (Or.inl rfl) (fun cd => hG _ _ cd) TB (by rfl) (List.mem_singleton.mpr rfl) (fun y hy _ => congrArg Prod.snd (List.mem_singleton.mp hy)) (r.mono (by decide)) g (show LamX.LamS (defScope s_law) _ from LamX.lamS_by (by decide +kernel)) rfl (fun _ _ _ _ _ => rfl) (fun A ou s H E f d r3 g3 => (k_c1 (K := K) rfl o_plain_rule_3 (r3.mono (by decide)) g3 (passes_call (takes_of rfl rfl rfl rfl) fun _ _ _ _ z => z) (pa_cons pe_int (pa_cons pe_int (pa_cons pe_int pa_nil))) pk_nil))) (pe_tup (pa_cons pe_str (pa_cons pe_str pa_nil))) (nomark _)) (pe_one (pe_cmpR (k_eqD (K := K) rfl r.units) (pe_lamZD (k := 5) (P := tP) (T := lamT tP) Fh (by rfl) mh bh sc__law_heard rfl (Or.inl rfl) (fun cd => hG _ _ cd) TB (by rfl) (List.mem_singleton.mpr rfl) (fun y hy _ => congrArg Prod.snd (List.mem_singleton.mp hy)) (r.mono (by decide)) g (show LamP N_law (defScope s_law) _ from lamP_by (by decide +kernel)) rfl (fun _ _ _ _ _ _ _ => ⟨_, rfl, rfl⟩) (by decide +kernel) (fun A ou s H E f d r3 g3 => (k_c1 (K := K) rfl o_plain_rule_3 (r3.mono (by decide)) g3 (passes_call (takes_of rfl rfl rfl rfl) fun _ _ _ _ z => z) (pa_cons pe_int (pa_cons pe_int (pa_cons pe_int pa_nil))) pk_nil))) (pe_tup (pa_cons pe_str (pa_cons pe_str pa_nil))) (nomark _)))))))))), ?_⟩
      exact law_reads (N := N_law) (by decide) (by decide) (fun pa ca => (js_seq (js_par (i := 2) (j := 3) (ja_cons (j_lst (ja_cons (j_tup (ja_cons j_str (ja_cons j_int (ja_cons j_int ja_nil)))) (ja_cons (j_tup (ja_cons j_str (ja_cons j_int (ja_cons j_int ja_nil)))) (ja_cons (j_tup (ja_cons j_str (ja_cons j_int (ja_cons j_int ja_nil)))) ja_nil)))) (ja_cons (j_lst (ja_cons (j_tup (ja_cons j_str (ja_cons j_int (ja_cons j_int ja_nil)))) (ja_cons (j_tup (ja_cons j_str (ja_cons j_int (ja_cons j_int ja_nil)))) ja_nil))) ja_nil)))
      (js_seq (js_forI (ji_rg1 (ja_cons j_int ja_nil)) (jg_name 4)
      (js_seq (js_asg (j_cl (ja_cons (j_var 1) (ja_cons (j_op jr_catL (j_var 2) (j_var 3)) ja_nil)) ja_nil) (jg_tup (jgs_cons (jg_name 9) (jgs_cons (jg_name 5) jgs_nil))))
      (js_seq (js_if (jt_or (jt_test (j_op jr_neD (j_heard (cs := cs0) (T0 := tP) (fun _ => (j_clX (ja_cons (j_op jr_ixL (j_var 9) j_int) (ja_cons (j_op jr_ixL (j_var 9) j_int) (ja_cons (j_op jr_ixL (j_var 9) j_int) (ja_cons (j_op jr_ixL (j_var 9) j_int) (ja_cons (j_op jr_ixL (j_var 9) j_int) ja_nil))))) ja_nil)) (fun _ => (x_cl (ja_cons (j_op jr_ixL (j_var 9) j_int) (ja_cons (j_op jr_ixL (j_var 9) j_int) (ja_cons (j_op jr_ixL (j_var 9) j_int) (ja_cons (j_op jr_ixL (j_var 9) j_int) (ja_cons (j_op jr_ixL (j_var 9) j_int) ja_nil))))) (n_cons (n_op _ (n_var 9) (n_c _)) (n_cons (n_op _ (n_var 9) (n_c _)) (n_cons (n_op _ (n_var 9) (n_c _)) (n_cons (n_op _ (n_var 9) (n_c _)) (n_cons (n_op _ (n_var 9) (n_c _)) n_nil))))) ja_nil n_nil)) (hJ _ rfl rfl) (List.mem_singleton.mpr rfl) (fun c hc => T.xm c hc)) (j_var 5))) (jt_test (j_op jr_neD (j_heard (cs := cs0) (T0 := tP) (fun _ => (j_clX (ja_cons (j_op jr_ixL (j_var 9) j_int) (ja_cons (j_op jr_ixL (j_var 9) j_int) (ja_cons (j_op jr_ixL (j_var 9) j_int) (ja_cons (j_op jr_ixL (j_var 9) j_int) (ja_cons (j_op jr_ixL (j_var 9) j_int) ja_nil))))) ja_nil)) (fun _ => (x_cl (ja_cons (j_op jr_ixL (j_var 9) j_int) (ja_cons (j_op jr_ixL (j_var 9) j_int) (ja_cons (j_op jr_ixL (j_var 9) j_int) (ja_cons (j_op jr_ixL (j_var 9) j_int) (ja_cons (j_op jr_ixL (j_var 9) j_int) ja_nil))))) (n_cons (n_op _ (n_var 9) (n_c _)) (n_cons (n_op _ (n_var 9) (n_c _)) (n_cons (n_op _ (n_var 9) (n_c _)) (n_cons (n_op _ (n_var 9) (n_c _)) (n_cons (n_op _ (n_var 9) (n_c _)) n_nil))))) ja_nil n_nil)) (hJ _ rfl rfl) (List.mem_singleton.mpr rfl) (fun c hc => T.xm c hc)) (j_var 5)))) (js_ret j_bl) js_nil)
      (js_seq (js_asg (j_cl (ja_cons (j_var 1) (ja_cons (j_op jr_catL (j_op jr_catL (j_lst (ja_cons (j_op jr_ixL (j_var 2) j_int) ja_nil)) (j_var 3)) (j_lst (ja_cons (j_tup (ja_cons j_str (ja_cons j_int (ja_cons j_int ja_nil)))) ja_nil))) ja_nil)) ja_nil) (jg_tup (jgs_cons (jg_name 9) (jgs_cons (jg_name 5) jgs_nil))))
      (js_seq (js_if (jt_test (j_op jr_neD (j_heard (cs := cs0) (T0 := tP) (fun _ => (j_clX (ja_cons (j_op jr_ixL (j_var 9) j_int) (ja_cons (j_op jr_ixL (j_var 9) j_int) (ja_cons (j_op jr_ixL (j_var 9) j_int) (ja_cons (j_op jr_ixL (j_var 9) j_int) ja_nil)))) ja_nil)) (fun _ => (x_cl (ja_cons (j_op jr_ixL (j_var 9) j_int) (ja_cons (j_op jr_ixL (j_var 9) j_int) (ja_cons (j_op jr_ixL (j_var 9) j_int) (ja_cons (j_op jr_ixL (j_var 9) j_int) ja_nil)))) (n_cons (n_op _ (n_var 9) (n_c _)) (n_cons (n_op _ (n_var 9) (n_c _)) (n_cons (n_op _ (n_var 9) (n_c _)) (n_cons (n_op _ (n_var 9) (n_c _)) n_nil)))) ja_nil n_nil)) (hJ _ rfl rfl) (List.mem_singleton.mpr rfl) (fun c hc => T.xm c hc)) (j_var 5))) (js_ret j_bl) js_nil)
      (js_seq (js_asg (j_cl (ja_cons (j_var 1) (ja_cons (j_op jr_catL (j_var 3) (j_lst (ja_cons (j_tup (ja_cons j_str (ja_cons j_int (ja_cons j_int ja_nil)))) ja_nil))) ja_nil)) ja_nil) (jg_tup (jgs_cons (jg_name 9) (jgs_cons (jg_name 5) jgs_nil))))
      (js_seq (js_if (jt_test (j_op jr_neD (j_heard (cs := cs0) (T0 := tP) (fun _ => (j_clX (ja_cons (j_op jr_ixL (j_var 9) j_int) (ja_cons (j_op jr_ixL (j_var 9) j_int) (ja_cons (j_op jr_ixL (j_var 9) j_int) ja_nil))) ja_nil)) (fun _ => (x_cl (ja_cons (j_op jr_ixL (j_var 9) j_int) (ja_cons (j_op jr_ixL (j_var 9) j_int) (ja_cons (j_op jr_ixL (j_var 9) j_int) ja_nil))) (n_cons (n_op _ (n_var 9) (n_c _)) (n_cons (n_op _ (n_var 9) (n_c _)) (n_cons (n_op _ (n_var 9) (n_c _)) n_nil))) ja_nil n_nil)) (hJ _ rfl rfl) (List.mem_singleton.mpr rfl) (fun c hc => T.xm c hc)) (j_var 5))) (js_ret j_bl) js_nil)
      (js_seq (js_asg (j_cl (ja_cons (j_var 1) (ja_cons (j_op jr_catL (j_var 2) (j_slL (j_var 3) jo_none (jo_part j_int))) ja_nil)) ja_nil) (jg_tup (jgs_cons (jg_name 9) (jgs_cons (jg_name 5) jgs_nil))))
      (js_seq (js_asg (j_tup (ja_cons (j_tup (ja_cons j_int (ja_cons j_int (ja_cons j_int (ja_cons j_int ja_nil))))) (ja_cons (j_cl (ja_cons (j_var 1) (ja_cons (j_lst (ja_cons j_non (ja_cons j_int (ja_cons (j_tup (ja_cons j_int (ja_cons j_int (ja_cons j_int ja_nil)))) (ja_cons (j_tup (ja_cons j_int (ja_cons j_int (ja_cons j_int (ja_cons j_int (ja_cons j_int ja_nil)))))) (ja_cons j_str (ja_cons j_dnew (ja_cons (j_lst ja_nil) ja_nil)))))))) ja_nil)) ja_nil) ja_nil))) (jg_tup (jgs_cons (jg_name 8) (jgs_cons (jg_name 7) jgs_nil))))
      (js_seq (js_asg (j_lst (ja_cons (j_heard (cs := cs0) (T0 := tP) (fun _ => (j_clX (ja_cons (j_var 7) (ja_cons (j_var 7) (ja_cons (j_un ju_neg j_int) ja_nil))) ja_nil)) (fun _ => (x_cl (ja_cons (j_var 7) (ja_cons (j_var 7) (ja_cons (j_un ju_neg j_int) ja_nil))) (n_cons (n_var 7) (n_cons (n_var 7) (n_cons (n_un _ (n_c _)) n_nil))) ja_nil n_nil)) (hJ _ rfl rfl) (List.mem_singleton.mpr rfl) (fun c hc => T.xm c hc)) (ja_cons (j_heard (cs := cs0) (T0 := tP) (fun _ => (j_clX (ja_cons (j_var 8) (ja_cons (j_var 7) (ja_cons (j_un ju_neg j_int) ja_nil))) ja_nil)) (fun _ => (x_cl (ja_cons (j_var 8) (ja_cons (j_var 7) (ja_cons (j_un ju_neg j_int) ja_nil))) (n_cons (n_var 8) (n_cons (n_var 7) (n_cons (n_un _ (n_c _)) n_nil))) ja_nil n_nil)) (hJ _ rfl rfl) (List.mem_singleton.mpr rfl) (fun c hc => T.xm c hc)) (ja_cons (j_heard (cs := cs0) (T0 := tP) (fun _ => (j_clX (ja_cons (j_var 8) (ja_cons (j_cb jc_list (ja_cons (j_var 8) ja_nil)) (ja_cons j_int ja_nil))) ja_nil)) (fun _ => (x_cl (ja_cons (j_var 8) (ja_cons (j_cb jc_list (ja_cons (j_var 8) ja_nil)) (ja_cons j_int ja_nil))) (n_cons (n_var 8) (n_cons (n_call _ (n_cons (n_var 8) n_nil)) (n_cons (n_c _) n_nil))) ja_nil n_nil)) (hJ _ rfl rfl) (List.mem_singleton.mpr rfl) (fun c hc => T.xm c hc)) ja_nil)))) (jg_name 6))
      (js_seq (js_if (jt_test (j_op jr_neD (j_var 6) (j_lst (ja_cons (j_tup (ja_cons j_str (ja_cons j_str ja_nil))) (ja_cons (j_tup (ja_cons j_str (ja_cons j_str ja_nil))) (ja_cons (j_tup (ja_cons j_str (ja_cons j_str ja_nil))) ja_nil)))))) (js_ret j_bl) js_nil)
      (js_if (jt_or (jt_test (j_op jr_neD (j_heard (cs := cs0) (T0 := tP) (fun _ => (j_clX (ja_cons (j_var 9) (ja_cons (j_var 7) (ja_cons (j_un ju_neg j_int) ja_nil))) ja_nil)) (fun _ => (x_cl (ja_cons (j_var 9) (ja_cons (j_var 7) (ja_cons (j_un ju_neg j_int) ja_nil))) (n_cons (n_var 9) (n_cons (n_var 7) (n_cons (n_un _ (n_c _)) n_nil))) ja_nil n_nil)) (hJ _ rfl rfl) (List.mem_singleton.mpr rfl) (fun c hc => T.xm c hc)) (j_var 5))) (jt_test (j_op jr_neD (j_heard (cs := cs0) (T0 := tP) (fun _ => (j_clX (ja_cons (j_var 8) (ja_cons (j_cb jc_tuple (ja_cons (j_var 9) ja_nil)) (ja_cons (j_un ju_neg j_int) ja_nil))) ja_nil)) (fun _ => (x_cl (ja_cons (j_var 8) (ja_cons (j_cb jc_tuple (ja_cons (j_var 9) ja_nil)) (ja_cons (j_un ju_neg j_int) ja_nil))) (n_cons (n_var 8) (n_cons (n_call _ (n_cons (n_var 9) n_nil)) (n_cons (n_un _ (n_c _)) n_nil))) ja_nil n_nil)) (hJ _ rfl rfl) (List.mem_singleton.mpr rfl) (fun c hc => T.xm c hc)) (j_var 5)))) (js_ret j_bl) js_nil))))))))))))
      (js_ret (j_and (j_op jr_isB (j_clX (ja_cons (j_var 8) (ja_cons (j_var 8) (ja_cons j_int ja_nil))) ja_nil) j_bl) (j_and (j_op jr_eqD (j_heard (cs := cs0) (T0 := tP) (fun _ => (j_clX (ja_cons j_int (ja_cons j_int (ja_cons j_int ja_nil))) ja_nil)) (fun _ => (x_cl (ja_cons j_int (ja_cons j_int (ja_cons j_int ja_nil))) (n_cons (n_c _) (n_cons (n_c _) (n_cons (n_c _) n_nil))) ja_nil n_nil)) (hJ _ rfl rfl) (List.mem_singleton.mpr rfl) (fun c hc => T.xm c hc)) (j_tup (ja_cons j_str (ja_cons j_str ja_nil)))) (j_op jr_eqD (j_heard (cs := cs0) (T0 := tP) (fun _ => (j_clX (ja_cons j_int (ja_cons j_int (ja_cons j_int ja_nil))) ja_nil)) (fun _ => (x_cl (ja_cons j_int (ja_cons j_int (ja_cons j_int ja_nil))) (n_cons (n_c _) (n_cons (n_c _) (n_cons (n_c _) n_nil))) ja_nil n_nil)) (hJ _ rfl rfl) (List.mem_singleton.mpr rfl) (fun c hc => T.xm c hc)) (j_tup (ja_cons j_str (ja_cons j_str ja_nil)))))))))) hm h
    exact let ⟨t, h1, h2⟩ := z; ⟨t, h1.nox, h2⟩
/-! ### all together -/
end
section
variable {K : PySem.W.Frag}
theorem all_mk {Pg : Program} {w : World} {h : Heap} {mg : Str → Option Value} {fa tc tP : Addr} {a_BadAsk a_BadBook a_BadChange a_BadName a_BadNumber a_BadRow a_BadRule a_BadText a_Clashing a_NoHost a_TooMany a_TrueError : Addr} (X : K.In h) (G : h.Ns mainGlobals mg) (hfa : mg "law" = some (.ref fa)) (hm : LawM 10 1 g_law)
    (d_is_integer : DefKD K "is_integer" s_is_integer []) (d_is_within : DefKD K "is_within" s_is_within []) (d_need_within : DefKD K "need_within" s_need_within []) (d_need_plain : DefKD K "need_plain" s_need_plain []) (d_plain_rule : DefKD K "plain_rule" s_plain_rule dd_plain_rule) (d_together : DefKD K "together" s_together []) (d_plain_bears : DefKD K "plain_bears" s_plain_bears []) (d_plain_ends : DefKD K "plain_ends" s_plain_ends []) (d_plain_pairs : DefKD K "plain_pairs" s_plain_pairs []) (d_least_plain : DefKD K "least_plain" s_least_plain []) (d__law_pen : DefK K "_law_pen" s__law_pen) (d__law_draw : DefKD K "_law_draw" s__law_draw []) (d__law_pick : DefKD K "_law_pick" s__law_pick []) (d__law_heard : DefK K "_law_heard" s__law_heard) (d__law_first : DefKD K "_law_first" s__law_first []) (d_law : DefK K "law" s_law) (b_abs : PySem.W.nsIn K mainGlobals "abs" = some none) (b_bool : PySem.W.nsIn K mainGlobals "bool" = some none) (b_enumerate : PySem.W.nsIn K mainGlobals "enumerate" = some none) (b_int : PySem.W.nsIn K mainGlobals "int" = some none) (b_isinstance : PySem.W.nsIn K mainGlobals "isinstance" = some none) (b_len : PySem.W.nsIn K mainGlobals "len" = some none) (b_list : PySem.W.nsIn K mainGlobals "list" = some none) (b_max : PySem.W.nsIn K mainGlobals "max" = some none) (b_min : PySem.W.nsIn K mainGlobals "min" = some none) (b_range : PySem.W.nsIn K mainGlobals "range" = some none) (b_repr : PySem.W.nsIn K mainGlobals "repr" = some none) (b_str : PySem.W.nsIn K mainGlobals "str" = some none) (b_tuple : PySem.W.nsIn K mainGlobals "tuple" = some none) (c_MOST_CHANGES : ∃ t, PySem.W.nsIn K mainGlobals "MOST_CHANGES" = some (some (.int 5 t))) (c_MOST_COPIES_books : ∃ t, PySem.W.nsIn K mainGlobals "MOST_COPIES_books" = some (some (.int 5 t))) (x_BadAsk : PySem.W.nsIn K mainGlobals "BadAsk" = some (some (.ref a_BadAsk))) (x_BadBook : PySem.W.nsIn K mainGlobals "BadBook" = some (some (.ref a_BadBook))) (x_BadChange : PySem.W.nsIn K mainGlobals "BadChange" = some (some (.ref a_BadChange))) (x_BadName : PySem.W.nsIn K mainGlobals "BadName" = some (some (.ref a_BadName))) (x_BadNumber : PySem.W.nsIn K mainGlobals "BadNumber" = some (some (.ref a_BadNumber))) (x_BadRow : PySem.W.nsIn K mainGlobals "BadRow" = some (some (.ref a_BadRow))) (x_BadRule : PySem.W.nsIn K mainGlobals "BadRule" = some (some (.ref a_BadRule))) (x_BadText : PySem.W.nsIn K mainGlobals "BadText" = some (some (.ref a_BadText))) (x_Clashing : PySem.W.nsIn K mainGlobals "Clashing" = some (some (.ref a_Clashing))) (x_NoHost : PySem.W.nsIn K mainGlobals "NoHost" = some (some (.ref a_NoHost))) (x_TooMany : PySem.W.nsIn K mainGlobals "TooMany" = some (some (.ref a_TooMany))) (x_TrueError : PySem.W.nsIn K mainGlobals "TrueError" = some (some (.ref a_TrueError))) (x_super : PySem.W.nsIn K mainGlobals "super" = some none) (r_BadNumber : ExcK Pg K a_BadNumber "part") (ci_BadNumber : ClsI K a_BadNumber) (ki_BadNumber_BadAsk : PySem.W.kitOne K (.ref a_BadNumber) (.ref a_BadAsk) = some (sub0 "BadNumber" "BadAsk")) (ki_BadNumber_BadBook : PySem.W.kitOne K (.ref a_BadNumber) (.ref a_BadBook) = some (sub0 "BadNumber" "BadBook")) (ki_BadNumber_BadChange : PySem.W.kitOne K (.ref a_BadNumber) (.ref a_BadChange) = some (sub0 "BadNumber" "BadChange")) (ki_BadNumber_BadName : PySem.W.kitOne K (.ref a_BadNumber) (.ref a_BadName) = some (sub0 "BadNumber" "BadName")) (ki_BadNumber_BadNumber : PySem.W.kitOne K (.ref a_BadNumber) (.ref a_BadNumber) = some (sub0 "BadNumber" "BadNumber")) (ki_BadNumber_BadRow : PySem.W.kitOne K (.ref a_BadNumber) (.ref a_BadRow) = some (sub0 "BadNumber" "BadRow")) (ki_BadNumber_BadRule : PySem.W.kitOne K (.ref a_BadNumber) (.ref a_BadRule) = some (sub0 "BadNumber" "BadRule")) (ki_BadNumber_BadText : PySem.W.kitOne K (.ref a_BadNumber) (.ref a_BadText) = some (sub0 "BadNumber" "BadText")) (ki_BadNumber_Clashing : PySem.W.kitOne K (.ref a_BadNumber) (.ref a_Clashing) = some (sub0 "BadNumber" "Clashing")) (ki_BadNumber_NoHost : PySem.W.kitOne K (.ref a_BadNumber) (.ref a_NoHost) = some (sub0 "BadNumber" "NoHost")) (ki_BadNumber_TooMany : PySem.W.kitOne K (.ref a_BadNumber) (.ref a_TooMany) = some (sub0 "BadNumber" "TooMany")) (xf_BadNumber_part : XfC K a_BadNumber ∧ PySem.W.findIn K (.ref a_BadNumber) "part" = some none) (em_BadNumber : PySem.W.exmOne K (.ref a_BadNumber) (.ref a_TrueError) = some true) (hcode : ∀ f fd, Fun K "law" "law" s_law f fd → mg "law" = some (.ref f) → fd.code = .ref tc) :
    ∃ fd : FuncData, (∀ (s : Shared) (u : Value), BindsTo s fd ⟨[u], []⟩ [("script", u)]) ∧ ∀ base : Heap, K.In base → base.Ns mainGlobals mg → (∀ p ∈ [(tc, tP)], LamX.TabB base mg p.1 p.2) → FnG Pg w K mg base CX0 8 fa fd ["script"] (spLawT K (lamT tP)) := by
  let cl : Str → Addr := (fun n => ((([("BadAsk", a_BadAsk), ("BadBook", a_BadBook), ("BadChange", a_BadChange), ("BadName", a_BadName), ("BadNumber", a_BadNumber), ("BadRow", a_BadRow), ("BadRule", a_BadRule), ("BadText", a_BadText), ("Clashing", a_Clashing), ("NoHost", a_NoHost), ("TooMany", a_TooMany), ("TrueError", a_TrueError)] : List (Str × Addr)).lookup n).getD 0))
  have T : Txt Pg K mg cl := ⟨PySem.W.mg_of X G x_BadAsk, PySem.W.mg_of X G x_BadBook, PySem.W.mg_of X G x_BadChange, PySem.W.mg_of X G x_BadName, PySem.W.mg_of X G x_BadNumber, PySem.W.mg_of X G x_BadRow, PySem.W.mg_of X G x_BadRule, PySem.W.mg_of X G x_BadText, PySem.W.mg_of X G x_Clashing, PySem.W.mg_of X G x_NoHost, PySem.W.mg_of X G x_TooMany, PySem.W.mg_of X G x_TrueError, r_BadNumber.rsn (PySem.W.mg_none_of X G x_super) (PySem.W.mg_of X G x_BadNumber), (fun c hc => by have e := List.mem_singleton.mp hc; subst e; exact ⟨ci_BadNumber, ki_BadNumber_BadAsk⟩), (fun c hc => by have e := List.mem_singleton.mp hc; subst e; exact ⟨ci_BadNumber, ki_BadNumber_BadBook⟩), (fun c hc => by have e := List.mem_singleton.mp hc; subst e; exact ⟨ci_BadNumber, ki_BadNumber_BadChange⟩), (fun c hc => by have e := List.mem_singleton.mp hc; subst e; exact ⟨ci_BadNumber, ki_BadNumber_BadName⟩), (fun c hc => by have e := List.mem_singleton.mp hc; subst e; exact ⟨ci_BadNumber, ki_BadNumber_BadNumber⟩), (fun c hc => by have e := List.mem_singleton.mp hc; subst e; exact ⟨ci_BadNumber, ki_BadNumber_BadRow⟩), (fun c hc => by have e := List.mem_singleton.mp hc; subst e; exact ⟨ci_BadNumber, ki_BadNumber_BadRule⟩), (fun c hc => by have e := List.mem_singleton.mp hc; subst e; exact ⟨ci_BadNumber, ki_BadNumber_BadText⟩), (fun c hc => by have e := List.mem_singleton.mp hc; subst e; exact ⟨ci_BadNumber, ki_BadNumber_Clashing⟩), (fun c hc => by have e := List.mem_singleton.mp hc; subst e; exact ⟨ci_BadNumber, ki_BadNumber_NoHost⟩), (fun c hc => by have e := List.mem_singleton.mp hc; subst e; exact ⟨ci_BadNumber, ki_BadNumber_TooMany⟩), (fun c hc => absurd hc (List.not_mem_nil)), (fun c hc => absurd hc (List.not_mem_nil)), (fun c hc => by have e := List.mem_singleton.mp hc; subst e; exact xf_BadNumber_part), (fun c hc => absurd hc (List.not_mem_nil)), (fun c hc => absurd hc (List.not_mem_nil)), (fun c hc => absurd hc (List.not_mem_nil)), (fun c hc => absurd hc (List.not_mem_nil)), (fun c hc => by have e := List.mem_singleton.mp hc; subst e; exact em_BadNumber), PySem.W.mg_none_of X G b_abs, PySem.W.mg_none_of X G b_bool, PySem.W.mg_none_of X G b_enumerate, PySem.W.mg_none_of X G b_int, PySem.W.mg_none_of X G b_isinstance, PySem.W.mg_none_of X G b_len, PySem.W.mg_none_of X G b_list, PySem.W.mg_none_of X G b_max, PySem.W.mg_none_of X G b_min, PySem.W.mg_none_of X G b_range, PySem.W.mg_none_of X G b_repr, PySem.W.mg_none_of X G b_str, PySem.W.mg_none_of X G b_tuple, (let ⟨t, e⟩ := c_MOST_CHANGES; ⟨t, PySem.W.mg_of X G e⟩), (let ⟨t, e⟩ := c_MOST_COPIES_books; ⟨t, PySem.W.mg_of X G e⟩)⟩
  obtain ⟨f, fd, F, hf⟩ := d_law.inn X G
  have e := hfa.symm.trans hf
  cases e
  refine ⟨fd, law_binds (ps := ["script"]) F (fun _ _ _ _ _ _ us hl => match us, hl with | [_], _ => rfl) rfl, fun base _ _ tb => ?_⟩
  have w_is_integer := own_is_integer (Pg := Pg) (w := w) (K := K) (mg := mg) (base := base) (cl := cl) (d_is_integer.inn X G) T 
  have o_is_integer_1 := w_is_integer.c ks_is_integer_1
  have w_is_within := own_is_within (Pg := Pg) (w := w) (K := K) (mg := mg) (base := base) (cl := cl) (d_is_within.inn X G) T o_is_integer_1
  have o_is_within_3 := w_is_within.c ks_is_within_3
  have w_need_within := own_need_within (Pg := Pg) (w := w) (K := K) (mg := mg) (base := base) (cl := cl) (d_need_within.inn X G) T o_is_within_3
  have o_need_within_4 := w_need_within.c ks_need_within_4
  have w_need_plain := own_need_plain (Pg := Pg) (w := w) (K := K) (mg := mg) (base := base) (cl := cl) (d_need_plain.inn X G) T o_need_within_4
  have o_need_plain_3 := w_need_plain.c ks_need_plain_3
  have w_plain_rule := own_plain_rule (Pg := Pg) (w := w) (K := K) (mg := mg) (base := base) (cl := cl) (d_plain_rule.inn X G) T o_need_plain_3 o_need_within_4
  have o_plain_rule_5 := w_plain_rule.c ks_plain_rule_5
  have o_plain_rule_3 := w_plain_rule.c ks_plain_rule_3
  have w_together := own_together (Pg := Pg) (w := w) (K := K) (mg := mg) (base := base) (cl := cl) (d_together.inn X G) T 
  have o_together_3 := w_together.c ks_together_3
  have w_plain_bears := own_plain_bears (Pg := Pg) (w := w) (K := K) (mg := mg) (base := base) (cl := cl) (d_plain_bears.inn X G) T o_need_plain_3 o_need_within_4 o_together_3
  have o_plain_bears_3 := w_plain_bears.c ks_plain_bears_3
  have w_plain_ends := own_plain_ends (Pg := Pg) (w := w) (K := K) (mg := mg) (base := base) (cl := cl) (d_plain_ends.inn X G) T o_need_plain_3 o_need_within_4
  have o_plain_ends_5 := w_plain_ends.c ks_plain_ends_5
  have w_plain_pairs := own_plain_pairs (Pg := Pg) (w := w) (K := K) (mg := mg) (base := base) (cl := cl) (d_plain_pairs.inn X G) T o_need_within_4
  have o_plain_pairs_4 := w_plain_pairs.c ks_plain_pairs_4
  have w_least_plain := own_least_plain (Pg := Pg) (w := w) (K := K) (mg := mg) (base := base) (cl := cl) (d_least_plain.inn X G) T o_need_within_4
  have o_least_plain_3 := w_least_plain.c ks_least_plain_3
  have w__law_pen := own__law_pen (Pg := Pg) (w := w) (K := K) (mg := mg) (base := base) (cl := cl) (d__law_pen.inn X G) T
  have o__law_pen := w__law_pen.own (fun _ _ _ _ _ _ us hl => match us, hl with | [_], _ => rfl)
  have w__law_draw := own__law_draw (Pg := Pg) (w := w) (K := K) (mg := mg) (base := base) (cl := cl) (d__law_draw.inn X G) T 
  have o__law_draw_2 := w__law_draw.c ks__law_draw_2
  have w__law_pick := own__law_pick (Pg := Pg) (w := w) (K := K) (mg := mg) (base := base) (cl := cl) (d__law_pick.inn X G) T o__law_draw_2
  have o__law_pick_2 := w__law_pick.c ks__law_pick_2
  have w__law_first := own__law_first (Pg := Pg) (w := w) (K := K) (mg := mg) (base := base) (cl := cl) (d__law_first.inn X G) T o__law_draw_2 o__law_pick_2
  have o__law_first_2 := w__law_first.c ks__law_first_2
  exact fn_law (cl := cl) F (hcode _ _ F hf) (tb (tc, tP) (List.mem_singleton.mpr rfl)) (d__law_heard.inn X G) T o__law_pen o__law_first_2 o_plain_rule_5 o_plain_ends_5 o_plain_pairs_4 o_least_plain_3 o__law_pick_2 o_plain_bears_3 o_plain_rule_3 hm
end
end La
end
section
set_option Elab.async false
set_option linter.all false
set_option maxRecDepth 1000000
set_option maxHeartbeats 4000000
namespace La
open Z PySem
def gb0 : Sl → M (Out × Sl) := (sAsg (eCl 2 0 2 m__law_first sh__law_first_2 [] (aCons (eVar 1) (aCons (eOp dCatL (eVar 2) (eVar 3)) aNil)) aNil) (tgTup 2 (tgCons (tgN 9) (tgCons (tgN 5) tgNil))))
def gb1 : Sl → M (Out × Sl) := (sIf (bOr (bTest (eOp dNeD (fun s => heardM cs0 4 1 g__law_heard ((eCl 5 0 5 m_plain_rule sh_plain_rule_5 dd_plain_rule (aCons (eOp dIxL (eVar 9) (eC (.int 0))) (aCons (eOp dIxL (eVar 9) (eC (.int 1))) (aCons (eOp dIxL (eVar 9) (eC (.int 2))) (aCons (eOp dIxL (eVar 9) (eC (.int 3))) (aCons (eOp dIxL (eVar 9) (eC (.int 4))) aNil))))) aNil) s)) (eVar 5))) (bTest (eOp dNeD (fun s => heardM cs0 4 1 g__law_heard ((eCl 5 0 5 m_plain_ends sh_plain_ends_5 [] (aCons (eOp dIxL (eVar 9) (eC (.int 0))) (aCons (eOp dIxL (eVar 9) (eC (.int 1))) (aCons (eOp dIxL (eVar 9) (eC (.int 2))) (aCons (eOp dIxL (eVar 9) (eC (.int 3))) (aCons (eOp dIxL (eVar 9) (eC (.int 4))) aNil))))) aNil) s)) (eVar 5)))) (sRet (eC (.bl false))) sNx)
def gb2 : Sl → M (Out × Sl) := (sAsg (eCl 2 0 2 m__law_first sh__law_first_2 [] (aCons (eVar 1) (aCons (eOp dCatL (eOp dCatL (eLst (aCons (eOp dIxL (eVar 2) (eC (.int 0))) aNil)) (eVar 3)) (eLst (aCons (eTup (aCons (eC (.str "changes")) (aCons (eC (.int 0)) (aCons (eC (.int 5)) aNil)))) aNil))) aNil)) aNil) (tgTup 2 (tgCons (tgN 9) (tgCons (tgN 5) tgNil))))
def gb3 : Sl → M (Out × Sl) := (sIf (bTest (eOp dNeD (fun s => heardM cs0 4 1 g__law_heard ((eCl 4 0 4 m_plain_pairs sh_plain_pairs_4 [] (aCons (eOp dIxL (eVar 9) (eC (.int 0))) (aCons (eOp dIxL (eVar 9) (eC (.int 1))) (aCons (eOp dIxL (eVar 9) (eC (.int 2))) (aCons (eOp dIxL (eVar 9) (eC (.int 3))) aNil)))) aNil) s)) (eVar 5))) (sRet (eC (.bl false))) sNx)
def gb4 : Sl → M (Out × Sl) := (sAsg (eCl 2 0 2 m__law_first sh__law_first_2 [] (aCons (eVar 1) (aCons (eOp dCatL (eVar 3) (eLst (aCons (eTup (aCons (eC (.str "changes")) (aCons (eC (.int 0)) (aCons (eC (.int 5)) aNil)))) aNil))) aNil)) aNil) (tgTup 2 (tgCons (tgN 9) (tgCons (tgN 5) tgNil))))
def gb5 : Sl → M (Out × Sl) := (sIf (bTest (eOp dNeD (fun s => heardM cs0 4 1 g__law_heard ((eCl 3 0 3 m_least_plain sh_least_plain_3 [] (aCons (eOp dIxL (eVar 9) (eC (.int 0))) (aCons (eOp dIxL (eVar 9) (eC (.int 1))) (aCons (eOp dIxL (eVar 9) (eC (.int 2))) aNil))) aNil) s)) (eVar 5))) (sRet (eC (.bl false))) sNx)
def gb6 : Sl → M (Out × Sl) := (sAsg (eCl 2 0 2 m__law_first sh__law_first_2 [] (aCons (eVar 1) (aCons (eOp dCatL (eVar 2) (eSlL (eVar 3) oNone (oPart (eC (.int 1))))) aNil)) aNil) (tgTup 2 (tgCons (tgN 9) (tgCons (tgN 5) tgNil))))
def gb7 : Sl → M (Out × Sl) := (sAsg (eTup (aCons (eTup (aCons (eC (.int 3)) (aCons (eC (.int 2)) (aCons (eC (.int 2)) (aCons (eC (.int 0)) aNil))))) (aCons (eCl 2 0 2 m__law_pick sh__law_pick_2 [] (aCons (eVar 1) (aCons (eLst (aCons (eC .non) (aCons (eC (.int 5)) (aCons (eTup (aCons (eC (.int 3)) (aCons (eC (.int 2)) (aCons (eC (.int 2)) aNil)))) (aCons (eTup (aCons (eC (.int 3)) (aCons (eC (.int 2)) (aCons (eC (.int 2)) (aCons (eC (.int 0)) (aCons (eC (.int 0)) aNil)))))) (aCons (eC (.str "3220")) (aCons (eC (.dic [] [])) (aCons (eLst aNil) aNil)))))))) aNil)) aNil) aNil))) (tgTup 2 (tgCons (tgN 8) (tgCons (tgN 7) tgNil))))
def gb8 : Sl → M (Out × Sl) := (sAsg (eLst (aCons (fun s => heardM cs0 4 1 g__law_heard ((eCl 3 0 3 m_plain_bears sh_plain_bears_3 [] (aCons (eVar 7) (aCons (eVar 7) (aCons (eUn dNeg (eC (.int 1))) aNil))) aNil) s)) (aCons (fun s => heardM cs0 4 1 g__law_heard ((eCl 3 0 3 m_plain_bears sh_plain_bears_3 [] (aCons (eVar 8) (aCons (eVar 7) (aCons (eUn dNeg (eC (.int 1))) aNil))) aNil) s)) (aCons (fun s => heardM cs0 4 1 g__law_heard ((eCl 3 0 3 m_plain_bears sh_plain_bears_3 [] (aCons (eVar 8) (aCons (eCall dList (aCons (eVar 8) aNil)) (aCons (eC (.int 6)) aNil))) aNil) s)) aNil)))) (tgN 6))
def gb9 : Sl → M (Out × Sl) := (sIf (bTest (eOp dNeD (eVar 6) (eLst (aCons (eTup (aCons (eC (.str "number")) (aCons (eC (.str "one")) aNil))) (aCons (eTup (aCons (eC (.str "number")) (aCons (eC (.str "other")) aNil))) (aCons (eTup (aCons (eC (.str "number")) (aCons (eC (.str "changes")) aNil))) aNil)))))) (sRet (eC (.bl false))) sNx)
def gb10 : Sl → M (Out × Sl) := (sIf (bOr (bTest (eOp dNeD (fun s => heardM cs0 4 1 g__law_heard ((eCl 3 0 3 m_plain_bears sh_plain_bears_3 [] (aCons (eVar 9) (aCons (eVar 7) (aCons (eUn dNeg (eC (.int 1))) aNil))) aNil) s)) (eVar 5))) (bTest (eOp dNeD (fun s => heardM cs0 4 1 g__law_heard ((eCl 3 0 3 m_plain_bears sh_plain_bears_3 [] (aCons (eVar 8) (aCons (eCall dTuple (aCons (eVar 9) aNil)) (aCons (eUn dNeg (eC (.int 1))) aNil))) aNil) s)) (eVar 5)))) (sRet (eC (.bl false))) sNx)
def gp : Sl → M (Out × Sl) := (sPar 2 3 (aCons (eLst (aCons (eTup (aCons (eC (.str "copies")) (aCons (eC (.int 1)) (aCons (eC (.int 5)) aNil)))) (aCons (eTup (aCons (eC (.str "read")) (aCons (eC (.int 1)) (aCons (eC (.int 1)) aNil)))) (aCons (eTup (aCons (eC (.str "keep")) (aCons (eC (.int 1)) (aCons (eC (.int 1)) aNil)))) aNil)))) (aCons (eLst (aCons (eTup (aCons (eC (.str "liars")) (aCons (eC (.int 0)) (aCons (eC (.int 5)) aNil)))) (aCons (eTup (aCons (eC (.str "falls")) (aCons (eC (.int 0)) (aCons (eC (.int 5)) aNil)))) aNil))) aNil)))
def gl : Sl → M (Out × Sl) := (sRet (eAnd (eOp dIsB (eCl 3 0 3 m_plain_bears sh_plain_bears_3 [] (aCons (eVar 8) (aCons (eVar 8) (aCons (eC (.int 5)) aNil))) aNil) (eC (.bl false))) (eAnd (eOp dEqD (fun s => heardM cs0 4 1 g__law_heard ((eCl 3 0 5 m_plain_rule sh_plain_rule_3 dd_plain_rule (aCons (eC (.int 3)) (aCons (eC (.int 4)) (aCons (eC (.int 0)) aNil))) aNil) s)) (eTup (aCons (eC (.str "number")) (aCons (eC (.str "read")) aNil)))) (eOp dEqD (fun s => heardM cs0 4 1 g__law_heard ((eCl 3 0 5 m_plain_rule sh_plain_rule_3 dd_plain_rule (aCons (eC (.int 3)) (aCons (eC (.int 3)) (aCons (eC (.int 4)) aNil))) aNil) s)) (eTup (aCons (eC (.str "number")) (aCons (eC (.str "keep")) aNil)))))))
def gt : Sl → M (Out × Sl) := (sSeq gb0 (sSeq gb1 (sSeq gb2 (sSeq gb3 (sSeq gb4 (sSeq gb5 (sSeq gb6 (sSeq gb7 (sSeq gb8 (sSeq gb9 gb10))))))))))
theorem law_split : g_law = sSeq gp (sSeq (sForI (iRg rg1 (aCons (eC (.int 5)) aNil)) (tgN 4) gt) gl) := rfl
def wr (w : Nat) (lo hi : Int) : D := match w with
  | 0 => .non
  | 1 => .int (lo - 1)
  | 2 => .int (hi + 1)
  | 3 => .bl true
  | 4 => .str (toString lo)
  | 5 => .tup [.int lo]
  | _ => .int 1000000000000000000000000000000
def bads : List D := [.non, .int 5, .tup [.int 3, .int 2, .int 2], .tup [.int 3, .int 2, .int 2, .int 0, .int 0], .str "3220", .dic [] [], .lst []]
def rg4 : D := .tup [.int 3, .int 2, .int 2, .int 0]
def du (x : Str) : SD := .im (.tup [.str "number", .str x])
theorem t1_0_0 (d2 d3 d4 d6 : SD) (d7 d8 : SD) (e21 e22 e23 e24 : D) (p : Pen) : gb1 [.un, .im .pen, d2, d3, d4, du "copies", d6, d7, d8, .im (.lst [wr 0 1 5, e21, e22, e23, e24])] p = .ok (.nx, [.un, .im .pen, d2, d3, d4, du "copies", d6, d7, d8, .im (.lst [wr 0 1 5, e21, e22, e23, e24])]) p := by kernel_rfl
theorem t1_0_1 (d2 d3 d4 d6 : SD) (d7 d8 : SD) (e21 e22 e23 e24 : D) (p : Pen) : gb1 [.un, .im .pen, d2, d3, d4, du "copies", d6, d7, d8, .im (.lst [wr 1 1 5, e21, e22, e23, e24])] p = .ok (.nx, [.un, .im .pen, d2, d3, d4, du "copies", d6, d7, d8, .im (.lst [wr 1 1 5, e21, e22, e23, e24])]) p := by kernel_rfl
theorem t1_0_2 (d2 d3 d4 d6 : SD) (d7 d8 : SD) (e21 e22 e23 e24 : D) (p : Pen) : gb1 [.un, .im .pen, d2, d3, d4, du "copies", d6, d7, d8, .im (.lst [wr 2 1 5, e21, e22, e23, e24])] p = .ok (.nx, [.un, .im .pen, d2, d3, d4, du "copies", d6, d7, d8, .im (.lst [wr 2 1 5, e21, e22, e23, e24])]) p := by kernel_rfl
theorem t1_0_3 (d2 d3 d4 d6 : SD) (d7 d8 : SD) (e21 e22 e23 e24 : D) (p : Pen) : gb1 [.un, .im .pen, d2, d3, d4, du "copies", d6, d7, d8, .im (.lst [wr 3 1 5, e21, e22, e23, e24])] p = .ok (.nx, [.un, .im .pen, d2, d3, d4, du "copies", d6, d7, d8, .im (.lst [wr 3 1 5, e21, e22, e23, e24])]) p := by kernel_rfl
theorem t1_0_4 (d2 d3 d4 d6 : SD) (d7 d8 : SD) (e21 e22 e23 e24 : D) (p : Pen) : gb1 [.un, .im .pen, d2, d3, d4, du "copies", d6, d7, d8, .im (.lst [wr 4 1 5, e21, e22, e23, e24])] p = .ok (.nx, [.un, .im .pen, d2, d3, d4, du "copies", d6, d7, d8, .im (.lst [wr 4 1 5, e21, e22, e23, e24])]) p := by kernel_rfl
theorem t1_0_5 (d2 d3 d4 d6 : SD) (d7 d8 : SD) (e21 e22 e23 e24 : D) (p : Pen) : gb1 [.un, .im .pen, d2, d3, d4, du "copies", d6, d7, d8, .im (.lst [wr 5 1 5, e21, e22, e23, e24])] p = .ok (.nx, [.un, .im .pen, d2, d3, d4, du "copies", d6, d7, d8, .im (.lst [wr 5 1 5, e21, e22, e23, e24])]) p := by kernel_rfl
theorem t1_0_6 (d2 d3 d4 d6 : SD) (d7 d8 : SD) (e21 e22 e23 e24 : D) (p : Pen) : gb1 [.un, .im .pen, d2, d3, d4, du "copies", d6, d7, d8, .im (.lst [wr 6 1 5, e21, e22, e23, e24])] p = .ok (.nx, [.un, .im .pen, d2, d3, d4, du "copies", d6, d7, d8, .im (.lst [wr 6 1 5, e21, e22, e23, e24])]) p := by kernel_rfl
theorem t1_1_0 (d2 d3 d4 d6 : SD) (d7 d8 : SD) (e22 e23 e24 : D) (p : Pen) : gb1 [.un, .im .pen, d2, d3, d4, du "read", d6, d7, d8, .im (.lst [.int 1, wr 0 1 1, e22, e23, e24])] p = .ok (.nx, [.un, .im .pen, d2, d3, d4, du "read", d6, d7, d8, .im (.lst [.int 1, wr 0 1 1, e22, e23, e24])]) p := by kernel_rfl
theorem t1_1_1 (d2 d3 d4 d6 : SD) (d7 d8 : SD) (e22 e23 e24 : D) (p : Pen) : gb1 [.un, .im .pen, d2, d3, d4, du "read", d6, d7, d8, .im (.lst [.int 1, wr 1 1 1, e22, e23, e24])] p = .ok (.nx, [.un, .im .pen, d2, d3, d4, du "read", d6, d7, d8, .im (.lst [.int 1, wr 1 1 1, e22, e23, e24])]) p := by kernel_rfl
theorem t1_1_2 (d2 d3 d4 d6 : SD) (d7 d8 : SD) (e22 e23 e24 : D) (p : Pen) : gb1 [.un, .im .pen, d2, d3, d4, du "read", d6, d7, d8, .im (.lst [.int 1, wr 2 1 1, e22, e23, e24])] p = .ok (.nx, [.un, .im .pen, d2, d3, d4, du "read", d6, d7, d8, .im (.lst [.int 1, wr 2 1 1, e22, e23, e24])]) p := by kernel_rfl
theorem t1_1_3 (d2 d3 d4 d6 : SD) (d7 d8 : SD) (e22 e23 e24 : D) (p : Pen) : gb1 [.un, .im .pen, d2, d3, d4, du "read", d6, d7, d8, .im (.lst [.int 1, wr 3 1 1, e22, e23, e24])] p = .ok (.nx, [.un, .im .pen, d2, d3, d4, du "read", d6, d7, d8, .im (.lst [.int 1, wr 3 1 1, e22, e23, e24])]) p := by kernel_rfl
theorem t1_1_4 (d2 d3 d4 d6 : SD) (d7 d8 : SD) (e22 e23 e24 : D) (p : Pen) : gb1 [.un, .im .pen, d2, d3, d4, du "read", d6, d7, d8, .im (.lst [.int 1, wr 4 1 1, e22, e23, e24])] p = .ok (.nx, [.un, .im .pen, d2, d3, d4, du "read", d6, d7, d8, .im (.lst [.int 1, wr 4 1 1, e22, e23, e24])]) p := by kernel_rfl
theorem t1_1_5 (d2 d3 d4 d6 : SD) (d7 d8 : SD) (e22 e23 e24 : D) (p : Pen) : gb1 [.un, .im .pen, d2, d3, d4, du "read", d6, d7, d8, .im (.lst [.int 1, wr 5 1 1, e22, e23, e24])] p = .ok (.nx, [.un, .im .pen, d2, d3, d4, du "read", d6, d7, d8, .im (.lst [.int 1, wr 5 1 1, e22, e23, e24])]) p := by kernel_rfl
theorem t1_1_6 (d2 d3 d4 d6 : SD) (d7 d8 : SD) (e22 e23 e24 : D) (p : Pen) : gb1 [.un, .im .pen, d2, d3, d4, du "read", d6, d7, d8, .im (.lst [.int 1, wr 6 1 1, e22, e23, e24])] p = .ok (.nx, [.un, .im .pen, d2, d3, d4, du "read", d6, d7, d8, .im (.lst [.int 1, wr 6 1 1, e22, e23, e24])]) p := by kernel_rfl
theorem t1_2_0 (d2 d3 d4 d6 : SD) (d7 d8 : SD) (e23 e24 : D) (p : Pen) : gb1 [.un, .im .pen, d2, d3, d4, du "keep", d6, d7, d8, .im (.lst [.int 1, .int 1, wr 0 1 1, e23, e24])] p = .ok (.nx, [.un, .im .pen, d2, d3, d4, du "keep", d6, d7, d8, .im (.lst [.int 1, .int 1, wr 0 1 1, e23, e24])]) p := by kernel_rfl
theorem t1_2_1 (d2 d3 d4 d6 : SD) (d7 d8 : SD) (e23 e24 : D) (p : Pen) : gb1 [.un, .im .pen, d2, d3, d4, du "keep", d6, d7, d8, .im (.lst [.int 1, .int 1, wr 1 1 1, e23, e24])] p = .ok (.nx, [.un, .im .pen, d2, d3, d4, du "keep", d6, d7, d8, .im (.lst [.int 1, .int 1, wr 1 1 1, e23, e24])]) p := by kernel_rfl
theorem t1_2_2 (d2 d3 d4 d6 : SD) (d7 d8 : SD) (e23 e24 : D) (p : Pen) : gb1 [.un, .im .pen, d2, d3, d4, du "keep", d6, d7, d8, .im (.lst [.int 1, .int 1, wr 2 1 1, e23, e24])] p = .ok (.nx, [.un, .im .pen, d2, d3, d4, du "keep", d6, d7, d8, .im (.lst [.int 1, .int 1, wr 2 1 1, e23, e24])]) p := by kernel_rfl
theorem t1_2_3 (d2 d3 d4 d6 : SD) (d7 d8 : SD) (e23 e24 : D) (p : Pen) : gb1 [.un, .im .pen, d2, d3, d4, du "keep", d6, d7, d8, .im (.lst [.int 1, .int 1, wr 3 1 1, e23, e24])] p = .ok (.nx, [.un, .im .pen, d2, d3, d4, du "keep", d6, d7, d8, .im (.lst [.int 1, .int 1, wr 3 1 1, e23, e24])]) p := by kernel_rfl
theorem t1_2_4 (d2 d3 d4 d6 : SD) (d7 d8 : SD) (e23 e24 : D) (p : Pen) : gb1 [.un, .im .pen, d2, d3, d4, du "keep", d6, d7, d8, .im (.lst [.int 1, .int 1, wr 4 1 1, e23, e24])] p = .ok (.nx, [.un, .im .pen, d2, d3, d4, du "keep", d6, d7, d8, .im (.lst [.int 1, .int 1, wr 4 1 1, e23, e24])]) p := by kernel_rfl
theorem t1_2_5 (d2 d3 d4 d6 : SD) (d7 d8 : SD) (e23 e24 : D) (p : Pen) : gb1 [.un, .im .pen, d2, d3, d4, du "keep", d6, d7, d8, .im (.lst [.int 1, .int 1, wr 5 1 1, e23, e24])] p = .ok (.nx, [.un, .im .pen, d2, d3, d4, du "keep", d6, d7, d8, .im (.lst [.int 1, .int 1, wr 5 1 1, e23, e24])]) p := by kernel_rfl
theorem t1_2_6 (d2 d3 d4 d6 : SD) (d7 d8 : SD) (e23 e24 : D) (p : Pen) : gb1 [.un, .im .pen, d2, d3, d4, du "keep", d6, d7, d8, .im (.lst [.int 1, .int 1, wr 6 1 1, e23, e24])] p = .ok (.nx, [.un, .im .pen, d2, d3, d4, du "keep", d6, d7, d8, .im (.lst [.int 1, .int 1, wr 6 1 1, e23, e24])]) p := by kernel_rfl
theorem t1_3_0 (d2 d3 d4 d6 : SD) (d7 d8 : SD) (e24 : D) (p : Pen) : gb1 [.un, .im .pen, d2, d3, d4, du "liars", d6, d7, d8, .im (.lst [.int 1, .int 1, .int 1, wr 0 0 5, e24])] p = .ok (.nx, [.un, .im .pen, d2, d3, d4, du "liars", d6, d7, d8, .im (.lst [.int 1, .int 1, .int 1, wr 0 0 5, e24])]) p := by kernel_rfl
theorem t1_3_1 (d2 d3 d4 d6 : SD) (d7 d8 : SD) (e24 : D) (p : Pen) : gb1 [.un, .im .pen, d2, d3, d4, du "liars", d6, d7, d8, .im (.lst [.int 1, .int 1, .int 1, wr 1 0 5, e24])] p = .ok (.nx, [.un, .im .pen, d2, d3, d4, du "liars", d6, d7, d8, .im (.lst [.int 1, .int 1, .int 1, wr 1 0 5, e24])]) p := by kernel_rfl
theorem t1_3_2 (d2 d3 d4 d6 : SD) (d7 d8 : SD) (e24 : D) (p : Pen) : gb1 [.un, .im .pen, d2, d3, d4, du "liars", d6, d7, d8, .im (.lst [.int 1, .int 1, .int 1, wr 2 0 5, e24])] p = .ok (.nx, [.un, .im .pen, d2, d3, d4, du "liars", d6, d7, d8, .im (.lst [.int 1, .int 1, .int 1, wr 2 0 5, e24])]) p := by kernel_rfl
theorem t1_3_3 (d2 d3 d4 d6 : SD) (d7 d8 : SD) (e24 : D) (p : Pen) : gb1 [.un, .im .pen, d2, d3, d4, du "liars", d6, d7, d8, .im (.lst [.int 1, .int 1, .int 1, wr 3 0 5, e24])] p = .ok (.nx, [.un, .im .pen, d2, d3, d4, du "liars", d6, d7, d8, .im (.lst [.int 1, .int 1, .int 1, wr 3 0 5, e24])]) p := by kernel_rfl
theorem t1_3_4 (d2 d3 d4 d6 : SD) (d7 d8 : SD) (e24 : D) (p : Pen) : gb1 [.un, .im .pen, d2, d3, d4, du "liars", d6, d7, d8, .im (.lst [.int 1, .int 1, .int 1, wr 4 0 5, e24])] p = .ok (.nx, [.un, .im .pen, d2, d3, d4, du "liars", d6, d7, d8, .im (.lst [.int 1, .int 1, .int 1, wr 4 0 5, e24])]) p := by kernel_rfl
theorem t1_3_5 (d2 d3 d4 d6 : SD) (d7 d8 : SD) (e24 : D) (p : Pen) : gb1 [.un, .im .pen, d2, d3, d4, du "liars", d6, d7, d8, .im (.lst [.int 1, .int 1, .int 1, wr 5 0 5, e24])] p = .ok (.nx, [.un, .im .pen, d2, d3, d4, du "liars", d6, d7, d8, .im (.lst [.int 1, .int 1, .int 1, wr 5 0 5, e24])]) p := by kernel_rfl
theorem t1_3_6 (d2 d3 d4 d6 : SD) (d7 d8 : SD) (e24 : D) (p : Pen) : gb1 [.un, .im .pen, d2, d3, d4, du "liars", d6, d7, d8, .im (.lst [.int 1, .int 1, .int 1, wr 6 0 5, e24])] p = .ok (.nx, [.un, .im .pen, d2, d3, d4, du "liars", d6, d7, d8, .im (.lst [.int 1, .int 1, .int 1, wr 6 0 5, e24])]) p := by kernel_rfl
theorem t1_4_0 (d2 d3 d4 d6 : SD) (d7 d8 : SD) (p : Pen) : gb1 [.un, .im .pen, d2, d3, d4, du "falls", d6, d7, d8, .im (.lst [.int 1, .int 1, .int 1, .int 0, wr 0 0 5])] p = .ok (.nx, [.un, .im .pen, d2, d3, d4, du "falls", d6, d7, d8, .im (.lst [.int 1, .int 1, .int 1, .int 0, wr 0 0 5])]) p := by kernel_rfl
theorem t1_4_1 (d2 d3 d4 d6 : SD) (d7 d8 : SD) (p : Pen) : gb1 [.un, .im .pen, d2, d3, d4, du "falls", d6, d7, d8, .im (.lst [.int 1, .int 1, .int 1, .int 0, wr 1 0 5])] p = .ok (.nx, [.un, .im .pen, d2, d3, d4, du "falls", d6, d7, d8, .im (.lst [.int 1, .int 1, .int 1, .int 0, wr 1 0 5])]) p := by kernel_rfl
theorem t1_4_2 (d2 d3 d4 d6 : SD) (d7 d8 : SD) (p : Pen) : gb1 [.un, .im .pen, d2, d3, d4, du "falls", d6, d7, d8, .im (.lst [.int 1, .int 1, .int 1, .int 0, wr 2 0 5])] p = .ok (.nx, [.un, .im .pen, d2, d3, d4, du "falls", d6, d7, d8, .im (.lst [.int 1, .int 1, .int 1, .int 0, wr 2 0 5])]) p := by kernel_rfl
theorem t1_4_3 (d2 d3 d4 d6 : SD) (d7 d8 : SD) (p : Pen) : gb1 [.un, .im .pen, d2, d3, d4, du "falls", d6, d7, d8, .im (.lst [.int 1, .int 1, .int 1, .int 0, wr 3 0 5])] p = .ok (.nx, [.un, .im .pen, d2, d3, d4, du "falls", d6, d7, d8, .im (.lst [.int 1, .int 1, .int 1, .int 0, wr 3 0 5])]) p := by kernel_rfl
theorem t1_4_4 (d2 d3 d4 d6 : SD) (d7 d8 : SD) (p : Pen) : gb1 [.un, .im .pen, d2, d3, d4, du "falls", d6, d7, d8, .im (.lst [.int 1, .int 1, .int 1, .int 0, wr 4 0 5])] p = .ok (.nx, [.un, .im .pen, d2, d3, d4, du "falls", d6, d7, d8, .im (.lst [.int 1, .int 1, .int 1, .int 0, wr 4 0 5])]) p := by kernel_rfl
theorem t1_4_5 (d2 d3 d4 d6 : SD) (d7 d8 : SD) (p : Pen) : gb1 [.un, .im .pen, d2, d3, d4, du "falls", d6, d7, d8, .im (.lst [.int 1, .int 1, .int 1, .int 0, wr 5 0 5])] p = .ok (.nx, [.un, .im .pen, d2, d3, d4, du "falls", d6, d7, d8, .im (.lst [.int 1, .int 1, .int 1, .int 0, wr 5 0 5])]) p := by kernel_rfl
theorem t1_4_6 (d2 d3 d4 d6 : SD) (d7 d8 : SD) (p : Pen) : gb1 [.un, .im .pen, d2, d3, d4, du "falls", d6, d7, d8, .im (.lst [.int 1, .int 1, .int 1, .int 0, wr 6 0 5])] p = .ok (.nx, [.un, .im .pen, d2, d3, d4, du "falls", d6, d7, d8, .im (.lst [.int 1, .int 1, .int 1, .int 0, wr 6 0 5])]) p := by kernel_rfl
theorem t3_0_0 (d2 d3 d4 d6 : SD) (d7 d8 : SD) (e21 e22 e23 : D) (p : Pen) : gb3 [.un, .im .pen, d2, d3, d4, du "copies", d6, d7, d8, .im (.lst [wr 0 1 5, e21, e22, e23])] p = .ok (.nx, [.un, .im .pen, d2, d3, d4, du "copies", d6, d7, d8, .im (.lst [wr 0 1 5, e21, e22, e23])]) p := by kernel_rfl
theorem t3_0_1 (d2 d3 d4 d6 : SD) (d7 d8 : SD) (e21 e22 e23 : D) (p : Pen) : gb3 [.un, .im .pen, d2, d3, d4, du "copies", d6, d7, d8, .im (.lst [wr 1 1 5, e21, e22, e23])] p = .ok (.nx, [.un, .im .pen, d2, d3, d4, du "copies", d6, d7, d8, .im (.lst [wr 1 1 5, e21, e22, e23])]) p := by kernel_rfl
theorem t3_0_2 (d2 d3 d4 d6 : SD) (d7 d8 : SD) (e21 e22 e23 : D) (p : Pen) : gb3 [.un, .im .pen, d2, d3, d4, du "copies", d6, d7, d8, .im (.lst [wr 2 1 5, e21, e22, e23])] p = .ok (.nx, [.un, .im .pen, d2, d3, d4, du "copies", d6, d7, d8, .im (.lst [wr 2 1 5, e21, e22, e23])]) p := by kernel_rfl
theorem t3_0_3 (d2 d3 d4 d6 : SD) (d7 d8 : SD) (e21 e22 e23 : D) (p : Pen) : gb3 [.un, .im .pen, d2, d3, d4, du "copies", d6, d7, d8, .im (.lst [wr 3 1 5, e21, e22, e23])] p = .ok (.nx, [.un, .im .pen, d2, d3, d4, du "copies", d6, d7, d8, .im (.lst [wr 3 1 5, e21, e22, e23])]) p := by kernel_rfl
theorem t3_0_4 (d2 d3 d4 d6 : SD) (d7 d8 : SD) (e21 e22 e23 : D) (p : Pen) : gb3 [.un, .im .pen, d2, d3, d4, du "copies", d6, d7, d8, .im (.lst [wr 4 1 5, e21, e22, e23])] p = .ok (.nx, [.un, .im .pen, d2, d3, d4, du "copies", d6, d7, d8, .im (.lst [wr 4 1 5, e21, e22, e23])]) p := by kernel_rfl
theorem t3_0_5 (d2 d3 d4 d6 : SD) (d7 d8 : SD) (e21 e22 e23 : D) (p : Pen) : gb3 [.un, .im .pen, d2, d3, d4, du "copies", d6, d7, d8, .im (.lst [wr 5 1 5, e21, e22, e23])] p = .ok (.nx, [.un, .im .pen, d2, d3, d4, du "copies", d6, d7, d8, .im (.lst [wr 5 1 5, e21, e22, e23])]) p := by kernel_rfl
theorem t3_0_6 (d2 d3 d4 d6 : SD) (d7 d8 : SD) (e21 e22 e23 : D) (p : Pen) : gb3 [.un, .im .pen, d2, d3, d4, du "copies", d6, d7, d8, .im (.lst [wr 6 1 5, e21, e22, e23])] p = .ok (.nx, [.un, .im .pen, d2, d3, d4, du "copies", d6, d7, d8, .im (.lst [wr 6 1 5, e21, e22, e23])]) p := by kernel_rfl
theorem t3_1_0 (d2 d3 d4 d6 : SD) (d7 d8 : SD) (e22 e23 : D) (p : Pen) : gb3 [.un, .im .pen, d2, d3, d4, du "liars", d6, d7, d8, .im (.lst [.int 1, wr 0 0 5, e22, e23])] p = .ok (.nx, [.un, .im .pen, d2, d3, d4, du "liars", d6, d7, d8, .im (.lst [.int 1, wr 0 0 5, e22, e23])]) p := by kernel_rfl
theorem t3_1_1 (d2 d3 d4 d6 : SD) (d7 d8 : SD) (e22 e23 : D) (p : Pen) : gb3 [.un, .im .pen, d2, d3, d4, du "liars", d6, d7, d8, .im (.lst [.int 1, wr 1 0 5, e22, e23])] p = .ok (.nx, [.un, .im .pen, d2, d3, d4, du "liars", d6, d7, d8, .im (.lst [.int 1, wr 1 0 5, e22, e23])]) p := by kernel_rfl
theorem t3_1_2 (d2 d3 d4 d6 : SD) (d7 d8 : SD) (e22 e23 : D) (p : Pen) : gb3 [.un, .im .pen, d2, d3, d4, du "liars", d6, d7, d8, .im (.lst [.int 1, wr 2 0 5, e22, e23])] p = .ok (.nx, [.un, .im .pen, d2, d3, d4, du "liars", d6, d7, d8, .im (.lst [.int 1, wr 2 0 5, e22, e23])]) p := by kernel_rfl
theorem t3_1_3 (d2 d3 d4 d6 : SD) (d7 d8 : SD) (e22 e23 : D) (p : Pen) : gb3 [.un, .im .pen, d2, d3, d4, du "liars", d6, d7, d8, .im (.lst [.int 1, wr 3 0 5, e22, e23])] p = .ok (.nx, [.un, .im .pen, d2, d3, d4, du "liars", d6, d7, d8, .im (.lst [.int 1, wr 3 0 5, e22, e23])]) p := by kernel_rfl
theorem t3_1_4 (d2 d3 d4 d6 : SD) (d7 d8 : SD) (e22 e23 : D) (p : Pen) : gb3 [.un, .im .pen, d2, d3, d4, du "liars", d6, d7, d8, .im (.lst [.int 1, wr 4 0 5, e22, e23])] p = .ok (.nx, [.un, .im .pen, d2, d3, d4, du "liars", d6, d7, d8, .im (.lst [.int 1, wr 4 0 5, e22, e23])]) p := by kernel_rfl
theorem t3_1_5 (d2 d3 d4 d6 : SD) (d7 d8 : SD) (e22 e23 : D) (p : Pen) : gb3 [.un, .im .pen, d2, d3, d4, du "liars", d6, d7, d8, .im (.lst [.int 1, wr 5 0 5, e22, e23])] p = .ok (.nx, [.un, .im .pen, d2, d3, d4, du "liars", d6, d7, d8, .im (.lst [.int 1, wr 5 0 5, e22, e23])]) p := by kernel_rfl
theorem t3_1_6 (d2 d3 d4 d6 : SD) (d7 d8 : SD) (e22 e23 : D) (p : Pen) : gb3 [.un, .im .pen, d2, d3, d4, du "liars", d6, d7, d8, .im (.lst [.int 1, wr 6 0 5, e22, e23])] p = .ok (.nx, [.un, .im .pen, d2, d3, d4, du "liars", d6, d7, d8, .im (.lst [.int 1, wr 6 0 5, e22, e23])]) p := by kernel_rfl
theorem t3_2_0 (d2 d3 d4 d6 : SD) (d7 d8 : SD) (e23 : D) (p : Pen) : gb3 [.un, .im .pen, d2, d3, d4, du "falls", d6, d7, d8, .im (.lst [.int 1, .int 0, wr 0 0 5, e23])] p = .ok (.nx, [.un, .im .pen, d2, d3, d4, du "falls", d6, d7, d8, .im (.lst [.int 1, .int 0, wr 0 0 5, e23])]) p := by kernel_rfl
theorem t3_2_1 (d2 d3 d4 d6 : SD) (d7 d8 : SD) (e23 : D) (p : Pen) : gb3 [.un, .im .pen, d2, d3, d4, du "falls", d6, d7, d8, .im (.lst [.int 1, .int 0, wr 1 0 5, e23])] p = .ok (.nx, [.un, .im .pen, d2, d3, d4, du "falls", d6, d7, d8, .im (.lst [.int 1, .int 0, wr 1 0 5, e23])]) p := by kernel_rfl
theorem t3_2_2 (d2 d3 d4 d6 : SD) (d7 d8 : SD) (e23 : D) (p : Pen) : gb3 [.un, .im .pen, d2, d3, d4, du "falls", d6, d7, d8, .im (.lst [.int 1, .int 0, wr 2 0 5, e23])] p = .ok (.nx, [.un, .im .pen, d2, d3, d4, du "falls", d6, d7, d8, .im (.lst [.int 1, .int 0, wr 2 0 5, e23])]) p := by kernel_rfl
theorem t3_2_3 (d2 d3 d4 d6 : SD) (d7 d8 : SD) (e23 : D) (p : Pen) : gb3 [.un, .im .pen, d2, d3, d4, du "falls", d6, d7, d8, .im (.lst [.int 1, .int 0, wr 3 0 5, e23])] p = .ok (.nx, [.un, .im .pen, d2, d3, d4, du "falls", d6, d7, d8, .im (.lst [.int 1, .int 0, wr 3 0 5, e23])]) p := by kernel_rfl
theorem t3_2_4 (d2 d3 d4 d6 : SD) (d7 d8 : SD) (e23 : D) (p : Pen) : gb3 [.un, .im .pen, d2, d3, d4, du "falls", d6, d7, d8, .im (.lst [.int 1, .int 0, wr 4 0 5, e23])] p = .ok (.nx, [.un, .im .pen, d2, d3, d4, du "falls", d6, d7, d8, .im (.lst [.int 1, .int 0, wr 4 0 5, e23])]) p := by kernel_rfl
theorem t3_2_5 (d2 d3 d4 d6 : SD) (d7 d8 : SD) (e23 : D) (p : Pen) : gb3 [.un, .im .pen, d2, d3, d4, du "falls", d6, d7, d8, .im (.lst [.int 1, .int 0, wr 5 0 5, e23])] p = .ok (.nx, [.un, .im .pen, d2, d3, d4, du "falls", d6, d7, d8, .im (.lst [.int 1, .int 0, wr 5 0 5, e23])]) p := by kernel_rfl
theorem t3_2_6 (d2 d3 d4 d6 : SD) (d7 d8 : SD) (e23 : D) (p : Pen) : gb3 [.un, .im .pen, d2, d3, d4, du "falls", d6, d7, d8, .im (.lst [.int 1, .int 0, wr 6 0 5, e23])] p = .ok (.nx, [.un, .im .pen, d2, d3, d4, du "falls", d6, d7, d8, .im (.lst [.int 1, .int 0, wr 6 0 5, e23])]) p := by kernel_rfl
theorem t3_3_0 (d2 d3 d4 d6 : SD) (d7 d8 : SD) (p : Pen) : gb3 [.un, .im .pen, d2, d3, d4, du "changes", d6, d7, d8, .im (.lst [.int 1, .int 0, .int 0, wr 0 0 5])] p = .ok (.nx, [.un, .im .pen, d2, d3, d4, du "changes", d6, d7, d8, .im (.lst [.int 1, .int 0, .int 0, wr 0 0 5])]) p := by kernel_rfl
theorem t3_3_1 (d2 d3 d4 d6 : SD) (d7 d8 : SD) (p : Pen) : gb3 [.un, .im .pen, d2, d3, d4, du "changes", d6, d7, d8, .im (.lst [.int 1, .int 0, .int 0, wr 1 0 5])] p = .ok (.nx, [.un, .im .pen, d2, d3, d4, du "changes", d6, d7, d8, .im (.lst [.int 1, .int 0, .int 0, wr 1 0 5])]) p := by kernel_rfl
theorem t3_3_2 (d2 d3 d4 d6 : SD) (d7 d8 : SD) (p : Pen) : gb3 [.un, .im .pen, d2, d3, d4, du "changes", d6, d7, d8, .im (.lst [.int 1, .int 0, .int 0, wr 2 0 5])] p = .ok (.nx, [.un, .im .pen, d2, d3, d4, du "changes", d6, d7, d8, .im (.lst [.int 1, .int 0, .int 0, wr 2 0 5])]) p := by kernel_rfl
theorem t3_3_3 (d2 d3 d4 d6 : SD) (d7 d8 : SD) (p : Pen) : gb3 [.un, .im .pen, d2, d3, d4, du "changes", d6, d7, d8, .im (.lst [.int 1, .int 0, .int 0, wr 3 0 5])] p = .ok (.nx, [.un, .im .pen, d2, d3, d4, du "changes", d6, d7, d8, .im (.lst [.int 1, .int 0, .int 0, wr 3 0 5])]) p := by kernel_rfl
theorem t3_3_4 (d2 d3 d4 d6 : SD) (d7 d8 : SD) (p : Pen) : gb3 [.un, .im .pen, d2, d3, d4, du "changes", d6, d7, d8, .im (.lst [.int 1, .int 0, .int 0, wr 4 0 5])] p = .ok (.nx, [.un, .im .pen, d2, d3, d4, du "changes", d6, d7, d8, .im (.lst [.int 1, .int 0, .int 0, wr 4 0 5])]) p := by kernel_rfl
theorem t3_3_5 (d2 d3 d4 d6 : SD) (d7 d8 : SD) (p : Pen) : gb3 [.un, .im .pen, d2, d3, d4, du "changes", d6, d7, d8, .im (.lst [.int 1, .int 0, .int 0, wr 5 0 5])] p = .ok (.nx, [.un, .im .pen, d2, d3, d4, du "changes", d6, d7, d8, .im (.lst [.int 1, .int 0, .int 0, wr 5 0 5])]) p := by kernel_rfl
theorem t3_3_6 (d2 d3 d4 d6 : SD) (d7 d8 : SD) (p : Pen) : gb3 [.un, .im .pen, d2, d3, d4, du "changes", d6, d7, d8, .im (.lst [.int 1, .int 0, .int 0, wr 6 0 5])] p = .ok (.nx, [.un, .im .pen, d2, d3, d4, du "changes", d6, d7, d8, .im (.lst [.int 1, .int 0, .int 0, wr 6 0 5])]) p := by kernel_rfl
theorem t5_0_0 (d2 d3 d4 d6 : SD) (d7 d8 : SD) (e21 e22 : D) (p : Pen) : gb5 [.un, .im .pen, d2, d3, d4, du "liars", d6, d7, d8, .im (.lst [wr 0 0 5, e21, e22])] p = .ok (.nx, [.un, .im .pen, d2, d3, d4, du "liars", d6, d7, d8, .im (.lst [wr 0 0 5, e21, e22])]) p := by kernel_rfl
theorem t5_0_1 (d2 d3 d4 d6 : SD) (d7 d8 : SD) (e21 e22 : D) (p : Pen) : gb5 [.un, .im .pen, d2, d3, d4, du "liars", d6, d7, d8, .im (.lst [wr 1 0 5, e21, e22])] p = .ok (.nx, [.un, .im .pen, d2, d3, d4, du "liars", d6, d7, d8, .im (.lst [wr 1 0 5, e21, e22])]) p := by kernel_rfl
theorem t5_0_2 (d2 d3 d4 d6 : SD) (d7 d8 : SD) (e21 e22 : D) (p : Pen) : gb5 [.un, .im .pen, d2, d3, d4, du "liars", d6, d7, d8, .im (.lst [wr 2 0 5, e21, e22])] p = .ok (.nx, [.un, .im .pen, d2, d3, d4, du "liars", d6, d7, d8, .im (.lst [wr 2 0 5, e21, e22])]) p := by kernel_rfl
theorem t5_0_3 (d2 d3 d4 d6 : SD) (d7 d8 : SD) (e21 e22 : D) (p : Pen) : gb5 [.un, .im .pen, d2, d3, d4, du "liars", d6, d7, d8, .im (.lst [wr 3 0 5, e21, e22])] p = .ok (.nx, [.un, .im .pen, d2, d3, d4, du "liars", d6, d7, d8, .im (.lst [wr 3 0 5, e21, e22])]) p := by kernel_rfl
theorem t5_0_4 (d2 d3 d4 d6 : SD) (d7 d8 : SD) (e21 e22 : D) (p : Pen) : gb5 [.un, .im .pen, d2, d3, d4, du "liars", d6, d7, d8, .im (.lst [wr 4 0 5, e21, e22])] p = .ok (.nx, [.un, .im .pen, d2, d3, d4, du "liars", d6, d7, d8, .im (.lst [wr 4 0 5, e21, e22])]) p := by kernel_rfl
theorem t5_0_5 (d2 d3 d4 d6 : SD) (d7 d8 : SD) (e21 e22 : D) (p : Pen) : gb5 [.un, .im .pen, d2, d3, d4, du "liars", d6, d7, d8, .im (.lst [wr 5 0 5, e21, e22])] p = .ok (.nx, [.un, .im .pen, d2, d3, d4, du "liars", d6, d7, d8, .im (.lst [wr 5 0 5, e21, e22])]) p := by kernel_rfl
theorem t5_0_6 (d2 d3 d4 d6 : SD) (d7 d8 : SD) (e21 e22 : D) (p : Pen) : gb5 [.un, .im .pen, d2, d3, d4, du "liars", d6, d7, d8, .im (.lst [wr 6 0 5, e21, e22])] p = .ok (.nx, [.un, .im .pen, d2, d3, d4, du "liars", d6, d7, d8, .im (.lst [wr 6 0 5, e21, e22])]) p := by kernel_rfl
theorem t5_1_0 (d2 d3 d4 d6 : SD) (d7 d8 : SD) (e22 : D) (p : Pen) : gb5 [.un, .im .pen, d2, d3, d4, du "falls", d6, d7, d8, .im (.lst [.int 0, wr 0 0 5, e22])] p = .ok (.nx, [.un, .im .pen, d2, d3, d4, du "falls", d6, d7, d8, .im (.lst [.int 0, wr 0 0 5, e22])]) p := by kernel_rfl
theorem t5_1_1 (d2 d3 d4 d6 : SD) (d7 d8 : SD) (e22 : D) (p : Pen) : gb5 [.un, .im .pen, d2, d3, d4, du "falls", d6, d7, d8, .im (.lst [.int 0, wr 1 0 5, e22])] p = .ok (.nx, [.un, .im .pen, d2, d3, d4, du "falls", d6, d7, d8, .im (.lst [.int 0, wr 1 0 5, e22])]) p := by kernel_rfl
theorem t5_1_2 (d2 d3 d4 d6 : SD) (d7 d8 : SD) (e22 : D) (p : Pen) : gb5 [.un, .im .pen, d2, d3, d4, du "falls", d6, d7, d8, .im (.lst [.int 0, wr 2 0 5, e22])] p = .ok (.nx, [.un, .im .pen, d2, d3, d4, du "falls", d6, d7, d8, .im (.lst [.int 0, wr 2 0 5, e22])]) p := by kernel_rfl
theorem t5_1_3 (d2 d3 d4 d6 : SD) (d7 d8 : SD) (e22 : D) (p : Pen) : gb5 [.un, .im .pen, d2, d3, d4, du "falls", d6, d7, d8, .im (.lst [.int 0, wr 3 0 5, e22])] p = .ok (.nx, [.un, .im .pen, d2, d3, d4, du "falls", d6, d7, d8, .im (.lst [.int 0, wr 3 0 5, e22])]) p := by kernel_rfl
theorem t5_1_4 (d2 d3 d4 d6 : SD) (d7 d8 : SD) (e22 : D) (p : Pen) : gb5 [.un, .im .pen, d2, d3, d4, du "falls", d6, d7, d8, .im (.lst [.int 0, wr 4 0 5, e22])] p = .ok (.nx, [.un, .im .pen, d2, d3, d4, du "falls", d6, d7, d8, .im (.lst [.int 0, wr 4 0 5, e22])]) p := by kernel_rfl
theorem t5_1_5 (d2 d3 d4 d6 : SD) (d7 d8 : SD) (e22 : D) (p : Pen) : gb5 [.un, .im .pen, d2, d3, d4, du "falls", d6, d7, d8, .im (.lst [.int 0, wr 5 0 5, e22])] p = .ok (.nx, [.un, .im .pen, d2, d3, d4, du "falls", d6, d7, d8, .im (.lst [.int 0, wr 5 0 5, e22])]) p := by kernel_rfl
theorem t5_1_6 (d2 d3 d4 d6 : SD) (d7 d8 : SD) (e22 : D) (p : Pen) : gb5 [.un, .im .pen, d2, d3, d4, du "falls", d6, d7, d8, .im (.lst [.int 0, wr 6 0 5, e22])] p = .ok (.nx, [.un, .im .pen, d2, d3, d4, du "falls", d6, d7, d8, .im (.lst [.int 0, wr 6 0 5, e22])]) p := by kernel_rfl
theorem t5_2_0 (d2 d3 d4 d6 : SD) (d7 d8 : SD) (p : Pen) : gb5 [.un, .im .pen, d2, d3, d4, du "changes", d6, d7, d8, .im (.lst [.int 0, .int 0, wr 0 0 5])] p = .ok (.nx, [.un, .im .pen, d2, d3, d4, du "changes", d6, d7, d8, .im (.lst [.int 0, .int 0, wr 0 0 5])]) p := by kernel_rfl
theorem t5_2_1 (d2 d3 d4 d6 : SD) (d7 d8 : SD) (p : Pen) : gb5 [.un, .im .pen, d2, d3, d4, du "changes", d6, d7, d8, .im (.lst [.int 0, .int 0, wr 1 0 5])] p = .ok (.nx, [.un, .im .pen, d2, d3, d4, du "changes", d6, d7, d8, .im (.lst [.int 0, .int 0, wr 1 0 5])]) p := by kernel_rfl
theorem t5_2_2 (d2 d3 d4 d6 : SD) (d7 d8 : SD) (p : Pen) : gb5 [.un, .im .pen, d2, d3, d4, du "changes", d6, d7, d8, .im (.lst [.int 0, .int 0, wr 2 0 5])] p = .ok (.nx, [.un, .im .pen, d2, d3, d4, du "changes", d6, d7, d8, .im (.lst [.int 0, .int 0, wr 2 0 5])]) p := by kernel_rfl
theorem t5_2_3 (d2 d3 d4 d6 : SD) (d7 d8 : SD) (p : Pen) : gb5 [.un, .im .pen, d2, d3, d4, du "changes", d6, d7, d8, .im (.lst [.int 0, .int 0, wr 3 0 5])] p = .ok (.nx, [.un, .im .pen, d2, d3, d4, du "changes", d6, d7, d8, .im (.lst [.int 0, .int 0, wr 3 0 5])]) p := by kernel_rfl
theorem t5_2_4 (d2 d3 d4 d6 : SD) (d7 d8 : SD) (p : Pen) : gb5 [.un, .im .pen, d2, d3, d4, du "changes", d6, d7, d8, .im (.lst [.int 0, .int 0, wr 4 0 5])] p = .ok (.nx, [.un, .im .pen, d2, d3, d4, du "changes", d6, d7, d8, .im (.lst [.int 0, .int 0, wr 4 0 5])]) p := by kernel_rfl
theorem t5_2_5 (d2 d3 d4 d6 : SD) (d7 d8 : SD) (p : Pen) : gb5 [.un, .im .pen, d2, d3, d4, du "changes", d6, d7, d8, .im (.lst [.int 0, .int 0, wr 5 0 5])] p = .ok (.nx, [.un, .im .pen, d2, d3, d4, du "changes", d6, d7, d8, .im (.lst [.int 0, .int 0, wr 5 0 5])]) p := by kernel_rfl
theorem t5_2_6 (d2 d3 d4 d6 : SD) (d7 d8 : SD) (p : Pen) : gb5 [.un, .im .pen, d2, d3, d4, du "changes", d6, d7, d8, .im (.lst [.int 0, .int 0, wr 6 0 5])] p = .ok (.nx, [.un, .im .pen, d2, d3, d4, du "changes", d6, d7, d8, .im (.lst [.int 0, .int 0, wr 6 0 5])]) p := by kernel_rfl
theorem t10_0_0 (d2 d3 d4 d6 : SD) (e7 : D) (e21 e22 e23 : D) (p : Pen) : gb10 [.un, .im .pen, d2, d3, d4, du "copies", d6, (.im e7), (.im rg4), .im (.lst [wr 0 1 5, e21, e22, e23])] p = .ok (.nx, [.un, .im .pen, d2, d3, d4, du "copies", d6, (.im e7), (.im rg4), .im (.lst [wr 0 1 5, e21, e22, e23])]) p := by kernel_rfl
theorem t10_0_1 (d2 d3 d4 d6 : SD) (e7 : D) (e21 e22 e23 : D) (p : Pen) : gb10 [.un, .im .pen, d2, d3, d4, du "copies", d6, (.im e7), (.im rg4), .im (.lst [wr 1 1 5, e21, e22, e23])] p = .ok (.nx, [.un, .im .pen, d2, d3, d4, du "copies", d6, (.im e7), (.im rg4), .im (.lst [wr 1 1 5, e21, e22, e23])]) p := by kernel_rfl
theorem t10_0_2 (d2 d3 d4 d6 : SD) (e7 : D) (e21 e22 e23 : D) (p : Pen) : gb10 [.un, .im .pen, d2, d3, d4, du "copies", d6, (.im e7), (.im rg4), .im (.lst [wr 2 1 5, e21, e22, e23])] p = .ok (.nx, [.un, .im .pen, d2, d3, d4, du "copies", d6, (.im e7), (.im rg4), .im (.lst [wr 2 1 5, e21, e22, e23])]) p := by kernel_rfl
theorem t10_0_3 (d2 d3 d4 d6 : SD) (e7 : D) (e21 e22 e23 : D) (p : Pen) : gb10 [.un, .im .pen, d2, d3, d4, du "copies", d6, (.im e7), (.im rg4), .im (.lst [wr 3 1 5, e21, e22, e23])] p = .ok (.nx, [.un, .im .pen, d2, d3, d4, du "copies", d6, (.im e7), (.im rg4), .im (.lst [wr 3 1 5, e21, e22, e23])]) p := by kernel_rfl
theorem t10_0_4 (d2 d3 d4 d6 : SD) (e7 : D) (e21 e22 e23 : D) (p : Pen) : gb10 [.un, .im .pen, d2, d3, d4, du "copies", d6, (.im e7), (.im rg4), .im (.lst [wr 4 1 5, e21, e22, e23])] p = .ok (.nx, [.un, .im .pen, d2, d3, d4, du "copies", d6, (.im e7), (.im rg4), .im (.lst [wr 4 1 5, e21, e22, e23])]) p := by kernel_rfl
theorem t10_0_5 (d2 d3 d4 d6 : SD) (e7 : D) (e21 e22 e23 : D) (p : Pen) : gb10 [.un, .im .pen, d2, d3, d4, du "copies", d6, (.im e7), (.im rg4), .im (.lst [wr 5 1 5, e21, e22, e23])] p = .ok (.nx, [.un, .im .pen, d2, d3, d4, du "copies", d6, (.im e7), (.im rg4), .im (.lst [wr 5 1 5, e21, e22, e23])]) p := by kernel_rfl
theorem t10_0_6 (d2 d3 d4 d6 : SD) (e7 : D) (e21 e22 e23 : D) (p : Pen) : gb10 [.un, .im .pen, d2, d3, d4, du "copies", d6, (.im e7), (.im rg4), .im (.lst [wr 6 1 5, e21, e22, e23])] p = .ok (.nx, [.un, .im .pen, d2, d3, d4, du "copies", d6, (.im e7), (.im rg4), .im (.lst [wr 6 1 5, e21, e22, e23])]) p := by kernel_rfl
theorem t10_1_0 (d2 d3 d4 d6 : SD) (e7 : D) (e22 e23 : D) (p : Pen) : gb10 [.un, .im .pen, d2, d3, d4, du "read", d6, (.im e7), (.im rg4), .im (.lst [.int 1, wr 0 1 1, e22, e23])] p = .ok (.nx, [.un, .im .pen, d2, d3, d4, du "read", d6, (.im e7), (.im rg4), .im (.lst [.int 1, wr 0 1 1, e22, e23])]) p := by kernel_rfl
theorem t10_1_1 (d2 d3 d4 d6 : SD) (e7 : D) (e22 e23 : D) (p : Pen) : gb10 [.un, .im .pen, d2, d3, d4, du "read", d6, (.im e7), (.im rg4), .im (.lst [.int 1, wr 1 1 1, e22, e23])] p = .ok (.nx, [.un, .im .pen, d2, d3, d4, du "read", d6, (.im e7), (.im rg4), .im (.lst [.int 1, wr 1 1 1, e22, e23])]) p := by kernel_rfl
theorem t10_1_2 (d2 d3 d4 d6 : SD) (e7 : D) (e22 e23 : D) (p : Pen) : gb10 [.un, .im .pen, d2, d3, d4, du "read", d6, (.im e7), (.im rg4), .im (.lst [.int 1, wr 2 1 1, e22, e23])] p = .ok (.nx, [.un, .im .pen, d2, d3, d4, du "read", d6, (.im e7), (.im rg4), .im (.lst [.int 1, wr 2 1 1, e22, e23])]) p := by kernel_rfl
theorem t10_1_3 (d2 d3 d4 d6 : SD) (e7 : D) (e22 e23 : D) (p : Pen) : gb10 [.un, .im .pen, d2, d3, d4, du "read", d6, (.im e7), (.im rg4), .im (.lst [.int 1, wr 3 1 1, e22, e23])] p = .ok (.nx, [.un, .im .pen, d2, d3, d4, du "read", d6, (.im e7), (.im rg4), .im (.lst [.int 1, wr 3 1 1, e22, e23])]) p := by kernel_rfl
theorem t10_1_4 (d2 d3 d4 d6 : SD) (e7 : D) (e22 e23 : D) (p : Pen) : gb10 [.un, .im .pen, d2, d3, d4, du "read", d6, (.im e7), (.im rg4), .im (.lst [.int 1, wr 4 1 1, e22, e23])] p = .ok (.nx, [.un, .im .pen, d2, d3, d4, du "read", d6, (.im e7), (.im rg4), .im (.lst [.int 1, wr 4 1 1, e22, e23])]) p := by kernel_rfl
theorem t10_1_5 (d2 d3 d4 d6 : SD) (e7 : D) (e22 e23 : D) (p : Pen) : gb10 [.un, .im .pen, d2, d3, d4, du "read", d6, (.im e7), (.im rg4), .im (.lst [.int 1, wr 5 1 1, e22, e23])] p = .ok (.nx, [.un, .im .pen, d2, d3, d4, du "read", d6, (.im e7), (.im rg4), .im (.lst [.int 1, wr 5 1 1, e22, e23])]) p := by kernel_rfl
theorem t10_1_6 (d2 d3 d4 d6 : SD) (e7 : D) (e22 e23 : D) (p : Pen) : gb10 [.un, .im .pen, d2, d3, d4, du "read", d6, (.im e7), (.im rg4), .im (.lst [.int 1, wr 6 1 1, e22, e23])] p = .ok (.nx, [.un, .im .pen, d2, d3, d4, du "read", d6, (.im e7), (.im rg4), .im (.lst [.int 1, wr 6 1 1, e22, e23])]) p := by kernel_rfl
theorem t10_2_0 (d2 d3 d4 d6 : SD) (e7 : D) (e23 : D) (p : Pen) : gb10 [.un, .im .pen, d2, d3, d4, du "keep", d6, (.im e7), (.im rg4), .im (.lst [.int 1, .int 1, wr 0 1 1, e23])] p = .ok (.nx, [.un, .im .pen, d2, d3, d4, du "keep", d6, (.im e7), (.im rg4), .im (.lst [.int 1, .int 1, wr 0 1 1, e23])]) p := by kernel_rfl
theorem t10_2_1 (d2 d3 d4 d6 : SD) (e7 : D) (e23 : D) (p : Pen) : gb10 [.un, .im .pen, d2, d3, d4, du "keep", d6, (.im e7), (.im rg4), .im (.lst [.int 1, .int 1, wr 1 1 1, e23])] p = .ok (.nx, [.un, .im .pen, d2, d3, d4, du "keep", d6, (.im e7), (.im rg4), .im (.lst [.int 1, .int 1, wr 1 1 1, e23])]) p := by kernel_rfl
theorem t10_2_2 (d2 d3 d4 d6 : SD) (e7 : D) (e23 : D) (p : Pen) : gb10 [.un, .im .pen, d2, d3, d4, du "keep", d6, (.im e7), (.im rg4), .im (.lst [.int 1, .int 1, wr 2 1 1, e23])] p = .ok (.nx, [.un, .im .pen, d2, d3, d4, du "keep", d6, (.im e7), (.im rg4), .im (.lst [.int 1, .int 1, wr 2 1 1, e23])]) p := by kernel_rfl
theorem t10_2_3 (d2 d3 d4 d6 : SD) (e7 : D) (e23 : D) (p : Pen) : gb10 [.un, .im .pen, d2, d3, d4, du "keep", d6, (.im e7), (.im rg4), .im (.lst [.int 1, .int 1, wr 3 1 1, e23])] p = .ok (.nx, [.un, .im .pen, d2, d3, d4, du "keep", d6, (.im e7), (.im rg4), .im (.lst [.int 1, .int 1, wr 3 1 1, e23])]) p := by kernel_rfl
theorem t10_2_4 (d2 d3 d4 d6 : SD) (e7 : D) (e23 : D) (p : Pen) : gb10 [.un, .im .pen, d2, d3, d4, du "keep", d6, (.im e7), (.im rg4), .im (.lst [.int 1, .int 1, wr 4 1 1, e23])] p = .ok (.nx, [.un, .im .pen, d2, d3, d4, du "keep", d6, (.im e7), (.im rg4), .im (.lst [.int 1, .int 1, wr 4 1 1, e23])]) p := by kernel_rfl
theorem t10_2_5 (d2 d3 d4 d6 : SD) (e7 : D) (e23 : D) (p : Pen) : gb10 [.un, .im .pen, d2, d3, d4, du "keep", d6, (.im e7), (.im rg4), .im (.lst [.int 1, .int 1, wr 5 1 1, e23])] p = .ok (.nx, [.un, .im .pen, d2, d3, d4, du "keep", d6, (.im e7), (.im rg4), .im (.lst [.int 1, .int 1, wr 5 1 1, e23])]) p := by kernel_rfl
theorem t10_2_6 (d2 d3 d4 d6 : SD) (e7 : D) (e23 : D) (p : Pen) : gb10 [.un, .im .pen, d2, d3, d4, du "keep", d6, (.im e7), (.im rg4), .im (.lst [.int 1, .int 1, wr 6 1 1, e23])] p = .ok (.nx, [.un, .im .pen, d2, d3, d4, du "keep", d6, (.im e7), (.im rg4), .im (.lst [.int 1, .int 1, wr 6 1 1, e23])]) p := by kernel_rfl
theorem t10_3_0 (d2 d3 d4 d6 : SD) (e7 : D) (p : Pen) : gb10 [.un, .im .pen, d2, d3, d4, du "liars", d6, (.im e7), (.im rg4), .im (.lst [.int 1, .int 1, .int 1, wr 0 0 5])] p = .ok (.nx, [.un, .im .pen, d2, d3, d4, du "liars", d6, (.im e7), (.im rg4), .im (.lst [.int 1, .int 1, .int 1, wr 0 0 5])]) p := by kernel_rfl
theorem t10_3_1 (d2 d3 d4 d6 : SD) (e7 : D) (p : Pen) : gb10 [.un, .im .pen, d2, d3, d4, du "liars", d6, (.im e7), (.im rg4), .im (.lst [.int 1, .int 1, .int 1, wr 1 0 5])] p = .ok (.nx, [.un, .im .pen, d2, d3, d4, du "liars", d6, (.im e7), (.im rg4), .im (.lst [.int 1, .int 1, .int 1, wr 1 0 5])]) p := by kernel_rfl
theorem t10_3_2 (d2 d3 d4 d6 : SD) (e7 : D) (p : Pen) : gb10 [.un, .im .pen, d2, d3, d4, du "liars", d6, (.im e7), (.im rg4), .im (.lst [.int 1, .int 1, .int 1, wr 2 0 5])] p = .ok (.nx, [.un, .im .pen, d2, d3, d4, du "liars", d6, (.im e7), (.im rg4), .im (.lst [.int 1, .int 1, .int 1, wr 2 0 5])]) p := by kernel_rfl
theorem t10_3_3 (d2 d3 d4 d6 : SD) (e7 : D) (p : Pen) : gb10 [.un, .im .pen, d2, d3, d4, du "liars", d6, (.im e7), (.im rg4), .im (.lst [.int 1, .int 1, .int 1, wr 3 0 5])] p = .ok (.nx, [.un, .im .pen, d2, d3, d4, du "liars", d6, (.im e7), (.im rg4), .im (.lst [.int 1, .int 1, .int 1, wr 3 0 5])]) p := by kernel_rfl
theorem t10_3_4 (d2 d3 d4 d6 : SD) (e7 : D) (p : Pen) : gb10 [.un, .im .pen, d2, d3, d4, du "liars", d6, (.im e7), (.im rg4), .im (.lst [.int 1, .int 1, .int 1, wr 4 0 5])] p = .ok (.nx, [.un, .im .pen, d2, d3, d4, du "liars", d6, (.im e7), (.im rg4), .im (.lst [.int 1, .int 1, .int 1, wr 4 0 5])]) p := by kernel_rfl
theorem t10_3_5 (d2 d3 d4 d6 : SD) (e7 : D) (p : Pen) : gb10 [.un, .im .pen, d2, d3, d4, du "liars", d6, (.im e7), (.im rg4), .im (.lst [.int 1, .int 1, .int 1, wr 5 0 5])] p = .ok (.nx, [.un, .im .pen, d2, d3, d4, du "liars", d6, (.im e7), (.im rg4), .im (.lst [.int 1, .int 1, .int 1, wr 5 0 5])]) p := by kernel_rfl
theorem t10_3_6 (d2 d3 d4 d6 : SD) (e7 : D) (p : Pen) : gb10 [.un, .im .pen, d2, d3, d4, du "liars", d6, (.im e7), (.im rg4), .im (.lst [.int 1, .int 1, .int 1, wr 6 0 5])] p = .ok (.nx, [.un, .im .pen, d2, d3, d4, du "liars", d6, (.im e7), (.im rg4), .im (.lst [.int 1, .int 1, .int 1, wr 6 0 5])]) p := by kernel_rfl
theorem th_0 (d2 d3 d4 d5 d6 d9 : SD) (p : Pen) : sSeq gb8 gb9 [.un, .im .pen, d2, d3, d4, d5, d6, .im (.non), .im rg4, d9] p = .ok (.nx, [.un, .im .pen, d2, d3, d4, d5, .im (.lst [.tup [.str "number", .str "one"], .tup [.str "number", .str "other"], .tup [.str "number", .str "changes"]]), .im (.non), .im rg4, d9]) p := by kernel_rfl
theorem th_1 (d2 d3 d4 d5 d6 d9 : SD) (p : Pen) : sSeq gb8 gb9 [.un, .im .pen, d2, d3, d4, d5, d6, .im (.int 5), .im rg4, d9] p = .ok (.nx, [.un, .im .pen, d2, d3, d4, d5, .im (.lst [.tup [.str "number", .str "one"], .tup [.str "number", .str "other"], .tup [.str "number", .str "changes"]]), .im (.int 5), .im rg4, d9]) p := by kernel_rfl
theorem th_2 (d2 d3 d4 d5 d6 d9 : SD) (p : Pen) : sSeq gb8 gb9 [.un, .im .pen, d2, d3, d4, d5, d6, .im (.tup [.int 3, .int 2, .int 2]), .im rg4, d9] p = .ok (.nx, [.un, .im .pen, d2, d3, d4, d5, .im (.lst [.tup [.str "number", .str "one"], .tup [.str "number", .str "other"], .tup [.str "number", .str "changes"]]), .im (.tup [.int 3, .int 2, .int 2]), .im rg4, d9]) p := by kernel_rfl
theorem th_3 (d2 d3 d4 d5 d6 d9 : SD) (p : Pen) : sSeq gb8 gb9 [.un, .im .pen, d2, d3, d4, d5, d6, .im (.tup [.int 3, .int 2, .int 2, .int 0, .int 0]), .im rg4, d9] p = .ok (.nx, [.un, .im .pen, d2, d3, d4, d5, .im (.lst [.tup [.str "number", .str "one"], .tup [.str "number", .str "other"], .tup [.str "number", .str "changes"]]), .im (.tup [.int 3, .int 2, .int 2, .int 0, .int 0]), .im rg4, d9]) p := by kernel_rfl
theorem th_4 (d2 d3 d4 d5 d6 d9 : SD) (p : Pen) : sSeq gb8 gb9 [.un, .im .pen, d2, d3, d4, d5, d6, .im (.str "3220"), .im rg4, d9] p = .ok (.nx, [.un, .im .pen, d2, d3, d4, d5, .im (.lst [.tup [.str "number", .str "one"], .tup [.str "number", .str "other"], .tup [.str "number", .str "changes"]]), .im (.str "3220"), .im rg4, d9]) p := by kernel_rfl
theorem th_5 (d2 d3 d4 d5 d6 d9 : SD) (p : Pen) : sSeq gb8 gb9 [.un, .im .pen, d2, d3, d4, d5, d6, .im (.dic [] []), .im rg4, d9] p = .ok (.nx, [.un, .im .pen, d2, d3, d4, d5, .im (.lst [.tup [.str "number", .str "one"], .tup [.str "number", .str "other"], .tup [.str "number", .str "changes"]]), .im (.dic [] []), .im rg4, d9]) p := by kernel_rfl
theorem th_6 (d2 d3 d4 d5 d6 d9 : SD) (p : Pen) : sSeq gb8 gb9 [.un, .im .pen, d2, d3, d4, d5, d6, .im (.lst []), .im rg4, d9] p = .ok (.nx, [.un, .im .pen, d2, d3, d4, d5, .im (.lst [.tup [.str "number", .str "one"], .tup [.str "number", .str "other"], .tup [.str "number", .str "changes"]]), .im (.lst []), .im rg4, d9]) p := by kernel_rfl
theorem tl (d2 d3 d4 d5 d6 d7 d9 : SD) (p : Pen) : gl [.un, .im .pen, d2, d3, d4, d5, d6, d7, .im rg4, d9] p = .ok (.rt (.bl true), [.un, .im .pen, d2, d3, d4, d5, d6, d7, .im rg4, d9]) p := by kernel_rfl
end La
end
section
set_option Elab.async false
set_option linter.all false
set_option maxRecDepth 1000000
set_option maxHeartbeats 4000000
namespace La
open Z PySem
def Low (p : Pen) (b : Int) : Prop := 0 ≤ p.spot ∧ p.spot ≤ b
theorem draw_is : m__law_draw = bodyM 7 (Z.drawG 13494 2098 83083 445) := rfl
theorem draw {many b : Int} {p : Pen} (hm : 0 < many) (hm2 : many < 1073741824) (h : Low p b) (hb : b < 1000000) : ∃ r p', m__law_draw [.pen, .int many] p = .ok (.int r) p' ∧ 0 ≤ r ∧ r < many ∧ Low p' (b + 1) := by
  have hs := h.2
  obtain ⟨r, p', e, h1, h2, h3⟩ := Z.draw_ok (p := p) (a := 13494) (b := 2098) (c := 83083) (e := 445) hm hm2 h.1 (by omega) (by decide) (by decide) (by decide) (by decide) (by decide) (by decide) (by decide) (by decide)
  rw [draw_is]
  refine ⟨r, p', e, h1, h2, ?_, ?_⟩
  · have := h3.lo; have := h.1; omega
  · have := h3.hi; omega
theorem pickL {ds : List D} {b : Int} {p : Pen} (hn : 0 < ds.length) (hl : ds.length < 1000) (h : Low p b) (hb : b < 1000000) : ∃ (i : Nat) (d : D) (p' : Pen), ds[i]? = some d ∧ m__law_pick [.pen, .lst ds] p = .ok d p' ∧ Low p' (b + 1) := by
  obtain ⟨r, p1, e, h1, h2, h3⟩ := draw (many := (ds.length : Int)) (by omega) (by omega) h hb
  obtain ⟨n, rfl⟩ := Int.eq_ofNat_of_zero_le h1
  have hn' : n < ds.length := by omega
  have at_ : ds[n]? = some ds[n] := List.getElem?_eq_getElem hn'
  have ix : dIxL (.lst ds) (.int (n : Int)) = some ds[n] := L2.atI_nat at_
  refine ⟨n, ds[n], p1, at_, ?_, h3⟩
  simp [m__law_pick, bodyM, g__law_pick, sRet, eOp, eVar, eCl, sh__law_pick_2, sh__law_draw_2, pick3, Src.get, aCons, aNil, eCall, dLen, M.bind, M.pure, M.of, e, ix]
def wl (lo hi : Int) : List D := [.non, .int (lo - 1), .int (hi + 1), .bl true, .str (toString lo), .tup [.int lo], .int 1000000000000000000000000000000]
theorem wl_wr {w : Nat} {lo hi : Int} {d : D} (h : (wl lo hi)[w]? = some d) : w < 7 ∧ d = wr w lo hi := by
  match w, h with
  | 0, h => cases h; exact ⟨by decide, rfl⟩
  | 1, h => cases h; exact ⟨by decide, rfl⟩
  | 2, h => cases h; exact ⟨by decide, rfl⟩
  | 3, h => cases h; exact ⟨by decide, rfl⟩
  | 4, h => cases h; exact ⟨by decide, rfl⟩
  | 5, h => cases h; exact ⟨by decide, rfl⟩
  | 6, h => cases h; exact ⟨by decide, rfl⟩
  | n + 7, h => simp [wl] at h
def part (q : Str × Int × Int) : D := .tup [.str q.1, .int q.2.1, .int q.2.2]
def fb : Sl → M (Out × Sl) := (sSeq (sAsg (eCl 2 0 2 m__law_pick sh__law_pick_2 [] (aCons (eVar 0) (aCons (eLst (aCons (eC .non) (aCons (eOp dSub (eVar 6) (eC (.int 1))) (aCons (eOp dAdd (eVar 7) (eC (.int 1))) (aCons (eC (.bl true)) (aCons (eCall dStrI (aCons (eVar 6) aNil)) (aCons (eTup (aCons (eVar 6) aNil)) (aCons (eOp dPow (eC (.int 10)) (eC (.int 30))) aNil)))))))) aNil)) aNil) (tgN 8)) (sApp 3 (eIf (bTest (eOp dLt (eVar 4) (eVar 2))) (eVar 6) (eVar 8))))
def ft : D → Sl → Option Sl := (tgTup 2 (tgCons (tgN 4) (tgCons (tgTup 3 (tgCons (tgN 5) (tgCons (tgN 6) (tgCons (tgN 7) tgNil)))) tgNil)))
def f0 : Sl → M (Out × Sl) := (sParOw2 2 3 (eCl 2 0 2 m__law_draw sh__law_draw_2 [] (aCons (eVar 0) (aCons (eCall dLen (aCons (eVar 1) aNil)) aNil)) aNil) (lLst aNil))
def f2 : Sl → M (Out × Sl) := (fun s => (sRet (eTup (aCons (eVar 3) (aCons (eTup (aCons (eC (.str "number")) (aCons (eOp dIxT (eOp dIxL (eVar 1) (eVar 2)) (eC (.int 0))) aNil))) aNil)))) (frzS 3 s))
theorem first_split : g__law_first = sSeq f0 (sSeq (sForI (iEn (aCons (eVar 1) aNil)) ft fb) f2) := rfl
def item (q : Nat × Str × Int × Int) : D := .tup [.int (q.1 : Int), part q.2]
def got (at_ : Int) (q : Nat × Str × Int × Int) (w : Nat) : D := if (q.1 : Int) < at_ then .int q.2.2.1 else wr w q.2.2.1 q.2.2.2
theorem pow30 : dPow (.int 10) (.int 30) = some (.int 1000000000000000000000000000000) := by kernel_rfl
theorem fturn {q : Nat × Str × Int × Int} {at_ b : Int} {acc : List D} {p : Pen} {pl : D} (hlo : q.2.2.1 = 0 ∨ q.2.2.1 = 1) (hz : acc.length < 1000) (h : Low p b) (hb : b < 1000000) : ∃ (w : Nat) (p' : Pen), w < 7 ∧ Low p' (b + 1) ∧ ∀ x4 x5 x6 x7 x8 : SD,
    ((M.of (ft (item q) [.im .pen, .im pl, .im (.int at_), .ow acc, x4, x5, x6, x7, x8])).bind fb) p = .ok (.nx, [.im .pen, .im pl, .im (.int at_), .ow (acc ++ [got at_ q w]), .im (.int (q.1 : Int)), .im (.str q.2.1), .im (.int q.2.2.1), .im (.int q.2.2.2), .im (wr w q.2.2.1 q.2.2.2)]) p' := by
  obtain ⟨i, nm, lo, hi⟩ := q
  dsimp only at hlo
  obtain ⟨w, d, p1, h1, h2, h3⟩ := pickL (ds := wl lo hi) (by show 0 < 7; decide) (by show 7 < 1000; decide) h hb
  obtain ⟨hw, rfl⟩ := wl_wr h1
  refine ⟨w, p1, hw, h3, fun x4 x5 x6 x7 x8 => ?_⟩
  have st : dStrI [.int lo] = some (.str (toString lo)) := by rcases hlo with rfl | rfl <;> rfl
  have sl : sz (acc.length + 1) = true := decide_eq_true (by omega)
  have s1 : sz 1 = true := rfl
  have s7 : sz 7 = true := rfl
  unfold wl at h2
  generalize Str.ofString (toString lo) = z at h2 st
  by_cases c : (i : Int) < at_
  · simp [ft, item, part, tgTup, tgCons, tgNil, tgN, fb, sSeq, sAsg, sApp, eCl, sh__law_pick_2, pick3, Src.get, eVar, eLst, s1, s7, aCons, aNil, eC, eOp, dSub, dAdd, gI, eCall, eTup, eIf, bTest, dLt, asB, M.bind, M.pure, M.of, pow30, st, h2, got, c, sl]
  · simp [ft, item, part, tgTup, tgCons, tgNil, tgN, fb, sSeq, sAsg, sApp, eCl, sh__law_pick_2, pick3, Src.get, eVar, eLst, s1, s7, aCons, aNil, eC, eOp, dSub, dAdd, gI, eCall, eTup, eIf, bTest, dLt, asB, M.bind, M.pure, M.of, pow30, st, h2, got, c, sl]
theorem seq_nx {g1 g2 : Sl → M (Out × Sl)} {s s' : Sl} {p p' : Pen} (h : g1 s p = .ok (.nx, s') p') : sSeq g1 g2 s p = g2 s' p' := by
  unfold sSeq
  rw [M.bind_app h]
theorem floop {at_ : Int} {pl : D} : ∀ (its : List (Nat × Str × Int × Int)) (acc : List D) (p : Pen) (b : Int) (x4 x5 x6 x7 x8 : SD), (∀ q ∈ its, q.2.2.1 = 0 ∨ q.2.2.1 = 1) → acc.length + its.length < 1000 → Low p b → b + its.length < 999000 →
    ∃ (ws : List Nat) (y4 y5 y6 y7 y8 : SD) (p' : Pen), ws.length = its.length ∧ (∀ w ∈ ws, w < 7) ∧ Low p' (b + its.length) ∧ loopD ft fb (its.map item) [.im .pen, .im pl, .im (.int at_), .ow acc, x4, x5, x6, x7, x8] p = .ok (.nx, [.im .pen, .im pl, .im (.int at_), .ow (acc ++ List.zipWith (got at_) its ws), y4, y5, y6, y7, y8]) p'
  | [], acc, p, b, x4, x5, x6, x7, x8, _, _, h, _ => ⟨[], x4, x5, x6, x7, x8, p, rfl, fun w z => (nomatch z), ⟨h.1, by have := h.2; simp; omega⟩, by simp [loopD, M.pure]⟩
  | q :: its, acc, p, b, x4, x5, x6, x7, x8, hq, hl, h, hb => by
    simp only [List.length_cons] at hl hb
    obtain ⟨w, p1, hw, h1, e⟩ := fturn (pl := pl) (at_ := at_) (q := q) (acc := acc) (hq q (List.mem_cons_self ..)) (by omega) h (by omega)
    obtain ⟨ws, y4, y5, y6, y7, y8, p2, a1, a2, a3, a4⟩ := floop its (acc ++ [got at_ q w]) p1 (b + 1) (.im (.int (q.1 : Int))) (.im (.str q.2.1)) (.im (.int q.2.2.1)) (.im (.int q.2.2.2)) (.im (wr w q.2.2.1 q.2.2.2)) (fun q' z => hq q' (List.mem_cons_of_mem _ z)) (by simp only [List.length_append, List.length_cons, List.length_nil]; omega) h1 (by omega)
    refine ⟨w :: ws, y4, y5, y6, y7, y8, p2, by rw [List.length_cons, List.length_cons, a1], fun v hv => ?_, ⟨a3.1, by have := a3.2; simp only [List.length_cons]; omega⟩, ?_⟩
    · rcases List.mem_cons.mp hv with rfl | hv
      · exact hw
      · exact a2 v hv
    · have st : loopD ft fb ((q :: its).map item) [.im .pen, .im pl, .im (.int at_), .ow acc, x4, x5, x6, x7, x8] = fun p => (((M.of (ft (item q) [.im .pen, .im pl, .im (.int at_), .ow acc, x4, x5, x6, x7, x8])).bind fb).bind fun r => match r.1 with
          | .nx => loopD ft fb (its.map item) r.2
          | .ct => loopD ft fb (its.map item) r.2
          | .bk => M.pure (.nx, r.2)
          | .rt v => M.pure (.rt v, r.2)) p := by
        funext p
        simp only [List.map_cons, loopD]
        generalize M.of (ft (item q) _) = m
        unfold M.bind
        dsimp only
        cases m p <;> rfl
      rw [st]
      show M.bind _ _ p = _
      rw [M.bind_app (e x4 x5 x6 x7 x8)]
      dsimp only
      rw [a4, List.zipWith_cons_cons, List.append_assoc, List.singleton_append]
def its (ps : List (Str × Int × Int)) : List (Nat × Str × Int × Int) := ps.mapIdx fun i q => (i, q)
def ps1 : List (Str × Int × Int) := [("copies", 1, 5), ("read", 1, 1), ("keep", 1, 1), ("liars", 0, 5), ("falls", 0, 5)]
theorem first1 {b : Int} {p : Pen} (h : Low p b) (hb : b < 900000) : ∃ (a : Nat) (ws : List Nat) (p' : Pen), a < 5 ∧ ws.length = 5 ∧ (∀ w ∈ ws, w < 7) ∧ Low p' (b + 6) ∧ m__law_first [.pen, .lst (ps1.map part)] p = .ok (.tup [.lst (List.zipWith (got a) (its ps1) ws), .tup [.str "number", .str ((ps1.getD a ("", 0, 0)).1)]]) p' := by
  obtain ⟨r, p1, e, h1, h2, h3⟩ := draw (many := 5) (by decide) (by decide) h (by omega)
  obtain ⟨a, rfl⟩ := Int.eq_ofNat_of_zero_le h1
  obtain ⟨ws, y4, y5, y6, y7, y8, p2, a1, a2, a3, a4⟩ := floop (at_ := (a : Int)) (pl := .lst (ps1.map part)) (its ps1) [] p1 (b + 1) .un .un .un .un .un (by decide) (by decide) h3 (by show b + 1 + 5 < 999000; omega)
  have ha : a < 5 := by omega
  refine ⟨a, ws, p2, ha, a1, a2, ⟨a3.1, by have z : p2.spot ≤ b + 1 + 5 := a3.2; omega⟩, ?_⟩
  have en : enumD (ps1.map part) = (its ps1).map item := rfl
  have hf0 : f0 [.im .pen, .im (.lst (ps1.map part)), .un, .un, .un, .un, .un, .un, .un] p = .ok (.nx, [.im .pen, .im (.lst (ps1.map part)), .im (.int (a : Int)), .ow [], .un, .un, .un, .un, .un]) p1 := by
    have ln : dLen [.lst (ps1.map part)] = some (.int 5) := rfl
    simp [f0, sParOw2, eCl, sh__law_draw_2, pick3, Src.get, eVar, aCons, aNil, eCall, lLst, sz, M.bind, M.pure, M.of, ln, e]
  have hlp : sForI (iEn (aCons (eVar 1) aNil)) ft fb [.im .pen, .im (.lst (ps1.map part)), .im (.int (a : Int)), .ow [], .un, .un, .un, .un, .un] p1 = .ok (.nx, [.im .pen, .im (.lst (ps1.map part)), .im (.int (a : Int)), .ow (List.zipWith (got (a : Int)) (its ps1) ws), y4, y5, y6, y7, y8]) p2 := by
    have z : iEn (aCons (eVar 1) aNil) [.im .pen, .im (.lst (ps1.map part)), .im (.int (a : Int)), .ow [], .un, .un, .un, .un, .un] p1 = .ok (enumD (ps1.map part)) p1 := by
      simp [iEn, aCons, aNil, eVar, M.bind, M.pure]
    unfold sForI
    rw [M.bind_app z, en]
    exact a4
  have hix : dIxL (.lst (ps1.map part)) (.int (a : Int)) = some (part (ps1.getD a ("", 0, 0))) := by
    rcases (show a = 0 ∨ a = 1 ∨ a = 2 ∨ a = 3 ∨ a = 4 by omega) with rfl | rfl | rfl | rfl | rfl <;> rfl
  have st : ([D.pen, .lst (ps1.map part)].map SD.im ++ List.replicate (9 - [D.pen, .lst (ps1.map part)].length) SD.un) = [.im .pen, .im (.lst (ps1.map part)), .un, .un, .un, .un, .un, .un, .un] := rfl
  have hb : g__law_first [.im .pen, .im (.lst (ps1.map part)), .un, .un, .un, .un, .un, .un, .un] p = .ok (.rt (.tup [.lst (List.zipWith (got a) (its ps1) ws), .tup [.str "number", .str ((ps1.getD a ("", 0, 0)).1)]]), [.im .pen, .im (.lst (ps1.map part)), .im (.int (a : Int)), .im (.lst (List.zipWith (got (a : Int)) (its ps1) ws)), y4, y5, y6, y7, y8]) p2 := by
    rw [first_split, seq_nx hf0, seq_nx hlp]
    have ti : ∀ q, dIxT (part q) (.int 0) = some (.str q.1) := fun _ => rfl
    simp [f2, frzS, sRet, eTup, sz, aCons, aNil, eVar, eC, eOp, M.bind, M.pure, M.of, hix, ti]
  unfold m__law_first bodyM
  rw [st, M.bind_app hb]
  rfl
def ps3 : List (Str × Int × Int) := [("copies", 1, 5), ("liars", 0, 5), ("falls", 0, 5), ("changes", 0, 5)]
theorem first3 {b : Int} {p : Pen} (h : Low p b) (hb : b < 900000) : ∃ (a : Nat) (ws : List Nat) (p' : Pen), a < 4 ∧ ws.length = 4 ∧ (∀ w ∈ ws, w < 7) ∧ Low p' (b + 5) ∧ m__law_first [.pen, .lst (ps3.map part)] p = .ok (.tup [.lst (List.zipWith (got a) (its ps3) ws), .tup [.str "number", .str ((ps3.getD a ("", 0, 0)).1)]]) p' := by
  obtain ⟨r, p1, e, h1, h2, h3⟩ := draw (many := 4) (by decide) (by decide) h (by omega)
  obtain ⟨a, rfl⟩ := Int.eq_ofNat_of_zero_le h1
  obtain ⟨ws, y4, y5, y6, y7, y8, p2, a1, a2, a3, a4⟩ := floop (at_ := (a : Int)) (pl := .lst (ps3.map part)) (its ps3) [] p1 (b + 1) .un .un .un .un .un (by decide) (by decide) h3 (by show b + 1 + 4 < 999000; omega)
  have ha : a < 4 := by omega
  refine ⟨a, ws, p2, ha, a1, a2, ⟨a3.1, by have z : p2.spot ≤ b + 1 + 4 := a3.2; omega⟩, ?_⟩
  have en : enumD (ps3.map part) = (its ps3).map item := rfl
  have hf0 : f0 [.im .pen, .im (.lst (ps3.map part)), .un, .un, .un, .un, .un, .un, .un] p = .ok (.nx, [.im .pen, .im (.lst (ps3.map part)), .im (.int (a : Int)), .ow [], .un, .un, .un, .un, .un]) p1 := by
    have ln : dLen [.lst (ps3.map part)] = some (.int 4) := rfl
    simp [f0, sParOw2, eCl, sh__law_draw_2, pick3, Src.get, eVar, aCons, aNil, eCall, lLst, sz, M.bind, M.pure, M.of, ln, e]
  have hlp : sForI (iEn (aCons (eVar 1) aNil)) ft fb [.im .pen, .im (.lst (ps3.map part)), .im (.int (a : Int)), .ow [], .un, .un, .un, .un, .un] p1 = .ok (.nx, [.im .pen, .im (.lst (ps3.map part)), .im (.int (a : Int)), .ow (List.zipWith (got (a : Int)) (its ps3) ws), y4, y5, y6, y7, y8]) p2 := by
    have z : iEn (aCons (eVar 1) aNil) [.im .pen, .im (.lst (ps3.map part)), .im (.int (a : Int)), .ow [], .un, .un, .un, .un, .un] p1 = .ok (enumD (ps3.map part)) p1 := by
      simp [iEn, aCons, aNil, eVar, M.bind, M.pure]
    unfold sForI
    rw [M.bind_app z, en]
    exact a4
  have hix : dIxL (.lst (ps3.map part)) (.int (a : Int)) = some (part (ps3.getD a ("", 0, 0))) := by
    rcases (show a = 0 ∨ a = 1 ∨ a = 2 ∨ a = 3 by omega) with rfl | rfl | rfl | rfl <;> rfl
  have st : ([D.pen, .lst (ps3.map part)].map SD.im ++ List.replicate (9 - [D.pen, .lst (ps3.map part)].length) SD.un) = [.im .pen, .im (.lst (ps3.map part)), .un, .un, .un, .un, .un, .un, .un] := rfl
  have hb : g__law_first [.im .pen, .im (.lst (ps3.map part)), .un, .un, .un, .un, .un, .un, .un] p = .ok (.rt (.tup [.lst (List.zipWith (got a) (its ps3) ws), .tup [.str "number", .str ((ps3.getD a ("", 0, 0)).1)]]), [.im .pen, .im (.lst (ps3.map part)), .im (.int (a : Int)), .im (.lst (List.zipWith (got (a : Int)) (its ps3) ws)), y4, y5, y6, y7, y8]) p2 := by
    rw [first_split, seq_nx hf0, seq_nx hlp]
    have ti : ∀ q, dIxT (part q) (.int 0) = some (.str q.1) := fun _ => rfl
    simp [f2, frzS, sRet, eTup, sz, aCons, aNil, eVar, eC, eOp, M.bind, M.pure, M.of, hix, ti]
  unfold m__law_first bodyM
  rw [st, M.bind_app hb]
  rfl
def ps5 : List (Str × Int × Int) := [("liars", 0, 5), ("falls", 0, 5), ("changes", 0, 5)]
theorem first5 {b : Int} {p : Pen} (h : Low p b) (hb : b < 900000) : ∃ (a : Nat) (ws : List Nat) (p' : Pen), a < 3 ∧ ws.length = 3 ∧ (∀ w ∈ ws, w < 7) ∧ Low p' (b + 4) ∧ m__law_first [.pen, .lst (ps5.map part)] p = .ok (.tup [.lst (List.zipWith (got a) (its ps5) ws), .tup [.str "number", .str ((ps5.getD a ("", 0, 0)).1)]]) p' := by
  obtain ⟨r, p1, e, h1, h2, h3⟩ := draw (many := 3) (by decide) (by decide) h (by omega)
  obtain ⟨a, rfl⟩ := Int.eq_ofNat_of_zero_le h1
  obtain ⟨ws, y4, y5, y6, y7, y8, p2, a1, a2, a3, a4⟩ := floop (at_ := (a : Int)) (pl := .lst (ps5.map part)) (its ps5) [] p1 (b + 1) .un .un .un .un .un (by decide) (by decide) h3 (by show b + 1 + 3 < 999000; omega)
  have ha : a < 3 := by omega
  refine ⟨a, ws, p2, ha, a1, a2, ⟨a3.1, by have z : p2.spot ≤ b + 1 + 3 := a3.2; omega⟩, ?_⟩
  have en : enumD (ps5.map part) = (its ps5).map item := rfl
  have hf0 : f0 [.im .pen, .im (.lst (ps5.map part)), .un, .un, .un, .un, .un, .un, .un] p = .ok (.nx, [.im .pen, .im (.lst (ps5.map part)), .im (.int (a : Int)), .ow [], .un, .un, .un, .un, .un]) p1 := by
    have ln : dLen [.lst (ps5.map part)] = some (.int 3) := rfl
    simp [f0, sParOw2, eCl, sh__law_draw_2, pick3, Src.get, eVar, aCons, aNil, eCall, lLst, sz, M.bind, M.pure, M.of, ln, e]
  have hlp : sForI (iEn (aCons (eVar 1) aNil)) ft fb [.im .pen, .im (.lst (ps5.map part)), .im (.int (a : Int)), .ow [], .un, .un, .un, .un, .un] p1 = .ok (.nx, [.im .pen, .im (.lst (ps5.map part)), .im (.int (a : Int)), .ow (List.zipWith (got (a : Int)) (its ps5) ws), y4, y5, y6, y7, y8]) p2 := by
    have z : iEn (aCons (eVar 1) aNil) [.im .pen, .im (.lst (ps5.map part)), .im (.int (a : Int)), .ow [], .un, .un, .un, .un, .un] p1 = .ok (enumD (ps5.map part)) p1 := by
      simp [iEn, aCons, aNil, eVar, M.bind, M.pure]
    unfold sForI
    rw [M.bind_app z, en]
    exact a4
  have hix : dIxL (.lst (ps5.map part)) (.int (a : Int)) = some (part (ps5.getD a ("", 0, 0))) := by
    rcases (show a = 0 ∨ a = 1 ∨ a = 2 by omega) with rfl | rfl | rfl <;> rfl
  have st : ([D.pen, .lst (ps5.map part)].map SD.im ++ List.replicate (9 - [D.pen, .lst (ps5.map part)].length) SD.un) = [.im .pen, .im (.lst (ps5.map part)), .un, .un, .un, .un, .un, .un, .un] := rfl
  have hb : g__law_first [.im .pen, .im (.lst (ps5.map part)), .un, .un, .un, .un, .un, .un, .un] p = .ok (.rt (.tup [.lst (List.zipWith (got a) (its ps5) ws), .tup [.str "number", .str ((ps5.getD a ("", 0, 0)).1)]]), [.im .pen, .im (.lst (ps5.map part)), .im (.int (a : Int)), .im (.lst (List.zipWith (got (a : Int)) (its ps5) ws)), y4, y5, y6, y7, y8]) p2 := by
    rw [first_split, seq_nx hf0, seq_nx hlp]
    have ti : ∀ q, dIxT (part q) (.int 0) = some (.str q.1) := fun _ => rfl
    simp [f2, frzS, sRet, eTup, sz, aCons, aNil, eVar, eC, eOp, M.bind, M.pure, M.of, hix, ti]
  unfold m__law_first bodyM
  rw [st, M.bind_app hb]
  rfl
def ps10 : List (Str × Int × Int) := [("copies", 1, 5), ("read", 1, 1), ("keep", 1, 1), ("liars", 0, 5)]
theorem first10 {b : Int} {p : Pen} (h : Low p b) (hb : b < 900000) : ∃ (a : Nat) (ws : List Nat) (p' : Pen), a < 4 ∧ ws.length = 4 ∧ (∀ w ∈ ws, w < 7) ∧ Low p' (b + 5) ∧ m__law_first [.pen, .lst (ps10.map part)] p = .ok (.tup [.lst (List.zipWith (got a) (its ps10) ws), .tup [.str "number", .str ((ps10.getD a ("", 0, 0)).1)]]) p' := by
  obtain ⟨r, p1, e, h1, h2, h3⟩ := draw (many := 4) (by decide) (by decide) h (by omega)
  obtain ⟨a, rfl⟩ := Int.eq_ofNat_of_zero_le h1
  obtain ⟨ws, y4, y5, y6, y7, y8, p2, a1, a2, a3, a4⟩ := floop (at_ := (a : Int)) (pl := .lst (ps10.map part)) (its ps10) [] p1 (b + 1) .un .un .un .un .un (by decide) (by decide) h3 (by show b + 1 + 4 < 999000; omega)
  have ha : a < 4 := by omega
  refine ⟨a, ws, p2, ha, a1, a2, ⟨a3.1, by have z : p2.spot ≤ b + 1 + 4 := a3.2; omega⟩, ?_⟩
  have en : enumD (ps10.map part) = (its ps10).map item := rfl
  have hf0 : f0 [.im .pen, .im (.lst (ps10.map part)), .un, .un, .un, .un, .un, .un, .un] p = .ok (.nx, [.im .pen, .im (.lst (ps10.map part)), .im (.int (a : Int)), .ow [], .un, .un, .un, .un, .un]) p1 := by
    have ln : dLen [.lst (ps10.map part)] = some (.int 4) := rfl
    simp [f0, sParOw2, eCl, sh__law_draw_2, pick3, Src.get, eVar, aCons, aNil, eCall, lLst, sz, M.bind, M.pure, M.of, ln, e]
  have hlp : sForI (iEn (aCons (eVar 1) aNil)) ft fb [.im .pen, .im (.lst (ps10.map part)), .im (.int (a : Int)), .ow [], .un, .un, .un, .un, .un] p1 = .ok (.nx, [.im .pen, .im (.lst (ps10.map part)), .im (.int (a : Int)), .ow (List.zipWith (got (a : Int)) (its ps10) ws), y4, y5, y6, y7, y8]) p2 := by
    have z : iEn (aCons (eVar 1) aNil) [.im .pen, .im (.lst (ps10.map part)), .im (.int (a : Int)), .ow [], .un, .un, .un, .un, .un] p1 = .ok (enumD (ps10.map part)) p1 := by
      simp [iEn, aCons, aNil, eVar, M.bind, M.pure]
    unfold sForI
    rw [M.bind_app z, en]
    exact a4
  have hix : dIxL (.lst (ps10.map part)) (.int (a : Int)) = some (part (ps10.getD a ("", 0, 0))) := by
    rcases (show a = 0 ∨ a = 1 ∨ a = 2 ∨ a = 3 by omega) with rfl | rfl | rfl | rfl <;> rfl
  have st : ([D.pen, .lst (ps10.map part)].map SD.im ++ List.replicate (9 - [D.pen, .lst (ps10.map part)].length) SD.un) = [.im .pen, .im (.lst (ps10.map part)), .un, .un, .un, .un, .un, .un, .un] := rfl
  have hb : g__law_first [.im .pen, .im (.lst (ps10.map part)), .un, .un, .un, .un, .un, .un, .un] p = .ok (.rt (.tup [.lst (List.zipWith (got a) (its ps10) ws), .tup [.str "number", .str ((ps10.getD a ("", 0, 0)).1)]]), [.im .pen, .im (.lst (ps10.map part)), .im (.int (a : Int)), .im (.lst (List.zipWith (got (a : Int)) (its ps10) ws)), y4, y5, y6, y7, y8]) p2 := by
    rw [first_split, seq_nx hf0, seq_nx hlp]
    have ti : ∀ q, dIxT (part q) (.int 0) = some (.str q.1) := fun _ => rfl
    simp [f2, frzS, sRet, eTup, sz, aCons, aNil, eVar, eC, eOp, M.bind, M.pure, M.of, hix, ti]
  unfold m__law_first bodyM
  rw [st, M.bind_app hb]
  rfl
theorem ok1 {a : Nat} {ws : List Nat} (ha : a < 5) (hl : ws.length = 5) (hw : ∀ w ∈ ws, w < 7) (d2 d3 d4 d6 : SD) (d7 d8 : SD) (p : Pen) : gb1 [.un, .im .pen, d2, d3, d4, du ((ps1.getD a ("", 0, 0)).1), d6, d7, d8, .im (.lst (List.zipWith (got a) (its ps1) ws))] p = .ok (.nx, [.un, .im .pen, d2, d3, d4, du ((ps1.getD a ("", 0, 0)).1), d6, d7, d8, .im (.lst (List.zipWith (got a) (its ps1) ws))]) p := by
  match ws, hl with
  | [w0, w1, w2, w3, w4], _ =>
    have h0 : w0 < 7 := hw w0 (by simp)
    have h1 : w1 < 7 := hw w1 (by simp)
    have h2 : w2 < 7 := hw w2 (by simp)
    have h3 : w3 < 7 := hw w3 (by simp)
    have h4 : w4 < 7 := hw w4 (by simp)
    rcases (show a = 0 ∨ a = 1 ∨ a = 2 ∨ a = 3 ∨ a = 4 by omega) with rfl | rfl | rfl | rfl | rfl
    · rcases (show w0 = 0 ∨ w0 = 1 ∨ w0 = 2 ∨ w0 = 3 ∨ w0 = 4 ∨ w0 = 5 ∨ w0 = 6 by omega) with rfl | rfl | rfl | rfl | rfl | rfl | rfl
      · exact t1_0_0 d2 d3 d4 d6 d7 d8 _ _ _ _ p
      · exact t1_0_1 d2 d3 d4 d6 d7 d8 _ _ _ _ p
      · exact t1_0_2 d2 d3 d4 d6 d7 d8 _ _ _ _ p
      · exact t1_0_3 d2 d3 d4 d6 d7 d8 _ _ _ _ p
      · exact t1_0_4 d2 d3 d4 d6 d7 d8 _ _ _ _ p
      · exact t1_0_5 d2 d3 d4 d6 d7 d8 _ _ _ _ p
      · exact t1_0_6 d2 d3 d4 d6 d7 d8 _ _ _ _ p
    · rcases (show w1 = 0 ∨ w1 = 1 ∨ w1 = 2 ∨ w1 = 3 ∨ w1 = 4 ∨ w1 = 5 ∨ w1 = 6 by omega) with rfl | rfl | rfl | rfl | rfl | rfl | rfl
      · exact t1_1_0 d2 d3 d4 d6 d7 d8 _ _ _ p
      · exact t1_1_1 d2 d3 d4 d6 d7 d8 _ _ _ p
      · exact t1_1_2 d2 d3 d4 d6 d7 d8 _ _ _ p
      · exact t1_1_3 d2 d3 d4 d6 d7 d8 _ _ _ p
      · exact t1_1_4 d2 d3 d4 d6 d7 d8 _ _ _ p
      · exact t1_1_5 d2 d3 d4 d6 d7 d8 _ _ _ p
      · exact t1_1_6 d2 d3 d4 d6 d7 d8 _ _ _ p
    · rcases (show w2 = 0 ∨ w2 = 1 ∨ w2 = 2 ∨ w2 = 3 ∨ w2 = 4 ∨ w2 = 5 ∨ w2 = 6 by omega) with rfl | rfl | rfl | rfl | rfl | rfl | rfl
      · exact t1_2_0 d2 d3 d4 d6 d7 d8 _ _ p
      · exact t1_2_1 d2 d3 d4 d6 d7 d8 _ _ p
      · exact t1_2_2 d2 d3 d4 d6 d7 d8 _ _ p
      · exact t1_2_3 d2 d3 d4 d6 d7 d8 _ _ p
      · exact t1_2_4 d2 d3 d4 d6 d7 d8 _ _ p
      · exact t1_2_5 d2 d3 d4 d6 d7 d8 _ _ p
      · exact t1_2_6 d2 d3 d4 d6 d7 d8 _ _ p
    · rcases (show w3 = 0 ∨ w3 = 1 ∨ w3 = 2 ∨ w3 = 3 ∨ w3 = 4 ∨ w3 = 5 ∨ w3 = 6 by omega) with rfl | rfl | rfl | rfl | rfl | rfl | rfl
      · exact t1_3_0 d2 d3 d4 d6 d7 d8 _ p
      · exact t1_3_1 d2 d3 d4 d6 d7 d8 _ p
      · exact t1_3_2 d2 d3 d4 d6 d7 d8 _ p
      · exact t1_3_3 d2 d3 d4 d6 d7 d8 _ p
      · exact t1_3_4 d2 d3 d4 d6 d7 d8 _ p
      · exact t1_3_5 d2 d3 d4 d6 d7 d8 _ p
      · exact t1_3_6 d2 d3 d4 d6 d7 d8 _ p
    · rcases (show w4 = 0 ∨ w4 = 1 ∨ w4 = 2 ∨ w4 = 3 ∨ w4 = 4 ∨ w4 = 5 ∨ w4 = 6 by omega) with rfl | rfl | rfl | rfl | rfl | rfl | rfl
      · exact t1_4_0 d2 d3 d4 d6 d7 d8  p
      · exact t1_4_1 d2 d3 d4 d6 d7 d8  p
      · exact t1_4_2 d2 d3 d4 d6 d7 d8  p
      · exact t1_4_3 d2 d3 d4 d6 d7 d8  p
      · exact t1_4_4 d2 d3 d4 d6 d7 d8  p
      · exact t1_4_5 d2 d3 d4 d6 d7 d8  p
      · exact t1_4_6 d2 d3 d4 d6 d7 d8  p
theorem ok3 {a : Nat} {ws : List Nat} (ha : a < 4) (hl : ws.length = 4) (hw : ∀ w ∈ ws, w < 7) (d2 d3 d4 d6 : SD) (d7 d8 : SD) (p : Pen) : gb3 [.un, .im .pen, d2, d3, d4, du ((ps3.getD a ("", 0, 0)).1), d6, d7, d8, .im (.lst (List.zipWith (got a) (its ps3) ws))] p = .ok (.nx, [.un, .im .pen, d2, d3, d4, du ((ps3.getD a ("", 0, 0)).1), d6, d7, d8, .im (.lst (List.zipWith (got a) (its ps3) ws))]) p := by
  match ws, hl with
  | [w0, w1, w2, w3], _ =>
    have h0 : w0 < 7 := hw w0 (by simp)
    have h1 : w1 < 7 := hw w1 (by simp)
    have h2 : w2 < 7 := hw w2 (by simp)
    have h3 : w3 < 7 := hw w3 (by simp)
    rcases (show a = 0 ∨ a = 1 ∨ a = 2 ∨ a = 3 by omega) with rfl | rfl | rfl | rfl
    · rcases (show w0 = 0 ∨ w0 = 1 ∨ w0 = 2 ∨ w0 = 3 ∨ w0 = 4 ∨ w0 = 5 ∨ w0 = 6 by omega) with rfl | rfl | rfl | rfl | rfl | rfl | rfl
      · exact t3_0_0 d2 d3 d4 d6 d7 d8 _ _ _ p
      · exact t3_0_1 d2 d3 d4 d6 d7 d8 _ _ _ p
      · exact t3_0_2 d2 d3 d4 d6 d7 d8 _ _ _ p
      · exact t3_0_3 d2 d3 d4 d6 d7 d8 _ _ _ p
      · exact t3_0_4 d2 d3 d4 d6 d7 d8 _ _ _ p
      · exact t3_0_5 d2 d3 d4 d6 d7 d8 _ _ _ p
      · exact t3_0_6 d2 d3 d4 d6 d7 d8 _ _ _ p
    · rcases (show w1 = 0 ∨ w1 = 1 ∨ w1 = 2 ∨ w1 = 3 ∨ w1 = 4 ∨ w1 = 5 ∨ w1 = 6 by omega) with rfl | rfl | rfl | rfl | rfl | rfl | rfl
      · exact t3_1_0 d2 d3 d4 d6 d7 d8 _ _ p
      · exact t3_1_1 d2 d3 d4 d6 d7 d8 _ _ p
      · exact t3_1_2 d2 d3 d4 d6 d7 d8 _ _ p
      · exact t3_1_3 d2 d3 d4 d6 d7 d8 _ _ p
      · exact t3_1_4 d2 d3 d4 d6 d7 d8 _ _ p
      · exact t3_1_5 d2 d3 d4 d6 d7 d8 _ _ p
      · exact t3_1_6 d2 d3 d4 d6 d7 d8 _ _ p
    · rcases (show w2 = 0 ∨ w2 = 1 ∨ w2 = 2 ∨ w2 = 3 ∨ w2 = 4 ∨ w2 = 5 ∨ w2 = 6 by omega) with rfl | rfl | rfl | rfl | rfl | rfl | rfl
      · exact t3_2_0 d2 d3 d4 d6 d7 d8 _ p
      · exact t3_2_1 d2 d3 d4 d6 d7 d8 _ p
      · exact t3_2_2 d2 d3 d4 d6 d7 d8 _ p
      · exact t3_2_3 d2 d3 d4 d6 d7 d8 _ p
      · exact t3_2_4 d2 d3 d4 d6 d7 d8 _ p
      · exact t3_2_5 d2 d3 d4 d6 d7 d8 _ p
      · exact t3_2_6 d2 d3 d4 d6 d7 d8 _ p
    · rcases (show w3 = 0 ∨ w3 = 1 ∨ w3 = 2 ∨ w3 = 3 ∨ w3 = 4 ∨ w3 = 5 ∨ w3 = 6 by omega) with rfl | rfl | rfl | rfl | rfl | rfl | rfl
      · exact t3_3_0 d2 d3 d4 d6 d7 d8  p
      · exact t3_3_1 d2 d3 d4 d6 d7 d8  p
      · exact t3_3_2 d2 d3 d4 d6 d7 d8  p
      · exact t3_3_3 d2 d3 d4 d6 d7 d8  p
      · exact t3_3_4 d2 d3 d4 d6 d7 d8  p
      · exact t3_3_5 d2 d3 d4 d6 d7 d8  p
      · exact t3_3_6 d2 d3 d4 d6 d7 d8  p
theorem ok5 {a : Nat} {ws : List Nat} (ha : a < 3) (hl : ws.length = 3) (hw : ∀ w ∈ ws, w < 7) (d2 d3 d4 d6 : SD) (d7 d8 : SD) (p : Pen) : gb5 [.un, .im .pen, d2, d3, d4, du ((ps5.getD a ("", 0, 0)).1), d6, d7, d8, .im (.lst (List.zipWith (got a) (its ps5) ws))] p = .ok (.nx, [.un, .im .pen, d2, d3, d4, du ((ps5.getD a ("", 0, 0)).1), d6, d7, d8, .im (.lst (List.zipWith (got a) (its ps5) ws))]) p := by
  match ws, hl with
  | [w0, w1, w2], _ =>
    have h0 : w0 < 7 := hw w0 (by simp)
    have h1 : w1 < 7 := hw w1 (by simp)
    have h2 : w2 < 7 := hw w2 (by simp)
    rcases (show a = 0 ∨ a = 1 ∨ a = 2 by omega) with rfl | rfl | rfl
    · rcases (show w0 = 0 ∨ w0 = 1 ∨ w0 = 2 ∨ w0 = 3 ∨ w0 = 4 ∨ w0 = 5 ∨ w0 = 6 by omega) with rfl | rfl | rfl | rfl | rfl | rfl | rfl
      · exact t5_0_0 d2 d3 d4 d6 d7 d8 _ _ p
      · exact t5_0_1 d2 d3 d4 d6 d7 d8 _ _ p
      · exact t5_0_2 d2 d3 d4 d6 d7 d8 _ _ p
      · exact t5_0_3 d2 d3 d4 d6 d7 d8 _ _ p
      · exact t5_0_4 d2 d3 d4 d6 d7 d8 _ _ p
      · exact t5_0_5 d2 d3 d4 d6 d7 d8 _ _ p
      · exact t5_0_6 d2 d3 d4 d6 d7 d8 _ _ p
    · rcases (show w1 = 0 ∨ w1 = 1 ∨ w1 = 2 ∨ w1 = 3 ∨ w1 = 4 ∨ w1 = 5 ∨ w1 = 6 by omega) with rfl | rfl | rfl | rfl | rfl | rfl | rfl
      · exact t5_1_0 d2 d3 d4 d6 d7 d8 _ p
      · exact t5_1_1 d2 d3 d4 d6 d7 d8 _ p
      · exact t5_1_2 d2 d3 d4 d6 d7 d8 _ p
      · exact t5_1_3 d2 d3 d4 d6 d7 d8 _ p
      · exact t5_1_4 d2 d3 d4 d6 d7 d8 _ p
      · exact t5_1_5 d2 d3 d4 d6 d7 d8 _ p
      · exact t5_1_6 d2 d3 d4 d6 d7 d8 _ p
    · rcases (show w2 = 0 ∨ w2 = 1 ∨ w2 = 2 ∨ w2 = 3 ∨ w2 = 4 ∨ w2 = 5 ∨ w2 = 6 by omega) with rfl | rfl | rfl | rfl | rfl | rfl | rfl
      · exact t5_2_0 d2 d3 d4 d6 d7 d8  p
      · exact t5_2_1 d2 d3 d4 d6 d7 d8  p
      · exact t5_2_2 d2 d3 d4 d6 d7 d8  p
      · exact t5_2_3 d2 d3 d4 d6 d7 d8  p
      · exact t5_2_4 d2 d3 d4 d6 d7 d8  p
      · exact t5_2_5 d2 d3 d4 d6 d7 d8  p
      · exact t5_2_6 d2 d3 d4 d6 d7 d8  p
theorem ok10 {a : Nat} {ws : List Nat} (ha : a < 4) (hl : ws.length = 4) (hw : ∀ w ∈ ws, w < 7) (d2 d3 d4 d6 : SD) (e7 : D) (p : Pen) : gb10 [.un, .im .pen, d2, d3, d4, du ((ps10.getD a ("", 0, 0)).1), d6, (.im e7), (.im rg4), .im (.lst (List.zipWith (got a) (its ps10) ws))] p = .ok (.nx, [.un, .im .pen, d2, d3, d4, du ((ps10.getD a ("", 0, 0)).1), d6, (.im e7), (.im rg4), .im (.lst (List.zipWith (got a) (its ps10) ws))]) p := by
  match ws, hl with
  | [w0, w1, w2, w3], _ =>
    have h0 : w0 < 7 := hw w0 (by simp)
    have h1 : w1 < 7 := hw w1 (by simp)
    have h2 : w2 < 7 := hw w2 (by simp)
    have h3 : w3 < 7 := hw w3 (by simp)
    rcases (show a = 0 ∨ a = 1 ∨ a = 2 ∨ a = 3 by omega) with rfl | rfl | rfl | rfl
    · rcases (show w0 = 0 ∨ w0 = 1 ∨ w0 = 2 ∨ w0 = 3 ∨ w0 = 4 ∨ w0 = 5 ∨ w0 = 6 by omega) with rfl | rfl | rfl | rfl | rfl | rfl | rfl
      · exact t10_0_0 d2 d3 d4 d6 e7 _ _ _ p
      · exact t10_0_1 d2 d3 d4 d6 e7 _ _ _ p
      · exact t10_0_2 d2 d3 d4 d6 e7 _ _ _ p
      · exact t10_0_3 d2 d3 d4 d6 e7 _ _ _ p
      · exact t10_0_4 d2 d3 d4 d6 e7 _ _ _ p
      · exact t10_0_5 d2 d3 d4 d6 e7 _ _ _ p
      · exact t10_0_6 d2 d3 d4 d6 e7 _ _ _ p
    · rcases (show w1 = 0 ∨ w1 = 1 ∨ w1 = 2 ∨ w1 = 3 ∨ w1 = 4 ∨ w1 = 5 ∨ w1 = 6 by omega) with rfl | rfl | rfl | rfl | rfl | rfl | rfl
      · exact t10_1_0 d2 d3 d4 d6 e7 _ _ p
      · exact t10_1_1 d2 d3 d4 d6 e7 _ _ p
      · exact t10_1_2 d2 d3 d4 d6 e7 _ _ p
      · exact t10_1_3 d2 d3 d4 d6 e7 _ _ p
      · exact t10_1_4 d2 d3 d4 d6 e7 _ _ p
      · exact t10_1_5 d2 d3 d4 d6 e7 _ _ p
      · exact t10_1_6 d2 d3 d4 d6 e7 _ _ p
    · rcases (show w2 = 0 ∨ w2 = 1 ∨ w2 = 2 ∨ w2 = 3 ∨ w2 = 4 ∨ w2 = 5 ∨ w2 = 6 by omega) with rfl | rfl | rfl | rfl | rfl | rfl | rfl
      · exact t10_2_0 d2 d3 d4 d6 e7 _ p
      · exact t10_2_1 d2 d3 d4 d6 e7 _ p
      · exact t10_2_2 d2 d3 d4 d6 e7 _ p
      · exact t10_2_3 d2 d3 d4 d6 e7 _ p
      · exact t10_2_4 d2 d3 d4 d6 e7 _ p
      · exact t10_2_5 d2 d3 d4 d6 e7 _ p
      · exact t10_2_6 d2 d3 d4 d6 e7 _ p
    · rcases (show w3 = 0 ∨ w3 = 1 ∨ w3 = 2 ∨ w3 = 3 ∨ w3 = 4 ∨ w3 = 5 ∨ w3 = 6 by omega) with rfl | rfl | rfl | rfl | rfl | rfl | rfl
      · exact t10_3_0 d2 d3 d4 d6 e7  p
      · exact t10_3_1 d2 d3 d4 d6 e7  p
      · exact t10_3_2 d2 d3 d4 d6 e7  p
      · exact t10_3_3 d2 d3 d4 d6 e7  p
      · exact t10_3_4 d2 d3 d4 d6 e7  p
      · exact t10_3_5 d2 d3 d4 d6 e7  p
      · exact t10_3_6 d2 d3 d4 d6 e7  p
def PL : D := .lst ((ps1.take 3).map part)
def RE : D := .lst ((ps1.drop 3).map part)
theorem bads_ok {w : Nat} {d : D} (h : bads[w]? = some d) : ∀ (d2 d3 d4 d5 d6 d9 : SD) (p : Pen), sSeq gb8 gb9 [.un, .im .pen, d2, d3, d4, d5, d6, .im d, .im rg4, d9] p = .ok (.nx, [.un, .im .pen, d2, d3, d4, d5, .im (.lst [.tup [.str "number", .str "one"], .tup [.str "number", .str "other"], .tup [.str "number", .str "changes"]]), .im d, .im rg4, d9]) p := by
  match w, h with
  | 0, h => cases h; exact th_0
  | 1, h => cases h; exact th_1
  | 2, h => cases h; exact th_2
  | 3, h => cases h; exact th_3
  | 4, h => cases h; exact th_4
  | 5, h => cases h; exact th_5
  | 6, h => cases h; exact th_6
  | n + 7, h => simp [bads] at h
theorem seq_as {g1 g2 g3 : Sl → M (Out × Sl)} {s s' : Sl} {p p' : Pen} (h : sSeq g1 g2 s p = .ok (.nx, s') p') : sSeq g1 (sSeq g2 g3) s p = g3 s' p' := by
  unfold sSeq at h ⊢
  obtain ⟨⟨o, s1⟩, p1, e1, e2⟩ := M.bind_ok h
  rw [M.bind_app e1]
  cases o <;> first | (cases e2; done) | skip
  dsimp only at e2 ⊢
  rw [M.bind_app e2]
theorem a0_ok {p p' : Pen} {d4 d5 d6 d7 d8 d9 : SD} {f d : D} (e : m__law_first [.pen, .lst (ps1.map part)] p = .ok (.tup [f, d]) p') : gb0 [.un, .im .pen, .im PL, .im RE, d4, d5, d6, d7, d8, d9] p = .ok (.nx, [.un, .im .pen, .im PL, .im RE, d4, .im d, d6, d7, d8, .im f]) p' := by
  have hv : ∀ x, x = D.lst (ps1.map part) → m__law_first [.pen, x] p = .ok (.tup [f, d]) p' := fun x hx => by rw [hx]; exact e
  have z := hv _ rfl
  unfold gb0 sAsg
  have c : (eCl 2 0 2 m__law_first sh__law_first_2 [] (aCons (eVar 1) (aCons (eOp dCatL (eVar 2) (eVar 3)) aNil)) aNil) [.un, .im .pen, .im PL, .im RE, d4, d5, d6, d7, d8, d9] p = .ok (.tup [f, d]) p' := by
    have ar : (aCons (eVar 1) (aCons (eOp dCatL (eVar 2) (eVar 3)) aNil)) [.un, .im .pen, .im PL, .im RE, d4, d5, d6, d7, d8, d9] p = .ok [.pen, .lst (ps1.map part)] p := rfl
    unfold eCl
    rw [M.bind_app ar]
    exact z
  rw [M.bind_app c]
  rfl
theorem a2_ok {p p' : Pen} {d4 d5 d6 d7 d8 d9 : SD} {f d : D} (e : m__law_first [.pen, .lst (ps3.map part)] p = .ok (.tup [f, d]) p') : gb2 [.un, .im .pen, .im PL, .im RE, d4, d5, d6, d7, d8, d9] p = .ok (.nx, [.un, .im .pen, .im PL, .im RE, d4, .im d, d6, d7, d8, .im f]) p' := by
  have hv : ∀ x, x = D.lst (ps3.map part) → m__law_first [.pen, x] p = .ok (.tup [f, d]) p' := fun x hx => by rw [hx]; exact e
  have z := hv _ rfl
  unfold gb2 sAsg
  have c : (eCl 2 0 2 m__law_first sh__law_first_2 [] (aCons (eVar 1) (aCons (eOp dCatL (eOp dCatL (eLst (aCons (eOp dIxL (eVar 2) (eC (.int 0))) aNil)) (eVar 3)) (eLst (aCons (eTup (aCons (eC (.str "changes")) (aCons (eC (.int 0)) (aCons (eC (.int 5)) aNil)))) aNil))) aNil)) aNil) [.un, .im .pen, .im PL, .im RE, d4, d5, d6, d7, d8, d9] p = .ok (.tup [f, d]) p' := by
    have ar : (aCons (eVar 1) (aCons (eOp dCatL (eOp dCatL (eLst (aCons (eOp dIxL (eVar 2) (eC (.int 0))) aNil)) (eVar 3)) (eLst (aCons (eTup (aCons (eC (.str "changes")) (aCons (eC (.int 0)) (aCons (eC (.int 5)) aNil)))) aNil))) aNil)) [.un, .im .pen, .im PL, .im RE, d4, d5, d6, d7, d8, d9] p = .ok [.pen, .lst (ps3.map part)] p := rfl
    unfold eCl
    rw [M.bind_app ar]
    exact z
  rw [M.bind_app c]
  rfl
theorem a4_ok {p p' : Pen} {d4 d5 d6 d7 d8 d9 : SD} {f d : D} (e : m__law_first [.pen, .lst (ps5.map part)] p = .ok (.tup [f, d]) p') : gb4 [.un, .im .pen, .im PL, .im RE, d4, d5, d6, d7, d8, d9] p = .ok (.nx, [.un, .im .pen, .im PL, .im RE, d4, .im d, d6, d7, d8, .im f]) p' := by
  have hv : ∀ x, x = D.lst (ps5.map part) → m__law_first [.pen, x] p = .ok (.tup [f, d]) p' := fun x hx => by rw [hx]; exact e
  have z := hv _ rfl
  unfold gb4 sAsg
  have c : (eCl 2 0 2 m__law_first sh__law_first_2 [] (aCons (eVar 1) (aCons (eOp dCatL (eVar 3) (eLst (aCons (eTup (aCons (eC (.str "changes")) (aCons (eC (.int 0)) (aCons (eC (.int 5)) aNil)))) aNil))) aNil)) aNil) [.un, .im .pen, .im PL, .im RE, d4, d5, d6, d7, d8, d9] p = .ok (.tup [f, d]) p' := by
    have ar : (aCons (eVar 1) (aCons (eOp dCatL (eVar 3) (eLst (aCons (eTup (aCons (eC (.str "changes")) (aCons (eC (.int 0)) (aCons (eC (.int 5)) aNil)))) aNil))) aNil)) [.un, .im .pen, .im PL, .im RE, d4, d5, d6, d7, d8, d9] p = .ok [.pen, .lst (ps5.map part)] p := rfl
    unfold eCl
    rw [M.bind_app ar]
    exact z
  rw [M.bind_app c]
  rfl
theorem a6_ok {p p' : Pen} {d4 d5 d6 d7 d8 d9 : SD} {f d : D} (e : m__law_first [.pen, .lst (ps10.map part)] p = .ok (.tup [f, d]) p') : gb6 [.un, .im .pen, .im PL, .im RE, d4, d5, d6, d7, d8, d9] p = .ok (.nx, [.un, .im .pen, .im PL, .im RE, d4, .im d, d6, d7, d8, .im f]) p' := by
  have hv : ∀ x, x = D.lst (ps10.map part) → m__law_first [.pen, x] p = .ok (.tup [f, d]) p' := fun x hx => by rw [hx]; exact e
  have z := hv _ rfl
  unfold gb6 sAsg
  have c : (eCl 2 0 2 m__law_first sh__law_first_2 [] (aCons (eVar 1) (aCons (eOp dCatL (eVar 2) (eSlL (eVar 3) oNone (oPart (eC (.int 1))))) aNil)) aNil) [.un, .im .pen, .im PL, .im RE, d4, d5, d6, d7, d8, d9] p = .ok (.tup [f, d]) p' := by
    have ar : (aCons (eVar 1) (aCons (eOp dCatL (eVar 2) (eSlL (eVar 3) oNone (oPart (eC (.int 1))))) aNil)) [.un, .im .pen, .im PL, .im RE, d4, d5, d6, d7, d8, d9] p = .ok [.pen, .lst (ps10.map part)] p := rfl
    unfold eCl
    rw [M.bind_app ar]
    exact z
  rw [M.bind_app c]
  rfl
theorem turn_ok {b : Int} {p : Pen} {d4 d5 d6 d7 d8 d9 : SD} (h : Low p b) (hb : b < 800000) : ∃ e5 e6 e7 e9 p', gt [.un, .im .pen, .im PL, .im RE, d4, d5, d6, d7, d8, d9] p = .ok (.nx, [.un, .im .pen, .im PL, .im RE, d4, e5, e6, e7, .im rg4, e9]) p' ∧ Low p' (b + 25) := by
  obtain ⟨a1, w1, p1, x1, y1, z1, h1, e1⟩ := first1 h (by omega)
  obtain ⟨a2, w2, p2, x2, y2, z2, h2, e2⟩ := first3 h1 (by omega)
  obtain ⟨a3, w3, p3, x3, y3, z3, h3, e3⟩ := first5 h2 (by omega)
  obtain ⟨a4, w4, p4, x4, y4, z4, h4, e4⟩ := first10 h3 (by omega)
  obtain ⟨w, d, p5, hw, e5, h5⟩ := pickL (ds := bads) (by decide) (by decide) h4 (by omega)
  refine ⟨du ((ps10.getD a4 ("", 0, 0)).1), .im (.lst [.tup [.str "number", .str "one"], .tup [.str "number", .str "other"], .tup [.str "number", .str "changes"]]), .im d, .im (.lst (List.zipWith (got a4) (its ps10) w4)), p5, ?_, h5.1, by have := h5.2; omega⟩
  unfold gt
  refine (seq_nx (a0_ok e1)).trans ?_
  refine (seq_nx (ok1 x1 y1 z1 _ _ _ _ _ _ _)).trans ?_
  refine (seq_nx (a2_ok e2)).trans ?_
  refine (seq_nx (ok3 x2 y2 z2 _ _ _ _ _ _ _)).trans ?_
  refine (seq_nx (a4_ok e3)).trans ?_
  refine (seq_nx (ok5 x3 y3 z3 _ _ _ _ _ _ _)).trans ?_
  refine (seq_nx (a6_ok e4)).trans ?_
  have hp : ∀ d5 d9, gb7 [.un, .im .pen, .im PL, .im RE, d4, d5, d6, d7, d8, d9] p4 = .ok (.nx, [.un, .im .pen, .im PL, .im RE, d4, d5, d6, .im d, .im rg4, d9]) p5 := fun d5 d9 => by
    unfold bads at e5
    simp [gb7, sAsg, eTup, sz, aCons, aNil, eC, eCl, sh__law_pick_2, pick3, Src.get, eVar, eLst, M.bind, M.pure, M.of, e5, tgTup, tgCons, tgNil, tgN, rg4]
  refine (seq_nx (hp _ _)).trans ?_
  refine (seq_as (bads_ok hw _ _ _ _ _ _ _)).trans ?_
  exact ok10 x4 y4 z4 _ _ _ _ _ _
theorem law_main : LawM 10 1 g_law := by
  intro cells hc
  rw [law_split]
  have h0 : Low ⟨cells, 0, 0⟩ 0 := ⟨Int.le_refl _, Int.le_refl _⟩
  have hp : gp (s0 10 1) ⟨cells, 0, 0⟩ = .ok (.nx, [.un, .im .pen, .im PL, .im RE, .un, .un, .un, .un, .un, .un]) ⟨cells, 0, 0⟩ := rfl
  obtain ⟨a5, a6, a7, a9, p1, e1, h1⟩ := turn_ok (d4 := .im (.int 0)) (d5 := .un) (d6 := .un) (d7 := .un) (d8 := .un) (d9 := .un) h0 (by decide)
  obtain ⟨b5, b6, b7, b9, p2, e2, h2⟩ := turn_ok (d4 := .im (.int 1)) (d5 := a5) (d6 := a6) (d7 := a7) (d8 := .im rg4) (d9 := a9) h1 (by decide)
  obtain ⟨c5, c6, c7, c9, p3, e3, h3⟩ := turn_ok (d4 := .im (.int 2)) (d5 := b5) (d6 := b6) (d7 := b7) (d8 := .im rg4) (d9 := b9) h2 (by decide)
  obtain ⟨f5, f6, f7, f9, p4, e4, h4⟩ := turn_ok (d4 := .im (.int 3)) (d5 := c5) (d6 := c6) (d7 := c7) (d8 := .im rg4) (d9 := c9) h3 (by decide)
  obtain ⟨g5, g6, g7, g9, p5, e5, h5⟩ := turn_ok (d4 := .im (.int 4)) (d5 := f5) (d6 := f6) (d7 := f7) (d8 := .im rg4) (d9 := f9) h4 (by decide)
  have lp : loopD (tgN 4) gt [.int 0, .int 1, .int 2, .int 3, .int 4] [.un, .im .pen, .im PL, .im RE, .un, .un, .un, .un, .un, .un] ⟨cells, 0, 0⟩ = .ok (.nx, [.un, .im .pen, .im PL, .im RE, .im (.int 4), g5, g6, g7, .im rg4, g9]) p5 := by
    simp only [loopD, tgN, M.of, M.bind, M.pure, List.set, e1, e2, e3, e4, e5]
  have fr : sForI (iRg rg1 (aCons (eC (.int 5)) aNil)) (tgN 4) gt [.un, .im .pen, .im PL, .im RE, .un, .un, .un, .un, .un, .un] ⟨cells, 0, 0⟩ = .ok (.nx, [.un, .im .pen, .im PL, .im RE, .im (.int 4), g5, g6, g7, .im rg4, g9]) p5 := lp
  refine ⟨[.un, .im .pen, .im PL, .im RE, .im (.int 4), g5, g6, g7, .im rg4, g9], p5, ?_⟩
  exact (seq_nx hp).trans ((seq_nx fr).trans (tl _ _ _ _ _ _ _ _))
end La
end
section
set_option Elab.async false
open PySem PySem.W PyProof.Rows
set_option maxRecDepth 100000 in
set_option maxHeartbeats 0 in
theorem PySem.Challenge.cw_staytrue_k62_costs_refused_holds : PySem.Challenge.rw_staytrue_k62_costs_refused.Holds := by
  w_on; o_law; k_head; (case hw => w_witness2)
  k_fill
  refine Z.walk_gT [(563, 559)] (l := PySem.Challenge.rw_staytrue_k62_costs_refused) (n := 63) (k := 8) (x := "script") (sp := fun _ K => Z.spLawT K (La.lamT 559)) rfl (by decide) rfl ⟨rfl, by decide, by decide⟩ (fun w h Y => PySem.W.km_in_of Y)
    (fun w h Y p hp => by rw [List.mem_singleton.mp hp]; exact PySem.W.km_tabs_of Y 559 (List.mem_singleton.mpr rfl)) (fun w p hp => by rw [List.mem_singleton.mp hp]; kernel_rfl) (fun w p hp => by rw [List.mem_singleton.mp hp]; kernel_rfl) ?F
    (fun _ _ _ a ns hl hH hS => ⟨a, ns, rfl, hS, hl, (fun y hy => by rw [List.mem_singleton.mp hy]; exact LamX.TabS.nil (hH (563, 559) (List.mem_singleton.mpr rfl))), fun _ => rfl⟩)
  case F =>
    intro w mg fa h KX G hmg
    refine' La.all_mk (tc := 563) (tP := 559) KX G hmg La.law_main ?d_is_integer ?d_is_within ?d_need_within ?d_need_plain ?d_plain_rule ?d_together ?d_plain_bears ?d_plain_ends ?d_plain_pairs ?d_least_plain ?d__law_pen ?d__law_draw ?d__law_pick ?d__law_heard ?d__law_first ?d_law ?b_abs ?b_bool ?b_enumerate ?b_int ?b_isinstance ?b_len ?b_list ?b_max ?b_min ?b_range ?b_repr ?b_str ?b_tuple ?c_MOST_CHANGES ?c_MOST_COPIES_books ?x_BadAsk ?x_BadBook ?x_BadChange ?x_BadName ?x_BadNumber ?x_BadRow ?x_BadRule ?x_BadText ?x_Clashing ?x_NoHost ?x_TooMany ?x_TrueError ?x_super ?r_BadNumber ?ci_BadNumber ?ki_BadNumber_BadAsk ?ki_BadNumber_BadBook ?ki_BadNumber_BadChange ?ki_BadNumber_BadName ?ki_BadNumber_BadNumber ?ki_BadNumber_BadRow ?ki_BadNumber_BadRule ?ki_BadNumber_BadText ?ki_BadNumber_Clashing ?ki_BadNumber_NoHost ?ki_BadNumber_TooMany ?xf_BadNumber_part ?em_BadNumber ?hcode
    (case d_is_integer => refine' Z.DefKD.mk0 ?a ?l ?c ?k; (case a => k_is); (case l => k_is); (case c => k_is); (case k => k_is))
    (case d_is_within => refine' Z.DefKD.mk0 ?a ?l ?c ?k; (case a => k_is); (case l => k_is); (case c => k_is); (case k => k_is))
    (case d_need_within => refine' Z.DefKD.mk0 ?a ?l ?c ?k; (case a => k_is); (case l => k_is); (case c => k_is); (case k => k_is))
    (case d_need_plain => refine' Z.DefKD.mk0 ?a ?l ?c ?k; (case a => k_is); (case l => k_is); (case c => k_is); (case k => k_is))
    (case d_plain_rule => refine' Z.DefKD.mkD (dvs := [.int 0, .int 0]) ?a ?l ?c ?k ?t ?r ?ne ?rc; (case a => k_is); (case l => k_is); (case c => k_is); (case k => k_is); (case t => k_is); (case r => exact .cons ⟨_, rfl⟩ (.cons ⟨_, rfl⟩ (.nil))); (case ne => exact List.cons_ne_nil _ _); (case rc => exact fun _ _ _ => ⟨_, _, rfl, rfl, ⟨_, _, rfl, rfl, rfl⟩⟩))
    (case d_together => refine' Z.DefKD.mk0 ?a ?l ?c ?k; (case a => k_is); (case l => k_is); (case c => k_is); (case k => k_is))
    (case d_plain_bears => refine' Z.DefKD.mk0 ?a ?l ?c ?k; (case a => k_is); (case l => k_is); (case c => k_is); (case k => k_is))
    (case d_plain_ends => refine' Z.DefKD.mk0 ?a ?l ?c ?k; (case a => k_is); (case l => k_is); (case c => k_is); (case k => k_is))
    (case d_plain_pairs => refine' Z.DefKD.mk0 ?a ?l ?c ?k; (case a => k_is); (case l => k_is); (case c => k_is); (case k => k_is))
    (case d_least_plain => refine' Z.DefKD.mk0 ?a ?l ?c ?k; (case a => k_is); (case l => k_is); (case c => k_is); (case k => k_is))
    (case d__law_pen => refine' Z.DefK.mk ?a ?l ?c ?k; (case a => k_is); (case l => k_is); (case c => k_is); (case k => k_is))
    (case d__law_draw => refine' Z.DefKD.mk0 ?a ?l ?c ?k; (case a => k_is); (case l => k_is); (case c => k_is); (case k => k_is))
    (case d__law_pick => refine' Z.DefKD.mk0 ?a ?l ?c ?k; (case a => k_is); (case l => k_is); (case c => k_is); (case k => k_is))
    (case d__law_heard => refine' Z.DefK.mk ?a ?l ?c ?k; (case a => k_is); (case l => k_is); (case c => k_is); (case k => k_is))
    (case d__law_first => refine' Z.DefKD.mk0 ?a ?l ?c ?k; (case a => k_is); (case l => k_is); (case c => k_is); (case k => k_is))
    (case d_law => refine' Z.DefK.mk ?a ?l ?c ?k; (case a => k_is); (case l => k_is); (case c => k_is); (case k => k_is))
    (case b_abs => k_is)
    (case b_bool => k_is)
    (case b_enumerate => k_is)
    (case b_int => k_is)
    (case b_isinstance => k_is)
    (case b_len => k_is)
    (case b_list => k_is)
    (case b_max => k_is)
    (case b_min => k_is)
    (case b_range => k_is)
    (case b_repr => k_is)
    (case b_str => k_is)
    (case b_tuple => k_is)
    (case c_MOST_CHANGES => refine' Z.ex_int ?e; (case e => k_is))
    (case c_MOST_COPIES_books => refine' Z.ex_int ?e; (case e => k_is))
    (case x_BadAsk => k_is)
    (case x_BadBook => k_is)
    (case x_BadChange => k_is)
    (case x_BadName => k_is)
    (case x_BadNumber => k_is)
    (case x_BadRow => k_is)
    (case x_BadRule => k_is)
    (case x_BadText => k_is)
    (case x_Clashing => k_is)
    (case x_NoHost => k_is)
    (case x_TooMany => k_is)
    (case x_TrueError => k_is)
    (case x_super => k_is)
    (case r_BadNumber => refine' Z.ExcK.mk' La.cinit_part ?a1 ?a2 ?a3 ?a4 ?a5 ?a6 ?b1 ?b2 ?b3 ?b4 ?b5 ?b6 ?b7 ?b8 ?b9 ?b10 ?e1 ?e2 ?e3 ?e4 La.init1_part ?g1 ?g2; (case a1 => k_is); (case a2 => decide +kernel); (case a3 => k_is); (case a4 => k_is); (case a5 => k_is); (case a6 => k_is); (case b1 => k_is); (case b2 => k_is); (case b3 => k_is); (case b4 => k_is); (case b5 => rfl); (case b6 => decide +kernel); (case b7 => k_is); (case b8 => kernel_rfl); (case b9 => kernel_rfl); (case b10 => k_is); (case e1 => k_is); (case e2 => kernel_rfl); (case e3 => k_is); (case e4 => k_is); (case g1 => k_is); (case g2 => kernel_rfl))
    (case ci_BadNumber => refine' Z.ClsI.mk ?cl ?ga ?gg ?ex ?ca ?gs ?tk ?mo; (case cl => kernel_rfl); (case ga => k_is); (case gg => k_is); (case ex => k_is); (case ca => k_is); (case gs => k_is); (case tk => k_is); (case mo => k_is))
    (case ki_BadNumber_BadAsk => kernel_rfl)
    (case ki_BadNumber_BadBook => kernel_rfl)
    (case ki_BadNumber_BadChange => kernel_rfl)
    (case ki_BadNumber_BadName => kernel_rfl)
    (case ki_BadNumber_BadNumber => kernel_rfl)
    (case ki_BadNumber_BadRow => kernel_rfl)
    (case ki_BadNumber_BadRule => kernel_rfl)
    (case ki_BadNumber_BadText => kernel_rfl)
    (case ki_BadNumber_Clashing => kernel_rfl)
    (case ki_BadNumber_NoHost => kernel_rfl)
    (case ki_BadNumber_TooMany => kernel_rfl)
    (case xf_BadNumber_part => refine' ⟨L2.XfC.mk ?ga ?gg ?ex ?hd, ?no⟩; (case ga => k_is); (case gg => k_is); (case ex => k_is); (case hd => k_is); (case no => k_is))
    (case em_BadNumber => kernel_rfl)
    (case hcode => refine' Z.code_of KX G ?a ?l; (case a => k_is); (case l => k_is))
end
