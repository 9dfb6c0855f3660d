import PyProof.Rows.All
import Wide.All
import OpenK.AllK
import Wide.FinOn
import HandS.ForMost
import HandS.Evl
import HandS.IsInst
import HandS.Conv
import HandS.TupAny
import HandS.TupMul
import HandS.Deep
import HandS.Flt
import HandS.Style
import PySem.Challenge.RW_staytrue_k58_whole_plain_steps_by_all_ro
section
set_option Elab.async false
set_option linter.all false
set_option maxRecDepth 100000
set_option maxHeartbeats 2000000
/-! Z: data by value. A judgement ties a reading of the hand layer to a plain function on data. -/
namespace Z
open PySem L2
open Evl (Ex)

/-- data: a value with all that it leads to -/
inductive D where
  | non | bl (b : Bool) | int (i : Int) | str (x : Str)
  | tup (ds : List D) | lst (ds : List D)
  | dic (ks : List Key) (ds : List D)
  | ins (c : Str) (ks : List Str) (ds : List D)
  | ty (n : String)
  | pen

/-- what stays through a whole law: the written part, where the pen and its cells stand, where the classes stand -/
structure Par where
  K : PySem.W.Frag
  pa : Addr
  ca : Addr
  cl : Str → Addr

mutual
def Rv (P : Par) (H : Hp) : D → V → Prop
  | .non, v => v = .non
  | .bl b, v => v = .bl b
  | .int i, v => v = .int i
  | .str x, v => v = .str x
  | .tup ds, v => ∃ a vs, v = .ref a ∧ SqT P.K H a vs ∧ Rvs P H ds vs
  | .lst ds, v => ∃ a vs, v = .ref a ∧ H a = some (.lst vs) ∧ Rvs P H ds vs
  | .dic ks ds, v => ∃ a kvs, v = .ref a ∧ H a = some (.dK kvs) ∧ kvs.map (·.1) = ks ∧ Rvs P H ds (kvs.map (·.2))
  | .ins c ks ds, v => ∃ a dx fs, v = .ref a ∧ H a = some (.ins (P.cl c) dx fs) ∧ fs.map (·.1) = ks ∧ Rvs P H ds (fs.map (·.2))
  | .ty n, v => v = .ty n
  | .pen, v => v = .ref P.pa
def Rvs (P : Par) (H : Hp) : List D → List V → Prop
  | [], vs => vs = []
  | d :: ds, vs => ∃ v r, vs = v :: r ∧ Rv P H d v ∧ Rvs P H ds r
end

section
variable {P : Par} {H H' : Hp}
theorem sqt_ex {K : PySem.W.Frag} {a : Addr} {xs : List V} (e : Ex H H') (h : SqT K H a xs) : SqT K H' a xs := Evl.ex_t e h
mutual
theorem Rv.ex (e : Ex H H') : ∀ (d : D) (v : V), Rv P H d v → Rv P H' d v
  | .non, _, h => h
  | .bl _, _, h => h
  | .int _, _, h => h
  | .str _, _, h => h
  | .tup ds, _, ⟨a, vs, h1, h2, h3⟩ => ⟨a, vs, h1, sqt_ex e h2, Rvs.ex e ds vs h3⟩
  | .lst ds, _, ⟨a, vs, h1, h2, h3⟩ => ⟨a, vs, h1, e _ _ h2, Rvs.ex e ds vs h3⟩
  | .dic _ ds, _, ⟨a, kvs, h1, h2, h3, h4⟩ => ⟨a, kvs, h1, e _ _ h2, h3, Rvs.ex e ds _ h4⟩
  | .ins _ _ ds, _, ⟨a, dx, fs, h1, h2, h3, h4⟩ => ⟨a, dx, fs, h1, e _ _ h2, h3, Rvs.ex e ds _ h4⟩
  | .ty _, _, h => h
  | .pen, _, h => h
theorem Rvs.ex (e : Ex H H') : ∀ (ds : List D) (vs : List V), Rvs P H ds vs → Rvs P H' ds vs
  | [], _, h => h
  | d :: ds, _, ⟨v, r, h1, h2, h3⟩ => ⟨v, r, h1, Rv.ex e d v h2, Rvs.ex e ds r h3⟩
end
theorem Rvs.len : ∀ {ds : List D} {vs : List V}, Rvs P H ds vs → vs.length = ds.length
  | [], _, h => by rw [show _ = _ from h]; rfl
  | d :: ds, _, ⟨v, r, h1, h2, h3⟩ => by rw [h1, List.length_cons, List.length_cons, Rvs.len h3]
theorem Rvs.get : ∀ {ds : List D} {vs : List V} {i : Nat} {d : D}, Rvs P H ds vs → ds[i]? = some d → ∃ v, vs[i]? = some v ∧ Rv P H d v
  | [], _, _, _, _, e => by simp at e
  | d :: ds, _, 0, d', ⟨v, r, h1, h2, h3⟩, e => by
    have : d = d' := by simpa using e
    subst this
    exact ⟨v, by rw [h1]; rfl, h2⟩
  | d :: ds, _, i + 1, d', ⟨v, r, h1, h2, h3⟩, e => by
    obtain ⟨u, a, b⟩ := Rvs.get (i := i) h3 (by simpa using e)
    exact ⟨u, by rw [h1]; simpa using a, b⟩
theorem Rvs.getv : ∀ {ds : List D} {vs : List V} {i : Nat} {v : V}, Rvs P H ds vs → vs[i]? = some v → ∃ d, ds[i]? = some d ∧ Rv P H d v
  | [], _, _, _, h, e => by rw [show _ = _ from h] at e; simp at e
  | d :: ds, _, 0, v', ⟨v, r, h1, h2, h3⟩, e => by
    rw [h1] at e
    have : v = v' := by simpa using e
    subst this
    exact ⟨d, rfl, h2⟩
  | d :: ds, _, i + 1, v', ⟨v, r, h1, h2, h3⟩, e => by
    rw [h1] at e
    obtain ⟨u, a, b⟩ := Rvs.getv (i := i) h3 (by simpa using e)
    exact ⟨u, by simpa using a, b⟩
theorem Rvs.app : ∀ {ds es : List D} {vs ws : List V}, Rvs P H ds vs → Rvs P H es ws → Rvs P H (ds ++ es) (vs ++ ws)
  | [], _, _, _, h, g => by rw [show _ = _ from h]; exact g
  | d :: ds, _, _, _, ⟨v, r, h1, h2, h3⟩, g => by rw [h1]; exact ⟨v, _, rfl, h2, Rvs.app h3 g⟩
theorem Rvs.one {d : D} {v : V} (h : Rv P H d v) : Rvs P H [d] [v] := ⟨v, [], rfl, h, rfl⟩
theorem Rvs.drop : ∀ {ds : List D} {vs : List V} (n : Nat), Rvs P H ds vs → Rvs P H (ds.drop n) (vs.drop n)
  | _, _, 0, h => h
  | [], _, n + 1, h => by rw [show _ = _ from h]; exact rfl
  | d :: ds, _, n + 1, ⟨v, r, h1, h2, h3⟩ => by rw [h1]; exact Rvs.drop n h3
theorem Rvs.take : ∀ {ds : List D} {vs : List V} (n : Nat), Rvs P H ds vs → Rvs P H (ds.take n) (vs.take n)
  | _, _, 0, h => rfl
  | [], _, n + 1, h => by rw [show _ = _ from h]; exact rfl
  | d :: ds, _, n + 1, ⟨v, r, h1, h2, h3⟩ => by rw [h1]; exact ⟨v, _, rfl, h2, Rvs.take n h3⟩
theorem Rvs.rep {d : D} {v : V} (h : Rv P H d v) : ∀ n, Rvs P H (List.replicate n d) (List.replicate n v)
  | 0 => rfl
  | n + 1 => ⟨v, _, rfl, h, Rvs.rep h n⟩
end

/-! ### the plain side -/
structure Pen where
  cells : List Int
  spot : Int
  rest : Int
inductive Res (α : Type) where
  | ok (a : α) (p : Pen)
  | stuck
abbrev M (α : Type) := Pen → Res α
def M.pure {α : Type} (a : α) : M α := fun p => .ok a p
def M.no {α : Type} : M α := fun _ => .stuck
def M.bind {α β : Type} (x : M α) (f : α → M β) : M β := fun p => match x p with
  | .ok a p' => f a p'
  | .stuck => .stuck
def M.of {α : Type} : Option α → M α
  | some a => M.pure a
  | none => M.no
theorem M.bind_ok {α β : Type} {x : M α} {f : α → M β} {p p' : Pen} {b : β} (h : M.bind x f p = .ok b p') : ∃ a q, x p = .ok a q ∧ f a q = .ok b p' := by
  unfold M.bind at h
  cases e : x p with
  | ok a q => rw [e] at h; exact ⟨a, q, rfl, h⟩
  | stuck => rw [e] at h; cases h
theorem M.of_ok {α : Type} {o : Option α} {p p' : Pen} {a : α} (h : M.of o p = .ok a p') : o = some a ∧ p = p' := by
  cases o with
  | none => cases h
  | some b =>
    cases h
    exact ⟨rfl, rfl⟩
@[simp] theorem M.bind_app {α β : Type} {x : M α} {f : α → M β} {p p' : Pen} {a : α} (h : x p = .ok a p') : M.bind x f p = f a p' := by
  unfold M.bind; rw [h]

/-- a slot: not known, data, a list of this call's own that grows -/
inductive SD where
  | un | im (d : D) | ow (ds : List D)
abbrev Sl := List SD

/-! ### heaps -/
def Keep (P : Par) (H H' : Hp) : Prop := ∀ a o, a ≠ P.pa → H a = some o → H' a = some o
theorem Keep.refl {P : Par} (H : Hp) : Keep P H H := fun _ _ _ h => h
theorem Keep.trans {P : Par} {H H1 H2 : Hp} (a : Keep P H H1) (b : Keep P H1 H2) : Keep P H H2 := fun c o n h => b c o n (a c o n h)
theorem Keep.ofEx {P : Par} {H H' : Hp} (e : Ex H H') : Keep P H H' := fun a o _ h => e a o h
theorem Keep.new {P : Par} {H : Hp} {p : Addr} {o : HO} (h : H p = none) : Keep P H (upd H p o) := .ofEx (Ex.new h)
/-- the heap without some places -/
noncomputable def hid (O : Addr → Prop) (H : Hp) : Hp := fun a => open Classical in if O a then none else H a
theorem fz_some {O : Addr → Prop} {H : Hp} {a : Addr} {o : HO} : hid O H a = some o ↔ ¬ O a ∧ H a = some o := by
  unfold hid
  by_cases h : O a
  · rw [if_pos h]; exact ⟨(fun z => nomatch z), fun z => absurd h z.1⟩
  · rw [if_neg h]; exact ⟨fun z => ⟨h, z⟩, fun z => z.2⟩
theorem fz_up {O : Addr → Prop} {H : Hp} : Ex (hid O H) H := fun a o h => (fz_some.mp h).2
theorem fz_less {O O' : Addr → Prop} {H : Hp} (h : ∀ a, O' a → O a) : Ex (hid O H) (hid O' H) := fun a o e => by
  obtain ⟨h1, h2⟩ := fz_some.mp e
  exact fz_some.mpr ⟨fun z => h1 (h a z), h2⟩
theorem fz_keep {P : Par} {O : Addr → Prop} {H H' : Hp} (hp : O P.pa) (k : Keep P H H') : Ex (hid O H) (hid O H') := fun a o e => by
  obtain ⟨h1, h2⟩ := fz_some.mp e
  exact fz_some.mpr ⟨h1, k a o (fun z => h1 (z ▸ hp)) h2⟩
def PenAt (P : Par) (H : Hp) (p : Pen) : Prop := P.ca ≠ P.pa ∧ H P.pa = some (.lst [.ref P.ca, V.int p.spot, .int p.rest]) ∧ H P.ca = some (.lst (p.cells.map .int))

/-- where one stands: what is protected, what was so at the entry, the heap at the entry -/
structure Fr where
  O : Addr → Prop
  Ob : Addr → Prop
  H0 : Hp
structure Rel (P : Par) (C : Fr) (s : Sl) (p : Pen) (σ : L2.St) (H : Hp) : Prop where
  len : σ.length = s.length
  pa : C.Ob P.pa
  ca : ¬ C.O P.ca
  ca0 : ∃ o, C.H0 P.ca = some o
  pen : PenAt P H p
  dom : ∀ l, C.O l → ∃ o, H l = some o
  dom0 : ∀ l, C.Ob l → ∃ o, C.H0 l = some o
  base : Keep P C.H0 H
  sub : ∀ l, C.Ob l → C.O l
  im : ∀ (i : Nat) (d : D), s[i]? = some (SD.im d) → ∃ v : V, σ[i]? = some (some v) ∧ Rv P (hid C.O H) d v
  ow : ∀ (i : Nat) (ds : List D), s[i]? = some (SD.ow ds) → ∃ (l : Addr) (vs : List V), σ[i]? = some (some (.ref l)) ∧ C.O l ∧ C.H0 l = none ∧ H l = some (.lst vs) ∧ Rvs P (hid C.O H) ds vs
  inj : ∀ (i j : Nat) (ds es : List D) (l : Addr), s[i]? = some (SD.ow ds) → s[j]? = some (SD.ow es) → σ[i]? = some (some (.ref l)) → σ[j]? = some (some (.ref l)) → i = j
section
variable {P : Par} {C : Fr} {s : Sl} {p p' : Pen} {σ : L2.St} {H H' : Hp}
theorem Rel.paO (r : Rel P C s p σ H) : C.O P.pa := r.sub _ r.pa
theorem Rel.nob (r : Rel P C s p σ H) {l : Addr} (h : C.H0 l = none) : ¬ C.Ob l := fun z => by
  obtain ⟨o, e⟩ := r.dom0 l z
  rw [h] at e; cases e
theorem Rel.npa (r : Rel P C s p σ H) {l : Addr} (h : C.H0 l = none) : l ≠ P.pa := fun z => r.nob h (z ▸ r.pa)
theorem Rel.nca (r : Rel P C s p σ H) {l : Addr} (h : C.H0 l = none) : l ≠ P.ca := fun z => by
  obtain ⟨o, e⟩ := r.ca0
  rw [← z, h] at e
  cases e
theorem Rel.fz (r : Rel P C s p σ H) (k : Keep P H H') : Ex (hid C.O H) (hid C.O H') := fz_keep r.paO k
theorem Rel.keep (r : Rel P C s p σ H) (k : Keep P H H') (q : PenAt P H' p') : Rel P C s p' σ H' where
  len := r.len
  pa := r.pa
  ca := r.ca
  ca0 := r.ca0
  pen := q
  dom := fun l hl => by
    by_cases e : l = P.pa
    · subst e; exact ⟨_, q.2.1⟩
    · obtain ⟨o, h⟩ := r.dom l hl
      exact ⟨o, k l o e h⟩
  dom0 := r.dom0
  base := r.base.trans k
  sub := r.sub
  im := fun i d h => by
    obtain ⟨v, h1, h2⟩ := r.im i d h
    exact ⟨v, h1, Rv.ex (r.fz k) d v h2⟩
  ow := fun i ds h => by
    obtain ⟨l, vs, h1, h2, h3, h4, h5⟩ := r.ow i ds h
    exact ⟨l, vs, h1, h2, h3, k l _ (r.npa h3) h4, Rvs.ex (r.fz k) ds vs h5⟩
  inj := r.inj
/-- a new object is not protected -/
theorem Rel.free (r : Rel P C s p σ H) {a : Addr} (h : H a = none) : ¬ C.O a := fun z => by
  obtain ⟨o, e⟩ := r.dom a z
  rw [h] at e; cases e
theorem PenAt.keepNew {a : Addr} {o : HO} (q : PenAt P H p) (h : H a = none) : PenAt P (upd H a o) p := by
  obtain ⟨h0, h1, h2⟩ := q
  exact ⟨h0, Ex.new h _ _ h1, Ex.new h _ _ h2⟩
theorem PenAt.ex (q : PenAt P H p) (e : Ex H H') : PenAt P H' p := ⟨q.1, e _ _ q.2.1, e _ _ q.2.2⟩
end

/-! ### judgements -/
def PostE (P : Par) (C : Fr) (H : Hp) (d : D) (p' : Pen) (Q : VK) : Prop := ∀ v H', Keep P H H' → PenAt P H' p' → Rv P (hid C.O H') d v → Q v H'
def PostA (P : Par) (C : Fr) (H : Hp) (ds : List D) (p' : Pen) (Q : List V → Hp → Prop) : Prop := ∀ vs H', Keep P H H' → PenAt P H' p' → Rvs P (hid C.O H') ds vs → Q vs H'
def PostT (P : Par) (C : Fr) (H : Hp) (b : Bool) (p' : Pen) (Q : Bool → Hp → Prop) : Prop := ∀ H', Keep P H H' → PenAt P H' p' → Q b H'
def JE (P : Par) (te : TE) (f : Sl → M D) : Prop := ∀ C s p σ H, Rel P C s p σ H → ∀ d p', f s p = .ok d p' → ∀ Q : VK, PostE P C H d p' Q → te σ H Q
def JA (P : Par) (ta : TA) (f : Sl → M (List D)) : Prop := ∀ C s p σ H, Rel P C s p σ H → ∀ ds p', f s p = .ok ds p' → ∀ Q, PostA P C H ds p' Q → ta σ H Q
def JT (P : Par) (tt : TT) (f : Sl → M Bool) : Prop := ∀ C s p σ H, Rel P C s p σ H → ∀ b p', f s p = .ok b p' → ∀ Q, PostT P C H b p' Q → tt σ H Q
inductive Out where
  | nx | rt (d : D) | bk | ct
/-- what holds where a statement ends -/
structure Go (P : Par) (C C' : Fr) (H H' : Hp) : Prop where
  h0 : C'.H0 = C.H0
  ob : C'.Ob = C.Ob
  fz : Ex (hid C.O H) (hid C'.O H')
def Lands (P : Par) (C : Fr) (H : Hp) (o : Out) (s' : Sl) (p' : Pen) (E : Ends) : Prop := match o with
  | .nx => ∀ C' σ' H', Rel P C' s' p' σ' H' → Go P C C' H H' → E.nx σ' H'
  | .rt d => ∀ v H', Keep P C.H0 H' → PenAt P H' p' → Rv P (hid C.Ob H') d v → E.rt v H'
  | .bk => ∀ C' σ' H', Rel P C' s' p' σ' H' → Go P C C' H H' → E.bk σ' H'
  | .ct => ∀ C' σ' H', Rel P C' s' p' σ' H' → Go P C C' H H' → E.ct σ' H'
def JS (P : Par) (ts : TS) (g : Sl → M (Out × Sl)) : Prop := ∀ C s p σ H, Rel P C s p σ H → ∀ o s' p', g s p = .ok (o, s') p' → ∀ E : Ends, Lands P C H o s' p' E → ts E σ H
/-- targets: the slots js alone are changed -/
def Off (js : List Nat) (σ σ' : L2.St) : Prop := σ'.length = σ.length ∧ ∀ i, i ∉ js → σ'[i]? = σ[i]?
def JG (P : Par) (tg : TG) (js : List Nat) (f : D → Sl → Option Sl) : Prop := ∀ C s p σ H, Rel P C s p σ H → ∀ d v, Rv P (hid C.O H) d v → ∀ s', f d s = some s' → ∀ Q : L2.St → Hp → Prop, (∀ σ', Rel P C s' p σ' H → Off js σ σ' → Q σ' H) → tg v σ H Q
def JGs (P : Par) (tg : TGs) (js : List Nat) (f : List D → Sl → Option Sl) : Prop := ∀ C s p σ H, Rel P C s p σ H → ∀ ds vs, Rvs P (hid C.O H) ds vs → ∀ s', f ds s = some s' → ∀ Q : L2.St → Hp → Prop, (∀ σ', Rel P C s' p σ' H → Off js σ σ' → Q σ' H) → tg vs σ H Q
/-- an operation on two values; a call on values -/
def JR (P : Par) (r : R2) (g : D → D → Option D) : Prop := ∀ (O : Addr → Prop) (H : Hp) x y dx dy, O P.pa → (∀ l, O l → ∃ o, H l = some o) → Rv P (hid O H) dx x → Rv P (hid O H) dy y → ∀ d, g dx dy = some d → ∀ Q : VK, (∀ v H', Ex H H' → Rv P (hid O H') d v → Q v H') → r x y H Q
def JC (P : Par) (r : List V → Hp → VK → Prop) (g : List D → Option D) : Prop := ∀ (O : Addr → Prop) (H : Hp) xs ds, O P.pa → (∀ l, O l → ∃ o, H l = some o) → Rvs P (hid O H) ds xs → ∀ d, g ds = some d → ∀ Q : VK, (∀ v H', Ex H H' → Rv P (hid O H') d v → Q v H') → r xs H Q

section
variable {P : Par} {ta tb te tc : TE} {fa fb fc : Sl → M D}
/-! ### expressions -/
def eVar (i : Nat) : Sl → M D := fun s => match s[i]? with
  | some (.im d) => M.pure d
  | _ => M.no
theorem j_var (i : Nat) : JE P (tVar i) (eVar i) := fun C s p σ H r d p' h Q q => by
  unfold eVar at h
  cases e : s[i]? with
  | none => rw [e] at h; cases h
  | some z =>
    rw [e] at h
    cases z with
    | un => cases h
    | ow _ => cases h
    | im d' =>
      cases h
      obtain ⟨v, h1, h2⟩ := r.im i _ e
      exact ⟨v, h1, q v H (.refl H) r.pen h2⟩
def eC (d : D) : Sl → M D := fun _ => M.pure d
theorem j_c {d : D} {v : V} (h : ∀ H, Rv P H d v) : JE P (tC v) (eC d) := fun C s p σ H r d p' e Q q => by
  cases e
  exact q v H (.refl H) r.pen (h _)
theorem j_int {i : Int} : JE P (tC (.int i)) (eC (.int i)) := j_c fun _ => rfl
theorem j_bl {b : Bool} : JE P (tC (.bl b)) (eC (.bl b)) := j_c fun _ => rfl
theorem j_non : JE P (tC .non) (eC .non) := j_c fun _ => rfl
theorem j_str {x : Str} : JE P (tC (.str x)) (eC (.str x)) := j_c fun _ => rfl
def eOp (g : D → D → Option D) (fa fb : Sl → M D) : Sl → M D := fun s => (fa s).bind fun x => (fb s).bind fun y => M.of (g x y)
theorem j_op {r : R2} {g : D → D → Option D} (hr : JR P r g) (ha : JE P ta fa) (hb : JE P tb fb) : JE P (tOp r ta tb) (eOp g fa fb) := fun C s p σ H rl d p' h Q q => by
  obtain ⟨x, p1, h1, h⟩ := M.bind_ok h
  obtain ⟨y, p2, h2, h⟩ := M.bind_ok h
  obtain ⟨h3, rfl⟩ := M.of_ok h
  refine ha C s p σ H rl x p1 h1 _ fun v1 H1 k1 q1 r1 => ?_
  have rl1 := rl.keep k1 q1
  refine hb C s p1 σ H1 rl1 y p2 h2 _ fun v2 H2 k2 q2 r2 => ?_
  have rl2 := rl1.keep k2 q2
  refine hr C.O H2 v1 v2 x y rl.paO rl2.dom (Rv.ex (rl1.fz k2) x v1 r1) r2 d h3 Q fun v H3 e3 r3 => ?_
  exact q v H3 ((k1.trans k2).trans (.ofEx e3)) (q2.ex e3) r3
/-! arguments -/
def aNil : Sl → M (List D) := fun _ => M.pure []
def aCons (f : Sl → M D) (g : Sl → M (List D)) : Sl → M (List D) := fun s => (f s).bind fun x => (g s).bind fun xs => M.pure (x :: xs)
theorem ja_nil : JA P tNil aNil := fun C s p σ H r d p' h Q q => by
  cases h
  exact q [] H (.refl H) r.pen rfl
theorem ja_cons {tr : TA} {g : Sl → M (List D)} (ha : JE P ta fa) (hr : JA P tr g) : JA P (tCons ta tr) (aCons fa g) := fun C s p σ H rl ds p' h Q q => by
  obtain ⟨x, p1, h1, h⟩ := M.bind_ok h
  obtain ⟨xs, p2, h2, h⟩ := M.bind_ok h
  cases h
  refine ha C s p σ H rl x p1 h1 _ fun v1 H1 k1 q1 r1 => ?_
  have rl1 := rl.keep k1 q1
  refine hr C s p1 σ H1 rl1 xs _ h2 _ fun vs H2 k2 q2 r2 => ?_
  exact q _ H2 (k1.trans k2) q2 ⟨v1, vs, rfl, Rv.ex (rl1.fz k2) x v1 r1, r2⟩
def sz (n : Nat) : Bool := decide (n ≤ 100000)
theorem sz_ok {n : Nat} (h : sz n = true) : n ≤ sizeLine := Evl.sz_of (of_decide_eq_true h)
def eTup (f : Sl → M (List D)) : Sl → M D := fun s => (f s).bind fun ds => if sz ds.length = true then M.pure (.tup ds) else M.no
def eLst (f : Sl → M (List D)) : Sl → M D := fun s => (f s).bind fun ds => if sz ds.length = true then M.pure (.lst ds) else M.no
theorem fz_new {O : Addr → Prop} {H : Hp} {a : Addr} {o : HO} (hd : ∀ l, O l → ∃ o, H l = some o) (h : H a = none) : hid O (upd H a o) a = some o := by
  refine fz_some.mpr ⟨fun z => ?_, upd_same⟩
  obtain ⟨o, e⟩ := hd a z
  rw [h] at e
  cases e
theorem fz_ex {O : Addr → Prop} {H H' : Hp} (e : Ex H H') : Ex (hid O H) (hid O H') := fun a o h => by
  obtain ⟨h1, h2⟩ := fz_some.mp h
  exact fz_some.mpr ⟨h1, e a o h2⟩
theorem j_tup {t : TA} {f : Sl → M (List D)} (h : JA P t f) : JE P (tTup t) (eTup f) := fun C s p σ H rl d p' e Q q => by
  obtain ⟨ds, p1, h1, e⟩ := M.bind_ok e
  split at e
  · rename_i hz
    cases e
    refine h C s p σ H rl ds _ h1 _ fun vs H1 k1 q1 r1 => ⟨by rw [r1.len]; exact sz_ok hz, fun a ha => ?_⟩
    have rl1 := rl.keep k1 q1
    exact q _ _ (k1.trans (.new ha)) (q1.keepNew ha) ⟨a, vs, rfl, .inl (.inl (fz_new rl1.dom ha)), Rvs.ex (fz_ex (Ex.new ha)) ds vs r1⟩
  · cases e
theorem j_lst {t : TA} {f : Sl → M (List D)} (h : JA P t f) : JE P (tLst t) (eLst f) := fun C s p σ H rl d p' e Q q => by
  obtain ⟨ds, p1, h1, e⟩ := M.bind_ok e
  split at e
  · rename_i hz
    cases e
    refine h C s p σ H rl ds _ h1 _ fun vs H1 k1 q1 r1 => ⟨by rw [r1.len]; exact sz_ok hz, fun a ha => ?_⟩
    have rl1 := rl.keep k1 q1
    exact q _ _ (k1.trans (.new ha)) (q1.keepNew ha) ⟨a, vs, rfl, fz_new rl1.dom ha, Rvs.ex (fz_ex (Ex.new ha)) ds vs r1⟩
  · cases e
def eCall (g : List D → Option D) (f : Sl → M (List D)) : Sl → M D := fun s => (f s).bind fun ds => M.of (g ds)
theorem j_cb {t : TA} {f : Sl → M (List D)} {r : List V → Hp → VK → Prop} {g : List D → Option D} (hr : JC P r g) (h : JA P t f) : JE P (tCB r t) (eCall g f) := fun C s p σ H rl d p' e Q q => by
  obtain ⟨ds, p1, h1, e⟩ := M.bind_ok e
  obtain ⟨h3, rfl⟩ := M.of_ok e
  refine h C s p σ H rl ds _ h1 _ fun vs H1 k1 q1 r1 => ?_
  have rl1 := rl.keep k1 q1
  exact hr C.O H1 vs ds rl.paO rl1.dom r1 d h3 Q fun v H2 e2 r2 => q v H2 (k1.trans (.ofEx e2)) (q1.ex e2) r2
end

/-! ### own defs -/
def spM (K : PySem.W.Frag) (cl : Str → Addr) (n : Nat) (m : List D → M D) : Sp := fun vs H Q _ => ∃ (P : Par), P.K = K ∧ P.cl = cl ∧ ∃ (O : Addr → Prop) (ds : List D) (p : Pen) (d : D) (p' : Pen), ds.length = n ∧ O P.pa ∧ ¬ O P.ca ∧ (∀ l, O l → ∃ o, H l = some o) ∧ PenAt P H p ∧ Rvs P (hid O H) ds vs ∧
  m ds p = .ok d p' ∧ ∀ v H', Keep P H H' → PenAt P H' p' → Rv P (hid O H') d v → Q v H'
theorem spM.len {K : PySem.W.Frag} {cl : Str → Addr} {n : Nat} {m : List D → M D} {vs : List V} {H : Hp} {Q : VK} {E : XK} (h : spM K cl n m vs H Q E) : vs.length = n := by
  obtain ⟨P, _, _, O, ds, p, d, p', hn, _, _, _, _, r, _⟩ := h
  rw [r.len, hn]
def eOwn (n : Nat) (m : List D → M D) (f : Sl → M (List D)) : Sl → M D := fun s => (f s).bind fun ds => if ds.length = n then m ds else M.no
section
variable {P : Par}
theorem j_own {n : Nat} {m : List D → M D} {E : XK} {t : TA} {f : Sl → M (List D)} (h : JA P t f) : JE P (tCall (spM P.K P.cl n m) [] E t) (eOwn n m f) := fun C s p σ H rl d p' e Q q => by
  obtain ⟨ds, p1, h1, e⟩ := M.bind_ok e
  split at e
  · rename_i hn
    refine h C s p σ H rl ds _ h1 _ fun vs H1 k1 q1 r1 => ?_
    have rl1 := rl.keep k1 q1
    show spM P.K P.cl n m (vs ++ []) H1 Q E
    rw [List.append_nil]
    exact ⟨P, rfl, rfl, C.O, ds, p1, d, p', hn, rl.paO, rl.ca, rl1.dom, q1, r1, e, fun v H2 k2 q2 r2 => q v H2 (k1.trans k2) q2 r2⟩
  · cases e
end
def bodyM (N : Nat) (g : Sl → M (Out × Sl)) : List D → M D := fun ds => (g (ds.map SD.im ++ List.replicate (N - ds.length) .un)).bind fun r => match r.1 with
  | .nx => M.pure .non
  | .rt d => M.pure d
  | _ => M.no
theorem body_ok {K : PySem.W.Frag} {cl : Str → Addr} {N : List Str} {n : Nat} {g : Sl → M (Out × Sl)} {ts : TS} (h : ∀ pa ca, JS ⟨K, pa, ca, cl⟩ ts g) {vs : List V} {H : Hp} {Q : VK} {E : XK} (sp : spM K cl n (bodyM N.length g) vs H Q E) : ts { nx := fun _ H' => Q .non H', rt := Q } (L2.start N vs) H := by
  obtain ⟨P, rfl, rfl, O, ds, p, d, p', hd, hO, hc, hdom, hp, r, hm, q⟩ := sp
  obtain ⟨⟨o, s'⟩, p1, h1, h2⟩ := M.bind_ok hm
  have hl := r.len
  have r0 : Rel P ⟨O, O, H⟩ (ds.map SD.im ++ List.replicate (N.length - ds.length) .un) p (L2.start N vs) H :=
    { len := by unfold L2.start; simp [hl]
      pa := hO, ca := hc, ca0 := ⟨_, hp.2.2⟩, pen := hp, dom := hdom, dom0 := hdom, base := .refl H, sub := fun _ h => h
      im := fun i e hi => by
        unfold L2.start
        by_cases hlt : i < ds.length
        · rw [List.getElem?_append_left (by simpa using hlt)] at hi
          rw [List.getElem?_append_left (by simpa [hl] using hlt)]
          have hi' : ds[i]? = some e := by
            rw [List.getElem?_map] at hi
            cases hq : ds[i]? with
            | none => rw [hq] at hi; cases hi
            | some z => rw [hq] at hi; simp at hi; rw [hi]
          obtain ⟨v, hv, rv⟩ := r.get hi'
          exact ⟨v, by rw [List.getElem?_map, hv]; rfl, rv⟩
        · rw [List.getElem?_append_right (by simpa using hlt)] at hi
          rw [List.getElem?_replicate] at hi
          split at hi <;> simp at hi
      ow := fun i e hi => by
        by_cases hlt : i < ds.length
        · rw [List.getElem?_append_left (by simpa using hlt), List.getElem?_map] at hi
          cases hq : ds[i]? <;> rw [hq] at hi <;> simp at hi
        · rw [List.getElem?_append_right (by simpa using hlt), List.getElem?_replicate] at hi
          split at hi <;> simp at hi
      inj := fun i j e e' l hi => by
        by_cases hlt : i < ds.length
        · rw [List.getElem?_append_left (by simpa using hlt), List.getElem?_map] at hi
          cases hq : ds[i]? <;> rw [hq] at hi <;> simp at hi
        · rw [List.getElem?_append_right (by simpa using hlt), List.getElem?_replicate] at hi
          split at hi <;> simp at hi }
  refine h P.pa P.ca ⟨O, O, H⟩ _ p _ H r0 o s' p1 h1 _ ?_
  cases o with
  | nx =>
    intro C' σ' H' r1 g1
    cases h2
    refine q .non H' ?_ r1.pen rfl
    have := r1.base
    rw [g1.h0] at this
    exact this
  | rt e =>
    intro v H' k pn rv
    cases h2
    exact q v H' k pn rv
  | bk => cases h2
  | ct => cases h2
end Z
end
section
set_option Elab.async false
set_option linter.all false
set_option maxRecDepth 100000
set_option maxHeartbeats 2000000
namespace Z
open PySem L2
open Evl (Ex)
section
variable {P : Par} {ta tb te tc : TE} {fa fb fc : Sl → M D} {tt tu : TT} {ft fu : Sl → M Bool}
/-! ### tests -/
def asB : D → Option Bool
  | .bl b => some b
  | _ => none
theorem asB_ok {d : D} {b : Bool} (h : asB d = some b) : d = .bl b := by
  cases d <;> cases h <;> rfl
def bTest (f : Sl → M D) : Sl → M Bool := fun s => (f s).bind fun d => M.of (asB d)
theorem jt_test (h : JE P te fa) : JT P (tTest te) (bTest fa) := fun C s p σ H r b p' e Q q => by
  obtain ⟨d, p1, h1, e⟩ := M.bind_ok e
  obtain ⟨h2, rfl⟩ := M.of_ok e
  have := asB_ok h2
  subst this
  exact h C s p σ H r _ _ h1 _ fun v H1 k1 q1 r1 => ⟨b, r1, q H1 k1 q1⟩
theorem jt_val (h : JE P te fa) : JT P (tB te) (bTest fa) := fun C s p σ H r b p' e Q q => by
  obtain ⟨d, p1, h1, e⟩ := M.bind_ok e
  obtain ⟨h2, rfl⟩ := M.of_ok e
  have := asB_ok h2
  subst this
  exact h C s p σ H r _ _ h1 _ fun v H1 k1 q1 r1 => ⟨b, r1, q H1 k1 q1⟩
def bAnd (f g : Sl → M Bool) : Sl → M Bool := fun s => (f s).bind fun b => if b = true then g s else M.pure false
def bOr (f g : Sl → M Bool) : Sl → M Bool := fun s => (f s).bind fun b => if b = true then M.pure true else g s
def bNot (f : Sl → M Bool) : Sl → M Bool := fun s => (f s).bind fun b => M.pure (!b)
theorem jt_and (h : JT P tt ft) (g : JT P tu fu) : JT P (tAnd tt tu) (bAnd ft fu) := fun C s p σ H r b p' e Q q => by
  obtain ⟨c, p1, h1, e⟩ := M.bind_ok e
  refine h C s p σ H r c p1 h1 _ fun H1 k1 q1 => ?_
  cases c with
  | true =>
    rw [if_pos rfl] at e ⊢
    exact g C s p1 σ H1 (r.keep k1 q1) b p' e Q fun H2 k2 q2 => q H2 (k1.trans k2) q2
  | false =>
    rw [if_neg Bool.false_ne_true] at e ⊢
    cases e
    exact q H1 k1 q1
theorem jt_or (h : JT P tt ft) (g : JT P tu fu) : JT P (tOr tt tu) (bOr ft fu) := fun C s p σ H r b p' e Q q => by
  obtain ⟨c, p1, h1, e⟩ := M.bind_ok e
  refine h C s p σ H r c p1 h1 _ fun H1 k1 q1 => ?_
  cases c with
  | true =>
    rw [if_pos rfl] at e ⊢
    cases e
    exact q H1 k1 q1
  | false =>
    rw [if_neg Bool.false_ne_true] at e ⊢
    exact g C s p1 σ H1 (r.keep k1 q1) b p' e Q fun H2 k2 q2 => q H2 (k1.trans k2) q2
theorem jt_not (h : JT P tt ft) : JT P (tNot tt) (bNot ft) := fun C s p σ H r b p' e Q q => by
  obtain ⟨c, p1, h1, e⟩ := M.bind_ok e
  cases e
  exact h C s p σ H r c _ h1 _ fun H1 k1 q1 => q H1 k1 q1
def bYes : Sl → M Bool := fun _ => M.pure true
theorem jt_yes : JT P tYes bYes := fun C s p σ H r b p' e Q q => by
  cases e
  exact q H (.refl H) r.pen
/-! ### values of tests -/
def eAnd (f g : Sl → M D) : Sl → M D := fun s => (f s).bind fun d => (M.of (asB d)).bind fun b => if b = true then g s else M.pure (.bl false)
def eOr (f g : Sl → M D) : Sl → M D := fun s => (f s).bind fun d => (M.of (asB d)).bind fun b => if b = true then M.pure (.bl true) else g s
def eNot (f : Sl → M D) : Sl → M D := fun s => (f s).bind fun d => (M.of (asB d)).bind fun b => M.pure (.bl (!b))
def eIf (c : Sl → M Bool) (f g : Sl → M D) : Sl → M D := fun s => (c s).bind fun b => if b = true then f s else g s
theorem j_and (ha : JE P ta fa) (hb : JE P tb fb) : JE P (tAndV ta tb) (eAnd fa fb) := fun C s p σ H r d p' e Q q => by
  obtain ⟨x, p1, h1, e1⟩ := M.bind_ok e
  obtain ⟨b, p2, h2a, e2⟩ := M.bind_ok e1
  clear e1
  obtain ⟨h2, rfl⟩ := M.of_ok h2a
  have := asB_ok h2
  subst this
  refine ha C s p σ H r _ _ h1 _ fun v H1 k1 q1 r1 => ⟨b, r1, ?_⟩
  cases b with
  | true =>
    rw [if_pos rfl] at e2 ⊢
    exact hb C s _ σ H1 (r.keep k1 q1) d p' e2 Q fun v H2 k2 q2 r2 => q v H2 (k1.trans k2) q2 r2
  | false =>
    rw [if_neg Bool.false_ne_true] at e2 ⊢
    cases e2
    exact q _ H1 k1 q1 rfl
theorem j_or (ha : JE P ta fa) (hb : JE P tb fb) : JE P (tOrV ta tb) (eOr fa fb) := fun C s p σ H r d p' e Q q => by
  obtain ⟨x, p1, h1, e1⟩ := M.bind_ok e
  obtain ⟨b, p2, h2a, e2⟩ := M.bind_ok e1
  clear e1
  obtain ⟨h2, rfl⟩ := M.of_ok h2a
  have := asB_ok h2
  subst this
  refine ha C s p σ H r _ _ h1 _ fun v H1 k1 q1 r1 => ⟨b, r1, ?_⟩
  cases b with
  | true =>
    rw [if_pos rfl] at e2 ⊢
    cases e2
    exact q _ H1 k1 q1 rfl
  | false =>
    rw [if_neg Bool.false_ne_true] at e2 ⊢
    exact hb C s _ σ H1 (r.keep k1 q1) d p' e2 Q fun v H2 k2 q2 r2 => q v H2 (k1.trans k2) q2 r2
theorem j_not (ha : JE P ta fa) : JE P (tNotV ta) (eNot fa) := fun C s p σ H r d p' e Q q => by
  obtain ⟨x, p1, h1, e1⟩ := M.bind_ok e
  obtain ⟨b, p2, h2a, e2⟩ := M.bind_ok e1
  clear e1
  obtain ⟨h2, rfl⟩ := M.of_ok h2a
  have := asB_ok h2
  subst this
  cases e2
  exact ha C s p σ H r _ _ h1 _ fun v H1 k1 q1 r1 => ⟨b, r1, q _ H1 k1 q1 rfl⟩
theorem j_if (hc : JT P tt ft) (ha : JE P ta fa) (hb : JE P tb fb) : JE P (tIf tt ta tb) (eIf ft fa fb) := fun C s p σ H r d p' e Q q => by
  obtain ⟨b, p1, h1, e⟩ := M.bind_ok e
  refine hc C s p σ H r b p1 h1 _ fun H1 k1 q1 => ?_
  cases b with
  | true =>
    rw [if_pos rfl] at e ⊢
    exact ha C s p1 σ H1 (r.keep k1 q1) d p' e Q fun v H2 k2 q2 r2 => q v H2 (k1.trans k2) q2 r2
  | false =>
    rw [if_neg Bool.false_ne_true] at e ⊢
    exact hb C s p1 σ H1 (r.keep k1 q1) d p' e Q fun v H2 k2 q2 r2 => q v H2 (k1.trans k2) q2 r2
def eChain (g g' : D → D → Option D) (fa fb fc : Sl → M D) : Sl → M D := fun s => (fa s).bind fun x => (fb s).bind fun y => (M.of ((g x y).bind asB)).bind fun b => if b = true then (fc s).bind fun z => M.of (g' y z) else M.pure (.bl false)
theorem j_chain {r r' : R2} {g g' : D → D → Option D} (hr : JR P r g) (hr' : JR P r' g') (ha : JE P ta fa) (hb : JE P tb fb) (hc : JE P tc fc) : JE P (tChain r r' ta tb tc) (eChain g g' fa fb fc) := fun C s p σ H rl d p' h Q q => by
  obtain ⟨x, p1, h1, h⟩ := M.bind_ok h
  obtain ⟨y, p2, h2, h⟩ := M.bind_ok h
  obtain ⟨b, p3, h3a, h⟩ := M.bind_ok h
  obtain ⟨h3, rfl⟩ := M.of_ok h3a
  have h3' : g x y = some (.bl b) := by
    cases e : g x y with
    | none => rw [e] at h3; cases h3
    | some z =>
      rw [e] at h3
      rw [asB_ok (show asB z = some b from h3)]
  refine ha C s p σ H rl x p1 h1 _ fun v1 H1 k1 q1 r1 => ?_
  have rl1 := rl.keep k1 q1
  refine hb C s p1 σ H1 rl1 y _ h2 _ fun v2 H2 k2 q2 r2 => ?_
  have rl2 := rl1.keep k2 q2
  refine hr C.O H2 v1 v2 x y rl.paO rl2.dom (Rv.ex (rl1.fz k2) x v1 r1) r2 _ h3' _ fun v H3 e3 r3 => ⟨b, r3, ?_⟩
  have k3 := (k1.trans k2).trans (.ofEx e3)
  have rl3 := rl2.keep (.ofEx e3) (q2.ex e3)
  cases b with
  | true =>
    rw [if_pos rfl] at h ⊢
    obtain ⟨z, p4, h4, h⟩ := M.bind_ok h
    obtain ⟨h5, rfl⟩ := M.of_ok h
    refine hc C s _ σ H3 rl3 z _ h4 _ fun v4 H4 k4 q4 r4 => ?_
    have rl4 := rl3.keep k4 q4
    exact hr' C.O H4 v2 v4 y z rl.paO rl4.dom (Rv.ex (rl3.fz k4) y v2 (Rv.ex (fz_ex e3) y v2 r2)) r4 d h5 Q fun v H5 e5 r5 => q v H5 ((k3.trans k4).trans (.ofEx e5)) (q4.ex e5) r5
  | false =>
    rw [if_neg Bool.false_ne_true] at h ⊢
    cases h
    exact q _ H3 k3 (q2.ex e3) rfl
end

/-! ### operations -/
section
variable {P : Par}
def gI (f : Int → Int → D) : D → D → Option D
  | .int i, .int j => some (f i j)
  | _, _ => none
theorem gI_ok {f : Int → Int → D} {x y d : D} (h : gI f x y = some d) : ∃ i j, x = .int i ∧ y = .int j ∧ d = f i j := by
  cases x <;> cases y <;> cases h <;> exact ⟨_, _, rfl, rfl, rfl⟩
theorem jr_I0 {g : Int → Int → V} {f : Int → Int → D} (hg : ∀ i j H, Rv P H (f i j) (g i j)) : JR P (rI0 g) (gI f) := fun O H x y dx dy hp hd rx ry d h Q q => by
  obtain ⟨i, j, rfl, rfl, rfl⟩ := gI_ok h
  exact ⟨i, j, rx, ry, q _ H (Evl.Ex.refl H) (hg i j _)⟩
def gIc (c : Int → Int → Bool) (f : Int → Int → D) : D → D → Option D
  | .int i, .int j => if c i j = true then some (f i j) else none
  | _, _ => none
theorem jr_Ic {c : Int → Int → Bool} {cp : Int → Int → Prop} {g : Int → Int → V} {f : Int → Int → D} (hc : ∀ i j, c i j = true → cp i j) (hg : ∀ i j H, Rv P H (f i j) (g i j)) : JR P (rI cp g) (gIc c f) := fun O H x y dx dy hp hd rx ry d h Q q => by
  cases dx <;> cases dy <;> first | cases h | skip
  rename_i i j
  unfold gIc at h
  dsimp only at h
  split at h
  · rename_i hcc
    cases h
    exact ⟨i, j, rx, ry, hc i j hcc, q _ H (Evl.Ex.refl H) (hg i j _)⟩
  · cases h
def dAdd := gI fun i j => .int (i + j)
def dSub := gI fun i j => .int (i - j)
def dLt := gI fun i j => .bl (decide (i < j))
def dLe := gI fun i j => .bl (decide (i ≤ j))
def dGt := gI fun i j => .bl (decide (j < i))
def dGe := gI fun i j => .bl (decide (j ≤ i))
theorem jr_add : JR P (rI0 fun i j => .int (i + j)) dAdd := jr_I0 fun _ _ _ => rfl
theorem jr_sub : JR P (rI0 fun i j => .int (i - j)) dSub := jr_I0 fun _ _ _ => rfl
theorem jr_lt : JR P (rI0 fun i j => .bl (decide (i < j))) dLt := jr_I0 fun _ _ _ => rfl
theorem jr_le : JR P (rI0 fun i j => .bl (decide (i ≤ j))) dLe := jr_I0 fun _ _ _ => rfl
theorem jr_gt : JR P (rI0 fun i j => .bl (decide (j < i))) dGt := jr_I0 fun _ _ _ => rfl
theorem jr_ge : JR P (rI0 fun i j => .bl (decide (j ≤ i))) dGe := jr_I0 fun _ _ _ => rfl
/-- a small factor on the left -/
def dMul := gIc (fun i _ => decide (-18446744073709551616 < i ∧ i < 18446744073709551616)) fun i j => .int (i * j)
theorem jr_mul : JR P (rI CMul fun i j => .int (i * j)) dMul := jr_Ic (fun i j h => .inl (by have := of_decide_eq_true h; constructor <;> omega)) fun _ _ _ => rfl
def dMod := gIc (fun _ j => decide (j ≠ 0)) fun i j => .int (i.fmod j)
theorem jr_mod : JR P (rI (fun _ j => j ≠ 0) fun i j => .int (i.fmod j)) dMod := jr_Ic (fun i j h => of_decide_eq_true h) fun _ _ _ => rfl
def dDiv := gIc (fun _ j => decide (j ≠ 0 ∧ j.natAbs < 1073741824)) fun i j => .int (i.fdiv j)
theorem jr_div : JR P (rI CDivN fun i j => .int (i.fdiv j)) dDiv := jr_Ic (fun i j h => of_decide_eq_true (p := j ≠ 0 ∧ j.natAbs < 1073741824) h) fun _ _ _ => rfl
/-- == of plain things -/
def dEq : D → D → Option D
  | .int i, .int j => some (.bl (decide (i = j)))
  | .str i, .str j => some (.bl (decide (i = j)))
  | .bl i, .bl j => some (.bl (decide (i = j)))
  | _, _ => none
def dNe (x y : D) : Option D := match dEq x y with
  | some (.bl b) => some (.bl (!b))
  | _ => none
theorem dEq_ok {O : Addr → Prop} {H : Hp} {dx dy d : D} {x y : V} (rx : Rv P (hid O H) dx x) (ry : Rv P (hid O H) dy y) (h : dEq dx dy = some d) : scal x y = true ∧ d = .bl (decide (x = y)) := by
  cases dx <;> cases dy <;> cases h
  · rw [show x = _ from rx, show y = _ from ry]
    refine ⟨rfl, ?_⟩
    congr 1
    simp
  · rw [show x = _ from rx, show y = _ from ry]
    refine ⟨rfl, ?_⟩
    congr 1
    simp
  · rw [show x = _ from rx, show y = _ from ry]
    refine ⟨rfl, ?_⟩
    congr 1
    simp
theorem jr_eq : JR P rEq dEq := fun O H x y dx dy hp hd rx ry d h Q q => by
  obtain ⟨h1, rfl⟩ := dEq_ok rx ry h
  exact ⟨h1, q _ H (Evl.Ex.refl H) rfl⟩
theorem jr_ne : JR P rNe dNe := fun O H x y dx dy hp hd rx ry d h Q q => by
  unfold dNe at h
  cases e : dEq dx dy with
  | none => rw [e] at h; cases h
  | some z =>
    obtain ⟨h1, rfl⟩ := dEq_ok rx ry e
    rw [e] at h
    cases h
    exact ⟨h1, q _ H (Evl.Ex.refl H) rfl⟩
/-- lists, tuples: + -/
def dCatL : D → D → Option D
  | .lst xs, .lst ys => if sz (xs.length + ys.length) = true then some (.lst (xs ++ ys)) else none
  | _, _ => none
theorem jr_catL : JR P rCat dCatL := fun O H x y dx dy hp hd rx ry d h Q q => by
  cases dx <;> cases dy <;> first | cases h | skip
  rename_i xs ys
  unfold dCatL at h
  dsimp only at h
  split at h
  · rename_i hz
    cases h
    obtain ⟨a, vs, rfl, h1, h2⟩ := rx
    obtain ⟨b, ws, rfl, h3, h4⟩ := ry
    refine ⟨a, b, vs, ws, rfl, rfl, (fz_some.mp h1).2, (fz_some.mp h3).2, by rw [h2.len, h4.len]; exact sz_ok hz, fun p hp => ?_⟩
    exact q _ _ (Ex.new hp) ⟨p, vs ++ ws, rfl, fz_new hd hp, Rvs.ex (fz_ex (Ex.new hp)) _ _ (h2.app h4)⟩
  · cases h
def dCatT : D → D → Option D
  | .tup xs, .tup ys => if sz (xs.length + ys.length) = true then some (.tup (xs ++ ys)) else none
  | _, _ => none
end
end Z
end
section
set_option Elab.async false
set_option linter.all false
set_option maxRecDepth 100000
set_option maxHeartbeats 2000000
/-! Promises that also know that no repr is under way around them (the list of guards is empty): what repr of a list asks. -/
namespace Z
open PySem L2 PyProof.Rows
structure FnG (P : Program) (w : World) (K : PySem.W.Frag) (mg : Str → Option Value) (base : Heap) (X : CXT) (k : Nat) (f : Addr) (fd : FuncData) (ps : List Str) (sp : Sp) : Prop where
  ln : ∀ vs H Q E, sp vs H Q E → vs.length = ps.length
  go : ∀ (A : Around) (ou : List Env) (s : Shared) (H : Hp) (ar : Args) (us : List Value) (vs : List V) (Q : VK) (E : XK), Room k A → A.guards = some [] → Env0 P w K mg base A ou s H →
    BindsTo s fd ar (ps.zip us) → Vals vs us → sp vs H Q E → codeAny (model P w) A (.call (.ref f) ar) (CR X ou P w H s Q E) s
section
variable {P : Program} {w : World} {K : PySem.W.Frag} {mg : Str → Option Value} {base : Heap} {CX : CXT} {f : Addr} {fd : FuncData} {ps : List Str} {sp : Sp}
theorem FnG.up {j k : Nat} (F : FnG P w K mg base CX j f fd ps sp) (h : j ≤ k) : FnG P w K mg base CX k f fd ps sp :=
  ⟨F.ln, fun A ou s H ar us vs Q E r g e b v q => F.go A ou s H ar us vs Q E (r.mono h) g e b v q⟩
theorem FnG.imp {k : Nat} {sp' : Sp} (F : FnG P w K mg base CX k f fd ps sp) (h : ∀ vs H Q E, sp' vs H Q E → sp vs H Q E) : FnG P w K mg base CX k f fd ps sp' :=
  ⟨fun vs H Q E q => F.ln vs H Q E (h _ _ _ _ q), fun A ou s H ar us vs Q E r g e b v q => F.go A ou s H ar us vs Q E r g e b v (h _ _ _ _ q)⟩
/-- the end of a body -/
theorem body_end {N : List Str} {q : Str} {sc : Scope} {cd : Value} {A : Around} {ou : List Env} {s s' : Shared} {H : Hp} {Q : VK} {E : XK} {fl : Flow}
    (h : SP (cxOf CX P w K mg base N q sc f cd A ou s H E) [] { nx := fun _ H' => Q .non H', rt := Q } fl s') : CR CX ou P w H s Q E (.ok (match fl with | .ret u => .ret u | _ => .ret .none)) s' := by
  cases fl with
  | ret u => obtain ⟨v, _, H', J, r, z⟩ := h; exact ⟨v, H', J.os, J.bare, J.base, J.hok, r, z⟩
  | next => obtain ⟨_, H', J, z⟩ := h; exact ⟨.non, H', J.os, J.bare, J.base, J.hok, rfl, z⟩
  | brk => obtain ⟨_, _, _, z⟩ := h; exact z.elim
  | cont => obtain ⟨_, _, _, z⟩ := h; exact z.elim
theorem fn_g {x qual : Str} {st : Stmt} {N : List Str} {k : Nat} (F : Fun K x qual st f fd) (T : FnScope N ps (defScope st)) (ln : ∀ vs H Q E, sp vs H Q E → vs.length = ps.length)
    (hb : ∀ (cd : Value) (A : Around) (ou : List Env) (s : Shared) (H : Hp) (vs : List V) (Q : VK) (E : XK), Room k (A.deeper (envOfC qual (defScope st) s.heap.objs.size f cd)) → A.guards = some [] → sp vs H Q E →
      ∃ t, PSs (cxOf CX P w K mg base N qual (defScope st) f cd A ou s H E) (defBody st) t ∧ t { nx := fun _ H' => Q .non H', rt := Q } (L2.start N vs) H) : FnG P w K mg base CX (k + 1) f fd ps sp := by
  obtain ⟨oc, od, kV, doc, pm, an, cd, ct, sl, rfl, lk, hcd⟩ := F.ex
  refine ⟨ln, fun A ou s H ar us vs Q E r g e0 bd rv q => ?_⟩
  have inK : K.In s.heap := e0.mod.kin.keeps fun b o z => (e0.bs b o z).1
  have kinds : ∀ y ∈ ps.zip us, (defScope st).names.lookup y.1 = some .local ∨ ((defScope st).names.lookup y.1 = some .cell ∧ ((cellsFrom (s.heap.objs.size + 1) (defScope st).names []).lookup y.1).isSome = true) := by
    rintro ⟨n, v⟩ hy
    rcases T.par n (List.of_mem_zip hy).1 with c | c
    · exact Or.inl c
    · exact Or.inr ⟨c, PySem.W.cellsFrom_some _ _ _ (Or.inl c)⟩
  refine codeAny_call_function r.depth (inK _ _ lk) rfl T.co T.gen rfl (PySem.W.codeRec_of inK hcd) (bd _ _ _ _ ?_)
  refine wpAny_newFunctionEnv_cells T.kind kinds fun env he s1 x1 => ?_
  subst he
  refine ⟨(e0.mod.nolimit.keeps fun b o z => (e0.bs b o z).1).keeps x1.toInCall.keep, codeAny_func ?_⟩
  obtain ⟨t, ht, hq⟩ := hb cd A ou s H vs Q E (r.deeper _) g q
  have J := inv_start (K := K) (mg := mg) (base := base) (CX := CX) (E := E) (P := P) (w := w) T r.hd e0 (ln _ _ _ _ q) rv x1
  refine wpAny_mono (ht.run [] s1 (L2.start N vs) H _ J hq) (fun fl s' hs => ?_) fun _ _ z => z
  have z := body_end hs
  cases fl <;> exact z
section
variable {Y : Cx} {k : Nat} {dvs : List V} {ds : List Value} {E : XK} {x : Str} {p pos : Pos} {e : Expr} {es : List Expr} {t : TA}
theorem run_g {pins : List (Addr × Obj)} {σ : L2.St} {H : Hp} {s : Shared} {Q : VK} {us : List Value} {vs : List V} {ar : Args} (F : FnG Y.prog Y.w Y.K Y.mg Y.base CX k f fd ps sp) (r : Room k Y.A) (g : Y.A.guards = some []) (ex : Passes CX Y E)
    (I : Inv Y pins σ H s) (bd : BindsTo s fd ar (ps.zip us)) (rv : Vals vs us) (h : sp vs H Q E) : wpAny (model Y.prog Y.w) Y.A (call (.ref f) ar.pos ar.kw) (EP Y pins σ Q) Y.xe s := by
  refine wpAny_call (codeAny_mono (F.go Y.A Y.stack s H ar us vs Q E r g I.env0 bd rv h) fun res s' z => ?_)
  match res, z with
  | .ok (.ret u), z => exact I.after z
  | .ok .next, z => exact False.elim z
  | .ok .brk, z => exact False.elim z
  | .ok .cont, z => exact False.elim z
  | .error e, z => exact ex pins σ H s e s' I z
theorem pe_g (F : FnG Y.prog Y.w Y.K Y.mg Y.base CX k f fd ps sp) (r : Room k Y.A) (g : Y.A.guards = some []) (hg : Gl Y x) (hm : Y.mg x = some (.ref f)) (hk : PySem.W.keepIn Y.K (.ref f) = true) (hb : Binds Y.K fd ps ds) (hd : Vals dvs ds) (ex : Passes CX Y E)
    (ha : PA Y (e :: es) t) (hdb : (x == ("__debug__" : Str)) = false := by decide) (he : starEach (e :: es) Y.env = (false, eval e Y.env) :: starEach es Y.env := by rfl) (hpl : (backTo pos (starEach es Y.env)).any (·.1) = false := by rfl) :
    PE Y (.Call (.Name x p) (e :: es) [] pos) (tCall sp dvs E t) := by
  constructor
  intro pins s σ H Q I h
  refine wpAny_Call_Name_kw (ld_glob I hg hm ?_ hdb)
  refine PySem.W.callWith_K (h₀ := Y.base) I.ok.mod.kin hk (thn (ha.run pos pins s σ H _ I h) fun us s1 z => ?_) he hpl
  obtain ⟨vs, H1, I1, rv, q⟩ := z
  have r2 : Vals (vs ++ dvs) (us ++ ds) := rv.append hd
  exact ⟨I1.kIn, run_g (ar := ⟨us, []⟩) F r g ex I1 (hb s1 us I1.kIn (by rw [← r2.length]; exact F.ln _ _ _ _ q)) r2 q⟩
end
end
/-! ### the law's own call -/
section
variable {P : Program} {w : World} {K : PySem.W.Frag} {mg mb : Str → Option Value} {k : Nat} {fa a : Addr} {fd : FuncData} {x : Str} {sp : Sp} {s₁ : Shared} {vs : List Value} {ns : List Int}
/-- what is behind the call of a law -/
def LawEnd (s₁ : Shared) (r : Result) (s' : Shared) : Prop := r = .ok (.ret (.bool true)) ∧ OldK s₁.heap s'.heap ∧ s'.os = s₁.os ∧ AllBare s'.gens
theorem law_core (KX : K.In s₁.heap) (hns : s₁.heap.Ns mainGlobals mg) (hb : s₁.heap.Ns builtinsNs mb) (hbb : ∀ y : Str, y ≠ "__name__" → mb y = bootBuiltins y) (lim : s₁.heap.NoLimit) (hg : s₁.gens = #[])
    (ha : s₁.heap.get? a = some { cls := .type "list", data := .seq vs.toArray }) (r : Room k callerA)
    (F : ∀ base : Heap, K.In base → base.Ns mainGlobals mg → FnG P w K mg base CX0 k fa fd [x] sp) (bd : ∀ (s : Shared) (u : Value), BindsTo s fd ⟨[u], []⟩ [(x, u)])
    {H : Hp} (hO : Only H) (hs : sp [.ref a] H (fun v _ => v = .bl true) fun _ _ _ => False) (ok : HOk P w H s₁.heap) (hA : ∀ b, H b ≠ none → b = a) (hK : H a ≠ none → K.lookup a = none) :
    codeAny (model P w) callerA (.call (.ref fa) ⟨[.ref a], []⟩) (LawEnd s₁) s₁ := by
  -- a place of the written part, a place with a dict: neither is tracked
  have freeK : ∀ {b : Addr} {o : Obj}, K.lookup b = some o → H b = none := by
    intro b o e
    refine Classical.byContradiction fun z => ?_
    have q := hA b z
    subst q
    rw [hK z] at e
    cases e
  have freeD : ∀ {b : Addr} {o : Obj} {es : Array DictEntry} {ep : Nat}, s₁.heap.get? b = some o → o.data = .dict es ep → H b = none := by
    intro b o es ep e d
    refine Classical.byContradiction fun z => ?_
    have q := hA b z
    subst q
    rw [ha] at e
    cases e
    cases (show Data.seq vs.toArray _ = Data.dict es ep from d)
  have bNs : ∀ {b : Addr} {m : Str → Option Value}, s₁.heap.Ns b m → (hidT s₁.heap H).Ns b m := by
    rintro b m ⟨o, es, ep, e, d, z⟩
    exact ⟨o, es, ep, hidT_get e (freeD e d), d, z⟩
  have bK : K.In (hidT s₁.heap H) := fun b o e => hidT_get (KX b o e) (freeK e)
  have md : Mod K mg (hidT s₁.heap H) := by
    obtain ⟨mc, l1, l2⟩ := lim
    exact ⟨bK, bNs hns, ⟨mb, bNs hb, hbb⟩, mc, bNs l1, l2⟩
  have e0 : Env0 P w K mg (hidT s₁.heap H) callerA [] s₁ H :=
    { frames := rfl, mod := md, bs := fun b o e => of_hidT e, bsz := Nat.le_of_eq (hidT_size _ _), funs := trivial, frf := (fun b z => nomatch z), hok := ok, bare := .of_eq hg }
  refine codeAny_mono ((F _ bK (bNs hns)).go callerA [] s₁ H ⟨[.ref a], []⟩ [.ref a] [.ref a] _ _ r rfl e0 (bd s₁ (.ref a)) (.cons rfl .nil) hs) fun res s' z => ?_
  match res, z with
  | .ok .next, z => exact False.elim z
  | .ok .brk, z => exact False.elim z
  | .ok .cont, z => exact False.elim z
  | .error e, z => exact False.elim z
  | .ok (.ret u), z =>
    obtain ⟨v, H', os, br, un, ok', rv, q⟩ := z
    rw [show v = V.bl true from q] at rv
    rw [show u = Value.bool true from rv]
    refine ⟨rfl, OldK.of_keep fun b o e => ?_, os, br⟩
    rcases hO b with z | ⟨ob, xs, z⟩
    · exact un.keep b o e z (fun y => (nomatch y)) (fun y => (nomatch y))
    · have h1 := (ok b _ z).1
      have h2 := (ok' b _ (un.frzs b ob _ z)).1
      rw [e] at h1
      cases h1
      exact h2
theorem law_g (KX : K.In s₁.heap) (hns : s₁.heap.Ns mainGlobals mg) (hb : s₁.heap.Ns builtinsNs mb) (hbb : ∀ y : Str, y ≠ "__name__" → mb y = bootBuiltins y) (lim : s₁.heap.NoLimit) (hg : s₁.gens = #[])
    (ha : s₁.heap.get? a = some { cls := .type "list", data := .seq vs.toArray }) (hi : IntsAre vs ns) (hl : ns.length ≤ sizeLine) (r : Room k callerA)
    (F : ∀ base : Heap, K.In base → base.Ns mainGlobals mg → FnG P w K mg base CX0 k fa fd [x] sp) (bd : ∀ (s : Shared) (u : Value), BindsTo s fd ⟨[u], []⟩ [(x, u)])
    (hs : ∀ H : Hp, Only H → SqL K H a (ns.map V.int) → sp [.ref a] H (fun v _ => v = .bl true) fun _ _ _ => False) :
    codeAny (model P w) callerA (.call (.ref fa) ⟨[.ref a], []⟩) (LawEnd s₁) s₁ := by
  have rv := vals_ints hi
  cases hk : K.lookup a with
  | some o =>
    have e := KX a o hk
    rw [ha] at e
    cases e
    have hO : Only fun _ => none := fun _ => Or.inl rfl
    refine law_core KX hns hb hbb lim hg ha r F bd hO (hs _ hO (Or.inr ⟨_, vs.toArray, _, hk, rfl, rfl, rfl, ?_, ?_⟩)) (fun b u z => nomatch z) (fun b z => absurd rfl z) fun z => absurd rfl z
    · rw [List.size_toArray, hi.length]
      exact hl
    · simpa using rv
  | none =>
    let H : Hp := fun b => if b = a then some (.frz { cls := .type "list", data := .seq vs.toArray } (.lst (ns.map V.int))) else none
    have at_ : H a = some (.frz { cls := .type "list", data := .seq vs.toArray } (.lst (ns.map V.int))) := if_pos rfl
    have off : ∀ {b}, b ≠ a → H b = none := fun n => if_neg n
    have hO : Only H := fun b => if e : b = a then Or.inr ⟨_, _, e ▸ at_⟩ else Or.inl (off e)
    refine law_core KX hns hb hbb lim hg ha r F bd hO (hs _ hO (Or.inl (Or.inr ⟨_, at_⟩))) (fun b u z => ?_) (fun b z => Classical.byContradiction fun n => z (off n)) fun _ => hk
    by_cases e : b = a
    · subst e
      rw [at_] at z
      cases z
      exact ⟨ha, by rw [List.length_map]; exact hl, vs, _, rv, ha⟩
    · rw [off e] at z
      cases z
theorem walk_g {l : PySem.W.OpenLaw} {n : Nat} {q : Program} {loose : List Str} {XP : (Str → Option Value) → Heap → Prop} {YP : World → Heap → Prop} {d : DefRec} {K : Params → PySem.W.Frag} {sp : World → PySem.W.Frag → Sp}
    (hn : l.most = some n) (hn2 : n ≤ sizeLine) (hdf : d.params.defaults = []) (r : Room k callerA) (hY : ∀ (w : World) (h : Heap), YP w h → (K w.params).In h)
    (F : ∀ (w : World) (mg : Str → Option Value) (fa : Addr) (h : Heap), (K w.params).In h → h.Ns mainGlobals mg → mg d.name = some (.ref fa) →
      ∃ fd : FuncData, (∀ (s : Shared) (u : Value), BindsTo s fd ⟨[u], []⟩ [(x, u)]) ∧ ∀ base : Heap, (K w.params).In base → base.Ns mainGlobals mg → FnG l.prog w (K w.params) mg base CX0 k fa fd [x] (sp w (K w.params)))
    (hs : ∀ (w : World) (K : PySem.W.Frag) (H : Hp) (a : Addr) (ns : List Int), ns.length ≤ n → Only H → SqL K H a (ns.map V.int) → sp w K [.ref a] H (fun v _ => v = .bl true) fun _ _ _ => False) :
    PySem.W.WalkO q loose XP YP l.row.toRowW d [] (fun f vs => PySem.call f vs) := by
  refine Att.attach_call hn hdf fun w s₀ s₁ mg mb fa o pm cd doc a vs ns G Y ho hd hcd hmg hobj hi hlen hg => ?_
  obtain ⟨fd, b, hF⟩ := F w mg fa _ (hY w _ Y) G.T.g hmg
  exact law_g (hY w _ Y) G.T.g G.T.b G.T.builtins G.T.nolimit hg hobj hi (Nat.le_trans hlen hn2) r hF b fun H hO hS => hs w _ H a ns hlen hO hS
end
end Z
end
section
set_option Elab.async false
set_option linter.all false
set_option maxRecDepth 100000
set_option maxHeartbeats 2000000
namespace Z
open PySem L2
open Evl (Ex)
section
variable {P : Par} {C C' C'' : Fr} {s : Sl} {p : Pen} {σ σ' : L2.St} {H H' H'' : Hp}
theorem Go.refl : Go P C C H H := ⟨rfl, rfl, Evl.Ex.refl _⟩
theorem Go.trans (a : Go P C C' H H') (b : Go P C' C'' H' H'') : Go P C C'' H H'' := ⟨b.h0.trans a.h0, b.ob.trans a.ob, a.fz.trans b.fz⟩
theorem Rel.go (r : Rel P C s p σ H) (k : Keep P H H') : Go P C C H H' := ⟨rfl, rfl, r.fz k⟩
theorem Lands.back {o : Out} {s' : Sl} {p' : Pen} {E : Ends} (g : Go P C C' H H') (l : Lands P C H o s' p' E) : Lands P C' H' o s' p' E := by
  cases o with
  | nx => exact fun C2 σ2 H2 r2 g2 => l C2 σ2 H2 r2 (g.trans g2)
  | bk => exact fun C2 σ2 H2 r2 g2 => l C2 σ2 H2 r2 (g.trans g2)
  | ct => exact fun C2 σ2 H2 r2 g2 => l C2 σ2 H2 r2 (g.trans g2)
  | rt d =>
    intro v H2 k q rv
    refine l v H2 (by rw [← g.h0]; exact k) q ?_
    rw [← g.ob]
    exact rv
theorem set_get {α : Type} {l : List α} {i j : Nat} {x y : α} (h : (l.set i x)[j]? = some y) : (j = i ∧ y = x ∧ i < l.length) ∨ (j ≠ i ∧ l[j]? = some y) := by
  by_cases e : i = j
  · subst e
    by_cases hl : i < l.length
    · rw [List.getElem?_set_self hl] at h
      exact .inl ⟨rfl, (Option.some.inj h).symm, hl⟩
    · rw [List.getElem?_eq_none (by rw [List.length_set]; omega)] at h
      cases h
  · rw [List.getElem?_set_ne e] at h
    exact .inr ⟨fun z => e z.symm, h⟩
/-- a slot gets data -/
theorem Rel.set (r : Rel P C s p σ H) (i : Nat) {d : D} {v : V} (rv : Rv P (hid C.O H) d v) : Rel P C (s.set i (.im d)) p (σ.set i (some v)) H where
  len := by rw [List.length_set, List.length_set]; exact r.len
  pa := r.pa
  ca := r.ca
  ca0 := r.ca0
  pen := r.pen
  dom := r.dom
  dom0 := r.dom0
  base := r.base
  sub := r.sub
  im := fun j e h => by
    rcases set_get h with ⟨rfl, e1, hl⟩ | ⟨hn, h⟩
    · cases e1
      exact ⟨v, List.getElem?_set_self (by rw [r.len]; exact hl), rv⟩
    · obtain ⟨u, h1, h2⟩ := r.im j e h
      exact ⟨u, by rw [List.getElem?_set_ne (Ne.symm hn)]; exact h1, h2⟩
  ow := fun j ds h => by
    rcases set_get h with ⟨_, e1, _⟩ | ⟨hn, h⟩
    · cases e1
    · obtain ⟨l, vs, h1, h2⟩ := r.ow j ds h
      exact ⟨l, vs, by rw [List.getElem?_set_ne (Ne.symm hn)]; exact h1, h2⟩
  inj := fun j k ds es l h1 h2 h3 h4 => by
    rcases set_get h1 with ⟨_, e1, _⟩ | ⟨hn, h1⟩
    · cases e1
    · rcases set_get h2 with ⟨_, e1, _⟩ | ⟨hm, h2⟩
      · cases e1
      · rw [List.getElem?_set_ne (Ne.symm hn)] at h3
        rw [List.getElem?_set_ne (Ne.symm hm)] at h4
        exact r.inj j k ds es l h1 h2 h3 h4
/-- a slot gets a new list of this call's own -/
theorem Rel.setOw (r : Rel P C s p σ H) (i : Nat) {a : Addr} {ds : List D} {vs : List V} (hn : H a = none) (k : Keep P H H') (q : PenAt P H' p) (ha : H' a = some (.lst vs)) (rv : Rvs P (hid (fun l => C.O l ∨ l = a) H') ds vs) :
    Rel P { C with O := fun l => C.O l ∨ l = a } (s.set i (.ow ds)) p (σ.set i (some (.ref a))) H' := by
  have r1 := r.keep k q
  have n0 : C.H0 a = none := by
    cases e : C.H0 a with
    | none => rfl
    | some o =>
      by_cases z : a = P.pa
      · subst z; rw [r.pen.2.1] at hn; cases hn
      · rw [r.base a o z e] at hn; cases hn
  have less : ∀ {K : Hp}, Ex (hid (fun l => C.O l ∨ l = a) K) (hid C.O K) := fz_less fun _ z => .inl z
  have na : ∀ l, C.O l → l ≠ a := fun l z e => r.free hn (e ▸ z)
  -- what was known does not lean on the new list
  have up : Ex (hid C.O H) (hid (fun l => C.O l ∨ l = a) H') := fun b o e => by
    obtain ⟨e1, e2⟩ := fz_some.mp e
    refine fz_some.mpr ⟨fun z => ?_, k b o (fun z => e1 (z ▸ r.paO)) e2⟩
    rcases z with z | z
    · exact e1 z
    · subst z; rw [hn] at e2; cases e2
  exact
    { len := by rw [List.length_set, List.length_set]; exact r.len
      pa := r.pa, ca := (fun z => z.elim r.ca fun e => by have q := r.pen.2.2; rw [e, hn] at q; cases q), ca0 := r.ca0, pen := q
      dom := fun l hl => by
        rcases hl with hl | hl
        · exact r1.dom l hl
        · subst hl; exact ⟨_, ha⟩
      dom0 := r.dom0, base := r1.base, sub := fun l hl => .inl (r.sub l hl)
      im := fun j e h => by
        rcases set_get h with ⟨_, e1, _⟩ | ⟨hne, h⟩
        · cases e1
        · obtain ⟨u, h1, h2⟩ := r.im j e h
          exact ⟨u, by rw [List.getElem?_set_ne (Ne.symm hne)]; exact h1, Rv.ex up e u h2⟩
      ow := fun j es h => by
        rcases set_get h with ⟨rfl, e1, hl⟩ | ⟨hne, h⟩
        · cases e1
          exact ⟨a, vs, List.getElem?_set_self (by rw [r.len]; exact hl), .inr rfl, n0, ha, rv⟩
        · obtain ⟨l, ws, h1, h2, h3, h4, h5⟩ := r.ow j es h
          exact ⟨l, ws, by rw [List.getElem?_set_ne (Ne.symm hne)]; exact h1, .inl h2, h3, k l _ (r.npa h3) h4, Rvs.ex up es ws h5⟩
      inj := fun j m es fs l h1 h2 h3 h4 => by
        rcases set_get h1 with ⟨rfl, e1, hl1⟩ | ⟨hn1, h1'⟩
        · rcases set_get h2 with ⟨rfl, _, _⟩ | ⟨hn2, h2⟩
          · rfl
          · rw [List.getElem?_set_self (by rw [r.len]; exact hl1)] at h3
            rw [List.getElem?_set_ne (Ne.symm hn2)] at h4
            obtain ⟨l2, _, g1, g2, _⟩ := r.ow m fs h2
            rw [g1] at h4
            cases h3
            cases h4
            exact absurd rfl (na _ g2)
        · rcases set_get h2 with ⟨rfl, e1, hl2⟩ | ⟨hn2, h2'⟩
          · rw [List.getElem?_set_self (by rw [r.len]; exact hl2)] at h4
            rw [List.getElem?_set_ne (Ne.symm hn1)] at h3
            obtain ⟨l2, _, g1, g2, _⟩ := r.ow j es h1'
            rw [g1] at h3
            cases h3
            cases h4
            exact absurd rfl (na _ g2)
          · rw [List.getElem?_set_ne (Ne.symm hn1)] at h3
            rw [List.getElem?_set_ne (Ne.symm hn2)] at h4
            exact r.inj j m es fs l h1' h2' h3 h4 }
theorem Rel.goOw (r : Rel P C s p σ H) {a : Addr} (hn : H a = none) (k : Keep P H H') : Go P C { C with O := fun l => C.O l ∨ l = a } H H' := ⟨rfl, rfl, fun b o e => by
    obtain ⟨e1, e2⟩ := fz_some.mp e
    refine fz_some.mpr ⟨fun z => ?_, k b o (fun z => e1 (z ▸ r.paO)) e2⟩
    rcases z with z | z
    · exact e1 z
    · subst z; rw [hn] at e2; cases e2⟩
/-- an own list changes -/
theorem Rel.chg (r : Rel P C s p σ H) {i : Nat} {ds es : List D} {l : Addr} {vs ws : List V} (hi : s[i]? = some (.ow ds)) (hl : σ[i]? = some (some (.ref l))) (ho : C.O l) (h0 : C.H0 l = none) (hv : H l = some (.lst vs)) (rv : Rvs P (hid C.O H) es ws) :
    Rel P C (s.set i (.ow es)) p σ (upd H l (.lst ws)) ∧ Go P C C H (upd H l (.lst ws)) := by
  have up : Ex (hid C.O H) (hid C.O (upd H l (.lst ws))) := fun b o e => by
    obtain ⟨e1, e2⟩ := fz_some.mp e
    exact fz_some.mpr ⟨e1, by rw [upd_ne (fun z => e1 (by rw [z]; exact ho))]; exact e2⟩
  have npa := r.npa h0
  have nca := r.nca h0
  refine ⟨?_, rfl, rfl, up⟩
  exact
    { len := by rw [List.length_set]; exact r.len
      pa := r.pa, ca := r.ca, ca0 := r.ca0
      pen := ⟨r.pen.1, by rw [upd_ne npa.symm]; exact r.pen.2.1, by rw [upd_ne nca.symm]; exact r.pen.2.2⟩
      dom := fun b hb => by
        by_cases z : b = l
        · subst z; exact ⟨_, upd_same⟩
        · rw [upd_ne z]; exact r.dom b hb
      dom0 := r.dom0
      base := fun b o n e => by
        rw [upd_ne (fun z => by subst z; rw [h0] at e; cases e)]
        exact r.base b o n e
      sub := r.sub
      im := fun j e h => by
        rcases set_get h with ⟨_, e1, _⟩ | ⟨hne, h⟩
        · cases e1
        · obtain ⟨u, h1, h2⟩ := r.im j e h
          exact ⟨u, h1, Rv.ex up e u h2⟩
      ow := fun j fs h => by
        rcases set_get h with ⟨rfl, e1, _⟩ | ⟨hne, h⟩
        · cases e1
          exact ⟨l, ws, hl, ho, h0, upd_same, Rvs.ex up _ ws rv⟩
        · obtain ⟨l2, us, h1, h2, h3, h4, h5⟩ := r.ow j fs h
          have nl : l2 ≠ l := fun z => hne (r.inj j i fs ds l h hi (z ▸ h1) hl)
          exact ⟨l2, us, h1, h2, h3, by rw [upd_ne nl]; exact h4, Rvs.ex up fs us h5⟩
      inj := fun j m es' fs l' h1 h2 h3 h4 => by
        have a1 : ∃ q, s[j]? = some (SD.ow q) := by
          rcases set_get h1 with ⟨rfl, _, _⟩ | ⟨_, h1⟩
          · exact ⟨_, hi⟩
          · exact ⟨_, h1⟩
        have a2 : ∃ q, s[m]? = some (SD.ow q) := by
          rcases set_get h2 with ⟨rfl, _, _⟩ | ⟨_, h2⟩
          · exact ⟨_, hi⟩
          · exact ⟨_, h2⟩
        obtain ⟨q1, a1⟩ := a1
        obtain ⟨q2, a2⟩ := a2
        exact r.inj j m q1 q2 l' a1 a2 h3 h4 }
def frzS (i : Nat) (s : Sl) : Sl := match s[i]? with
  | some (.ow ds) => s.set i (.im (.lst ds))
  | _ => s
/-- an own list is given away -/
theorem Rel.frz (r : Rel P C s p σ H) (i : Nat) : ∃ C', Rel P C' (frzS i s) p σ H ∧ Go P C C' H H := by
  unfold frzS
  cases hi : s[i]? with
  | none => exact ⟨C, r, .refl⟩
  | some z =>
    cases z with
    | un => exact ⟨C, r, .refl⟩
    | im d => exact ⟨C, r, .refl⟩
    | ow ds =>
      obtain ⟨l, vs, hl, ho, h0, hv, rv⟩ := r.ow i ds hi
      have less : Ex (hid C.O H) (hid (fun a => C.O a ∧ a ≠ l) H) := fz_less fun _ z => z.1
      refine ⟨{ C with O := fun a => C.O a ∧ a ≠ l }, ?_, rfl, rfl, less⟩
      exact
        { len := by rw [List.length_set]; exact r.len
          pa := r.pa, ca := (fun z => r.ca z.1), ca0 := r.ca0, pen := r.pen
          dom := fun b hb => r.dom b hb.1
          dom0 := r.dom0, base := r.base
          sub := fun b hb => ⟨r.sub b hb, fun z => r.nob h0 (z ▸ hb)⟩
          im := fun j e h => by
            rcases set_get h with ⟨rfl, e1, _⟩ | ⟨hne, h⟩
            · cases e1
              exact ⟨.ref l, hl, l, vs, rfl, fz_some.mpr ⟨fun z => z.2 rfl, hv⟩, Rvs.ex less ds vs rv⟩
            · obtain ⟨u, h1, h2⟩ := r.im j e h
              exact ⟨u, h1, Rv.ex less e u h2⟩
          ow := fun j es h => by
            rcases set_get h with ⟨_, e1, _⟩ | ⟨hne, h⟩
            · cases e1
            · obtain ⟨l2, us, h1, h2, h3, h4, h5⟩ := r.ow j es h
              exact ⟨l2, us, h1, ⟨h2, fun z => hne (r.inj j i es ds l h hi (z ▸ h1) hl)⟩, h3, h4, Rvs.ex less es us h5⟩
          inj := fun j m es fs l' h1 h2 h3 h4 => by
            rcases set_get h1 with ⟨_, e1, _⟩ | ⟨_, h1⟩
            · cases e1
            · rcases set_get h2 with ⟨_, e1, _⟩ | ⟨_, h2⟩
              · cases e1
              · exact r.inj j m es fs l' h1 h2 h3 h4 }
/-- slots are forgotten -/
def wipeS (s : Sl) : List Nat → Sl
  | [] => s
  | v :: vs => (wipeS s vs).set v .un
theorem Rel.forget (r : Rel P C s p σ H) (i : Nat) : Rel P C (s.set i .un) p (σ.set i none) H where
  len := by rw [List.length_set, List.length_set]; exact r.len
  pa := r.pa
  ca := r.ca
  ca0 := r.ca0
  pen := r.pen
  dom := r.dom
  dom0 := r.dom0
  base := r.base
  sub := r.sub
  im := fun j e h => by
    rcases set_get h with ⟨_, e1, _⟩ | ⟨hn, h⟩
    · cases e1
    · obtain ⟨u, h1, h2⟩ := r.im j e h
      exact ⟨u, by rw [List.getElem?_set_ne (Ne.symm hn)]; exact h1, h2⟩
  ow := fun j ds h => by
    rcases set_get h with ⟨_, e1, _⟩ | ⟨hn, h⟩
    · cases e1
    · obtain ⟨l, vs, h1, h2⟩ := r.ow j ds h
      exact ⟨l, vs, by rw [List.getElem?_set_ne (Ne.symm hn)]; exact h1, h2⟩
  inj := fun j k ds es l h1 h2 h3 h4 => by
    rcases set_get h1 with ⟨_, e1, _⟩ | ⟨hn, h1⟩
    · cases e1
    · rcases set_get h2 with ⟨_, e1, _⟩ | ⟨hm, h2⟩
      · cases e1
      · rw [List.getElem?_set_ne (Ne.symm hn)] at h3
        rw [List.getElem?_set_ne (Ne.symm hm)] at h4
        exact r.inj j k ds es l h1 h2 h3 h4
theorem Rel.wipe (r : Rel P C s p σ H) : ∀ vs : List Nat, Rel P C (wipeS s vs) p (L2.wipe σ vs) H
  | [] => r
  | v :: vs => Rel.forget (Rel.wipe r vs) v
theorem wipe_get (σ : L2.St) (i : Nat) : ∀ vs : List Nat, (L2.wipe σ vs)[i]? = if i ∈ vs ∧ i < σ.length then some none else σ[i]?
  | [] => by simp [L2.wipe]
  | v :: vs => by
    show ((L2.wipe σ vs).set v none)[i]? = _
    by_cases e : v = i
    · subst e
      by_cases hl : v < σ.length
      · rw [List.getElem?_set_self (by rw [wipe_length]; exact hl), if_pos ⟨List.mem_cons_self, hl⟩]
      · rw [if_neg (fun z => hl z.2), List.getElem?_eq_none (by rw [List.length_set, wipe_length]; omega), List.getElem?_eq_none (by omega)]
    · rw [List.getElem?_set_ne e, wipe_get σ i vs]
      have : (i ∈ v :: vs ∧ i < σ.length) ↔ (i ∈ vs ∧ i < σ.length) := by
        rw [List.mem_cons]
        exact ⟨fun ⟨a, b⟩ => ⟨a.resolve_left (Ne.symm e), b⟩, fun ⟨a, b⟩ => ⟨.inr a, b⟩⟩
      simp only [this]
theorem Off.wipe {vs : List Nat} (o : Off vs (L2.wipe σ vs) σ') : L2.wipe σ' vs = L2.wipe σ vs := by
  refine List.ext_getElem? fun i => ?_
  rw [wipe_get, wipe_get]
  have hl : σ'.length = σ.length := by rw [o.1, wipe_length]
  by_cases hi : i ∈ vs
  · by_cases hlt : i < σ.length
    · rw [if_pos ⟨hi, by omega⟩, if_pos ⟨hi, hlt⟩]
    · rw [if_neg (fun z => hlt (by have := z.2; omega)), if_neg (fun z => hlt z.2), List.getElem?_eq_none (by omega), List.getElem?_eq_none (by omega)]
  · rw [if_neg (fun z => hi z.1), if_neg (fun z => hi z.1), o.2 i hi, wipe_get, if_neg (fun z => hi z.1)]
theorem Off.refl {js : List Nat} : Off js σ σ := ⟨rfl, fun _ _ => rfl⟩
theorem Off.set {i : Nat} {v : Option V} : Off [i] σ (σ.set i v) := ⟨List.length_set, fun j hj => List.getElem?_set_ne (fun z => hj (by rw [← z]; exact List.mem_singleton.mpr rfl))⟩
theorem Off.app {js ks : List Nat} {σ2 : L2.St} (a : Off js σ σ') (b : Off ks σ' σ2) : Off (js ++ ks) σ σ2 := ⟨b.1.trans a.1, fun i hi => by
  rw [List.mem_append, not_or] at hi
  rw [b.2 i hi.2, a.2 i hi.1]⟩
end

/-! ### targets -/
section
variable {P : Par}
def tgN (i : Nat) : D → Sl → Option Sl := fun d s => some (s.set i (.im d))
theorem jg_name (i : Nat) : JG P (gName i) [i] (tgN i) := fun C s p σ H r d v rv s' e Q q => by
  cases e
  exact q _ (r.set i rv) Off.set
def tgNil : List D → Sl → Option Sl
  | [], s => some s
  | _ :: _, _ => none
def tgCons (f : D → Sl → Option Sl) (g : List D → Sl → Option Sl) : List D → Sl → Option Sl
  | [], _ => none
  | d :: ds, s => (f d s).bind (g ds)
theorem jgs_nil : JGs P gNil [] tgNil := fun C s p σ H r ds vs rv s' e Q q => by
  cases ds with
  | nil =>
    cases e
    exact ⟨rv, q _ r Off.refl⟩
  | cons d ds => cases e
theorem jgs_cons {t : TG} {u : TGs} {js ks : List Nat} {f : D → Sl → Option Sl} {g : List D → Sl → Option Sl} (h : JG P t js f) (k : JGs P u ks g) : JGs P (gCons t u) (js ++ ks) (tgCons f g) := fun C s p σ H r ds vs rv s' e Q q => by
  cases ds with
  | nil => cases e
  | cons d ds =>
    obtain ⟨v, ws, rfl, r1, r2⟩ := rv
    have e : (f d s).bind (g ds) = some s' := e
    cases e1 : f d s with
    | none => rw [e1] at e; cases e
    | some s1 =>
      rw [e1] at e
      exact ⟨v, ws, rfl, h C s p σ H r d v r1 s1 e1 _ fun σ1 a1 o1 => k C s1 p σ1 H a1 ds ws r2 s' e Q fun σ2 a2 o2 => q σ2 a2 (o1.app o2)⟩
def tgTup (n : Nat) (g : List D → Sl → Option Sl) : D → Sl → Option Sl
  | .tup ds, s => if ds.length = n then g ds s else none
  | _, _ => none
theorem jg_tup {u : TGs} {n : Nat} {js : List Nat} {g : List D → Sl → Option Sl} (k : JGs P u js g) : JG P (gTup P.K n u) js (tgTup n g) := fun C s p σ H r d v rv s' e Q q => by
  cases d <;> first | cases e | skip
  rename_i ds
  unfold tgTup at e
  dsimp only at e
  split at e
  · rename_i hn
    obtain ⟨a, vs, rfl, h1, h2⟩ := rv
    exact ⟨a, vs, rfl, sqt_ex fz_up h1, by rw [h2.len, hn], k C s p σ H r ds vs h2 s' e Q q⟩
  · cases e
end

/-! ### statements -/
section
variable {P : Par} {ta tb te tc : TE} {fa fb fc : Sl → M D} {tt tu : TT} {ft fu : Sl → M Bool} {t1 t2 : TS} {g1 g2 : Sl → M (Out × Sl)} {tg : TG} {js : List Nat} {ft' : D → Sl → Option Sl}
def sNx : Sl → M (Out × Sl) := fun s => M.pure (.nx, s)
theorem js_nil : JS P tNext sNx := fun C s p σ H r o s' p' e E l => by
  cases e
  exact l C σ H r .refl
def sSeq (g1 g2 : Sl → M (Out × Sl)) : Sl → M (Out × Sl) := fun s => (g1 s).bind fun r => match r.1 with
  | .nx => g2 r.2
  | o => M.pure (o, r.2)
theorem js_seq (h1 : JS P t1 g1) (h2 : JS P t2 g2) : JS P (tSeq t1 t2) (sSeq g1 g2) := fun C s p σ H r o s' p' e E l => by
  obtain ⟨⟨o1, s1⟩, p1, e1, e2⟩ := M.bind_ok e
  refine h1 C s p σ H r o1 s1 p1 e1 { E with nx := t2 E } ?_
  cases o1 with
  | nx => exact fun C1 σ1 H1 r1 go => h2 C1 s1 p1 σ1 H1 r1 o s' p' e2 E (l.back go)
  | rt d => cases e2; exact l
  | bk => cases e2; exact l
  | ct => cases e2; exact l
def sRet (f : Sl → M D) : Sl → M (Out × Sl) := fun s => (f s).bind fun d => M.pure (.rt d, s)
theorem js_ret (h : JE P te fa) : JS P (tRet te) (sRet fa) := fun C s p σ H r o s' p' e E l => by
  obtain ⟨d, p1, e1, e2⟩ := M.bind_ok e
  cases e2
  exact h C s p σ H r d _ e1 _ fun v H1 k1 q1 r1 => l v H1 (r.base.trans k1) q1 (Rv.ex (fz_less r.sub) d v r1)
def sRetN : Sl → M (Out × Sl) := fun s => M.pure (.rt .non, s)
theorem js_retN : JS P tRetN sRetN := fun C s p σ H r o s' p' e E l => by
  cases e
  exact l .non H r.base r.pen rfl
def sIf (c : Sl → M Bool) (g1 g2 : Sl → M (Out × Sl)) : Sl → M (Out × Sl) := fun s => (c s).bind fun b => if b = true then g1 s else g2 s
theorem js_if (hc : JT P tt ft) (h1 : JS P t1 g1) (h2 : JS P t2 g2) : JS P (tIfS tt t1 t2) (sIf ft g1 g2) := fun C s p σ H r o s' p' e E l => by
  obtain ⟨b, p1, e1, e2⟩ := M.bind_ok e
  refine hc C s p σ H r b p1 e1 _ fun H1 k1 q1 => ?_
  have rl := r.keep k1 q1
  cases b with
  | true =>
    rw [if_pos rfl] at e2 ⊢
    exact h1 C s p1 σ H1 rl o s' p' e2 E (l.back (r.go k1))
  | false =>
    rw [if_neg Bool.false_ne_true] at e2 ⊢
    exact h2 C s p1 σ H1 rl o s' p' e2 E (l.back (r.go k1))
def sAsg (f : Sl → M D) (t : D → Sl → Option Sl) : Sl → M (Out × Sl) := fun s => (f s).bind fun d => (M.of (t d s)).bind fun s' => M.pure (.nx, s')
theorem js_asg (h : JE P te fa) (hg : JG P tg js ft') : JS P (tAsg te tg) (sAsg fa ft') := fun C s p σ H r o s' p' e E l => by
  obtain ⟨d, p1, e1, e2⟩ := M.bind_ok e
  obtain ⟨s1, p2, e3, e4⟩ := M.bind_ok e2
  obtain ⟨e5, rfl⟩ := M.of_ok e3
  cases e4
  refine h C s p σ H r d _ e1 _ fun v H1 k1 q1 r1 => ?_
  exact hg C s _ σ H1 (r.keep k1 q1) d v r1 s' e5 _ fun σ1 a1 _ => l C σ1 H1 a1 (r.go k1)
def sDrop (f : Sl → M D) : Sl → M (Out × Sl) := fun s => (f s).bind fun _ => M.pure (.nx, s)
theorem js_drop (h : JE P te fa) : JS P (tDrop te) (sDrop fa) := fun C s p σ H r o s' p' e E l => by
  obtain ⟨d, p1, e1, e2⟩ := M.bind_ok e
  cases e2
  exact h C s p σ H r d _ e1 _ fun v H1 k1 q1 _ => l C σ H1 (r.keep k1 q1) (r.go k1)
def sPar (i j : Nat) (f : Sl → M (List D)) : Sl → M (Out × Sl) := fun s => (f s).bind fun ds => match ds with
  | [a, b] => M.pure (.nx, (s.set i (.im a)).set j (.im b))
  | _ => M.no
theorem js_par {i j : Nat} {t : TA} {f : Sl → M (List D)} (h : JA P t f) : JS P (tPar i j t) (sPar i j f) := fun C s p σ H r o s' p' e E l => by
  obtain ⟨ds, p1, e1, e2⟩ := M.bind_ok e
  match ds, e1, e2 with
  | [a, b], e1, e2 =>
    cases e2
    refine h C s p σ H r _ _ e1 _ fun vs H1 k1 q1 r1 => ?_
    obtain ⟨v, r', rfl, x1, w, r'', rfl, x2, rfl⟩ := r1
    have rl := r.keep k1 q1
    exact ⟨v, w, rfl, l C _ H1 ((rl.set i x1).set j x2) (r.go k1)⟩
  | [], _, e2 => cases e2
  | [_], _, e2 => cases e2
  | _ :: _ :: _ :: _, _, e2 => cases e2
/-- a new list, of nobody else's -/
def JL (P : Par) (te : TE) (f : Sl → M (List D)) : Prop := ∀ C s p σ H, Rel P C s p σ H → ∀ ds p', f s p = .ok ds p' → ∀ Q : VK,
  (∀ a vs H', H a = none → Keep P H H' → PenAt P H' p' → H' a = some (.lst vs) → Rvs P (hid (fun l => C.O l ∨ l = a) H') ds vs → Q (.ref a) H') → te σ H Q
def eL (f : Sl → M (List D)) : Sl → M D := fun s => (f s).bind fun ds => M.pure (.lst ds)
theorem j_ofL {f : Sl → M (List D)} (h : JL P te f) : JE P te (eL f) := fun C s p σ H r d p' e Q q => by
  obtain ⟨ds, p1, e1, e2⟩ := M.bind_ok e
  cases e2
  exact h C s p σ H r ds _ e1 Q fun a vs H' hn k q' ha rv => q _ H' k q' ⟨a, vs, rfl, fz_some.mpr ⟨r.free hn, ha⟩, Rvs.ex (fz_less fun _ z => .inl z) ds vs rv⟩
def lLst (f : Sl → M (List D)) : Sl → M (List D) := fun s => (f s).bind fun ds => if sz ds.length = true then M.pure ds else M.no
theorem jl_lst {t : TA} {f : Sl → M (List D)} (h : JA P t f) : JL P (tLst t) (lLst f) := fun C s p σ H rl ds p' e Q q => by
  obtain ⟨es, p1, h1, e⟩ := M.bind_ok e
  split at e
  · rename_i hz
    cases e
    refine h C s p σ H rl _ _ h1 _ fun vs H1 k1 q1 r1 => ⟨by rw [r1.len]; exact sz_ok hz, fun a ha => ?_⟩
    have rl1 := rl.keep k1 q1
    have hH : H a = none := by
      cases z : H a with
      | none => rfl
      | some o =>
        by_cases y : a = P.pa
        · subst y; rw [q1.2.1] at ha; cases ha
        · rw [k1 a o y z] at ha; cases ha
    refine q a vs _ hH (k1.trans (.new ha)) (q1.keepNew ha) upd_same (Rvs.ex (fun b o e => ?_) _ vs r1)
    obtain ⟨e1, e2⟩ := fz_some.mp e
    refine fz_some.mpr ⟨fun z => ?_, Ex.new ha b o e2⟩
    rcases z with z | z
    · exact e1 z
    · subst z; rw [ha] at e2; cases e2
  · cases e
def sOwn (i : Nat) (f : Sl → M (List D)) : Sl → M (Out × Sl) := fun s => (f s).bind fun ds => M.pure (.nx, s.set i (.ow ds))
theorem js_own {i : Nat} {f : Sl → M (List D)} (h : JL P te f) : JS P (tAsg te (gName i)) (sOwn i f) := fun C s p σ H r o s' p' e E l => by
  obtain ⟨ds, p1, e1, e2⟩ := M.bind_ok e
  cases e2
  refine h C s p σ H r ds _ e1 _ fun a vs H' hn k q' ha rv => ?_
  have r' : Rel P C s p' σ H' := r.keep k q'
  -- from the state ahead, with the pen as it is behind
  have rp : Rel P { C with O := fun l => C.O l ∨ l = a } (s.set i (.ow ds)) p' (σ.set i (some (.ref a))) H' := by
    have z := r.setOw (H' := H') i (a := a) (ds := ds) (vs := vs) hn k
    have n0 : C.H0 a = none := by
      cases e : C.H0 a with
      | none => rfl
      | some o =>
        by_cases y : a = P.pa
        · subst y; rw [r.pen.2.1] at hn; cases hn
        · rw [r.base a o y e] at hn; cases hn
    have up := (r.goOw hn k).fz
    exact
      { len := by rw [List.length_set, List.length_set]; exact r.len
        pa := r.pa, ca := (fun z => z.elim r.ca fun e => by have q := r.pen.2.2; rw [e, hn] at q; cases q), ca0 := r.ca0, pen := q'
        dom := fun l hl => by
          rcases hl with hl | hl
          · exact r'.dom l hl
          · subst hl; exact ⟨_, ha⟩
        dom0 := r.dom0, base := r'.base, sub := fun l hl => .inl (r.sub l hl)
        im := fun j e h => by
          rcases set_get h with ⟨_, e1, _⟩ | ⟨hne, h⟩
          · cases e1
          · obtain ⟨u, h1, h2⟩ := r.im j e h
            exact ⟨u, by rw [List.getElem?_set_ne (Ne.symm hne)]; exact h1, Rv.ex up e u h2⟩
        ow := fun j es h => by
          rcases set_get h with ⟨rfl, e1, hl⟩ | ⟨hne, h⟩
          · cases e1
            exact ⟨a, vs, List.getElem?_set_self (by rw [r.len]; exact hl), .inr rfl, n0, ha, rv⟩
          · obtain ⟨l, ws, h1, h2, h3, h4, h5⟩ := r.ow j es h
            exact ⟨l, ws, by rw [List.getElem?_set_ne (Ne.symm hne)]; exact h1, .inl h2, h3, k l _ (r.npa h3) h4, Rvs.ex up es ws h5⟩
        inj := fun j m es fs l h1 h2 h3 h4 => by
          have na : ∀ l, C.O l → l ≠ a := fun l z e => r.free hn (e ▸ z)
          rcases set_get h1 with ⟨rfl, e1, hl1⟩ | ⟨hn1, h1'⟩
          · rcases set_get h2 with ⟨rfl, _, _⟩ | ⟨hn2, h2⟩
            · rfl
            · rw [List.getElem?_set_self (by rw [r.len]; exact hl1)] at h3
              rw [List.getElem?_set_ne (Ne.symm hn2)] at h4
              obtain ⟨l2, _, g1, g2, _⟩ := r.ow m fs h2
              rw [g1] at h4
              cases h3
              cases h4
              exact absurd rfl (na _ g2)
          · rcases set_get h2 with ⟨rfl, e1, hl2⟩ | ⟨hn2, h2'⟩
            · rw [List.getElem?_set_self (by rw [r.len]; exact hl2)] at h4
              rw [List.getElem?_set_ne (Ne.symm hn1)] at h3
              obtain ⟨l2, _, g1, g2, _⟩ := r.ow j es h1'
              rw [g1] at h3
              cases h3
              cases h4
              exact absurd rfl (na _ g2)
            · rw [List.getElem?_set_ne (Ne.symm hn1)] at h3
              rw [List.getElem?_set_ne (Ne.symm hn2)] at h4
              exact r.inj j m es fs l h1' h2' h3 h4 }
  exact l _ _ H' rp (r.goOw hn k)
/-- xs.append(e), xs an own list -/
def sApp (i : Nat) (f : Sl → M D) : Sl → M (Out × Sl) := fun s => (f s).bind fun d => match s[i]? with
  | some (.ow ds) => if sz (ds.length + 1) = true then M.pure (.nx, s.set i (.ow (ds ++ [d]))) else M.no
  | _ => M.no
theorem js_app {i : Nat} (h : JE P te fa) : JS P (tDrop (tBM P.K "list" rAppend (tVar i) (tCons te tNil))) (sApp i fa) := fun C s p σ H r o s' p' e E l => by
  obtain ⟨d, p1, e1, e2⟩ := M.bind_ok e
  cases hi : s[i]? with
  | none => rw [hi] at e2; cases e2
  | some z =>
    cases z with
    | un => rw [hi] at e2; cases e2
    | im d => rw [hi] at e2; cases e2
    | ow ds =>
      rw [hi] at e2
      dsimp only at e2
      split at e2
      · rename_i hz
        cases e2
        obtain ⟨a, vs, h1, h2, h3, h4, h5⟩ := r.ow i ds hi
        refine ⟨.ref a, h1, Or.inl ⟨rfl, vs, Evl.sq_of h4⟩, ?_⟩
        refine h C s p σ H r d _ e1 _ fun v H1 k1 q1 r1 => ?_
        have rl := r.keep k1 q1
        have h4' := k1 a _ (r.npa h3) h4
        refine ⟨a, vs, v, rfl, rfl, h4', by rw [h5.len]; have := of_decide_eq_true (show decide (ds.length + 1 ≤ 100000) = true from hz); exact Evl.sz_lt (by omega), ?_⟩
        obtain ⟨x1, x2⟩ := rl.chg hi h1 h2 h3 h4' ((Rvs.ex (r.fz k1) ds vs h5).app (Rvs.one r1))
        exact l C σ _ x1 ((r.go k1).trans x2)
      · cases e2
/-- an own list is given away ahead of a statement -/
theorem js_frz (i : Nat) (h : JS P t1 g1) : JS P t1 (fun s => g1 (frzS i s)) := fun C s p σ H r o s' p' e E l => by
  obtain ⟨C1, r1, go⟩ := r.frz i
  exact h C1 _ p σ H r1 o s' p' e E (l.back go)
/-! ### loops -/
def loopD (t : D → Sl → Option Sl) (g : Sl → M (Out × Sl)) : List D → Sl → M (Out × Sl)
  | [], s => M.pure (.nx, s)
  | d :: ds, s => (M.of (t d s)).bind fun s1 => (g s1).bind fun r => match r.1 with
    | .nx => loopD t g ds r.2
    | .ct => loopD t g ds r.2
    | .bk => M.pure (.nx, r.2)
    | .rt v => M.pure (.rt v, r.2)
/-- one turn -/
theorem loop_turn {C C1 : Fr} {s1 : Sl} {p1 : Pen} {σ1 : L2.St} {H H1 : Hp} {d : D} {ds : List D} {x : V} {o : Out} {sf : Sl} {pf : Pen} {E : Ends} {W : L2.St → Hp → Prop} (hg : JG P tg js ft') (hb : JS P t1 g1) (l : Lands P C H o sf pf E)
    (r1 : Rel P C1 s1 p1 σ1 H1) (go : Go P C C1 H H1) (rx : Rv P (hid C1.O H1) d x) (e : loopD ft' g1 (d :: ds) s1 p1 = .ok (o, sf) pf)
    (hW : ∀ C2 s2 p2 σ2 H2, Rel P C2 s2 p2 σ2 H2 → Go P C C2 H H2 → loopD ft' g1 ds s2 p2 = .ok (o, sf) pf → W σ2 H2) : tg x σ1 H1 fun σ2 H2 => t1 { E with nx := W, ct := W, bk := E.nx } σ2 H2 := by
  obtain ⟨s2, p2, e1, e2⟩ := M.bind_ok e
  obtain ⟨e3, rfl⟩ := M.of_ok e1
  obtain ⟨⟨o3, s3⟩, p3, e4, e5⟩ := M.bind_ok e2
  refine hg C1 s1 _ σ1 H1 r1 d x rx s2 e3 _ fun σ2 a2 _ => ?_
  refine hb C1 s2 _ σ2 H1 a2 o3 s3 p3 e4 _ ?_
  cases o3 with
  | nx => exact fun C4 σ4 H4 r4 g4 => hW C4 s3 p3 σ4 H4 r4 (go.trans g4) e5
  | ct => exact fun C4 σ4 H4 r4 g4 => hW C4 s3 p3 σ4 H4 r4 (go.trans g4) e5
  | bk =>
    cases e5
    exact fun C4 σ4 H4 r4 g4 => l C4 σ4 H4 r4 (go.trans g4)
  | rt v =>
    cases e5
    exact (l.back go)
def unL : D → Option (List D)
  | .lst ds => some ds
  | _ => none
def unT : D → Option (List D)
  | .tup ds => some ds
  | _ => none
def sForL (f : Sl → M D) (t : D → Sl → Option Sl) (g : Sl → M (Out × Sl)) : Sl → M (Out × Sl) := fun s => (f s).bind fun d => (M.of (unL d)).bind fun ds => loopD t g ds s
def sForT (f : Sl → M D) (t : D → Sl → Option Sl) (g : Sl → M (Out × Sl)) : Sl → M (Out × Sl) := fun s => (f s).bind fun d => (M.of (unT d)).bind fun ds => loopD t g ds s
theorem drop_at {α : Type} {l : List α} {i : Nat} {x : α} (h : l[i]? = some x) : l.drop i = x :: l.drop (i + 1) := by
  obtain ⟨hl, e⟩ := List.getElem?_eq_some_iff.mp h
  rw [← e]
  exact List.drop_eq_getElem_cons hl
theorem js_forL (ha : JE P te fa) (hg : JG P tg js ft') (hb : JS P t1 g1) : JS P (tFor (iList P.K te) tg t1) (sForL fa ft' g1) := fun C s p σ H r o sf pf e E l => by
  obtain ⟨d, p1, e1, e2⟩ := M.bind_ok e
  obtain ⟨ds, p2, e3, e4⟩ := M.bind_ok e2
  obtain ⟨e5, rfl⟩ := M.of_ok e3
  cases d <;> cases e5
  refine ha C s p σ H r _ _ e1 _ fun v H1 k1 q1 r1 => ?_
  obtain ⟨a, vs, rfl, h1, h2⟩ := r1
  have rl := r.keep k1 q1
  have go1 := r.go k1
  refine ⟨a, rfl, ⟨vs, Evl.sq_of (fz_some.mp h1).2⟩, for_list (xs := vs) (fun i σ' H' => ∃ C' s' p', Rel P C' s' p' σ' H' ∧ Go P C C' H1 H' ∧ loopD ft' g1 (ds.drop i) s' p' = .ok (o, sf) pf) ⟨C, s, _, rl, .refl, e4⟩ ?_ ?_ ?_⟩
  · rintro i σ' H' _ ⟨C', s', p', r', g', _⟩
    exact Evl.sq_of (fz_some.mp (g'.fz a _ h1)).2
  · rintro i x σ' H' hx ⟨C', s', p', r', g', e'⟩
    obtain ⟨dx, hd, rx⟩ := h2.getv hx
    rw [drop_at hd] at e'
    exact loop_turn hg hb (l.back go1) r' g' (Rv.ex g'.fz dx x rx) e' fun C2 s2 p2 σ2 H2 r2 g2 e2 => ⟨C2, s2, p2, r2, g2, e2⟩
  · rintro σ' H' ⟨C', s', p', r', g', e'⟩
    rw [List.drop_eq_nil_of_le (by rw [h2.len]; exact Nat.le_refl _)] at e'
    cases e'
    exact l C' σ' H' r' (go1.trans g')
theorem js_forT (ha : JE P te fa) (hg : JG P tg js ft') (hb : JS P t1 g1) : JS P (tFor (iTup P.K te) tg t1) (sForT fa ft' g1) := fun C s p σ H r o sf pf e E l => by
  obtain ⟨d, p1, e1, e2⟩ := M.bind_ok e
  obtain ⟨ds, p2, e3, e4⟩ := M.bind_ok e2
  obtain ⟨e5, rfl⟩ := M.of_ok e3
  cases d <;> cases e5
  refine ha C s p σ H r _ _ e1 _ fun v H1 k1 q1 r1 => ?_
  obtain ⟨a, vs, rfl, h1, h2⟩ := r1
  have rl := r.keep k1 q1
  have go1 := r.go k1
  refine ⟨a, rfl, ⟨vs, sqt_ex fz_up h1⟩, for_tup (xs := vs) (fun i σ' H' => ∃ C' s' p', Rel P C' s' p' σ' H' ∧ Go P C C' H1 H' ∧ loopD ft' g1 (ds.drop i) s' p' = .ok (o, sf) pf) ⟨C, s, _, rl, .refl, e4⟩ ?_ ?_ ?_⟩
  · rintro i σ' H' _ ⟨C', s', p', r', g', _⟩
    exact sqt_ex (g'.fz.trans fz_up) h1
  · rintro i x σ' H' hx ⟨C', s', p', r', g', e'⟩
    obtain ⟨dx, hd, rx⟩ := h2.getv hx
    rw [drop_at hd] at e'
    exact loop_turn hg hb (l.back go1) r' g' (Rv.ex g'.fz dx x rx) e' fun C2 s2 p2 σ2 H2 r2 g2 e2 => ⟨C2, s2, p2, r2, g2, e2⟩
  · rintro σ' H' ⟨C', s', p', r', g', e'⟩
    rw [List.drop_eq_nil_of_le (by rw [h2.len]; exact Nat.le_refl _)] at e'
    cases e'
    exact l C' σ' H' r' (go1.trans g')
/-- ranges -/
def rngD (lo : Int) (n : Nat) : List D := (List.range n).map fun i : Nat => D.int (lo + (i : Int))
theorem rngD_len (lo : Int) (n : Nat) : (rngD lo n).length = n := by unfold rngD; rw [List.length_map, List.length_range]
theorem rngD_at {lo : Int} {n i : Nat} (h : i < n) : (rngD lo n)[i]? = some (.int (lo + (i : Int))) := by
  unfold rngD
  rw [List.getElem?_map, List.getElem?_range h]
  rfl
def rg1 : List D → Option (Int × Nat)
  | [.int j] => if decide (-1000000 ≤ j ∧ j ≤ 1000000) = true then some (0, j.toNat) else none
  | _ => none
def rg2 : List D → Option (Int × Nat)
  | [.int i, .int j] => if decide (-1000000 ≤ i ∧ i ≤ 1000000 ∧ -1000000 ≤ j ∧ j ≤ 1000000) = true then some (i, (j - i).toNat) else none
  | _ => none
theorem rg1_ok {ds : List D} {lo : Int} {n : Nat} (h : rg1 ds = some (lo, n)) : ∃ j : Int, ds = [.int j] ∧ -1000000 ≤ j ∧ j ≤ 1000000 ∧ lo = 0 ∧ n = j.toNat := by
  match ds, h with
  | [.int j], h =>
    unfold rg1 at h
    dsimp only at h
    split at h
    · rename_i hz
      cases h
      have := of_decide_eq_true hz
      exact ⟨j, rfl, this.1, this.2, rfl, rfl⟩
    · cases h
theorem rg2_ok {ds : List D} {lo : Int} {n : Nat} (h : rg2 ds = some (lo, n)) : ∃ i j : Int, ds = [.int i, .int j] ∧ (-1000000 ≤ i ∧ i ≤ 1000000 ∧ -1000000 ≤ j ∧ j ≤ 1000000) ∧ lo = i ∧ n = (j - i).toNat := by
  match ds, h with
  | [.int i, .int j], h =>
    unfold rg2 at h
    dsimp only at h
    split at h
    · rename_i hz
      cases h
      exact ⟨_, j, rfl, of_decide_eq_true hz, rfl, rfl⟩
    · cases h
def sForR (rg : List D → Option (Int × Nat)) (f : Sl → M (List D)) (t : D → Sl → Option Sl) (g : Sl → M (Out × Sl)) : Sl → M (Out × Sl) := fun s => (f s).bind fun ds => (M.of (rg ds)).bind fun r => loopD t g (rngD r.1 r.2) s
theorem forR_core {C : Fr} {s : Sl} {p : Pen} {σ : L2.St} {H : Hp} {o : Out} {sf : Sl} {pf : Pen} {E : Ends} {lo : Int} {n : Nat} (hg : JG P tg js ft') (hb : JS P t1 g1) (rl : Rel P C s p σ H) (l : Lands P C H o sf pf E) (e : loopD ft' g1 (rngD lo n) s p = .ok (o, sf) pf) :
    ∃ W : Nat → Nat → L2.St → Hp → Prop, (∃ m, W 0 m σ H) ∧ ∀ i m σ H, W i m σ H →
      ((Itr lo n).stop i H ∧ E.nx σ H) ∨ ((Itr lo n).go i H ∧ ∃ N : L2.St → Hp → Prop, (∀ σ' H', N σ' H' → ∃ m', m' < m ∧ W (i + 1) m' σ' H') ∧ ∀ x H', (Itr lo n).yld i H x H' → tg x σ H' fun σ2 H2 => t1 { E with nx := N, ct := N, bk := E.nx } σ2 H2) := by
  refine for_range (fun i σ' H' => ∃ C' s' p', Rel P C' s' p' σ' H' ∧ Go P C C' H H' ∧ loopD ft' g1 ((rngD lo n).drop i) s' p' = .ok (o, sf) pf) ⟨C, s, p, rl, .refl, e⟩ ?_ ?_
  · rintro i σ' H' hi ⟨C', s', p', r', g', e'⟩
    rw [drop_at (rngD_at hi)] at e'
    exact loop_turn hg hb l r' g' (show Rv P (hid C'.O H') (.int (lo + (i : Int))) (.int (lo + (i : Int))) from rfl) e' fun C2 s2 p2 σ2 H2 r2 g2 e2 => ⟨C2, s2, p2, r2, g2, e2⟩
  · rintro σ' H' ⟨C', s', p', r', g', e'⟩
    rw [List.drop_eq_nil_of_le (by rw [rngD_len]; exact Nat.le_refl _)] at e'
    cases e'
    exact l C' σ' H' r' g'
theorem js_forR1 {t : TA} {f : Sl → M (List D)} (ha : JA P t f) (hg : JG P tg js ft') (hb : JS P t1 g1) : JS P (tFor (iRng1 t) tg t1) (sForR rg1 f ft' g1) := fun C s p σ H r o sf pf e E l => by
  obtain ⟨ds, p1, e1, e2⟩ := M.bind_ok e
  obtain ⟨⟨lo, n⟩, p2, e3, e4⟩ := M.bind_ok e2
  obtain ⟨e5, rfl⟩ := M.of_ok e3
  obtain ⟨j, rfl, b1, b2, rfl, rfl⟩ := rg1_ok e5
  refine ha C s p σ H r _ _ e1 _ fun vs H1 k1 q1 r1 => ?_
  obtain ⟨v, r', rfl, x1, x2⟩ := r1
  cases x1
  cases x2
  exact ⟨j, rfl, by omega, by omega, forR_core hg hb (r.keep k1 q1) (l.back (r.go k1)) e4⟩
theorem js_forR2 {t : TA} {f : Sl → M (List D)} (ha : JA P t f) (hg : JG P tg js ft') (hb : JS P t1 g1) : JS P (tFor (iRng2 t) tg t1) (sForR rg2 f ft' g1) := fun C s p σ H r o sf pf e E l => by
  obtain ⟨ds, p1, e1, e2⟩ := M.bind_ok e
  obtain ⟨⟨lo, n⟩, p2, e3, e4⟩ := M.bind_ok e2
  obtain ⟨e5, rfl⟩ := M.of_ok e3
  obtain ⟨i, j, rfl, ⟨b1, b2, b3, b4⟩, rfl, rfl⟩ := rg2_ok e5
  refine ha C s p σ H r _ _ e1 _ fun vs H1 k1 q1 r1 => ?_
  obtain ⟨v, r', rfl, x1, w, r'', rfl, x2, x3⟩ := r1
  cases x1
  cases x2
  cases x3
  exact ⟨lo, j, rfl, ⟨by omega, by omega, by omega, by omega⟩, forR_core hg hb (r.keep k1 q1) (l.back (r.go k1)) e4⟩
end
end Z
end
section
set_option Elab.async false
set_option linter.all false
set_option maxRecDepth 100000
set_option maxHeartbeats 2000000
/-! Z: comprehensions -/
namespace Z
open PySem L2
open Evl (Ex)
section
variable {P : Par} {C : Fr} {s : Sl} {p p' : Pen} {σ : L2.St} {H H1 H' : Hp}
/-- a new object joins what is protected -/
theorem Rel.under (r : Rel P C s p σ H) {a : Addr} {o : HO} (hn : H a = none) (k : Keep P H H') (q : PenAt P H' p') (ha : H' a = some o) : Rel P { C with O := fun l => C.O l ∨ l = a } s p' σ H' := by
  have r' := r.keep k q
  have up := (r.goOw hn k).fz
  exact
    { len := r.len, pa := r.pa, ca := (fun z => z.elim r.ca fun e => by have q := r.pen.2.2; rw [e, hn] at q; cases q), ca0 := r.ca0, pen := q
      dom := fun l hl => by
        rcases hl with hl | hl
        · exact r'.dom l hl
        · subst hl; exact ⟨_, ha⟩
      dom0 := r.dom0, base := r'.base, sub := fun l hl => .inl (r.sub l hl)
      im := fun j e h => by
        obtain ⟨u, h1, h2⟩ := r.im j e h
        exact ⟨u, h1, Rv.ex up e u h2⟩
      ow := fun j es h => by
        obtain ⟨l, ws, h1, h2, h3, h4, h5⟩ := r.ow j es h
        exact ⟨l, ws, h1, .inl h2, h3, k l _ (r.npa h3) h4, Rvs.ex up es ws h5⟩
      inj := r.inj }
theorem lost {a : Addr} (k : Keep P H H1) (q : PenAt P H1 p) (h : H1 a = none) : H a = none := by
  cases e : H a with
  | none => rfl
  | some o =>
    by_cases z : a = P.pa
    · subst z; rw [q.2.1] at h; cases h
    · rw [k a o z e] at h; cases h
end
/-! ### the plain side -/
def lcD (t : D → Sl → Option Sl) (ft : Sl → M Bool) (fe : Sl → M D) : List D → Sl → M (List D)
  | [], _ => M.pure []
  | d :: ds, s => (M.of (t d s)).bind fun s1 => (ft s1).bind fun b => if b = true then (fe s1).bind fun y => (lcD t ft fe ds s).bind fun r => M.pure (y :: r) else lcD t ft fe ds s
theorem lcD_len {t : D → Sl → Option Sl} {ft : Sl → M Bool} {fe : Sl → M D} : ∀ {ds : List D} {s : Sl} {p p' : Pen} {r : List D}, lcD t ft fe ds s p = .ok r p' → r.length ≤ ds.length
  | [], s, p, p', r, e => by cases e; exact Nat.le_refl _
  | d :: ds, s, p, p', r, e => by
    obtain ⟨s1, p1, e1, e2⟩ := M.bind_ok e
    obtain ⟨b, p2, e3, e4⟩ := M.bind_ok e2
    cases b with
    | true =>
      rw [if_pos rfl] at e4
      obtain ⟨y, p3, e5, e6⟩ := M.bind_ok e4
      obtain ⟨r1, p4, e7, e8⟩ := M.bind_ok e6
      cases e8
      have := lcD_len e7
      simp only [List.length_cons]
      omega
    | false =>
      rw [if_neg Bool.false_ne_true] at e4
      have := lcD_len e4
      simp only [List.length_cons]
      omega
/-- between two turns: what is made so far stands at L, what is left will give rest -/
structure Mid (P : Par) (C : Fr) (t : D → Sl → Option Sl) (ft : Sl → M Bool) (fe : Sl → M D) (sw : Sl) (total : List D) (pf : Pen) (H1 : Hp) (L : Addr) (ds : List D) (p : Pen) (H : Hp) (acc : List D) (vs : List V) : Prop where
  keep : Keep P H1 H
  pen : PenAt P H p
  at_ : H L = some (.lst vs)
  rv : Rvs P (hid (fun l => C.O l ∨ l = L) H) acc vs
  eq : ∃ rest, lcD t ft fe ds sw p = .ok rest pf ∧ acc ++ rest = total
section
variable {P : Par} {C : Fr} {s : Sl} {p pf : Pen} {σ : L2.St} {H1 H : Hp} {t : D → Sl → Option Sl} {ft : Sl → M Bool} {fe : Sl → M D} {sw : Sl} {total : List D} {L : Addr} {d : D} {ds acc : List D} {avs : List V} {tg : TG} {vs : List Nat} {tt : TT} {te : TE}
theorem hid_at {O : Addr → Prop} {H : Hp} {L : Addr} {o : HO} (h : O L) : Ex (hid O H) (hid O (upd H L o)) := fun b u e => by
  obtain ⟨e1, e2⟩ := fz_some.mp e
  exact fz_some.mpr ⟨e1, by rw [upd_ne (fun z => e1 (by rw [z]; exact h))]; exact e2⟩
theorem lc_turn {pr : Pen} (r : Rel P C sw pr (L2.wipe σ vs) H1) (hL : H1 L = none) (hz : total.length ≤ 100000) (hg : JG P tg vs t) (ht : JT P tt ft) (he : JE P te fe)
    (m : Mid P C t ft fe sw total pf H1 L (d :: ds) p H acc avs) {x : V} (rx : Rv P (hid C.O H1) d x) (W : Hp → Prop) (hW : ∀ p' H' acc' avs', Mid P C t ft fe sw total pf H1 L ds p' H' acc' avs' → W H') :
    tg x (L2.wipe σ vs) H fun σ2 H2 => L2.wipe σ2 vs = L2.wipe σ vs ∧ tt σ2 H2 fun b H3 =>
      if b = true then te σ2 H3 fun y H4 => ∃ acc, H4 L = some (.lst acc) ∧ acc.length < sizeLine ∧ W (upd H4 L (.lst (acc ++ [y]))) else W H3 := by
  obtain ⟨rest, e, et⟩ := m.eq
  have nL : L ≠ P.pa := fun z => by rw [z, r.pen.2.1] at hL; cases hL
  have nL2 : L ≠ P.ca := fun z => by rw [z, r.pen.2.2] at hL; cases hL
  have ru := r.under hL m.keep m.pen m.at_
  obtain ⟨s1, p1, e1, e2⟩ := M.bind_ok e
  obtain ⟨e3, rfl⟩ := M.of_ok e1
  obtain ⟨b, p2, e4, e5⟩ := M.bind_ok e2
  refine hg _ sw _ _ H ru d x (Rv.ex ((r.goOw hL m.keep).fz) d x rx) s1 e3 _ fun σ2 a2 of2 => ⟨of2.wipe, ?_⟩
  refine ht _ s1 _ σ2 H a2 b p2 e4 _ fun H3 k3 q3 => ?_
  have r3 := a2.keep k3 q3
  have up3 := a2.fz k3
  cases b with
  | false =>
    rw [if_neg Bool.false_ne_true] at e5 ⊢
    exact hW p2 H3 acc avs ⟨m.keep.trans k3, q3, k3 L _ nL m.at_, Rvs.ex up3 acc avs m.rv, rest, e5, et⟩
  | true =>
    rw [if_pos rfl] at e5 ⊢
    obtain ⟨y, p4, e6, e7⟩ := M.bind_ok e5
    obtain ⟨r1, p5, e8, e9⟩ := M.bind_ok e7
    cases e9
    refine he _ s1 p2 σ2 H3 r3 y p4 e6 _ fun v H4 k4 q4 r4 => ?_
    have up4 := r3.fz k4
    have at4 : H4 L = some (.lst avs) := k4 L _ nL (k3 L _ nL m.at_)
    have la : avs.length = acc.length := m.rv.len
    refine ⟨avs, at4, Evl.sz_lt ?_, ?_⟩
    · have : acc.length + 1 ≤ total.length := by rw [← et, List.length_append, List.length_cons]; omega
      omega
    · refine hW p4 _ (acc ++ [y]) (avs ++ [v]) ⟨fun b o n z => ?_, ⟨q4.1, by rw [upd_ne nL.symm]; exact q4.2.1, by rw [upd_ne nL2.symm]; exact q4.2.2⟩, upd_same, ?_, r1, e8, by rw [List.append_assoc]; exact et⟩
      · rw [upd_ne (fun y => by rw [y, hL] at z; cases z)]
        exact k4 b o n (k3 b o n (m.keep b o n z))
      · exact Rvs.ex (hid_at (.inr rfl)) _ _ ((Rvs.ex (up3.trans up4) acc avs m.rv).app (Rvs.one r4))
theorem lc_start {pr : Pen} {rest : List D} (r : Rel P C sw pr (L2.wipe σ vs) H1) (hL : H1 L = none) (e : lcD t ft fe ds sw pr = .ok total pf) : Mid P C t ft fe sw total pf H1 L ds pr (upd H1 L (.lst [])) [] [] :=
  ⟨.new hL, r.pen.keepNew hL, upd_same, rfl, total, e, rfl⟩
end
section
variable {P : Par} {ta te : TE} {fi fe : Sl → M D} {tt : TT} {ft : Sl → M Bool} {tg : TG} {vs : List Nat} {t : D → Sl → Option Sl}
def lcOf (vs : List Nat) (un : D → Option (List D)) (fi : Sl → M D) (t : D → Sl → Option Sl) (ft : Sl → M Bool) (fe : Sl → M D) : Sl → M (List D) := fun s => (fi s).bind fun d => (M.of (un d)).bind fun ds => if sz ds.length = true then lcD t ft fe ds (wipeS s vs) else M.no
theorem lc_fin {C : Fr} {s : Sl} {p p1 pf : Pen} {σ : L2.St} {H H1 H' : Hp} {total : List D} {L : Addr} {acc : List D} {avs : List V} {Q : VK} (r : Rel P C s p σ H) (k1 : Keep P H H1) (q1 : PenAt P H1 p1) (hL : H1 L = none) {sw : Sl}
    {p2 : Pen} (m : Mid P C t ft fe sw total pf H1 L [] p2 H' acc avs)
    (q : ∀ a vs H', H a = none → Keep P H H' → PenAt P H' pf → H' a = some (.lst vs) → Rvs P (hid (fun l => C.O l ∨ l = a) H') total vs → Q (.ref a) H') : Q (.ref L) H' := by
  obtain ⟨rest, e, et⟩ := m.eq
  cases e
  rw [List.append_nil] at et
  subst et
  exact q L avs H' (lost k1 q1 hL) (k1.trans m.keep) m.pen m.at_ m.rv
theorem jl_lcL (hi : JE P ta fi) (hg : JG P tg vs t) (ht : JT P tt ft) (he : JE P te fe) : JL P (tLc (iList P.K ta) tg tt te vs) (lcOf vs unL fi t ft fe) := fun C s p σ H r total pf e Q q => by
  obtain ⟨d, p1, e1, e2⟩ := M.bind_ok e
  obtain ⟨ds, p2, e3, e4⟩ := M.bind_ok e2
  obtain ⟨e5, rfl⟩ := M.of_ok e3
  split at e4
  · rename_i hz
    cases d <;> cases e5
    refine hi C s p σ H r _ _ e1 _ fun v H1 k1 q1 r1 => ?_
    obtain ⟨a, ws, rfl, h1, h2⟩ := r1
    have rw := (r.keep k1 q1).wipe vs
    have hz' : total.length ≤ 100000 := Nat.le_trans (lcD_len e4) (of_decide_eq_true hz)
    refine ⟨a, rfl, ⟨ws, Evl.sq_of (fz_some.mp h1).2⟩, fun L hL => lc_list (xs := ws) (fun i H' => ∃ p' acc avs, Mid P C t ft fe (wipeS s vs) total pf H1 L (ds.drop i) p' H' acc avs) ⟨_, _, _, lc_start (rest := []) rw hL e4⟩ ?_ ?_ ?_⟩
    · rintro i H' _ ⟨p', acc, avs, m⟩
      exact Evl.sq_of (m.keep a _ (fun z => (fz_some.mp h1).1 (by rw [z]; exact r.paO)) (fz_some.mp h1).2)
    · rintro i x H' hx ⟨p', acc, avs, m⟩
      obtain ⟨dx, hd, rx⟩ := h2.getv hx
      rw [drop_at hd] at m
      exact lc_turn rw hL hz' hg ht he m rx _ fun p2 H2 acc2 avs2 m2 => ⟨p2, acc2, avs2, m2⟩
    · rintro H' ⟨p', acc, avs, m⟩
      rw [List.drop_eq_nil_of_le (by rw [h2.len]; exact Nat.le_refl _)] at m
      exact lc_fin r k1 q1 hL m q
  · cases e4
theorem jl_lcT (hi : JE P ta fi) (hg : JG P tg vs t) (ht : JT P tt ft) (he : JE P te fe) : JL P (tLc (iTup P.K ta) tg tt te vs) (lcOf vs unT fi t ft fe) := fun C s p σ H r total pf e Q q => by
  obtain ⟨d, p1, e1, e2⟩ := M.bind_ok e
  obtain ⟨ds, p2, e3, e4⟩ := M.bind_ok e2
  obtain ⟨e5, rfl⟩ := M.of_ok e3
  split at e4
  · rename_i hz
    cases d <;> cases e5
    refine hi C s p σ H r _ _ e1 _ fun v H1 k1 q1 r1 => ?_
    obtain ⟨a, ws, rfl, h1, h2⟩ := r1
    have rw := (r.keep k1 q1).wipe vs
    have hz' : total.length ≤ 100000 := Nat.le_trans (lcD_len e4) (of_decide_eq_true hz)
    refine ⟨a, rfl, ⟨ws, sqt_ex fz_up h1⟩, fun L hL => lc_tup (xs := ws) (fun i H' => ∃ p' acc avs, Mid P C t ft fe (wipeS s vs) total pf H1 L (ds.drop i) p' H' acc avs) ⟨_, _, _, lc_start (rest := []) rw hL e4⟩ ?_ ?_ ?_⟩
    · rintro i H' _ ⟨p', acc, avs, m⟩
      exact sqt_ex ((fz_keep r.paO m.keep).trans fz_up) h1
    · rintro i x H' hx ⟨p', acc, avs, m⟩
      obtain ⟨dx, hd, rx⟩ := h2.getv hx
      rw [drop_at hd] at m
      exact lc_turn rw hL hz' hg ht he m rx _ fun p2 H2 acc2 avs2 m2 => ⟨p2, acc2, avs2, m2⟩
    · rintro H' ⟨p', acc, avs, m⟩
      rw [List.drop_eq_nil_of_le (by rw [h2.len]; exact Nat.le_refl _)] at m
      exact lc_fin r k1 q1 hL m q
  · cases e4
def lcRg (vs : List Nat) (rg : List D → Option (Int × Nat)) (fi : Sl → M (List D)) (t : D → Sl → Option Sl) (ft : Sl → M Bool) (fe : Sl → M D) : Sl → M (List D) := fun s => (fi s).bind fun ds => (M.of (rg ds)).bind fun r => if sz r.2 = true then lcD t ft fe (rngD r.1 r.2) (wipeS s vs) else M.no
theorem lc_rng_core {C : Fr} {s : Sl} {p p1 pf : Pen} {σ : L2.St} {H H1 : Hp} {total : List D} {lo : Int} {n : Nat} {Q : VK} (r : Rel P C s p σ H) (k1 : Keep P H H1) (q1 : PenAt P H1 p1) (hz : sz n = true) (hg : JG P tg vs t) (ht : JT P tt ft) (he : JE P te fe)
    (e4 : lcD t ft fe (rngD lo n) (wipeS s vs) p1 = .ok total pf)
    (q : ∀ a vs H', H a = none → Keep P H H' → PenAt P H' pf → H' a = some (.lst vs) → Rvs P (hid (fun l => C.O l ∨ l = a) H') total vs → Q (.ref a) H') :
    ∀ L, H1 L = none → ∃ W : Nat → Nat → Hp → Prop, (∃ m, W 0 m (upd H1 L (.lst []))) ∧ ∀ i m H, W i m H →
      ((Itr lo n).stop i H ∧ Q (.ref L) H) ∨ ((Itr lo n).go i H ∧ ∃ Nx : Hp → Prop, (∀ H', Nx H' → ∃ m', m' < m ∧ W (i + 1) m' H') ∧ ∀ x H', (Itr lo n).yld i H x H' → tg x (L2.wipe σ vs) H' fun σ2 H2 => L2.wipe σ2 vs = L2.wipe σ vs ∧ tt σ2 H2 fun b H3 =>
        if b = true then te σ2 H3 fun y H4 => ∃ acc, H4 L = some (.lst acc) ∧ acc.length < sizeLine ∧ Nx (upd H4 L (.lst (acc ++ [y]))) else Nx H3) := fun L hL => by
  have rw := (r.keep k1 q1).wipe vs
  have hz' : total.length ≤ 100000 := by
    have h := lcD_len e4
    rw [rngD_len] at h
    exact Nat.le_trans h (of_decide_eq_true hz)
  refine lc_range (fun i H' => ∃ p' acc avs, Mid P C t ft fe (wipeS s vs) total pf H1 L ((rngD lo n).drop i) p' H' acc avs) ⟨_, _, _, lc_start (rest := []) rw hL e4⟩ ?_ ?_
  · rintro i H' hi ⟨p', acc, avs, m⟩
    rw [drop_at (rngD_at hi)] at m
    exact lc_turn rw hL hz' hg ht he m (show Rv P (hid C.O H1) (.int (lo + (i : Int))) (.int (lo + (i : Int))) from rfl) _ fun p2 H2 acc2 avs2 m2 => ⟨p2, acc2, avs2, m2⟩
  · rintro H' ⟨p', acc, avs, m⟩
    rw [List.drop_eq_nil_of_le (by rw [rngD_len]; exact Nat.le_refl _)] at m
    exact lc_fin r k1 q1 hL m q
theorem jl_lcR1 {ts : TA} {f : Sl → M (List D)} (hi : JA P ts f) (hg : JG P tg vs t) (ht : JT P tt ft) (he : JE P te fe) : JL P (tLc (iRng1 ts) tg tt te vs) (lcRg vs rg1 f t ft fe) := fun C s p σ H r total pf e Q q => by
  obtain ⟨ds, p1, e1, e2⟩ := M.bind_ok e
  obtain ⟨⟨lo, n⟩, p2, e3, e4⟩ := M.bind_ok e2
  obtain ⟨e5, rfl⟩ := M.of_ok e3
  obtain ⟨j, rfl, b1, b2, rfl, rfl⟩ := rg1_ok e5
  dsimp only at e4
  split at e4
  · rename_i hz
    refine hi C s p σ H r _ _ e1 _ fun ws H1 k1 q1 r1 => ?_
    obtain ⟨v, r', rfl, x1, x2⟩ := r1
    cases x1
    cases x2
    exact ⟨j, rfl, by omega, by omega, lc_rng_core r k1 q1 hz hg ht he e4 q⟩
  · cases e4
theorem jl_lcR2 {ts : TA} {f : Sl → M (List D)} (hi : JA P ts f) (hg : JG P tg vs t) (ht : JT P tt ft) (he : JE P te fe) : JL P (tLc (iRng2 ts) tg tt te vs) (lcRg vs rg2 f t ft fe) := fun C s p σ H r total pf e Q q => by
  obtain ⟨ds, p1, e1, e2⟩ := M.bind_ok e
  obtain ⟨⟨lo, n⟩, p2, e3, e4⟩ := M.bind_ok e2
  obtain ⟨e5, rfl⟩ := M.of_ok e3
  obtain ⟨i, j, rfl, ⟨b1, b2, b3, b4⟩, rfl, rfl⟩ := rg2_ok e5
  dsimp only at e4
  split at e4
  · rename_i hz
    refine hi C s p σ H r _ _ e1 _ fun ws H1 k1 q1 r1 => ?_
    obtain ⟨v, r', rfl, x1, w, r'', rfl, x2, x3⟩ := r1
    cases x1
    cases x2
    cases x3
    exact ⟨_, j, rfl, ⟨by omega, by omega, by omega, by omega⟩, lc_rng_core r k1 q1 hz hg ht he e4 q⟩
  · cases e4
end
end Z
end
section
set_option Elab.async false
set_option linter.all false
set_option maxRecDepth 100000
set_option maxHeartbeats 2000000
/-! Z: operations and calls -/
namespace Z
open PySem L2
open Evl (Ex)
mutual
def toP : D → PyData
  | .non => .none
  | .bl b => .bool b
  | .int i => .int i
  | .str x => .str x
  | .tup ds => .tuple (toPs ds)
  | .lst ds => .list (toPs ds)
  | _ => .none
def toPs : List D → List PyData
  | [] => []
  | d :: ds => toP d :: toPs ds
end
mutual
def plain : D → Bool
  | .non => true
  | .bl _ => true
  | .int _ => true
  | .str _ => true
  | .tup ds => plains ds
  | .lst ds => plains ds
  | _ => false
def plains : List D → Bool
  | [] => true
  | d :: ds => plain d && plains ds
end
theorem toPs_map : ∀ ds, toPs ds = ds.map toP
  | [] => rfl
  | d :: ds => by rw [toPs, toPs_map ds]; rfl
theorem plains_all : ∀ ds, plains ds = ds.all plain
  | [] => rfl
  | d :: ds => by rw [plains, plains_all ds]; rfl
section
variable {P : Par} {H : Hp}
mutual
theorem Rv.dp : ∀ (d : D) (v : V), plain d = true → Rv P H d v → Dp P.K H v (toP d)
  | .non, _, _, h => by rw [show _ = _ from h]; exact .non
  | .bl b, _, _, h => by rw [show _ = _ from h]; exact .bl b
  | .int i, _, _, h => by rw [show _ = _ from h]; exact .int i
  | .str x, _, _, h => by rw [show _ = _ from h]; exact .str x
  | .tup ds, _, hp, ⟨a, vs, h1, h2, h3⟩ => by
    subst h1
    exact .tup h2 (Rvs.dp ds vs (by simpa only [plain] using hp) h3)
  | .lst ds, _, hp, ⟨a, vs, h1, h2, h3⟩ => by
    subst h1
    exact .lst (Evl.sq_of h2) (Rvs.dp ds vs (by simpa only [plain] using hp) h3)
  | .dic _ _, _, hp, _ => by simp only [plain] at hp; cases hp
  | .ins _ _ _, _, hp, _ => by simp only [plain] at hp; cases hp
  | .ty _, _, hp, _ => by simp only [plain] at hp; cases hp
  | .pen, _, hp, _ => by simp only [plain] at hp; cases hp
theorem Rvs.dp : ∀ (ds : List D) (vs : List V), plains ds = true → Rvs P H ds vs → DpAll P.K H vs (toPs ds)
  | [], _, _, h => by rw [show _ = _ from h]; exact .nil
  | d :: ds, _, hp, ⟨v, r, h1, h2, h3⟩ => by
    subst h1
    simp only [plains, Bool.and_eq_true] at hp
    exact .cons (Rv.dp d v hp.1 h2) (Rvs.dp ds r hp.2 h3)
end
end
def fitD (d : D) : Bool := plain d && SeqAt.shaped (toP d)
theorem fitD_ok {d : D} (h : fitD d = true) : plain d = true ∧ SeqAt.shaped (toP d) = true := by
  simpa only [fitD, Bool.and_eq_true] using h
section
variable {P : Par}
/-! == at any depth -/
def dEqD (x y : D) : Option D := if fitD x = true ∧ fitD y = true then some (.bl (PyData.eqv (toP x) (toP y))) else none
def dNeD (x y : D) : Option D := if fitD x = true ∧ fitD y = true then some (.bl (!PyData.eqv (toP x) (toP y))) else none
theorem jr_eqD : JR P (rEqD P.K) dEqD := fun O H x y dx dy hp hd rx ry d h Q q => by
  unfold dEqD at h
  split at h
  · rename_i hf
    cases h
    obtain ⟨a1, a2⟩ := fitD_ok hf.1
    obtain ⟨b1, b2⟩ := fitD_ok hf.2
    exact ⟨_, _, Rv.dp dx x a1 (Rv.ex fz_up dx x rx), Rv.dp dy y b1 (Rv.ex fz_up dy y ry), a2, b2, q _ H (Evl.Ex.refl H) rfl⟩
  · cases h
theorem jr_neD : JR P (rNeD P.K) dNeD := fun O H x y dx dy hp hd rx ry d h Q q => by
  unfold dNeD at h
  split at h
  · rename_i hf
    cases h
    obtain ⟨a1, a2⟩ := fitD_ok hf.1
    obtain ⟨b1, b2⟩ := fitD_ok hf.2
    exact ⟨_, _, Rv.dp dx x a1 (Rv.ex fz_up dx x rx), Rv.dp dy y b1 (Rv.ex fz_up dy y ry), a2, b2, q _ H (Evl.Ex.refl H) rfl⟩
  · cases h
/-! in a list, at any depth -/
def hasD (x : D) (ds : List D) : Bool := ds.any fun z => PyData.eqv (toP z) (toP x)
def dInD : D → D → Option D
  | x, .lst ds => if fitD x = true ∧ fitD (.lst ds) = true then some (.bl (hasD x ds)) else none
  | _, _ => none
def dNotInD : D → D → Option D
  | x, .lst ds => if fitD x = true ∧ fitD (.lst ds) = true then some (.bl (!hasD x ds)) else none
  | _, _ => none
theorem hasD_eq (x : D) (ds : List D) : ((toPs ds).any fun z => PyData.eqv z (toP x)) = hasD x ds := by
  rw [toPs_map, List.any_map]
  rfl
theorem jr_inD : JR P (rInD P.K) dInD := fun O H x y dx dy hp hd rx ry d h Q q => by
  cases dy <;> first | (cases dx <;> cases h) | skip
  rename_i ds
  have h : (if fitD dx = true ∧ fitD (.lst ds) = true then some (D.bl (hasD dx ds)) else none) = some d := by cases dx <;> exact h
  split at h
  · rename_i hf
    cases h
    obtain ⟨a1, a2⟩ := fitD_ok hf.1
    obtain ⟨b1, b2⟩ := fitD_ok hf.2
    refine ⟨_, toPs ds, Rv.dp dx x a1 (Rv.ex fz_up dx x rx), Rv.dp (.lst ds) y b1 (Rv.ex fz_up (.lst ds) y ry), a2, b2, ?_⟩
    rw [hasD_eq]
    exact q _ H (Evl.Ex.refl H) rfl
  · cases h
theorem jr_notInD : JR P (rNotInD P.K) dNotInD := fun O H x y dx dy hp hd rx ry d h Q q => by
  cases dy <;> first | (cases dx <;> cases h) | skip
  rename_i ds
  have h : (if fitD dx = true ∧ fitD (.lst ds) = true then some (D.bl (!hasD dx ds)) else none) = some d := by cases dx <;> exact h
  split at h
  · rename_i hf
    cases h
    obtain ⟨a1, a2⟩ := fitD_ok hf.1
    obtain ⟨b1, b2⟩ := fitD_ok hf.2
    refine ⟨_, toPs ds, Rv.dp dx x a1 (Rv.ex fz_up dx x rx), Rv.dp (.lst ds) y b1 (Rv.ex fz_up (.lst ds) y ry), a2, b2, ?_⟩
    rw [hasD_eq]
    exact q _ H (Evl.Ex.refl H) rfl
  · cases h
/-! in an own list -/
def eInOw (neg : Bool) (i : Nat) (f : Sl → M D) : Sl → M D := fun s => (f s).bind fun x => match s[i]? with
  | some (.ow ds) => if fitD x = true ∧ fitD (.lst ds) = true then M.pure (.bl (if neg = true then !hasD x ds else hasD x ds)) else M.no
  | _ => M.no
theorem Rel.owDp {C : Fr} {s : Sl} {p : Pen} {σ : L2.St} {H : Hp} {i : Nat} {ds : List D} (r : Rel P C s p σ H) (hi : s[i]? = some (.ow ds)) (hf : fitD (.lst ds) = true) : ∃ a, σ[i]? = some (some (.ref a)) ∧ Dp P.K H (.ref a) (.list (toPs ds)) := by
  obtain ⟨a, vs, h1, h2, h3, h4, h5⟩ := r.ow i ds hi
  refine ⟨a, h1, .lst (Evl.sq_of h4) (Rvs.dp ds vs ?_ (Rvs.ex fz_up ds vs h5))⟩
  have := (fitD_ok hf).1
  simpa only [plain] using this
theorem j_notInOw {te : TE} {fe : Sl → M D} {i : Nat} (h : JE P te fe) : JE P (tOp (rNotInD P.K) te (tVar i)) (eInOw true i fe) := fun C s p σ H r d p' e Q q => by
  obtain ⟨x, p1, e1, e2⟩ := M.bind_ok e
  cases hi : s[i]? with
  | none => rw [hi] at e2; cases e2
  | some z =>
    cases z with
    | un => rw [hi] at e2; cases e2
    | im d => rw [hi] at e2; cases e2
    | ow ds =>
      rw [hi] at e2
      dsimp only at e2
      split at e2
      · rename_i hf
        cases e2
        refine h C s p σ H r x _ e1 _ fun v H1 k1 q1 r1 => ?_
        have rl := r.keep k1 q1
        obtain ⟨a, h1, h2⟩ := rl.owDp hi hf.2
        obtain ⟨a1, a2⟩ := fitD_ok hf.1
        refine ⟨_, h1, _, toPs ds, Rv.dp x v a1 (Rv.ex fz_up x v r1), h2, a2, (fitD_ok hf.2).2, ?_⟩
        rw [hasD_eq]
        exact q _ H1 k1 q1 rfl
      · cases e2
theorem j_inOw {te : TE} {fe : Sl → M D} {i : Nat} (h : JE P te fe) : JE P (tOp (rInD P.K) te (tVar i)) (eInOw false i fe) := fun C s p σ H r d p' e Q q => by
  obtain ⟨x, p1, e1, e2⟩ := M.bind_ok e
  cases hi : s[i]? with
  | none => rw [hi] at e2; cases e2
  | some z =>
    cases z with
    | un => rw [hi] at e2; cases e2
    | im d => rw [hi] at e2; cases e2
    | ow ds =>
      rw [hi] at e2
      dsimp only at e2
      split at e2
      · rename_i hf
        cases e2
        refine h C s p σ H r x _ e1 _ fun v H1 k1 q1 r1 => ?_
        have rl := r.keep k1 q1
        obtain ⟨a, h1, h2⟩ := rl.owDp hi hf.2
        obtain ⟨a1, a2⟩ := fitD_ok hf.1
        refine ⟨_, h1, _, toPs ds, Rv.dp x v a1 (Rv.ex fz_up x v r1), h2, a2, (fitD_ok hf.2).2, ?_⟩
        rw [hasD_eq]
        exact q _ H1 k1 q1 rfl
      · cases e2
/-! len, items, slices -/
def dLen : List D → Option D
  | [.lst ds] => some (.int ds.length)
  | [.tup ds] => some (.int ds.length)
  | _ => none
theorem jc_len : JC P (fun xs H Q => ∃ p ys, xs = [.ref p] ∧ (SqL P.K H p ys ∨ SqT P.K H p ys) ∧ Q (.int ys.length) H) dLen := fun O H xs ds hp hd r d h Q q => by
  match ds, h with
  | [.lst es], h =>
    cases h
    obtain ⟨v, r', rfl, ⟨a, vs, rfl, h1, h2⟩, h3⟩ := r
    cases h3
    refine ⟨a, vs, rfl, .inl (Evl.sq_of (fz_some.mp h1).2), q _ H (Evl.Ex.refl H) ?_⟩
    rw [h2.len]
    exact rfl
  | [.tup es], h =>
    cases h
    obtain ⟨v, r', rfl, ⟨a, vs, rfl, h1, h2⟩, h3⟩ := r
    cases h3
    refine ⟨a, vs, rfl, .inr (sqt_ex fz_up h1), q _ H (Evl.Ex.refl H) ?_⟩
    rw [h2.len]
    exact rfl
theorem Rvs.atI {H : Hp} {ds : List D} {vs : List V} {i : Int} {d : D} (r : Rvs P H ds vs) (h : L2.atI ds i = some d) : ∃ v, L2.atI vs i = some v ∧ Rv P H d v := by
  unfold L2.atI at h ⊢
  rw [r.len]
  cases e : ixN ds.length i with
  | none => rw [e] at h; cases h
  | some j =>
    rw [e] at h
    exact r.get h
def dIxL : D → D → Option D
  | .lst ds, .int i => L2.atI ds i
  | _, _ => none
def dIxT : D → D → Option D
  | .tup ds, .int i => L2.atI ds i
  | _, _ => none
theorem jr_ixL : JR P (rIxL P.K) dIxL := fun O H x y dx dy hp hd rx ry d h Q q => by
  cases dx <;> cases dy <;> first | cases h | skip
  obtain ⟨a, vs, rfl, h1, h2⟩ := rx
  obtain ⟨v, e, rv⟩ := h2.atI h
  exact ⟨a, vs, _, v, rfl, ry, Evl.sq_of (fz_some.mp h1).2, e, q v H (Evl.Ex.refl H) rv⟩
theorem jr_ixT : JR P (rIxT P.K) dIxT := fun O H x y dx dy hp hd rx ry d h Q q => by
  cases dx <;> cases dy <;> first | cases h | skip
  obtain ⟨a, vs, rfl, h1, h2⟩ := rx
  obtain ⟨v, e, rv⟩ := h2.atI h
  exact ⟨a, vs, _, v, rfl, ry, sqt_ex fz_up h1, e, q v H (Evl.Ex.refl H) rv⟩
def JO (P : Par) (to : TO) (f : Sl → M (Option Int)) : Prop := ∀ C s p σ H, Rel P C s p σ H → ∀ o p', f s p = .ok o p' → ∀ Q : Option Int → Hp → Prop, (∀ H', Keep P H H' → PenAt P H' p' → Q o H') → to σ H Q
def oNone : Sl → M (Option Int) := fun _ => M.pure none
def asI : D → Option Int
  | .int i => some i
  | _ => none
theorem asI_ok {d : D} {i : Int} (h : asI d = some i) : d = .int i := by
  cases d <;> cases h <;> rfl
def oPart (f : Sl → M D) : Sl → M (Option Int) := fun s => (f s).bind fun d => (M.of (asI d)).bind fun i => M.pure (some i)
theorem jo_none : JO P tNoPart oNone := fun C s p σ H r o p' e Q q => by
  cases e
  exact q H (.refl H) r.pen
theorem jo_part {te : TE} {fe : Sl → M D} (h : JE P te fe) : JO P (tPart te) (oPart fe) := fun C s p σ H r o p' e Q q => by
  obtain ⟨d, p1, e1, e2⟩ := M.bind_ok e
  obtain ⟨i, p2, e3, e4⟩ := M.bind_ok e2
  obtain ⟨e5, rfl⟩ := M.of_ok e3
  have e6 := asI_ok e5
  subst e6
  cases e4
  exact h C s p σ H r _ _ e1 _ fun v H1 k1 q1 r1 => ⟨i, r1, q H1 k1 q1⟩
def cutD (ds : List D) (lo hi : Option Int) : List D := (ds.drop (HT.sIx ds.length 0 lo)).take (HT.sIx ds.length ds.length hi - HT.sIx ds.length 0 lo)
def eSlL (f : Sl → M D) (fl fh : Sl → M (Option Int)) : Sl → M D := fun s => (f s).bind fun d => (fl s).bind fun l => (fh s).bind fun h => match d with
  | .lst ds => M.pure (.lst (cutD ds l h))
  | _ => M.no
theorem j_slL {te : TE} {tl th : TO} {fe : Sl → M D} {fl fh : Sl → M (Option Int)} (he : JE P te fe) (hl : JO P tl fl) (hh : JO P th fh) : JE P (tSl (rSlL P.K) te tl th) (eSlL fe fl fh) := fun C s p σ H r d p' e Q q => by
  obtain ⟨x, p1, e1, e2⟩ := M.bind_ok e
  obtain ⟨l, p2, e3, e4⟩ := M.bind_ok e2
  obtain ⟨h, p3, e5, e6⟩ := M.bind_ok e4
  cases x <;> cases e6
  rename_i ds
  refine he C s p σ H r _ _ e1 _ fun v H1 k1 q1 r1 => ?_
  obtain ⟨a, vs, rfl, h1, h2⟩ := r1
  have rl1 := r.keep k1 q1
  refine hl C s p1 σ H1 rl1 l _ e3 _ fun H2 k2 q2 => ?_
  have rl2 := rl1.keep k2 q2
  refine hh C s p2 σ H2 rl2 h _ e5 _ fun H3 k3 q3 => ?_
  have rl3 := rl2.keep k3 q3
  have k := (rl1.fz k2).trans (rl2.fz k3)
  refine ⟨a, vs, rfl, Evl.sq_of (fz_some.mp (k a _ h1)).2, fun b hb => ?_⟩
  refine q _ _ (((k1.trans k2).trans k3).trans (.new hb)) (q3.keepNew hb) ⟨b, cutV vs l h, rfl, fz_new rl3.dom hb, ?_⟩
  unfold cutD cutV
  rw [h2.len]
  exact Rvs.take _ (Rvs.drop _ (Rvs.ex (k.trans (fz_ex (Ex.new hb))) _ _ h2))
/-! list(..), tuple(..) of lists and tuples; list(range(..)) -/
def dList : List D → Option D
  | [.lst ds] => some (.lst ds)
  | [.tup ds] => some (.lst ds)
  | _ => none
theorem jc_list : JC P (fun xs H Q => ∃ p ys, xs = [.ref p] ∧ (SqL P.K H p ys ∨ SqT P.K H p ys) ∧ ∀ l, H l = none → Q (.ref l) (upd H l (.lst ys))) dList := fun O H xs ds hp hd r d h Q q => by
  match ds, h with
  | [.lst es], h =>
    cases h
    obtain ⟨v, r', rfl, ⟨a, vs, rfl, h1, h2⟩, h3⟩ := r
    cases h3
    exact ⟨a, vs, rfl, .inl (Evl.sq_of (fz_some.mp h1).2), fun l hl => q _ _ (Ex.new hl) ⟨l, vs, rfl, fz_new hd hl, Rvs.ex (fz_ex (Ex.new hl)) _ _ h2⟩⟩
  | [.tup es], h =>
    cases h
    obtain ⟨v, r', rfl, ⟨a, vs, rfl, h1, h2⟩, h3⟩ := r
    cases h3
    exact ⟨a, vs, rfl, .inr (sqt_ex fz_up h1), fun l hl => q _ _ (Ex.new hl) ⟨l, vs, rfl, fz_new hd hl, Rvs.ex (fz_ex (Ex.new hl)) _ _ h2⟩⟩
def dTuple : List D → Option D
  | [.lst ds] => some (.tup ds)
  | [.tup ds] => some (.tup ds)
  | _ => none
theorem jc_tuple : JC P (fun xs H Q => ∃ p ys, xs = [.ref p] ∧ ((SqL P.K H p ys ∧ ∀ l, H l = none → Q (.ref l) (upd H l (.tup ys))) ∨ (SqT P.K H p ys ∧ Q (.ref p) H))) dTuple := fun O H xs ds hp hd r d h Q q => by
  match ds, h with
  | [.lst es], h =>
    cases h
    obtain ⟨v, r', rfl, ⟨a, vs, rfl, h1, h2⟩, h3⟩ := r
    cases h3
    exact ⟨a, vs, rfl, .inl ⟨Evl.sq_of (fz_some.mp h1).2, fun l hl => q _ _ (Ex.new hl) ⟨l, vs, rfl, .inl (.inl (fz_new hd hl)), Rvs.ex (fz_ex (Ex.new hl)) _ _ h2⟩⟩⟩
  | [.tup es], h =>
    cases h
    obtain ⟨v, r', rfl, ⟨a, vs, rfl, h1, h2⟩, h3⟩ := r
    cases h3
    exact ⟨a, vs, rfl, .inr ⟨sqt_ex fz_up h1, q _ H (Evl.Ex.refl H) ⟨a, vs, rfl, h1, h2⟩⟩⟩
theorem rgV_rngD {H : Hp} (a : Int) : ∀ (b : Int), Rvs P H (rngD a (b - a).toNat) (rgV a b) := fun b => by
  unfold rngD rgV
  generalize (List.range (b - a).toNat) = l
  induction l with
  | nil => exact rfl
  | cons x l ih => exact ⟨_, _, rfl, rfl, ih⟩
def lRg1 (f : Sl → M D) : Sl → M (List D) := fun s => (f s).bind fun d => (M.of (rg1 [d])).bind fun r => M.pure (rngD r.1 r.2)
def lRg2 (f g : Sl → M D) : Sl → M (List D) := fun s => (f s).bind fun d => (g s).bind fun e => (M.of (rg2 [d, e])).bind fun r => M.pure (rngD r.1 r.2)
theorem fz_in {C : Fr} {H1 : Hp} {b : Addr} {o : HO} (hb : H1 b = none) : Ex (hid C.O H1) (hid (fun l => C.O l ∨ l = b) (upd H1 b o)) := fun c u e => by
  obtain ⟨e1, e2⟩ := fz_some.mp e
  refine fz_some.mpr ⟨fun z => ?_, Ex.new hb c u e2⟩
  rcases z with z | z
  · exact e1 z
  · rw [z, hb] at e2; cases e2
theorem jl_rg1 {ta : TE} {fa : Sl → M D} (h : JE P ta fa) : JL P (tLstRg (tRg1 ta)) (lRg1 fa) := fun C s p σ H r ds p' e Q q => by
  obtain ⟨d, p1, e1, e2⟩ := M.bind_ok e
  obtain ⟨⟨lo, n⟩, p2, e3, e4⟩ := M.bind_ok e2
  obtain ⟨e5, rfl⟩ := M.of_ok e3
  obtain ⟨j, e6, b1, b2, rfl, rfl⟩ := rg1_ok e5
  cases e6
  cases e4
  refine h C s p σ H r _ _ e1 _ fun v H1 k1 q1 r1 => ⟨j, r1, ⟨by omega, by omega, by omega, by omega, by omega⟩, fun b hb => ?_⟩
  refine q b _ _ (lost k1 q1 hb) (k1.trans (.new hb)) (q1.keepNew hb) upd_same ?_
  have := rgV_rngD (P := P) (H := hid (fun l => C.O l ∨ l = b) (upd H1 b (.lst (rgV 0 j)))) 0 j
  rw [Int.sub_zero] at this
  exact this
theorem jl_rg2 {ta tb : TE} {fa fb : Sl → M D} (h : JE P ta fa) (h2 : JE P tb fb) : JL P (tLstRg (tRg2 ta tb)) (lRg2 fa fb) := fun C s p σ H r ds p' e Q q => by
  obtain ⟨d, p1, e1, e2⟩ := M.bind_ok e
  obtain ⟨d', p1', e1', e2⟩ := M.bind_ok e2
  obtain ⟨⟨lo, n⟩, p2, e3, e4⟩ := M.bind_ok e2
  obtain ⟨e5, rfl⟩ := M.of_ok e3
  obtain ⟨i, j, e6, ⟨b1, b2, b3, b4⟩, rfl, rfl⟩ := rg2_ok e5
  cases e6
  cases e4
  refine h C s p σ H r _ _ e1 _ fun v H1 k1 q1 r1 => ?_
  refine h2 C s p1 σ H1 (r.keep k1 q1) _ _ e1' _ fun v2 H2 k2 q2 r2 => ⟨_, j, r1, r2, ⟨by omega, by omega, by omega, by omega, by omega⟩, fun b hb => ?_⟩
  exact q b _ _ (lost (k1.trans k2) q2 hb) ((k1.trans k2).trans (.new hb)) (q2.keepNew hb) upd_same (rgV_rngD _ j)
/-! numbers -/
def dInt : List D → Option D
  | [.int i] => some (.int i)
  | [.bl b] => some (.int (if b then 1 else 0))
  | _ => none
theorem jc_int : JC P (fun xs H Q => (∃ i, xs = [.int i] ∧ Q (.int i) H) ∨ ∃ k, xs = [.bl k] ∧ Q (.int (if k then 1 else 0)) H) dInt := fun O H xs ds hp hd r d h Q q => by
  match ds, h with
  | [.int i], h =>
    cases h
    obtain ⟨v, r', rfl, h1, h3⟩ := r
    cases h3
    exact .inl ⟨i, by rw [show v = _ from h1], q _ H (Evl.Ex.refl H) rfl⟩
  | [.bl b], h =>
    cases h
    obtain ⟨v, r', rfl, h1, h3⟩ := r
    cases h3
    exact .inr ⟨b, by rw [show v = _ from h1], q _ H (Evl.Ex.refl H) rfl⟩
def dAbs : List D → Option D
  | [.int i] => some (.int (if i < 0 then -i else i))
  | _ => none
theorem jc_abs : JC P (fun xs H Q => ∃ i, xs = [.int i] ∧ Q (.int (if i < 0 then -i else i)) H) dAbs := fun O H xs ds hp hd r d h Q q => by
  match ds, h with
  | [.int i], h =>
    cases h
    obtain ⟨v, r', rfl, h1, h3⟩ := r
    cases h3
    exact ⟨i, by rw [show v = _ from h1], q _ H (Evl.Ex.refl H) rfl⟩
def dMax2 : List D → Option D
  | [.int i, .int j] => some (.int (if j > i then j else i))
  | _ => none
def dMin2 : List D → Option D
  | [.int i, .int j] => some (.int (if j < i then j else i))
  | _ => none
theorem jc_max2 : JC P (fun xs H Q => ∃ i j, xs = [.int i, .int j] ∧ Q (.int (if j > i then j else i)) H) dMax2 := fun O H xs ds hp hd r d h Q q => by
  match ds, h with
  | [.int i, .int j], h =>
    cases h
    obtain ⟨v, r', rfl, h1, w, r'', rfl, h2, h3⟩ := r
    cases h3
    exact ⟨i, j, by rw [show v = _ from h1, show w = _ from h2], q _ H (Evl.Ex.refl H) rfl⟩
theorem jc_min2 : JC P (fun xs H Q => ∃ i j, xs = [.int i, .int j] ∧ Q (.int (if j < i then j else i)) H) dMin2 := fun O H xs ds hp hd r d h Q q => by
  match ds, h with
  | [.int i, .int j], h =>
    cases h
    obtain ⟨v, r', rfl, h1, w, r'', rfl, h2, h3⟩ := r
    cases h3
    exact ⟨i, j, by rw [show v = _ from h1, show w = _ from h2], q _ H (Evl.Ex.refl H) rfl⟩
def min3I (i j k : Int) : Int := let m := if j < i then j else i; if k < m then k else m
def dMin3 : List D → Option D
  | [.int i, .int j, .int k] => some (.int (min3I i j k))
  | _ => none
theorem jc_min3 : JC P (rNuC3 nuMin3) dMin3 := fun O H xs ds hp hd r d h Q q => by
  match ds, h with
  | [.int i, .int j, .int k], h =>
    cases h
    obtain ⟨v, r', rfl, h1, w, r'', rfl, h2, u, r3, rfl, h4, h3⟩ := r
    cases h3
    rw [show v = _ from h1, show w = _ from h2, show u = _ from h4]
    refine ⟨.int i, .int j, .int k, .int (min3I i j k), rfl, ?_, q _ H (Evl.Ex.refl H) rfl⟩
    show (Option.map _ (some (decide (j < i)))).bind _ = _
    unfold min3I
    by_cases h : j < i
    · by_cases h' : k < j
      · simp [h, h', nuMin2, nuLt, nuCB]
      · simp [h, h', nuMin2, nuLt, nuCB]
    · by_cases h' : k < i
      · simp [h, h', nuMin2, nuLt, nuCB]
      · simp [h, h', nuMin2, nuLt, nuCB]
end
end Z
end
section
set_option Elab.async false
set_option linter.all false
set_option maxRecDepth 100000
set_option maxHeartbeats 2000000
/-! Z: isinstance, repr, tuples, the pen -/
namespace Z
open PySem L2
open Evl (Ex)
section
variable {P : Par}
theorem j_ty {n : String} : JE P (tC (.ty n)) (eC (.ty n)) := j_c fun _ => rfl
def tyD : D → Option String
  | .non => some "NoneType"
  | .bl _ => some "bool"
  | .int _ => some "int"
  | .str _ => some "str"
  | .tup _ => some "tuple"
  | .lst _ => some "list"
  | .dic _ _ => some "dict"
  | _ => none
theorem tyD_ok {H : Hp} {d : D} {v : V} {a : String} (h : tyD d = some a) (r : Rv P H d v) : TyX P.K H v (.type a) := by
  cases d <;> cases h
  · rw [show v = _ from r]; exact .base .non
  · rw [show v = _ from r]; exact .base (.bl _)
  · rw [show v = _ from r]; exact .base (.int _)
  · rw [show v = _ from r]; exact .base (.str _)
  · obtain ⟨a, vs, rfl, h1, _⟩ := r
    rcases h1 with (h1 | ⟨o, h1⟩) | ⟨o, its, n, h1, h2, _⟩
    · exact .base (.tup h1)
    · exact .fTuple h1
    · exact .kTuple h1 h2
  · obtain ⟨a, vs, rfl, h1, _⟩ := r
    exact .base (.lst h1)
  · obtain ⟨a, kvs, rfl, h1, _⟩ := r
    exact .base (.dK h1)
def isT (a n : String) : Bool := a == n || (a == "bool" && n == "int")
def tyAll : List String := ["NoneType", "bool", "int", "str", "tuple", "list", "dict"]
def tyAsk : List String := ["bool", "int", "str", "tuple", "list", "dict"]
theorem kit_tab : (tyAll.all fun a => tyAsk.all fun n => decide (kitB a n = some (isT a n))) = true := by decide +kernel
theorem tyD_in {d : D} {a : String} (h : tyD d = some a) : a ∈ tyAll := by
  cases d <;> cases h <;> decide
theorem kit_at {a n : String} (h1 : a ∈ tyAll) (h2 : tyAsk.contains n = true) : PySem.W.kitOne P.K (.type a) (.type n) = some (isT a n) := by
  have := List.all_eq_true.mp (List.all_eq_true.mp kit_tab a h1) n (by simpa using h2)
  exact kit_ty (of_decide_eq_true this)
def dIsi : List D → Option D
  | [x, .ty n] => match tyD x with
    | some a => if tyAsk.contains n = true then some (.bl (isT a n)) else none
    | none => none
  | _ => none
theorem jc_isi : JC P (rIsi P.K) dIsi := fun O H xs ds hp hd r d h Q q => by
  match ds, h with
  | [x, .ty n], h =>
    obtain ⟨v, r', rfl, h1, w, r'', rfl, h2, h3⟩ := r
    cases h3
    rw [show w = _ from h2]
    unfold dIsi at h
    dsimp only at h
    cases e : tyD x with
    | none => rw [e] at h; cases h
    | some a =>
      rw [e] at h
      dsimp only at h
      split at h
      · rename_i hn
        cases h
        exact ⟨v, .ty n, .type a, .type n, isT a n, rfl, .ty n, tyD_ok e (Rv.ex fz_up x v h1), kit_at (tyD_in e) hn, q _ H (Evl.Ex.refl H) rfl⟩
      · cases h
/-- isinstance(x, (a, b)) -/
def eIsi2 (a b : String) (f : Sl → M D) : Sl → M D := fun s => (f s).bind fun x => match tyD x with
  | some t => if tyAsk.contains a = true ∧ tyAsk.contains b = true then M.pure (.bl (isT t a || isT t b)) else M.no
  | none => M.no
theorem j_isi2 {te : TE} {fe : Sl → M D} {a b : String} (h : JE P te fe) : JE P (tCB (rIsiT P.K) (tCons te (tCons (tTup (tCons (tC (.ty a)) (tCons (tC (.ty b)) tNil))) tNil))) (eIsi2 a b fe) := fun C s p σ H r d p' e Q q => by
  obtain ⟨x, p1, e1, e2⟩ := M.bind_ok e
  cases et : tyD x with
  | none => rw [et] at e2; cases e2
  | some t =>
    rw [et] at e2
    dsimp only at e2
    split at e2
    · rename_i hn
      cases e2
      refine h C s p σ H r x _ e1 _ fun v H1 k1 q1 r1 => ⟨(by show 2 ≤ sizeLine; rw [sizeLine_eq]; decide), fun b' hb => ?_⟩
      refine ⟨v, b', [.ty a, .ty b], .type t, [.type a, .type b], isT t a || isT t b, rfl, upd_same, .cons (.ty a) (.cons (.ty b) .nil), tyD_ok et (Rv.ex (fz_up.trans (Ex.new hb)) x v r1), ?_, q _ _ (k1.trans (.new hb)) (q1.keepNew hb) rfl⟩
      refine kitAny_cons (kit_at (tyD_in et) hn.1) (fun z => ?_) (fun z => by rw [z]; rfl)
      rw [z, Bool.false_or]
      refine kitAny_cons (kit_at (tyD_in et) hn.2) (fun y => ?_) (fun y => y)
      rw [y]
      exact kitAny_nil
    · cases e2
/-! tuples: + -/
theorem jr_catT : JR P (rCatA P.K) dCatT := fun O H x y dx dy hp hd rx ry d h Q q => by
  cases dx <;> cases dy <;> first | cases h | skip
  rename_i xs ys
  unfold dCatT at h
  dsimp only at h
  split at h
  · rename_i hz
    cases h
    obtain ⟨a, vs, rfl, h1, h2⟩ := rx
    obtain ⟨b, ws, rfl, h3, h4⟩ := ry
    refine ⟨a, b, vs, ws, rfl, rfl, sqt_ex fz_up h1, sqt_ex fz_up h3, by rw [h2.len, h4.len]; exact sz_ok hz, fun e => ?_, fun _ e => ?_, fun _ _ p hp => ?_⟩
    · have hx : xs = [] := List.length_eq_zero_iff.mp (by rw [← h2.len, e]; rfl)
      subst hx
      exact q _ H (Evl.Ex.refl H) ⟨b, ws, rfl, h3, h4⟩
    · have hy : ys = [] := List.length_eq_zero_iff.mp (by rw [← h4.len, e]; rfl)
      subst hy
      rw [List.append_nil] at q
      exact q _ H (Evl.Ex.refl H) ⟨a, vs, rfl, h1, h2⟩
    · exact q _ _ (Ex.new hp) ⟨p, vs ++ ws, rfl, .inl (.inl (fz_new hd hp)), Rvs.ex (fz_ex (Ex.new hp)) _ _ (h2.app h4)⟩
  · cases h
/-- xs * k -/
def dRepL : D → D → Option D
  | .lst xs, .int k => if sz (xs.length * k.toNat) = true ∧ decide (-1000000 ≤ k ∧ k ≤ 1000000) = true then some (.lst (List.replicate k.toNat xs).flatten) else none
  | _, _ => none
theorem Rvs.flat {H : Hp} {ds : List D} {vs : List V} (r : Rvs P H ds vs) : ∀ n, Rvs P H (List.replicate n ds).flatten (List.replicate n vs).flatten
  | 0 => rfl
  | n + 1 => by
    rw [List.replicate_succ, List.replicate_succ, List.flatten_cons, List.flatten_cons]
    exact r.app (Rvs.flat r n)
end
section
variable {P : Par}
theorem jr_repL : JR P rRep dRepL := fun O H x y dx dy hp hd rx ry d h Q q => by
  cases dx <;> cases dy <;> first | cases h | skip
  rename_i xs k
  unfold dRepL at h
  dsimp only at h
  split at h
  · rename_i hz
    cases h
    obtain ⟨a, vs, rfl, h1, h2⟩ := rx
    have hk := of_decide_eq_true hz.2
    refine ⟨a, k, vs, rfl, ry, (fz_some.mp h1).2, by omega, by omega, by rw [h2.len]; exact sz_ok hz.1, fun p hp => ?_⟩
    exact q _ _ (Ex.new hp) ⟨p, _, rfl, fz_new hd hp, Rvs.ex (fz_ex (Ex.new hp)) _ _ (Rvs.flat h2 _)⟩
  · cases h
/-! the pen -/
def ePen (i : Nat) (k : Int) : Sl → M D := fun s => match s[i]? with
  | some (.im .pen) => fun p => if k = 0 then .ok (.lst (p.cells.map .int)) p else if k = 1 then .ok (.int p.spot) p else if k = 2 then .ok (.int p.rest) p else .stuck
  | _ => M.no
theorem ints_rvs {H : Hp} : ∀ ns : List Int, Rvs P H (ns.map .int) (ns.map .int)
  | [] => rfl
  | n :: ns => ⟨_, _, rfl, rfl, ints_rvs ns⟩
theorem j_pen {i : Nat} {k : Int} : JE P (tOp (rIxL P.K) (tVar i) (tC (.int k))) (ePen i k) := fun C s p σ H r d p' e Q q => by
  unfold ePen at e
  cases hi : s[i]? with
  | none => rw [hi] at e; cases e
  | some z =>
    rw [hi] at e
    cases z with
    | un => cases e
    | ow _ => cases e
    | im d' =>
      cases d' <;> first | cases e | skip
      obtain ⟨v, h1, rfl⟩ := r.im i _ hi
      dsimp only at e
      refine ⟨_, h1, ?_⟩
      have sq : SqL P.K H P.pa _ := Evl.sq_of r.pen.2.1
      by_cases k0 : k = 0
      · subst k0
        rw [if_pos rfl] at e
        cases e
        exact ⟨P.pa, _, 0, .ref P.ca, rfl, rfl, sq, rfl, q _ H (.refl H) r.pen ⟨P.ca, _, rfl, fz_some.mpr ⟨r.ca, r.pen.2.2⟩, ints_rvs _⟩⟩
      · rw [if_neg k0] at e
        by_cases k1 : k = 1
        · subst k1
          rw [if_pos rfl] at e
          cases e
          exact ⟨P.pa, _, 1, _, rfl, rfl, sq, rfl, q _ H (.refl H) r.pen rfl⟩
        · rw [if_neg k1] at e
          by_cases k2 : k = 2
          · subst k2
            rw [if_pos rfl] at e
            cases e
            exact ⟨P.pa, _, 2, _, rfl, rfl, sq, rfl, q _ H (.refl H) r.pen rfl⟩
          · rw [if_neg k2] at e
            cases e
def sPen (i : Nat) (k : Int) (f : Sl → M D) : Sl → M (Out × Sl) := fun s => (f s).bind fun d => (M.of (asI d)).bind fun n => match s[i]? with
  | some (.im .pen) => fun p => if k = 1 then .ok (.nx, s) { p with spot := n } else if k = 2 then .ok (.nx, s) { p with rest := n } else .stuck
  | _ => M.no
theorem js_pen {te : TE} {fe : Sl → M D} {i : Nat} {k : Int} (h : JE P te fe) : JS P (tAsg te (gSub (tVar i) (tC (.int k)) rSetL)) (sPen i k fe) := fun C s p σ H r o s' p' e E l => by
  obtain ⟨d, p1, e1, e2⟩ := M.bind_ok e
  obtain ⟨n, p2, e3, e4⟩ := M.bind_ok e2
  obtain ⟨e5, rfl⟩ := M.of_ok e3
  have e6 := asI_ok e5
  subst e6
  cases hi : s[i]? with
  | none => rw [hi] at e4; cases e4
  | some z =>
    rw [hi] at e4
    cases z with
    | un => cases e4
    | ow _ => cases e4
    | im d' =>
      cases d' <;> first | cases e4 | skip
      dsimp only at e4
      refine h C s p σ H r _ _ e1 _ fun v H1 k1 q1 r1 => ?_
      have rl := r.keep k1 q1
      obtain ⟨w, h1, rfl⟩ := r.im i _ hi
      cases r1
      have kp : ∀ o, Keep P H1 (upd H1 P.pa o) := fun o b u nb eb => by rw [upd_ne nb]; exact eb
      refine ⟨_, h1, ?_⟩
      by_cases k0 : k = 1
      · subst k0
        rw [if_pos rfl] at e4
        cases e4
        have pn : PenAt P (upd H1 P.pa (.lst [.ref P.ca, .int n, .int p1.rest])) { p1 with spot := n } := ⟨q1.1, upd_same, by rw [upd_ne q1.1]; exact q1.2.2⟩
        exact ⟨P.pa, _, 1, 1, rfl, rfl, q1.2.1, rfl, l C σ _ (rl.keep (kp _) pn) ((r.go k1).trans (rl.go (kp _)))⟩
      · rw [if_neg k0] at e4
        by_cases k2 : k = 2
        · subst k2
          rw [if_pos rfl] at e4
          cases e4
          have pn : PenAt P (upd H1 P.pa (.lst [.ref P.ca, .int p1.spot, .int n])) { p1 with rest := n } := ⟨q1.1, upd_same, by rw [upd_ne q1.1]; exact q1.2.2⟩
          exact ⟨P.pa, _, 2, 2, rfl, rfl, q1.2.1, rfl, l C σ _ (rl.keep (kp _) pn) ((r.go k1).trans (rl.go (kp _)))⟩
        · rw [if_neg k2] at e4
          cases e4
/-! powers -/
def dPow := gIc (fun i j => decide (0 ≤ j ∧ j ≤ 1000000 ∧ i.natAbs < 18446744073709551616)) fun i j => .int (i ^ j.toNat)
theorem jr_pow : JR P (rI CPow fun i j => .int (i ^ j.toNat)) dPow := jr_Ic (fun i j h => of_decide_eq_true (p := 0 ≤ j ∧ j ≤ 1000000 ∧ i.natAbs < 18446744073709551616) h) fun _ _ _ => rfl
end
/-! repr of data -/
section
variable {X : Cx}
def rRepr (K : PySem.W.Frag) : List V → Hp → VK → Prop := fun xs H Q => ∃ v d, xs = [v] ∧ Dp K H v d ∧ d.showable = true ∧ d.hasDict = false ∧ d.depth ≤ 60 ∧ d.shown.length ≤ sizeLine ∧ Q (.str d.shown) H
theorem call_repr (hg : X.A.guards = some []) (hu : X.A.units + 64 < cLine) : CallR X (.builtin "repr") (rRepr X.K) := by
  intro pins s σ H xs us Q I r h
  obtain ⟨v, d, rfl, hd, h1, h2, h3, h4, q⟩ := h
  obtain ⟨u, rfl, ru⟩ := vals1 r
  have big : ∀ {a : Addr} {as : List Addr}, Reads s.heap (.ref a) d as → wpAny (model X.prog X.w) X.A (call (.builtin "repr") [.ref a]) (EP X pins σ Q) X.xe s := fun {a as} rd =>
    repr_of_reads' rd h1 (fun z => by rw [h2] at z; cases z) hg (by omega) (fun _ _ e => e) (fun h' u tk k => ⟨.str d.shown, H, I.kept k, ⟨_, rfl⟩, q⟩) h4
  cases hd with
  | non => cases ru; exact PySem.P.repr_of_none ⟨.str _, H, I.tok _, ⟨_, rfl⟩, q⟩
  | bl b => cases ru; exact PySem.P.repr_of_bool ⟨.str _, H, I.tok _, ⟨_, rfl⟩, q⟩
  | int i =>
    obtain ⟨t, rfl⟩ := ru
    exact PySem.P.repr_of_int (of_decide_eq_true (by simpa only [PyData.showable] using h1)) ⟨.str _, H, I.tok _, ⟨_, rfl⟩, by simpa only [PyData.shown] using q⟩
  | str x =>
    obtain ⟨t, rfl⟩ := ru
    exact PySem.P.repr_of_str ⟨.str _, H, I.tok _, ⟨_, rfl⟩, by simpa only [PyData.shown] using q⟩ (by simpa only [PyData.shown] using h4)
  | lst hs ha =>
    obtain ⟨as, rd⟩ := Dp.reads I _ _ u (Dp.lst hs ha) ru
    cases ru
    exact big rd
  | tup hs ha =>
    obtain ⟨as, rd⟩ := Dp.reads I _ _ u (Dp.tup hs ha) ru
    cases ru
    exact big rd
end
section
variable {P : Par}
def reprOk (d : D) : Bool := plain d && (toP d).showable && decide ((toP d).hasDict = false) && decide ((toP d).depth ≤ 60) && sz (toP d).shown.length
def dRepr : List D → Option D
  | [d] => if reprOk d = true then some (.str (toP d).shown) else none
  | _ => none
theorem jc_repr : JC P (rRepr P.K) dRepr := fun O H xs ds hp hd r d h Q q => by
  match ds, h with
  | [x], h =>
    obtain ⟨v, r', rfl, h1, h3⟩ := r
    cases h3
    unfold dRepr at h
    dsimp only at h
    split at h
    · rename_i hr
      cases h
      simp only [reprOk, Bool.and_eq_true, decide_eq_true_eq] at hr
      obtain ⟨⟨⟨⟨a1, a2⟩, a3⟩, a4⟩, a5⟩ := hr
      exact ⟨v, _, rfl, Rv.dp x v a1 (Rv.ex fz_up x v h1), a2, a3, a4, sz_ok a5, q _ H (Evl.Ex.refl H) rfl⟩
    · cases h
end
end Z
end
section
set_option Elab.async false
set_option linter.all false
set_option maxRecDepth 100000
set_option maxHeartbeats 2000000
/-! Z: further statements, own defs as they stand, keywords -/
namespace Z
open PySem L2
open Evl (Ex)
section
variable {P : Par}
def sPar3 (i j l : Nat) (f : Sl → M (List D)) : Sl → M (Out × Sl) := fun s => (f s).bind fun ds => match ds with
  | [a, b, c] => M.pure (.nx, ((s.set i (.im a)).set j (.im b)).set l (.im c))
  | _ => M.no
theorem js_par3 {i j l : Nat} {t : TA} {f : Sl → M (List D)} (h : JA P t f) : JS P (tPar3 i j l t) (sPar3 i j l f) := fun C s p σ H r o s' p' e E ld => by
  obtain ⟨ds, p1, e1, e2⟩ := M.bind_ok e
  match ds, e1, e2 with
  | [a, b, c], e1, e2 =>
    cases e2
    refine h C s p σ H r _ _ e1 _ fun vs H1 k1 q1 r1 => ?_
    obtain ⟨u, _, rfl, x0, v, _, rfl, x1, w, _, rfl, x2, rfl⟩ := r1
    have rl := r.keep k1 q1
    exact ⟨u, v, w, rfl, ld C _ H1 (((rl.set i x0).set j x1).set l x2) (r.go k1)⟩
  | [], _, e2 => cases e2
  | [_], _, e2 => cases e2
  | [_, _], _, e2 => cases e2
  | _ :: _ :: _ :: _ :: _, _, e2 => cases e2
/-- a, b = [..], e: a an own list -/
def sParOw (i j : Nat) (f : Sl → M (List D)) (g : Sl → M D) : Sl → M (Out × Sl) := fun s => (f s).bind fun ds => (g s).bind fun d => M.pure (.nx, (s.set i (.ow ds)).set j (.im d))
theorem js_parOw {i j : Nat} {ta tb : TE} {f : Sl → M (List D)} {g : Sl → M D} (ha : JL P ta f) (hb : JE P tb g) : JS P (tPar i j (tCons ta (tCons tb tNil))) (sParOw i j f g) := fun C s p σ H r o s' p' e E l => by
  obtain ⟨ds, p1, e1, e2⟩ := M.bind_ok e
  obtain ⟨d, p2, e3, e4⟩ := M.bind_ok e2
  cases e4
  refine ha C s p σ H r ds _ e1 _ fun a vs H1 hn k1 q1 h1 rv => ?_
  have ru : Rel P { C with O := fun l => C.O l ∨ l = a } s p1 σ H1 := r.under hn k1 q1 h1
  refine hb _ s p1 σ H1 ru d _ e3 _ fun v H2 k2 q2 r2 => ⟨.ref a, v, rfl, ?_⟩
  have na : a ≠ P.pa := fun z => by rw [z, r.pen.2.1] at hn; cases hn
  have h2 : H2 a = some (.lst vs) := k2 a _ na h1
  -- the state behind both, then the stores
  have r2' : Rel P { C with O := fun l => C.O l ∨ l = a } (s.set i (.ow ds)) p' (σ.set i (some (.ref a))) H2 := by
    have rk := ru.keep k2 q2
    have n0 : C.H0 a = none := by
      cases e : C.H0 a with
      | none => rfl
      | some o => rw [r.base a o na e] at hn; cases hn
    have rv2 := Rvs.ex (ru.fz k2) ds vs rv
    have no : ∀ l, C.O l → l ≠ a := fun l z e => r.free hn (e ▸ z)
    exact
      { len := by rw [List.length_set, List.length_set]; exact r.len
        pa := rk.pa, ca := rk.ca, ca0 := rk.ca0, pen := q2, dom := rk.dom, dom0 := rk.dom0, base := rk.base, sub := rk.sub
        im := fun j e h => by
          rcases set_get h with ⟨_, e1, _⟩ | ⟨hne, h⟩
          · cases e1
          · obtain ⟨u, g1, g2⟩ := rk.im j e h
            exact ⟨u, by rw [List.getElem?_set_ne (Ne.symm hne)]; exact g1, g2⟩
        ow := fun j es h => by
          rcases set_get h with ⟨rfl, e1, hl⟩ | ⟨hne, h⟩
          · cases e1
            exact ⟨a, vs, List.getElem?_set_self (by rw [r.len]; exact hl), .inr rfl, n0, h2, rv2⟩
          · obtain ⟨l, ws, g1, g2⟩ := rk.ow j es h
            exact ⟨l, ws, by rw [List.getElem?_set_ne (Ne.symm hne)]; exact g1, g2⟩
        inj := fun j m es fs l a1 a2 a3 a4 => by
          rcases set_get a1 with ⟨rfl, b1, hl1⟩ | ⟨hn1, b1⟩
          · rcases set_get a2 with ⟨rfl, _, _⟩ | ⟨hn2, b2⟩
            · rfl
            · rw [List.getElem?_set_self (by rw [r.len]; exact hl1)] at a3
              rw [List.getElem?_set_ne (Ne.symm hn2)] at a4
              obtain ⟨l2, _, g1, g2, _⟩ := r.ow m fs b2
              rw [g1] at a4
              cases a3
              cases a4
              exact absurd rfl (no _ g2)
          · rcases set_get a2 with ⟨rfl, b2, hl2⟩ | ⟨hn2, b2⟩
            · rw [List.getElem?_set_self (by rw [r.len]; exact hl2)] at a4
              rw [List.getElem?_set_ne (Ne.symm hn1)] at a3
              obtain ⟨l2, _, g1, g2, _⟩ := r.ow j es b1
              rw [g1] at a3
              cases a3
              cases a4
              exact absurd rfl (no _ g2)
            · rw [List.getElem?_set_ne (Ne.symm hn1)] at a3
              rw [List.getElem?_set_ne (Ne.symm hn2)] at a4
              exact r.inj j m es fs l b1 b2 a3 a4 }
  exact l _ _ H2 (r2'.set j r2) ((r.goOw hn (k1.trans k2)))
def dIsB : D → D → Option D
  | .bl a, .bl b => some (.bl (decide (a = b)))
  | _, _ => none
theorem jr_isB : JR P rIsB dIsB := fun O H x y dx dy hp hd rx ry d h Q q => by
  cases dx <;> cases dy <;> cases h
  exact ⟨_, _, rx, ry, q _ H (Evl.Ex.refl H) rfl⟩
def isN : D → Bool
  | .non => true
  | _ => false
def dIsN (x y : D) : Option D := if isN y = true then some (.bl (isN x)) else none
def dNotN (x y : D) : Option D := if isN y = true then some (.bl (!isN x)) else none
theorem isN_v {H : Hp} {d : D} {v : V} (r : Rv P H d v) : decide (v = .non) = isN d := by
  cases d
  case non => rw [show v = _ from r]; rfl
  case bl => rw [show v = _ from r]; rfl
  case int => rw [show v = _ from r]; rfl
  case str => rw [show v = _ from r]; rfl
  case ty => rw [show v = _ from r]; rfl
  case pen => rw [show v = _ from r]; rfl
  all_goals
    obtain ⟨a, _, h⟩ := r
    first
      | (obtain ⟨_, h, _⟩ := h; subst h; rfl)
      | (obtain ⟨h, _⟩ := h; subst h; rfl)
      | (subst h; rfl)
theorem jr_isN : JR P (fun x y H Q => y = .non ∧ Q (.bl (decide (x = .non))) H) dIsN := fun O H x y dx dy hp hd rx ry d h Q q => by
  unfold dIsN at h
  split at h
  · rename_i hn
    cases h
    refine ⟨?_, ?_⟩
    · rw [← isN_v ry] at hn
      exact of_decide_eq_true hn
    · rw [isN_v rx]
      exact q _ H (Evl.Ex.refl H) rfl
  · cases h
theorem jr_notN : JR P (fun x y H Q => y = .non ∧ Q (.bl (!decide (x = .non))) H) dNotN := fun O H x y dx dy hp hd rx ry d h Q q => by
  unfold dNotN at h
  split at h
  · rename_i hn
    cases h
    refine ⟨?_, ?_⟩
    · rw [← isN_v ry] at hn
      exact of_decide_eq_true hn
    · rw [isN_v rx]
      exact q _ H (Evl.Ex.refl H) rfl
  · cases h
def sNo : Sl → M (Out × Sl) := fun _ => M.no
theorem js_never : JS P tNever sNo := fun C s p σ H r o s' p' e E l => nomatch e
/-- keywords: gD puts the arguments in the parameters' order -/
def eOwnK (n : Nat) (m : List D → M D) (gD : List D → List D → List D) (f k : Sl → M (List D)) : Sl → M D := fun s => (f s).bind fun ds => (k s).bind fun es => if (gD ds es).length = n then m (gD ds es) else M.no
theorem j_ownK {n : Nat} {m : List D → M D} {gV : List V → List V → List V} {gD : List D → List D → List D} {E : XK} {t tk : TA} {f k : Sl → M (List D)} (hg : ∀ H ds es vs ws, Rvs P H ds vs → Rvs P H es ws → Rvs P H (gD ds es) (gV vs ws)) (h : JA P t f) (h2 : JA P tk k) :
    JE P (tCallK (spM P.K P.cl n m) gV E t tk) (eOwnK n m gD f k) := fun C s p σ H rl d p' e Q q => by
  obtain ⟨ds, p1, h1, e⟩ := M.bind_ok e
  obtain ⟨es, p2, h3, e⟩ := M.bind_ok e
  split at e
  · rename_i hn
    refine h C s p σ H rl ds _ h1 _ fun vs H1 k1 q1 r1 => ?_
    have rl1 := rl.keep k1 q1
    refine h2 C s p1 σ H1 rl1 es _ h3 _ fun ws H2 k2 q2 r2 => ?_
    have rl2 := rl1.keep k2 q2
    exact ⟨P, rfl, rfl, C.O, gD ds es, p2, d, p', hn, rl.paO, rl.ca, rl2.dom, q2, hg _ _ _ _ _ (Rvs.ex (rl1.fz k2) ds vs r1) r2, e, fun v H3 k3 q3 r3 => q v H3 ((k1.trans k2).trans k3) q3 r3⟩
  · cases e
end
/-! ### own defs -/
open PyProof.Rows
section
variable (Pg : Program) (w : World) (K : PySem.W.Frag) (mg : Str → Option Value) (base : Heap)
/-- the def st stands at the module's name x -/
def DefIn (K : PySem.W.Frag) (mg : Str → Option Value) (x : Str) (st : Stmt) : Prop := ∃ f fd, Fun K x x st f fd ∧ mg x = some (.ref f)
/-- .. and keeps a promise -/
def Own (k : Nat) (x : Str) (ps : List Str) (sp : Sp) : Prop := ∃ f fd, FnG Pg w K mg base CX0 k f fd ps sp ∧ Binds K fd ps [] ∧ mg x = some (.ref f) ∧ PySem.W.keepIn K (.ref f) = true
end
section
variable {Pg : Program} {w : World} {K : PySem.W.Frag} {mg : Str → Option Value} {base : Heap}
/-- .. with the def itself told -/
def OwnF (Pg : Program) (w : World) (K : PySem.W.Frag) (mg : Str → Option Value) (base : Heap) (k : Nat) (x : Str) (st : Stmt) (ps : List Str) (sp : Sp) : Prop := ∃ f fd, Fun K x x st f fd ∧ FnG Pg w K mg base CX0 k f fd ps sp ∧ mg x = some (.ref f)
theorem OwnF.own {k : Nat} {x : Str} {st : Stmt} {ps : List Str} {sp : Sp} (h : OwnF Pg w K mg base k x st ps sp)
    (hbi : ∀ (kV doc pm : Value) (an : Option Addr) (cd ct : Value) (us : List Value), us.length = ps.length → bindArgs (PySem.W.fnOf x x (defArgs st) (defBody st) (defScope st) .none kV doc pm an cd ct) ⟨us, []⟩ = pure (ps.zip us)) : Own Pg w K mg base k x ps sp := by
  obtain ⟨f, fd, F, G, m⟩ := h
  exact ⟨f, fd, G, F.binds hbi, m, F.kp⟩
theorem own_of {x : Str} {st : Stmt} {N ps : List Str} {k : Nat} {sp : Sp} (h : DefIn K mg x st) (T : FnScope N ps (defScope st)) (ln : ∀ vs H Q E, sp vs H Q E → vs.length = ps.length)
    (hb : ∀ (f : Addr) (cd : Value) (A : Around) (ou : List Env) (s : Shared) (H : Hp) (vs : List V) (Q : VK) (E : XK), Room k (A.deeper (envOfC x (defScope st) s.heap.objs.size f cd)) → A.guards = some [] → sp vs H Q E →
      ∃ t, PSs (cxOf CX0 Pg w K mg base N x (defScope st) f cd A ou s H E).nox (defBody st) t ∧ t { nx := fun _ H' => Q .non H', rt := Q } (L2.start N vs) H) : OwnF Pg w K mg base (k + 1) x st ps sp := by
  obtain ⟨f, fd, F, m⟩ := h
  exact ⟨f, fd, F, fn_g F T ln (fun cd A ou s H vs Q E r g q => let ⟨t, h1, h2⟩ := hb f cd A ou s H vs Q E r g q; ⟨t, h1.nox, h2⟩), m⟩
variable {Y : Cx} {k : Nat} {ps ks : List Str} {sp : Sp} {x : Str} {p pos : Pos} {e : Expr} {es : List Expr} {kws : List Keyword} {t tk : TA}
theorem pe_own (h : Own Y.prog Y.w Y.K Y.mg Y.base k x ps sp) (r : Room k Y.A) (g : Y.A.guards = some []) (ha : PA Y (e :: es) t) (hg : Gl Y x := by rfl) (hdb : (x == ("__debug__" : Str)) = false := by decide)
    (he : starEach (e :: es) Y.env = (false, eval e Y.env) :: starEach es Y.env := by rfl) (hpl : (backTo pos (starEach es Y.env)).any (·.1) = false := by rfl) : PE Y (.Call (.Name x p) (e :: es) [] pos) (tCall sp [] E0 t) := by
  obtain ⟨f, fd, F, b, m, kp⟩ := h
  exact pe_g F r g hg m kp b .nil pass0 ha hdb he hpl
theorem pe_gi {i : Int} (h : ∃ t, Y.mg x = some (.int i t)) (hg : Gl Y x := by rfl) (hd : (x == ("__debug__" : Str)) = false := by decide) : PE Y (.Name x pos) (tC (.int i)) := by
  obtain ⟨t, h⟩ := h
  exact pe_glob hg h ⟨t, rfl⟩ hd
/-- a call by keywords alone -/
def OwnK (Pg : Program) (w : World) (K : PySem.W.Frag) (mg : Str → Option Value) (base : Heap) (k : Nat) (x : Str) (ps ks : List Str) (g : List Value → List Value → List Value) (gV : List V → List V → List V) (sp : Sp) : Prop :=
  ∃ f fd, FnG Pg w K mg base CX0 k f fd ps sp ∧ KBinds K fd ps ks g gV ∧ mg x = some (.ref f) ∧ PySem.W.keepIn K (.ref f) = true
theorem OwnF.ownK {Pg : Program} {w : World} {K : PySem.W.Frag} {mg : Str → Option Value} {base : Heap} {st : Stmt} {g : List Value → List Value → List Value} {gV : List V → List V → List V} (h : OwnF Pg w K mg base k x st ps sp)
    (hb : ∀ (kV doc pm : Value) (an : Option Addr) (cd ct : Value) (us ws : List Value), (g us ws).length = ps.length → bindArgs (PySem.W.fnOf x x (defArgs st) (defBody st) (defScope st) .none kV doc pm an cd ct) ⟨us, ks.zip ws⟩ = pure (ps.zip (g us ws)))
    (hr : ∀ {vs : List V} {us : List Value} {zs : List V} {ws : List Value}, Vals vs us → Vals zs ws → Vals (gV vs zs) (g us ws)) : OwnK Pg w K mg base k x ps ks g gV sp := by
  obtain ⟨f, fd, F, G, m⟩ := h
  obtain ⟨oc, od, kV, doc, pm, an, cd, ct, osl, rfl, _⟩ := id F.ex
  exact ⟨f, _, G, ⟨fun s us ws _ hl => .of_eq (hb kV doc pm an cd ct us ws hl), hr⟩, m, F.kp⟩
theorem pe_ownK0 {g : List Value → List Value → List Value} {gV : List V → List V → List V} (h : OwnK Y.prog Y.w Y.K Y.mg Y.base k x ps ks g gV sp) (r : Room k Y.A) (gd : Y.A.guards = some []) (hk : PK Y kws tk) (hg : Gl Y x := by rfl)
    (hall : (backToKw pos (keywordEach kws Y.env)).all (·.1.isSome) = true := by rfl) (hks : (backToKw pos (keywordEach kws Y.env)).filterMap (·.1) = ks := by rfl) (hdb : (x == ("__debug__" : Str)) = false := by decide)
    (hpl : ((backTo pos (starEach [] Y.env)).any (·.1) || (backToKw pos (keywordEach kws Y.env)).any (·.1.isNone)) = false := by rfl) : PE Y (.Call (.Name x p) [] kws pos) (tCallK sp gV E0 tNil tk) := by
  obtain ⟨f, fd, F, b, m, kp⟩ := h
  constructor
  intro pins s σ H Q I hq
  refine wpAny_Call_Name_kw (ld_glob I hg m ?_ hdb)
  refine PySem.W.callWith_KW0 (h₀ := Y.base) I.ok.mod.kin kp hall (thn (hk.run pos pins s σ H _ I hq) fun ws s1 z => ?_) hpl
  obtain ⟨zs, H1, I1, rz, q⟩ := z
  rw [hks]
  have rg := b.rel (vs := []) (us := []) .nil rz
  refine ⟨I1.kIn, run_g (ar := ⟨[], ks.zip ws⟩) F r gd pass0 I1 (b.to s1 [] ws I1.kIn (by rw [← rg.length]; exact F.ln _ _ _ _ q)) rg q⟩
end
end Z
namespace Z
open PySem L2
/-! in, over flat things: lists and tuples -/
def dV : D → Option V
  | .non => some .non
  | .bl b => some (.bl b)
  | .int i => some (.int i)
  | .str x => some (.str x)
  | _ => none
def dVs : List D → Option (List V)
  | [] => some []
  | d :: ds => (dV d).bind fun v => (dVs ds).map fun vs => v :: vs
section
variable {P : Par}
theorem dV_v {H : Hp} {d : D} {v u : V} (h : dV d = some u) (r : Rv P H d v) : v = u := by
  cases d <;> cases h <;> exact r
theorem dV_flat {d : D} {u : V} (h : dV d = some u) : flatV u = true := by
  cases d <;> cases h <;> rfl
theorem dVs_v {H : Hp} : ∀ {ds : List D} {vs us : List V}, dVs ds = some us → Rvs P H ds vs → vs = us ∧ us.all flatV = true
  | [], _, _, h, r => by
    cases h
    exact ⟨r, rfl⟩
  | d :: ds, _, us, h, ⟨v, ws, rfl, r1, r2⟩ => by
    unfold dVs at h
    cases e : dV d with
    | none => rw [e] at h; cases h
    | some u =>
      rw [e] at h
      cases e2 : dVs ds with
      | none => rw [e2] at h; cases h
      | some xs =>
        rw [e2] at h
        cases h
        obtain ⟨h1, h2⟩ := dVs_v e2 r2
        refine ⟨by rw [dV_v e r1, h1], ?_⟩
        rw [List.all_cons, dV_flat e, h2]
        rfl
def seqOf : D → Option (List D)
  | .lst ds => some ds
  | .tup ds => some ds
  | _ => none
def dInF (neg : Bool) (x y : D) : Option D := (dV x).bind fun u => (seqOf y).bind fun ds => (dVs ds).map fun us => .bl (if neg then !inV u us else inV u us)
theorem jr_inF {neg : Bool} : JR P (rIn P.K neg) (dInF neg) := fun O H x y dx dy hp hd rx ry d h Q q => by
  unfold dInF at h
  cases e1 : dV dx with
  | none => rw [e1] at h; cases h
  | some u =>
    rw [e1] at h
    cases e2 : seqOf dy with
    | none => rw [e2] at h; cases h
    | some ds =>
      rw [e2] at h
      cases e3 : dVs ds with
      | none =>
        have h : (dVs ds).map (fun us => D.bl (if neg then !inV u us else inV u us)) = some d := h
        rw [e3] at h
        cases h
      | some us =>
        have h : (dVs ds).map (fun us => D.bl (if neg then !inV u us else inV u us)) = some d := h
        rw [e3] at h
        cases h
        have hx := dV_v e1 rx
        subst hx
        cases dy <;> cases e2
        · obtain ⟨a, vs, rfl, h1, h2⟩ := ry
          obtain ⟨rfl, hf⟩ := dVs_v e3 h2
          exact ⟨a, vs, rfl, .inr (sqt_ex fz_up h1), dV_flat e1, hf, q _ H (Evl.Ex.refl H) rfl⟩
        · obtain ⟨a, vs, rfl, h1, h2⟩ := ry
          obtain ⟨rfl, hf⟩ := dVs_v e3 h2
          exact ⟨a, vs, rfl, .inl (Evl.sq_of (fz_some.mp h1).2), dV_flat e1, hf, q _ H (Evl.Ex.refl H) rfl⟩
end
end Z
end
section
set_option Elab.async false
set_option linter.all false
set_option maxRecDepth 100000
set_option maxHeartbeats 2000000
/-! Rules whose reading names the written part K itself (so that it does not hang on the state within a comprehension). -/
namespace Z
open PySem L2 PyProof.Rows
section
variable {X : Cx} {K : PySem.W.Frag}
theorem k_ixL (h : X.K = K) : IxR X (rIxL K) := h ▸ ix_list
theorem k_ixT (h : X.K = K) : IxR X (rIxT K) := h ▸ ix_tup
theorem k_ix (h : X.K = K) : IxR X (rIx K) := h ▸ ix_seq
theorem k_slL (h : X.K = K) : SlR X (rSlL K) := h ▸ sl_list
theorem k_len (h : X.K = K) : CallR X (.builtin "len") (fun xs H Q => ∃ p ys, xs = [.ref p] ∧ (SqL K H p ys ∨ SqT K H p ys) ∧ Q (.int ys.length) H) := h ▸ call_len_seq
theorem k_list (h : X.K = K) : CallR X (.type "list") (fun xs H Q => ∃ p ys, xs = [.ref p] ∧ (SqL K H p ys ∨ SqT K H p ys) ∧ ∀ l, H l = none → Q (.ref l) (upd H l (.lst ys))) := h ▸ call_list_of
theorem k_tuple (h : X.K = K) : CallR X (.type "tuple") (fun xs H Q => ∃ p ys, xs = [.ref p] ∧ ((SqL K H p ys ∧ ∀ l, H l = none → Q (.ref l) (upd H l (.tup ys))) ∨ (SqT K H p ys ∧ Q (.ref p) H))) := h ▸ call_tuple_of
theorem k_catT (h : X.K = K) : OpR X (binaryOp .Add) (rCatA K) := h ▸ op_catA
theorem k_eqD (h : X.K = K) (hu : X.A.units + 64 < cLine) : OpR X (compareOp .Eq) (rEqD K) := h ▸ op_eqD hu
theorem k_neD (h : X.K = K) (hu : X.A.units + 64 < cLine) : OpR X (compareOp .NotEq) (rNeD K) := h ▸ op_neD hu
theorem k_inD (h : X.K = K) (hu : X.A.units + 65 < cLine) : OpR X (compareOp .In) (rInD K) := h ▸ op_inD hu
theorem k_notInD (h : X.K = K) (hu : X.A.units + 65 < cLine) : OpR X (compareOp .NotIn) (rNotInD K) := h ▸ op_notInD hu
theorem k_in (h : X.K = K) : OpR X (compareOp .In) (rIn K false) := h ▸ op_in_seq
theorem k_notIn (h : X.K = K) : OpR X (compareOp .NotIn) (rIn K true) := h ▸ op_notIn_seq
theorem k_isi (h : X.K = K) : CallR X (.builtin "isinstance") (rIsi K) := h ▸ call_isi
theorem k_isiT (h : X.K = K) : CallR X (.builtin "isinstance") (rIsiT K) := h ▸ call_isiT
theorem k_repr (h : X.K = K) (hg : X.A.guards = some []) (hu : X.A.units + 64 < cLine) : CallR X (.builtin "repr") (rRepr K) := h ▸ call_repr hg hu
theorem k_piL {tg l : Expr} {tl : TE} (h : X.K = K) (hl : PE X l tl) : PI X tg l (iList K tl) := h ▸ pi_list hl
theorem k_piT {tg l : Expr} {tl : TE} (h : X.K = K) (hl : PE X l tl) : PI X tg l (iTup K tl) := h ▸ pi_tup hl
theorem k_pgT {es : List Expr} {k : Nat} {pos : Pos} {t : TGs} {n : Nat} (h : X.K = K) (hc : X.calm = true) (hp : PGs X es t) (hn : (assignEach es X.env).length = n := by rfl) (hst : (assignEach es X.env).findIdx? (·.1) = none := by rfl) : PG X (.Tuple es k pos) (gTup K n t) := h ▸ pg_tup hc hp hn hst
end
/-- an index into a list or a tuple -/
def dIx : D → D → Option D
  | .lst ds, .int i => L2.atI ds i
  | .tup ds, .int i => L2.atI ds i
  | _, _ => none
theorem jr_ix {P : Par} : JR P (rIx P.K) dIx := fun O H x y dx dy hp hd rx ry d h Q q => by
  cases dx <;> cases dy <;> first | cases h | skip
  · exact .inr (.inl (jr_ixT O H x y _ _ hp hd rx ry d h Q q))
  · exact .inl (jr_ixL O H x y _ _ hp hd rx ry d h Q q)
end Z
end
section
set_option Elab.async false
set_option linter.all false
set_option maxRecDepth 100000
set_option maxHeartbeats 2000000
/-! The law's own def, the pen's making, and the end. -/
namespace Z
open PySem L2 PyProof.Rows
open Evl (Ex)
/-- a def as the head's facts tell it -/
def DefK (K : PySem.W.Frag) (x : Str) (st : Stmt) : Prop := ∃ (f : Addr) (oc : Value) (od : Option Addr) (kV doc pm : Value) (an : Option Addr) (cd ct : Value) (sl : Array (Option Value)),
  PySem.W.nsIn K mainGlobals x = some (some (.ref f)) ∧ K.lookup f = some ⟨oc, od, .func (PySem.W.fnOf x x (defArgs st) (defBody st) (defScope st) .none kV doc pm an cd ct), sl⟩ ∧ PySem.W.codeIn K cd x = true ∧ PySem.W.keepIn K (.ref f) = true
theorem DefK.mk {K : PySem.W.Frag} {x : Str} {st : Stmt} {f : Addr} {oc : Value} {od : Option Addr} {kV doc pm : Value} {an : Option Addr} {cd ct : Value} {sl : Array (Option Value)}
    (a : PySem.W.nsIn K mainGlobals x = some (some (.ref f))) (l : K.lookup f = some ⟨oc, od, .func (PySem.W.fnOf x x (defArgs st) (defBody st) (defScope st) .none kV doc pm an cd ct), sl⟩) (c : PySem.W.codeIn K cd x = true) (k : PySem.W.keepIn K (.ref f) = true) : DefK K x st :=
  ⟨f, oc, od, kV, doc, pm, an, cd, ct, sl, a, l, c, k⟩
theorem ex_int {K : PySem.W.Frag} {x : Str} {i : Int} {t : Tok} (h : PySem.W.nsIn K mainGlobals x = some (some (.int i t))) : ∃ t, PySem.W.nsIn K mainGlobals x = some (some (.int i t)) := ⟨t, h⟩
theorem DefK.inn {K : PySem.W.Frag} {x : Str} {st : Stmt} {h : Heap} {mg : Str → Option Value} (X : K.In h) (G : h.Ns mainGlobals mg) (d : DefK K x st) : DefIn K mg x st := by
  obtain ⟨f, oc, od, kV, doc, pm, an, cd, ct, sl, a, l, c, k⟩ := d
  exact ⟨f, _, fun_mk l c k, PySem.W.mg_of X G a⟩
def spPen (K : PySem.W.Frag) : Sp := fun vs H Q _ => ∃ (a : Addr) (ns : List Int), vs = [.ref a] ∧ SqL K H a (ns.map V.int) ∧ ns.length ≤ 63 ∧
  ∀ p c H', H p = none → p ≠ c → Ex H H' → H' p = some (.lst [.ref c, .int 0, .int 0]) → H' c = some (.lst (ns.map V.int)) → Q (.ref p) H'
def spLaw (K : PySem.W.Frag) : Sp := fun vs H Q _ => ∃ (a : Addr) (ns : List Int), vs = [.ref a] ∧ SqL K H a (ns.map V.int) ∧ ns.length ≤ 63 ∧ ∀ H', Q (.bl true) H'
theorem spPen.len {K : PySem.W.Frag} {vs : List V} {H : Hp} {Q : VK} {E : XK} (h : spPen K vs H Q E) : vs.length = 1 := by
  obtain ⟨a, ns, rfl, _⟩ := h
  rfl
theorem spLaw.len {K : PySem.W.Frag} {vs : List V} {H : Hp} {Q : VK} {E : XK} (h : spLaw K vs H Q E) : vs.length = 1 := by
  obtain ⟨a, ns, rfl, _⟩ := h
  rfl
/-- the reading of return [[int(cell) for cell in script[:63]], 0, 0] -/
theorem pen_reads {K : PySem.W.Frag} {vs : List V} {H : Hp} {Q : VK} {E : XK} {i : Nat} {m : Int} (hi : i = 1) (hm : 63 ≤ m) (h : spPen K vs H Q E) :
    tRet (tLst (tCons (tLc (iList K (tSl (rSlL K) (tVar 0) tNoPart (tPart (tC (.int m))))) (gName i) tYes (tCB (fun xs H Q => (∃ i, xs = [.int i] ∧ Q (.int i) H) ∨ ∃ k, xs = [.bl k] ∧ Q (.int (if k then 1 else 0)) H) (tCons (tVar i) tNil)) [i]) (tCons (tC (.int 0)) (tCons (tC (.int 0)) tNil))))
      { nx := fun _ H' => Q .non H', rt := Q } (vs.map some ++ [none]) H := by
  subst hi
  obtain ⟨a, ns, rfl, hs, hl, k⟩ := h
  have cut : cutV (ns.map V.int) none (some m) = ns.map V.int := by
    unfold cutV
    have h1 : HT.sIx (ns.map V.int).length 0 none = 0 := rfl
    have h2 : (ns.map V.int).length ≤ HT.sIx (ns.map V.int).length (ns.map V.int).length (some m) := by
      rw [List.length_map]
      show ns.length ≤ _
      unfold HT.sIx
      dsimp only
      split <;> omega
    rw [h1, List.drop_zero, Nat.sub_zero]
    exact List.take_of_length_le h2
  have e1 : Evl.EvL (tSl (rSlL K) (tVar 0) tNoPart (tPart (tC (.int m)))) ([V.ref a].map some ++ [none]) H (ns.map V.int) := by
    have := Evl.el_sl (K := K) (te := tVar 0) (tl := tNoPart) (th := tPart (tC (.int m))) (σ := [V.ref a].map some ++ [none]) (H := H) (a := a) (xs := ns.map V.int) (lo := none) (hi := some m) (Evl.ev_var rfl) Evl.eo_none (Evl.eo_some Evl.ev_c) hs
    rw [cut] at this
    exact this
  have e2 := Evl.el_lcNL (K := K) (σ := [V.ref a].map some ++ [none]) (H := H) (xs := ns.map V.int) (j := 1) (vs := [1]) (t := tYes) (te := tCB (fun xs H Q => (∃ i, xs = [.int i] ∧ Q (.int i) H) ∨ ∃ k, xs = [.bl k] ∧ Q (.int (if k then 1 else 0)) H) (tCons (tVar 1) tNil))
    (fun _ => true) (fun i => .int (ns.getD i 0)) e1 (by rw [List.length_map]; omega) (fun x => rfl) (fun i x H1 e hx => fun H2 e2 Q q => q H2 (Evl.Ex.refl H2)) (fun i x H1 e hx _ => by
      intro H2 e2 Q q
      rw [List.getElem?_map] at hx
      cases hn : ns[i]? with
      | none => rw [hn] at hx; cases hx
      | some n =>
        rw [hn] at hx
        cases hx
        have hd : ns.getD i 0 = n := by rw [List.getD_eq_getElem?_getD, hn]; rfl
        rw [hd] at q
        exact ⟨.int n, rfl, .inl ⟨n, rfl, q H2 (Evl.Ex.refl H2)⟩⟩)
  have gv : Evl.given (ns.map V.int).length (fun _ => true) (fun i => V.int (ns.getD i 0)) = ns.map V.int := by
    unfold Evl.given
    rw [List.length_map, List.filter_eq_self.mpr (fun _ _ => rfl)]
    refine List.ext_getElem? fun j => ?_
    rw [List.getElem?_map, List.getElem?_map]
    by_cases hj : j < ns.length
    · rw [List.getElem?_range hj, List.getElem?_eq_getElem hj]
      show some (V.int (ns.getD j 0)) = _
      rw [List.getD_eq_getElem?_getD, List.getElem?_eq_getElem hj]
      rfl
    · rw [List.getElem?_eq_none (by rw [List.length_range]; omega), List.getElem?_eq_none (by omega)]
      rfl
  rw [gv] at e2
  unfold tRet tLst tCons
  dsimp only
  refine e2 H (Evl.Ex.refl H) _ fun c H2 hc e hcv => ?_
  refine ⟨by show 3 ≤ sizeLine; rw [sizeLine_eq]; decide, fun p hp => ?_⟩
  have npc : p ≠ c := fun z => by rw [z, hcv] at hp; cases hp
  exact k p c _ (Evl.fresh_back e hp) npc (e.trans (Ex.new hp)) upd_same (by rw [upd_ne npc.symm]; exact hcv)
/-- where the law's turns begin -/
def s0 (N i : Nat) : Sl := (List.replicate N SD.un).set i (.im .pen)
def LawM (N i : Nat) (g : Sl → M (Out × Sl)) : Prop := ∀ cells : List Int, cells.length ≤ 63 → ∃ s' p', g (s0 N i) ⟨cells, 0, 0⟩ = .ok (.rt (.bl true), s') p'
theorem law_reads {K : PySem.W.Frag} {cl : Str → Addr} {N : List Str} {i : Nat} {ts : TS} {g : Sl → M (Out × Sl)} (hN : 0 < N.length) (hi : i < N.length) (h : ∀ pa ca, JS ⟨K, pa, ca, cl⟩ ts g) (hm : LawM N.length i g) {vs : List V} {H : Hp} {Q : VK} {E : XK} (sp : spLaw K vs H Q E) :
    tSeq (tAsg (tCall (spPen K) [] E0 (tCons (tVar 0) tNil)) (gName i)) ts { nx := fun _ H' => Q .non H', rt := Q } (L2.start N vs) H := by
  obtain ⟨a, ns, rfl, hs, hl, k⟩ := sp
  have st : L2.start N [V.ref a] = some (V.ref a) :: List.replicate (N.length - 1) none := rfl
  refine ⟨.ref a, by rw [st]; rfl, a, ns, rfl, hs, hl, fun p c H' hp npc e h1 h2 => ?_⟩
  obtain ⟨s', p', hg⟩ := hm ns hl
  refine h p c ⟨(· = p), (· = p), H'⟩ (s0 N.length i) ⟨ns, 0, 0⟩ _ H' ?_ _ s' p' hg _ ?_
  · have sl : ∀ j d, (s0 N.length i)[j]? = some d → d = .un ∨ (j = i ∧ d = .im .pen) := fun j d hj => by
      rcases set_get hj with ⟨e1, e2, _⟩ | ⟨_, hj⟩
      · exact .inr ⟨e1, e2⟩
      · rw [List.getElem?_replicate] at hj
        split at hj
        · exact .inl (Option.some.inj hj).symm
        · cases hj
    exact
      { len := by show ((L2.start N [V.ref a]).set i _).length = _; unfold s0; rw [st]; simp; omega
        pa := rfl, ca := fun z => npc z.symm, ca0 := ⟨_, h2⟩
        pen := ⟨fun z => npc z.symm, h1, h2⟩
        dom := (fun l z => by have z : l = p := z; subst z; exact ⟨_, h1⟩), dom0 := (fun l z => by have z : l = p := z; subst z; exact ⟨_, h1⟩)
        base := .refl H', sub := fun _ z => z
        im := fun j d hj => by
          rcases sl j _ hj with z | ⟨rfl, z⟩
          · cases z
          · cases z
            exact ⟨.ref p, List.getElem?_set_self (by rw [st]; simp; omega), rfl⟩
        ow := fun j d hj => by
          rcases sl j _ hj with z | ⟨_, z⟩ <;> cases z
        inj := fun j m d e l hj => by
          rcases sl j _ hj with z | ⟨_, z⟩ <;> cases z }
  · intro v H2 _ _ rv
    rw [show v = V.bl true from rv]
    exact k H2
theorem law_binds {K : PySem.W.Frag} {x : Str} {st : Stmt} {f : Addr} {fd : FuncData} {ps : List Str} (F : Fun K x x st f fd)
    (h : ∀ (kV doc pm : Value) (an : Option Addr) (cd ct : Value) (us : List Value), us.length = ps.length → bindArgs (PySem.W.fnOf x x (defArgs st) (defBody st) (defScope st) .none kV doc pm an cd ct) ⟨us, []⟩ = pure (ps.zip us)) (hp : ps = (["script"] : List Str)) : ∀ (s : Shared) (u : Value), BindsTo s fd ⟨[u], []⟩ [("script", u)] := by
  subst hp
  obtain ⟨oc, od, kV, doc, pm, an, cd, ct, sl, rfl, _⟩ := F.ex
  exact fun s u => .of_eq (h kV doc pm an cd ct [u] rfl)
end Z
end
section
set_option Elab.async false
set_option linter.all false
set_option maxRecDepth 100000
set_option maxHeartbeats 4000000
/-! The draws. -/
namespace Z
open PySem L2
/-- the plain side of _law_draw -/
def drawG (a b c e : Int) : Sl → M (Out × Sl) := (sSeq (sIf (bTest (eOp dGt (ePen 0 2) (eC (.int 0)))) (sSeq (sAsg (eCall dInt (aCons (ePen 0 2) aNil)) (tgN 2))
    (sSeq (sPen 0 2 (eOp dDiv (eVar 2) (eVar 1)))
    (sRet (eOp dMod (eCall dInt (aCons (eVar 2) aNil)) (eVar 1))))) sNx)
    (sSeq (sAsg (ePen 0 1) (tgN 3))
    (sSeq (sPen 0 1 (eOp dAdd (eVar 3) (eC (.int 1))))
    (sSeq (sAsg (eOp dAdd (eOp dMul (eC (.int a)) (eVar 3)) (eC (.int b))) (tgN 4))
    (sSeq (sIf (bTest (eOp dNeD (ePen 0 0) (eLst aNil))) (sAsg (eOp dIxL (ePen 0 0) (eOp dMod (eCall dInt (aCons (eVar 3) aNil)) (eCall dLen (aCons (ePen 0 0) aNil)))) (tgN 4)) sNx)
    (sSeq (sIf (bAnd (bTest (eOp dLt (eVar 3) (eCall dLen (aCons (ePen 0 0) aNil)))) (bTest (eOp dGe (eCall dAbs (aCons (eVar 4) aNil)) (eOp dPow (eC (.int 10)) (eC (.int 18)))))) (sSeq (sAsg (eOp dAdd (eOp dMul (eC (.int 2)) (eOp dSub (eCall dAbs (aCons (eVar 4) aNil)) (eOp dPow (eC (.int 10)) (eC (.int 18))))) (eCall dInt (aCons (eOp dLt (eVar 4) (eC (.int 0))) aNil))) (tgN 5))
    (sSeq (sPen 0 2 (eOp dDiv (eCall dInt (aCons (eVar 5) aNil)) (eVar 1)))
    (sRet (eOp dMod (eCall dInt (aCons (eVar 5) aNil)) (eVar 1))))) sNx)
    (sSeq (sAsg (eOp dMod (eCall dInt (aCons (eOp dPow (eOp dAdd (eOp dAdd (eOp dMod (eCall dInt (aCons (eVar 4) aNil)) (eC (.int 2147483549))) (eOp dMul (eC (.int c)) (eVar 3))) (eC (.int b))) (eC (.int 3))) aNil)) (eC (.int 2147483629))) (tgN 6))
    (sSeq (sAsg (eOp dMod (eCall dInt (aCons (eOp dPow (eOp dAdd (eOp dAdd (eOp dMul (eVar 6) (eOp dAdd (eOp dMul (eC (.int 2)) (eVar 3)) (eC (.int e)))) (eOp dMul (eOp dMul (eC (.int b)) (eVar 3)) (eVar 3))) (eC (.int a))) (eC (.int 5))) aNil)) (eC (.int 2147483563))) (tgN 6))
    (sRet (eOp dMod (eCall dInt (aCons (eOp dDiv (eVar 6) (eC (.int 32))) aNil)) (eVar 1)))))))))))
theorem canLay_ints : ∀ ns : List Int, PyData.canLayAll0 (toPs (ns.map .int)) = true
  | [] => by simp [toPs, PyData.canLayAll0]
  | n :: ns => by simp [toPs, toP, PyData.canLayAll0, PyData.canLay0, canLay_ints ns]
theorem depth_ints : ∀ ns : List Int, PyData.depthAll (toPs (ns.map .int)) = 0
  | [] => by simp [toPs, PyData.depthAll]
  | n :: ns => by simp [toPs, toP, PyData.depthAll, PyData.depth, depth_ints ns]
theorem plains_ints : ∀ ns : List Int, plains (ns.map .int) = true
  | [] => rfl
  | n :: ns => by simp [plains, plain, plains_ints ns]
theorem fit_ints (ns : List Int) : fitD (.lst (ns.map .int)) = true := by
  simp [fitD, plain, plains_ints, SeqAt.shaped, toP, PyData.canLay0, canLay_ints, PyData.depth, depth_ints]
theorem fit_nil : fitD (.lst []) = true := fit_ints []
theorem ne_nil (ns : List Int) : dNeD (.lst (ns.map .int)) (.lst []) = some (.bl (!ns.isEmpty)) := by
  unfold dNeD
  rw [if_pos ⟨fit_ints ns, fit_nil⟩]
  cases ns with
  | nil => simp [toP, toPs, PyData.eqv, PyData.eqvAll]
  | cons n ns => simp [toP, toPs, PyData.eqv, PyData.eqvAll]
/-- how a draw stands towards the pen ahead of it -/
structure Drawn (p p' : Pen) : Prop where
  cells : p'.cells = p.cells
  lo : p.spot ≤ p'.spot
  hi : p'.spot ≤ p.spot + 1
theorem fmod_pos {x m : Int} (hm : 0 < m) : 0 ≤ x.fmod m ∧ x.fmod m < m := ⟨Int.fmod_nonneg_of_pos x hm, Int.fmod_lt_of_pos x hm⟩
section
variable {a b c e many : Int} {p : Pen}
theorem dMod_ok {x m : Int} (hm : 0 < m) : dMod (.int x) (.int m) = some (.int (x.fmod m)) := by
  unfold dMod gIc
  dsimp only
  rw [if_pos (decide_eq_true (show m ≠ 0 by omega))]
theorem dDiv_ok {x m : Int} (hm : 0 < m) (h2 : m < 1073741824) : dDiv (.int x) (.int m) = some (.int (x.fdiv m)) := by
  unfold dDiv gIc
  dsimp only
  rw [if_pos (decide_eq_true (show m ≠ 0 ∧ m.natAbs < 1073741824 by omega))]
theorem dMul_ok {x y : Int} (h1 : -18446744073709551616 < x) (h2 : x < 18446744073709551616) : dMul (.int x) (.int y) = some (.int (x * y)) := by
  unfold dMul gIc
  dsimp only
  rw [if_pos (decide_eq_true ⟨h1, h2⟩)]
theorem dPow_ok {x y : Int} (h0 : 0 ≤ y) (h1 : y ≤ 1000000) (h2 : x.natAbs < 18446744073709551616) : dPow (.int x) (.int y) = some (.int (x ^ y.toNat)) := by
  unfold dPow gIc
  dsimp only
  rw [if_pos (decide_eq_true ⟨h0, h1, h2⟩)]
theorem atI_ints {cells : List Int} {i : Int} (h0 : 0 ≤ i) (h1 : i < cells.length) : ∃ x, L2.atI (cells.map D.int) i = some (.int x) := by
  unfold L2.atI ixN
  rw [List.length_map, if_pos h0, if_pos h1]
  have hj : i.toNat < cells.length := by omega
  refine ⟨cells[i.toNat], ?_⟩
  show (cells.map D.int)[i.toNat]? = _
  rw [List.getElem?_map, List.getElem?_eq_getElem hj]
  rfl
/-- the numbers that are mixed -/
def mix1 (b c spot x : Int) : Int := ((x.fmod 2147483549 + c * spot + b) ^ 3).fmod 2147483629
def mix2 (a b e spot m : Int) : Int := ((m * (2 * spot + e) + b * spot * spot + a) ^ 5).fmod 2147483563
theorem small_prod {x y n m : Int} (h0 : 0 ≤ x) (h1 : x < n) (g0 : 0 ≤ y) (g1 : y < m) : 0 ≤ x * y ∧ x * y ≤ n * m := by
  refine ⟨Int.mul_nonneg h0 g0, ?_⟩
  exact Int.mul_le_mul (by omega) (by omega) g0 (by omega)
def drawTail (a b c e : Int) : Sl → M (Out × Sl) := (sSeq (sAsg (eOp dMod (eCall dInt (aCons (eOp dPow (eOp dAdd (eOp dAdd (eOp dMod (eCall dInt (aCons (eVar 4) aNil)) (eC (.int 2147483549))) (eOp dMul (eC (.int c)) (eVar 3))) (eC (.int b))) (eC (.int 3))) aNil)) (eC (.int 2147483629))) (tgN 6))
    (sSeq (sAsg (eOp dMod (eCall dInt (aCons (eOp dPow (eOp dAdd (eOp dAdd (eOp dMul (eVar 6) (eOp dAdd (eOp dMul (eC (.int 2)) (eVar 3)) (eC (.int e)))) (eOp dMul (eOp dMul (eC (.int b)) (eVar 3)) (eVar 3))) (eC (.int a))) (eC (.int 5))) aNil)) (eC (.int 2147483563))) (tgN 6))
    (sRet (eOp dMod (eCall dInt (aCons (eOp dDiv (eVar 6) (eC (.int 32))) aNil)) (eVar 1)))))
theorem tail_ok {spot x : Int} {d5 : SD} (hm : 0 < many) (hs : 0 ≤ spot) (hs2 : spot < 1000000) (ha : 0 ≤ a) (ha2 : a < 1000000) (hb : 0 ≤ b) (hb2 : b < 1000000) (hc : 0 ≤ c) (hc2 : c < 1000000) (he : 0 ≤ e) (he2 : e < 1000000) :
    drawTail a b c e [.im .pen, .im (.int many), .un, .im (.int spot), .im (.int x), d5, .un] p = .ok (.rt (.int (((mix2 a b e spot (mix1 b c spot x)).fdiv 32).fmod many)), [.im .pen, .im (.int many), .un, .im (.int spot), .im (.int x), d5, .im (.int (mix2 a b e spot (mix1 b c spot x)))]) p := by
  have f1 := fmod_pos (x := x) (show (0 : Int) < 2147483549 by decide)
  have p1 := small_prod hc hc2 hs hs2
  have m1 : (x.fmod 2147483549 + c * spot + b).natAbs < 18446744073709551616 := by omega
  have g1 := fmod_pos (x := (x.fmod 2147483549 + c * spot + b) ^ 3) (show (0 : Int) < 2147483629 by decide)
  have q1 : 0 ≤ mix1 b c spot x ∧ mix1 b c spot x < 2147483629 := g1
  have p2 := small_prod (x := mix1 b c spot x) (y := 2 * spot + e) (n := 2147483629) (m := 3000000) q1.1 q1.2 (by omega) (by omega)
  have p3 := small_prod hb hb2 hs hs2
  have p4 := small_prod (x := b * spot) (y := spot) (n := 1000000000001) (m := 1000000) p3.1 (by omega) hs hs2
  have m2 : (mix1 b c spot x * (2 * spot + e) + b * spot * spot + a).natAbs < 18446744073709551616 := by omega
  have e1 : dMod (.int ((x.fmod 2147483549 + c * spot + b) ^ 3)) (.int 2147483629) = some (.int (mix1 b c spot x)) := dMod_ok (by decide)
  have e2 : dMod (.int ((mix1 b c spot x * (2 * spot + e) + b * spot * spot + a) ^ 5)) (.int 2147483563) = some (.int (mix2 a b e spot (mix1 b c spot x))) := dMod_ok (by decide)
  have w3 : dPow (.int (x.fmod 2147483549 + c * spot + b)) (.int 3) = some (.int ((x.fmod 2147483549 + c * spot + b) ^ 3)) := dPow_ok (by decide) (by decide) m1
  have w5 : dPow (.int (mix1 b c spot x * (2 * spot + e) + b * spot * spot + a)) (.int 5) = some (.int ((mix1 b c spot x * (2 * spot + e) + b * spot * spot + a) ^ 5)) := dPow_ok (by decide) (by decide) m2
  have k1 : dMul (.int c) (.int spot) = some (.int (c * spot)) := dMul_ok (by omega) (by omega)
  have k2 : dMul (.int (mix1 b c spot x)) (.int (2 * spot + e)) = some (.int (mix1 b c spot x * (2 * spot + e))) := dMul_ok (by omega) (by omega)
  have k3 : dMul (.int b) (.int spot) = some (.int (b * spot)) := dMul_ok (by omega) (by omega)
  have k4 : dMul (.int (b * spot)) (.int spot) = some (.int (b * spot * spot)) := dMul_ok (by omega) (by omega)
  have k5 : dMul (.int 2) (.int spot) = some (.int (2 * spot)) := dMul_ok (by omega) (by omega)
  have r1 : dMod (.int x) (.int 2147483549) = some (.int (x.fmod 2147483549)) := dMod_ok (by decide)
  have r2 : dDiv (.int (mix2 a b e spot (mix1 b c spot x))) (.int 32) = some (.int ((mix2 a b e spot (mix1 b c spot x)).fdiv 32)) := dDiv_ok (by decide) (by decide)
  simp [drawTail, sSeq, sAsg, eOp, eCall, aCons, aNil, eC, eVar, M.bind, M.pure, M.of, dInt, tgN, dAdd, gI, sRet, k1, k2, k3, k4, k5, e1, e2, w3, w5, r1, r2, dMod_ok hm]
theorem draw_ok (hm : 0 < many) (hm2 : many < 1073741824) (hs : 0 ≤ p.spot) (hs2 : p.spot < 1000000) (ha : 0 ≤ a) (ha2 : a < 1000000) (hb : 0 ≤ b) (hb2 : b < 1000000) (hc : 0 ≤ c) (hc2 : c < 1000000) (he : 0 ≤ e) (he2 : e < 1000000) :
    ∃ r p', bodyM 7 (drawG a b c e) [.pen, .int many] p = .ok (.int r) p' ∧ 0 ≤ r ∧ r < many ∧ Drawn p p' := by
  obtain ⟨cells, spot, rest⟩ := p
  dsimp only at hs hs2
  have start : ([D.pen, .int many].map SD.im ++ List.replicate (7 - [D.pen, .int many].length) SD.un) = [.im .pen, .im (.int many), .un, .un, .un, .un, .un] := rfl
  unfold bodyM
  rw [start]
  by_cases hr : rest > 0
  · refine ⟨rest.fmod many, ⟨cells, spot, rest.fdiv many⟩, ?_, (fmod_pos hm).1, (fmod_pos hm).2, rfl, Int.le_refl _, by show spot ≤ spot + 1; omega⟩
    simp [drawG, sSeq, sIf, bTest, eOp, dGt, gI, ePen, eC, M.bind, M.pure, M.of, asB, hr, sAsg, eCall, aCons, aNil, dInt, tgN, sPen, eVar, dDiv_ok hm hm2, dMod_ok hm, asI, sRet]
  · -- the next cell
    have ka : dMul (.int a) (.int spot) = some (.int (a * spot)) := dMul_ok (by omega) (by omega)
    have kt : dPow (.int 10) (.int 18) = some (.int 1000000000000000000) := (dPow_ok (by decide) (by decide) (by decide)).trans (by rfl)
    have k2 : ∀ y, dMul (.int 2) (.int y) = some (.int (2 * y)) := fun y => dMul_ok (by decide) (by decide)
    have tl : drawG a b c e = (sSeq (sIf (bTest (eOp dGt (ePen 0 2) (eC (.int 0)))) (sSeq (sAsg (eCall dInt (aCons (ePen 0 2) aNil)) (tgN 2))
        (sSeq (sPen 0 2 (eOp dDiv (eVar 2) (eVar 1))) (sRet (eOp dMod (eCall dInt (aCons (eVar 2) aNil)) (eVar 1))))) sNx)
        (sSeq (sAsg (ePen 0 1) (tgN 3)) (sSeq (sPen 0 1 (eOp dAdd (eVar 3) (eC (.int 1)))) (sSeq (sAsg (eOp dAdd (eOp dMul (eC (.int a)) (eVar 3)) (eC (.int b))) (tgN 4))
        (sSeq (sIf (bTest (eOp dNeD (ePen 0 0) (eLst aNil))) (sAsg (eOp dIxL (ePen 0 0) (eOp dMod (eCall dInt (aCons (eVar 3) aNil)) (eCall dLen (aCons (ePen 0 0) aNil)))) (tgN 4)) sNx)
        (sSeq (sIf (bAnd (bTest (eOp dLt (eVar 3) (eCall dLen (aCons (ePen 0 0) aNil)))) (bTest (eOp dGe (eCall dAbs (aCons (eVar 4) aNil)) (eOp dPow (eC (.int 10)) (eC (.int 18)))))) (sSeq (sAsg (eOp dAdd (eOp dMul (eC (.int 2)) (eOp dSub (eCall dAbs (aCons (eVar 4) aNil)) (eOp dPow (eC (.int 10)) (eC (.int 18))))) (eCall dInt (aCons (eOp dLt (eVar 4) (eC (.int 0))) aNil))) (tgN 5))
        (sSeq (sPen 0 2 (eOp dDiv (eCall dInt (aCons (eVar 5) aNil)) (eVar 1))) (sRet (eOp dMod (eCall dInt (aCons (eVar 5) aNil)) (eVar 1))))) sNx) (drawTail a b c e))))))) := rfl
    have dr : Drawn ⟨cells, spot, rest⟩ ⟨cells, spot + 1, rest⟩ := ⟨rfl, by show spot ≤ spot + 1; omega, Int.le_refl _⟩
    rw [tl]
    cases cells with
    | nil =>
      have hn : ¬ spot < 0 := by omega
      refine ⟨((mix2 a b e spot (mix1 b c spot (a * spot + b))).fdiv 32).fmod many, ⟨[], spot + 1, rest⟩, ?_, (fmod_pos hm).1, (fmod_pos hm).2, dr⟩
      have nn := ne_nil []
      simp only [List.map_nil] at nn
      have t := tail_ok (p := ⟨[], spot + 1, rest⟩) (x := a * spot + b) (d5 := .un) hm hs hs2 ha ha2 hb hb2 hc hc2 he he2
      simp [sSeq, sIf, bTest, eOp, dGt, gI, ePen, eC, M.bind, M.pure, M.of, asB, hr, sAsg, eCall, aCons, aNil, dInt, tgN, sPen, eVar, asI, sNx, dAdd, ka, eLst, sz, nn, bAnd, dLt, dLen, hn, t]
    | cons z zs =>
      have nn := ne_nil (z :: zs)
      have hl : (0 : Int) < ((z :: zs).length : Int) := by simp only [List.length_cons]; omega
      have hf := fmod_pos (x := spot) hl
      obtain ⟨x, hx⟩ := atI_ints (cells := z :: zs) (i := spot.fmod ((z :: zs).length : Int)) hf.1 hf.2
      have hx' : dIxL (.lst ((z :: zs).map .int)) (.int (spot.fmod ((z :: zs).length : Int))) = some (.int x) := hx
      have hmo : dMod (.int spot) (.int ((z :: zs).length : Int)) = some (.int (spot.fmod ((z :: zs).length : Int))) := dMod_ok hl
      have hle : dLen [.lst ((z :: zs).map .int)] = some (.int ((z :: zs).length : Int)) := by
        show some (D.int (((z :: zs).map D.int).length : Int)) = _
        rw [List.length_map]
      generalize hL : ((z :: zs).map D.int) = L at *
      generalize ((z :: zs).length : Int) = n at *
      have t := tail_ok (p := ⟨z :: zs, spot + 1, rest⟩) (x := x) (d5 := .un) hm hs hs2 ha ha2 hb hb2 hc hc2 he he2
      have ePenR : ∀ (S : Sl) (q : Pen), S[0]? = some (.im .pen) → ePen 0 2 S q = .ok (.int q.rest) q := fun S q h => by simp [ePen, h]
      have ePenS : ∀ (S : Sl) (q : Pen), S[0]? = some (.im .pen) → ePen 0 1 S q = .ok (.int q.spot) q := fun S q h => by simp [ePen, h]
      have pe : ∀ q : Pen, q.cells = z :: zs → ePen 0 0 [.im .pen, .im (.int many), .un, .im (.int spot), .im (.int (a * spot + b)), .un, .un] q = .ok (.lst L) q := fun q hq => by
        unfold ePen
        simp [hq]
        rw [← hL]
        rfl
      have pe2 : ∀ q : Pen, q.cells = z :: zs → ePen 0 0 [.im .pen, .im (.int many), .un, .im (.int spot), .im (.int x), .un, .un] q = .ok (.lst L) q := fun q hq => by
        unfold ePen
        simp [hq]
        rw [← hL]
        rfl
      by_cases h1 : spot < n
      · by_cases h2 : (if x < 0 then -x else x) ≥ 1000000000000000000
        · refine ⟨(2 * ((if x < 0 then -x else x) - 1000000000000000000) + (if x < 0 then 1 else 0)).fmod many, ⟨z :: zs, spot + 1, (2 * ((if x < 0 then -x else x) - 1000000000000000000) + (if x < 0 then 1 else 0)).fdiv many⟩, ?_, (fmod_pos hm).1, (fmod_pos hm).2, ⟨rfl, by show spot ≤ spot + 1; omega, Int.le_refl _⟩⟩
          simp [sSeq, sIf, bTest, eOp, dGt, gI, M.bind, M.pure, M.of, asB, hr, sAsg, eCall, aCons, aNil, dInt, tgN, sPen, ePenR, ePenS, eVar, asI, sNx, dAdd, ka, eLst, sz, nn, bAnd, dLt, hle, pe, pe2, hmo, hx', h1, dAbs, dGe, h2, kt, dSub, k2, eC, dDiv_ok hm hm2, dMod_ok hm, sRet]
        · refine ⟨((mix2 a b e spot (mix1 b c spot x)).fdiv 32).fmod many, ⟨z :: zs, spot + 1, rest⟩, ?_, (fmod_pos hm).1, (fmod_pos hm).2, ⟨rfl, by show spot ≤ spot + 1; omega, Int.le_refl _⟩⟩
          simp [sSeq, sIf, bTest, eOp, dGt, gI, M.bind, M.pure, M.of, asB, hr, sAsg, eCall, aCons, aNil, dInt, tgN, sPen, ePenR, ePenS, eVar, asI, sNx, dAdd, ka, eLst, sz, nn, bAnd, dLt, hle, pe, pe2, hmo, hx', h1, dAbs, dGe, h2, kt, dSub, k2, eC, dDiv_ok hm hm2, dMod_ok hm, sRet, t]
      · refine ⟨((mix2 a b e spot (mix1 b c spot x)).fdiv 32).fmod many, ⟨z :: zs, spot + 1, rest⟩, ?_, (fmod_pos hm).1, (fmod_pos hm).2, ⟨rfl, by show spot ≤ spot + 1; omega, Int.le_refl _⟩⟩
        simp [sSeq, sIf, bTest, eOp, dGt, gI, M.bind, M.pure, M.of, asB, hr, sAsg, eCall, aCons, aNil, dInt, tgN, sPen, ePenR, ePenS, eVar, asI, sNx, dAdd, ka, eLst, sz, nn, bAnd, dLt, hle, pe, pe2, hmo, hx', h1, dAbs, dGe, kt, dSub, k2, eC, dDiv_ok hm hm2, dMod_ok hm, sRet, t]
end
end Z
end
section
set_option Elab.async false
set_option linter.all false
/-! What does not touch the pen. -/
namespace Z
open PySem L2
def Qm {α : Type} (x : M α) : Prop := ∀ p a p', x p = .ok a p' → p' = p ∧ ∀ q, x q = .ok a q
def Qs {α : Type} (f : Sl → M α) : Prop := ∀ s, Qm (f s)
def Ql (f : List D → M D) : Prop := ∀ ds, Qm (f ds)
section
variable {α β : Type}
theorem Qm.pure (a : α) : Qm (M.pure a) := fun p b p' e => by cases e; exact ⟨rfl, fun _ => rfl⟩
theorem Qm.no : Qm (M.no : M α) := fun p b p' e => by cases e
theorem Qm.of (o : Option α) : Qm (M.of o) := match o with
  | none => Qm.no
  | some a => Qm.pure a
theorem Qm.bind {x : M α} {f : α → M β} (h : Qm x) (k : ∀ a, Qm (f a)) : Qm (M.bind x f) := fun p b p' e => by
  obtain ⟨a, q, e1, e2⟩ := M.bind_ok e
  obtain ⟨rfl, h1⟩ := h _ _ _ e1
  obtain ⟨rfl, h2⟩ := k a _ _ _ e2
  exact ⟨rfl, fun q' => by rw [M.bind_app (h1 q')]; exact h2 q'⟩
theorem Qm.ite {c : Bool} {x y : M α} (h : Qm x) (k : Qm y) : Qm (if c = true then x else y) := by split <;> assumption
theorem Qm.at {x : M α} (h : Qm x) {a : α} {p0 p1 : Pen} (e : x p0 = .ok a p1) (p : Pen) : x p = .ok a p := (h _ _ _ e).2 p
end
section
variable {f f' f'' : Sl → M D} {fl fl' : Sl → M (List D)} {c c' : Sl → M Bool} {g g' : Sl → M (Out × Sl)} {fo fo' : Sl → M (Option Int)} {m : List D → M D}
theorem q_var (i : Nat) : Qs (eVar i) := fun s => by unfold eVar; split <;> first | exact Qm.pure _ | exact Qm.no
theorem q_c (d : D) : Qs (eC d) := fun s => Qm.pure _
theorem q_op (r : D → D → Option D) (h : Qs f) (k : Qs f') : Qs (eOp r f f') := fun s => (h s).bind fun _ => (k s).bind fun _ => Qm.of _
theorem q_nil : Qs aNil := fun s => Qm.pure _
theorem q_cons (h : Qs f) (k : Qs fl) : Qs (aCons f fl) := fun s => (h s).bind fun _ => (k s).bind fun _ => Qm.pure _
theorem q_tup (h : Qs fl) : Qs (eTup fl) := fun s => (h s).bind fun _ => (Qm.pure _).ite Qm.no
theorem q_lst (h : Qs fl) : Qs (eLst fl) := fun s => (h s).bind fun _ => (Qm.pure _).ite Qm.no
theorem q_call (r : List D → Option D) (h : Qs fl) : Qs (eCall r fl) := fun s => (h s).bind fun _ => Qm.of _
theorem q_own (n : Nat) (k : Ql m) (h : Qs fl) : Qs (eOwn n m fl) := fun s => (h s).bind fun ds => by
  split
  · exact k ds
  · exact Qm.no
theorem q_ownK (n : Nat) (k : Ql m) (gD : List D → List D → List D) (h : Qs fl) (h' : Qs fl') : Qs (eOwnK n m gD fl fl') := fun s => (h s).bind fun ds => (h' s).bind fun es => by
  split
  · exact k _
  · exact Qm.no
theorem q_test (h : Qs f) : Qs (bTest f) := fun s => (h s).bind fun _ => Qm.of _
theorem q_bAnd (h : Qs c) (k : Qs c') : Qs (bAnd c c') := fun s => (h s).bind fun b => (k s).ite (Qm.pure _)
theorem q_bOr (h : Qs c) (k : Qs c') : Qs (bOr c c') := fun s => (h s).bind fun b => (Qm.pure _).ite (k s)
theorem q_bNot (h : Qs c) : Qs (bNot c) := fun s => (h s).bind fun b => (Qm.pure _)
theorem q_yes : Qs bYes := fun s => Qm.pure _
theorem q_and (h : Qs f) (k : Qs f') : Qs (eAnd f f') := fun s => (h s).bind fun _ => (Qm.of _).bind fun b => (k s).ite (Qm.pure _)
theorem q_or (h : Qs f) (k : Qs f') : Qs (eOr f f') := fun s => (h s).bind fun _ => (Qm.of _).bind fun b => (Qm.pure _).ite (k s)
theorem q_not (h : Qs f) : Qs (eNot f) := fun s => (h s).bind fun _ => (Qm.of _).bind fun b => (Qm.pure _)
theorem q_if (h : Qs c) (k : Qs f) (k' : Qs f') : Qs (eIf c f f') := fun s => (h s).bind fun b => (k s).ite (k' s)
theorem q_chain (r r' : D → D → Option D) (h : Qs f) (k : Qs f') (k' : Qs f'') : Qs (eChain r r' f f' f'') := fun s => (h s).bind fun _ => (k s).bind fun _ => (Qm.of _).bind fun b => ((k' s).bind fun _ => Qm.of _).ite (Qm.pure _)
theorem q_isi2 (a b : String) (h : Qs f) : Qs (eIsi2 a b f) := fun s => (h s).bind fun x => by
  split
  · split <;> first | exact Qm.pure _ | exact Qm.no
  · exact Qm.no
theorem q_inOw (n : Bool) (i : Nat) (h : Qs f) : Qs (eInOw n i f) := fun s => (h s).bind fun x => by
  split
  · split <;> first | exact Qm.pure _ | exact Qm.no
  · exact Qm.no
theorem q_oNone : Qs oNone := fun s => Qm.pure _
theorem q_oPart (h : Qs f) : Qs (oPart f) := fun s => (h s).bind fun _ => (Qm.of _).bind fun _ => Qm.pure _
theorem q_slL (h : Qs f) (k : Qs fo) (k' : Qs fo') : Qs (eSlL f fo fo') := fun s => (h s).bind fun d => (k s).bind fun _ => (k' s).bind fun _ => by
  split <;> first | exact Qm.pure _ | exact Qm.no
theorem q_rg1 (h : Qs f) : Qs (lRg1 f) := fun s => (h s).bind fun _ => (Qm.of _).bind fun _ => Qm.pure _
theorem q_rg2 (h : Qs f) (k : Qs f') : Qs (lRg2 f f') := fun s => (h s).bind fun _ => (k s).bind fun _ => (Qm.of _).bind fun _ => Qm.pure _
theorem q_L (h : Qs fl) : Qs (eL fl) := fun s => (h s).bind fun _ => Qm.pure _
theorem q_lLst (h : Qs fl) : Qs (lLst fl) := fun s => (h s).bind fun _ => (Qm.pure _).ite Qm.no
theorem q_lcD (t : D → Sl → Option Sl) (h : Qs c) (k : Qs f) : ∀ ds s, Qm (lcD t c f ds s)
  | [], s => Qm.pure _
  | d :: ds, s => (Qm.of _).bind fun s1 => (h s1).bind fun b => ((k s1).bind fun y => (q_lcD t h k ds s).bind fun r => Qm.pure _).ite (q_lcD t h k ds s)
theorem q_lcOf (vs : List Nat) (un : D → Option (List D)) (t : D → Sl → Option Sl) (hi : Qs f') (h : Qs c) (k : Qs f) : Qs (lcOf vs un f' t c f) := fun s => (hi s).bind fun _ => (Qm.of _).bind fun ds => (q_lcD t h k ds _).ite Qm.no
theorem q_lcRg (vs : List Nat) (rg : List D → Option (Int × Nat)) (t : D → Sl → Option Sl) (hi : Qs fl) (h : Qs c) (k : Qs f) : Qs (lcRg vs rg fl t c f) := fun s => (hi s).bind fun _ => (Qm.of _).bind fun r => (q_lcD t h k _ _).ite Qm.no
theorem q_nx : Qs sNx := fun s => Qm.pure _
theorem q_sNo : Qs sNo := fun s => Qm.no
theorem q_seq (h : Qs g) (k : Qs g') : Qs (sSeq g g') := fun s => (h s).bind fun r => by
  split <;> first | exact k _ | exact Qm.pure _
theorem q_ret (h : Qs f) : Qs (sRet f) := fun s => (h s).bind fun _ => Qm.pure _
theorem q_retN : Qs sRetN := fun s => Qm.pure _
theorem q_sIf (h : Qs c) (k : Qs g) (k' : Qs g') : Qs (sIf c g g') := fun s => (h s).bind fun b => (k s).ite (k' s)
theorem q_asg (t : D → Sl → Option Sl) (h : Qs f) : Qs (sAsg f t) := fun s => (h s).bind fun _ => (Qm.of _).bind fun _ => Qm.pure _
theorem q_drop (h : Qs f) : Qs (sDrop f) := fun s => (h s).bind fun _ => Qm.pure _
theorem q_par (i j : Nat) (h : Qs fl) : Qs (sPar i j fl) := fun s => (h s).bind fun ds => by
  split <;> first | exact Qm.pure _ | exact Qm.no
theorem q_par3 (i j l : Nat) (h : Qs fl) : Qs (sPar3 i j l fl) := fun s => (h s).bind fun ds => by
  split <;> first | exact Qm.pure _ | exact Qm.no
theorem q_parOw (i j : Nat) (h : Qs fl) (k : Qs f) : Qs (sParOw i j fl f) := fun s => (h s).bind fun ds => (k s).bind fun _ => Qm.pure _
theorem q_sOwn (i : Nat) (h : Qs fl) : Qs (sOwn i fl) := fun s => (h s).bind fun ds => Qm.pure _
theorem q_app (i : Nat) (h : Qs f) : Qs (sApp i f) := fun s => (h s).bind fun d => by
  split
  · split <;> first | exact Qm.pure _ | exact Qm.no
  · exact Qm.no
theorem q_frz (i : Nat) (h : Qs g) : Qs (fun s => g (frzS i s)) := fun s => h _
theorem q_loop (t : D → Sl → Option Sl) (h : Qs g) : ∀ ds s, Qm (loopD t g ds s)
  | [], s => Qm.pure _
  | d :: ds, s => (Qm.of _).bind fun s1 => (h s1).bind fun r => by
    split
    · exact q_loop t h ds _
    · exact q_loop t h ds _
    · exact Qm.pure _
    · exact Qm.pure _
theorem q_forL (t : D → Sl → Option Sl) (hi : Qs f) (h : Qs g) : Qs (sForL f t g) := fun s => (hi s).bind fun _ => (Qm.of _).bind fun ds => q_loop t h ds s
theorem q_forT (t : D → Sl → Option Sl) (hi : Qs f) (h : Qs g) : Qs (sForT f t g) := fun s => (hi s).bind fun _ => (Qm.of _).bind fun ds => q_loop t h ds s
theorem q_forR (rg : List D → Option (Int × Nat)) (t : D → Sl → Option Sl) (hi : Qs fl) (h : Qs g) : Qs (sForR rg fl t g) := fun s => (hi s).bind fun _ => (Qm.of _).bind fun ds => q_loop t h _ s
theorem q_body (N : Nat) (h : Qs g) : Ql (bodyM N g) := fun ds => (h _).bind fun r => by
  split <;> first | exact Qm.pure _ | exact Qm.no
end
end Z
end
section
set_option Elab.async false
set_option linter.all false
set_option maxRecDepth 100000
set_option maxHeartbeats 4000000
namespace La
open PySem L2 Z PySem.Spec PyProof.Rows
def top (i : Nat) : Stmt := PySem.Challenge.pw_staytrue_k58_whole_plain_steps_by_all_ro.main.body.getD i (.Pass ⟨0, 0, 0, 0⟩)
theorem u65 {k : Nat} {A : Around} (r : Room k A) : A.units + 65 < cLine := by have := r.un; omega
structure Txt (mg : Str → Option Value) : Prop where
  b_abs : mg "abs" = none
  b_bool : mg "bool" = none
  b_int : mg "int" = none
  b_isinstance : mg "isinstance" = none
  b_len : mg "len" = none
  b_list : mg "list" = none
  b_max : mg "max" = none
  b_min : mg "min" = none
  b_range : mg "range" = none
  b_repr : mg "repr" = none
  b_tuple : mg "tuple" = none
  c_MOST_CHANGES : ∃ t, mg "MOST_CHANGES" = some (.int 5 t)
  c_MOST_COPIES : ∃ t, mg "MOST_COPIES" = some (.int 5 t)
section
variable {Pg : Program} {w : World} {K : PySem.W.Frag} {mg : Str → Option Value} {base : Heap} {cl : Str → Addr}
/-! ### is_integer -/
abbrev s_is_integer : Stmt := top 1
def N_is_integer : List Str := ["value"]
theorem sc_is_integer : FnScope N_is_integer ["value"] (defScope s_is_integer) := ⟨rfl, rfl, rfl, by decide +kernel, rfl, by decide +kernel, by decide +kernel⟩
def g_is_integer : Sl → M (Out × Sl) := (sRet (eAnd (eCall dIsi (aCons (eVar 0) (aCons (eC (.ty "int")) aNil))) (eNot (eCall dIsi (aCons (eVar 0) (aCons (eC (.ty "bool")) aNil))))))
def m_is_integer : List D → M D := bodyM 1 g_is_integer
theorem own_is_integer (h : DefIn K mg "is_integer" s_is_integer) (T : Txt mg)  : OwnF Pg w K mg base 1 "is_integer" s_is_integer ["value"] (spM K cl 1 m_is_integer) :=
  own_of h sc_is_integer (fun _ _ _ _ h => spM.len h) fun f cd A ou s H vs Q E r g h => by
    refine ⟨_, (pss_one (ps_ret (pe_and (pe_callB (k_isi (K := K) rfl) (by rfl) T.b_isinstance (by decide +kernel) (pa_cons (pv 0) (pa_cons (pe_bltn (v := .ty "int") (u := .type "int") (by rfl) T.b_int (by decide +kernel) rfl) pa_nil))) (pe_one (pe_not (pe_callB (k_isi (K := K) rfl) (by rfl) T.b_isinstance (by decide +kernel) (pa_cons (pv 0) (pa_cons (pe_bltn (v := .ty "bool") (u := .type "bool") (by rfl) T.b_bool (by decide +kernel) rfl) pa_nil)))))))), ?_⟩
    exact body_ok (N := N_is_integer) (fun pa ca => (js_ret (j_and (j_cb jc_isi (ja_cons (j_var 0) (ja_cons j_ty ja_nil))) (j_not (j_cb jc_isi (ja_cons (j_var 0) (ja_cons j_ty ja_nil))))))) h
/-! ### is_within -/
abbrev s_is_within : Stmt := top 2
def N_is_within : List Str := ["value", "least", "most"]
theorem sc_is_within : FnScope N_is_within ["value", "least", "most"] (defScope s_is_within) := ⟨rfl, rfl, rfl, by decide +kernel, rfl, by decide +kernel, by decide +kernel⟩
def g_is_within : Sl → M (Out × Sl) := (sRet (eAnd (eOwn 1 m_is_integer (aCons (eVar 0) aNil)) (eChain dLe dLe (eVar 1) (eVar 0) (eVar 2))))
def m_is_within : List D → M D := bodyM 3 g_is_within
theorem own_is_within (h : DefIn K mg "is_within" s_is_within) (T : Txt mg) (o_is_integer : Own Pg w K mg base 1 "is_integer" ["value"] (spM K cl 1 m_is_integer)) : OwnF Pg w K mg base 2 "is_within" s_is_within ["value", "least", "most"] (spM K cl 3 m_is_within) :=
  own_of h sc_is_within (fun _ _ _ _ h => spM.len h) fun f cd A ou s H vs Q E r g h => by
    refine ⟨_, (pss_one (ps_ret (pe_and (pe_own o_is_integer (r.mono (by decide)) g (pa_cons (pv 0) pa_nil)) (pe_one (pe_chain op_le op_le (pv 1) (pv 0) (pv 2)))))), ?_⟩
    exact body_ok (N := N_is_within) (fun pa ca => (js_ret (j_and (j_own (ja_cons (j_var 0) ja_nil)) (j_chain jr_le jr_le (j_var 1) (j_var 0) (j_var 2))))) h
/-! ### need_within -/
abbrev s_need_within : Stmt := top 10
def N_need_within : List Str := ["part", "value", "least", "most"]
theorem sc_need_within : FnScope N_need_within ["part", "value", "least", "most"] (defScope s_need_within) := ⟨rfl, rfl, rfl, by decide +kernel, rfl, by decide +kernel, by decide +kernel⟩
def g_need_within : Sl → M (Out × Sl) := (sIf (bNot (bTest (eOwn 3 m_is_within (aCons (eVar 1) (aCons (eVar 2) (aCons (eVar 3) aNil)))))) sNo sNx)
def m_need_within : List D → M D := bodyM 4 g_need_within
theorem own_need_within (h : DefIn K mg "need_within" s_need_within) (T : Txt mg) (o_is_within : Own Pg w K mg base 2 "is_within" ["value", "least", "most"] (spM K cl 3 m_is_within)) : OwnF Pg w K mg base 3 "need_within" s_need_within ["part", "value", "least", "most"] (spM K cl 4 m_need_within) :=
  own_of h sc_need_within (fun _ _ _ _ h => spM.len h) fun f cd A ou s H vs Q E r g h => by
    refine ⟨_, (pss_one (ps_if (pt_not (pt_val (pe_own o_is_within (r.mono (by decide)) g (pa_cons (pv 1) (pa_cons (pv 2) (pa_cons (pv 3) pa_nil)))))) (pss_one ps_never) pss_nil)), ?_⟩
    exact body_ok (N := N_need_within) (fun pa ca => (js_if (jt_not (jt_val (j_own (ja_cons (j_var 1) (ja_cons (j_var 2) (ja_cons (j_var 3) ja_nil)))))) js_never js_nil)) h
/-! ### need_plain -/
abbrev s_need_plain : Stmt := top 11
def N_need_plain : List Str := ["copies", "read", "keep"]
theorem sc_need_plain : FnScope N_need_plain ["copies", "read", "keep"] (defScope s_need_plain) := ⟨rfl, rfl, rfl, by decide +kernel, rfl, by decide +kernel, by decide +kernel⟩
def g_need_plain : Sl → M (Out × Sl) := (sSeq (sDrop (eOwn 4 m_need_within (aCons (eC (.str "copies")) (aCons (eVar 0) (aCons (eC (.int 1)) (aCons (eC (.int 5)) aNil))))))
    (sSeq (sDrop (eOwn 4 m_need_within (aCons (eC (.str "read")) (aCons (eVar 1) (aCons (eC (.int 1)) (aCons (eVar 0) aNil))))))
    (sDrop (eOwn 4 m_need_within (aCons (eC (.str "keep")) (aCons (eVar 2) (aCons (eC (.int 1)) (aCons (eVar 0) aNil))))))))
def m_need_plain : List D → M D := bodyM 3 g_need_plain
theorem own_need_plain (h : DefIn K mg "need_plain" s_need_plain) (T : Txt mg) (o_need_within : Own Pg w K mg base 3 "need_within" ["part", "value", "least", "most"] (spM K cl 4 m_need_within)) : OwnF Pg w K mg base 4 "need_plain" s_need_plain ["copies", "read", "keep"] (spM K cl 3 m_need_plain) :=
  own_of h sc_need_plain (fun _ _ _ _ h => spM.len h) fun f cd A ou s H vs Q E r g h => by
    refine ⟨_, (pss_cons (ps_expr (pe_own o_need_within (r.mono (by decide)) g (pa_cons pe_str (pa_cons (pv 0) (pa_cons pe_int (pa_cons (pe_gi T.c_MOST_COPIES) pa_nil))))))
      (pss_cons (ps_expr (pe_own o_need_within (r.mono (by decide)) g (pa_cons pe_str (pa_cons (pv 1) (pa_cons pe_int (pa_cons (pv 0) pa_nil))))))
      (pss_one (ps_expr (pe_own o_need_within (r.mono (by decide)) g (pa_cons pe_str (pa_cons (pv 2) (pa_cons pe_int (pa_cons (pv 0) pa_nil))))))))), ?_⟩
    exact body_ok (N := N_need_plain) (fun pa ca => (js_seq (js_drop (j_own (ja_cons j_str (ja_cons (j_var 0) (ja_cons j_int (ja_cons j_int ja_nil))))))
      (js_seq (js_drop (j_own (ja_cons j_str (ja_cons (j_var 1) (ja_cons j_int (ja_cons (j_var 0) ja_nil))))))
      (js_drop (j_own (ja_cons j_str (ja_cons (j_var 2) (ja_cons j_int (ja_cons (j_var 0) ja_nil))))))))) h
/-! ### together -/
abbrev s_together : Stmt := top 12
def N_together : List Str := ["copies", "others", "changes"]
theorem sc_together : FnScope N_together ["copies", "others", "changes"] (defScope s_together) := ⟨rfl, rfl, rfl, by decide +kernel, rfl, by decide +kernel, by decide +kernel⟩
def g_together : Sl → M (Out × Sl) := (sRet (eOp dAdd (eCall dMax2 (aCons (eVar 0) (aCons (eVar 1) aNil))) (eCall dMin3 (aCons (eVar 0) (aCons (eVar 1) (aCons (eVar 2) aNil))))))
def m_together : List D → M D := bodyM 3 g_together
theorem own_together (h : DefIn K mg "together" s_together) (T : Txt mg)  : OwnF Pg w K mg base 1 "together" s_together ["copies", "others", "changes"] (spM K cl 3 m_together) :=
  own_of h sc_together (fun _ _ _ _ h => spM.len h) fun f cd A ou s H vs Q E r g h => by
    refine ⟨_, (pss_one (ps_ret (pe_op op_add (pe_callB (call_max2 rfl) (by rfl) T.b_max (by decide +kernel) (pa_cons (pv 0) (pa_cons (pv 1) pa_nil))) (pe_callB (call_min3Nu rfl) (by rfl) T.b_min (by decide +kernel) (pa_cons (pv 0) (pa_cons (pv 1) (pa_cons (pv 2) pa_nil))))))), ?_⟩
    exact body_ok (N := N_together) (fun pa ca => (js_ret (j_op jr_add (j_cb jc_max2 (ja_cons (j_var 0) (ja_cons (j_var 1) ja_nil))) (j_cb jc_min3 (ja_cons (j_var 0) (ja_cons (j_var 1) (ja_cons (j_var 2) ja_nil))))))) h
/-! ### plain_bears -/
abbrev s_plain_bears : Stmt := top 13
def N_plain_bears : List Str := ["one", "other", "changes", "part", "value", "least"]
theorem sc_plain_bears : FnScope N_plain_bears ["one", "other", "changes"] (defScope s_plain_bears) := ⟨rfl, rfl, rfl, by decide +kernel, rfl, by decide +kernel, by decide +kernel⟩
def g_plain_bears : Sl → M (Out × Sl) := (sSeq (sForT (eTup (aCons (eTup (aCons (eC (.str "one")) (aCons (eVar 0) aNil))) (aCons (eTup (aCons (eC (.str "other")) (aCons (eVar 1) aNil))) aNil))) (tgTup 2 (tgCons (tgN 3) (tgCons (tgN 4) tgNil)))
    (sSeq (sIf (bOr (bNot (bTest (eIsi2 "list" "tuple" (eVar 4)))) (bTest (eOp dNe (eCall dLen (aCons (eVar 4) aNil)) (eC (.int 4))))) sNo sNx)
    (sSeq (sDrop (eOwn 3 m_need_plain (aCons (eOp dIx (eVar 4) (eC (.int 0))) (aCons (eOp dIx (eVar 4) (eC (.int 1))) (aCons (eOp dIx (eVar 4) (eC (.int 2))) aNil)))))
    (sDrop (eOwn 4 m_need_within (aCons (eC (.str "liars")) (aCons (eOp dIx (eVar 4) (eC (.int 3))) (aCons (eC (.int 0)) (aCons (eC (.int 5)) aNil)))))))))
    (sSeq (sDrop (eOwn 4 m_need_within (aCons (eC (.str "changes")) (aCons (eVar 2) (aCons (eC (.int 0)) (aCons (eC (.int 5)) aNil))))))
    (sSeq (sAsg (eCall dMin2 (aCons (eOp dAdd (eOp dIx (eVar 0) (eC (.int 2))) (eOp dIx (eVar 1) (eC (.int 1)))) (aCons (eOp dAdd (eOp dIx (eVar 0) (eC (.int 1))) (eOp dIx (eVar 1) (eC (.int 2)))) aNil))) (tgN 5))
    (sRet (eOp dGt (eVar 5) (eOp dAdd (eOwn 3 m_together (aCons (eOp dIx (eVar 0) (eC (.int 0))) (aCons (eOp dIx (eVar 1) (eC (.int 0))) (aCons (eVar 2) aNil)))) (eCall dMin2 (aCons (eOp dIx (eVar 0) (eC (.int 3))) (aCons (eOp dIx (eVar 1) (eC (.int 3))) aNil)))))))))
def m_plain_bears : List D → M D := bodyM 6 g_plain_bears
theorem own_plain_bears (h : DefIn K mg "plain_bears" s_plain_bears) (T : Txt mg) (o_need_plain : Own Pg w K mg base 4 "need_plain" ["copies", "read", "keep"] (spM K cl 3 m_need_plain)) (o_need_within : Own Pg w K mg base 3 "need_within" ["part", "value", "least", "most"] (spM K cl 4 m_need_within)) (o_together : Own Pg w K mg base 1 "together" ["copies", "others", "changes"] (spM K cl 3 m_together)) : OwnF Pg w K mg base 5 "plain_bears" s_plain_bears ["one", "other", "changes"] (spM K cl 3 m_plain_bears) :=
  own_of h sc_plain_bears (fun _ _ _ _ h => spM.len h) fun f cd A ou s H vs Q E r g h => by
    refine ⟨_, (pss_cons (ps_for PassesOwn.never rfl (k_piT (K := K) rfl (pe_tup (pa_cons (pe_tup (pa_cons pe_str (pa_cons (pv 0) pa_nil))) (pa_cons (pe_tup (pa_cons pe_str (pa_cons (pv 1) pa_nil))) pa_nil)))) (k_pgT (K := K) rfl rfl (pgs_cons (pg_name (i := 3) sc_plain_bears.nd rfl (Or.inl rfl)) (pgs_cons (pg_name (i := 4) sc_plain_bears.nd rfl (Or.inl rfl)) pgs_nil)))
      (pss_cons (ps_if (PW.pt (pw_or (pt_not (pt_val (pe_callB (k_isiT (K := K) rfl) (by rfl) T.b_isinstance (by decide +kernel) (pa_cons (pv 4) (pa_cons (pe_tup (pa_cons (pe_bltn (v := .ty "list") (u := .type "list") (by rfl) T.b_list (by decide +kernel) rfl) (pa_cons (pe_bltn (v := .ty "tuple") (u := .type "tuple") (by rfl) T.b_tuple (by decide +kernel) rfl) pa_nil))) pa_nil))))) (pw_or1 (pt_cmpR op_ne (pe_callB (k_len (K := K) rfl) (by rfl) T.b_len (by decide +kernel) (pa_cons (pv 4) pa_nil)) pe_int (nomark _))))) (pss_one ps_never) pss_nil)
      (pss_cons (ps_expr (pe_own o_need_plain (r.mono (by decide)) g (pa_cons (pe_ix (k_ix (K := K) rfl) (pv 4) pe_int (fun _ _ => rfl)) (pa_cons (pe_ix (k_ix (K := K) rfl) (pv 4) pe_int (fun _ _ => rfl)) (pa_cons (pe_ix (k_ix (K := K) rfl) (pv 4) pe_int (fun _ _ => rfl)) pa_nil)))))
      (pss_one (ps_expr (pe_own o_need_within (r.mono (by decide)) g (pa_cons pe_str (pa_cons (pe_ix (k_ix (K := K) rfl) (pv 4) pe_int (fun _ _ => rfl)) (pa_cons pe_int (pa_cons (pe_gi T.c_MOST_COPIES) pa_nil))))))))))
      (pss_cons (ps_expr (pe_own o_need_within (r.mono (by decide)) g (pa_cons pe_str (pa_cons (pv 2) (pa_cons pe_int (pa_cons (pe_gi T.c_MOST_CHANGES) pa_nil))))))
      (pss_cons (ps_set (i := 5) sc_plain_bears.nd rfl (Or.inl rfl) (pe_callB (call_min2 rfl) (by rfl) T.b_min (by decide +kernel) (pa_cons (pe_op op_add (pe_ix (k_ix (K := K) rfl) (pv 0) pe_int (fun _ _ => rfl)) (pe_ix (k_ix (K := K) rfl) (pv 1) pe_int (fun _ _ => rfl))) (pa_cons (pe_op op_add (pe_ix (k_ix (K := K) rfl) (pv 0) pe_int (fun _ _ => rfl)) (pe_ix (k_ix (K := K) rfl) (pv 1) pe_int (fun _ _ => rfl))) pa_nil))))
      (pss_one (ps_ret (pe_cmpR op_gt (pv 5) (pe_op op_add (pe_own o_together (r.mono (by decide)) g (pa_cons (pe_ix (k_ix (K := K) rfl) (pv 0) pe_int (fun _ _ => rfl)) (pa_cons (pe_ix (k_ix (K := K) rfl) (pv 1) pe_int (fun _ _ => rfl)) (pa_cons (pv 2) pa_nil)))) (pe_callB (call_min2 rfl) (by rfl) T.b_min (by decide +kernel) (pa_cons (pe_ix (k_ix (K := K) rfl) (pv 0) pe_int (fun _ _ => rfl)) (pa_cons (pe_ix (k_ix (K := K) rfl) (pv 1) pe_int (fun _ _ => rfl)) pa_nil)))) (nomark _))))))), ?_⟩
    exact body_ok (N := N_plain_bears) (fun pa ca => (js_seq (js_forT (j_tup (ja_cons (j_tup (ja_cons j_str (ja_cons (j_var 0) ja_nil))) (ja_cons (j_tup (ja_cons j_str (ja_cons (j_var 1) ja_nil))) ja_nil))) (jg_tup (jgs_cons (jg_name 3) (jgs_cons (jg_name 4) jgs_nil)))
      (js_seq (js_if (jt_or (jt_not (jt_val (j_isi2 (j_var 4)))) (jt_test (j_op jr_ne (j_cb jc_len (ja_cons (j_var 4) ja_nil)) j_int))) js_never js_nil)
      (js_seq (js_drop (j_own (ja_cons (j_op jr_ix (j_var 4) j_int) (ja_cons (j_op jr_ix (j_var 4) j_int) (ja_cons (j_op jr_ix (j_var 4) j_int) ja_nil)))))
      (js_drop (j_own (ja_cons j_str (ja_cons (j_op jr_ix (j_var 4) j_int) (ja_cons j_int (ja_cons j_int ja_nil)))))))))
      (js_seq (js_drop (j_own (ja_cons j_str (ja_cons (j_var 2) (ja_cons j_int (ja_cons j_int ja_nil))))))
      (js_seq (js_asg (j_cb jc_min2 (ja_cons (j_op jr_add (j_op jr_ix (j_var 0) j_int) (j_op jr_ix (j_var 1) j_int)) (ja_cons (j_op jr_add (j_op jr_ix (j_var 0) j_int) (j_op jr_ix (j_var 1) j_int)) ja_nil))) (jg_name 5))
      (js_ret (j_op jr_gt (j_var 5) (j_op jr_add (j_own (ja_cons (j_op jr_ix (j_var 0) j_int) (ja_cons (j_op jr_ix (j_var 1) j_int) (ja_cons (j_var 2) ja_nil)))) (j_cb jc_min2 (ja_cons (j_op jr_ix (j_var 0) j_int) (ja_cons (j_op jr_ix (j_var 1) j_int) ja_nil)))))))))) h
/-! ### _law_pen -/
abbrev s__law_pen : Stmt := top 15
def N__law_pen : List Str := ["script", "cell"]
theorem sc__law_pen : FnScope N__law_pen ["script"] (defScope s__law_pen) := ⟨rfl, rfl, rfl, by decide +kernel, rfl, by decide +kernel, by decide +kernel⟩
theorem own__law_pen (h : DefIn K mg "_law_pen" s__law_pen) (T : Txt mg) : OwnF Pg w K mg base 1 "_law_pen" s__law_pen ["script"] (spPen K) :=
  own_of h sc__law_pen (fun _ _ _ _ h => spPen.len h) fun f cd A ou s H vs Q E r g h => by
    refine ⟨_, (pss_one (ps_ret (pe_lst (pa_cons (pe_lc (own := [("cell", 1)]) rfl sc__law_pen.nd (k_piL (K := K) rfl (pe_slice (k_slL (K := K) rfl) (pv 0) po_none (po_some pe_int))) (blkOk_by (N := N__law_pen) (sc := (defScope s__law_pen)) (by decide +kernel)) (fun _ _ _ _ _ => (pg_name (i := 1) sc__law_pen.nd rfl (Or.inl rfl))) (fun _ _ _ _ _ => pts_nil) (fun _ _ _ _ _ => (pe_callTy call_int1 (by rfl) T.b_int (by decide +kernel) (pa_cons (pv 1) pa_nil)))) (pa_cons pe_int (pa_cons pe_int pa_nil)))))), ?_⟩
    obtain ⟨a, ns, rfl, _⟩ := id h
    exact pen_reads rfl (by decide) h
/-! ### _law_draw -/
abbrev s__law_draw : Stmt := top 16
def N__law_draw : List Str := ["pen", "many", "rest", "spot", "cell", "great", "mixed"]
theorem sc__law_draw : FnScope N__law_draw ["pen", "many"] (defScope s__law_draw) := ⟨rfl, rfl, rfl, by decide +kernel, rfl, by decide +kernel, by decide +kernel⟩
def g__law_draw : Sl → M (Out × Sl) := (sSeq (sIf (bTest (eOp dGt (ePen 0 2) (eC (.int 0)))) (sSeq (sAsg (eCall dInt (aCons (ePen 0 2) aNil)) (tgN 2))
    (sSeq (sPen 0 2 (eOp dDiv (eVar 2) (eVar 1)))
    (sRet (eOp dMod (eCall dInt (aCons (eVar 2) aNil)) (eVar 1))))) sNx)
    (sSeq (sAsg (ePen 0 1) (tgN 3))
    (sSeq (sPen 0 1 (eOp dAdd (eVar 3) (eC (.int 1))))
    (sSeq (sAsg (eOp dAdd (eOp dMul (eC (.int 12946)) (eVar 3)) (eC (.int 1982))) (tgN 4))
    (sSeq (sIf (bTest (eOp dNeD (ePen 0 0) (eLst aNil))) (sAsg (eOp dIxL (ePen 0 0) (eOp dMod (eCall dInt (aCons (eVar 3) aNil)) (eCall dLen (aCons (ePen 0 0) aNil)))) (tgN 4)) sNx)
    (sSeq (sIf (bAnd (bTest (eOp dLt (eVar 3) (eCall dLen (aCons (ePen 0 0) aNil)))) (bTest (eOp dGe (eCall dAbs (aCons (eVar 4) aNil)) (eOp dPow (eC (.int 10)) (eC (.int 18)))))) (sSeq (sAsg (eOp dAdd (eOp dMul (eC (.int 2)) (eOp dSub (eCall dAbs (aCons (eVar 4) aNil)) (eOp dPow (eC (.int 10)) (eC (.int 18))))) (eCall dInt (aCons (eOp dLt (eVar 4) (eC (.int 0))) aNil))) (tgN 5))
    (sSeq (sPen 0 2 (eOp dDiv (eCall dInt (aCons (eVar 5) aNil)) (eVar 1)))
    (sRet (eOp dMod (eCall dInt (aCons (eVar 5) aNil)) (eVar 1))))) sNx)
    (sSeq (sAsg (eOp dMod (eCall dInt (aCons (eOp dPow (eOp dAdd (eOp dAdd (eOp dMod (eCall dInt (aCons (eVar 4) aNil)) (eC (.int 2147483549))) (eOp dMul (eC (.int 82239)) (eVar 3))) (eC (.int 1982))) (eC (.int 3))) aNil)) (eC (.int 2147483629))) (tgN 6))
    (sSeq (sAsg (eOp dMod (eCall dInt (aCons (eOp dPow (eOp dAdd (eOp dAdd (eOp dMul (eVar 6) (eOp dAdd (eOp dMul (eC (.int 2)) (eVar 3)) (eC (.int 417)))) (eOp dMul (eOp dMul (eC (.int 1982)) (eVar 3)) (eVar 3))) (eC (.int 12946))) (eC (.int 5))) aNil)) (eC (.int 2147483563))) (tgN 6))
    (sRet (eOp dMod (eCall dInt (aCons (eOp dDiv (eVar 6) (eC (.int 32))) aNil)) (eVar 1)))))))))))
def m__law_draw : List D → M D := bodyM 7 g__law_draw
theorem own__law_draw (h : DefIn K mg "_law_draw" s__law_draw) (T : Txt mg)  : OwnF Pg w K mg base 1 "_law_draw" s__law_draw ["pen", "many"] (spM K cl 2 m__law_draw) :=
  own_of h sc__law_draw (fun _ _ _ _ h => spM.len h) fun f cd A ou s H vs Q E r g h => by
    refine ⟨_, (pss_cons (ps_if (pt_cmpR op_gt (pe_ix (k_ixL (K := K) rfl) (pv 0) pe_int (fun _ _ => rfl)) pe_int (nomark _)) (pss_cons (ps_set (i := 2) sc__law_draw.nd rfl (Or.inl rfl) (pe_callTy call_int1 (by rfl) T.b_int (by decide +kernel) (pa_cons (pe_ix (k_ixL (K := K) rfl) (pv 0) pe_int (fun _ _ => rfl)) pa_nil)))
      (pss_cons (ps_asg (pe_op op_fdivN (pv 2) (pv 1)) (pg_sub (pv 0) pe_int set_list))
      (pss_one (ps_ret (pe_op op_modN (pe_callTy call_int1 (by rfl) T.b_int (by decide +kernel) (pa_cons (pv 2) pa_nil)) (pv 1)))))) pss_nil)
      (pss_cons (ps_set (i := 3) sc__law_draw.nd rfl (Or.inl rfl) (pe_ix (k_ixL (K := K) rfl) (pv 0) pe_int (fun _ _ => rfl)))
      (pss_cons (ps_asg (pe_op op_add (pv 3) pe_int) (pg_sub (pv 0) pe_int set_list))
      (pss_cons (ps_set (i := 4) sc__law_draw.nd rfl (Or.inl rfl) (pe_op op_add (pe_op op_mul pe_int (pv 3)) pe_int))
      (pss_cons (ps_if (pt_cmpR (k_neD (K := K) rfl r.units) (pe_ix (k_ixL (K := K) rfl) (pv 0) pe_int (fun _ _ => rfl)) (pe_lst pa_nil) (nomark _)) (pss_one (ps_set (i := 4) sc__law_draw.nd rfl (Or.inl rfl) (pe_ix (k_ixL (K := K) rfl) (pe_ix (k_ixL (K := K) rfl) (pv 0) pe_int (fun _ _ => rfl)) (pe_op op_modN (pe_callTy call_int1 (by rfl) T.b_int (by decide +kernel) (pa_cons (pv 3) pa_nil)) (pe_callB (k_len (K := K) rfl) (by rfl) T.b_len (by decide +kernel) (pa_cons (pe_ix (k_ixL (K := K) rfl) (pv 0) pe_int (fun _ _ => rfl)) pa_nil))) (fun _ _ => rfl)))) pss_nil)
      (pss_cons (ps_if (PW.pt (pw_and (pt_cmpR op_lt (pv 3) (pe_callB (k_len (K := K) rfl) (by rfl) T.b_len (by decide +kernel) (pa_cons (pe_ix (k_ixL (K := K) rfl) (pv 0) pe_int (fun _ _ => rfl)) pa_nil)) (nomark _)) (pw_and1 (pt_cmpR op_ge (pe_callB call_abs (by rfl) T.b_abs (by decide +kernel) (pa_cons (pv 4) pa_nil)) (pe_op op_pow pe_int pe_int) (nomark _))))) (pss_cons (ps_set (i := 5) sc__law_draw.nd rfl (Or.inl rfl) (pe_op op_add (pe_op op_mul pe_int (pe_op op_sub (pe_callB call_abs (by rfl) T.b_abs (by decide +kernel) (pa_cons (pv 4) pa_nil)) (pe_op op_pow pe_int pe_int))) (pe_callTy call_int1 (by rfl) T.b_int (by decide +kernel) (pa_cons (pe_cmpR op_lt (pv 4) pe_int (nomark _)) pa_nil))))
      (pss_cons (ps_asg (pe_op op_fdivN (pe_callTy call_int1 (by rfl) T.b_int (by decide +kernel) (pa_cons (pv 5) pa_nil)) (pv 1)) (pg_sub (pv 0) pe_int set_list))
      (pss_one (ps_ret (pe_op op_modN (pe_callTy call_int1 (by rfl) T.b_int (by decide +kernel) (pa_cons (pv 5) pa_nil)) (pv 1)))))) pss_nil)
      (pss_cons (ps_set (i := 6) sc__law_draw.nd rfl (Or.inl rfl) (pe_op op_modN (pe_callTy call_int1 (by rfl) T.b_int (by decide +kernel) (pa_cons (pe_op op_pow (pe_op op_add (pe_op op_add (pe_op op_modN (pe_callTy call_int1 (by rfl) T.b_int (by decide +kernel) (pa_cons (pv 4) pa_nil)) pe_int) (pe_op op_mul pe_int (pv 3))) pe_int) pe_int) pa_nil)) pe_int))
      (pss_cons (ps_set (i := 6) sc__law_draw.nd rfl (Or.inl rfl) (pe_op op_modN (pe_callTy call_int1 (by rfl) T.b_int (by decide +kernel) (pa_cons (pe_op op_pow (pe_op op_add (pe_op op_add (pe_op op_mul (pv 6) (pe_op op_add (pe_op op_mul pe_int (pv 3)) pe_int)) (pe_op op_mul (pe_op op_mul pe_int (pv 3)) (pv 3))) pe_int) pe_int) pa_nil)) pe_int))
      (pss_one (ps_ret (pe_op op_modN (pe_callTy call_int1 (by rfl) T.b_int (by decide +kernel) (pa_cons (pe_op op_fdivN (pv 6) pe_int) pa_nil)) (pv 1)))))))))))), ?_⟩
    exact body_ok (N := N__law_draw) (fun pa ca => (js_seq (js_if (jt_test (j_op jr_gt j_pen j_int)) (js_seq (js_asg (j_cb jc_int (ja_cons j_pen ja_nil)) (jg_name 2))
      (js_seq (js_pen (j_op jr_div (j_var 2) (j_var 1)))
      (js_ret (j_op jr_mod (j_cb jc_int (ja_cons (j_var 2) ja_nil)) (j_var 1))))) js_nil)
      (js_seq (js_asg j_pen (jg_name 3))
      (js_seq (js_pen (j_op jr_add (j_var 3) j_int))
      (js_seq (js_asg (j_op jr_add (j_op jr_mul j_int (j_var 3)) j_int) (jg_name 4))
      (js_seq (js_if (jt_test (j_op jr_neD j_pen (j_lst ja_nil))) (js_asg (j_op jr_ixL j_pen (j_op jr_mod (j_cb jc_int (ja_cons (j_var 3) ja_nil)) (j_cb jc_len (ja_cons j_pen ja_nil)))) (jg_name 4)) js_nil)
      (js_seq (js_if (jt_and (jt_test (j_op jr_lt (j_var 3) (j_cb jc_len (ja_cons j_pen ja_nil)))) (jt_test (j_op jr_ge (j_cb jc_abs (ja_cons (j_var 4) ja_nil)) (j_op jr_pow j_int j_int)))) (js_seq (js_asg (j_op jr_add (j_op jr_mul j_int (j_op jr_sub (j_cb jc_abs (ja_cons (j_var 4) ja_nil)) (j_op jr_pow j_int j_int))) (j_cb jc_int (ja_cons (j_op jr_lt (j_var 4) j_int) ja_nil))) (jg_name 5))
      (js_seq (js_pen (j_op jr_div (j_cb jc_int (ja_cons (j_var 5) ja_nil)) (j_var 1)))
      (js_ret (j_op jr_mod (j_cb jc_int (ja_cons (j_var 5) ja_nil)) (j_var 1))))) js_nil)
      (js_seq (js_asg (j_op jr_mod (j_cb jc_int (ja_cons (j_op jr_pow (j_op jr_add (j_op jr_add (j_op jr_mod (j_cb jc_int (ja_cons (j_var 4) ja_nil)) j_int) (j_op jr_mul j_int (j_var 3))) j_int) j_int) ja_nil)) j_int) (jg_name 6))
      (js_seq (js_asg (j_op jr_mod (j_cb jc_int (ja_cons (j_op jr_pow (j_op jr_add (j_op jr_add (j_op jr_mul (j_var 6) (j_op jr_add (j_op jr_mul j_int (j_var 3)) j_int)) (j_op jr_mul (j_op jr_mul j_int (j_var 3)) (j_var 3))) j_int) j_int) ja_nil)) j_int) (jg_name 6))
      (js_ret (j_op jr_mod (j_cb jc_int (ja_cons (j_op jr_div (j_var 6) j_int) ja_nil)) (j_var 1)))))))))))) h
/-! ### _law_pick -/
abbrev s__law_pick : Stmt := top 17
def N__law_pick : List Str := ["pen", "some"]
theorem sc__law_pick : FnScope N__law_pick ["pen", "some"] (defScope s__law_pick) := ⟨rfl, rfl, rfl, by decide +kernel, rfl, by decide +kernel, by decide +kernel⟩
def g__law_pick : Sl → M (Out × Sl) := (sRet (eOp dIxL (eVar 1) (eOwn 2 m__law_draw (aCons (eVar 0) (aCons (eCall dLen (aCons (eVar 1) aNil)) aNil)))))
def m__law_pick : List D → M D := bodyM 2 g__law_pick
theorem own__law_pick (h : DefIn K mg "_law_pick" s__law_pick) (T : Txt mg) (o__law_draw : Own Pg w K mg base 1 "_law_draw" ["pen", "many"] (spM K cl 2 m__law_draw)) : OwnF Pg w K mg base 2 "_law_pick" s__law_pick ["pen", "some"] (spM K cl 2 m__law_pick) :=
  own_of h sc__law_pick (fun _ _ _ _ h => spM.len h) fun f cd A ou s H vs Q E r g h => by
    refine ⟨_, (pss_one (ps_ret (pe_ix (k_ixL (K := K) rfl) (pv 1) (pe_own o__law_draw (r.mono (by decide)) g (pa_cons (pv 0) (pa_cons (pe_callB (k_len (K := K) rfl) (by rfl) T.b_len (by decide +kernel) (pa_cons (pv 1) pa_nil)) pa_nil))) (fun _ _ => rfl)))), ?_⟩
    exact body_ok (N := N__law_pick) (fun pa ca => (js_ret (j_op jr_ixL (j_var 1) (j_own (ja_cons (j_var 0) (ja_cons (j_cb jc_len (ja_cons (j_var 1) ja_nil)) ja_nil)))))) h
/-! ### _law_plain -/
abbrev s__law_plain : Stmt := top 18
def N__law_plain : List Str := ["pen", "most", "copies"]
theorem sc__law_plain : FnScope N__law_plain ["pen", "most"] (defScope s__law_plain) := ⟨rfl, rfl, rfl, by decide +kernel, rfl, by decide +kernel, by decide +kernel⟩
def g__law_plain : Sl → M (Out × Sl) := (sSeq (sAsg (eOp dAdd (eC (.int 1)) (eOwn 2 m__law_draw (aCons (eVar 0) (aCons (eVar 1) aNil)))) (tgN 2))
    (sRet (eTup (aCons (eVar 2) (aCons (eOp dAdd (eC (.int 1)) (eOwn 2 m__law_draw (aCons (eVar 0) (aCons (eVar 2) aNil)))) (aCons (eOp dAdd (eC (.int 1)) (eOwn 2 m__law_draw (aCons (eVar 0) (aCons (eVar 2) aNil)))) (aCons (eOwn 2 m__law_pick (aCons (eVar 0) (aCons (eLst (aCons (eC (.int 0)) (aCons (eC (.int 0)) (aCons (eC (.int 0)) (aCons (eC (.int 1)) (aCons (eC (.int 1)) (aCons (eC (.int 2)) aNil))))))) aNil))) aNil)))))))
def m__law_plain : List D → M D := bodyM 3 g__law_plain
theorem own__law_plain (h : DefIn K mg "_law_plain" s__law_plain) (T : Txt mg) (o__law_draw : Own Pg w K mg base 1 "_law_draw" ["pen", "many"] (spM K cl 2 m__law_draw)) (o__law_pick : Own Pg w K mg base 2 "_law_pick" ["pen", "some"] (spM K cl 2 m__law_pick)) : OwnF Pg w K mg base 3 "_law_plain" s__law_plain ["pen", "most"] (spM K cl 2 m__law_plain) :=
  own_of h sc__law_plain (fun _ _ _ _ h => spM.len h) fun f cd A ou s H vs Q E r g h => by
    refine ⟨_, (pss_cons (ps_set (i := 2) sc__law_plain.nd rfl (Or.inl rfl) (pe_op op_add pe_int (pe_own o__law_draw (r.mono (by decide)) g (pa_cons (pv 0) (pa_cons (pv 1) pa_nil)))))
      (pss_one (ps_ret (pe_tup (pa_cons (pv 2) (pa_cons (pe_op op_add pe_int (pe_own o__law_draw (r.mono (by decide)) g (pa_cons (pv 0) (pa_cons (pv 2) pa_nil)))) (pa_cons (pe_op op_add pe_int (pe_own o__law_draw (r.mono (by decide)) g (pa_cons (pv 0) (pa_cons (pv 2) pa_nil)))) (pa_cons (pe_own o__law_pick (r.mono (by decide)) g (pa_cons (pv 0) (pa_cons (pe_lst (pa_cons pe_int (pa_cons pe_int (pa_cons pe_int (pa_cons pe_int (pa_cons pe_int (pa_cons pe_int pa_nil))))))) pa_nil))) pa_nil)))))))), ?_⟩
    exact body_ok (N := N__law_plain) (fun pa ca => (js_seq (js_asg (j_op jr_add j_int (j_own (ja_cons (j_var 0) (ja_cons (j_var 1) ja_nil)))) (jg_name 2))
      (js_ret (j_tup (ja_cons (j_var 2) (ja_cons (j_op jr_add j_int (j_own (ja_cons (j_var 0) (ja_cons (j_var 2) ja_nil)))) (ja_cons (j_op jr_add j_int (j_own (ja_cons (j_var 0) (ja_cons (j_var 2) ja_nil)))) (ja_cons (j_own (ja_cons (j_var 0) (ja_cons (j_lst (ja_cons j_int (ja_cons j_int (ja_cons j_int (ja_cons j_int (ja_cons j_int (ja_cons j_int ja_nil))))))) ja_nil))) ja_nil)))))))) h
/-! ### _law_rows -/
abbrev s__law_rows : Stmt := top 19
def N__law_rows : List Str := ["changes", "most", "every", "found", "lap", "more", "one", "other", "at"]
theorem sc__law_rows : FnScope N__law_rows ["changes", "most"] (defScope s__law_rows) := ⟨rfl, rfl, rfl, by decide +kernel, rfl, by decide +kernel, by decide +kernel⟩
def g__law_rows : Sl → M (Out × Sl) := (sSeq (sAsg (eL (lRg1 (eOp dAdd (eOp dMul (eC (.int 2)) (eVar 1)) (eVar 0)))) (tgN 2))
    (sSeq (sAsg (eLst (aCons (eTup (aCons (eVar 2) (aCons (eVar 2) aNil))) aNil)) (tgN 3))
    (sSeq (sForR rg1 (aCons (eVar 0) aNil) (tgN 4)
    (sSeq (sAsg (eLst aNil) (tgN 5))
    (sSeq (sForL (eSlL (eVar 3) oNone (oPart (eC (.int 60)))) (tgTup 2 (tgCons (tgN 6) (tgCons (tgN 7) tgNil)))
    (sSeq (sAsg (eOp dCatL (eVar 5) (eL (lcRg [8] rg1 (aCons (eOp dAdd (eVar 1) (eC (.int 1))) aNil) (tgN 8) bYes (eTup (aCons (eVar 6) (aCons (eOp dCatL (eSlL (eVar 7) oNone (oPart (eVar 8))) (eSlL (eVar 7) (oPart (eOp dAdd (eVar 8) (eC (.int 1)))) oNone)) aNil)))))) (tgN 5))
    (sAsg (eOp dCatL (eVar 5) (eL (lcRg [8] rg1 (aCons (eOp dAdd (eVar 1) (eC (.int 1))) aNil) (tgN 8) bYes (eTup (aCons (eOp dCatL (eSlL (eVar 6) oNone (oPart (eVar 8))) (eSlL (eVar 6) (oPart (eOp dAdd (eVar 8) (eC (.int 1)))) oNone)) (aCons (eVar 7) aNil)))))) (tgN 5))))
    (sAsg (eOp dCatL (eVar 3) (eVar 5)) (tgN 3)))))
    (sRet (eVar 3)))))
def m__law_rows : List D → M D := bodyM 9 g__law_rows
theorem own__law_rows (h : DefIn K mg "_law_rows" s__law_rows) (T : Txt mg)  : OwnF Pg w K mg base 1 "_law_rows" s__law_rows ["changes", "most"] (spM K cl 2 m__law_rows) :=
  own_of h sc__law_rows (fun _ _ _ _ h => spM.len h) fun f cd A ou s H vs Q E r g h => by
    refine ⟨_, (pss_cons (ps_set (i := 2) sc__law_rows.nd rfl (Or.inl rfl) (pe_listRg rfl (by rfl) T.b_list (prg_1 (by rfl) T.b_range (pe_op op_add (pe_op op_mul pe_int (pv 1)) (pv 0)))))
      (pss_cons (ps_set (i := 3) sc__law_rows.nd rfl (Or.inl rfl) (pe_lst (pa_cons (pe_tup (pa_cons (pv 2) (pa_cons (pv 2) pa_nil))) pa_nil)))
      (pss_cons (ps_for PassesOwn.never rfl (pi_range1 (by rfl) T.b_range (pa_cons (pv 0) pa_nil)) (pg_name (i := 4) sc__law_rows.nd rfl (Or.inl rfl))
      (pss_cons (ps_set (i := 5) sc__law_rows.nd rfl (Or.inl rfl) (pe_lst pa_nil))
      (pss_cons (ps_for PassesOwn.never rfl (k_piL (K := K) rfl (pe_slice (k_slL (K := K) rfl) (pv 3) po_none (po_some pe_int))) (k_pgT (K := K) rfl rfl (pgs_cons (pg_name (i := 6) sc__law_rows.nd rfl (Or.inr rfl)) (pgs_cons (pg_name (i := 7) sc__law_rows.nd rfl (Or.inr rfl)) pgs_nil)))
      (pss_cons (ps_set (i := 5) sc__law_rows.nd rfl (Or.inl rfl) (pe_op op_cat (pv 5) (pe_lc (own := [("at", 8)]) rfl sc__law_rows.nd (pi_range1 (by rfl) T.b_range (pa_cons (pe_op op_add (pv 1) pe_int) pa_nil)) (blkOk_by (N := N__law_rows) (sc := (defScope s__law_rows)) (by decide +kernel)) (fun _ _ _ _ _ => (pg_name (i := 8) sc__law_rows.nd rfl (Or.inl rfl))) (fun _ _ _ _ _ => pts_nil) (fun _ _ _ _ _ => (pe_tup (pa_cons (pv 6) (pa_cons (pe_op op_cat (pe_slice (k_slL (K := K) rfl) (pv 7) po_none (po_some (pv 8))) (pe_slice (k_slL (K := K) rfl) (pv 7) (po_some (pe_op op_add (pv 8) pe_int)) po_none)) pa_nil)))))))
      (pss_one (ps_set (i := 5) sc__law_rows.nd rfl (Or.inl rfl) (pe_op op_cat (pv 5) (pe_lc (own := [("at", 8)]) rfl sc__law_rows.nd (pi_range1 (by rfl) T.b_range (pa_cons (pe_op op_add (pv 1) pe_int) pa_nil)) (blkOk_by (N := N__law_rows) (sc := (defScope s__law_rows)) (by decide +kernel)) (fun _ _ _ _ _ => (pg_name (i := 8) sc__law_rows.nd rfl (Or.inl rfl))) (fun _ _ _ _ _ => pts_nil) (fun _ _ _ _ _ => (pe_tup (pa_cons (pe_op op_cat (pe_slice (k_slL (K := K) rfl) (pv 6) po_none (po_some (pv 8))) (pe_slice (k_slL (K := K) rfl) (pv 6) (po_some (pe_op op_add (pv 8) pe_int)) po_none)) (pa_cons (pv 7) pa_nil))))))))))
      (pss_one (ps_set (i := 3) sc__law_rows.nd rfl (Or.inl rfl) (pe_op op_cat (pv 3) (pv 5)))))))
      (pss_one (ps_ret (pv 3)))))), ?_⟩
    exact body_ok (N := N__law_rows) (fun pa ca => (js_seq (js_asg (j_ofL (jl_rg1 (j_op jr_add (j_op jr_mul j_int (j_var 1)) (j_var 0)))) (jg_name 2))
      (js_seq (js_asg (j_lst (ja_cons (j_tup (ja_cons (j_var 2) (ja_cons (j_var 2) ja_nil))) ja_nil)) (jg_name 3))
      (js_seq (js_forR1 (ja_cons (j_var 0) ja_nil) (jg_name 4)
      (js_seq (js_asg (j_lst ja_nil) (jg_name 5))
      (js_seq (js_forL (j_slL (j_var 3) jo_none (jo_part j_int)) (jg_tup (jgs_cons (jg_name 6) (jgs_cons (jg_name 7) jgs_nil)))
      (js_seq (js_asg (j_op jr_catL (j_var 5) (j_ofL (jl_lcR1 (ja_cons (j_op jr_add (j_var 1) j_int) ja_nil) (jg_name 8) jt_yes (j_tup (ja_cons (j_var 6) (ja_cons (j_op jr_catL (j_slL (j_var 7) jo_none (jo_part (j_var 8))) (j_slL (j_var 7) (jo_part (j_op jr_add (j_var 8) j_int)) jo_none)) ja_nil)))))) (jg_name 5))
      (js_asg (j_op jr_catL (j_var 5) (j_ofL (jl_lcR1 (ja_cons (j_op jr_add (j_var 1) j_int) ja_nil) (jg_name 8) jt_yes (j_tup (ja_cons (j_op jr_catL (j_slL (j_var 6) jo_none (jo_part (j_var 8))) (j_slL (j_var 6) (jo_part (j_op jr_add (j_var 8) j_int)) jo_none)) (ja_cons (j_var 7) ja_nil)))))) (jg_name 5))))
      (js_asg (j_op jr_catL (j_var 3) (j_var 5)) (jg_name 3)))))
      (js_ret (j_var 3)))))) h
/-! ### _law_lots -/
abbrev s__law_lots : Stmt := top 20
def N__law_lots : List Str := ["some", "many", "found", "one", "lot"]
theorem sc__law_lots : FnScope N__law_lots ["some", "many"] (defScope s__law_lots) := ⟨rfl, rfl, rfl, by decide +kernel, rfl, by decide +kernel, by decide +kernel⟩
def g__law_lots : Sl → M (Out × Sl) := (sSeq (sAsg (eLst (aCons (eTup aNil) aNil)) (tgN 2))
    (sSeq (sForL (eVar 0) (tgN 3)
    (sAsg (eOp dCatL (eVar 2) (eL (lcOf [4] unL (eVar 2) (tgN 4) (bTest (eOp dLt (eCall dLen (aCons (eVar 4) aNil)) (eVar 1))) (eOp dCatT (eVar 4) (eTup (aCons (eVar 3) aNil)))))) (tgN 2)))
    (sRet (eL (lcOf [4] unL (eVar 2) (tgN 4) (bTest (eOp dEq (eCall dLen (aCons (eVar 4) aNil)) (eVar 1))) (eVar 4))))))
def m__law_lots : List D → M D := bodyM 5 g__law_lots
theorem own__law_lots (h : DefIn K mg "_law_lots" s__law_lots) (T : Txt mg)  : OwnF Pg w K mg base 1 "_law_lots" s__law_lots ["some", "many"] (spM K cl 2 m__law_lots) :=
  own_of h sc__law_lots (fun _ _ _ _ h => spM.len h) fun f cd A ou s H vs Q E r g h => by
    refine ⟨_, (pss_cons (ps_set (i := 2) sc__law_lots.nd rfl (Or.inl rfl) (pe_lst (pa_cons (pe_tup pa_nil) pa_nil)))
      (pss_cons (ps_for PassesOwn.never rfl (k_piL (K := K) rfl (pv 0)) (pg_name (i := 3) sc__law_lots.nd rfl (Or.inr rfl))
      (pss_one (ps_set (i := 2) sc__law_lots.nd rfl (Or.inl rfl) (pe_op op_cat (pv 2) (pe_lc (own := [("lot", 4)]) rfl sc__law_lots.nd (k_piL (K := K) rfl (pv 2)) (blkOk_by (N := N__law_lots) (sc := (defScope s__law_lots)) (by decide +kernel)) (fun _ _ _ _ _ => (pg_name (i := 4) sc__law_lots.nd rfl (Or.inl rfl))) (fun _ _ _ _ _ => (pts_one (pt_cmpR op_lt (pe_callB (k_len (K := K) rfl) (by rfl) T.b_len (by decide +kernel) (pa_cons (pv 4) pa_nil)) (pv 1) (nomark _)))) (fun _ _ _ _ _ => (pe_op (k_catT (K := K) rfl) (pv 4) (pe_tup (pa_cons (pv 3) pa_nil)))))))))
      (pss_one (ps_ret (pe_lc (own := [("lot", 4)]) rfl sc__law_lots.nd (k_piL (K := K) rfl (pv 2)) (blkOk_by (N := N__law_lots) (sc := (defScope s__law_lots)) (by decide +kernel)) (fun _ _ _ _ _ => (pg_name (i := 4) sc__law_lots.nd rfl (Or.inl rfl))) (fun _ _ _ _ _ => (pts_one (pt_cmpR op_eq (pe_callB (k_len (K := K) rfl) (by rfl) T.b_len (by decide +kernel) (pa_cons (pv 4) pa_nil)) (pv 1) (nomark _)))) (fun _ _ _ _ _ => (pv 4))))))), ?_⟩
    exact body_ok (N := N__law_lots) (fun pa ca => (js_seq (js_asg (j_lst (ja_cons (j_tup ja_nil) ja_nil)) (jg_name 2))
      (js_seq (js_forL (j_var 0) (jg_name 3)
      (js_asg (j_op jr_catL (j_var 2) (j_ofL (jl_lcL (j_var 2) (jg_name 4) (jt_test (j_op jr_lt (j_cb jc_len (ja_cons (j_var 4) ja_nil)) (j_var 1))) (j_op jr_catT (j_var 4) (j_tup (ja_cons (j_var 3) ja_nil)))))) (jg_name 2)))
      (js_ret (j_ofL (jl_lcL (j_var 2) (jg_name 4) (jt_test (j_op jr_eq (j_cb jc_len (ja_cons (j_var 4) ja_nil)) (j_var 1))) (j_var 4))))))) h
/-! ### _law_is_apart -/
abbrev s__law_is_apart : Stmt := top 21
def N__law_is_apart : List Str := ["mine", "its", "keep", "read", "liars", "lot", "other", "one"]
theorem sc__law_is_apart : FnScope N__law_is_apart ["mine", "its", "keep", "read", "liars"] (defScope s__law_is_apart) := ⟨rfl, rfl, rfl, by decide +kernel, rfl, by decide +kernel, by decide +kernel⟩
def g__law_is_apart : Sl → M (Out × Sl) := (sSeq (sForL (eOwn 2 m__law_lots (aCons (eVar 0) (aCons (eVar 2) aNil))) (tgN 5)
    (sIf (bTest (eOp dNeD (eL (lcOf [6] unL (eOwn 2 m__law_lots (aCons (eVar 1) (aCons (eVar 3) aNil))) (tgN 6) (bTest (eOp dLe (eCall dLen (aCons (eL (lcOf [7] unT (eVar 5) (tgN 7) (bTest (eOp (dInF false) (eVar 7) (eVar 6))) (eVar 7))) aNil)) (eVar 4))) (eVar 6))) (eLst aNil))) (sRet (eC (.bl true))) sNx))
    (sRet (eC (.bl false))))
def m__law_is_apart : List D → M D := bodyM 8 g__law_is_apart
theorem own__law_is_apart (h : DefIn K mg "_law_is_apart" s__law_is_apart) (T : Txt mg) (o__law_lots : Own Pg w K mg base 1 "_law_lots" ["some", "many"] (spM K cl 2 m__law_lots)) : OwnF Pg w K mg base 2 "_law_is_apart" s__law_is_apart ["mine", "its", "keep", "read", "liars"] (spM K cl 5 m__law_is_apart) :=
  own_of h sc__law_is_apart (fun _ _ _ _ h => spM.len h) fun f cd A ou s H vs Q E r g h => by
    refine ⟨_, (pss_cons (ps_for PassesOwn.never rfl (k_piL (K := K) rfl (pe_own o__law_lots (r.mono (by decide)) g (pa_cons (pv 0) (pa_cons (pv 2) pa_nil)))) (pg_name (i := 5) sc__law_is_apart.nd rfl (Or.inr rfl))
      (pss_one (ps_if (pt_cmpR (k_neD (K := K) rfl r.units) (pe_lc (own := [("other", 6)]) rfl sc__law_is_apart.nd (k_piL (K := K) rfl (pe_own o__law_lots (r.mono (by decide)) g (pa_cons (pv 1) (pa_cons (pv 3) pa_nil)))) (blkOk_by (N := N__law_is_apart) (sc := (defScope s__law_is_apart)) (by decide +kernel)) (fun _ _ _ _ _ => (pg_name (i := 6) sc__law_is_apart.nd rfl (Or.inr rfl))) (fun _ _ _ _ _ => (pts_one (pt_cmpR op_le (pe_callB (k_len (K := K) rfl) (by rfl) T.b_len (by decide +kernel) (pa_cons (pe_lc (own := [("one", 7)]) rfl sc__law_is_apart.nd (k_piT (K := K) rfl (pv 5)) (blkOk_by (N := N__law_is_apart) (sc := ({ kind := .function, names := [(".0", .local), ("other", .cell), ("len", .globalImplicit), ("liars", .cell), ("lot", .cell)], isGenerator := false, isCoroutine := false, more := [] } : Scope)) (by decide +kernel)) (fun _ _ _ _ _ => (pg_name (i := 7) sc__law_is_apart.nd rfl (Or.inl rfl))) (fun _ _ _ _ _ => (pts_one (pt_cmpR (k_in (K := K) rfl) (pv 7) (pv 6) (by rfl)))) (fun _ _ _ _ _ => (pv 7))) pa_nil)) (pv 4) (nomark _)))) (fun _ _ _ _ _ => (pv 6))) (pe_lst pa_nil) (nomark _)) (pss_one (ps_ret pe_bl)) pss_nil)))
      (pss_one (ps_ret pe_bl))), ?_⟩
    exact body_ok (N := N__law_is_apart) (fun pa ca => (js_seq (js_forL (j_own (ja_cons (j_var 0) (ja_cons (j_var 2) ja_nil))) (jg_name 5)
      (js_if (jt_test (j_op jr_neD (j_ofL (jl_lcL (j_own (ja_cons (j_var 1) (ja_cons (j_var 3) ja_nil))) (jg_name 6) (jt_test (j_op jr_le (j_cb jc_len (ja_cons (j_ofL (jl_lcT (j_var 5) (jg_name 7) (jt_test (j_op jr_inF (j_var 7) (j_var 6))) (j_var 7))) ja_nil)) (j_var 4))) (j_var 6))) (j_lst ja_nil))) (js_ret j_bl) js_nil))
      (js_ret j_bl))) h
/-! ### _law_splits -/
abbrev s__law_splits : Stmt := top 22
def N__law_splits : List Str := ["one", "other", "changes", "seen", "liars", "first", "second", "pair"]
theorem sc__law_splits : FnScope N__law_splits ["one", "other", "changes"] (defScope s__law_splits) := ⟨rfl, rfl, rfl, by decide +kernel, rfl, by decide +kernel, by decide +kernel⟩
def g__law_splits : Sl → M (Out × Sl) := (sSeq (sParOw 3 4 (lLst aNil) (eCall dMin2 (aCons (eOp dIxT (eVar 0) (eC (.int 3))) (aCons (eOp dIxT (eVar 1) (eC (.int 3))) aNil))))
    (sSeq (sForL (eOwn 2 m__law_rows (aCons (eVar 2) (aCons (eCall dMax2 (aCons (eOp dIxT (eVar 0) (eC (.int 0))) (aCons (eOp dIxT (eVar 1) (eC (.int 0))) aNil))) aNil))) (tgTup 2 (tgCons (tgN 5) (tgCons (tgN 6) tgNil)))
    (sSeq (sAsg (eTup (aCons (eSlL (eVar 5) oNone (oPart (eOp dIxT (eVar 0) (eC (.int 0))))) (aCons (eSlL (eVar 6) oNone (oPart (eOp dIxT (eVar 1) (eC (.int 0))))) aNil))) (tgN 7))
    (sIf (bTest (eInOw true 3 (eVar 7))) (sSeq (sApp 3 (eVar 7))
    (sIf (bOr (bTest (eOwn 5 m__law_is_apart (aCons (eOp dIxT (eVar 7) (eC (.int 0))) (aCons (eOp dIxT (eVar 7) (eC (.int 1))) (aCons (eOp dIxT (eVar 0) (eC (.int 2))) (aCons (eOp dIxT (eVar 1) (eC (.int 1))) (aCons (eVar 4) aNil))))))) (bTest (eOwn 5 m__law_is_apart (aCons (eOp dIxT (eVar 7) (eC (.int 1))) (aCons (eOp dIxT (eVar 7) (eC (.int 0))) (aCons (eOp dIxT (eVar 1) (eC (.int 2))) (aCons (eOp dIxT (eVar 0) (eC (.int 1))) (aCons (eVar 4) aNil)))))))) (sRet (eC (.bl true))) sNx)) sNx)))
    (sRet (eC (.bl false)))))
def m__law_splits : List D → M D := bodyM 8 g__law_splits
theorem own__law_splits (h : DefIn K mg "_law_splits" s__law_splits) (T : Txt mg) (o__law_rows : Own Pg w K mg base 1 "_law_rows" ["changes", "most"] (spM K cl 2 m__law_rows)) (o__law_is_apart : Own Pg w K mg base 2 "_law_is_apart" ["mine", "its", "keep", "read", "liars"] (spM K cl 5 m__law_is_apart)) : OwnF Pg w K mg base 3 "_law_splits" s__law_splits ["one", "other", "changes"] (spM K cl 3 m__law_splits) :=
  own_of h sc__law_splits (fun _ _ _ _ h => spM.len h) fun f cd A ou s H vs Q E r g h => by
    refine ⟨_, (pss_cons (ps_par (i := 3) (j := 4) (by rfl) sc__law_splits.nd rfl rfl (by decide) rfl rfl (pa_cons (pe_lst pa_nil) (pa_cons (pe_callB (call_min2 rfl) (by rfl) T.b_min (by decide +kernel) (pa_cons (pe_ix (k_ixT (K := K) rfl) (pv 0) pe_int (fun _ _ => rfl)) (pa_cons (pe_ix (k_ixT (K := K) rfl) (pv 1) pe_int (fun _ _ => rfl)) pa_nil))) pa_nil)) (by rfl))
      (pss_cons (ps_for PassesOwn.never rfl (k_piL (K := K) rfl (pe_own o__law_rows (r.mono (by decide)) g (pa_cons (pv 2) (pa_cons (pe_callB (call_max2 rfl) (by rfl) T.b_max (by decide +kernel) (pa_cons (pe_ix (k_ixT (K := K) rfl) (pv 0) pe_int (fun _ _ => rfl)) (pa_cons (pe_ix (k_ixT (K := K) rfl) (pv 1) pe_int (fun _ _ => rfl)) pa_nil))) pa_nil)))) (k_pgT (K := K) rfl rfl (pgs_cons (pg_name (i := 5) sc__law_splits.nd rfl (Or.inl rfl)) (pgs_cons (pg_name (i := 6) sc__law_splits.nd rfl (Or.inl rfl)) pgs_nil)))
      (pss_cons (ps_set (i := 7) sc__law_splits.nd rfl (Or.inl rfl) (pe_tup (pa_cons (pe_slice (k_slL (K := K) rfl) (pv 5) po_none (po_some (pe_ix (k_ixT (K := K) rfl) (pv 0) pe_int (fun _ _ => rfl)))) (pa_cons (pe_slice (k_slL (K := K) rfl) (pv 6) po_none (po_some (pe_ix (k_ixT (K := K) rfl) (pv 1) pe_int (fun _ _ => rfl)))) pa_nil))))
      (pss_one (ps_if (pt_cmpR (k_notInD (K := K) rfl (u65 r)) (pv 7) (pv 3) (by rfl)) (pss_cons (ps_expr (pe_bm PySem.F.plainAttrs_list PySem.F.slot_list_append PySem.F.type_list_append mt_append (pv 3) (pa_cons (pv 7) pa_nil)))
      (pss_one (ps_if (PW.pt (pw_or (pt_val (pe_own o__law_is_apart (r.mono (by decide)) g (pa_cons (pe_ix (k_ixT (K := K) rfl) (pv 7) pe_int (fun _ _ => rfl)) (pa_cons (pe_ix (k_ixT (K := K) rfl) (pv 7) pe_int (fun _ _ => rfl)) (pa_cons (pe_ix (k_ixT (K := K) rfl) (pv 0) pe_int (fun _ _ => rfl)) (pa_cons (pe_ix (k_ixT (K := K) rfl) (pv 1) pe_int (fun _ _ => rfl)) (pa_cons (pv 4) pa_nil))))))) (pw_or1 (pt_val (pe_own o__law_is_apart (r.mono (by decide)) g (pa_cons (pe_ix (k_ixT (K := K) rfl) (pv 7) pe_int (fun _ _ => rfl)) (pa_cons (pe_ix (k_ixT (K := K) rfl) (pv 7) pe_int (fun _ _ => rfl)) (pa_cons (pe_ix (k_ixT (K := K) rfl) (pv 1) pe_int (fun _ _ => rfl)) (pa_cons (pe_ix (k_ixT (K := K) rfl) (pv 0) pe_int (fun _ _ => rfl)) (pa_cons (pv 4) pa_nil)))))))))) (pss_one (ps_ret pe_bl)) pss_nil))) pss_nil))))
      (pss_one (ps_ret pe_bl)))), ?_⟩
    exact body_ok (N := N__law_splits) (fun pa ca => (js_seq (js_parOw (jl_lst ja_nil) (j_cb jc_min2 (ja_cons (j_op jr_ixT (j_var 0) j_int) (ja_cons (j_op jr_ixT (j_var 1) j_int) ja_nil))))
      (js_seq (js_forL (j_own (ja_cons (j_var 2) (ja_cons (j_cb jc_max2 (ja_cons (j_op jr_ixT (j_var 0) j_int) (ja_cons (j_op jr_ixT (j_var 1) j_int) ja_nil))) ja_nil))) (jg_tup (jgs_cons (jg_name 5) (jgs_cons (jg_name 6) jgs_nil)))
      (js_seq (js_asg (j_tup (ja_cons (j_slL (j_var 5) jo_none (jo_part (j_op jr_ixT (j_var 0) j_int))) (ja_cons (j_slL (j_var 6) jo_none (jo_part (j_op jr_ixT (j_var 1) j_int))) ja_nil))) (jg_name 7))
      (js_if (jt_test (j_notInOw (i := 3) (j_var 7))) (js_seq (js_app (i := 3) (j_var 7))
      (js_if (jt_or (jt_val (j_own (ja_cons (j_op jr_ixT (j_var 7) j_int) (ja_cons (j_op jr_ixT (j_var 7) j_int) (ja_cons (j_op jr_ixT (j_var 0) j_int) (ja_cons (j_op jr_ixT (j_var 1) j_int) (ja_cons (j_var 4) ja_nil))))))) (jt_val (j_own (ja_cons (j_op jr_ixT (j_var 7) j_int) (ja_cons (j_op jr_ixT (j_var 7) j_int) (ja_cons (j_op jr_ixT (j_var 1) j_int) (ja_cons (j_op jr_ixT (j_var 0) j_int) (ja_cons (j_var 4) ja_nil)))))))) (js_ret j_bl) js_nil)) js_nil)))
      (js_ret j_bl)))) h
def gK_plain_bears_changes_other_one : List D → List D → List D
  | [], [a0, a1, a2] => [a2, a1, a0]
  | _, _ => []
def gKv_plain_bears_changes_other_one : List Value → List Value → List Value
  | [], [a0, a1, a2] => [a2, a1, a0]
  | _, _ => []
def gKV_plain_bears_changes_other_one : List V → List V → List V
  | [], [a0, a1, a2] => [a2, a1, a0]
  | _, _ => []
theorem gK_plain_bears_changes_other_one_rv {P : Par} : ∀ H ds es vs ws, Rvs P H ds vs → Rvs P H es ws → Rvs P H (gK_plain_bears_changes_other_one ds es) (gKV_plain_bears_changes_other_one vs ws) := by
  intro H ds es vs ws h1 h
  cases ds with
  | cons d ds => obtain ⟨_, _, rfl, _⟩ := h1; exact rfl
  | nil =>
    cases (show vs = [] from h1)
    match es, h with
    | [a0, a1, a2], h =>
      obtain ⟨v0, w0, rfl, h0, ⟨v1, w1, rfl, h1, ⟨v2, w2, rfl, h2, rfl⟩⟩⟩ := h
      exact ⟨_, _, rfl, h2, ⟨_, _, rfl, h1, ⟨_, _, rfl, h0, rfl⟩⟩⟩
    | [], h =>
      rw [show ws = [] from h]; exact rfl
    | [_], h =>
      obtain ⟨_, _, rfl, _, rfl⟩ := h; exact rfl
    | [_, _], h =>
      obtain ⟨_, _, rfl, _, ⟨_, _, rfl, _, rfl⟩⟩ := h; exact rfl
    | _ :: _ :: _ :: _ :: _, h => obtain ⟨_, _, rfl, _, ⟨_, _, rfl, _, ⟨_, _, rfl, _, ⟨_, _, rfl, _, _⟩⟩⟩⟩ := h; exact rfl
theorem ok_K_plain_bears_changes_other_one {k : Nat} {sp : Sp} (h : OwnF Pg w K mg base k "plain_bears" s_plain_bears ["one", "other", "changes"] sp) : OwnK Pg w K mg base k "plain_bears" ["one", "other", "changes"] ["changes", "other", "one"] gKv_plain_bears_changes_other_one gKV_plain_bears_changes_other_one sp := by
  refine h.ownK (fun kV doc pm an cd ct us ws hl => ?_) (fun {vs us zs ws} r1 r2 => ?_)
  · match us, ws, hl with
    | [], [_, _, _], _ => rfl
    | [], [], hl => exact absurd (show (0 : Nat) = 3 from hl) (by decide)
    | [], [_], hl => exact absurd (show (0 : Nat) = 3 from hl) (by decide)
    | [], [_, _], hl => exact absurd (show (0 : Nat) = 3 from hl) (by decide)
    | [], _ :: _ :: _ :: _ :: _, hl => exact absurd (show (0 : Nat) = 3 from hl) (by decide)
    | _ :: _, _, hl => exact absurd (show (0 : Nat) = 3 from hl) (by decide)
  · cases r1 with
    | cons _ _ => exact .nil
    | nil =>
      match r2 with
      | .nil => exact .nil
      | .cons _ (.nil) => exact .nil
      | .cons _ (.cons _ (.nil)) => exact .nil
      | .cons x0 (.cons x1 (.cons x2 (.nil))) => exact .cons x2 (.cons x1 (.cons x0 (.nil)))
      | .cons _ (.cons _ (.cons _ (.cons _ (_)))) => exact .nil
/-! ### law -/
abbrev s_law : Stmt := top 23
def N_law : List Str := ["script", "pen", "turn", "one", "other", "changes", "due"]
theorem sc_law : FnScope N_law ["script"] (defScope s_law) := ⟨rfl, rfl, rfl, by decide +kernel, rfl, by decide +kernel, by decide +kernel⟩
def g_law : Sl → M (Out × Sl) := (sSeq (sForR rg1 (aCons (eC (.int 3)) aNil) (tgN 2)
    (sSeq (sPar3 3 4 5 (aCons (eOwn 2 m__law_plain (aCons (eVar 1) (aCons (eC (.int 3)) aNil))) (aCons (eOwn 2 m__law_plain (aCons (eVar 1) (aCons (eC (.int 3)) aNil))) (aCons (eOwn 2 m__law_draw (aCons (eVar 1) (aCons (eC (.int 3)) aNil))) aNil))))
    (sSeq (sAsg (eIf (bTest (eOp dEq (eOwn 2 m__law_draw (aCons (eVar 1) (aCons (eC (.int 3)) aNil))) (eC (.int 0)))) (eVar 3) (eVar 4)) (tgN 4))
    (sSeq (sAsg (eNot (eOwn 3 m__law_splits (aCons (eVar 3) (aCons (eVar 4) (aCons (eVar 5) aNil))))) (tgN 6))
    (sIf (bTest (eOp dNe (eCall dRepr (aCons (eLst (aCons (eOwn 3 m_plain_bears (aCons (eVar 3) (aCons (eVar 4) (aCons (eVar 5) aNil)))) (aCons (eOwnK 3 m_plain_bears gK_plain_bears_changes_other_one aNil (aCons (eVar 5) (aCons (eCall dList (aCons (eVar 4) aNil)) (aCons (eVar 3) aNil)))) (aCons (eOwn 3 m_plain_bears (aCons (eVar 4) (aCons (eVar 3) (aCons (eVar 5) aNil)))) aNil)))) aNil)) (eCall dRepr (aCons (eOp dRepL (eLst (aCons (eVar 6) aNil)) (eC (.int 3))) aNil)))) (sRet (eC (.bl false))) sNx)))))
    (sRet (eAnd (eOp dIsB (eOwn 3 m_plain_bears (aCons (eTup (aCons (eC (.int 5)) (aCons (eC (.int 4)) (aCons (eC (.int 4)) (aCons (eC (.int 1)) aNil))))) (aCons (eTup (aCons (eC (.int 5)) (aCons (eC (.int 4)) (aCons (eC (.int 4)) (aCons (eC (.int 1)) aNil))))) (aCons (eC (.int 1)) aNil)))) (eC (.bl true))) (eAnd (eOp dIsB (eOwn 3 m_plain_bears (aCons (eTup (aCons (eC (.int 5)) (aCons (eC (.int 4)) (aCons (eC (.int 4)) (aCons (eC (.int 2)) aNil))))) (aCons (eTup (aCons (eC (.int 5)) (aCons (eC (.int 4)) (aCons (eC (.int 4)) (aCons (eC (.int 1)) aNil))))) (aCons (eC (.int 1)) aNil)))) (eC (.bl true))) (eOp dIsB (eOwn 3 m_plain_bears (aCons (eTup (aCons (eC (.int 5)) (aCons (eC (.int 4)) (aCons (eC (.int 4)) (aCons (eC (.int 2)) aNil))))) (aCons (eTup (aCons (eC (.int 5)) (aCons (eC (.int 4)) (aCons (eC (.int 4)) (aCons (eC (.int 2)) aNil))))) (aCons (eC (.int 1)) aNil)))) (eC (.bl false)))))))
theorem fn_law {f : Addr} {fd : FuncData} (F : Fun K "law" "law" s_law f fd) (T : Txt mg) (o__law_pen : Own Pg w K mg base 1 "_law_pen" ["script"] (spPen K)) (o__law_plain : Own Pg w K mg base 3 "_law_plain" ["pen", "most"] (spM K cl 2 m__law_plain)) (o__law_draw : Own Pg w K mg base 1 "_law_draw" ["pen", "many"] (spM K cl 2 m__law_draw)) (o__law_splits : Own Pg w K mg base 3 "_law_splits" ["one", "other", "changes"] (spM K cl 3 m__law_splits)) (o_plain_bears : Own Pg w K mg base 5 "plain_bears" ["one", "other", "changes"] (spM K cl 3 m_plain_bears)) (o_K_plain_bears_changes_other_one : OwnK Pg w K mg base 5 "plain_bears" ["one", "other", "changes"] ["changes", "other", "one"] gKv_plain_bears_changes_other_one gKV_plain_bears_changes_other_one (spM K cl 3 m_plain_bears)) (hm : LawM 7 1 g_law) : FnG Pg w K mg base CX0 6 f fd ["script"] (spLaw K) :=
  fn_g F sc_law (fun _ _ _ _ h => spLaw.len h) fun cd A ou s H vs Q E r g h => by
    have z : ∃ t, PSs (cxOf CX0 Pg w K mg base N_law "law" (defScope s_law) f cd A ou s H E).nox (defBody s_law) t ∧ t { nx := fun _ H' => Q .non H', rt := Q } (L2.start N_law vs) H := by
      refine ⟨_, (pss_cons (ps_set (i := 1) sc_law.nd rfl (Or.inl rfl) (pe_own o__law_pen (r.mono (by decide)) g (pa_cons (pv 0) pa_nil)))
      (pss_cons (ps_for PassesOwn.never rfl (pi_range1 (by rfl) T.b_range (pa_cons pe_int pa_nil)) (pg_name (i := 2) sc_law.nd rfl (Or.inl rfl))
      (pss_cons (ps_par3 (i := 3) (j := 4) (l := 5) (by rfl) sc_law.nd rfl rfl rfl (by decide) (by decide) (by decide) rfl rfl rfl (pa_cons (pe_own o__law_plain (r.mono (by decide)) g (pa_cons (pv 1) (pa_cons pe_int pa_nil))) (pa_cons (pe_own o__law_plain (r.mono (by decide)) g (pa_cons (pv 1) (pa_cons pe_int pa_nil))) (pa_cons (pe_own o__law_draw (r.mono (by decide)) g (pa_cons (pv 1) (pa_cons pe_int pa_nil))) pa_nil))) (by rfl))
      (pss_cons (ps_set (i := 4) sc_law.nd rfl (Or.inl rfl) (pe_ifExp (pt_cmpR op_eq (pe_own o__law_draw (r.mono (by decide)) g (pa_cons (pv 1) (pa_cons pe_int pa_nil))) pe_int (nomark _)) (pv 3) (pv 4)))
      (pss_cons (ps_set (i := 6) sc_law.nd rfl (Or.inl rfl) (pe_not (pe_own o__law_splits (r.mono (by decide)) g (pa_cons (pv 3) (pa_cons (pv 4) (pa_cons (pv 5) pa_nil))))))
      (pss_one (ps_if (pt_cmpR op_ne (pe_callB (k_repr (K := K) rfl g r.units) (by rfl) T.b_repr (by decide +kernel) (pa_cons (pe_lst (pa_cons (pe_own o_plain_bears (r.mono (by decide)) g (pa_cons (pv 3) (pa_cons (pv 4) (pa_cons (pv 5) pa_nil)))) (pa_cons (pe_ownK0 o_K_plain_bears_changes_other_one (r.mono (by decide)) g (pk_cons (pv 5) (pk_cons (pe_callTy (k_list (K := K) rfl) (by rfl) T.b_list (by decide +kernel) (pa_cons (pv 4) pa_nil)) (pk_cons (pv 3) pk_nil)))) (pa_cons (pe_own o_plain_bears (r.mono (by decide)) g (pa_cons (pv 4) (pa_cons (pv 3) (pa_cons (pv 5) pa_nil)))) pa_nil)))) pa_nil)) (pe_callB (k_repr (K := K) rfl g r.units) (by rfl) T.b_repr (by decide +kernel) (pa_cons (pe_op op_rep (pe_lst (pa_cons (pv 6) pa_nil)) pe_int) pa_nil)) (nomark _)) (pss_one (ps_ret pe_bl)) pss_nil))))))
      (pss_one (ps_ret (pe_and (pe_cmpR op_isBl (pe_own o_plain_bears (r.mono (by decide)) g (pa_cons (pe_tup (pa_cons pe_int (pa_cons pe_int (pa_cons pe_int (pa_cons pe_int pa_nil))))) (pa_cons (pe_tup (pa_cons pe_int (pa_cons pe_int (pa_cons pe_int (pa_cons pe_int pa_nil))))) (pa_cons pe_int pa_nil)))) pe_bl (nomark _)) (pe_and (pe_cmpR op_isBl (pe_own o_plain_bears (r.mono (by decide)) g (pa_cons (pe_tup (pa_cons pe_int (pa_cons pe_int (pa_cons pe_int (pa_cons pe_int pa_nil))))) (pa_cons (pe_tup (pa_cons pe_int (pa_cons pe_int (pa_cons pe_int (pa_cons pe_int pa_nil))))) (pa_cons pe_int pa_nil)))) pe_bl (nomark _)) (pe_one (pe_cmpR op_isBl (pe_own o_plain_bears (r.mono (by decide)) g (pa_cons (pe_tup (pa_cons pe_int (pa_cons pe_int (pa_cons pe_int (pa_cons pe_int pa_nil))))) (pa_cons (pe_tup (pa_cons pe_int (pa_cons pe_int (pa_cons pe_int (pa_cons pe_int pa_nil))))) (pa_cons pe_int pa_nil)))) pe_bl (nomark _))))))))), ?_⟩
      exact law_reads (N := N_law) (by decide) (by decide) (fun pa ca => (js_seq (js_forR1 (ja_cons j_int ja_nil) (jg_name 2)
      (js_seq (js_par3 (i := 3) (j := 4) (l := 5) (ja_cons (j_own (ja_cons (j_var 1) (ja_cons j_int ja_nil))) (ja_cons (j_own (ja_cons (j_var 1) (ja_cons j_int ja_nil))) (ja_cons (j_own (ja_cons (j_var 1) (ja_cons j_int ja_nil))) ja_nil))))
      (js_seq (js_asg (j_if (jt_test (j_op jr_eq (j_own (ja_cons (j_var 1) (ja_cons j_int ja_nil))) j_int)) (j_var 3) (j_var 4)) (jg_name 4))
      (js_seq (js_asg (j_not (j_own (ja_cons (j_var 3) (ja_cons (j_var 4) (ja_cons (j_var 5) ja_nil))))) (jg_name 6))
      (js_if (jt_test (j_op jr_ne (j_cb jc_repr (ja_cons (j_lst (ja_cons (j_own (ja_cons (j_var 3) (ja_cons (j_var 4) (ja_cons (j_var 5) ja_nil)))) (ja_cons (j_ownK gK_plain_bears_changes_other_one_rv ja_nil (ja_cons (j_var 5) (ja_cons (j_cb jc_list (ja_cons (j_var 4) ja_nil)) (ja_cons (j_var 3) ja_nil)))) (ja_cons (j_own (ja_cons (j_var 4) (ja_cons (j_var 3) (ja_cons (j_var 5) ja_nil)))) ja_nil)))) ja_nil)) (j_cb jc_repr (ja_cons (j_op jr_repL (j_lst (ja_cons (j_var 6) ja_nil)) j_int) ja_nil)))) (js_ret j_bl) js_nil)))))
      (js_ret (j_and (j_op jr_isB (j_own (ja_cons (j_tup (ja_cons j_int (ja_cons j_int (ja_cons j_int (ja_cons j_int ja_nil))))) (ja_cons (j_tup (ja_cons j_int (ja_cons j_int (ja_cons j_int (ja_cons j_int ja_nil))))) (ja_cons j_int ja_nil)))) j_bl) (j_and (j_op jr_isB (j_own (ja_cons (j_tup (ja_cons j_int (ja_cons j_int (ja_cons j_int (ja_cons j_int ja_nil))))) (ja_cons (j_tup (ja_cons j_int (ja_cons j_int (ja_cons j_int (ja_cons j_int ja_nil))))) (ja_cons j_int ja_nil)))) j_bl) (j_op jr_isB (j_own (ja_cons (j_tup (ja_cons j_int (ja_cons j_int (ja_cons j_int (ja_cons j_int ja_nil))))) (ja_cons (j_tup (ja_cons j_int (ja_cons j_int (ja_cons j_int (ja_cons j_int ja_nil))))) (ja_cons j_int ja_nil)))) j_bl)))))) hm h
    exact let ⟨t, h1, h2⟩ := z; ⟨t, h1.nox, h2⟩
/-! ### all together -/
end
section
variable {K : PySem.W.Frag}
theorem all_mk {Pg : Program} {w : World} {h : Heap} {mg : Str → Option Value} {fa : Addr} (X : K.In h) (G : h.Ns mainGlobals mg) (hfa : mg "law" = some (.ref fa)) (hm : LawM 7 1 g_law)
    (d_is_integer : DefK K "is_integer" s_is_integer) (d_is_within : DefK K "is_within" s_is_within) (d_need_within : DefK K "need_within" s_need_within) (d_need_plain : DefK K "need_plain" s_need_plain) (d_together : DefK K "together" s_together) (d_plain_bears : DefK K "plain_bears" s_plain_bears) (d__law_pen : DefK K "_law_pen" s__law_pen) (d__law_draw : DefK K "_law_draw" s__law_draw) (d__law_pick : DefK K "_law_pick" s__law_pick) (d__law_plain : DefK K "_law_plain" s__law_plain) (d__law_rows : DefK K "_law_rows" s__law_rows) (d__law_lots : DefK K "_law_lots" s__law_lots) (d__law_is_apart : DefK K "_law_is_apart" s__law_is_apart) (d__law_splits : DefK K "_law_splits" s__law_splits) (d_law : DefK K "law" s_law) (b_abs : PySem.W.nsIn K mainGlobals "abs" = some none) (b_bool : PySem.W.nsIn K mainGlobals "bool" = some none) (b_int : PySem.W.nsIn K mainGlobals "int" = some none) (b_isinstance : PySem.W.nsIn K mainGlobals "isinstance" = some none) (b_len : PySem.W.nsIn K mainGlobals "len" = some none) (b_list : PySem.W.nsIn K mainGlobals "list" = some none) (b_max : PySem.W.nsIn K mainGlobals "max" = some none) (b_min : PySem.W.nsIn K mainGlobals "min" = some none) (b_range : PySem.W.nsIn K mainGlobals "range" = some none) (b_repr : PySem.W.nsIn K mainGlobals "repr" = some none) (b_tuple : PySem.W.nsIn K mainGlobals "tuple" = some none) (c_MOST_CHANGES : ∃ t, PySem.W.nsIn K mainGlobals "MOST_CHANGES" = some (some (.int 5 t))) (c_MOST_COPIES : ∃ t, PySem.W.nsIn K mainGlobals "MOST_COPIES" = some (some (.int 5 t))) :
    ∃ fd : FuncData, (∀ (s : Shared) (u : Value), BindsTo s fd ⟨[u], []⟩ [("script", u)]) ∧ ∀ base : Heap, K.In base → base.Ns mainGlobals mg → FnG Pg w K mg base CX0 6 fa fd ["script"] (spLaw K) := by
  have T : Txt mg := ⟨PySem.W.mg_none_of X G b_abs, PySem.W.mg_none_of X G b_bool, PySem.W.mg_none_of X G b_int, PySem.W.mg_none_of X G b_isinstance, PySem.W.mg_none_of X G b_len, PySem.W.mg_none_of X G b_list, PySem.W.mg_none_of X G b_max, PySem.W.mg_none_of X G b_min, PySem.W.mg_none_of X G b_range, PySem.W.mg_none_of X G b_repr, PySem.W.mg_none_of X G b_tuple, (let ⟨t, e⟩ := c_MOST_CHANGES; ⟨t, PySem.W.mg_of X G e⟩), (let ⟨t, e⟩ := c_MOST_COPIES; ⟨t, PySem.W.mg_of X G e⟩)⟩
  obtain ⟨f, fd, F, hf⟩ := d_law.inn X G
  have e := hfa.symm.trans hf
  cases e
  refine ⟨fd, law_binds (ps := ["script"]) F (fun _ _ _ _ _ _ us hl => match us, hl with | [_], _ => rfl) rfl, fun base _ _ => ?_⟩
  let cl : Str → Addr := fun _ => 0
  have w_is_integer := own_is_integer (Pg := Pg) (w := w) (K := K) (mg := mg) (base := base) (cl := cl) (d_is_integer.inn X G) T 
  have o_is_integer := w_is_integer.own (fun _ _ _ _ _ _ us hl => match us, hl with | [_], _ => rfl)
  have w_is_within := own_is_within (Pg := Pg) (w := w) (K := K) (mg := mg) (base := base) (cl := cl) (d_is_within.inn X G) T o_is_integer
  have o_is_within := w_is_within.own (fun _ _ _ _ _ _ us hl => match us, hl with | [_, _, _], _ => rfl)
  have w_need_within := own_need_within (Pg := Pg) (w := w) (K := K) (mg := mg) (base := base) (cl := cl) (d_need_within.inn X G) T o_is_within
  have o_need_within := w_need_within.own (fun _ _ _ _ _ _ us hl => match us, hl with | [_, _, _, _], _ => rfl)
  have w_need_plain := own_need_plain (Pg := Pg) (w := w) (K := K) (mg := mg) (base := base) (cl := cl) (d_need_plain.inn X G) T o_need_within
  have o_need_plain := w_need_plain.own (fun _ _ _ _ _ _ us hl => match us, hl with | [_, _, _], _ => rfl)
  have w_together := own_together (Pg := Pg) (w := w) (K := K) (mg := mg) (base := base) (cl := cl) (d_together.inn X G) T 
  have o_together := w_together.own (fun _ _ _ _ _ _ us hl => match us, hl with | [_, _, _], _ => rfl)
  have w_plain_bears := own_plain_bears (Pg := Pg) (w := w) (K := K) (mg := mg) (base := base) (cl := cl) (d_plain_bears.inn X G) T o_need_plain o_need_within o_together
  have o_plain_bears := w_plain_bears.own (fun _ _ _ _ _ _ us hl => match us, hl with | [_, _, _], _ => rfl)
  have o_K_plain_bears_changes_other_one := ok_K_plain_bears_changes_other_one w_plain_bears
  have w__law_pen := own__law_pen (Pg := Pg) (w := w) (K := K) (mg := mg) (base := base) (d__law_pen.inn X G) T 
  have o__law_pen := w__law_pen.own (fun _ _ _ _ _ _ us hl => match us, hl with | [_], _ => rfl)
  have w__law_draw := own__law_draw (Pg := Pg) (w := w) (K := K) (mg := mg) (base := base) (cl := cl) (d__law_draw.inn X G) T 
  have o__law_draw := w__law_draw.own (fun _ _ _ _ _ _ us hl => match us, hl with | [_, _], _ => rfl)
  have w__law_pick := own__law_pick (Pg := Pg) (w := w) (K := K) (mg := mg) (base := base) (cl := cl) (d__law_pick.inn X G) T o__law_draw
  have o__law_pick := w__law_pick.own (fun _ _ _ _ _ _ us hl => match us, hl with | [_, _], _ => rfl)
  have w__law_plain := own__law_plain (Pg := Pg) (w := w) (K := K) (mg := mg) (base := base) (cl := cl) (d__law_plain.inn X G) T o__law_draw o__law_pick
  have o__law_plain := w__law_plain.own (fun _ _ _ _ _ _ us hl => match us, hl with | [_, _], _ => rfl)
  have w__law_rows := own__law_rows (Pg := Pg) (w := w) (K := K) (mg := mg) (base := base) (cl := cl) (d__law_rows.inn X G) T 
  have o__law_rows := w__law_rows.own (fun _ _ _ _ _ _ us hl => match us, hl with | [_, _], _ => rfl)
  have w__law_lots := own__law_lots (Pg := Pg) (w := w) (K := K) (mg := mg) (base := base) (cl := cl) (d__law_lots.inn X G) T 
  have o__law_lots := w__law_lots.own (fun _ _ _ _ _ _ us hl => match us, hl with | [_, _], _ => rfl)
  have w__law_is_apart := own__law_is_apart (Pg := Pg) (w := w) (K := K) (mg := mg) (base := base) (cl := cl) (d__law_is_apart.inn X G) T o__law_lots
  have o__law_is_apart := w__law_is_apart.own (fun _ _ _ _ _ _ us hl => match us, hl with | [_, _, _, _, _], _ => rfl)
  have w__law_splits := own__law_splits (Pg := Pg) (w := w) (K := K) (mg := mg) (base := base) (cl := cl) (d__law_splits.inn X G) T o__law_rows o__law_is_apart
  have o__law_splits := w__law_splits.own (fun _ _ _ _ _ _ us hl => match us, hl with | [_, _, _], _ => rfl)
  exact fn_law (cl := cl) F T o__law_pen o__law_plain o__law_draw o__law_splits o_plain_bears o_K_plain_bears_changes_other_one hm
end
end La
end
section
set_option Elab.async false
set_option linter.all false
set_option maxRecDepth 1000000
set_option maxHeartbeats 4000000
namespace La
open Z
theorem q_is_integer : Ql m_is_integer := q_body 1 (q_ret (q_and (q_call _ (q_cons (q_var _) (q_cons (q_c _) q_nil))) (q_not (q_call _ (q_cons (q_var _) (q_cons (q_c _) q_nil))))))
theorem q_is_within : Ql m_is_within := q_body 3 (q_ret (q_and (q_own _ q_is_integer (q_cons (q_var _) q_nil)) (q_chain _ _ (q_var _) (q_var _) (q_var _))))
theorem q_need_within : Ql m_need_within := q_body 4 (q_sIf (q_bNot (q_test (q_own _ q_is_within (q_cons (q_var _) (q_cons (q_var _) (q_cons (q_var _) q_nil)))))) q_sNo q_nx)
theorem q_need_plain : Ql m_need_plain := q_body 3 (q_seq (q_drop (q_own _ q_need_within (q_cons (q_c _) (q_cons (q_var _) (q_cons (q_c _) (q_cons (q_c _) q_nil)))))) (q_seq (q_drop (q_own _ q_need_within (q_cons (q_c _) (q_cons (q_var _) (q_cons (q_c _) (q_cons (q_var _) q_nil)))))) (q_drop (q_own _ q_need_within (q_cons (q_c _) (q_cons (q_var _) (q_cons (q_c _) (q_cons (q_var _) q_nil))))))))
theorem q_together : Ql m_together := q_body 3 (q_ret (q_op _ (q_call _ (q_cons (q_var _) (q_cons (q_var _) q_nil))) (q_call _ (q_cons (q_var _) (q_cons (q_var _) (q_cons (q_var _) q_nil))))))
theorem q_plain_bears : Ql m_plain_bears := q_body 6 (q_seq (q_forT _ (q_tup (q_cons (q_tup (q_cons (q_c _) (q_cons (q_var _) q_nil))) (q_cons (q_tup (q_cons (q_c _) (q_cons (q_var _) q_nil))) q_nil))) (q_seq (q_sIf (q_bOr (q_bNot (q_test (q_isi2 _ _ (q_var _)))) (q_test (q_op _ (q_call _ (q_cons (q_var _) q_nil)) (q_c _)))) q_sNo q_nx) (q_seq (q_drop (q_own _ q_need_plain (q_cons (q_op _ (q_var _) (q_c _)) (q_cons (q_op _ (q_var _) (q_c _)) (q_cons (q_op _ (q_var _) (q_c _)) q_nil))))) (q_drop (q_own _ q_need_within (q_cons (q_c _) (q_cons (q_op _ (q_var _) (q_c _)) (q_cons (q_c _) (q_cons (q_c _) q_nil))))))))) (q_seq (q_drop (q_own _ q_need_within (q_cons (q_c _) (q_cons (q_var _) (q_cons (q_c _) (q_cons (q_c _) q_nil)))))) (q_seq (q_asg _ (q_call _ (q_cons (q_op _ (q_op _ (q_var _) (q_c _)) (q_op _ (q_var _) (q_c _))) (q_cons (q_op _ (q_op _ (q_var _) (q_c _)) (q_op _ (q_var _) (q_c _))) q_nil)))) (q_ret (q_op _ (q_var _) (q_op _ (q_own _ q_together (q_cons (q_op _ (q_var _) (q_c _)) (q_cons (q_op _ (q_var _) (q_c _)) (q_cons (q_var _) q_nil)))) (q_call _ (q_cons (q_op _ (q_var _) (q_c _)) (q_cons (q_op _ (q_var _) (q_c _)) q_nil)))))))))
theorem q__law_rows : Ql m__law_rows := q_body 9 (q_seq (q_asg _ (q_L (q_rg1 (q_op _ (q_op _ (q_c _) (q_var _)) (q_var _))))) (q_seq (q_asg _ (q_lst (q_cons (q_tup (q_cons (q_var _) (q_cons (q_var _) q_nil))) q_nil))) (q_seq (q_forR _ _ (q_cons (q_var _) q_nil) (q_seq (q_asg _ (q_lst q_nil)) (q_seq (q_forL _ (q_slL (q_var _) q_oNone (q_oPart (q_c _))) (q_seq (q_asg _ (q_op _ (q_var _) (q_L (q_lcRg _ _ _ (q_cons (q_op _ (q_var _) (q_c _)) q_nil) q_yes (q_tup (q_cons (q_var _) (q_cons (q_op _ (q_slL (q_var _) q_oNone (q_oPart (q_var _))) (q_slL (q_var _) (q_oPart (q_op _ (q_var _) (q_c _))) q_oNone)) q_nil))))))) (q_asg _ (q_op _ (q_var _) (q_L (q_lcRg _ _ _ (q_cons (q_op _ (q_var _) (q_c _)) q_nil) q_yes (q_tup (q_cons (q_op _ (q_slL (q_var _) q_oNone (q_oPart (q_var _))) (q_slL (q_var _) (q_oPart (q_op _ (q_var _) (q_c _))) q_oNone)) (q_cons (q_var _) q_nil))))))))) (q_asg _ (q_op _ (q_var _) (q_var _)))))) (q_ret (q_var _)))))
theorem q__law_lots : Ql m__law_lots := q_body 5 (q_seq (q_asg _ (q_lst (q_cons (q_tup q_nil) q_nil))) (q_seq (q_forL _ (q_var _) (q_asg _ (q_op _ (q_var _) (q_L (q_lcOf _ _ _ (q_var _) (q_test (q_op _ (q_call _ (q_cons (q_var _) q_nil)) (q_var _))) (q_op _ (q_var _) (q_tup (q_cons (q_var _) q_nil)))))))) (q_ret (q_L (q_lcOf _ _ _ (q_var _) (q_test (q_op _ (q_call _ (q_cons (q_var _) q_nil)) (q_var _))) (q_var _))))))
theorem q__law_is_apart : Ql m__law_is_apart := q_body 8 (q_seq (q_forL _ (q_own _ q__law_lots (q_cons (q_var _) (q_cons (q_var _) q_nil))) (q_sIf (q_test (q_op _ (q_L (q_lcOf _ _ _ (q_own _ q__law_lots (q_cons (q_var _) (q_cons (q_var _) q_nil))) (q_test (q_op _ (q_call _ (q_cons (q_L (q_lcOf _ _ _ (q_var _) (q_test (q_op _ (q_var _) (q_var _))) (q_var _))) q_nil)) (q_var _))) (q_var _))) (q_lst q_nil))) (q_ret (q_c _)) q_nx)) (q_ret (q_c _)))
theorem q__law_splits : Ql m__law_splits := q_body 8 (q_seq (q_parOw _ _ (q_lLst q_nil) (q_call _ (q_cons (q_op _ (q_var _) (q_c _)) (q_cons (q_op _ (q_var _) (q_c _)) q_nil)))) (q_seq (q_forL _ (q_own _ q__law_rows (q_cons (q_var _) (q_cons (q_call _ (q_cons (q_op _ (q_var _) (q_c _)) (q_cons (q_op _ (q_var _) (q_c _)) q_nil))) q_nil))) (q_seq (q_asg _ (q_tup (q_cons (q_slL (q_var _) q_oNone (q_oPart (q_op _ (q_var _) (q_c _)))) (q_cons (q_slL (q_var _) q_oNone (q_oPart (q_op _ (q_var _) (q_c _)))) q_nil)))) (q_sIf (q_test (q_inOw _ _ (q_var _))) (q_seq (q_app _ (q_var _)) (q_sIf (q_bOr (q_test (q_own _ q__law_is_apart (q_cons (q_op _ (q_var _) (q_c _)) (q_cons (q_op _ (q_var _) (q_c _)) (q_cons (q_op _ (q_var _) (q_c _)) (q_cons (q_op _ (q_var _) (q_c _)) (q_cons (q_var _) q_nil))))))) (q_test (q_own _ q__law_is_apart (q_cons (q_op _ (q_var _) (q_c _)) (q_cons (q_op _ (q_var _) (q_c _)) (q_cons (q_op _ (q_var _) (q_c _)) (q_cons (q_op _ (q_var _) (q_c _)) (q_cons (q_var _) q_nil)))))))) (q_ret (q_c _)) q_nx)) q_nx))) (q_ret (q_c _))))
def turnG : Sl → M (Out × Sl) := (sSeq (sPar3 3 4 5 (aCons (eOwn 2 m__law_plain (aCons (eVar 1) (aCons (eC (.int 3)) aNil))) (aCons (eOwn 2 m__law_plain (aCons (eVar 1) (aCons (eC (.int 3)) aNil))) (aCons (eOwn 2 m__law_draw (aCons (eVar 1) (aCons (eC (.int 3)) aNil))) aNil))))
    (sSeq (sAsg (eIf (bTest (eOp dEq (eOwn 2 m__law_draw (aCons (eVar 1) (aCons (eC (.int 3)) aNil))) (eC (.int 0)))) (eVar 3) (eVar 4)) (tgN 4))
    (sSeq (sAsg (eNot (eOwn 3 m__law_splits (aCons (eVar 3) (aCons (eVar 4) (aCons (eVar 5) aNil))))) (tgN 6))
    (sIf (bTest (eOp dNe (eCall dRepr (aCons (eLst (aCons (eOwn 3 m_plain_bears (aCons (eVar 3) (aCons (eVar 4) (aCons (eVar 5) aNil)))) (aCons (eOwnK 3 m_plain_bears gK_plain_bears_changes_other_one aNil (aCons (eVar 5) (aCons (eCall dList (aCons (eVar 4) aNil)) (aCons (eVar 3) aNil)))) (aCons (eOwn 3 m_plain_bears (aCons (eVar 4) (aCons (eVar 3) (aCons (eVar 5) aNil)))) aNil)))) aNil)) (eCall dRepr (aCons (eOp dRepL (eLst (aCons (eVar 6) aNil)) (eC (.int 3))) aNil)))) (sRet (eC (.bl false))) sNx))))
def lastG : Sl → M (Out × Sl) := (sRet (eAnd (eOp dIsB (eOwn 3 m_plain_bears (aCons (eTup (aCons (eC (.int 5)) (aCons (eC (.int 4)) (aCons (eC (.int 4)) (aCons (eC (.int 1)) aNil))))) (aCons (eTup (aCons (eC (.int 5)) (aCons (eC (.int 4)) (aCons (eC (.int 4)) (aCons (eC (.int 1)) aNil))))) (aCons (eC (.int 1)) aNil)))) (eC (.bl true))) (eAnd (eOp dIsB (eOwn 3 m_plain_bears (aCons (eTup (aCons (eC (.int 5)) (aCons (eC (.int 4)) (aCons (eC (.int 4)) (aCons (eC (.int 2)) aNil))))) (aCons (eTup (aCons (eC (.int 5)) (aCons (eC (.int 4)) (aCons (eC (.int 4)) (aCons (eC (.int 1)) aNil))))) (aCons (eC (.int 1)) aNil)))) (eC (.bl true))) (eOp dIsB (eOwn 3 m_plain_bears (aCons (eTup (aCons (eC (.int 5)) (aCons (eC (.int 4)) (aCons (eC (.int 4)) (aCons (eC (.int 2)) aNil))))) (aCons (eTup (aCons (eC (.int 5)) (aCons (eC (.int 4)) (aCons (eC (.int 4)) (aCons (eC (.int 2)) aNil))))) (aCons (eC (.int 1)) aNil)))) (eC (.bl false))))))
theorem law_split : g_law = sSeq (sForR rg1 (aCons (eC (.int 3)) aNil) (tgN 2) turnG) lastG := rfl
def rl (a b c d : Int) : D := .tup [.int a, .int b, .int c, .int d]
def rll (a b c d : Int) : D := .lst [.int a, .int b, .int c, .int d]
def p0 : Pen := ⟨[], 0, 0⟩
def bIs (r : Res D) (b : Bool) : Bool := match r with
  | .ok (.bl c) _ => c == b
  | _ => false
theorem bIs_ok {m : List D → M D} (h : Ql m) {ds : List D} {b : Bool} (e : bIs (m ds p0) b = true) (p : Pen) : m ds p = .ok (.bl b) p := by
  unfold bIs at e
  split at e
  · rename_i c q he
    have := eq_of_beq e
    subst this
    exact (h ds).at he p
  · cases e
def mn (a b : Int) : Int := if b < a then b else a
def mx (a b : Int) : Int := if a < b then b else a
/-- what a step of two plain rules bears -/
def pb (c r k l c' r' k' l' n : Int) : Bool := decide (mx c c' + mn (mn c c') n + mn l l' < mn (k + r') (r + k'))
def chk (c r k l c' r' k' l' n : Int) : Bool :=
  bIs (m__law_splits [rl c r k l, rl c' r' k' l', .int n] p0) (!pb c r k l c' r' k' l' n) && bIs (m_plain_bears [rl c r k l, rl c' r' k' l', .int n] p0) (pb c r k l c' r' k' l' n) &&
  bIs (m_plain_bears [rl c r k l, rll c' r' k' l', .int n] p0) (pb c r k l c' r' k' l' n) && bIs (m_plain_bears [rl c' r' k' l', rl c r k l, .int n] p0) (pb c r k l c' r' k' l' n)
/-- all there is between two bounds -/
def all (a : Int) : Nat → (Int → Bool) → Bool
  | 0, _ => true
  | n + 1, f => f a && all (a + 1) n f
theorem all_ok {f : Int → Bool} : ∀ {n : Nat} {a : Int}, all a n f = true → ∀ {x : Int}, a ≤ x → x < a + (n : Int) → f x = true
  | 0, a, _, x, h1, h2 => by omega
  | n + 1, a, h, x, h1, h2 => by
    have h' : (f a && all (a + 1) n f) = true := h
    rw [Bool.and_eq_true] at h'
    by_cases hx : x = a
    · subst hx; exact h'.1
    · exact all_ok h'.2 (by omega) (by omega)
def table (n c c' : Int) : Bool := all 1 c.toNat fun r => all 1 c.toNat fun k => all 1 c'.toNat fun r' => all 1 c'.toNat fun k' => all 0 3 fun l => all 0 3 fun l' => chk c r k l c' r' k' l' n
theorem tb_011 : table 0 1 1 = true := by decide +kernel
theorem tb_012 : table 0 1 2 = true := by decide +kernel
theorem tb_013 : table 0 1 3 = true := by decide +kernel
theorem tb_021 : table 0 2 1 = true := by decide +kernel
theorem tb_022 : table 0 2 2 = true := by decide +kernel
theorem tb_023 : table 0 2 3 = true := by decide +kernel
theorem tb_031 : table 0 3 1 = true := by decide +kernel
theorem tb_032 : table 0 3 2 = true := by decide +kernel
theorem tb_033 : table 0 3 3 = true := by decide +kernel
theorem tb_111 : table 1 1 1 = true := by decide +kernel
theorem tb_112 : table 1 1 2 = true := by decide +kernel
theorem tb_113 : table 1 1 3 = true := by decide +kernel
theorem tb_121 : table 1 2 1 = true := by decide +kernel
theorem tb_122 : table 1 2 2 = true := by decide +kernel
theorem tb_123 : table 1 2 3 = true := by decide +kernel
theorem tb_131 : table 1 3 1 = true := by decide +kernel
theorem tb_132 : table 1 3 2 = true := by decide +kernel
theorem tb_133 : table 1 3 3 = true := by decide +kernel
theorem tb_211 : table 2 1 1 = true := by decide +kernel
theorem tb_212 : table 2 1 2 = true := by decide +kernel
theorem tb_213 : table 2 1 3 = true := by decide +kernel
theorem tb_221 : table 2 2 1 = true := by decide +kernel
theorem tb_222 : table 2 2 2 = true := by decide +kernel
theorem tb_223 : table 2 2 3 = true := by decide +kernel
theorem tb_231 : table 2 3 1 = true := by decide +kernel
theorem tb_232 : table 2 3 2 = true := by decide +kernel
theorem tb_233 : table 2 3 3 = true := by decide +kernel
theorem table_ok {n c c' : Int} (h1 : 0 ≤ n) (h2 : n < 3) (h3 : 1 ≤ c) (h4 : c < 4) (h5 : 1 ≤ c') (h6 : c' < 4) : table n c c' = true := by
  rcases (show n = 0 ∨ n = 1 ∨ n = 2 by omega) with rfl | rfl | rfl <;> rcases (show c = 1 ∨ c = 2 ∨ c = 3 by omega) with rfl | rfl | rfl <;> rcases (show c' = 1 ∨ c' = 2 ∨ c' = 3 by omega) with rfl | rfl | rfl
  · exact tb_011
  · exact tb_012
  · exact tb_013
  · exact tb_021
  · exact tb_022
  · exact tb_023
  · exact tb_031
  · exact tb_032
  · exact tb_033
  · exact tb_111
  · exact tb_112
  · exact tb_113
  · exact tb_121
  · exact tb_122
  · exact tb_123
  · exact tb_131
  · exact tb_132
  · exact tb_133
  · exact tb_211
  · exact tb_212
  · exact tb_213
  · exact tb_221
  · exact tb_222
  · exact tb_223
  · exact tb_231
  · exact tb_232
  · exact tb_233
end La
end
section
set_option Elab.async false
set_option linter.all false
set_option maxRecDepth 1000000
set_option maxHeartbeats 4000000
namespace La
open Z
def Low (p : Pen) (b : Int) : Prop := 0 ≤ p.spot ∧ p.spot ≤ b
theorem draw_is : m__law_draw = bodyM 7 (Z.drawG 12946 1982 82239 417) := rfl
theorem draw {many b : Int} {p : Pen} (hm : 0 < many) (hm2 : many < 1073741824) (h : Low p b) (hb : b < 1000000) : ∃ r p', m__law_draw [.pen, .int many] p = .ok (.int r) p' ∧ 0 ≤ r ∧ r < many ∧ Low p' (b + 1) := by
  have hs := h.2
  obtain ⟨r, p', e, h1, h2, h3⟩ := Z.draw_ok (p := p) (a := 12946) (b := 1982) (c := 82239) (e := 417) hm hm2 h.1 (by omega) (by decide) (by decide) (by decide) (by decide) (by decide) (by decide) (by decide) (by decide)
  rw [draw_is]
  refine ⟨r, p', e, h1, h2, ?_, ?_⟩
  · have := h3.lo; have := h.1; omega
  · have := h3.hi; omega
theorem pick {b : Int} {p : Pen} (h : Low p b) (hb : b < 1000000) : ∃ l p', m__law_pick [.pen, .lst [.int 0, .int 0, .int 0, .int 1, .int 1, .int 2]] p = .ok (.int l) p' ∧ 0 ≤ l ∧ l < 3 ∧ Low p' (b + 1) := by
  obtain ⟨i, p', e, h1, h2, h3⟩ := draw (many := 6) (by decide) (by decide) h hb
  have key : ∀ l : Int, dIxL (.lst [.int 0, .int 0, .int 0, .int 1, .int 1, .int 2]) (.int i) = some (.int l) → m__law_pick [.pen, .lst [.int 0, .int 0, .int 0, .int 1, .int 1, .int 2]] p = .ok (.int l) p' := fun l hl => by
    simp [m__law_pick, bodyM, g__law_pick, sRet, eOp, eVar, eOwn, aCons, aNil, eCall, dLen, M.bind, M.pure, M.of, e, hl]
  rcases (show i = 0 ∨ i = 1 ∨ i = 2 ∨ i = 3 ∨ i = 4 ∨ i = 5 by omega) with rfl | rfl | rfl | rfl | rfl | rfl
  · exact ⟨0, p', key 0 rfl, by decide, by decide, h3⟩
  · exact ⟨0, p', key 0 rfl, by decide, by decide, h3⟩
  · exact ⟨0, p', key 0 rfl, by decide, by decide, h3⟩
  · exact ⟨1, p', key 1 rfl, by decide, by decide, h3⟩
  · exact ⟨1, p', key 1 rfl, by decide, by decide, h3⟩
  · exact ⟨2, p', key 2 rfl, by decide, by decide, h3⟩
theorem drawn {b : Int} {p : Pen} (h : Low p b) (hb : b < 999990) : ∃ c r k l p', m__law_plain [.pen, .int 3] p = .ok (rl c r k l) p' ∧ (1 ≤ c ∧ c < 4) ∧ (1 ≤ r ∧ r < 1 + c) ∧ (1 ≤ k ∧ k < 1 + c) ∧ (0 ≤ l ∧ l < 3) ∧ Low p' (b + 4) := by
  obtain ⟨c, p1, e1, c1, c2, h1⟩ := draw (many := 3) (by decide) (by decide) h (by omega)
  obtain ⟨r, p2, e2, r1, r2, h2⟩ := draw (many := 1 + c) (by omega) (by omega) h1 (by omega)
  obtain ⟨k, p3, e3, k1, k2, h3⟩ := draw (many := 1 + c) (by omega) (by omega) h2 (by omega)
  obtain ⟨l, p4, e4, l1, l2, h4⟩ := pick h3 (by omega)
  refine ⟨1 + c, 1 + r, 1 + k, l, p4, ?_, ⟨by omega, by omega⟩, ⟨by omega, by omega⟩, ⟨by omega, by omega⟩, ⟨l1, l2⟩, h4.1, by have := h4.2; omega⟩
  simp [m__law_plain, bodyM, g__law_plain, sSeq, sAsg, tgN, eTup, eLst, sz, sRet, eOp, eVar, eC, eOwn, aCons, aNil, eCall, dAdd, gI, M.bind, M.pure, M.of, e1, e2, e3, e4, rl]
theorem turn_ok {b : Int} {p : Pen} {d2 d3 d4 d5 d6 : SD} (h : Low p b) (hb : b < 999980) : ∃ e3 e4 e5 e6 p', turnG [.un, .im .pen, d2, d3, d4, d5, d6] p = .ok (.nx, [.un, .im .pen, d2, e3, e4, e5, e6]) p' ∧ Low p' (b + 10) := by
  obtain ⟨c, r, k, l, p1, e1, hc, hr, hk, hl, h1⟩ := drawn h (by omega)
  obtain ⟨c', r', k', l', p2, e2, hc', hr', hk', hl', h2⟩ := drawn h1 (by omega)
  obtain ⟨n, p3, e3, n1, n2, h3⟩ := draw (many := 3) (by decide) (by decide) h2 (by omega)
  obtain ⟨z, p4, e4, z1, z2, h4⟩ := draw (many := 3) (by decide) (by decide) h3 (by omega)
  have hp : Low p4 (b + 10) := ⟨h4.1, by have := h4.2; omega⟩
  have key : ∀ c r k l c' r' k' l' : Int, (1 ≤ c ∧ c < 4) → (1 ≤ r ∧ r < 1 + c) → (1 ≤ k ∧ k < 1 + c) → (0 ≤ l ∧ l < 3) → (1 ≤ c' ∧ c' < 4) → (1 ≤ r' ∧ r' < 1 + c') → (1 ≤ k' ∧ k' < 1 + c') → (0 ≤ l' ∧ l' < 3) →
      ∃ d, m__law_splits [rl c r k l, rl c' r' k' l', .int n] p4 = .ok (.bl (!d)) p4 ∧ m_plain_bears [rl c r k l, rl c' r' k' l', .int n] p4 = .ok (.bl d) p4 ∧ m_plain_bears [rl c r k l, rll c' r' k' l', .int n] p4 = .ok (.bl d) p4 ∧ m_plain_bears [rl c' r' k' l', rl c r k l, .int n] p4 = .ok (.bl d) p4 := by
    intro c r k l c' r' k' l' hc hr hk hl hc' hr' hk' hl'
    have t := table_ok n1 n2 hc.1 hc.2 hc'.1 hc'.2
    have t := all_ok (x := r) t hr.1 (by omega)
    have t := all_ok (x := k) t hk.1 (by omega)
    have t := all_ok (x := r') t hr'.1 (by omega)
    have t := all_ok (x := k') t hk'.1 (by omega)
    have t := all_ok (x := l) t hl.1 (by omega)
    have t := all_ok (x := l') t hl'.1 (by omega)
    unfold chk at t
    simp only [Bool.and_eq_true] at t
    exact ⟨pb c r k l c' r' k' l' n, bIs_ok q__law_splits t.1.1.1 p4, bIs_ok q_plain_bears t.1.1.2 p4, bIs_ok q_plain_bears t.1.2 p4, bIs_ok q_plain_bears t.2 p4⟩
  have rp : ∀ d, dRepr [.lst [.bl d, .bl d, .bl d]] = some (.str (toP (.lst [.bl d, .bl d, .bl d])).shown) := fun d => by cases d <;> rfl
  by_cases hz : z = 0
  · obtain ⟨d, s1, s2, s3, s4⟩ := key c r k l c r k l hc hr hk hl hc hr hk hl
    refine ⟨.im (rl c r k l), .im (rl c r k l), .im (.int n), .im (.bl d), p4, ?_, hp⟩
    have e5 : dList [rl c r k l] = some (rll c r k l) := rfl
    simp [turnG, sSeq, sPar3, sAsg, tgN, eTup, eLst, sz, sRet, eOp, eVar, eC, eOwn, eOwnK, gK_plain_bears_changes_other_one, aCons, aNil, eCall, eIf, eNot, bTest, asB, dEq, hz, M.bind, M.pure, M.of, e1, e2, e3, e4, e5, s1, s2, s3, s4, rp, dNe, dRepL, sIf, sNx]
  · obtain ⟨d, s1, s2, s3, s4⟩ := key c r k l c' r' k' l' hc hr hk hl hc' hr' hk' hl'
    refine ⟨.im (rl c r k l), .im (rl c' r' k' l'), .im (.int n), .im (.bl d), p4, ?_, hp⟩
    have e5 : dList [rl c' r' k' l'] = some (rll c' r' k' l') := rfl
    simp [turnG, sSeq, sPar3, sAsg, tgN, eTup, eLst, sz, sRet, eOp, eVar, eC, eOwn, eOwnK, gK_plain_bears_changes_other_one, aCons, aNil, eCall, eIf, eNot, bTest, asB, dEq, hz, M.bind, M.pure, M.of, e1, e2, e3, e4, e5, s1, s2, s3, s4, rp, dNe, dRepL, sIf, sNx]
theorem last1 : bIs (m_plain_bears [rl 5 4 4 1, rl 5 4 4 1, .int 1] p0) true = true := by decide +kernel
theorem last2 : bIs (m_plain_bears [rl 5 4 4 2, rl 5 4 4 1, .int 1] p0) true = true := by decide +kernel
theorem last3 : bIs (m_plain_bears [rl 5 4 4 2, rl 5 4 4 2, .int 1] p0) false = true := by decide +kernel
theorem last_ok {s : Sl} {p : Pen} : lastG s p = .ok (.rt (.bl true), s) p := by
  have a := bIs_ok q_plain_bears last1 p
  have b := bIs_ok q_plain_bears last2 p
  have c := bIs_ok q_plain_bears last3 p
  simp only [rl] at a b c
  simp [lastG, sRet, eAnd, eOp, eOwn, aCons, aNil, eTup, sz, eC, M.bind, M.pure, M.of, a, b, c, dIsB, asB]
theorem law_main : LawM 7 1 g_law := by
  intro cells hc
  rw [law_split]
  have h0 : Low ⟨cells, 0, 0⟩ 0 := ⟨Int.le_refl _, Int.le_refl _⟩
  obtain ⟨a3, a4, a5, a6, p1, e1, h1⟩ := turn_ok (d2 := .im (.int 0)) (d3 := .un) (d4 := .un) (d5 := .un) (d6 := .un) h0 (by decide)
  obtain ⟨b3, b4, b5, b6, p2, e2, h2⟩ := turn_ok (d2 := .im (.int 1)) (d3 := a3) (d4 := a4) (d5 := a5) (d6 := a6) h1 (by decide)
  obtain ⟨c3, c4, c5, c6, p3, e3, h3⟩ := turn_ok (d2 := .im (.int 2)) (d3 := b3) (d4 := b4) (d5 := b5) (d6 := b6) h2 (by decide)
  refine ⟨[.un, .im .pen, .im (.int 2), c3, c4, c5, c6], p3, ?_⟩
  have hs : s0 7 1 = [.un, .im .pen, .un, .un, .un, .un, .un] := rfl
  have hr : rngD 0 3 = [.int 0, .int 1, .int 2] := rfl
  rw [hs]
  simp [sSeq, sForR, rg1, aCons, aNil, eC, M.bind, M.pure, M.of, hr, loopD, tgN, e1, e2, e3, last_ok]
end La
end
section
set_option Elab.async false
open PySem PySem.W PyProof.Rows
set_option maxRecDepth 100000 in
set_option maxHeartbeats 0 in
theorem PySem.Challenge.cw_staytrue_k58_whole_plain_steps_by_all_ro_holds : PySem.Challenge.rw_staytrue_k58_whole_plain_steps_by_all_ro.Holds := by
  w_on; o_law; k_head; (case hw => w_witness2)
  k_fill
  refine Z.walk_g (l := PySem.Challenge.rw_staytrue_k58_whole_plain_steps_by_all_ro) (n := 63) (k := 6) (x := "script") (sp := fun _ K => Z.spLaw K) rfl (by decide) rfl ⟨rfl, by decide, by decide⟩ (fun w h Y => PySem.W.kIn_of Y) ?F (fun _ _ _ a ns hl _ hS => ⟨a, ns, rfl, hS, hl, fun _ => rfl⟩)
  case F =>
    intro w mg fa h KX G hmg
    refine' La.all_mk KX G hmg La.law_main ?d_is_integer ?d_is_within ?d_need_within ?d_need_plain ?d_together ?d_plain_bears ?d__law_pen ?d__law_draw ?d__law_pick ?d__law_plain ?d__law_rows ?d__law_lots ?d__law_is_apart ?d__law_splits ?d_law ?b_abs ?b_bool ?b_int ?b_isinstance ?b_len ?b_list ?b_max ?b_min ?b_range ?b_repr ?b_tuple ?c_MOST_CHANGES ?c_MOST_COPIES
    (case d_is_integer => refine' Z.DefK.mk ?a ?l ?c ?k; (case a => k_is); (case l => k_is); (case c => k_is); (case k => k_is))
    (case d_is_within => refine' Z.DefK.mk ?a ?l ?c ?k; (case a => k_is); (case l => k_is); (case c => k_is); (case k => k_is))
    (case d_need_within => refine' Z.DefK.mk ?a ?l ?c ?k; (case a => k_is); (case l => k_is); (case c => k_is); (case k => k_is))
    (case d_need_plain => refine' Z.DefK.mk ?a ?l ?c ?k; (case a => k_is); (case l => k_is); (case c => k_is); (case k => k_is))
    (case d_together => refine' Z.DefK.mk ?a ?l ?c ?k; (case a => k_is); (case l => k_is); (case c => k_is); (case k => k_is))
    (case d_plain_bears => refine' Z.DefK.mk ?a ?l ?c ?k; (case a => k_is); (case l => k_is); (case c => k_is); (case k => k_is))
    (case d__law_pen => refine' Z.DefK.mk ?a ?l ?c ?k; (case a => k_is); (case l => k_is); (case c => k_is); (case k => k_is))
    (case d__law_draw => refine' Z.DefK.mk ?a ?l ?c ?k; (case a => k_is); (case l => k_is); (case c => k_is); (case k => k_is))
    (case d__law_pick => refine' Z.DefK.mk ?a ?l ?c ?k; (case a => k_is); (case l => k_is); (case c => k_is); (case k => k_is))
    (case d__law_plain => refine' Z.DefK.mk ?a ?l ?c ?k; (case a => k_is); (case l => k_is); (case c => k_is); (case k => k_is))
    (case d__law_rows => refine' Z.DefK.mk ?a ?l ?c ?k; (case a => k_is); (case l => k_is); (case c => k_is); (case k => k_is))
    (case d__law_lots => refine' Z.DefK.mk ?a ?l ?c ?k; (case a => k_is); (case l => k_is); (case c => k_is); (case k => k_is))
    (case d__law_is_apart => refine' Z.DefK.mk ?a ?l ?c ?k; (case a => k_is); (case l => k_is); (case c => k_is); (case k => k_is))
    (case d__law_splits => refine' Z.DefK.mk ?a ?l ?c ?k; (case a => k_is); (case l => k_is); (case c => k_is); (case k => k_is))
    (case d_law => refine' Z.DefK.mk ?a ?l ?c ?k; (case a => k_is); (case l => k_is); (case c => k_is); (case k => k_is))
    (case b_abs => k_is)
    (case b_bool => k_is)
    (case b_int => k_is)
    (case b_isinstance => k_is)
    (case b_len => k_is)
    (case b_list => k_is)
    (case b_max => k_is)
    (case b_min => k_is)
    (case b_range => k_is)
    (case b_repr => k_is)
    (case b_tuple => k_is)
    (case c_MOST_CHANGES => refine' Z.ex_int ?e; (case e => k_is))
    (case c_MOST_COPIES => refine' Z.ex_int ?e; (case e => k_is))
end
