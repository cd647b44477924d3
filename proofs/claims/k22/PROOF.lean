import PyProof.Rows.All
import Wide.All
import OpenK.AllK
import Wide.FinOn
import HandS.ForMost
import HandS.ForExc
import HandS.Defaults
import HandS.CallSlots
import HandS.Flow
import PyProof.LongRange
import HandS.IsInst
import HandS.Style
import HandS.Deep
import HandS.SortRule
import KE.KTupSum
import HandS.TupAny
import HandS.ExcValue
import HandS.More
import HandS.Head0
import HandS.Head1
import HandS.Head2
import HandS.HeadEnd
import HandS.HeadHook1
import HandS.HeadHook2
import HandS.HeadNt
import PySem.Challenge.RW_dayspread_k22_common_spans
set_option Elab.async false
set_option linter.all false
set_option maxRecDepth 100000
set_option maxHeartbeats 4000000
/-! My layer: data values over the hand layer. -/
namespace Dy
open PySem PySem.Spec PyProof.Rows L2

/-- a value as plain data -/
inductive D where
  | non | bl (b : Bool) | int (i : Int) | str (s : Str) | tup (xs : List D) | lst (xs : List D) | scr (ns : List Int) | obj (C : Addr) (ns : List Str) (xs : List D)

structure Exn where
  C : Addr
  ns : List Str
  xs : List D

def RdT (K : PySem.W.Frag) (O : Addr → Prop) (H : Hp) (a : Addr) (vs : List V) : Prop := (¬ O a ∧ SqT K H a vs) ∨ ∀ H', SqT K H' a vs
def RdL (K : PySem.W.Frag) (O : Addr → Prop) (H : Hp) (a : Addr) (vs : List V) : Prop := (¬ O a ∧ SqL K H a vs) ∨ ∀ H', SqL K H' a vs

mutual
def Rep (K : PySem.W.Frag) (O : Addr → Prop) (H : Hp) : D → V → Prop
  | .non, v => v = .non
  | .bl b, v => v = .bl b
  | .int i, v => v = .int i
  | .str s, v => v = .str s
  | .tup xs, v => ∃ a vs, v = .ref a ∧ RdT K O H a vs ∧ Reps K O H xs vs
  | .lst xs, v => ∃ a vs, v = .ref a ∧ ¬ O a ∧ H a = some (.lst vs) ∧ Reps K O H xs vs
  | .scr ns, v => ∃ a, v = .ref a ∧ RdL K O H a (ns.map V.int)
  | .obj C ns xs, v => ∃ a dx vs, v = .ref a ∧ ¬ O a ∧ H a = some (.ins C dx (ns.zip vs)) ∧ ns.length = xs.length ∧ Reps K O H xs vs
def Reps (K : PySem.W.Frag) (O : Addr → Prop) (H : Hp) : List D → List V → Prop
  | [], vs => vs = []
  | d :: ds, vs => ∃ v ws, vs = v :: ws ∧ Rep K O H d v ∧ Reps K O H ds ws
end

section
variable {K : PySem.W.Frag} {O O' : Addr → Prop} {H H' : Hp}

/-- kept but for what is owned -/
def SameO (O : Addr → Prop) (H H' : Hp) : Prop := ∀ a o, ¬ O a → H a = some o → H' a = some o
theorem Same.o (h : Same H H') : SameO O H H' := fun a o _ e => h a o e
theorem sqT_same {a : Addr} {vs : List V} (h : ∀ o, H a = some o → H' a = some o) (q : SqT K H a vs) : SqT K H' a vs := by
  rcases q with (q | ⟨o, q⟩) | q
  · exact .inl (.inl (h _ q))
  · exact .inl (.inr ⟨o, h _ q⟩)
  · exact .inr q
theorem sqL_same {a : Addr} {vs : List V} (h : ∀ o, H a = some o → H' a = some o) (q : SqL K H a vs) : SqL K H' a vs := by
  rcases q with (q | ⟨o, q⟩) | q
  · exact .inl (.inl (h _ q))
  · exact .inl (.inr ⟨o, h _ q⟩)
  · exact .inr q
theorem RdT.mono {a : Addr} {vs : List V} (s : SameO O H H') (ho : ∀ a, O' a → O a) (h : RdT K O H a vs) : RdT K O' H' a vs := by
  rcases h with ⟨n, h⟩ | h
  · exact .inl ⟨fun z => n (ho a z), sqT_same (fun o e => s a o n e) h⟩
  · exact .inr h
theorem RdL.mono {a : Addr} {vs : List V} (s : SameO O H H') (ho : ∀ a, O' a → O a) (h : RdL K O H a vs) : RdL K O' H' a vs := by
  rcases h with ⟨n, h⟩ | h
  · exact .inl ⟨fun z => n (ho a z), sqL_same (fun o e => s a o n e) h⟩
  · exact .inr h
theorem RdT.sq {a : Addr} {vs : List V} (h : RdT K O H a vs) : SqT K H a vs := by
  rcases h with ⟨_, h⟩ | h
  · exact h
  · exact h H
theorem RdL.sq {a : Addr} {vs : List V} (h : RdL K O H a vs) : SqL K H a vs := by
  rcases h with ⟨_, h⟩ | h
  · exact h
  · exact h H

mutual
theorem Rep.mono (s : SameO O H H') (ho : ∀ a, O' a → O a) : ∀ (d : D) (v : V), Rep K O H d v → Rep K O' H' d v
  | .non, _, h => by unfold Rep at h ⊢; exact h
  | .bl _, _, h => by unfold Rep at h ⊢; exact h
  | .int _, _, h => by unfold Rep at h ⊢; exact h
  | .str _, _, h => by unfold Rep at h ⊢; exact h
  | .tup xs, _, h => by
    unfold Rep at h ⊢
    obtain ⟨a, vs, e, r, q⟩ := h
    exact ⟨a, vs, e, r.mono s ho, Reps.mono s ho xs vs q⟩
  | .lst xs, _, h => by
    unfold Rep at h ⊢
    obtain ⟨a, vs, e, n, r, q⟩ := h
    exact ⟨a, vs, e, fun z => n (ho a z), s a _ n r, Reps.mono s ho xs vs q⟩
  | .scr ns, _, h => by
    unfold Rep at h ⊢
    obtain ⟨a, e, r⟩ := h
    exact ⟨a, e, r.mono s ho⟩
  | .obj C ns xs, _, h => by
    unfold Rep at h ⊢
    obtain ⟨a, dx, vs, e, n, r, l, q⟩ := h
    exact ⟨a, dx, vs, e, fun z => n (ho a z), s a _ n r, l, Reps.mono s ho xs vs q⟩
theorem Reps.mono (s : SameO O H H') (ho : ∀ a, O' a → O a) : ∀ (ds : List D) (vs : List V), Reps K O H ds vs → Reps K O' H' ds vs
  | [], _, h => by unfold Reps at h ⊢; exact h
  | d :: ds, _, h => by
    unfold Reps at h ⊢
    obtain ⟨v, ws, e, r, q⟩ := h
    exact ⟨v, ws, e, Rep.mono s ho d v r, Reps.mono s ho ds ws q⟩
end

theorem Rep.up (s : Same H H') {d : D} {v : V} (h : Rep K O H d v) : Rep K O H' d v := Rep.mono (fun a o _ e => s a o e) (fun _ z => z) d v h
theorem Reps.up (s : Same H H') {d : List D} {v : List V} (h : Reps K O H d v) : Reps K O H' d v := Reps.mono (fun a o _ e => s a o e) (fun _ z => z) d v h
theorem Rep.less (ho : ∀ a, O' a → O a) {d : D} {v : V} (h : Rep K O H d v) : Rep K O' H d v := Rep.mono (fun _ _ _ e => e) ho d v h
theorem Reps.less (ho : ∀ a, O' a → O a) {d : List D} {v : List V} (h : Reps K O H d v) : Reps K O' H d v := Reps.mono (fun _ _ _ e => e) ho d v h

theorem Reps.len : ∀ {ds : List D} {vs : List V}, Reps K O H ds vs → ds.length = vs.length
  | [], vs, h => by unfold Reps at h; subst h; rfl
  | d :: ds, vs, h => by
    unfold Reps at h
    obtain ⟨v, ws, rfl, _, q⟩ := h
    simp [Reps.len q]
theorem Reps.get : ∀ {ds : List D} {vs : List V} {i : Nat} {d : D}, Reps K O H ds vs → ds[i]? = some d → ∃ v, vs[i]? = some v ∧ Rep K O H d v
  | [], vs, i, d, h, e => by simp at e
  | d' :: ds, vs, i, d, h, e => by
    unfold Reps at h
    obtain ⟨v, ws, rfl, r, q⟩ := h
    cases i with
    | zero =>
      simp at e
      subst e
      exact ⟨v, rfl, r⟩
    | succ i =>
      simp at e
      obtain ⟨v', e1, e2⟩ := Reps.get q e
      exact ⟨v', by simpa using e1, e2⟩
theorem Reps.nil : Reps K O H [] [] := by unfold Reps; rfl
theorem Reps.cons {d : D} {v : V} {ds : List D} {vs : List V} (r : Rep K O H d v) (q : Reps K O H ds vs) : Reps K O H (d :: ds) (v :: vs) := by
  unfold Reps
  exact ⟨v, vs, rfl, r, q⟩
theorem Reps.nil_inv {vs : List V} (h : Reps K O H [] vs) : vs = [] := by unfold Reps at h; exact h
theorem Reps.cons_inv {d : D} {ds : List D} {vs : List V} (h : Reps K O H (d :: ds) vs) : ∃ v ws, vs = v :: ws ∧ Rep K O H d v ∧ Reps K O H ds ws := by unfold Reps at h; exact h
theorem Reps.app : ∀ {ds es : List D} {vs ws : List V}, Reps K O H ds vs → Reps K O H es ws → Reps K O H (ds ++ es) (vs ++ ws)
  | [], es, vs, ws, h, q => by
    rw [Reps.nil_inv h]
    exact q
  | d :: ds, es, vs, ws, h, q => by
    obtain ⟨v, vs', rfl, r, h'⟩ := Reps.cons_inv h
    exact Reps.cons r (Reps.app h' q)
theorem Reps.take : ∀ (n : Nat) {ds : List D} {vs : List V}, Reps K O H ds vs → Reps K O H (ds.take n) (vs.take n)
  | 0, ds, vs, h => by simp; exact Reps.nil
  | n + 1, [], vs, h => by rw [Reps.nil_inv h]; simp; exact Reps.nil
  | n + 1, d :: ds, vs, h => by
    obtain ⟨v, vs', rfl, r, h'⟩ := Reps.cons_inv h
    exact Reps.cons r (Reps.take n h')
theorem Reps.drop : ∀ (n : Nat) {ds : List D} {vs : List V}, Reps K O H ds vs → Reps K O H (ds.drop n) (vs.drop n)
  | 0, ds, vs, h => h
  | n + 1, [], vs, h => by rw [Reps.nil_inv h]; simp; exact Reps.nil
  | n + 1, d :: ds, vs, h => by
    obtain ⟨v, vs', rfl, r, h'⟩ := Reps.cons_inv h
    exact Reps.drop n h'
theorem Reps.set : ∀ (n : Nat) {ds : List D} {vs : List V} {d : D} {v : V}, Reps K O H ds vs → Rep K O H d v → Reps K O H (ds.set n d) (vs.set n v)
  | n, [], vs, d, v, h, r => by rw [Reps.nil_inv h]; simp; exact Reps.nil
  | 0, d' :: ds, vs, d, v, h, r => by
    obtain ⟨v', vs', rfl, r', h'⟩ := Reps.cons_inv h
    exact Reps.cons r h'
  | n + 1, d' :: ds, vs, d, v, h, r => by
    obtain ⟨v', vs', rfl, r', h'⟩ := Reps.cons_inv h
    exact Reps.cons r' (Reps.set n h' r)
theorem Reps.rev {ds : List D} {vs : List V} (h : Reps K O H ds vs) : Reps K O H ds.reverse vs.reverse := by
  induction ds generalizing vs with
  | nil => rw [Reps.nil_inv h]; exact Reps.nil
  | cons d ds ih =>
    obtain ⟨v, vs', rfl, r, h'⟩ := Reps.cons_inv h
    rw [List.reverse_cons, List.reverse_cons]
    exact Reps.app (ih h') (Reps.cons r Reps.nil)
theorem reps_ints : ∀ {ns : List Int} {vs : List V}, Reps K O H (ns.map D.int) vs → vs = ns.map V.int
  | [], vs, h => Reps.nil_inv h
  | n :: ns, vs, h => by
    obtain ⟨v, vs', rfl, r, h'⟩ := Reps.cons_inv h
    unfold Rep at r
    rw [r, reps_ints h']
    rfl
theorem reps_of_ints : ∀ {ns : List Int}, Reps K O H (ns.map D.int) (ns.map V.int)
  | [] => Reps.nil
  | n :: ns => Reps.cons (by unfold Rep; rfl) reps_of_ints
theorem rep_int {i : Int} {v : V} (h : Rep K O H (.int i) v) : v = .int i := by unfold Rep at h; exact h
theorem rep_bl {i : Bool} {v : V} (h : Rep K O H (.bl i) v) : v = .bl i := by unfold Rep at h; exact h
theorem rep_str {i : Str} {v : V} (h : Rep K O H (.str i) v) : v = .str i := by unfold Rep at h; exact h
theorem rep_non {v : V} (h : Rep K O H .non v) : v = .non := by unfold Rep at h; exact h
theorem rep_tup {xs : List D} {v : V} (h : Rep K O H (.tup xs) v) : ∃ a vs, v = .ref a ∧ RdT K O H a vs ∧ Reps K O H xs vs := by unfold Rep at h; exact h
theorem rep_lst {xs : List D} {v : V} (h : Rep K O H (.lst xs) v) : ∃ a vs, v = .ref a ∧ ¬ O a ∧ H a = some (.lst vs) ∧ Reps K O H xs vs := by unfold Rep at h; exact h
theorem rep_scr {xs : List Int} {v : V} (h : Rep K O H (.scr xs) v) : ∃ a, v = .ref a ∧ RdL K O H a (xs.map V.int) := by unfold Rep at h; exact h
theorem scr_rep {xs : List Int} {a : Addr} (r : RdL K O H a (xs.map V.int)) : Rep K O H (.scr xs) (.ref a) := by unfold Rep; exact ⟨a, rfl, r⟩
theorem rep_obj {C : Addr} {ns : List Str} {xs : List D} {v : V} (h : Rep K O H (.obj C ns xs) v) : ∃ a dx vs, v = .ref a ∧ ¬ O a ∧ H a = some (.ins C dx (ns.zip vs)) ∧ ns.length = xs.length ∧ Reps K O H xs vs := by unfold Rep at h; exact h
theorem int_rep {i : Int} : Rep K O H (.int i) (.int i) := by unfold Rep; rfl
theorem bl_rep {i : Bool} : Rep K O H (.bl i) (.bl i) := by unfold Rep; rfl
theorem str_rep {i : Str} : Rep K O H (.str i) (.str i) := by unfold Rep; rfl
theorem non_rep : Rep K O H .non .non := by unfold Rep; rfl
theorem tup_rep {xs : List D} {a : Addr} {vs : List V} (r : RdT K O H a vs) (q : Reps K O H xs vs) : Rep K O H (.tup xs) (.ref a) := by unfold Rep; exact ⟨a, vs, rfl, r, q⟩
theorem lst_rep {xs : List D} {a : Addr} {vs : List V} (n : ¬ O a) (r : H a = some (.lst vs)) (q : Reps K O H xs vs) : Rep K O H (.lst xs) (.ref a) := by unfold Rep; exact ⟨a, vs, rfl, n, r, q⟩
theorem obj_rep {C : Addr} {ns : List Str} {xs : List D} {a dx : Addr} {vs : List V} (n : ¬ O a) (h : H a = some (.ins C dx (ns.zip vs))) (l : ns.length = xs.length) (q : Reps K O H xs vs) : Rep K O H (.obj C ns xs) (.ref a) := by
  unfold Rep
  exact ⟨a, dx, vs, rfl, n, h, l, q⟩
end

/-! ### slots, the state -/
inductive Sl where
  | un | val (d : D) | own (ds : List D) | slf (C : Addr) (ns : List Str) (ds : List D)

structure Bas where
  H0 : Hp
  Oc : Addr → Prop

def InO (B : Bas) (ow : Nat → Option Addr) (a : Addr) : Prop := B.Oc a ∨ ∃ i, ow i = some a

def SlOk (K : PySem.W.Frag) (O : Addr → Prop) (ow : Nat → Option Addr) (σ : L2.St) (H : Hp) (i : Nat) : Sl → Prop
  | .un => True
  | .val d => ∃ v, σ[i]? = some (some v) ∧ Rep K O H d v
  | .own ds => ∃ a vs, σ[i]? = some (some (.ref a)) ∧ ow i = some a ∧ H a = some (.lst vs) ∧ Reps K O H ds vs
  | .slf C ns ds => ∃ a dx vs, σ[i]? = some (some (.ref a)) ∧ ow i = some a ∧ H a = some (.ins C dx (ns.zip vs)) ∧ ns.length = ds.length ∧ Reps K O H ds vs

structure StO (K : PySem.W.Frag) (B : Bas) (Δ : List Sl) (ow : Nat → Option Addr) (σ : L2.St) (H : Hp) : Prop where
  base : Same B.H0 H
  live : ∀ a, InO B ow a → ∃ o, H a = some o
  sep : ∀ i a, ow i = some a → B.H0 a = none ∧ ¬ B.Oc a
  inj : ∀ i j a, ow i = some a → ow j = some a → i = j
  len : σ.length = Δ.length
  sl : ∀ i s, Δ[i]? = some s → SlOk K (InO B ow) ow σ H i s

section
variable {K : PySem.W.Frag} {B : Bas} {Δ : List Sl} {ow : Nat → Option Addr} {σ : L2.St} {H H' : Hp}
theorem StO.up (S : StO K B Δ ow σ H) (s : Same H H') : StO K B Δ ow σ H' where
  base := S.base.trans s
  live := fun a h => let ⟨o, e⟩ := S.live a h; ⟨o, s a o e⟩
  sep := S.sep
  inj := S.inj
  len := S.len
  sl := fun i d e => by
    have h := S.sl i d e
    cases d with
    | un => trivial
    | val d => obtain ⟨v, e1, r⟩ := h; exact ⟨v, e1, r.up s⟩
    | own ds => obtain ⟨a, vs, e1, e2, e3, r⟩ := h; exact ⟨a, vs, e1, e2, s _ _ e3, r.up s⟩
    | slf C ns ds => obtain ⟨a, dx, vs, e1, e2, e3, l, r⟩ := h; exact ⟨a, dx, vs, e1, e2, s _ _ e3, l, r.up s⟩
/-- a slot gets a plain value -/
theorem StO.put (S : StO K B Δ ow σ H) {i : Nat} {d : D} {v : V} (r : Rep K (InO B ow) H d v) : StO K B (Δ.set i (.val d)) ow (σ.set i (some v)) H where
  base := S.base
  live := S.live
  sep := S.sep
  inj := S.inj
  len := by simp [S.len]
  sl := fun j s e => by
    by_cases hj : j = i
    · subst hj
      have hl : j < Δ.length := by
        have := (List.getElem?_eq_some_iff.mp e).1
        simpa using this
      rw [List.getElem?_set_self hl] at e
      cases e
      exact ⟨v, List.getElem?_set_self (by rw [S.len]; exact hl), r⟩
    · rw [List.getElem?_set_ne (Ne.symm hj)] at e
      have h := S.sl j s e
      have hσ : (σ.set i (some v))[j]? = σ[j]? := List.getElem?_set_ne (Ne.symm hj)
      cases s with
      | un => trivial
      | val d => obtain ⟨v, e1, r⟩ := h; exact ⟨v, hσ.trans e1, r⟩
      | own ds => obtain ⟨a, vs, e1, r⟩ := h; exact ⟨a, vs, hσ.trans e1, r⟩
      | slf C ns ds => obtain ⟨a, dx, vs, e1, r⟩ := h; exact ⟨a, dx, vs, hσ.trans e1, r⟩
/-- forgetting -/
def Le : List Sl → List Sl → Prop
  | [], [] => True
  | a :: l, b :: m => (b = .un ∨ a = b) ∧ Le l m
  | _, _ => False
theorem Le.refl : ∀ {l : List Sl}, Le l l
  | [] => trivial
  | _ :: _ => ⟨.inr rfl, Le.refl⟩
theorem Le.len : ∀ {l m : List Sl}, Le l m → l.length = m.length
  | [], [], _ => rfl
  | _ :: l, _ :: m, h => by simp [Le.len h.2]
theorem Le.get : ∀ {l m : List Sl} {i : Nat} {s : Sl}, Le l m → m[i]? = some s → s = .un ∨ l[i]? = some s
  | [], [], i, s, _, e => by simp at e
  | a :: l, b :: m, 0, s, h, e => by
    simp at e
    subst e
    rcases h.1 with h | h
    · exact .inl h
    · exact .inr (by simp [h])
  | a :: l, b :: m, i + 1, s, h, e => by
    simp at e
    simpa using Le.get h.2 e
theorem StO.weak {Δ' : List Sl} (S : StO K B Δ ow σ H) (h : Le Δ Δ') : StO K B Δ' ow σ H where
  base := S.base
  live := S.live
  sep := S.sep
  inj := S.inj
  len := by rw [S.len, h.len]
  sl := fun i s e => by
    rcases h.get e with rfl | e'
    · trivial
    · exact S.sl i s e'
theorem InO.fresh {a p : Addr} (S : StO K B Δ ow σ H) (s : Same H H') (hp : H' p = none) : ¬ InO B ow p := fun z => by
  obtain ⟨o, e⟩ := S.live p z
  rw [s p o e] at hp
  cases hp
/-- owning anew -/
def putO (ow : Nat → Option Addr) (i : Nat) (x : Option Addr) : Nat → Option Addr := fun j => if j = i then x else ow j
theorem putO_same {i : Nat} {x : Option Addr} : putO ow i x i = x := by unfold putO; rw [if_pos rfl]
theorem putO_ne {i j : Nat} {x : Option Addr} (h : j ≠ i) : putO ow i x j = ow j := by unfold putO; rw [if_neg h]
end
end Dy
namespace Dy
open PySem PySem.Spec PyProof.Rows L2

/-! ### weakest readings -/
section
variable (X : Cx)
def WEx (e : Expr) : TE := fun σ H Q => ∀ (pins : List (Addr × Obj)) (s : Shared), Inv X pins σ H s → wpAny (model X.prog X.w) X.A (eval e X.env) (EP X pins σ Q) X.xe s
def WTx (e : Expr) : TT := fun σ H Q => ∀ (pins : List (Addr × Obj)) (s : Shared), Inv X pins σ H s → wpAny (model X.prog X.w) X.A (isTrue e X.env (eval e X.env)) (TP X pins σ Q) X.xe s
def WWx (e : Expr) : TT := fun σ H Q => ∀ (wh : Sem Value) (pins : List (Addr × Obj)) (s : Shared), Inv X pins σ H s → wpAny (model X.prog X.w) X.A (isTrue e X.env wh) (TP X pins σ Q) X.xe s
def WAx (es : List Expr) : TA := fun σ H Q => ∀ (pos : Pos) (pins : List (Addr × Obj)) (s : Shared), Inv X pins σ H s → wpAny (model X.prog X.w) X.A (spliced (backTo pos (starEach es X.env))) (AP X pins σ Q) X.xe s
def WSx (st : Stmt) : TS := fun De σ H => ∀ (pins : List (Addr × Obj)) (s : Shared), Inv X pins σ H s → wpAny (model X.prog X.w) X.A (exec st X.env) (SP X pins De) X.xe s
def WSs (st : List Stmt) : TS := fun De σ H => ∀ (pins : List (Addr × Obj)) (s : Shared), Inv X pins σ H s → wpAny (model X.prog X.w) X.A (execs st X.env) (SP X pins De) X.xe s
end
section
variable {X : Cx}
theorem peW {e : Expr} : PE X e (WEx X e) := ⟨fun pins s _ _ _ I h => h pins s I⟩
theorem ptW {e : Expr} : PT X e (WTx X e) := ⟨fun pins s _ _ _ I h => h pins s I⟩
theorem pwW {e : Expr} : PW X e (WWx X e) := ⟨fun wh pins s _ _ _ I h => h wh pins s I⟩
theorem paW {es : List Expr} : PA X es (WAx X es) := ⟨fun pos pins s _ _ _ I h => h pos pins s I⟩
theorem psW {st : Stmt} : PS X st (WSx X st) := ⟨fun pins s _ _ _ I h => h pins s I⟩
theorem pssW {st : List Stmt} : PSs X st (WSs X st) := ⟨fun pins s _ _ _ I h => h pins s I⟩
theorem we_of {e : Expr} {t : TE} (p : PE X e t) {σ : L2.St} {H : Hp} {Q : VK} (h : t σ H Q) : WEx X e σ H Q := fun pins s I => p.run pins s σ H Q I h
theorem wt_of {e : Expr} {t : TT} (p : PT X e t) {σ : L2.St} {H : Hp} {Q : Bool → Hp → Prop} (h : t σ H Q) : WTx X e σ H Q := fun pins s I => p.run pins s σ H Q I h
theorem ww_of {e : Expr} {t : TT} (p : PW X e t) {σ : L2.St} {H : Hp} {Q : Bool → Hp → Prop} (h : t σ H Q) : WWx X e σ H Q := fun wh pins s I => p.run wh pins s σ H Q I h
theorem wa_of {es : List Expr} {t : TA} (p : PA X es t) {σ : L2.St} {H : Hp} {Q : List V → Hp → Prop} (h : t σ H Q) : WAx X es σ H Q := fun pos pins s I => p.run pos pins s σ H Q I h
theorem ws_of {st : Stmt} {t : TS} (p : PS X st t) {σ : L2.St} {H : Hp} {De : Ends} (h : t De σ H) : WSx X st De σ H := fun pins s I => p.run pins s σ H De I h
theorem wss_of {st : List Stmt} {t : TS} (p : PSs X st t) {σ : L2.St} {H : Hp} {De : Ends} (h : t De σ H) : WSs X st De σ H := fun pins s I => p.run pins s σ H De I h
end

/-- an exception as data -/
def ExR (K : PySem.W.Frag) (O : Addr → Prop) (H : Hp) (x : Exn) (cls : Value) (dd : Option Addr) : Prop :=
  cls = .ref x.C ∧ (x.ns = [] ∨ ∃ d vs, dd = some d ∧ H d = some (.xd (x.ns.zip vs)) ∧ x.ns.length = x.xs.length ∧ Reps K O H x.xs vs)

/-! ### judgements over data -/
section
variable (X : Cx) (B : Bas) (Δ : List Sl)
/-- what may follow a raise -/
def Hears (ow : Nat → Option Addr) (H : Hp) (σ : L2.St) (W : WX) (Ψ : Exn → Prop) : Prop := ∀ x cls dd H', Ψ x → Same H H' → ExR X.K (InO B ow) H' x cls dd → W cls dd σ H'
def JE (e : Expr) (P : D → Prop) (Ψ : Exn → Prop) : Prop :=
  ∀ (ow : Nat → Option Addr) (σ : L2.St) (H : Hp) (Q : VK) (W : WX), Takes X W → StO X.K B Δ ow σ H → (∀ d v H', P d → Same H H' → Rep X.K (InO B ow) H' d v → Q v H') → Hears X B ow H σ W Ψ → WEx X e σ H Q
def JT (e : Expr) (P : Bool → Prop) (Ψ : Exn → Prop) : Prop :=
  ∀ (ow : Nat → Option Addr) (σ : L2.St) (H : Hp) (Q : Bool → Hp → Prop) (W : WX), Takes X W → StO X.K B Δ ow σ H → (∀ b H', P b → Same H H' → Q b H') → Hears X B ow H σ W Ψ → WTx X e σ H Q
def JW (e : Expr) (P : Bool → Prop) (Ψ : Exn → Prop) : Prop :=
  ∀ (ow : Nat → Option Addr) (σ : L2.St) (H : Hp) (Q : Bool → Hp → Prop) (W : WX), Takes X W → StO X.K B Δ ow σ H → (∀ b H', P b → Same H H' → Q b H') → Hears X B ow H σ W Ψ → WWx X e σ H Q
def JA (es : List Expr) (P : List D → Prop) (Ψ : Exn → Prop) : Prop :=
  ∀ (ow : Nat → Option Addr) (σ : L2.St) (H : Hp) (Q : List V → Hp → Prop) (W : WX), Takes X W → StO X.K B Δ ow σ H → (∀ ds vs H', P ds → Same H H' → Reps X.K (InO B ow) H' ds vs → Q vs H') → Hears X B ow H σ W Ψ → WAx X es σ H Q
/-- a value, nothing raised -/
def JV (e : Expr) (d : D) : Prop := ∀ (P : D → Prop) (Ψ : Exn → Prop), P d → JE X B Δ e P Ψ
def TV (e : Expr) (b : Bool) : Prop := ∀ (P : Bool → Prop) (Ψ : Exn → Prop), P b → JT X B Δ e P Ψ
def WV (e : Expr) (b : Bool) : Prop := ∀ (P : Bool → Prop) (Ψ : Exn → Prop), P b → JW X B Δ e P Ψ
def AV (es : List Expr) (ds : List D) : Prop := ∀ (P : List D → Prop) (Ψ : Exn → Prop), P ds → JA X B Δ es P Ψ

structure EndD where
  nx : List Sl → Prop
  rt : List Sl → D → Prop
  bk : List Sl → Prop := fun _ => False
  ct : List Sl → Prop := fun _ => False
  xc : List Sl → Exn → Prop := fun _ _ => False

structure Good (E : EndD) (De : Ends) (W : WX) : Prop where
  nx : ∀ Δ' ow' σ' H', E.nx Δ' → StO X.K B Δ' ow' σ' H' → De.nx σ' H'
  rt : ∀ Δ' ow' σ' H' d v, E.rt Δ' d → StO X.K B Δ' ow' σ' H' → Rep X.K (InO B ow') H' d v → De.rt v H'
  bk : ∀ Δ' ow' σ' H', E.bk Δ' → StO X.K B Δ' ow' σ' H' → De.bk σ' H'
  ct : ∀ Δ' ow' σ' H', E.ct Δ' → StO X.K B Δ' ow' σ' H' → De.ct σ' H'
  xc : ∀ Δ' ow' σ' H' x cls dd, E.xc Δ' x → StO X.K B Δ' ow' σ' H' → ExR X.K (InO B ow') H' x cls dd → W cls dd σ' H'

def JS (st : Stmt) (E : EndD) : Prop :=
  ∀ (ow : Nat → Option Addr) (σ : L2.St) (H : Hp) (De : Ends) (W : WX), Takes X W → StO X.K B Δ ow σ H → Good X B E De W → WSx X st De σ H
def Js (st : List Stmt) (E : EndD) : Prop :=
  ∀ (ow : Nat → Option Addr) (σ : L2.St) (H : Hp) (De : Ends) (W : WX), Takes X W → StO X.K B Δ ow σ H → Good X B E De W → WSs X st De σ H
end

section
variable {X : Cx} {B : Bas} {Δ : List Sl} {P : D → Prop} {Ψ : Exn → Prop}

theorem Hears.mono {ow : Nat → Option Addr} {H H1 : Hp} {σ : L2.St} {W : WX} (h : Hears X B ow H σ W Ψ) (s : Same H H1) : Hears X B ow H1 σ W Ψ := fun x cls dd H' p s' r => h x cls dd H' p (s.trans s') r
theorem Hears.imp {ow : Nat → Option Addr} {H : Hp} {σ : L2.St} {W : WX} {Ψ' : Exn → Prop} (h : Hears X B ow H σ W Ψ) (i : ∀ x, Ψ' x → Ψ x) : Hears X B ow H σ W Ψ' := fun x cls dd H' p s' r => h x cls dd H' (i x p) s' r
theorem JE.imp {e : Expr} {P' : D → Prop} {Ψ' : Exn → Prop} (h : JE X B Δ e P Ψ) (i : ∀ d, P d → P' d) (j : ∀ x, Ψ x → Ψ' x) : JE X B Δ e P' Ψ' := fun ow σ H Q W tk S q hx =>
  h ow σ H Q W tk S (fun d v H' p => q d v H' (i d p)) (hx.imp j)
theorem JV.je {e : Expr} {d : D} (h : JV X B Δ e d) (p : P d) : JE X B Δ e P Ψ := h P Ψ p
theorem JE.jv {e : Expr} {d : D} (h : JE X B Δ e (fun z => z = d) (fun _ => False)) : JV X B Δ e d := fun P Ψ p => h.imp (fun z e => e ▸ p) (fun _ z => z.elim)

/-! ### expressions -/
theorem jv_of {e : Expr} {d : D} {t : TE} (p : PE X e t) (h : ∀ ow σ H Q, StO X.K B Δ ow σ H → (∀ v H', Same H H' → Rep X.K (InO B ow) H' d v → Q v H') → t σ H Q) : JV X B Δ e d := fun P Ψ pd ow σ H Q W tk S q _ =>
  we_of p (h ow σ H Q S fun v H' s r => q d v H' pd s r)
theorem jv_int {i : Int} {j pos} : JV X B Δ (.Constant (.int i) j pos) (.int i) := jv_of pe_int fun ow σ H Q S q => q _ _ (Same.refl H) int_rep
theorem jv_bl {i : Bool} {j pos} : JV X B Δ (.Constant (.bool i) j pos) (.bl i) := jv_of pe_bl fun ow σ H Q S q => q _ _ (Same.refl H) bl_rep
theorem jv_str {i : Str} {j pos} : JV X B Δ (.Constant (.str i) j pos) (.str i) := jv_of pe_str fun ow σ H Q S q => q _ _ (Same.refl H) str_rep
theorem jv_non {j pos} : JV X B Δ (.Constant .none j pos) .non := jv_of pe_non fun ow σ H Q S q => q _ _ (Same.refl H) non_rep
theorem jv_var (i : Nat) {x : Str} {pos : Pos} {d : D} (h : Δ[i]? = some (.val d) := by rfl) (hN : X.N[i]? = some x := by rfl) (hv : Vis X.env.scope x := by first | exact Or.inl rfl | exact Or.inr (Or.inl rfl) | exact Or.inr (Or.inr rfl))
    (hd : (x == ("__debug__" : Str)) = false := by decide) (hcd : (x == ("__classdict__" : Str)) = false := by decide) : JV X B Δ (.Name x pos) d :=
  jv_of (pe_var hN hv hd hcd) fun ow σ H Q S q => by
    obtain ⟨v, e, r⟩ := S.sl i _ h
    exact ⟨v, e, q v H (Same.refl H) r⟩
/-- a two-place operation on data -/
def OpS (K : PySem.W.Frag) (r : R2) (x y z : D) : Prop := ∀ (O : Addr → Prop) (H : Hp) (u v : V) (Q : VK), (∀ a, O a → ∃ o, H a = some o) → Rep K O H x u → Rep K O H y v → (∀ t H', Same H H' → Rep K O H' z t → Q t H') → r u v H Q
theorem jv_opR {e a b : Expr} {r : R2} {x y z : D} (p : PE X e (tOp r (WEx X a) (WEx X b))) (ha : JV X B Δ a x) (hb : JV X B Δ b y) (o : OpS X.K r x y z) : JV X B Δ e z := fun P Ψ pz ow σ H Q W tk S q hx => by
  refine we_of p ?_
  refine ha (fun d => d = x) (fun _ => False) rfl ow σ H _ W tk S (fun d u H1 e1 s1 r1 => ?_) (fun _ _ _ _ z => z.elim)
  subst e1
  refine hb (fun d => d = y) (fun _ => False) rfl ow σ H1 _ W tk (S.up s1) (fun d v H2 e2 s2 r2 => ?_) (fun _ _ _ _ z => z.elim)
  subst e2
  exact o _ H2 u v Q (S.up (s1.trans s2)).live (r1.up s2) r2 fun t H' s' r' => q z t H' pz ((s1.trans s2).trans s') r'
def rAddI : R2 := rI0 fun i j => .int (i + j)
theorem opS_I {K : PySem.W.Frag} {g : Int → Int → V} {d : Int → Int → D} {i j : Int} (h : ∀ O H, Rep K O H (d i j) (g i j)) : OpS K (rI0 g) (.int i) (.int j) (d i j) := fun O H u v Q _ ru rv q =>
  ⟨i, j, rep_int ru, rep_int rv, q _ H (Same.refl H) (h O H)⟩
theorem opS_IC {K : PySem.W.Frag} {C : Int → Int → Prop} {g : Int → Int → V} {d : Int → Int → D} {i j : Int} (hc : C i j) (h : ∀ O H, Rep K O H (d i j) (g i j)) : OpS K (rI C g) (.int i) (.int j) (d i j) := fun O H u v Q _ ru rv q =>
  ⟨i, j, rep_int ru, rep_int rv, hc, q _ H (Same.refl H) (h O H)⟩
section
variable {a b : Expr} {i j : Int} {pos : Pos}
theorem jv_add (ha : JV X B Δ a (.int i)) (hb : JV X B Δ b (.int j)) : JV X B Δ (.BinOp a .Add b pos) (.int (i + j)) := jv_opR (pe_op op_add peW peW) ha hb (opS_I (d := fun i j => .int (i + j)) fun _ _ => int_rep)
theorem jv_sub (ha : JV X B Δ a (.int i)) (hb : JV X B Δ b (.int j)) : JV X B Δ (.BinOp a .Sub b pos) (.int (i - j)) := jv_opR (pe_op op_sub peW peW) ha hb (opS_I (d := fun i j => .int (i - j)) fun _ _ => int_rep)
theorem jv_mul (ha : JV X B Δ a (.int i)) (hb : JV X B Δ b (.int j)) (h : CMul i j) : JV X B Δ (.BinOp a .Mult b pos) (.int (i * j)) := jv_opR (pe_op op_mul peW peW) ha hb (opS_IC (d := fun i j => .int (i * j)) h fun _ _ => int_rep)
theorem jv_div (ha : JV X B Δ a (.int i)) (hb : JV X B Δ b (.int j)) (h : CDiv i j) : JV X B Δ (.BinOp a .FloorDiv b pos) (.int (i / j)) := jv_opR (pe_op op_fdiv peW peW) ha hb (opS_IC (d := fun i j => .int (i / j)) h fun _ _ => int_rep)
theorem jv_mod (ha : JV X B Δ a (.int i)) (hb : JV X B Δ b (.int j)) (h : 0 < j) : JV X B Δ (.BinOp a .Mod b pos) (.int (i % j)) := jv_opR (pe_op op_mod peW peW) ha hb (opS_IC (d := fun i j => .int (i % j)) h fun _ _ => int_rep)
theorem jv_pow (ha : JV X B Δ a (.int i)) (hb : JV X B Δ b (.int j)) (h : CPow i j) : JV X B Δ (.BinOp a .Pow b pos) (.int (i ^ j.toNat)) := jv_opR (pe_op op_pow peW peW) ha hb (opS_IC (d := fun i j => .int (i ^ j.toNat)) h fun _ _ => int_rep)
theorem jv_neg (ha : JV X B Δ a (.int i)) : JV X B Δ (.UnaryOp .USub a pos) (.int (-i)) := fun P Ψ pz ow σ H Q W tk S q hx => by
  refine we_of (pe_un un_neg peW) ?_
  refine ha (fun d => d = .int i) (fun _ => False) rfl ow σ H _ W tk S (fun d u H1 e1 s1 r1 => ?_) (fun _ _ _ _ z => z.elim)
  subst e1
  exact ⟨i, rep_int r1, q _ _ _ pz s1 int_rep⟩
/-! comparisons -/
theorem jv_lt (ha : JV X B Δ a (.int i)) (hb : JV X B Δ b (.int j)) : JV X B Δ (.Compare a [.Lt] [b] pos) (.bl (decide (i < j))) := jv_opR (pe_cmpR op_lt peW peW (nomark _)) ha hb (opS_I (d := fun i j => .bl (decide (i < j))) fun _ _ => bl_rep)
theorem jv_le (ha : JV X B Δ a (.int i)) (hb : JV X B Δ b (.int j)) : JV X B Δ (.Compare a [.LtE] [b] pos) (.bl (decide (i ≤ j))) := jv_opR (pe_cmpR op_le peW peW (nomark _)) ha hb (opS_I (d := fun i j => .bl (decide (i ≤ j))) fun _ _ => bl_rep)
theorem jv_gt (ha : JV X B Δ a (.int i)) (hb : JV X B Δ b (.int j)) : JV X B Δ (.Compare a [.Gt] [b] pos) (.bl (decide (j < i))) := jv_opR (pe_cmpR op_gt peW peW (nomark _)) ha hb (opS_I (d := fun i j => .bl (decide (j < i))) fun _ _ => bl_rep)
theorem jv_ge (ha : JV X B Δ a (.int i)) (hb : JV X B Δ b (.int j)) : JV X B Δ (.Compare a [.GtE] [b] pos) (.bl (decide (j ≤ i))) := jv_opR (pe_cmpR op_ge peW peW (nomark _)) ha hb (opS_I (d := fun i j => .bl (decide (j ≤ i))) fun _ _ => bl_rep)
end
/-- scalars that == compares -/
def sc : D → D → Option Bool
  | .int i, .int j => some (decide (i = j))
  | .bl i, .bl j => some (decide (i = j))
  | .str i, .str j => some (decide (i = j))
  | _, _ => none
theorem opS_eq {K : PySem.W.Frag} {x y : D} {b : Bool} (h : sc x y = some b) : OpS K rEq x y (.bl b) := fun O H u v Q _ ru rv q => by
  unfold sc at h
  split at h
  · cases h; cases rep_int ru; cases rep_int rv
    rename_i i j
    refine ⟨rfl, ?_⟩
    have e : decide (V.int i = V.int j) = decide (i = j) := by by_cases c : i = j <;> simp [c]
    rw [e]
    exact q _ H (Same.refl H) bl_rep
  · cases h; cases rep_bl ru; cases rep_bl rv
    rename_i i j
    refine ⟨rfl, ?_⟩
    have e : decide (V.bl i = V.bl j) = decide (i = j) := by by_cases c : i = j <;> simp [c]
    rw [e]
    exact q _ H (Same.refl H) bl_rep
  · cases h; cases rep_str ru; cases rep_str rv
    rename_i i j
    refine ⟨rfl, ?_⟩
    have e : decide (V.str i = V.str j) = decide (i = j) := by by_cases c : i = j <;> simp [c]
    rw [e]
    exact q _ H (Same.refl H) bl_rep
  · cases h
theorem opS_ne {K : PySem.W.Frag} {x y : D} {b : Bool} (h : sc x y = some b) : OpS K rNe x y (.bl (!b)) := fun O H u v Q _ ru rv q => by
  unfold sc at h
  split at h
  · cases h; cases rep_int ru; cases rep_int rv
    rename_i i j
    refine ⟨rfl, ?_⟩
    have e : decide (V.int i = V.int j) = decide (i = j) := by by_cases c : i = j <;> simp [c]
    rw [e]
    exact q _ H (Same.refl H) bl_rep
  · cases h; cases rep_bl ru; cases rep_bl rv
    rename_i i j
    refine ⟨rfl, ?_⟩
    have e : decide (V.bl i = V.bl j) = decide (i = j) := by by_cases c : i = j <;> simp [c]
    rw [e]
    exact q _ H (Same.refl H) bl_rep
  · cases h; cases rep_str ru; cases rep_str rv
    rename_i i j
    refine ⟨rfl, ?_⟩
    have e : decide (V.str i = V.str j) = decide (i = j) := by by_cases c : i = j <;> simp [c]
    rw [e]
    exact q _ H (Same.refl H) bl_rep
  · cases h
section
variable {a b c : Expr} {x y : D} {k : Bool} {pos : Pos}
theorem jv_eq (ha : JV X B Δ a x) (hb : JV X B Δ b y) (h : sc x y = some k := by rfl) : JV X B Δ (.Compare a [.Eq] [b] pos) (.bl k) := jv_opR (pe_cmpR op_eq peW peW (nomark _)) ha hb (opS_eq h)
theorem jv_ne (ha : JV X B Δ a x) (hb : JV X B Δ b y) (h : sc x y = some k := by rfl) : JV X B Δ (.Compare a [.NotEq] [b] pos) (.bl (!k)) := jv_opR (pe_cmpR op_ne peW peW (nomark _)) ha hb (opS_ne h)
/-! tests -/
theorem tv_of (ha : JV X B Δ a (.bl k)) (he : ∀ whole, isTrue a X.env whole = (do let v ← whole; standAt a.pos; holding [v] (truthy v)) := by intro _; rfl) : TV X B Δ a k := fun P Ψ pk ow σ H Q W tk S q hx => by
  refine wt_of (pt_val peW he) ?_
  refine ha (fun d => d = .bl k) (fun _ => False) rfl ow σ H _ W tk S (fun d u H1 e1 s1 r1 => ?_) (fun _ _ _ _ z => z.elim)
  subst e1
  exact ⟨k, rep_bl r1, q k H1 pk s1⟩
/-- a comparison as a test -/
theorem tv_opR {e : Expr} {r : R2} {z : Bool} (p : PT X e (tTest (tOp r (WEx X a) (WEx X b)))) (ha : JV X B Δ a x) (hb : JV X B Δ b y) (o : OpS X.K r x y (.bl z)) : TV X B Δ e z := fun P Ψ pz ow σ H Q W tk S q hx => by
  refine wt_of p ?_
  refine ha (fun d => d = x) (fun _ => False) rfl ow σ H _ W tk S (fun d u H1 e1 s1 r1 => ?_) (fun _ _ _ _ z => z.elim)
  subst e1
  refine hb (fun d => d = y) (fun _ => False) rfl ow σ H1 _ W tk (S.up s1) (fun d v H2 e2 s2 r2 => ?_) (fun _ _ _ _ z => z.elim)
  subst e2
  exact o _ H2 u v _ (S.up (s1.trans s2)).live (r1.up s2) r2 fun t H' s' r' => ⟨z, rep_bl r', q z H' pz ((s1.trans s2).trans s')⟩
variable {i j : Int}
theorem tv_lt (ha : JV X B Δ a (.int i)) (hb : JV X B Δ b (.int j)) : TV X B Δ (.Compare a [.Lt] [b] pos) (decide (i < j)) := tv_opR (pt_cmpR op_lt peW peW (nomark _)) ha hb (opS_I (d := fun i j => .bl (decide (i < j))) fun _ _ => bl_rep)
theorem tv_le (ha : JV X B Δ a (.int i)) (hb : JV X B Δ b (.int j)) : TV X B Δ (.Compare a [.LtE] [b] pos) (decide (i ≤ j)) := tv_opR (pt_cmpR op_le peW peW (nomark _)) ha hb (opS_I (d := fun i j => .bl (decide (i ≤ j))) fun _ _ => bl_rep)
theorem tv_gt (ha : JV X B Δ a (.int i)) (hb : JV X B Δ b (.int j)) : TV X B Δ (.Compare a [.Gt] [b] pos) (decide (j < i)) := tv_opR (pt_cmpR op_gt peW peW (nomark _)) ha hb (opS_I (d := fun i j => .bl (decide (j < i))) fun _ _ => bl_rep)
theorem tv_ge (ha : JV X B Δ a (.int i)) (hb : JV X B Δ b (.int j)) : TV X B Δ (.Compare a [.GtE] [b] pos) (decide (j ≤ i)) := tv_opR (pt_cmpR op_ge peW peW (nomark _)) ha hb (opS_I (d := fun i j => .bl (decide (j ≤ i))) fun _ _ => bl_rep)
theorem tv_eq (ha : JV X B Δ a x) (hb : JV X B Δ b y) (h : sc x y = some k := by rfl) : TV X B Δ (.Compare a [.Eq] [b] pos) k := tv_opR (pt_cmpR op_eq peW peW (nomark _)) ha hb (opS_eq h)
theorem tv_ne (ha : JV X B Δ a x) (hb : JV X B Δ b y) (h : sc x y = some k := by rfl) : TV X B Δ (.Compare a [.NotEq] [b] pos) (!k) := tv_opR (pt_cmpR op_ne peW peW (nomark _)) ha hb (opS_ne h)
theorem tv_not (ha : TV X B Δ a k) : TV X B Δ (.UnaryOp .Not a pos) (!k) := fun P Ψ pk ow σ H Q W tk S q hx =>
  wt_of (pt_not ptW) (ha (fun c => c = k) Ψ rfl ow σ H _ W tk S (fun c H1 e s => q _ H1 (e ▸ pk) s) hx)
theorem TV.is {k' : Bool} (h : TV X B Δ a k) (e : k = k') : TV X B Δ a k' := e ▸ h
theorem JV.is {y : D} (h : JV X B Δ a x) (e : x = y) : JV X B Δ a y := e ▸ h
/-! and, or: the second is asked only if need be -/
variable {rest : List Expr} {k2 : Bool}
theorem wv_and1 (ha : TV X B Δ a k) : WV X B Δ (.BoolOp .And [a] pos) k := fun P Ψ pk ow σ H Q W tk S q hx => ww_of (pw_and1 ptW) (ha P Ψ pk ow σ H Q W tk S q hx)
theorem wv_or1 (ha : TV X B Δ a k) : WV X B Δ (.BoolOp .Or [a] pos) k := fun P Ψ pk ow σ H Q W tk S q hx => ww_of (pw_or1 ptW) (ha P Ψ pk ow σ H Q W tk S q hx)
theorem wv_and (ha : TV X B Δ a k) (hb : k = true → WV X B Δ (.BoolOp .And (b :: rest) pos) k2) : WV X B Δ (.BoolOp .And (a :: b :: rest) pos) (k && k2) := fun P Ψ pk ow σ H Q W tk S q hx =>
  ww_of (pw_and ptW pwW) (ha (fun c => c = k) Ψ rfl ow σ H _ W tk S (fun c H1 e s => by
    subst e
    cases c with
    | true => exact hb rfl P Ψ pk ow σ H1 Q W tk (S.up s) (fun b H' p s' => q b H' p (s.trans s')) (hx.mono s)
    | false => exact q _ H1 pk s) hx)
theorem wv_or (ha : TV X B Δ a k) (hb : k = false → WV X B Δ (.BoolOp .Or (b :: rest) pos) k2) : WV X B Δ (.BoolOp .Or (a :: b :: rest) pos) (k || k2) := fun P Ψ pk ow σ H Q W tk S q hx =>
  ww_of (pw_or ptW pwW) (ha (fun c => c = k) Ψ rfl ow σ H _ W tk S (fun c H1 e s => by
    subst e
    cases c with
    | false => exact hb rfl P Ψ pk ow σ H1 Q W tk (S.up s) (fun b H' p s' => q b H' p (s.trans s')) (hx.mono s)
    | true => exact q _ H1 pk s) hx)
theorem tv_w (ha : WV X B Δ a k) : TV X B Δ a k := fun P Ψ pk ow σ H Q W tk S q hx => wt_of pwW.pt (ha P Ψ pk ow σ H Q W tk S q hx)
/-! .. as values -/
theorem jv_one {op} (ha : JV X B Δ a x) : JV X B Δ (.BoolOp op [a] pos) x := fun P Ψ pk ow σ H Q W tk S q hx => we_of (pe_one peW) (ha P Ψ pk ow σ H Q W tk S q hx)
theorem jv_and (ha : JV X B Δ a (.bl k)) (hb : k = true → JV X B Δ (.BoolOp .And (b :: rest) pos) (.bl k2)) : JV X B Δ (.BoolOp .And (a :: b :: rest) pos) (.bl (k && k2)) := fun P Ψ pk ow σ H Q W tk S q hx =>
  we_of (pe_and peW peW) (ha (fun c => c = .bl k) Ψ rfl ow σ H _ W tk S (fun c v H1 e s r => by
    subst e
    refine ⟨k, rep_bl r, ?_⟩
    cases k with
    | true => exact hb rfl P Ψ pk ow σ H1 Q W tk (S.up s) (fun b v H' p s' r' => q b v H' p (s.trans s') r') (hx.mono s)
    | false => exact q _ _ H1 pk s bl_rep) hx)
theorem jv_or (ha : JV X B Δ a (.bl k)) (hb : k = false → JV X B Δ (.BoolOp .Or (b :: rest) pos) (.bl k2)) : JV X B Δ (.BoolOp .Or (a :: b :: rest) pos) (.bl (k || k2)) := fun P Ψ pk ow σ H Q W tk S q hx =>
  we_of (pe_or peW peW) (ha (fun c => c = .bl k) Ψ rfl ow σ H _ W tk S (fun c v H1 e s r => by
    subst e
    refine ⟨k, rep_bl r, ?_⟩
    cases k with
    | false => exact hb rfl P Ψ pk ow σ H1 Q W tk (S.up s) (fun b v H' p s' r' => q b v H' p (s.trans s') r') (hx.mono s)
    | true => exact q _ _ H1 pk s bl_rep) hx)
theorem jv_not (ha : JV X B Δ a (.bl k)) : JV X B Δ (.UnaryOp .Not a pos) (.bl (!k)) := fun P Ψ pk ow σ H Q W tk S q hx =>
  we_of (pe_not peW) (ha (fun c => c = .bl k) Ψ rfl ow σ H _ W tk S (fun c v H1 e s r => by
    subst e
    exact ⟨k, rep_bl r, q _ _ H1 pk s bl_rep⟩) hx)
theorem jv_if {z : D} (hc : TV X B Δ c k) (ha : k = true → JV X B Δ a z) (hb : k = false → JV X B Δ b z) : JV X B Δ (.IfExp c a b pos) z := fun P Ψ pk ow σ H Q W tk S q hx =>
  we_of (pe_ifExp ptW peW peW) (hc (fun c => c = k) Ψ rfl ow σ H _ W tk S (fun c H1 e s => by
    subst e
    cases c with
    | true => exact ha rfl P Ψ pk ow σ H1 Q W tk (S.up s) (fun b v H' p s' r' => q b v H' p (s.trans s') r') (hx.mono s)
    | false => exact hb rfl P Ψ pk ow σ H1 Q W tk (S.up s) (fun b v H' p s' r' => q b v H' p (s.trans s') r') (hx.mono s)) hx)
/-- a < b < c -/
theorem tv_chain {op op' : CmpOp} {r r' : R2} {z : D} (ho : OpR X (compareOp op) r) (ho' : OpR X (compareOp op') r') (ha : JV X B Δ a x) (hb : JV X B Δ b y) (hc : k = true → JV X B Δ c z) (o : OpS X.K r x y (.bl k)) (o' : k = true → OpS X.K r' y z (.bl k2))
    (hp : PT X (.Compare a [op, op'] [b, c] pos) (fun σ H Q => tChain r r' (WEx X a) (WEx X b) (WEx X c) σ H fun x H' => ∃ k, x = .bl k ∧ Q k H')) : TV X B Δ (.Compare a [op, op'] [b, c] pos) (k && k2) := fun P Ψ pz ow σ H Q W tk S q hx => by
  refine wt_of hp ?_
  refine ha (fun d => d = x) (fun _ => False) rfl ow σ H _ W tk S (fun d u H1 e1 s1 r1 => ?_) (fun _ _ _ _ z => z.elim)
  subst e1
  refine hb (fun d => d = y) (fun _ => False) rfl ow σ H1 _ W tk (S.up s1) (fun d v H2 e2 s2 r2 => ?_) (fun _ _ _ _ z => z.elim)
  subst e2
  refine o _ H2 u v _ (S.up (s1.trans s2)).live (r1.up s2) r2 fun t H3 s3 r3 => ⟨k, rep_bl r3, ?_⟩
  cases k with
  | true =>
    refine iteT ?_
    refine hc rfl (fun d => d = z) (fun _ => False) rfl ow σ H3 _ W tk (S.up ((s1.trans s2).trans s3)) (fun d w H4 e4 s4 r4 => ?_) (fun _ _ _ _ z => z.elim)
    subst e4
    exact o' rfl _ H4 v w _ (S.up (((s1.trans s2).trans s3).trans s4)).live (r2.up (s3.trans s4)) r4 fun t H' s' r' => ⟨k2, rep_bl r', q k2 H' pz ((((s1.trans s2).trans s3).trans s4).trans s')⟩
  | false => exact iteF ⟨false, rfl, q false H3 pz ((s1.trans s2).trans s3)⟩
end
end
end Dy
namespace Dy
open PySem PySem.Spec PyProof.Rows L2
/-! ### ranges of any ends -/
theorem turn_long {P : Program} {w : World} {K : PySem.W.Frag} {tg : Expr} (I : Addr) (lo : Int) (n : Nat) : Turn P w K tg (Itr lo n) [I] I (fun i h => IsLongIter h I (lo + (i : Nat) * 1) ((n : Int) - (i : Nat)) 1) where
  mem := List.mem_singleton.mpr rfl
  obj := fun i h st b hb => by
    cases List.mem_singleton.mp hb
    refine ⟨_, st, fun v z => ?_⟩
    have z' : Data.fields _ = Data.cell v := z
    cases z'
  keep := fun i h h' st k => k I (List.mem_singleton.mpr rfl) _ st
  item := by
    intro X e1 e2 e3 hc i pins s σ H E V hf st hg
    subst e1 e2 e3
    have F := hf I (List.mem_singleton.mpr rfl)
    refine (Walks.longrange (prog := X.prog) (w := X.w) (V.ok.hd hc) I lo 1 n).item i s _ _ hg st fun v h' tk hv st' kk => ?_
    obtain ⟨t, rfl⟩ := hv
    have V1 : Inv X pins σ H { s with heap := h', toks := tk } := V.turned (fun b o hb e => kk b o (by simpa using hb) e) F.1 F.2.1 F.2.2.2.1 F.2.2.2.2.1 F.2.2.2.2.2
    refine ⟨_, rfl, go_of (s := { s with heap := h', toks := tk }) (n := "longrange_iterator") st' rfl rfl (by decide) ⟨.int (lo + i), H, V1, ⟨t, by rw [Int.mul_one]⟩, ⟨rfl, rfl⟩, st', fun b hb => ?_⟩⟩
    cases List.mem_singleton.mp hb
    exact F.1
  done := by
    intro X e1 e2 e3 hc i pins s σ H E V hf st hg
    subst e1 e2 e3
    have F := hf I (List.mem_singleton.mpr rfl)
    have hn : n ≤ i := hg
    exact wpAny_pyNext_long_end (V.ok.hd hc) st (by omega) fun h' eb => ⟨rfl, V.turned (t' := s.toks) (fun b o hb e => eb b o hb e) F.1 F.2.1 F.2.2.2.1 F.2.2.2.2.1 F.2.2.2.2.2⟩
  self := fun _ _ _ _ _ st h => wpAny_pyIter_longiter st h
section
variable {X : Cx} {tg : Expr}
theorem range_any {pins : List (Addr × Obj)} {σ : L2.St} {H : Hp} {s : Shared} {R : It → Hp → Prop} {E : Value → Shared → Prop} {lo hi : Int} {t u v : Tok} {tk : Nat} (V : Inv X pins σ H s) (q : R (Itr lo (hi - lo).toNat) H) :
    wpAny (model X.prog X.w) X.A (pyIter (.ref s.heap.objs.size)) (PIE X pins σ tg R) E { s with heap := s.heap.push { cls := .type "range", data := .fields #[.int lo t, .int hi u, .int 1 v] }, toks := tk } := by
  have V1 : Inv X pins σ H { s with heap := s.heap.push { cls := .type "range", data := .fields #[.int lo t, .int hi u, .int 1 v] }, toks := tk } := V.kept fun b o e => Heap.get?_push_of_some _ e
  have e1 : lo + ((0 : Nat) : Int) * 1 = lo := by simp
  have e2 : (((hi - lo).toNat : Nat) : Int) - ((0 : Nat) : Int) = Builtin.Range.rangeSize lo hi 1 := by rw [rangeSize_one]; split <;> omega
  cases hs : Builtin.Range.small lo hi 1 with
  | true =>
    refine wpAny_pyIter_range (IsRange.new ..) hs ?_
    refine ⟨_, [_], _, _, H, rfl, V1.kept (t' := tk) fun b o e => Heap.get?_push_of_some _ e, turn_range _ lo (hi - lo).toNat, ?_, fun b hb => ?_, q⟩
    · show IsRangeIter _ _ (lo + ((0 : Nat) : Int) * 1) ((((hi - lo).toNat : Nat) : Int) - ((0 : Nat) : Int)) 1
      rw [e1, e2]
      exact Heap.get?_push_size _ rfl
    · cases List.mem_singleton.mp hb
      exact V1.fpOk (Nat.le_refl _) (V1.hok.fresh (Nat.le_refl _))
  | false =>
    refine wpAny_pyIter_longrange (IsRange.new ..) hs ?_
    refine ⟨_, [_], _, _, H, rfl, V1.kept (t' := tk) fun b o e => Heap.get?_push_of_some _ e, turn_long _ lo (hi - lo).toNat, ?_, fun b hb => ?_, q⟩
    · show IsLongIter _ _ (lo + ((0 : Nat) : Int) * 1) ((((hi - lo).toNat : Nat) : Int) - ((0 : Nat) : Int)) 1
      rw [e1, e2]
      exact Heap.get?_push_size _ rfl
    · cases List.mem_singleton.mp hb
      exact V1.fpOk (Nat.le_refl _) (V1.hok.fresh (Nat.le_refl _))
def iRa1 (ta : TA) : TI := fun σ H R => ta σ H fun vs H1 => ∃ j : Int, vs = [.int j] ∧ R (Itr 0 j.toNat) H1
def iRa2 (ta : TA) : TI := fun σ H R => ta σ H fun vs H1 => ∃ i j : Int, vs = [.int i, .int j] ∧ R (Itr i (j - i).toNat) H1
theorem pi_ra1 {a : Expr} {ta : TA} {p pos : Pos} (hg : Gl X "range") (hm : X.mg "range" = none) (ha : PA X [a] ta) (hs : starEach [a] X.env = [(false, eval a X.env)] := by rfl) : PI X tg (.Call (.Name "range" p) [a] [] pos) (iRa1 ta) := by
  refine ⟨fun pins s σ H R V h => ?_⟩
  refine Call_ (ld_blt V hg hm boot_range (PyProof.Rows.callWith_type1 (thn (ha.run pos pins s σ H _ V h) fun us s1 ⟨vs, H1, V1, r1, z1⟩ => ?_) hs rfl))
  obtain ⟨j, rfl, q⟩ := z1
  obtain ⟨u, rfl, ru⟩ := vals1 r1
  obtain ⟨t, rfl⟩ := ru
  exact call_range_1 (range_any V1 (by simpa using q))
theorem pi_ra2 {a b : Expr} {ta : TA} {p pos : Pos} (hg : Gl X "range") (hm : X.mg "range" = none) (ha : PA X [a, b] ta) (hs : starEach [a, b] X.env = [(false, eval a X.env), (false, eval b X.env)] := by rfl) (hs2 : starEach [b] X.env = [(false, eval b X.env)] := by rfl) :
    PI X tg (.Call (.Name "range" p) [a, b] [] pos) (iRa2 ta) := by
  refine ⟨fun pins s σ H R V h => ?_⟩
  refine Call_ (ld_blt V hg hm boot_range (PyProof.Rows.callWith_type1 (thn (ha.run pos pins s σ H _ V h) fun us s1 ⟨vs, H1, V1, r1, z1⟩ => ?_) (by rw [hs, hs2]) (by rw [hs2]; rfl)))
  obtain ⟨i, j, rfl, q⟩ := z1
  obtain ⟨u, u', rfl, ru, ru'⟩ := vals2 r1
  obtain ⟨t, rfl⟩ := ru
  obtain ⟨t', rfl⟩ := ru'
  exact call_range_2 (range_any V1 q)
end
end Dy
namespace Dy
open PySem PySem.Spec PyProof.Rows L2
theorem same_new {H : Hp} {p : Addr} {o : HO} (h : H p = none) : Same H (upd H p o) := fun a u e => by
  rw [upd_ne (ne_of_none e h)]
  exact e
theorem le_line {n : Nat} (h : n ≤ 100000) : n ≤ sizeLine := by rw [sizeLine_eq]; omega
theorem lt_line {n : Nat} (h : n < 100000) : n < sizeLine := by rw [sizeLine_eq]; omega
section
variable {X : Cx} {B : Bas} {Δ : List Sl} {e a b : Expr} {pos : Pos} {ds : List D} {d x y z : D}

/-- uses a pure value -/
theorem JV.use (h : JV X B Δ e d) {ow : Nat → Option Addr} {σ : L2.St} {H : Hp} {Q : VK} {W : WX} (tk : Takes X W) (S : StO X.K B Δ ow σ H) (q : ∀ v H', Same H H' → Rep X.K (InO B ow) H' d v → Q v H') : WEx X e σ H Q :=
  h (fun c => c = d) (fun _ => False) rfl ow σ H Q W tk S (fun c v H' ec s r => q v H' s (ec ▸ r)) (fun _ _ _ _ z => z.elim)
theorem AV.use {es : List Expr} (h : AV X B Δ es ds) {ow : Nat → Option Addr} {σ : L2.St} {H : Hp} {Q : List V → Hp → Prop} {W : WX} (tk : Takes X W) (S : StO X.K B Δ ow σ H) (q : ∀ v H', Same H H' → Reps X.K (InO B ow) H' ds v → Q v H') : WAx X es σ H Q :=
  h (fun c => c = ds) (fun _ => False) rfl ow σ H Q W tk S (fun c v H' ec s r => q v H' s (ec ▸ r)) (fun _ _ _ _ z => z.elim)
theorem TV.use {k : Bool} (h : TV X B Δ e k) {ow : Nat → Option Addr} {σ : L2.St} {H : Hp} {Q : Bool → Hp → Prop} {W : WX} (tk : Takes X W) (S : StO X.K B Δ ow σ H) (q : ∀ H', Same H H' → Q k H') : WTx X e σ H Q :=
  h (fun c => c = k) (fun _ => False) rfl ow σ H Q W tk S (fun c H' ec s => ec ▸ q H' s) (fun _ _ _ _ z => z.elim)
/-- proves a pure value, whatever W is -/
theorem jv_mk (h : ∀ ow σ H Q (W : WX), Takes X W → StO X.K B Δ ow σ H → (∀ v H', Same H H' → Rep X.K (InO B ow) H' d v → Q v H') → WEx X e σ H Q) : JV X B Δ e d := fun P Ψ pd ow σ H Q W tk S q _ =>
  h ow σ H Q W tk S fun v H' s r => q d v H' pd s r
theorem tv_mk {k : Bool} (h : ∀ ow σ H Q (W : WX), Takes X W → StO X.K B Δ ow σ H → (∀ H', Same H H' → Q k H') → WTx X e σ H Q) : TV X B Δ e k := fun P Ψ pd ow σ H Q W tk S q _ =>
  h ow σ H Q W tk S fun H' s => q k H' pd s
/-- a value with a raise in it, by a value rule -/
theorem av_nil : AV X B Δ [] [] := fun P Ψ pd ow σ H Q W tk S q _ => wa_of pa_nil (q [] [] H pd (Same.refl H) Reps.nil)
theorem av_cons {es : List Expr} (he : JV X B Δ e d) (hr : AV X B Δ es ds) (hs : starEach (e :: es) X.env = (false, eval e X.env) :: starEach es X.env := by rfl) : AV X B Δ (e :: es) (d :: ds) := fun P Ψ pd ow σ H Q W tk S q _ =>
  wa_of (pa_cons peW paW hs) (he.use tk S fun v H1 s1 r1 => hr.use tk (S.up s1) fun vs H2 s2 r2 => q _ _ H2 pd (s1.trans s2) (Reps.cons (r1.up s2) r2))
theorem fresh_not {ow : Nat → Option Addr} {σ : L2.St} {H H1 : Hp} {p : Addr} {K : PySem.W.Frag} (S : StO K B Δ ow σ H) (s : Same H H1) (hp : H1 p = none) : ¬ InO B ow p := InO.fresh (a := p) S s hp

/-! ### lists, tuples -/
mutual
theorem Rep.swap {K : PySem.W.Frag} {O O' : Addr → Prop} {H : Hp} (ho : ∀ a o, ¬ O a → H a = some o → ¬ O' a) : ∀ (d : D) (v : V), Rep K O H d v → Rep K O' H d v
  | .non, _, h => by unfold Rep at h ⊢; exact h
  | .bl _, _, h => by unfold Rep at h ⊢; exact h
  | .int _, _, h => by unfold Rep at h ⊢; exact h
  | .str _, _, h => by unfold Rep at h ⊢; exact h
  | .tup xs, _, h => by
    unfold Rep at h ⊢
    obtain ⟨a, vs, e, r, q⟩ := h
    refine ⟨a, vs, e, ?_, Reps.swap ho xs vs q⟩
    rcases r with ⟨n, (r | ⟨o, r⟩) | r⟩ | r
    · exact .inl ⟨ho a _ n r, .inl (.inl r)⟩
    · exact .inl ⟨ho a _ n r, .inl (.inr ⟨o, r⟩)⟩
    · exact .inr fun H' => .inr r
    · exact .inr r
  | .lst xs, _, h => by
    unfold Rep at h ⊢
    obtain ⟨a, vs, e, n, r, q⟩ := h
    exact ⟨a, vs, e, ho a _ n r, r, Reps.swap ho xs vs q⟩
  | .scr ns, _, h => by
    unfold Rep at h ⊢
    obtain ⟨a, e, r⟩ := h
    refine ⟨a, e, ?_⟩
    rcases r with ⟨n, (r | ⟨o, r⟩) | r⟩ | r
    · exact .inl ⟨ho a _ n r, .inl (.inl r)⟩
    · exact .inl ⟨ho a _ n r, .inl (.inr ⟨o, r⟩)⟩
    · exact .inr fun H' => .inr r
    · exact .inr r
  | .obj C ns xs, _, h => by
    unfold Rep at h ⊢
    obtain ⟨a, dx, vs, e, n, r, l, q⟩ := h
    exact ⟨a, dx, vs, e, ho a _ n r, r, l, Reps.swap ho xs vs q⟩
theorem Reps.swap {K : PySem.W.Frag} {O O' : Addr → Prop} {H : Hp} (ho : ∀ a o, ¬ O a → H a = some o → ¬ O' a) : ∀ (ds : List D) (vs : List V), Reps K O H ds vs → Reps K O' H ds vs
  | [], _, h => by unfold Reps at h ⊢; exact h
  | d :: ds, _, h => by
    unfold Reps at h ⊢
    obtain ⟨v, ws, e, r, q⟩ := h
    exact ⟨v, ws, e, Rep.swap ho d v r, Reps.swap ho ds ws q⟩
end
theorem Rep.add {K : PySem.W.Frag} {O : Addr → Prop} {H : Hp} {p : Addr} {v : V} (hp : H p = none) (r : Rep K O H d v) : Rep K (fun a => O a ∨ a = p) H d v :=
  Rep.swap (fun a o n e z => z.elim n fun q => by rw [q, hp] at e; cases e) d v r
theorem Reps.add {K : PySem.W.Frag} {O : Addr → Prop} {H : Hp} {p : Addr} {v : List V} (hp : H p = none) (r : Reps K O H ds v) : Reps K (fun a => O a ∨ a = p) H ds v :=
  Reps.swap (fun a o n e z => z.elim n fun q => by rw [q, hp] at e; cases e) ds v r
theorem new_tup {K : PySem.W.Frag} {O : Addr → Prop} {H : Hp} {p : Addr} {vs : List V} (n : ¬ O p) (hp : H p = none) (r : Reps K O H ds vs) : Rep K O (upd H p (.tup vs)) (.tup ds) (.ref p) :=
  tup_rep (.inl ⟨n, SqT.of upd_same⟩) (r.up (same_new hp))
theorem new_lst {K : PySem.W.Frag} {O : Addr → Prop} {H : Hp} {p : Addr} {vs : List V} (n : ¬ O p) (hp : H p = none) (r : Reps K O H ds vs) : Rep K O (upd H p (.lst vs)) (.lst ds) (.ref p) :=
  lst_rep n upd_same (r.up (same_new hp))
theorem jv_tup {es : List Expr} {k : Nat} (h : AV X B Δ es ds) (hl : ds.length ≤ 100000 := by exact Nat.le_of_ble_eq_true rfl) : JV X B Δ (.Tuple es k pos) (.tup ds) := jv_mk fun ow σ H Q W tk S q =>
  we_of (pe_tup paW) (h.use tk S fun vs H1 s1 r1 => ⟨by rw [← r1.len]; exact le_line hl, fun p hp => q _ _ (s1.trans (same_new hp)) (new_tup (fresh_not S s1 hp) hp r1)⟩)
/-- a list that is new -/
def FL (X : Cx) (B : Bas) (Δ : List Sl) (e : Expr) (ds : List D) : Prop :=
  ∀ (ow : Nat → Option Addr) (σ : L2.St) (H : Hp) (Q : VK) (W : WX), Takes X W → StO X.K B Δ ow σ H → (∀ p vs H', H p = none → Same H H' → H' p = some (.lst vs) → Reps X.K (fun a => InO B ow a ∨ a = p) H' ds vs → Q (.ref p) H') → WEx X e σ H Q
/-- a list that stands -/
def LV (X : Cx) (B : Bas) (Δ : List Sl) (e : Expr) (ds : List D) : Prop :=
  ∀ (ow : Nat → Option Addr) (σ : L2.St) (H : Hp) (Q : VK) (W : WX), Takes X W → StO X.K B Δ ow σ H → (∀ p vs H', Same H H' → H' p = some (.lst vs) → Reps X.K (InO B ow) H' ds vs → Q (.ref p) H') → WEx X e σ H Q
/-- a list to read -/
def RV (X : Cx) (B : Bas) (Δ : List Sl) (e : Expr) (ds : List D) : Prop :=
  ∀ (ow : Nat → Option Addr) (σ : L2.St) (H : Hp) (Q : VK) (W : WX), Takes X W → StO X.K B Δ ow σ H → (∀ p vs H', Same H H' → SqL X.K H' p vs → Reps X.K (InO B ow) H' ds vs → Q (.ref p) H') → WEx X e σ H Q
/-- a list or tuple to read -/
def QV (X : Cx) (B : Bas) (Δ : List Sl) (e : Expr) (ds : List D) : Prop :=
  ∀ (ow : Nat → Option Addr) (σ : L2.St) (H : Hp) (Q : VK) (W : WX), Takes X W → StO X.K B Δ ow σ H → (∀ p vs H', Same H H' → (SqL X.K H' p vs ∨ SqT X.K H' p vs) → Reps X.K (InO B ow) H' ds vs → Q (.ref p) H') → WEx X e σ H Q
theorem free_back {H H' : Hp} {p : Addr} (s : Same H H') (h : H' p = none) : H p = none := s.free h
theorem fl_lst {es : List Expr} (h : AV X B Δ es ds) (hl : ds.length ≤ 100000 := by exact Nat.le_of_ble_eq_true rfl) : FL X B Δ (.List es pos) ds := fun ow σ H Q W tk S q =>
  we_of (pe_lst paW) (h.use tk S fun vs H1 s1 r1 => ⟨by rw [← r1.len]; exact le_line hl, fun p hp => q p vs _ (free_back s1 hp) (s1.trans (same_new hp)) upd_same ((r1.add hp).up (same_new hp))⟩)
theorem FL.jv (h : FL X B Δ e ds) : JV X B Δ e (.lst ds) := jv_mk fun ow σ H Q W tk S q =>
  h ow σ H Q W tk S fun p vs H' hp s hL r => q _ _ s (lst_rep (fresh_not S (Same.refl H) hp) hL (r.less fun _ z => .inl z))
theorem FL.lv (h : FL X B Δ e ds) : LV X B Δ e ds := fun ow σ H Q W tk S q => h ow σ H Q W tk S fun p vs H' hp s hL r => q p vs H' s hL (r.less fun _ z => .inl z)
theorem JV.lv (h : JV X B Δ e (.lst ds)) : LV X B Δ e ds := fun ow σ H Q W tk S q => h.use tk S fun v H' s r => by
  obtain ⟨p, vs, rfl, n, hL, r'⟩ := rep_lst r
  exact q p vs H' s hL r'
theorem LV.rv (h : LV X B Δ e ds) : RV X B Δ e ds := fun ow σ H Q W tk S q => h ow σ H Q W tk S fun p vs H' s hL r => q p vs H' s (SqL.of hL) r
theorem JV.sv {ns : List Int} (h : JV X B Δ e (.scr ns)) : RV X B Δ e (ns.map D.int) := fun ow σ H Q W tk S q => h.use tk S fun v H' s r => by
  obtain ⟨p, rfl, hL⟩ := rep_scr r
  exact q p _ H' s hL.sq reps_of_ints
theorem RV.is {es : List D} (h : RV X B Δ e ds) (q : ds = es) : RV X B Δ e es := q ▸ h
theorem lv_own (i : Nat) {x : Str} (h : Δ[i]? = some (.own ds) := by rfl) (hN : X.N[i]? = some x := by rfl) (hv : Vis X.env.scope x := by first | exact Or.inl rfl | exact Or.inr (Or.inl rfl) | exact Or.inr (Or.inr rfl))
    (hd : (x == ("__debug__" : Str)) = false := by decide) (hcd : (x == ("__classdict__" : Str)) = false := by decide) : LV X B Δ (.Name x pos) ds := fun ow σ H Q W tk S q =>
  we_of (pe_var hN hv hd hcd) (by
    obtain ⟨p, vs, e1, _, e3, r⟩ := S.sl i _ h
    exact ⟨_, e1, q p vs H (Same.refl H) e3 r⟩)
theorem RV.qv (h : RV X B Δ e ds) : QV X B Δ e ds := fun ow σ H Q W tk S q => h ow σ H Q W tk S fun p vs H' s hL r => q p vs H' s (.inl hL) r
theorem JV.qv (h : JV X B Δ e (.tup ds)) : QV X B Δ e ds := fun ow σ H Q W tk S q => h.use tk S fun v H' s r => by
  obtain ⟨p, vs, rfl, hL, r'⟩ := rep_tup r
  exact q p vs H' s (.inr hL.sq) r'
theorem QV.is {es : List D} (h : QV X B Δ e ds) (q : ds = es) : QV X B Δ e es := q ▸ h
theorem LV.is {es : List D} (h : LV X B Δ e ds) (q : ds = es) : LV X B Δ e es := q ▸ h
theorem FL.is {es : List D} (h : FL X B Δ e ds) (q : ds = es) : FL X B Δ e es := q ▸ h

/-! subscripts -/
theorem atI_rep {K : PySem.W.Frag} {O : Addr → Prop} {H : Hp} {vs : List V} {i : Int} (r : Reps K O H ds vs) (h : atI ds i = some d) : ∃ v, atI vs i = some v ∧ Rep K O H d v := by
  unfold atI at h ⊢
  rw [← r.len]
  cases hj : ixN ds.length i with
  | none => rw [hj] at h; cases h
  | some j =>
    rw [hj] at h
    exact r.get h
theorem jv_ixL {i : Int} (ha : RV X B Δ a ds) (hb : JV X B Δ b (.int i)) (h : atI ds i = some d) (hs : PlainIx b := by exact fun _ _ => rfl) : JV X B Δ (.Subscript a b pos) d := jv_mk fun ow σ H Q W tk S q =>
  we_of (pe_ix ix_list peW peW hs) (ha ow σ H _ W tk S fun p vs H1 s1 hL r1 => hb.use tk (S.up s1) fun v H2 s2 r2 => by
    obtain ⟨w, e, rw'⟩ := atI_rep (r1.up s2) h
    exact ⟨p, vs, i, w, rfl, rep_int r2, sqL_same (fun o e => s2 _ o e) hL, e, q _ _ (s1.trans s2) rw'⟩)
theorem jv_ixT {i : Int} (ha : JV X B Δ a (.tup ds)) (hb : JV X B Δ b (.int i)) (h : atI ds i = some d) (hs : PlainIx b := by exact fun _ _ => rfl) : JV X B Δ (.Subscript a b pos) d := jv_mk fun ow σ H Q W tk S q =>
  we_of (pe_ix ix_tup peW peW hs) (ha.use tk S fun u H1 s1 r1 => hb.use tk (S.up s1) fun v H2 s2 r2 => by
    obtain ⟨p, vs, rfl, hL, r1'⟩ := rep_tup r1
    obtain ⟨w, e, rw'⟩ := atI_rep (r1'.up s2) h
    exact ⟨p, vs, i, w, rfl, rep_int r2, sqT_same (fun o e => s2 _ o e) hL.sq, e, q _ _ (s1.trans s2) rw'⟩)
/-! slices -/
def cutD {α : Type} (xs : List α) (lo hi : Option Int) : List α := (xs.drop (HT.sIx xs.length 0 lo)).take (HT.sIx xs.length xs.length hi - HT.sIx xs.length 0 lo)
theorem cut_rep {K : PySem.W.Frag} {O : Addr → Prop} {H : Hp} {vs : List V} {lo hi : Option Int} (r : Reps K O H ds vs) : Reps K O H (cutD ds lo hi) (cutV vs lo hi) := by
  unfold cutD cutV
  rw [← r.len]
  exact Reps.take _ (Reps.drop _ r)
/-- an optional bound -/
def OV (X : Cx) (B : Bas) (Δ : List Sl) (e : Option Expr) (i : Option Int) : Prop := ∃ t : TO, PO X e t ∧ ∀ (ow : Nat → Option Addr) (σ : L2.St) (H : Hp) (Q : Option Int → Hp → Prop) (W : WX), Takes X W → StO X.K B Δ ow σ H → (∀ H', Same H H' → Q i H') → t σ H Q
theorem ov_none : OV X B Δ none none := ⟨_, po_none, fun _ _ H _ _ _ _ q => q H (Same.refl H)⟩
theorem ov_some {i : Int} (h : JV X B Δ e (.int i)) : OV X B Δ (some e) (some i) := ⟨_, po_some peW, fun _ _ H _ _ tk S q => h.use tk S fun v H' s r => ⟨i, rep_int r, q H' s⟩⟩
theorem fl_sl {lo hi : Option Expr} {l u : Option Int} {p2 : Pos} (ha : RV X B Δ a ds) (hl : OV X B Δ lo l) (hu : OV X B Δ hi u) : FL X B Δ (.Subscript a (.Slice lo hi none p2) pos) (cutD ds l u) := fun ow σ H Q W tk S q => by
  obtain ⟨tl, pl, ql⟩ := hl
  obtain ⟨tu, pu, qu⟩ := hu
  refine we_of (pe_slice sl_list peW pl pu) (ha ow σ H _ W tk S fun p vs H1 s1 hL r1 => ql ow σ H1 _ W tk (S.up s1) fun H2 s2 => qu ow σ H2 _ W tk (S.up (s1.trans s2)) fun H3 s3 => ?_)
  refine ⟨p, vs, rfl, sqL_same (fun o e => (s2.trans s3) _ o e) hL, fun p hp => ?_⟩
  exact q p _ _ (free_back ((s1.trans s2).trans s3) hp) (((s1.trans s2).trans s3).trans (same_new hp)) upd_same ((cut_rep ((r1.up (s2.trans s3)).add hp)).up (same_new hp))
theorem jv_slT {lo hi : Option Expr} {l u : Option Int} {p2 : Pos} (ha : JV X B Δ a (.tup ds)) (hl : OV X B Δ lo l) (hu : OV X B Δ hi u) (hw : ¬ (HT.sIx ds.length 0 l = 0 ∧ HT.sIx ds.length ds.length u = ds.length)) :
    JV X B Δ (.Subscript a (.Slice lo hi none p2) pos) (.tup (cutD ds l u)) := jv_mk fun ow σ H Q W tk S q => by
  obtain ⟨tl, pl, ql⟩ := hl
  obtain ⟨tu, pu, qu⟩ := hu
  refine we_of (pe_slice sl_tup peW pl pu) (ha.use tk S fun v H1 s1 r1 => ql ow σ H1 _ W tk (S.up s1) fun H2 s2 => qu ow σ H2 _ W tk (S.up (s1.trans s2)) fun H3 s3 => ?_)
  obtain ⟨p, vs, rfl, hL, r1'⟩ := rep_tup r1
  refine ⟨p, vs, rfl, sqT_same (fun o e => (s2.trans s3) _ o e) hL.sq, by rw [← r1'.len]; exact hw, fun p hp => ?_⟩
  exact q _ _ (((s1.trans s2).trans s3).trans (same_new hp)) (new_tup (fresh_not S ((s1.trans s2).trans s3) hp) hp (cut_rep (r1'.up (s2.trans s3))))
/-! the builtins, by values -/
def CallS (K : PySem.W.Frag) (r : List V → Hp → VK → Prop) (ds : List D) (z : D) : Prop :=
  ∀ (O : Addr → Prop) (H : Hp) (vs : List V) (Q : VK), (∀ a, O a → ∃ o, H a = some o) → Reps K O H ds vs → (∀ t H', Same H H' → Rep K O H' z t → Q t H') → r vs H Q
theorem jv_cb {r : List V → Hp → VK → Prop} {id : String} {x : Str} {p : Pos} {es : List Expr} (hc : CallR X (.builtin id) r) (ha : AV X B Δ (e :: es) ds) (hs : CallS X.K r ds z) (hm : X.mg x = none) (hv : bootBuiltins x = some (.builtin id)) (hg : Gl X x := by rfl)
    (hn : x ≠ "__name__" := by decide) (hdb : (x == ("__debug__" : Str)) = false := by decide)
    (he : starEach (e :: es) X.env = (false, eval e X.env) :: starEach es X.env := by rfl) (hpl : (backTo pos (starEach es X.env)).any (·.1) = false := by rfl) : JV X B Δ (.Call (.Name x p) (e :: es) [] pos) z := jv_mk fun ow σ H Q W tk S q =>
  we_of (pe_callB hc hg hm hv paW hn hdb he hpl) (ha.use tk S fun vs H1 s1 r1 => hs _ H1 vs Q (S.up s1).live r1 fun t H' s' r' => q t H' (s1.trans s') r')
theorem jv_ct {r : List V → Hp → VK → Prop} {T : String} {x : Str} {p : Pos} {es : List Expr} (hc : CallR X (.type T) r) (ha : AV X B Δ (e :: es) ds) (hs : CallS X.K r ds z) (hm : X.mg x = none) (hv : bootBuiltins x = some (.type T)) (hg : Gl X x := by rfl)
    (hn : x ≠ "__name__" := by decide) (hdb : (x == ("__debug__" : Str)) = false := by decide)
    (he : starEach (e :: es) X.env = (false, eval e X.env) :: starEach es X.env := by rfl) (hpl : (backTo pos (starEach es X.env)).any (·.1) = false := by rfl) : JV X B Δ (.Call (.Name x p) (e :: es) [] pos) z := jv_mk fun ow σ H Q W tk S q =>
  we_of (pe_callTy hc hg hm hv paW hn hdb he hpl) (ha.use tk S fun vs H1 s1 r1 => hs _ H1 vs Q (S.up s1).live r1 fun t H' s' r' => q t H' (s1.trans s') r')
theorem reps1 {K : PySem.W.Frag} {O : Addr → Prop} {H : Hp} {vs : List V} (h : Reps K O H [x] vs) : ∃ v, vs = [v] ∧ Rep K O H x v := by
  obtain ⟨v, ws, rfl, r, h'⟩ := Reps.cons_inv h
  rw [Reps.nil_inv h']
  exact ⟨v, rfl, r⟩
theorem reps2 {K : PySem.W.Frag} {O : Addr → Prop} {H : Hp} {vs : List V} (h : Reps K O H [x, y] vs) : ∃ v w, vs = [v, w] ∧ Rep K O H x v ∧ Rep K O H y w := by
  obtain ⟨v, ws, rfl, r, h'⟩ := Reps.cons_inv h
  obtain ⟨w, rfl, r2⟩ := reps1 h'
  exact ⟨v, w, rfl, r, r2⟩
variable {i j : Int} {p : Pos}
theorem jv_callInt (h : JV X B Δ e (.int i)) (hm : X.mg "int" = none) (hg : Gl X "int" := by rfl) (he : starEach [e] X.env = [(false, eval e X.env)] := by rfl) : JV X B Δ (.Call (.Name "int" p) [e] [] pos) (.int i) :=
  jv_ct call_int1 (av_cons h av_nil he) (fun O H vs Q _ r q => by
    obtain ⟨v, rfl, rv⟩ := reps1 r
    rw [rep_int rv]
    exact .inl ⟨i, rfl, q _ H (Same.refl H) int_rep⟩) hm (by decide +kernel) hg (by decide) (by decide) he
theorem jv_callIntB {k : Bool} (h : JV X B Δ e (.bl k)) (hm : X.mg "int" = none) (hg : Gl X "int" := by rfl) (he : starEach [e] X.env = [(false, eval e X.env)] := by rfl) : JV X B Δ (.Call (.Name "int" p) [e] [] pos) (.int (if k then 1 else 0)) :=
  jv_ct call_int1 (av_cons h av_nil he) (fun O H vs Q _ r q => by
    obtain ⟨v, rfl, rv⟩ := reps1 r
    rw [rep_bl rv]
    exact .inr ⟨k, rfl, q _ H (Same.refl H) int_rep⟩) hm (by decide +kernel) hg (by decide) (by decide) he
theorem jv_abs (h : JV X B Δ e (.int i)) (hm : X.mg "abs" = none) (hg : Gl X "abs" := by rfl) (he : starEach [e] X.env = [(false, eval e X.env)] := by rfl) : JV X B Δ (.Call (.Name "abs" p) [e] [] pos) (.int (if i < 0 then -i else i)) :=
  jv_cb call_abs (av_cons h av_nil he) (fun O H vs Q _ r q => by
    obtain ⟨v, rfl, rv⟩ := reps1 r
    rw [rep_int rv]
    exact ⟨i, rfl, q _ H (Same.refl H) int_rep⟩) hm (by decide +kernel) hg (by decide) (by decide) he
theorem jv_max2 (hc : X.calm = true) (ha : JV X B Δ a (.int i)) (hb : JV X B Δ b (.int j)) (hm : X.mg "max" = none) (hg : Gl X "max" := by rfl) (he : starEach [a, b] X.env = [(false, eval a X.env), (false, eval b X.env)] := by rfl) (he2 : starEach [b] X.env = [(false, eval b X.env)] := by rfl) (hpl : (backTo pos (starEach [b] X.env)).any (·.1) = false := by rfl) :
    JV X B Δ (.Call (.Name "max" p) [a, b] [] pos) (.int (if j > i then j else i)) :=
  jv_cb (call_max2 hc) (av_cons ha (av_cons hb av_nil he2) (by rw [he, he2])) (fun O H vs Q _ r q => by
    obtain ⟨v, w, rfl, rv, rw'⟩ := reps2 r
    rw [rep_int rv, rep_int rw']
    exact ⟨i, j, rfl, q _ H (Same.refl H) int_rep⟩) hm (by decide +kernel) hg (by decide) (by decide) (by rw [he, he2]) hpl
theorem jv_min2 (hc : X.calm = true) (ha : JV X B Δ a (.int i)) (hb : JV X B Δ b (.int j)) (hm : X.mg "min" = none) (hg : Gl X "min" := by rfl) (he : starEach [a, b] X.env = [(false, eval a X.env), (false, eval b X.env)] := by rfl) (he2 : starEach [b] X.env = [(false, eval b X.env)] := by rfl) (hpl : (backTo pos (starEach [b] X.env)).any (·.1) = false := by rfl) :
    JV X B Δ (.Call (.Name "min" p) [a, b] [] pos) (.int (if j < i then j else i)) :=
  jv_cb (call_min2 hc) (av_cons ha (av_cons hb av_nil he2) (by rw [he, he2])) (fun O H vs Q _ r q => by
    obtain ⟨v, w, rfl, rv, rw'⟩ := reps2 r
    rw [rep_int rv, rep_int rw']
    exact ⟨i, j, rfl, q _ H (Same.refl H) int_rep⟩) hm (by decide +kernel) hg (by decide) (by decide) (by rw [he, he2]) hpl
theorem jv_divmod (ha : JV X B Δ a (.int i)) (hb : JV X B Δ b (.int j)) (hd : CDiv i j) (hm : X.mg "divmod" = none) (hg : Gl X "divmod" := by rfl) (he : starEach [a, b] X.env = [(false, eval a X.env), (false, eval b X.env)] := by rfl) (he2 : starEach [b] X.env = [(false, eval b X.env)] := by rfl) (hpl : (backTo pos (starEach [b] X.env)).any (·.1) = false := by rfl) :
    JV X B Δ (.Call (.Name "divmod" p) [a, b] [] pos) (.tup [.int (i / j), .int (i % j)]) := jv_mk fun ow σ H Q W tk S q =>
  we_of (pe_callB call_divmod hg hm (by decide +kernel) paW (by decide) (by decide) (by rw [he, he2]) hpl) ((av_cons ha (av_cons hb av_nil he2) (by rw [he, he2])).use tk S fun vs H1 s1 r => by
    obtain ⟨v, w, rfl, rv, rw'⟩ := reps2 r
    rw [rep_int rv, rep_int rw']
    exact ⟨i, j, rfl, hd, fun p hp => q _ _ (s1.trans (same_new hp)) (new_tup (fresh_not S s1 hp) hp (Reps.cons int_rep (Reps.cons int_rep Reps.nil)))⟩)
/-- len of a list, a tuple -/
theorem jv_len (h : QV X B Δ e ds) (hm : X.mg "len" = none) (hg : Gl X "len" := by rfl) (he : starEach [e] X.env = [(false, eval e X.env)] := by rfl) : JV X B Δ (.Call (.Name "len" p) [e] [] pos) (.int (ds.length : Int)) := jv_mk fun ow σ H Q W tk S q =>
  we_of (pe_callB call_len_seq hg hm boot_len (pa_cons peW pa_nil he) (by decide) (by decide) he rfl) (h ow σ H _ W tk S fun p vs H1 s1 hL r1 => ⟨p, vs, rfl, hL, q _ _ s1 (r1.len ▸ int_rep)⟩)
theorem jv_tupL (h : RV X B Δ e ds) (hm : X.mg "tuple" = none) (hg : Gl X "tuple" := by rfl) (he : starEach [e] X.env = [(false, eval e X.env)] := by rfl) : JV X B Δ (.Call (.Name "tuple" p) [e] [] pos) (.tup ds) := jv_mk fun ow σ H Q W tk S q =>
  we_of (pe_callTy call_tuple_of hg hm (by decide +kernel) (pa_cons peW pa_nil he) (by decide) (by decide) he rfl) (h ow σ H _ W tk S fun p vs H1 s1 hL r1 =>
    ⟨p, vs, rfl, .inl ⟨hL, fun l hl => q _ _ (s1.trans (same_new hl)) (new_tup (fresh_not S s1 hl) hl r1)⟩⟩)
theorem jv_tupT (h : JV X B Δ e (.tup ds)) (hm : X.mg "tuple" = none) (hg : Gl X "tuple" := by rfl) (he : starEach [e] X.env = [(false, eval e X.env)] := by rfl) : JV X B Δ (.Call (.Name "tuple" p) [e] [] pos) (.tup ds) := jv_mk fun ow σ H Q W tk S q =>
  we_of (pe_callTy call_tuple_of hg hm (by decide +kernel) (pa_cons peW pa_nil he) (by decide) (by decide) he rfl) (h.use tk S fun v H1 s1 r1 => by
    obtain ⟨p, vs, rfl, hL, r'⟩ := rep_tup r1
    exact ⟨p, vs, rfl, .inr ⟨hL.sq, q _ _ s1 r1⟩⟩)
theorem fl_list (h : QV X B Δ e ds) (hm : X.mg "list" = none) (hg : Gl X "list" := by rfl) (he : starEach [e] X.env = [(false, eval e X.env)] := by rfl) : FL X B Δ (.Call (.Name "list" p) [e] [] pos) ds := fun ow σ H Q W tk S q =>
  we_of (pe_callTy call_list_of hg hm (by decide +kernel) (pa_cons peW pa_nil he) (by decide) (by decide) he rfl) (h ow σ H _ W tk S fun p vs H1 s1 hL r1 =>
    ⟨p, vs, rfl, hL, fun l hl => q l vs _ (free_back s1 hl) (s1.trans (same_new hl)) upd_same ((r1.add hl).up (same_new hl))⟩)
/-- xs + ys -/
theorem fl_cat {es : List D} (ha : LV X B Δ a ds) (hb : LV X B Δ b es) (hl : ds.length + es.length ≤ 100000) : FL X B Δ (.BinOp a .Add b pos) (ds ++ es) := fun ow σ H Q W tk S q =>
  we_of (pe_op op_cat peW peW) (ha ow σ H _ W tk S fun p vs H1 s1 hL r1 => hb ow σ H1 _ W tk (S.up s1) fun p2 ws H2 s2 hL2 r2 =>
    ⟨p, p2, vs, ws, rfl, rfl, s2 _ _ hL, hL2, by rw [← r1.len, ← r2.len]; exact le_line hl, fun l hl => q l _ _ (free_back (s1.trans s2) hl) ((s1.trans s2).trans (same_new hl)) upd_same (((Reps.app (r1.up s2) r2).add hl).up (same_new hl))⟩)
/-- xs == [] -/
def isN : D → Bool
  | .non => true
  | _ => false
theorem isN_iff {K : PySem.W.Frag} {O : Addr → Prop} {H : Hp} {v : V} (r : Rep K O H d v) : decide (v = .non) = isN d := by
  cases d with
  | non => rw [rep_non r]; rfl
  | bl b => rw [rep_bl r]; rfl
  | int b => rw [rep_int r]; rfl
  | str b => rw [rep_str r]; rfl
  | tup b => obtain ⟨p, vs, rfl, _⟩ := rep_tup r; rfl
  | lst b => obtain ⟨p, vs, rfl, _⟩ := rep_lst r; rfl
  | scr b => obtain ⟨p, rfl, _⟩ := rep_scr r; rfl
  | obj C ns b => obtain ⟨p, _, vs, rfl, _⟩ := rep_obj r; rfl
theorem jv_isN {k pos'} (h : JV X B Δ a d) : JV X B Δ (.Compare a [.Is] [.Constant .none k pos'] pos) (.bl (isN d)) := jv_mk fun ow σ H Q W tk S q =>
  we_of (pe_cmp (pc_isN peW) rfl) (h.use tk S fun v H1 s1 r1 => by
    show Q (.bl (decide (v = .non))) H1
    rw [isN_iff r1]
    exact q _ _ s1 bl_rep)
theorem jv_notN {k pos'} (h : JV X B Δ a d) : JV X B Δ (.Compare a [.IsNot] [.Constant .none k pos'] pos) (.bl (!isN d)) := jv_mk fun ow σ H Q W tk S q =>
  we_of (pe_cmp (pc_notN peW) rfl) (h.use tk S fun v H1 s1 r1 => by
    show Q (.bl (!decide (v = .non))) H1
    rw [isN_iff r1]
    exact q _ _ s1 bl_rep)
/-! ### == of data -/
mutual
def pyD : D → Option PyData
  | .non => some .none
  | .bl b => some (.bool b)
  | .int i => some (.int i)
  | .str s => some (.str s)
  | .tup xs => (pyDs xs).map .tuple
  | .lst xs => (pyDs xs).map .list
  | .scr _ => none
  | .obj _ _ _ => none
def pyDs : List D → Option (List PyData)
  | [] => some []
  | d :: ds => (pyD d).bind fun x => (pyDs ds).map fun xs => x :: xs
end
mutual
theorem dp_of {K : PySem.W.Frag} {O : Addr → Prop} {H : Hp} : ∀ (d : D) (v : V) (x : PyData), pyD d = some x → Rep K O H d v → Dp K H v x
  | .non, v, x, e, r => by unfold pyD at e; cases e; rw [rep_non r]; exact .non
  | .bl b, v, x, e, r => by unfold pyD at e; cases e; rw [rep_bl r]; exact .bl b
  | .int b, v, x, e, r => by unfold pyD at e; cases e; rw [rep_int r]; exact .int b
  | .str b, v, x, e, r => by unfold pyD at e; cases e; rw [rep_str r]; exact .str b
  | .tup xs, v, x, e, r => by
    unfold pyD at e
    obtain ⟨p, vs, rfl, hL, r'⟩ := rep_tup r
    cases h : pyDs xs with
    | none => rw [h] at e; cases e
    | some ys =>
      rw [h] at e
      cases e
      exact .tup hL.sq (dps_of xs vs ys h r')
  | .lst xs, v, x, e, r => by
    unfold pyD at e
    obtain ⟨p, vs, rfl, nO, hL, r'⟩ := rep_lst r
    cases h : pyDs xs with
    | none => rw [h] at e; cases e
    | some ys =>
      rw [h] at e
      cases e
      exact .lst (SqL.of hL) (dps_of xs vs ys h r')
  | .scr _, v, x, e, r => by unfold pyD at e; cases e
  | .obj _ _ _, v, x, e, r => by unfold pyD at e; cases e
theorem dps_of {K : PySem.W.Frag} {O : Addr → Prop} {H : Hp} : ∀ (d : List D) (v : List V) (x : List PyData), pyDs d = some x → Reps K O H d v → DpAll K H v x
  | [], v, x, e, r => by unfold pyDs at e; cases e; rw [Reps.nil_inv r]; exact .nil
  | d :: ds, v, x, e, r => by
    unfold pyDs at e
    obtain ⟨v, vs, rfl, r1, r2⟩ := Reps.cons_inv r
    cases h : pyD d with
    | none => rw [h] at e; cases e
    | some y =>
      rw [h] at e
      cases h2 : pyDs ds with
      | none => rw [h2] at e; cases e
      | some ys =>
        rw [h2] at e
        cases e
        exact .cons (dp_of d v y h r1) (dps_of ds vs ys h2 r2)
end
/-- the answer of == on data -/
def EqB (x y : D) (k : Bool) : Prop := ∃ p q, pyD x = some p ∧ pyD y = some q ∧ SeqAt.shaped p = true ∧ SeqAt.shaped q = true ∧ PyData.eqv p q = k
theorem opS_eqD {K : PySem.W.Frag} {k : Bool} (h : EqB x y k) : OpS K (rEqD K) x y (.bl k) := fun O H u v Q _ ru rv q => by
  obtain ⟨p1, p2, e1, e2, s1, s2, e⟩ := h
  subst e
  exact ⟨p1, p2, dp_of x u p1 e1 ru, dp_of y v p2 e2 rv, s1, s2, q _ H (Same.refl H) bl_rep⟩
theorem opS_neD {K : PySem.W.Frag} {k : Bool} (h : EqB x y k) : OpS K (rNeD K) x y (.bl (!k)) := fun O H u v Q _ ru rv q => by
  obtain ⟨p1, p2, e1, e2, s1, s2, e⟩ := h
  subst e
  exact ⟨p1, p2, dp_of x u p1 e1 ru, dp_of y v p2 e2 rv, s1, s2, q _ H (Same.refl H) bl_rep⟩
theorem jv_eqD {k : Bool} (hu : X.A.units + 64 < cLine) (ha : JV X B Δ a x) (hb : JV X B Δ b y) (h : EqB x y k) : JV X B Δ (.Compare a [.Eq] [b] pos) (.bl k) := jv_opR (pe_cmpR (op_eqD hu) peW peW (nomark _)) ha hb (opS_eqD h)
theorem jv_neD {k : Bool} (hu : X.A.units + 64 < cLine) (ha : JV X B Δ a x) (hb : JV X B Δ b y) (h : EqB x y k) : JV X B Δ (.Compare a [.NotEq] [b] pos) (.bl (!k)) := jv_opR (pe_cmpR (op_neD hu) peW peW (nomark _)) ha hb (opS_neD h)
/-- of a list that is being filled -/
theorem LV.dp {ow : Nat → Option Addr} {H : Hp} {p : Addr} {vs : List V} {q : PyData} (e : pyD (.lst ds) = some q) (hL : H p = some (.lst vs)) (r : Reps X.K (InO B ow) H ds vs) : Dp X.K H (.ref p) q := by
  unfold pyD at e
  cases h : pyDs ds with
  | none => rw [h] at e; cases e
  | some ys =>
    rw [h] at e
    cases e
    exact .lst (SqL.of hL) (dps_of ds vs ys h r)
theorem jv_eqL {es : List D} {k : Bool} (hu : X.A.units + 64 < cLine) (ha : LV X B Δ a ds) (hb : LV X B Δ b es) (h : EqB (.lst ds) (.lst es) k) : JV X B Δ (.Compare a [.Eq] [b] pos) (.bl k) := jv_mk fun ow σ H Q W tk S q =>
  we_of (pe_cmpR (op_eqD hu) peW peW (nomark _)) (ha ow σ H _ W tk S fun p vs H1 s1 hL r1 => hb ow σ H1 _ W tk (S.up s1) fun p2 ws H2 s2 hL2 r2 => by
    obtain ⟨p1, p2, e1, e2, z1, z2, e⟩ := h
    subst e
    exact ⟨p1, p2, LV.dp e1 (s2 _ _ hL) (r1.up s2), LV.dp e2 hL2 r2, z1, z2, q _ _ (s1.trans s2) bl_rep⟩)
theorem jv_neL {es : List D} {k : Bool} (hu : X.A.units + 64 < cLine) (ha : LV X B Δ a ds) (hb : LV X B Δ b es) (h : EqB (.lst ds) (.lst es) k) : JV X B Δ (.Compare a [.NotEq] [b] pos) (.bl (!k)) := jv_mk fun ow σ H Q W tk S q =>
  we_of (pe_cmpR (op_neD hu) peW peW (nomark _)) (ha ow σ H _ W tk S fun p vs H1 s1 hL r1 => hb ow σ H1 _ W tk (S.up s1) fun p2 ws H2 s2 hL2 r2 => by
    obtain ⟨p1, p2, e1, e2, z1, z2, e⟩ := h
    subst e
    exact ⟨p1, p2, LV.dp e1 (s2 _ _ hL) (r1.up s2), LV.dp e2 hL2 r2, z1, z2, q _ _ (s1.trans s2) bl_rep⟩)
end
end Dy
namespace Dy
open PySem PySem.Spec PyProof.Rows L2
section
variable {K : PySem.W.Frag} {B : Bas} {Δ : List Sl} {ow : Nat → Option Addr} {σ : L2.St} {H H' : Hp}
/-- an owned object is written -/
theorem StO.write (S : StO K B Δ ow σ H) {i : Nat} {a : Addr} {o : HO} {s : Sl} (hi : ow i = some a) (hs : SlOk K (InO B ow) ow σ (upd H a o) i s) : StO K B (Δ.set i s) ow σ (upd H a o) where
  base := fun b u e => by
    have n : b ≠ a := fun z => by
      rw [z, (S.sep i a hi).1] at e
      cases e
    rw [upd_ne n]
    exact S.base b u e
  live := fun b hb => by
    by_cases n : b = a
    · exact ⟨o, by rw [n]; exact upd_same⟩
    · rw [upd_ne n]
      exact S.live b hb
  sep := S.sep
  inj := S.inj
  len := by simp [S.len]
  sl := fun j t e => by
    by_cases hj : j = i
    · subst hj
      have hl : j < Δ.length := by
        have := (List.getElem?_eq_some_iff.mp e).1
        simpa using this
      rw [List.getElem?_set_self hl] at e
      cases e
      exact hs
    · rw [List.getElem?_set_ne (Ne.symm hj)] at e
      have h := S.sl j t e
      have so : SameO (InO B ow) H (upd H a o) := fun b u n e => by
        rw [upd_ne (fun z => n (.inr ⟨i, by rw [z]; exact hi⟩))]
        exact e
      have ne : ∀ b, ow j = some b → b ≠ a := fun b hb z => hj (S.inj j i a (z ▸ hb) hi)
      cases t with
      | un => trivial
      | val d => obtain ⟨v, e1, r⟩ := h; exact ⟨v, e1, Rep.mono so (fun _ z => z) _ _ r⟩
      | own ds => obtain ⟨b, vs, e1, e2, e3, r⟩ := h; exact ⟨b, vs, e1, e2, by rw [upd_ne (ne b e2)]; exact e3, Reps.mono so (fun _ z => z) _ _ r⟩
      | slf C ns ds => obtain ⟨b, dx, vs, e1, e2, e3, l, r⟩ := h; exact ⟨b, dx, vs, e1, e2, by rw [upd_ne (ne b e2)]; exact e3, l, Reps.mono so (fun _ z => z) _ _ r⟩
theorem inO_put {i : Nat} {x : Option Addr} {a : Addr} (h : InO B (putO ow i x) a) : InO B ow a ∨ x = some a := by
  rcases h with h | ⟨j, h⟩
  · exact .inl (.inl h)
  · by_cases hj : j = i
    · rw [hj, putO_same] at h
      exact .inr h
    · rw [putO_ne hj] at h
      exact .inl (.inr ⟨j, h⟩)
/-- a new list at a slot -/
theorem StO.own (S : StO K B Δ ow σ H) {i : Nat} {p : Addr} {vs : List V} {ds : List D} (hp : H p = none) (s : Same H H') (hL : H' p = some (.lst vs)) (r : Reps K (fun a => InO B ow a ∨ a = p) H' ds vs) :
    StO K B (Δ.set i (.own ds)) (putO ow i (some p)) (σ.set i (some (.ref p))) H' := by
  have np : ∀ b o, H b = some o → b ≠ p := fun b o e z => by rw [z, hp] at e; cases e
  have sub : ∀ a, InO B (putO ow i (some p)) a → InO B ow a ∨ a = p := fun a h => (inO_put h).elim .inl fun z => .inr (Option.some.inj z).symm
  refine ⟨S.base.trans s, fun a h => ?_, fun j a h => ?_, fun j k a h1 h2 => ?_, by simp [S.len], fun j t e => ?_⟩
  · rcases sub a h with h | h
    · obtain ⟨o, e⟩ := S.live a h
      exact ⟨o, s a o e⟩
    · exact ⟨_, h ▸ hL⟩
  · by_cases hj : j = i
    · rw [hj, putO_same] at h
      cases h
      refine ⟨?_, fun z => ?_⟩
      · cases q : B.H0 p with
        | none => rfl
        | some o => exact absurd rfl (np p o (S.base p o q))
      · obtain ⟨o, e⟩ := S.live p (.inl z)
        exact np p o e rfl
    · rw [putO_ne hj] at h
      exact S.sep j a h
  · have nw : ∀ j, j ≠ i → ow j = some p → False := fun j _ z => by
      obtain ⟨o, e⟩ := S.live p (.inr ⟨j, z⟩)
      exact np p o e rfl
    by_cases hj : j = i
    · by_cases hk : k = i
      · rw [hj, hk]
      · rw [hj, putO_same] at h1
        rw [putO_ne hk] at h2
        cases h1
        exact (nw k hk h2).elim
    · by_cases hk : k = i
      · rw [hk, putO_same] at h2
        rw [putO_ne hj] at h1
        cases h2
        exact (nw j hj h1).elim
      · rw [putO_ne hj] at h1
        rw [putO_ne hk] at h2
        exact S.inj j k a h1 h2
  · by_cases hj : j = i
    · subst hj
      have hl : j < Δ.length := by
        have := (List.getElem?_eq_some_iff.mp e).1
        simpa using this
      rw [List.getElem?_set_self hl] at e
      cases e
      exact ⟨p, vs, List.getElem?_set_self (by rw [S.len]; exact hl), putO_same, hL, r.less sub⟩
    · rw [List.getElem?_set_ne (Ne.symm hj)] at e
      have h := S.sl j t e
      have hσ : (σ.set i (some (.ref p)))[j]? = σ[j]? := List.getElem?_set_ne (Ne.symm hj)
      have up1 : ∀ {d : D} {v : V}, Rep K (InO B ow) H d v → Rep K (InO B (putO ow i (some p))) H' d v := fun r => ((r.add hp).up s).less sub
      have up2 : ∀ {d : List D} {v : List V}, Reps K (InO B ow) H d v → Reps K (InO B (putO ow i (some p))) H' d v := fun r => ((r.add hp).up s).less sub
      cases t with
      | un => trivial
      | val d => obtain ⟨v, e1, r⟩ := h; exact ⟨v, hσ.trans e1, up1 r⟩
      | own ds => obtain ⟨b, vs, e1, e2, e3, r⟩ := h; exact ⟨b, vs, hσ.trans e1, by rw [putO_ne hj]; exact e2, s _ _ e3, up2 r⟩
      | slf C ns ds => obtain ⟨b, dx, vs, e1, e2, e3, l, r⟩ := h; exact ⟨b, dx, vs, hσ.trans e1, by rw [putO_ne hj]; exact e2, s _ _ e3, l, up2 r⟩
/-- an owned list is given up: from now on it is a value -/
theorem StO.freeze (S : StO K B Δ ow σ H) {i : Nat} {ds : List D} (h : Δ[i]? = some (.own ds)) : StO K B (Δ.set i (.val (.lst ds))) (putO ow i none) σ H := by
  obtain ⟨a, vs, e1, e2, e3, r⟩ := S.sl i _ h
  have sub : ∀ b, InO B (putO ow i none) b → InO B ow b := fun b z => (inO_put z).elim id fun q => nomatch q
  have hl : i < Δ.length := (List.getElem?_eq_some_iff.mp h).1
  have na : ¬ InO B (putO ow i none) a := fun z => by
    rcases z with z | ⟨j, z⟩
    · exact (S.sep i a e2).2 z
    · by_cases hj : j = i
      · rw [hj, putO_same] at z
        cases z
      · rw [putO_ne hj] at z
        exact hj (S.inj j i a z e2)
  refine ⟨S.base, fun b z => S.live b (sub b z), fun j b z => ?_, fun j k b z1 z2 => ?_, by simp [S.len], fun j t e => ?_⟩
  · by_cases hj : j = i
    · rw [hj, putO_same] at z
      cases z
    · rw [putO_ne hj] at z
      exact S.sep j b z
  · by_cases hj : j = i
    · rw [hj, putO_same] at z1
      cases z1
    · by_cases hk : k = i
      · rw [hk, putO_same] at z2
        cases z2
      · rw [putO_ne hj] at z1
        rw [putO_ne hk] at z2
        exact S.inj j k b z1 z2
  · by_cases hj : j = i
    · subst hj
      rw [List.getElem?_set_self hl] at e
      cases e
      exact ⟨_, e1, lst_rep na e3 (r.less sub)⟩
    · rw [List.getElem?_set_ne (Ne.symm hj)] at e
      have h := S.sl j t e
      cases t with
      | un => trivial
      | val d => obtain ⟨v, e1, r⟩ := h; exact ⟨v, e1, r.less sub⟩
      | own ds => obtain ⟨b, vs, e1, e2, e3, r⟩ := h; exact ⟨b, vs, e1, by rw [putO_ne hj]; exact e2, e3, r.less sub⟩
      | slf C ns ds => obtain ⟨b, dx, vs, e1, e2, e3, l, r⟩ := h; exact ⟨b, dx, vs, e1, by rw [putO_ne hj]; exact e2, e3, l, r.less sub⟩
/-- another base -/
theorem StO.reb {B' : Bas} (S : StO K B' Δ ow σ H) (s : Same B.H0 B'.H0) (o : B'.Oc = B.Oc) : StO K B Δ ow σ H := by
  have e : InO B ow = InO B' ow := by unfold InO; rw [o]
  exact ⟨s.trans S.base, fun a h => S.live a (e ▸ h), fun i a h => ⟨s.free (S.sep i a h).1, o ▸ (S.sep i a h).2⟩, S.inj, S.len, fun i t h => e ▸ S.sl i t h⟩
open Classical in
/-- the heap but for what is owned -/
noncomputable def maskH (ow : Nat → Option Addr) (H : Hp) : Hp := fun a => if ∃ i, ow i = some a then none else H a
theorem maskH_some {a : Addr} {o : HO} (n : ¬ ∃ i, ow i = some a) (h : H a = some o) : maskH ow H a = some o := by unfold maskH; rw [if_neg n]; exact h
theorem maskH_own {a : Addr} {i : Nat} (h : ow i = some a) : maskH ow H a = none := by unfold maskH; rw [if_pos ⟨i, h⟩]
theorem maskH_same : Same (maskH ow H) H := fun a o e => by
  unfold maskH at e
  split at e
  · cases e
  · exact e
noncomputable def Bas.at (B : Bas) (ow : Nat → Option Addr) (H : Hp) : Bas := ⟨maskH ow H, B.Oc⟩
theorem StO.fresh (S : StO K B Δ ow σ H) : StO K (B.at ow H) Δ ow σ H :=
  ⟨maskH_same, S.live, fun i a h => ⟨maskH_own h, (S.sep i a h).2⟩, S.inj, S.len, S.sl⟩
theorem StO.backBase (S : StO K B Δ ow σ H) : Same B.H0 (B.at ow H).H0 := fun a o e => maskH_some (fun ⟨i, z⟩ => by rw [(S.sep i a z).1] at e; cases e) (S.base a o e)
/-- what stood at the base stands -/
theorem Rep.keep {Δ' : List Sl} {ow' : Nat → Option Addr} {σ' : L2.St} {d : D} {v : V} (r : Rep K (InO B ow) H d v) (S' : StO K (B.at ow H) Δ' ow' σ' H') : Rep K (InO (B.at ow H) ow') H' d v := by
  have r1 : Rep K (InO B ow) (maskH ow H) d v := Rep.mono (fun a o n e => maskH_some (fun z => n (.inr z)) e) (fun _ z => z) d v r
  have r2 : Rep K (InO (B.at ow H) ow') (maskH ow H) d v := Rep.swap (fun a o n e z => by
    rcases z with z | ⟨j, z⟩
    · exact n (.inl z)
    · have e' : maskH ow H a = none := (S'.sep j a z).1
      rw [e'] at e
      cases e) d v r1
  exact r2.up S'.base
end

/-! ### statements -/
section
variable {X : Cx} {B : Bas} {Δ : List Sl} {E : EndD} {st : Stmt} {rest body : List Stmt} {e a b : Expr} {d : D} {ds : List D} {pos : Pos} {P : D → Prop} {Ψ : Exn → Prop}
theorem js_nil (h : E.nx Δ) : Js X B Δ [] E := fun ow σ H De W tk S G => wss_of pss_nil (G.nx Δ ow σ H h S)
theorem js_cons (h : JS X B Δ st { E with nx := fun Δ' => Js X B Δ' rest E }) : Js X B Δ (st :: rest) E := fun ow σ H De W tk S G =>
  wss_of (pss_cons psW pssW) (h ow σ H { De with nx := WSs X rest De } W tk S ⟨fun Δ' ow' σ' H' h S' => h ow' σ' H' De W tk S' G, G.rt, G.bk, G.ct, G.xc⟩)
theorem Js.freeze (i : Nat) (h : Δ[i]? = some (.own ds)) (k : Js X B (Δ.set i (.val (.lst ds))) rest E) : Js X B Δ rest E := fun ow σ H De W tk S G => k _ σ H De W tk (S.freeze h) G
theorem Js.weak {Δ' : List Sl} (h : Le Δ Δ') (k : Js X B Δ' rest E) : Js X B Δ rest E := fun ow σ H De W tk S G => k ow σ H De W tk (S.weak h) G
theorem js_pass (h : E.nx Δ) : JS X B Δ (.Pass pos) E := fun ow σ H De W tk S G => ws_of ps_pass (G.nx Δ ow σ H h S)
theorem js_break (h : E.bk Δ) : JS X B Δ (.Break pos) E := fun ow σ H De W tk S G => ws_of ps_break (G.bk Δ ow σ H h S)
theorem js_continue (h : E.ct Δ) : JS X B Δ (.Continue pos) E := fun ow σ H De W tk S G => ws_of ps_continue (G.ct Δ ow σ H h S)
theorem hears {ow : Nat → Option Addr} {σ : L2.St} {H : Hp} {De : Ends} {W : WX} (S : StO X.K B Δ ow σ H) (G : Good X B E De W) (hx : ∀ x, Ψ x → E.xc Δ x) : Hears X B ow H σ W Ψ := fun x cls dd H' p s r => G.xc Δ ow σ H' x cls dd (hx x p) (S.up s) r
theorem js_exprX (he : JE X B Δ e P Ψ) (k : ∀ d, P d → E.nx Δ) (kx : ∀ x, Ψ x → E.xc Δ x) (hs : swapsWith e none pos.line X.env = pure false := by rfl) : JS X B Δ (.Expr e pos) E := fun ow σ H De W tk S G =>
  ws_of (ps_expr peW hs) (he ow σ H _ W tk S (fun d v H' p s r => G.nx Δ ow σ H' (k d p) (S.up s)) (hears S G kx))
theorem js_retX (he : JE X B Δ e P Ψ) (k : ∀ d, P d → E.rt Δ d) (kx : ∀ x, Ψ x → E.xc Δ x) : JS X B Δ (.Return (some e) pos) E := fun ow σ H De W tk S G =>
  ws_of (ps_ret peW) (he ow σ H _ W tk S (fun d v H' p s r => G.rt Δ ow σ H' d v (k d p) (S.up s) r) (hears S G kx))
theorem js_ret (he : JV X B Δ e d) (k : E.rt Δ d) : JS X B Δ (.Return (some e) pos) E := js_retX (he (fun z => z = d) (fun _ => False) rfl) (fun z q => q ▸ k) fun _ z => z.elim
theorem js_retN (k : E.rt Δ .non) : JS X B Δ (.Return none pos) E := fun ow σ H De W tk S G => ws_of ps_retN (G.rt Δ ow σ H .non .non k S non_rep)
theorem js_setX (i : Nat) {x : Str} {pos' : Pos} (he : JE X B Δ e P Ψ) (k : ∀ d, P d → E.nx (Δ.set i (.val d))) (kx : ∀ x, Ψ x → E.xc Δ x) (hN : X.N.Nodup) (hi : X.N[i]? = some x := by rfl) (hx : Loc X.env.scope x := by first | exact Or.inl rfl | exact Or.inr rfl)
    (hs : swapsWith e (some (.Name x pos')) pos.line X.env = pure false := by rfl) (hf : X.fn x = true ∨ X.env.scope.names.lookup x = some .local := by first | exact .inl rfl | exact .inr rfl) : JS X B Δ (.Assign [.Name x pos'] e pos) E := fun ow σ H De W tk S G =>
  ws_of (ps_set hN hi hx peW hs hf) (he ow σ H _ W tk S (fun d v H' p s r => G.nx _ ow _ H' (k d p) ((S.up s).put r)) (hears S G kx))
theorem js_set (i : Nat) {x : Str} {pos' : Pos} (he : JV X B Δ e d) (k : E.nx (Δ.set i (.val d))) (hN : X.N.Nodup) (hi : X.N[i]? = some x := by rfl) (hx : Loc X.env.scope x := by first | exact Or.inl rfl | exact Or.inr rfl)
    (hs : swapsWith e (some (.Name x pos')) pos.line X.env = pure false := by rfl) (hf : X.fn x = true ∨ X.env.scope.names.lookup x = some .local := by first | exact .inl rfl | exact .inr rfl) : JS X B Δ (.Assign [.Name x pos'] e pos) E :=
  js_setX i (he (fun z => z = d) (fun _ => False) rfl) (fun z q => q ▸ k) (fun _ z => z.elim) hN hi hx hs hf
theorem js_setL (i : Nat) {x : Str} {pos' : Pos} (he : FL X B Δ e ds) (k : E.nx (Δ.set i (.own ds))) (hN : X.N.Nodup) (hi : X.N[i]? = some x := by rfl) (hx : Loc X.env.scope x := by first | exact Or.inl rfl | exact Or.inr rfl)
    (hs : swapsWith e (some (.Name x pos')) pos.line X.env = pure false := by rfl) (hf : X.fn x = true ∨ X.env.scope.names.lookup x = some .local := by first | exact .inl rfl | exact .inr rfl) : JS X B Δ (.Assign [.Name x pos'] e pos) E := fun ow σ H De W tk S G =>
  ws_of (ps_set hN hi hx peW hs hf) (he ow σ H _ W tk S fun p vs H' hp s hL r => G.nx _ _ _ H' k (S.own hp s hL r))
theorem js_if {c : Expr} {s1 s2 : List Stmt} {k : Bool} (hc : TV X B Δ c k) (h1 : k = true → Js X B Δ s1 E) (h2 : k = false → Js X B Δ s2 E) : JS X B Δ (.If c s1 s2 pos) E := fun ow σ H De W tk S G =>
  ws_of (ps_if ptW pssW pssW) (hc.use tk S fun H' s => by
    cases k with
    | true => exact iteT (h1 rfl ow σ H' De W tk (S.up s) G)
    | false => exact iteF (h2 rfl ow σ H' De W tk (S.up s) G))
/-- x.append(e) -/
theorem js_app (i : Nat) {x : Str} {px apos cpos : Pos} (he : JV X B Δ e d) (k : E.nx (Δ.set i (.own (ds ++ [d])))) (hl : ds.length < 100000) (h : Δ[i]? = some (.own ds) := by rfl)
    (hN : X.N[i]? = some x := by rfl) (hv : Vis X.env.scope x := by first | exact Or.inl rfl | exact Or.inr (Or.inl rfl) | exact Or.inr (Or.inr rfl)) (hd : (x == ("__debug__" : Str)) = false := by decide) (hcd : (x == ("__classdict__" : Str)) = false := by decide)
    (hp : PE X (.Call (.Attribute (.Name x px) "append" apos) [e] [] cpos) (tBM X.K "list" rAppend (tVar i) (tCons (WEx X e) tNil)) := by exact pe_bm PySem.F.plainAttrs_list PySem.F.slot_list_append PySem.F.type_list_append mt_append (pv _) (pa_cons peW pa_nil))
    (hs : swapsWith (.Call (.Attribute (.Name x px) "append" apos) [e] [] cpos) none pos.line X.env = pure false := by rfl) : JS X B Δ (.Expr (.Call (.Attribute (.Name x px) "append" apos) [e] [] cpos) pos) E := fun ow σ H De W tk S G => by
  obtain ⟨a, vs, e1, e2, e3, r⟩ := S.sl i _ h
  refine ws_of (ps_expr hp hs) ⟨.ref a, e1, .inl ⟨rfl, vs, SqL.of e3⟩, he.use tk S fun v H' s rv => ?_⟩
  refine ⟨a, vs, v, rfl, rfl, s _ _ e3, lt_line (by rw [← r.len]; exact hl), ?_⟩
  have S' := S.up s
  have so : SameO (InO B ow) H' (upd H' a (.lst (vs ++ [v]))) := fun b u n z => by
    rw [upd_ne (fun q => n (.inr ⟨i, by rw [q]; exact e2⟩))]
    exact z
  exact G.nx _ ow σ _ k (S'.write e2 ⟨a, vs ++ [v], e1, e2, upd_same, Reps.mono so (fun _ z => z) _ _ (Reps.app (r.up s) (Reps.cons rv Reps.nil))⟩)
/-! targets -/
theorem wipe_get {σ : L2.St} {j : Nat} : ∀ {vs : List Nat}, (L2.wipe σ vs)[j]? = if j ∈ vs ∧ j < σ.length then some none else σ[j]?
  | [] => by simp [L2.wipe]
  | v :: vs => by
    unfold L2.wipe
    have hlen : (L2.wipe σ vs).length = σ.length := L2.wipe_length σ vs
    by_cases h : j = v
    · subst h
      by_cases hl : j < σ.length
      · rw [List.getElem?_set_self (by rw [hlen]; exact hl), if_pos ⟨List.mem_cons_self, hl⟩]
      · rw [if_neg (fun z => hl z.2), List.getElem?_eq_none_iff.mpr (by rw [List.length_set, hlen]; omega), List.getElem?_eq_none_iff.mpr (by omega)]
    · rw [List.getElem?_set_ne (Ne.symm h), wipe_get (vs := vs)]
      simp [h]
theorem wipe_eq {σ τ : L2.St} {vs : List Nat} (hl : τ.length = σ.length) (h : ∀ j, j ∉ vs → τ[j]? = σ[j]?) : L2.wipe τ vs = L2.wipe σ vs := by
  apply List.ext_getElem?
  intro j
  rw [wipe_get, wipe_get, hl]
  by_cases hj : j ∈ vs
  · by_cases hb : j < σ.length
    · rw [if_pos ⟨hj, hb⟩, if_pos ⟨hj, hb⟩]
    · rw [if_neg (fun z => hb z.2), if_neg (fun z => hb z.2), List.getElem?_eq_none_iff.mpr (by omega), List.getElem?_eq_none_iff.mpr (by omega)]
  · rw [if_neg (fun z => hj z.1), if_neg (fun z => hj z.1)]
    exact h j hj
/-- the slots of a target alone are changed -/
def Ch (is : List Nat) (σ σ' : L2.St) : Prop := σ'.length = σ.length ∧ ∀ j, j ∉ is → σ'[j]? = σ[j]?
theorem Ch.refl {is : List Nat} {σ : L2.St} : Ch is σ σ := ⟨rfl, fun _ _ => rfl⟩
theorem Ch.trans {is js : List Nat} {σ σ1 σ2 : L2.St} (a : Ch is σ σ1) (b : Ch js σ1 σ2) : Ch (is ++ js) σ σ2 := ⟨b.1.trans a.1, fun j h => by
  rw [List.mem_append, not_or] at h
  exact (b.2 j h.2).trans (a.2 j h.1)⟩
def GD (K : PySem.W.Frag) (g : TG) (d : D) (f : List Sl → List Sl) (is : List Nat) : Prop := ∀ (B : Bas) (Δ : List Sl) (ow : Nat → Option Addr) (σ : L2.St) (H : Hp) (v : V) (Q : L2.St → Hp → Prop), StO K B Δ ow σ H → Rep K (InO B ow) H d v →
  (∀ σ', StO K B (f Δ) ow σ' H → Ch is σ σ' → Q σ' H) → g v σ H Q
def GDs (K : PySem.W.Frag) (g : TGs) (ds : List D) (f : List Sl → List Sl) (is : List Nat) : Prop := ∀ (B : Bas) (Δ : List Sl) (ow : Nat → Option Addr) (σ : L2.St) (H : Hp) (vs : List V) (Q : L2.St → Hp → Prop), StO K B Δ ow σ H → Reps K (InO B ow) H ds vs →
  (∀ σ', StO K B (f Δ) ow σ' H → Ch is σ σ' → Q σ' H) → g vs σ H Q
theorem gd_name {K : PySem.W.Frag} (i : Nat) : GD K (gName i) d (fun Δ => Δ.set i (.val d)) [i] := fun B Δ ow σ H v Q S r q => q _ (S.put r) ⟨List.length_set .., fun j h => List.getElem?_set_ne (fun z => h (by simp [z]))⟩
theorem gds_nil {K : PySem.W.Frag} : GDs K gNil [] (fun Δ => Δ) [] := fun B Δ ow σ H vs Q S r q => ⟨Reps.nil_inv r, q _ S Ch.refl⟩
theorem gds_cons {K : PySem.W.Frag} {g : TG} {gs : TGs} {f f2 : List Sl → List Sl} {is js : List Nat} (h : GD K g d f is) (h2 : GDs K gs ds f2 js) : GDs K (gCons g gs) (d :: ds) (fun Δ => f2 (f Δ)) (is ++ js) := fun B Δ ow σ H vs Q S r q => by
  obtain ⟨v, ws, rfl, r1, r2⟩ := Reps.cons_inv r
  exact ⟨v, ws, rfl, h B Δ ow σ H v _ S r1 fun σ' S' c => h2 B _ ow σ' H ws _ S' r2 fun σ2 S2 c2 => q σ2 S2 (c.trans c2)⟩
theorem gd_tup {K : PySem.W.Frag} {gs : TGs} {f : List Sl → List Sl} {n : Nat} {is : List Nat} (h : GDs K gs ds f is) (hn : ds.length = n) : GD K (gTup K n gs) (.tup ds) f is := fun B Δ ow σ H v Q S r q => by
  obtain ⟨p, vs, rfl, hL, r'⟩ := rep_tup r
  exact ⟨p, vs, rfl, hL.sq, by rw [← r'.len]; exact hn, h B Δ ow σ H vs _ S r' q⟩
theorem js_asg {tg : Expr} {g : TG} {f : List Sl → List Sl} {is : List Nat} (he : JV X B Δ e d) (gd : GD X.K g d f is) (k : E.nx (f Δ)) (hg : PG X tg g) (hs : swapsWithSole [tg] e pos.line X.env = pure false := by rfl) (hw : swappedStores [tg] e X.env = pure none := by rfl)
    (h1 : (assignEach [tg] X.env).map (·.2) = [assign tg X.env] := by rfl) : JS X B Δ (.Assign [tg] e pos) E := fun ow σ H De W tk S G =>
  ws_of (ps_asg peW hg hs hw h1) (he.use tk S fun v H' s r => gd B Δ ow σ H' v _ (S.up s) r fun σ' S' _ => G.nx _ ow σ' H' k S')
/-! loops -/
def Wk (I : List Sl → Prop) (Δ : List Sl) : Prop := ∃ Δ', Le Δ Δ' ∧ I Δ'
theorem Good.reb {ow : Nat → Option Addr} {σ : L2.St} {H : Hp} {De : Ends} {W : WX} (G : Good X B E De W) (S : StO X.K B Δ ow σ H) : Good X (B.at ow H) E De W :=
  ⟨fun Δ' ow' σ' H' h S' => G.nx Δ' ow' σ' H' h (S'.reb S.backBase rfl), fun Δ' ow' σ' H' d v h S' r => G.rt Δ' ow' σ' H' d v h (S'.reb S.backBase rfl) r, fun Δ' ow' σ' H' h S' => G.bk Δ' ow' σ' H' h (S'.reb S.backBase rfl),
    fun Δ' ow' σ' H' h S' => G.ct Δ' ow' σ' H' h (S'.reb S.backBase rfl), fun Δ' ow' σ' H' x cls dd h S' r => G.xc Δ' ow' σ' H' x cls dd h (S'.reb S.backBase rfl) r⟩
variable {tg iter : Expr} {g : TG} {xs : List D}
theorem js_forT (f : Nat → List Sl → List Sl) (Iv : Nat → List Sl → Prop) (hi : JV X B Δ iter (.tup xs)) {is : List Nat} (gd : ∀ i d, xs[i]? = some d → GD X.K g d (f i) is) (h0 : Wk (Iv 0) Δ)
    (turn : ∀ (B' : Bas) (i : Nat) (d : D) (Δ' : List Sl), xs[i]? = some d → Iv i Δ' → Js X B' (f i Δ') body { nx := Wk (Iv (i + 1)), ct := Wk (Iv (i + 1)), bk := E.nx, rt := E.rt, xc := E.xc })
    (done : ∀ Δ', Iv xs.length Δ' → E.nx Δ') (po : PassesOwn (model X.prog X.w) X.A X.env X.xe) (hc : X.calm = true) (hg : PG X tg g) (hs : ∀ x, foldedSetIterable iter X.env x = pure x := by intro _; rfl) : JS X B Δ (.For tg iter body [] pos) E := fun ow σ H De W tk S G =>
  ws_of (ps_for po hc (pi_tup peW) hg pssW hs) (hi.use tk S fun v H1 s1 r1 => by
    obtain ⟨p, vs, rfl, hL, r⟩ := rep_tup r1
    obtain ⟨Δ0, l0, h0⟩ := h0
    have S1 := (S.up s1).weak l0
    have G1 := G.reb S1
    refine ⟨p, rfl, ⟨vs, hL.sq⟩, for_tup (xs := vs) (fun i σ' H' => ∃ Δ' ow', Iv i Δ' ∧ StO X.K (B.at ow H1) Δ' ow' σ' H') ⟨Δ0, ow, h0, S1.fresh⟩ (fun i σ' H' _ ⟨Δ', ow', _, S'⟩ => ?_) ?_ ?_⟩
    · have r2 := r1.keep S'
      obtain ⟨p', vs', e, hL', r'⟩ := rep_tup r2
      cases e
      rcases hL with ⟨n, hL⟩ | hL
      · have hm : SqT X.K (maskH ow H1) p vs := sqT_same (fun o e => maskH_some (fun z => n (.inr z)) e) hL
        exact sqT_same (fun o e => S'.base _ o e) hm
      · exact hL H'
    · rintro i v σ' H' hv ⟨Δ', ow', iv, S'⟩
      have hlt := (List.getElem?_eq_some_iff.mp hv).1
      rw [← r.len] at hlt
      have hx : xs[i]? = some xs[i] := List.getElem?_eq_getElem hlt
      obtain ⟨v', e, rv⟩ := r.get hx
      rw [hv] at e
      cases e
      exact gd i _ hx _ Δ' ow' σ' H' v _ S' (rv.keep S') fun σ2 S2 _ => turn _ i _ Δ' hx iv ow' σ2 H' _ W tk S2
        ⟨fun Δ2 ow2 σ3 H3 ⟨Δ3, l, h⟩ S3 => ⟨Δ3, ow2, h, S3.weak l⟩, G1.rt, fun Δ2 ow2 σ3 H3 h S3 => G1.nx Δ2 ow2 σ3 H3 h S3, fun Δ2 ow2 σ3 H3 ⟨Δ3, l, h⟩ S3 => ⟨Δ3, ow2, h, S3.weak l⟩, G1.xc⟩
    · rintro σ' H' ⟨Δ', ow', iv, S'⟩
      rw [← r.len] at iv
      exact G1.nx Δ' ow' σ' H' (done Δ' iv) S')
theorem js_forL (f : Nat → List Sl → List Sl) (Iv : Nat → List Sl → Prop) (hi : JV X B Δ iter (.lst xs)) {is : List Nat} (gd : ∀ i d, xs[i]? = some d → GD X.K g d (f i) is) (h0 : Wk (Iv 0) Δ)
    (turn : ∀ (B' : Bas) (i : Nat) (d : D) (Δ' : List Sl), xs[i]? = some d → Iv i Δ' → Js X B' (f i Δ') body { nx := Wk (Iv (i + 1)), ct := Wk (Iv (i + 1)), bk := E.nx, rt := E.rt, xc := E.xc })
    (done : ∀ Δ', Iv xs.length Δ' → E.nx Δ') (po : PassesOwn (model X.prog X.w) X.A X.env X.xe) (hc : X.calm = true) (hg : PG X tg g) (hs : ∀ x, foldedSetIterable iter X.env x = pure x := by intro _; rfl) : JS X B Δ (.For tg iter body [] pos) E := fun ow σ H De W tk S G =>
  ws_of (ps_for po hc (pi_list peW) hg pssW hs) (hi.use tk S fun v H1 s1 r1 => by
    obtain ⟨p, vs, rfl, n, hL, r⟩ := rep_lst r1
    obtain ⟨Δ0, l0, h0⟩ := h0
    have S1 := (S.up s1).weak l0
    have G1 := G.reb S1
    refine ⟨p, rfl, ⟨vs, SqL.of hL⟩, for_list (xs := vs) (fun i σ' H' => ∃ Δ' ow', Iv i Δ' ∧ StO X.K (B.at ow H1) Δ' ow' σ' H') ⟨Δ0, ow, h0, S1.fresh⟩ (fun i σ' H' _ ⟨Δ', ow', _, S'⟩ => ?_) ?_ ?_⟩
    · have hm : maskH ow H1 p = some (.lst vs) := maskH_some (fun z => n (.inr z)) hL
      exact SqL.of (S'.base _ _ hm)
    · rintro i v σ' H' hv ⟨Δ', ow', iv, S'⟩
      have hlt := (List.getElem?_eq_some_iff.mp hv).1
      rw [← r.len] at hlt
      have hx : xs[i]? = some xs[i] := List.getElem?_eq_getElem hlt
      obtain ⟨v', e, rv⟩ := r.get hx
      rw [hv] at e
      cases e
      exact gd i _ hx _ Δ' ow' σ' H' v _ S' (rv.keep S') fun σ2 S2 _ => turn _ i _ Δ' hx iv ow' σ2 H' _ W tk S2
        ⟨fun Δ2 ow2 σ3 H3 ⟨Δ3, l, h⟩ S3 => ⟨Δ3, ow2, h, S3.weak l⟩, G1.rt, fun Δ2 ow2 σ3 H3 h S3 => G1.nx Δ2 ow2 σ3 H3 h S3, fun Δ2 ow2 σ3 H3 ⟨Δ3, l, h⟩ S3 => ⟨Δ3, ow2, h, S3.weak l⟩, G1.xc⟩
    · rintro σ' H' ⟨Δ', ow', iv, S'⟩
      rw [← r.len] at iv
      exact G1.nx Δ' ow' σ' H' (done Δ' iv) S')
/-- for x in range(n) | range(lo, hi) -/
theorem js_forR1 {n : Int} {p pos' : Pos} (f : Int → List Sl → List Sl) (Iv : Nat → List Sl → Prop) (ha : JV X B Δ a (.int n)) {is : List Nat} (gd : ∀ i, GD X.K g (.int i) (f i) is) (h0 : Wk (Iv 0) Δ)
    (turn : ∀ (B' : Bas) (i : Nat) (Δ' : List Sl), (i : Int) < n → Iv i Δ' → Js X B' (f (i : Int) Δ') body { nx := Wk (Iv (i + 1)), ct := Wk (Iv (i + 1)), bk := E.nx, rt := E.rt, xc := E.xc })
    (done : ∀ Δ', Iv n.toNat Δ' → E.nx Δ') (po : PassesOwn (model X.prog X.w) X.A X.env X.xe) (hc : X.calm = true) (hm : X.mg "range" = none) (hg : PG X tg g) (hgl : Gl X "range" := by rfl) (hs : starEach [a] X.env = [(false, eval a X.env)] := by rfl) :
    JS X B Δ (.For tg (.Call (.Name "range" p) [a] [] pos') body [] pos) E := fun ow σ H De W tk S G =>
  ws_of (ps_for po hc (pi_ra1 hgl hm (pa_cons peW pa_nil hs) hs) hg pssW) (ha.use tk S fun v H1 s1 r1 => by
    obtain ⟨Δ0, l0, h0⟩ := h0
    have S1 := (S.up s1).weak l0
    have G1 := G.reb S1
    refine ⟨n, by rw [rep_int r1], for_range (fun i σ' H' => ∃ Δ' ow', Iv i Δ' ∧ StO X.K (B.at ow H1) Δ' ow' σ' H') ⟨Δ0, ow, h0, S1.fresh⟩ ?_ ?_⟩
    · rintro i σ' H' hi ⟨Δ', ow', iv, S'⟩
      have e0 : (0 : Int) + (i : Int) = (i : Int) := Int.zero_add _
      rw [e0]
      exact gd _ _ Δ' ow' σ' H' _ _ S' int_rep fun σ2 S2 _ => turn _ i Δ' (by omega) iv ow' σ2 H' _ W tk S2
        ⟨fun Δ2 ow2 σ3 H3 ⟨Δ3, l, h⟩ S3 => ⟨Δ3, ow2, h, S3.weak l⟩, G1.rt, fun Δ2 ow2 σ3 H3 h S3 => G1.nx Δ2 ow2 σ3 H3 h S3, fun Δ2 ow2 σ3 H3 ⟨Δ3, l, h⟩ S3 => ⟨Δ3, ow2, h, S3.weak l⟩, G1.xc⟩
    · rintro σ' H' ⟨Δ', ow', iv, S'⟩
      exact G1.nx Δ' ow' σ' H' (done Δ' iv) S')
theorem js_forR2 {lo n : Int} {p pos' : Pos} (f : Int → List Sl → List Sl) (Iv : Nat → List Sl → Prop) (ha : JV X B Δ a (.int lo)) (hb : JV X B Δ b (.int n)) {is : List Nat} (gd : ∀ i, GD X.K g (.int i) (f i) is) (h0 : Wk (Iv 0) Δ)
    (turn : ∀ (B' : Bas) (i : Nat) (Δ' : List Sl), lo + (i : Int) < n → Iv i Δ' → Js X B' (f (lo + (i : Int)) Δ') body { nx := Wk (Iv (i + 1)), ct := Wk (Iv (i + 1)), bk := E.nx, rt := E.rt, xc := E.xc })
    (done : ∀ Δ', Iv (n - lo).toNat Δ' → E.nx Δ') (po : PassesOwn (model X.prog X.w) X.A X.env X.xe) (hc : X.calm = true) (hm : X.mg "range" = none) (hg : PG X tg g) (hgl : Gl X "range" := by rfl) (hs : starEach [a, b] X.env = [(false, eval a X.env), (false, eval b X.env)] := by rfl) (hs2 : starEach [b] X.env = [(false, eval b X.env)] := by rfl) :
    JS X B Δ (.For tg (.Call (.Name "range" p) [a, b] [] pos') body [] pos) E := fun ow σ H De W tk S G =>
  ws_of (ps_for po hc (pi_ra2 hgl hm (pa_cons peW (pa_cons peW pa_nil hs2) (by rw [hs, hs2])) hs hs2) hg pssW) (ha.use tk S fun v H1 s1 r1 => hb.use tk (S.up s1) fun v2 H2 s2 r2 => by
    obtain ⟨Δ0, l0, h0⟩ := h0
    have S1 := (S.up (s1.trans s2)).weak l0
    have G1 := G.reb S1
    refine ⟨lo, n, by rw [rep_int r1, rep_int r2], for_range (fun i σ' H' => ∃ Δ' ow', Iv i Δ' ∧ StO X.K (B.at ow H2) Δ' ow' σ' H') ⟨Δ0, ow, h0, S1.fresh⟩ ?_ ?_⟩
    · rintro i σ' H' hi ⟨Δ', ow', iv, S'⟩
      exact gd _ _ Δ' ow' σ' H' _ _ S' int_rep fun σ2 S2 _ => turn _ i Δ' (by omega) iv ow' σ2 H' _ W tk S2
        ⟨fun Δ2 ow2 σ3 H3 ⟨Δ3, l, h⟩ S3 => ⟨Δ3, ow2, h, S3.weak l⟩, G1.rt, fun Δ2 ow2 σ3 H3 h S3 => G1.nx Δ2 ow2 σ3 H3 h S3, fun Δ2 ow2 σ3 H3 ⟨Δ3, l, h⟩ S3 => ⟨Δ3, ow2, h, S3.weak l⟩, G1.xc⟩
    · rintro σ' H' ⟨Δ', ow', iv, S'⟩
      exact G1.nx Δ' ow' σ' H' (done Δ' iv) S')
/-- while -/
theorem js_while {α : Type} {c : Expr} (Δs : α → List Sl) (Iv : α → Prop) (μ : α → Nat) (s0 : α) (h0 : Iv s0) (l0 : Le Δ (Δs s0))
    (turn : ∀ (s : α), Iv s → ∃ k, TV X B (Δs s) c k ∧ (k = true → Js X B (Δs s) body { nx := fun Δ2 => ∃ s', μ s' < μ s ∧ Iv s' ∧ Le Δ2 (Δs s'), ct := fun Δ2 => ∃ s', μ s' < μ s ∧ Iv s' ∧ Le Δ2 (Δs s'), bk := E.nx, rt := E.rt, xc := E.xc }) ∧ (k = false → E.nx (Δs s)))
    (po : PassesOwn (model X.prog X.w) X.A X.env X.xe) : JS X B Δ (.While c body [] pos) E := fun ow σ H De W tk S G =>
  ws_of (ps_while po ptW pssW) (by
    refine ⟨fun m σ' H' => ∃ s ow', μ s = m ∧ Iv s ∧ StO X.K B (Δs s) ow' σ' H', ⟨_, s0, ow, rfl, h0, S.weak l0⟩, ?_⟩
    rintro m σ' H' ⟨s, ow', rfl, iv, S'⟩
    obtain ⟨k, hc, h1, h2⟩ := turn s iv
    refine hc.use tk S' fun H2 s2 => ?_
    cases k with
    | true =>
      refine iteT ⟨fun σ3 H3 => ∃ s' ow3, μ s' < μ s ∧ Iv s' ∧ StO X.K B (Δs s') ow3 σ3 H3, fun σ3 H3 ⟨s', ow3, l, i3, S3⟩ => ⟨_, l, s', ow3, rfl, i3, S3⟩, ?_⟩
      exact h1 rfl ow' σ' H2 _ W tk (S'.up s2) ⟨fun Δ2 ow2 σ3 H3 ⟨s', l, i, le⟩ S3 => ⟨s', ow2, l, i, S3.weak le⟩, G.rt, G.nx, fun Δ2 ow2 σ3 H3 ⟨s', l, i, le⟩ S3 => ⟨s', ow2, l, i, S3.weak le⟩, G.xc⟩
    | false => exact iteF (G.nx _ ow' σ' H2 (h2 rfl) (S'.up s2)))
/-- a word behind a statement -/
theorem js_mid {α : Type} (Δm : α → List Sl) (Iv : α → Prop) (h : JS X B Δ st { E with nx := fun Δ' => ∃ s, Iv s ∧ Le Δ' (Δm s) }) (k : ∀ s, Iv s → Js X B (Δm s) rest E) : Js X B Δ (st :: rest) E := js_cons fun ow σ H De W tk S G =>
  h ow σ H De W tk S ⟨fun Δ' ow' σ' H' ⟨s, iv, le⟩ S' => G.nx (Δm s) ow' σ' H' (k s iv) (S'.weak le), G.rt, G.bk, G.ct, G.xc⟩
/-! targets as one -/
def Tgt {α : Type} (X : Cx) (tg : Expr) (en : α → D) (f : α → List Sl → List Sl) (is : List Nat) : Prop := ∃ g, PG X tg g ∧ ∀ a, GD X.K g (en a) (f a) is
theorem tg_name {α : Type} (i : Nat) {en : α → D} {x : Str} {pos : Pos} (hN : X.N.Nodup) (hi : X.N[i]? = some x := by rfl) (hx : Loc X.env.scope x := by first | exact Or.inl rfl | exact Or.inr rfl) (hf : X.fn x = true ∨ X.env.scope.names.lookup x = some .local := by first | exact .inl rfl | exact .inr rfl) :
    Tgt X (.Name x pos) en (fun a Δ => Δ.set i (.val (en a))) [i] := ⟨_, pg_name hN hi hx hf, fun _ => gd_name i⟩
end

/-! ### defs -/
section
variable (P : Program) (w : World) (K : PySem.W.Frag) (mg : Str → Option Value) (base : Heap)
abbrev Rl := List D → Except Exn D → Prop
def spR (K : PySem.W.Frag) (R : Rl) : Sp := fun vs H Q E => ∃ O ds r, (∀ a, O a → ∃ o, H a = some o) ∧ Reps K O H ds vs ∧ R ds r ∧ match r with
  | .ok d => ∀ v H', Same H H' → Rep K O H' d v → Q v H'
  | .error x => ∀ cls dd H', Same H H' → ExR K O H' x cls dd → E cls dd H'
structure Fn (k : Nat) (x : Str) (R : Rl) : Prop where
  ex : ∃ f fd ps, FnOk P w K mg base (L2.CX P w) k f fd ps (spR K R) ∧ mg x = some (.ref f) ∧ PySem.W.keepIn K (.ref f) = true ∧ Binds K fd ps []
/-- a method of the class at C -/
structure Mt (C : Addr) (k : Nat) (m : Str) (R : Rl) : Prop where
  ex : ∃ f fd ps, FnOk P w K mg base (L2.CX P w) k f fd ps (spR K R) ∧ Meth K C m f ∧ Binds K fd ps []
def endR (r : Except Exn D) : EndD := { nx := fun _ => r = .ok .non, rt := fun _ d => r = .ok d, xc := fun _ x => r = .error x }
def d0 (N : List Str) (ds : List D) : List Sl := ds.map .val ++ List.replicate (N.length - ds.length) .un
end
section
variable {P : Program} {w : World} {K : PySem.W.Frag} {mg : Str → Option Value} {base : Heap}
theorem sl_app {K : PySem.W.Frag} {O : Addr → Prop} {H : Hp} : ∀ {ds : List D} {vs : List V} {i : Nat} {d : D}, Reps K O H ds vs → (ds.map Sl.val)[i]? = some (.val d) → ∃ v, (vs.map some)[i]? = some (some v) ∧ Rep K O H d v := fun {ds vs i d} r e => by
  rw [List.getElem?_map] at e
  cases q : ds[i]? with
  | none => rw [q] at e; cases e
  | some d' =>
    rw [q] at e
    cases e
    obtain ⟨v, e1, r1⟩ := r.get q
    exact ⟨v, by rw [List.getElem?_map, e1]; rfl, r1⟩
theorem sto_start {N : List Str} {O : Addr → Prop} {H : Hp} {ds : List D} {vs : List V} (live : ∀ a, O a → ∃ o, H a = some o) (r : Reps K O H ds vs) : StO K ⟨H, O⟩ (d0 N ds) (fun _ => none) (L2.start N vs) H where
  base := Same.refl H
  live := fun a h => h.elim (live a) fun ⟨i, z⟩ => nomatch z
  sep := fun i a h => nomatch h
  inj := fun i j a h => nomatch h
  len := by unfold L2.start d0; simp [r.len]
  sl := fun i s e => by
    unfold d0 at e
    have hO : ∀ a, InO ⟨H, O⟩ (fun _ => none) a → O a := fun a h => h.elim id fun ⟨i, z⟩ => nomatch z
    rw [List.getElem?_append] at e
    split at e
    · rename_i hl
      rw [List.length_map] at hl
      have hd : ds[i]? = some ds[i] := List.getElem?_eq_getElem hl
      have es : s = .val ds[i] := by
        rw [List.getElem?_map, hd] at e
        exact (Option.some.inj e).symm
      subst es
      obtain ⟨v, e1, r1⟩ := r.get hd
      refine ⟨v, ?_, r1.less hO⟩
      unfold L2.start
      rw [List.getElem?_append, if_pos (by rw [List.length_map, ← r.len]; exact hl), List.getElem?_map, e1]
      rfl
    · have := List.mem_of_getElem? e
      rw [(List.mem_replicate.mp this).2]
      trivial
/-- what a body's proof gives -/
theorem fnok_of {x qual : Str} {st : Stmt} {f : Addr} {fd : FuncData} {N ps : List Str} {k : Nat} {R : Rl} (F : Fun K x qual st f fd) (S : FnScope N ps (defScope st)) (len : ∀ ds r, R ds r → ds.length = ps.length)
    (body : ∀ (cdv : Value) (A : Around) (outer : List Env) (s : Shared) (H : Hp) (E : XK) (B : Bas) (ds : List D) (r : Except Exn D), Room k (A.deeper (envOfC qual (defScope st) s.heap.objs.size f cdv)) → R ds r →
      Js (cxOf (L2.CX P w) P w K mg base N qual (defScope st) f cdv A outer s H E) B (d0 N ds) (defBody st) (endR r)) : FnOk P w K mg base (L2.CX P w) (k + 1) f fd ps (spR K R) := by
  refine F.okX S (fun vs H Q E h => ?_) (fun cdv A outer s H vs Q E hr h => ?_)
  · obtain ⟨O, ds, r, _, rr, hR, _⟩ := h
    rw [← rr.len]
    exact len ds r hR
  · obtain ⟨O, ds, r, live, rr, hR, hq⟩ := h
    refine ⟨_, pssW, body cdv A outer s H E ⟨H, O⟩ ds r hr hR (fun _ => none) (L2.start N vs) H _ (fun cls d _ H => E cls d H) (takes_of rfl rfl rfl rfl) (sto_start live rr) ⟨fun Δ' ow' σ' H' h S' => ?_, fun Δ' ow' σ' H' d v h S' r' => ?_, fun _ _ _ _ z => z.elim, fun _ _ _ _ z => z.elim, fun Δ' ow' σ' H' x' cls dd h S' r' => ?_⟩⟩
    · cases (show r = .ok .non from h)
      exact hq _ _ S'.base non_rep
    · cases (show r = .ok d from h)
      exact hq _ _ S'.base (r'.less fun _ z => .inl z)
    · cases (show r = .error x' from h)
      refine hq _ _ _ S'.base ⟨r'.1, r'.2.elim .inl fun ⟨d, vs, e1, e2, e3, e4⟩ => .inr ⟨d, vs, e1, e2, e3, e4.less fun _ z => .inl z⟩⟩
end
section
variable {X : Cx} {B : Bas} {Δ : List Sl} {P : D → Prop} {Ψ : Exn → Prop} {e o : Expr} {es : List Expr} {ds : List D} {d : D} {k : Nat} {x m : Str} {R : Rl} {p pos apos : Pos} {C : Addr} {ns : List Str} {xs : List D}
/-- f(..) -/
theorem je_call (F : Fn X.prog X.w X.K X.mg X.base k x R) (hr : Room k X.A) (ha : AV X B Δ (e :: es) ds) {r : Except Exn D} (hR : R ds r) (ok : ∀ d, r = .ok d → P d) (er : ∀ x, r = .error x → Ψ x) (hg : Gl X x := by rfl)
    (hdb : (x == ("__debug__" : Str)) = false := by decide) (he : starEach (e :: es) X.env = (false, eval e X.env) :: starEach es X.env := by rfl) (hpl : (backTo pos (starEach es X.env)).any (·.1) = false := by rfl) : JE X B Δ (.Call (.Name x p) (e :: es) [] pos) P Ψ := fun ow σ H Q W tk S q hx => by
  obtain ⟨f, fd, ps, G, gf, kp, b⟩ := F.ex
  refine we_of (pe_callS G hr hg gf kp b (fun σ => passAt tk σ) paW hdb he hpl) (ha.use tk S fun vs H1 s1 r1 => ⟨InO B ow, ds, r, (S.up s1).live, r1, hR, ?_⟩)
  cases r with
  | ok d => exact fun v H' s rv => q d v H' (ok d rfl) (s1.trans s) rv
  | error x => exact fun cls dd H' s rv => hx x cls dd H' (er x rfl) (s1.trans s) rv
theorem jv_call (F : Fn X.prog X.w X.K X.mg X.base k x R) (hr : Room k X.A) (ha : AV X B Δ (e :: es) ds) (hR : R ds (.ok d)) (hg : Gl X x := by rfl)
    (hdb : (x == ("__debug__" : Str)) = false := by decide) (he : starEach (e :: es) X.env = (false, eval e X.env) :: starEach es X.env := by rfl) (hpl : (backTo pos (starEach es X.env)).any (·.1) = false := by rfl) : JV X B Δ (.Call (.Name x p) (e :: es) [] pos) d := fun P Ψ pd =>
  je_call F hr ha hR (fun d' q => by cases q; exact pd) (fun x q => nomatch q) hg hdb he hpl
/-! fields -/
theorem lookup_zip : ∀ {ns : List Str} {vs : List V} {j : Nat} {f : Str} {v : V}, ns.Nodup → ns[j]? = some f → vs[j]? = some v → (ns.zip vs).lookup f = some v
  | [], vs, j, f, v, _, h, _ => by simp at h
  | n :: ns, [], j, f, v, _, _, h => by simp at h
  | n :: ns, u :: vs, 0, f, v, _, h1, h2 => by
    simp at h1 h2
    subst h1 h2
    simp [List.zip_cons_cons, List.lookup]
  | n :: ns, u :: vs, j + 1, f, v, nd, h1, h2 => by
    simp at h1 h2
    have hne : (f == n) = false := by
      rw [beq_eq_false_iff_ne]
      intro z
      subst z
      exact (List.nodup_cons.mp nd).1 (List.mem_of_getElem? h1)
    rw [List.zip_cons_cons, List.lookup_cons, hne]
    exact lookup_zip (List.nodup_cons.mp nd).2 h1 h2
theorem lookup_none : ∀ {ns : List Str} {vs : List V} {f : Str}, f ∉ ns → (ns.zip vs).lookup f = none
  | [], vs, f, _ => by simp
  | n :: ns, [], f, _ => by simp
  | n :: ns, u :: vs, f, h => by
    have hne : (f == n) = false := by
      rw [beq_eq_false_iff_ne]
      intro z
      exact h (by rw [z]; exact List.mem_cons_self)
    rw [List.zip_cons_cons, List.lookup_cons, hne]
    exact lookup_none fun z => h (List.mem_cons_of_mem _ z)
theorem jv_fld (j : Nat) {f : Str} (he : JV X B Δ e (.obj C ns xs)) (c : Cls X.K C) (n : NoAttr X.K C f) (nd : ns.Nodup) (h1 : ns[j]? = some f := by rfl) (h2 : xs[j]? = some d := by rfl) (hb : attributeBase e f X.env (eval e X.env) = eval e X.env := by rfl) : JV X B Δ (.Attribute e f pos) d := jv_mk fun ow σ H Q W tk S q =>
  we_of (pe_fld peW hb) (he.use tk S fun v H1 s1 r1 => by
    obtain ⟨a, dx, vs, rfl, _, hH, hl, r⟩ := rep_obj r1
    obtain ⟨v, e2, rv⟩ := r.get h2
    exact ⟨a, C, dx, _, v, rfl, hH, c, n, lookup_zip nd h1 e2, q v _ s1 rv⟩)
end
end Dy
namespace Dy
open PySem PySem.Spec PyProof.Rows L2
section
variable {X : Cx} {B : Bas} {Δ : List Sl} {E : EndD} {body : List Stmt} {tg iter a b : Expr} {pos : Pos} {α τ : Type}
theorem take_split {as : List α} {i : Nat} {a : α} (h : as[i]? = some a) : as = as.take i ++ a :: as.drop (i + 1) ∧ as.take (i + 1) = as.take i ++ [a] := by
  obtain ⟨hl, e⟩ := List.getElem?_eq_some_iff.mp h
  constructor
  · rw [← e, List.getElem_cons_drop hl, List.take_append_drop]
  · rw [List.take_add_one, h]
    rfl
theorem map_at {as : List α} {en : α → D} {i : Nat} {d : D} (h : (as.map en)[i]? = some d) : ∃ a, as[i]? = some a ∧ d = en a := by
  rw [List.getElem?_map] at h
  cases q : as[i]? with
  | none => rw [q] at h; cases h
  | some a => rw [q] at h; exact ⟨a, rfl, (Option.some.inj h).symm⟩
theorem Js.to {E' : EndD} {sts : List Stmt} (h : Js X B Δ sts E') (n : ∀ Δ, E'.nx Δ → E.nx Δ) (c : ∀ Δ, E'.ct Δ → E.ct Δ) (r : E'.rt = E.rt) (k : E'.bk = E.bk) (x : E'.xc = E.xc) : Js X B Δ sts E := fun ow σ H De W tk S G =>
  h ow σ H De W tk S ⟨fun Δ' ow' σ' H' h => G.nx Δ' ow' σ' H' (n Δ' h), r ▸ G.rt, k ▸ G.bk, fun Δ' ow' σ' H' h => G.ct Δ' ow' σ' H' (c Δ' h), x ▸ G.xc⟩
/-- what a turn is to reach -/
abbrev Nx (Δs : List α → τ → List Sl) (Iv : List α → τ → Prop) (pre : List α) : List Sl → Prop := fun Δ2 => ∃ s, Iv pre s ∧ Le Δ2 (Δs pre s)
theorem js_overT (as : List α) (en : α → D) (f : α → List Sl → List Sl) (Δs : List α → τ → List Sl) (Iv : List α → τ → Prop) (s0 : τ) (hi : JV X B Δ iter (.tup (as.map en))) {is : List Nat} (tgt : Tgt X tg en f is) (h0 : Iv [] s0) (l0 : Le Δ (Δs [] s0))
    (turn : ∀ (B' : Bas) (pre : List α) (a : α) (post : List α) (s : τ), as = pre ++ a :: post → Iv pre s → Js X B' (f a (Δs pre s)) body { nx := Nx Δs Iv (pre ++ [a]), ct := Nx Δs Iv (pre ++ [a]), bk := E.nx, rt := E.rt, xc := E.xc })
    (done : ∀ s, Iv as s → E.nx (Δs as s)) (po : PassesOwn (model X.prog X.w) X.A X.env X.xe) (hc : X.calm = true) (hs : ∀ x, foldedSetIterable iter X.env x = pure x := by intro _; rfl) : JS X B Δ (.For tg iter body [] pos) E := by
  obtain ⟨g, hg, gd⟩ := tgt
  exact js_forT (fun i => (as[i]?).elim id f) (fun i Δ' => ∃ s, Iv (as.take i) s ∧ Δ' = Δs (as.take i) s) hi (fun i d hd => by obtain ⟨a, ha, rfl⟩ := map_at hd; rw [ha]; exact gd a) ⟨_, l0, s0, by simpa using h0, by simp⟩
    (fun B' i d Δ' hd iv => by
      obtain ⟨a, ha, rfl⟩ := map_at hd
      obtain ⟨e1, e2⟩ := take_split ha
      obtain ⟨s, iv, rfl⟩ := iv
      show Js X B' ((as[i]?).elim id f _) body _
      rw [ha]
      have c : ∀ Δ2, Nx Δs Iv (as.take i ++ [a]) Δ2 → Wk (fun Δ' => ∃ s, Iv (as.take (i + 1)) s ∧ Δ' = Δs (as.take (i + 1)) s) Δ2 := fun Δ2 ⟨s, q1, q2⟩ => by rw [e2]; exact ⟨_, q2, s, q1, rfl⟩
      exact (turn B' _ a _ s e1 iv).to c c rfl rfl rfl)
    (fun Δ' iv => by
      obtain ⟨s, iv, rfl⟩ := iv
      rw [List.length_map, List.take_length] at iv ⊢
      exact done s iv) po hc hg hs
theorem js_overL (as : List α) (en : α → D) (f : α → List Sl → List Sl) (Δs : List α → τ → List Sl) (Iv : List α → τ → Prop) (s0 : τ) (hi : JV X B Δ iter (.lst (as.map en))) {is : List Nat} (tgt : Tgt X tg en f is) (h0 : Iv [] s0) (l0 : Le Δ (Δs [] s0))
    (turn : ∀ (B' : Bas) (pre : List α) (a : α) (post : List α) (s : τ), as = pre ++ a :: post → Iv pre s → Js X B' (f a (Δs pre s)) body { nx := Nx Δs Iv (pre ++ [a]), ct := Nx Δs Iv (pre ++ [a]), bk := E.nx, rt := E.rt, xc := E.xc })
    (done : ∀ s, Iv as s → E.nx (Δs as s)) (po : PassesOwn (model X.prog X.w) X.A X.env X.xe) (hc : X.calm = true) (hs : ∀ x, foldedSetIterable iter X.env x = pure x := by intro _; rfl) : JS X B Δ (.For tg iter body [] pos) E := by
  obtain ⟨g, hg, gd⟩ := tgt
  exact js_forL (fun i => (as[i]?).elim id f) (fun i Δ' => ∃ s, Iv (as.take i) s ∧ Δ' = Δs (as.take i) s) hi (fun i d hd => by obtain ⟨a, ha, rfl⟩ := map_at hd; rw [ha]; exact gd a) ⟨_, l0, s0, by simpa using h0, by simp⟩
    (fun B' i d Δ' hd iv => by
      obtain ⟨a, ha, rfl⟩ := map_at hd
      obtain ⟨e1, e2⟩ := take_split ha
      obtain ⟨s, iv, rfl⟩ := iv
      show Js X B' ((as[i]?).elim id f _) body _
      rw [ha]
      have c : ∀ Δ2, Nx Δs Iv (as.take i ++ [a]) Δ2 → Wk (fun Δ' => ∃ s, Iv (as.take (i + 1)) s ∧ Δ' = Δs (as.take (i + 1)) s) Δ2 := fun Δ2 ⟨s, q1, q2⟩ => by rw [e2]; exact ⟨_, q2, s, q1, rfl⟩
      exact (turn B' _ a _ s e1 iv).to c c rfl rfl rfl)
    (fun Δ' iv => by
      obtain ⟨s, iv, rfl⟩ := iv
      rw [List.length_map, List.take_length] at iv ⊢
      exact done s iv) po hc hg hs
abbrev Ni (Δs : Nat → τ → List Sl) (Iv : Nat → τ → Prop) (i : Nat) : List Sl → Prop := fun Δ2 => ∃ s, Iv i s ∧ Le Δ2 (Δs i s)
theorem js_overR1 {n : Int} {p pos' : Pos} (f : Int → List Sl → List Sl) (Δs : Nat → τ → List Sl) (Iv : Nat → τ → Prop) (s0 : τ) (ha : JV X B Δ a (.int n)) {is : List Nat} (tgt : Tgt X tg D.int f is) (h0 : Iv 0 s0) (l0 : Le Δ (Δs 0 s0))
    (turn : ∀ (B' : Bas) (i : Nat) (s : τ), (i : Int) < n → Iv i s → Js X B' (f (i : Int) (Δs i s)) body { nx := Ni Δs Iv (i + 1), ct := Ni Δs Iv (i + 1), bk := E.nx, rt := E.rt, xc := E.xc })
    (done : ∀ s, Iv n.toNat s → E.nx (Δs n.toNat s)) (po : PassesOwn (model X.prog X.w) X.A X.env X.xe) (hc : X.calm = true) (hm : X.mg "range" = none) (hgl : Gl X "range" := by rfl) (hs : starEach [a] X.env = [(false, eval a X.env)] := by rfl) :
    JS X B Δ (.For tg (.Call (.Name "range" p) [a] [] pos') body [] pos) E := by
  obtain ⟨g, hg, gd⟩ := tgt
  exact js_forR1 f (fun i Δ' => ∃ s, Iv i s ∧ Δ' = Δs i s) ha gd ⟨_, l0, s0, h0, rfl⟩ (fun B' i Δ' hi iv => by
      obtain ⟨s, iv, rfl⟩ := iv
      have c : ∀ Δ2, Ni Δs Iv (i + 1) Δ2 → Wk (fun Δ' => ∃ s, Iv (i + 1) s ∧ Δ' = Δs (i + 1) s) Δ2 := fun Δ2 ⟨s, q1, q2⟩ => ⟨_, q2, s, q1, rfl⟩
      exact (turn B' i s hi iv).to c c rfl rfl rfl)
    (fun Δ' iv => by
      obtain ⟨s, iv, rfl⟩ := iv
      exact done s iv) po hc hm hg hgl hs
theorem js_overR2 {lo n : Int} {p pos' : Pos} (f : Int → List Sl → List Sl) (Δs : Nat → τ → List Sl) (Iv : Nat → τ → Prop) (s0 : τ) (ha : JV X B Δ a (.int lo)) (hb : JV X B Δ b (.int n)) {is : List Nat} (tgt : Tgt X tg D.int f is) (h0 : Iv 0 s0) (l0 : Le Δ (Δs 0 s0))
    (turn : ∀ (B' : Bas) (i : Nat) (s : τ), lo + (i : Int) < n → Iv i s → Js X B' (f (lo + (i : Int)) (Δs i s)) body { nx := Ni Δs Iv (i + 1), ct := Ni Δs Iv (i + 1), bk := E.nx, rt := E.rt, xc := E.xc })
    (done : ∀ s, Iv (n - lo).toNat s → E.nx (Δs (n - lo).toNat s)) (po : PassesOwn (model X.prog X.w) X.A X.env X.xe) (hc : X.calm = true) (hm : X.mg "range" = none) (hgl : Gl X "range" := by rfl) (hs : starEach [a, b] X.env = [(false, eval a X.env), (false, eval b X.env)] := by rfl) (hs2 : starEach [b] X.env = [(false, eval b X.env)] := by rfl) :
    JS X B Δ (.For tg (.Call (.Name "range" p) [a, b] [] pos') body [] pos) E := by
  obtain ⟨g, hg, gd⟩ := tgt
  exact js_forR2 f (fun i Δ' => ∃ s, Iv i s ∧ Δ' = Δs i s) ha hb gd ⟨_, l0, s0, h0, rfl⟩ (fun B' i Δ' hi iv => by
      obtain ⟨s, iv, rfl⟩ := iv
      have c : ∀ Δ2, Ni Δs Iv (i + 1) Δ2 → Wk (fun Δ' => ∃ s, Iv (i + 1) s ∧ Δ' = Δs (i + 1) s) Δ2 := fun Δ2 ⟨s, q1, q2⟩ => ⟨_, q2, s, q1, rfl⟩
      exact (turn B' i s hi iv).to c c rfl rfl rfl)
    (fun Δ' iv => by
      obtain ⟨s, iv, rfl⟩ := iv
      exact done s iv) po hc hm hg hgl hs hs2
end
/-! targets of names -/
section
variable {X : Cx} {α : Type}
abbrev NmOk (X : Cx) (i : Nat) (x : Str) : Prop := X.N[i]? = some x ∧ Loc X.env.scope x ∧ (X.fn x = true ∨ X.env.scope.names.lookup x = some .local)
theorem pg_nm {i : Nat} {x : Str} {pos : Pos} (hN : X.N.Nodup) (h : NmOk X i x) : PG X (.Name x pos) (gName i) := pg_name hN h.1 h.2.1 h.2.2
theorem tg2 (i0 i1 : Nat) {e0 e1 : α → D} {x0 x1 : Str} {p0 p1 pos : Pos} {kk : Nat} (hN : X.N.Nodup) (hc : X.calm = true) (h0 : NmOk X i0 x0 := by exact ⟨rfl, by first | exact Or.inl rfl | exact Or.inr rfl, by first | exact Or.inl rfl | exact Or.inr rfl⟩) (h1 : NmOk X i1 x1 := by exact ⟨rfl, by first | exact Or.inl rfl | exact Or.inr rfl, by first | exact Or.inl rfl | exact Or.inr rfl⟩) :
    Tgt X (.Tuple [.Name x0 p0, .Name x1 p1] kk pos) (fun a => .tup [e0 a, e1 a]) (fun a Δ => (Δ.set i0 (.val (e0 a))).set i1 (.val (e1 a))) [i0, i1] := ⟨_, pg_tup hc (pgs_cons (pg_nm hN h0) (pgs_cons (pg_nm hN h1) pgs_nil)), fun a => gd_tup (gds_cons (gd_name i0) (gds_cons (gd_name i1) gds_nil)) rfl⟩
theorem tg3 (i0 i1 i2 : Nat) {e0 e1 e2 : α → D} {x0 x1 x2 : Str} {p0 p1 p2 pos : Pos} {kk : Nat} (hN : X.N.Nodup) (hc : X.calm = true) (h0 : NmOk X i0 x0 := by exact ⟨rfl, by first | exact Or.inl rfl | exact Or.inr rfl, by first | exact Or.inl rfl | exact Or.inr rfl⟩) (h1 : NmOk X i1 x1 := by exact ⟨rfl, by first | exact Or.inl rfl | exact Or.inr rfl, by first | exact Or.inl rfl | exact Or.inr rfl⟩) (h2 : NmOk X i2 x2 := by exact ⟨rfl, by first | exact Or.inl rfl | exact Or.inr rfl, by first | exact Or.inl rfl | exact Or.inr rfl⟩) :
    Tgt X (.Tuple [.Name x0 p0, .Name x1 p1, .Name x2 p2] kk pos) (fun a => .tup [e0 a, e1 a, e2 a]) (fun a Δ => ((Δ.set i0 (.val (e0 a))).set i1 (.val (e1 a))).set i2 (.val (e2 a))) [i0, i1, i2] := ⟨_, pg_tup hc (pgs_cons (pg_nm hN h0) (pgs_cons (pg_nm hN h1) (pgs_cons (pg_nm hN h2) pgs_nil))), fun a => gd_tup (gds_cons (gd_name i0) (gds_cons (gd_name i1) (gds_cons (gd_name i2) gds_nil))) rfl⟩
theorem tg4 (i0 i1 i2 i3 : Nat) {e0 e1 e2 e3 : α → D} {x0 x1 x2 x3 : Str} {p0 p1 p2 p3 pos : Pos} {kk : Nat} (hN : X.N.Nodup) (hc : X.calm = true) (h0 : NmOk X i0 x0 := by exact ⟨rfl, by first | exact Or.inl rfl | exact Or.inr rfl, by first | exact Or.inl rfl | exact Or.inr rfl⟩) (h1 : NmOk X i1 x1 := by exact ⟨rfl, by first | exact Or.inl rfl | exact Or.inr rfl, by first | exact Or.inl rfl | exact Or.inr rfl⟩) (h2 : NmOk X i2 x2 := by exact ⟨rfl, by first | exact Or.inl rfl | exact Or.inr rfl, by first | exact Or.inl rfl | exact Or.inr rfl⟩) (h3 : NmOk X i3 x3 := by exact ⟨rfl, by first | exact Or.inl rfl | exact Or.inr rfl, by first | exact Or.inl rfl | exact Or.inr rfl⟩) :
    Tgt X (.Tuple [.Name x0 p0, .Name x1 p1, .Name x2 p2, .Name x3 p3] kk pos) (fun a => .tup [e0 a, e1 a, e2 a, e3 a]) (fun a Δ => (((Δ.set i0 (.val (e0 a))).set i1 (.val (e1 a))).set i2 (.val (e2 a))).set i3 (.val (e3 a))) [i0, i1, i2, i3] := ⟨_, pg_tup hc (pgs_cons (pg_nm hN h0) (pgs_cons (pg_nm hN h1) (pgs_cons (pg_nm hN h2) (pgs_cons (pg_nm hN h3) pgs_nil)))), fun a => gd_tup (gds_cons (gd_name i0) (gds_cons (gd_name i1) (gds_cons (gd_name i2) (gds_cons (gd_name i3) gds_nil)))) rfl⟩
end
end Dy
namespace Dy
open PySem PySem.Spec PyProof.Rows L2
/-! ### list comprehensions -/
def wipeD (Δ : List Sl) : List Nat → List Sl
  | [] => Δ
  | v :: vs => (wipeD Δ vs).set v .un
theorem StO.unset {K : PySem.W.Frag} {B : Bas} {Δ : List Sl} {ow : Nat → Option Addr} {σ : L2.St} {H : Hp} (S : StO K B Δ ow σ H) (i : Nat) : StO K B (Δ.set i .un) ow (σ.set i none) H where
  base := S.base
  live := S.live
  sep := S.sep
  inj := S.inj
  len := by simp [S.len]
  sl := fun j s e => by
    by_cases hj : j = i
    · subst hj
      have hl : j < Δ.length := by
        have := (List.getElem?_eq_some_iff.mp e).1
        simpa using this
      rw [List.getElem?_set_self hl] at e
      cases e
      trivial
    · rw [List.getElem?_set_ne (Ne.symm hj)] at e
      have h := S.sl j s e
      have hσ : (σ.set i none)[j]? = σ[j]? := List.getElem?_set_ne (Ne.symm hj)
      cases s with
      | un => trivial
      | val d => obtain ⟨v, e1, r⟩ := h; exact ⟨v, hσ.trans e1, r⟩
      | own ds => obtain ⟨a, vs, e1, r⟩ := h; exact ⟨a, vs, hσ.trans e1, r⟩
      | slf C ns ds => obtain ⟨a, dx, vs, e1, r⟩ := h; exact ⟨a, dx, vs, hσ.trans e1, r⟩
theorem StO.wipe {K : PySem.W.Frag} {B : Bas} {Δ : List Sl} {ow : Nat → Option Addr} {σ : L2.St} {H : Hp} (S : StO K B Δ ow σ H) : ∀ vs : List Nat, StO K B (wipeD Δ vs) ow (L2.wipe σ vs) H
  | [] => S
  | v :: vs => (S.wipe vs).unset v
section
variable {X : Cx} {B : Bas} {Δ : List Sl} {elt tg iter : Expr} {ifs : List Expr} {scope : Scope} {own : List (Str × Nat)} {pos : Pos} {α : Type}
/-- the contexts of the block -/
def InBlk (X : Cx) (scope : Scope) (p : Cx → Prop) : Prop := ∀ (s : Shared) (H : Hp) (C : Addr) (cl : List (Str × Addr)) (fp : List Addr), p (X.blk s H scope (compEnvC scope cl C X.env) fp)
def WEb (X : Cx) (scope : Scope) (e : Expr) : TE := fun σ H Q => ∀ (s : Shared) (H' : Hp) (C : Addr) (cl : List (Str × Addr)) (fp : List Addr), WEx (X.blk s H' scope (compEnvC scope cl C X.env) fp) e σ H Q
def WTb (X : Cx) (scope : Scope) (e : Expr) : TT := fun σ H Q => ∀ (s : Shared) (H' : Hp) (C : Addr) (cl : List (Str × Addr)) (fp : List Addr), WTx (X.blk s H' scope (compEnvC scope cl C X.env) fp) e σ H Q
/-- the tests of the clause: none or one -/
def IfV (X : Cx) (scope : Scope) (ifs : List Expr) (Δ : List Sl) (k : Bool) : Prop := match ifs with
  | [] => k = true
  | [c] => ∀ B', InBlk X scope fun X' => TV X' B' Δ c k
  | _ => False
def tIfs (X : Cx) (scope : Scope) : List Expr → TT
  | [] => tYes
  | [c] => WTb X scope c
  | _ => fun _ _ _ => False
theorem pe_web : InBlk X scope fun X' => PE X' elt (WEb X scope elt) := fun s H C cl fp => ⟨fun pins s2 σ H2 Q I h => h s H C cl fp pins s2 I⟩
theorem pts_if (hl : ifs.length ≤ 1) : InBlk X scope fun X' => PTs X' ifs (tIfs X scope ifs) := fun s H C cl fp => by
  match ifs, hl with
  | [], _ => exact pts_nil
  | [c], _ => exact pts_one ⟨fun pins s2 σ H2 Q I h => h s H C cl fp pins s2 I⟩
theorem use_if {Δ : List Sl} {k : Bool} {B' : Bas} {ow : Nat → Option Addr} {σ : L2.St} {H : Hp} {Q : Bool → Hp → Prop} (h : IfV X scope ifs Δ k) (S : StO X.K B' Δ ow σ H) (q : ∀ H', Same H H' → Q k H') : tIfs X scope ifs σ H Q := by
  match ifs, h with
  | [], h => cases h; exact q H (Same.refl H)
  | [c], h => exact fun s H' C cl fp => TV.use (X := X.blk s H' scope (compEnvC scope cl C X.env) fp) (h B' s H' C cl fp) takes0 S q
/-- the block's base: all that is owned, and the list that grows, is set aside -/
noncomputable def blkB (B : Bas) (ow : Nat → Option Addr) (H1 : Hp) (p : Addr) : Bas := ⟨maskH ow H1, fun a => B.Oc a ∨ a = p⟩
structure LcS (K : PySem.W.Frag) (B : Bas) (Δ : List Sl) (ow : Nat → Option Addr) (σ : L2.St) (H1 : Hp) (p : Addr) (ds : List D) (H : Hp) : Prop where
  st : StO K (blkB B ow H1 p) Δ ow σ H
  same : Same H1 H
  acc : ∃ acc, H p = some (.lst acc) ∧ Reps K (InO (blkB B ow H1 p) ow) H ds acc
theorem inO_blk {ow : Nat → Option Addr} {H1 : Hp} {p a : Addr} : InO (blkB B ow H1 p) ow a ↔ (InO B ow a ∨ a = p) := by
  unfold InO blkB
  constructor
  · rintro ((h | h) | h)
    · exact .inl (.inl h)
    · exact .inr h
    · exact .inl (.inr h)
  · rintro ((h | h) | h)
    · exact .inl (.inl h)
    · exact .inr h
    · exact .inl (.inr h)
theorem lcs_start {K : PySem.W.Frag} {ow : Nat → Option Addr} {σ : L2.St} {H1 : Hp} {p : Addr} (S : StO K B Δ ow σ H1) (hp : H1 p = none) : LcS K B Δ ow σ H1 p [] (upd H1 p (.lst [])) := by
  have s := same_new (o := .lst []) hp
  refine ⟨⟨maskH_same.trans s, fun a h => ?_, fun i a h => ⟨maskH_own h, fun z => z.elim (S.sep i a h).2 fun q => ?_⟩, S.inj, S.len, fun i t e => ?_⟩, s, [], upd_same, Reps.nil⟩
  · rcases inO_blk.mp h with h | h
    · obtain ⟨o, e⟩ := S.live a h
      exact ⟨o, s a o e⟩
    · exact ⟨_, by rw [h]; exact upd_same⟩
  · obtain ⟨o, e⟩ := S.live a (.inr ⟨i, h⟩)
    rw [q, hp] at e
    cases e
  · have h := S.sl i t e
    have up1 : ∀ {d : D} {v : V}, Rep K (InO B ow) H1 d v → Rep K (InO (blkB B ow H1 p) ow) (upd H1 p (.lst [])) d v := fun r => ((r.add hp).up s).less fun a h => inO_blk.mp h
    have up2 : ∀ {d : List D} {v : List V}, Reps K (InO B ow) H1 d v → Reps K (InO (blkB B ow H1 p) ow) (upd H1 p (.lst [])) d v := fun r => ((r.add hp).up s).less fun a h => inO_blk.mp h
    cases t with
    | un => trivial
    | val d => obtain ⟨v, e1, r⟩ := h; exact ⟨v, e1, up1 r⟩
    | own ds => obtain ⟨b, vs, e1, e2, e3, r⟩ := h; exact ⟨b, vs, e1, e2, s _ _ e3, up2 r⟩
    | slf C ns ds => obtain ⟨b, dx, vs, e1, e2, e3, l, r⟩ := h; exact ⟨b, dx, vs, e1, e2, s _ _ e3, l, up2 r⟩
/-- one more item -/
theorem LcS.app {K : PySem.W.Frag} {ow : Nat → Option Addr} {σ : L2.St} {H1 H H4 : Hp} {p : Addr} {ds : List D} {d : D} {v : V} (L : LcS K B Δ ow σ H1 p ds H) (hp : H1 p = none) (s : Same H H4) (r : Rep K (InO (blkB B ow H1 p) ow) H4 d v) (hl : ds.length < 100000) :
    ∃ acc, H4 p = some (.lst acc) ∧ acc.length < sizeLine ∧ LcS K B Δ ow σ H1 p (ds ++ [d]) (upd H4 p (.lst (acc ++ [v]))) := by
  obtain ⟨acc, e, ra⟩ := L.acc
  have hO : InO (blkB B ow H1 p) ow p := .inl (.inr rfl)
  have so : SameO (InO (blkB B ow H1 p) ow) H4 (upd H4 p (.lst (acc ++ [v]))) := fun b u n z => by
    rw [upd_ne (fun q => n (by rw [q]; exact hO))]
    exact z
  have S4 := L.st.up s
  refine ⟨acc, s _ _ e, lt_line (by rw [← ra.len]; exact hl), ⟨⟨fun a o q => ?_, fun a h => ?_, S4.sep, S4.inj, S4.len, fun i t q => ?_⟩, fun a o q => ?_, _, upd_same, Reps.mono so (fun _ z => z) _ _ (Reps.app (ra.up s) (Reps.cons r Reps.nil))⟩⟩
  · have n : a ≠ p := fun z => by
      have q' : H1 a = some o := maskH_same a o q
      rw [z, hp] at q'
      cases q'
    rw [upd_ne n]
    exact S4.base a o q
  · by_cases n : a = p
    · exact ⟨_, by rw [n]; exact upd_same⟩
    · rw [upd_ne n]
      exact S4.live a h
  · have h := S4.sl i t q
    have ne : ∀ b, ow i = some b → b ≠ p := fun b hb z => (S4.sep i b hb).2 (.inr z)
    cases t with
    | un => trivial
    | val d => obtain ⟨v, e1, r⟩ := h; exact ⟨v, e1, Rep.mono so (fun _ z => z) _ _ r⟩
    | own ds => obtain ⟨b, vs, e1, e2, e3, r⟩ := h; exact ⟨b, vs, e1, e2, by rw [upd_ne (ne b e2)]; exact e3, Reps.mono so (fun _ z => z) _ _ r⟩
    | slf C ns ds => obtain ⟨b, dx, vs, e1, e2, e3, l, r⟩ := h; exact ⟨b, dx, vs, e1, e2, by rw [upd_ne (ne b e2)]; exact e3, l, Reps.mono so (fun _ z => z) _ _ r⟩
  · rw [upd_ne (ne_of_none q hp)]
    exact s _ _ (L.same a o q)
theorem LcS.up {K : PySem.W.Frag} {ow : Nat → Option Addr} {σ : L2.St} {H1 H H4 : Hp} {p : Addr} {ds : List D} (L : LcS K B Δ ow σ H1 p ds H) (s : Same H H4) : LcS K B Δ ow σ H1 p ds H4 := by
  obtain ⟨acc, e, ra⟩ := L.acc
  exact ⟨L.st.up s, L.same.trans s, acc, s _ _ e, ra.up s⟩
theorem wipe_wipe {σ : L2.St} {vs : List Nat} : L2.wipe (L2.wipe σ vs) vs = L2.wipe σ vs := wipe_eq (L2.wipe_length σ vs) fun j h => by rw [wipe_get, if_neg (fun z => h z.1)]
/-- a turn of the block -/
theorem lc_turn {c : α → Bool} {el : α → D} {f : α → List Sl → List Sl} {is vs : List Nat} {g : TG} {en : α → D} {ow : Nat → Option Addr} {σ : L2.St} {H1 H : Hp} {p : Addr} {ds : List D} {a : α} {v : V}
    (gd : GD X.K g (en a) (f a) is) (hv : ∀ i ∈ is, i ∈ vs) (ht : IfV X scope ifs (f a (wipeD Δ vs)) (c a)) (he : c a = true → ∀ B', InBlk X scope fun X' => JV X' B' (f a (wipeD Δ vs)) elt (el a))
    (hp : H1 p = none) (L : LcS X.K B (wipeD Δ vs) ow (L2.wipe σ vs) H1 p ds H) (r : Rep X.K (InO (blkB B ow H1 p) ow) H (en a) v) (hl : ds.length < 100000) {Nx : Hp → Prop}
    (hn : ∀ H', LcS X.K B (wipeD Δ vs) ow (L2.wipe σ vs) H1 p (if c a then ds ++ [el a] else ds) H' → Nx H') :
    g v (L2.wipe σ vs) H fun σ2 H2 => L2.wipe σ2 vs = L2.wipe σ vs ∧ tIfs X scope ifs σ2 H2 fun b H3 => if b = true then WEb X scope elt σ2 H3 fun y H4 => ∃ acc, H4 p = some (.lst acc) ∧ acc.length < sizeLine ∧ Nx (upd H4 p (.lst (acc ++ [y]))) else Nx H3 := by
  refine gd _ _ ow _ H v _ L.st r fun σ2 S2 ch => ⟨?_, use_if ht S2 fun H3 s3 => ?_⟩
  · rw [← wipe_wipe (σ := σ)]
    exact wipe_eq ch.1 fun j h => ch.2 j fun z => h (hv j z)
  · cases hc : c a with
    | false =>
      refine iteF (hn _ ?_)
      rw [hc]
      exact L.up s3
    | true =>
      refine iteT fun s H' C cl fp => ?_
      refine JV.use (X := X.blk s H' scope (compEnvC scope cl C X.env) fp) (he hc _ s H' C cl fp) takes0 (S2.up s3) fun y H4 s4 ry => ?_
      obtain ⟨acc, e, hz, L'⟩ := L.app hp (s3.trans s4) ry hl
      refine ⟨acc, e, hz, hn _ ?_⟩
      rw [hc]
      exact L'
theorem mem_own {own : List (Str × Nat)} : True := trivial
variable {c : α → Bool} {el : α → D} {f : α → List Sl → List Sl} {is : List Nat} {en : α → D}
theorem filt_take {as : List α} {i : Nat} {a : α} (h : as[i]? = some a) : ((as.take (i + 1)).filter c).map el = if c a then ((as.take i).filter c).map el ++ [el a] else ((as.take i).filter c).map el := by
  rw [List.take_add_one, h]
  simp only [Option.toList_some, List.filter_append, List.map_append]
  cases q : c a with
  | true => rw [if_pos rfl, List.filter_cons_of_pos q]; rfl
  | false => rw [if_neg Bool.false_ne_true, List.filter_cons_of_neg (by rw [q]; exact Bool.false_ne_true)]; simp
theorem filt_len {as : List α} {i : Nat} (h : as.length ≤ 100000) (hi : i < as.length) : (((as.take i).filter c).map el).length < 100000 := by
  rw [List.length_map]
  have h1 : ((as.take i).filter c).length ≤ (as.take i).length := List.length_filter_le ..
  rw [List.length_take] at h1
  omega
/-- a list comprehension, as a value or to be stored -/
def LcV (X : Cx) (B : Bas) (Δ : List Sl) (elt tg iter : Expr) (ifs : List Expr) (scope : Scope) (ds : List D) : Prop :=
  ∃ (wi : TI) (g : TG) (tt : TT) (te : TE) (own : List (Str × Nat)), X.calm = true ∧ X.N.Nodup ∧ PI X tg iter wi ∧ BlkOk X.N X.env.scope scope own ∧ (InBlk X scope fun X' => PG X' tg g) ∧ (InBlk X scope fun X' => PTs X' ifs tt) ∧ (InBlk X scope fun X' => PE X' elt te) ∧
    (∀ x, foldedSetIterable iter X.env x = pure x) ∧ ∀ (ow : Nat → Option Addr) (σ : L2.St) (H : Hp) (Q : VK) (W : WX), Takes X W → StO X.K B Δ ow σ H →
      (∀ p vs H', H p = none → Same H H' → H' p = some (.lst vs) → Reps X.K (fun a => InO B ow a ∨ a = p) H' ds vs → Q (.ref p) H') → tLc wi g tt te (own.map (·.2)) σ H Q
theorem LcV.fl {ds : List D} (h : LcV X B Δ elt tg iter ifs scope ds) : FL X B Δ (.ListComp elt [⟨tg, iter, ifs, 0⟩] scope pos) ds := fun ow σ H Q W tk S q => by
  obtain ⟨wi, g, tt, te, own, hc, hN, hi, ok, hg, ht, he, hs, h⟩ := h
  exact we_of (pe_lc hc hN hi ok hg ht he hs) (h ow σ H Q W tk S q)
theorem LcV.cast {ds es : List D} (h : LcV X B Δ elt tg iter ifs scope ds) (q : ds = es) : LcV X B Δ elt tg iter ifs scope es := q ▸ h
/-- name = [..], on one line -/
theorem js_setLc (i : Nat) {β : Type} (en : β → D) (l0 : List β) {E : EndD} {x : Str} {pos' spos : Pos} (he : LcV X B Δ elt tg iter ifs scope (l0.map en)) (k : ∀ v, v = l0 → E.nx (Δ.set i (.own (v.map en)))) (hi : X.N[i]? = some x := by rfl) (hx : X.env.scope.names.lookup x = some .local := by rfl)
    (hk : X.env.scope.kind = .function := by rfl) (hl : (pos'.line == pos.line) = true := by rfl) (ha : (scope.names.any fun (n, k) => n == x && (k == .local || k == .cell)) = false := by decide +kernel) :
    JS X B Δ (.Assign [.Name x pos'] (.ListComp elt [⟨tg, iter, ifs, 0⟩] scope pos) spos) E := fun ow σ H De W tk S G => by
  obtain ⟨wi, g, tt, te, own, hc, hN, hit, ok, hg, ht, hel, hs, h⟩ := he
  exact ws_of (ps_setLc hc hN hi hx (sw_true hk hx hl ha) hit ok hg ht hel hs) (h ow σ H _ W tk S fun p vs H' hp s hL r => G.nx _ _ _ H' (k l0 rfl) (S.own hp s hL r))
/-- [elt for tg in iter if ..], iter a tuple -/
theorem lc_compT (own : List (Str × Nat)) (as : List α) (en : α → D) (f : α → List Sl → List Sl) (c : α → Bool) (el : α → D) (hi : JV X B Δ iter (.tup (as.map en))) (tgt : ∃ g, (InBlk X scope fun X' => PG X' tg g) ∧ ∀ a, GD X.K g (en a) (f a) is)
    (ht : ∀ a ∈ as, IfV X scope ifs (f a (wipeD Δ (own.map (·.2)))) (c a)) (he : ∀ a ∈ as, c a = true → ∀ B', InBlk X scope fun X' => JV X' B' (f a (wipeD Δ (own.map (·.2)))) elt (el a)) (hz : as.length ≤ 100000)
    (hc : X.calm = true) (hN : X.N.Nodup) (ok : blkC X.N X.env.scope scope own = true := by decide +kernel) (hv : ∀ i ∈ is, i ∈ own.map (·.2) := by decide) (hl : ifs.length ≤ 1 := by decide) (hs : ∀ x, foldedSetIterable iter X.env x = pure x := by intro _; rfl) :
    LcV X B Δ elt tg iter ifs scope ((as.filter c).map el) := by
  obtain ⟨g, hg, gd⟩ := tgt
  refine ⟨iTup X.K (WEx X iter), g, _, _, own, hc, hN, (pi_tup peW), blkOk_by ok, hg, pts_if hl, pe_web (scope := scope), hs, fun ow σ H Q W tk S q => ?_⟩
  refine hi.use tk S fun v H1 s1 r1 => ?_
  obtain ⟨a0, vs, rfl, hL, r⟩ := rep_tup r1
  have S1 := S.up s1
  refine ⟨a0, rfl, ⟨vs, hL.sq⟩, fun p hp => lc_tup (K := X.K) (a := a0) (xs := vs) (fun i H' => LcS X.K B (wipeD Δ (own.map (·.2))) ow (L2.wipe σ (own.map (·.2))) H1 p (((as.take i).filter c).map el) H') (lcs_start (S1.wipe _) hp) (fun i H' _ L => ?_) (fun i v H' hx L => ?_) fun H' L => ?_⟩
  · exact sqT_same (fun o e => L.same _ o e) hL.sq
  · have hlt := (List.getElem?_eq_some_iff.mp hx).1
    rw [← r.len, List.length_map] at hlt
    have ha : as[i]? = some as[i] := List.getElem?_eq_getElem hlt
    obtain ⟨v', e, rv⟩ := r.get (i := i) (d := en as[i]) (by rw [List.getElem?_map, ha]; rfl)
    rw [hx] at e
    cases e
    refine lc_turn (gd as[i]) hv (ht _ (List.getElem_mem hlt)) (he _ (List.getElem_mem hlt)) hp L (((rv.add hp).up L.same).less fun a h => inO_blk.mp h) (filt_len hz hlt) fun H' L' => ?_
    rw [filt_take ha]
    exact L'
  · rw [← r.len, List.length_map, List.take_length] at L
    obtain ⟨acc, e, ra⟩ := L.acc
    exact q p acc H' (free_back s1 hp) (s1.trans L.same) e (ra.less fun a h => inO_blk.mpr h)
theorem lc_compL (own : List (Str × Nat)) (as : List α) (en : α → D) (f : α → List Sl → List Sl) (c : α → Bool) (el : α → D) (hi : RV X B Δ iter (as.map en)) (tgt : ∃ g, (InBlk X scope fun X' => PG X' tg g) ∧ ∀ a, GD X.K g (en a) (f a) is)
    (ht : ∀ a ∈ as, IfV X scope ifs (f a (wipeD Δ (own.map (·.2)))) (c a)) (he : ∀ a ∈ as, c a = true → ∀ B', InBlk X scope fun X' => JV X' B' (f a (wipeD Δ (own.map (·.2)))) elt (el a)) (hz : as.length ≤ 100000)
    (hc : X.calm = true) (hN : X.N.Nodup) (ok : blkC X.N X.env.scope scope own = true := by decide +kernel) (hv : ∀ i ∈ is, i ∈ own.map (·.2) := by decide) (hl : ifs.length ≤ 1 := by decide) (hs : ∀ x, foldedSetIterable iter X.env x = pure x := by intro _; rfl) :
    LcV X B Δ elt tg iter ifs scope ((as.filter c).map el) := by
  obtain ⟨g, hg, gd⟩ := tgt
  refine ⟨iList X.K (WEx X iter), g, _, _, own, hc, hN, (pi_list peW), blkOk_by ok, hg, pts_if hl, pe_web (scope := scope), hs, fun ow σ H Q W tk S q => ?_⟩
  refine hi ow σ H _ W tk S fun a0 vs H1 s1 hL r => ?_
  have S1 := S.up s1
  refine ⟨a0, rfl, ⟨vs, hL⟩, fun p hp => lc_list (K := X.K) (a := a0) (xs := vs) (fun i H' => LcS X.K B (wipeD Δ (own.map (·.2))) ow (L2.wipe σ (own.map (·.2))) H1 p (((as.take i).filter c).map el) H') (lcs_start (S1.wipe _) hp) (fun i H' _ L => ?_) (fun i v H' hx L => ?_) fun H' L => ?_⟩
  · exact sqL_same (fun o e => L.same _ o e) hL
  · have hlt := (List.getElem?_eq_some_iff.mp hx).1
    rw [← r.len, List.length_map] at hlt
    have ha : as[i]? = some as[i] := List.getElem?_eq_getElem hlt
    obtain ⟨v', e, rv⟩ := r.get (i := i) (d := en as[i]) (by rw [List.getElem?_map, ha]; rfl)
    rw [hx] at e
    cases e
    refine lc_turn (gd as[i]) hv (ht _ (List.getElem_mem hlt)) (he _ (List.getElem_mem hlt)) hp L (((rv.add hp).up L.same).less fun a h => inO_blk.mp h) (filt_len hz hlt) fun H' L' => ?_
    rw [filt_take ha]
    exact L'
  · rw [← r.len, List.length_map, List.take_length] at L
    obtain ⟨acc, e, ra⟩ := L.acc
    exact q p acc H' (free_back s1 hp) (s1.trans L.same) e (ra.less fun a h => inO_blk.mpr h)
/-- the iota of a range -/
def iota (lo : Int) (n : Nat) : List Int := (List.range n).map fun (i : Nat) => lo + (i : Int)
theorem ints_len (lo : Int) (n : Nat) : (iota lo n).length = n := by simp [iota]
theorem ints_at (lo : Int) (n i : Nat) (h : i < n) : (iota lo n)[i]? = some (lo + (i : Int)) := by simp [iota, h]
theorem ints_mem (lo : Int) (n : Nat) (x : Int) : x ∈ iota lo n ↔ lo ≤ x ∧ x < lo + n := by
  unfold iota
  rw [List.mem_map]
  constructor
  · rintro ⟨i, h, rfl⟩
    rw [List.mem_range] at h
    omega
  · rintro ⟨h1, h2⟩
    exact ⟨(x - lo).toNat, by rw [List.mem_range]; omega, by omega⟩
theorem lc_compR1 {a : Expr} {n : Int} {p0 pos' : Pos} (own : List (Str × Nat)) (f : Int → List Sl → List Sl) (c : Int → Bool) (el : Int → D) (ha : JV X B Δ a (.int n)) (hn : n ≤ 100000) (tgt : ∃ g, (InBlk X scope fun X' => PG X' tg g) ∧ ∀ a : Int, GD X.K g (.int a) (f a) is)
    (ht : ∀ x : Int, 0 ≤ x → x < n → IfV X scope ifs (f x (wipeD Δ (own.map (·.2)))) (c x)) (he : ∀ x : Int, 0 ≤ x → x < n → c x = true → ∀ B', InBlk X scope fun X' => JV X' B' (f x (wipeD Δ (own.map (·.2)))) elt (el x))
    (hc : X.calm = true) (hN : X.N.Nodup) (hm : X.mg "range" = none) (ok : blkC X.N X.env.scope scope own = true := by decide +kernel) (hv : ∀ i ∈ is, i ∈ own.map (·.2) := by decide) (hl : ifs.length ≤ 1 := by decide) (hgl : Gl X "range" := by rfl) (hst : starEach [a] X.env = [(false, eval a X.env)] := by rfl)
    (hs : ∀ x, foldedSetIterable (.Call (.Name "range" p0) [a] [] pos') X.env x = pure x := by intro _; rfl) :
    LcV X B Δ elt tg (.Call (.Name "range" p0) [a] [] pos') ifs scope (((iota 0 n.toNat).filter c).map el) := by
  obtain ⟨g, hg, gd⟩ := tgt
  refine ⟨iRa1 (tCons (WEx X a) tNil), g, _, _, own, hc, hN, (pi_ra1 hgl hm (pa_cons peW pa_nil hst) hst), blkOk_by ok, hg, pts_if hl, pe_web (scope := scope), hs, fun ow σ H Q W tk S q => ?_⟩
  refine ha.use tk S fun v H1 s1 r1 => ?_
  have S1 := S.up s1
  refine ⟨n, by rw [rep_int r1], fun p hp => lc_range (fun i H' => LcS X.K B (wipeD Δ (own.map (·.2))) ow (L2.wipe σ (own.map (·.2))) H1 p ((((iota 0 n.toNat).take i).filter c).map el) H') (lcs_start (S1.wipe _) hp) (fun i H' hx L => ?_) fun H' L => ?_⟩
  · have ha : (iota 0 n.toNat)[i]? = some (0 + (i : Int)) := ints_at _ _ _ hx
    refine lc_turn (gd _) hv (ht _ (by omega) (by omega)) (he _ (by omega) (by omega)) hp L int_rep (filt_len (by rw [ints_len]; omega) (by rw [ints_len]; exact hx)) fun H' L' => ?_
    rw [filt_take ha]
    exact L'
  · have e : (iota 0 n.toNat).take n.toNat = iota 0 n.toNat := by
      rw [List.take_of_length_le]
      rw [ints_len]
      exact Nat.le_refl _
    rw [e] at L
    obtain ⟨acc, e, ra⟩ := L.acc
    exact q p acc H' (free_back s1 hp) (s1.trans L.same) e (ra.less fun a h => inO_blk.mpr h)
theorem lc_compR2 {a b : Expr} {lo n : Int} {p0 pos' : Pos} (own : List (Str × Nat)) (f : Int → List Sl → List Sl) (c : Int → Bool) (el : Int → D) (ha : JV X B Δ a (.int lo)) (hb : JV X B Δ b (.int n)) (hn : n - lo ≤ 100000) (tgt : ∃ g, (InBlk X scope fun X' => PG X' tg g) ∧ ∀ a : Int, GD X.K g (.int a) (f a) is)
    (ht : ∀ x : Int, lo ≤ x → x < n → IfV X scope ifs (f x (wipeD Δ (own.map (·.2)))) (c x)) (he : ∀ x : Int, lo ≤ x → x < n → c x = true → ∀ B', InBlk X scope fun X' => JV X' B' (f x (wipeD Δ (own.map (·.2)))) elt (el x))
    (hc : X.calm = true) (hN : X.N.Nodup) (hm : X.mg "range" = none) (ok : blkC X.N X.env.scope scope own = true := by decide +kernel) (hv : ∀ i ∈ is, i ∈ own.map (·.2) := by decide) (hl : ifs.length ≤ 1 := by decide) (hgl : Gl X "range" := by rfl) (hst : starEach [a, b] X.env = [(false, eval a X.env), (false, eval b X.env)] := by rfl) (hst2 : starEach [b] X.env = [(false, eval b X.env)] := by rfl)
    (hs : ∀ x, foldedSetIterable (.Call (.Name "range" p0) [a, b] [] pos') X.env x = pure x := by intro _; rfl) :
    LcV X B Δ elt tg (.Call (.Name "range" p0) [a, b] [] pos') ifs scope (((iota lo (n - lo).toNat).filter c).map el) := by
  obtain ⟨g, hg, gd⟩ := tgt
  refine ⟨iRa2 (tCons (WEx X a) (tCons (WEx X b) tNil)), g, _, _, own, hc, hN, (pi_ra2 hgl hm (pa_cons peW (pa_cons peW pa_nil hst2) (by rw [hst, hst2])) hst hst2), blkOk_by ok, hg, pts_if hl, pe_web (scope := scope), hs, fun ow σ H Q W tk S q => ?_⟩
  refine ha.use tk S fun v H0 s0 r0 => hb.use tk (S.up s0) fun v2 H1 s1' r1 => ?_
  have s1 := s0.trans s1'
  have S1 := S.up s1
  refine ⟨lo, n, by rw [rep_int r0, rep_int r1], fun p hp => lc_range (fun i H' => LcS X.K B (wipeD Δ (own.map (·.2))) ow (L2.wipe σ (own.map (·.2))) H1 p ((((iota lo (n - lo).toNat).take i).filter c).map el) H') (lcs_start (S1.wipe _) hp) (fun i H' hx L => ?_) fun H' L => ?_⟩
  · have ha : (iota lo (n - lo).toNat)[i]? = some (lo + (i : Int)) := ints_at _ _ _ hx
    refine lc_turn (gd _) hv (ht _ (by omega) (by omega)) (he _ (by omega) (by omega)) hp L int_rep (filt_len (by rw [ints_len]; omega) (by rw [ints_len]; exact hx)) fun H' L' => ?_
    rw [filt_take ha]
    exact L'
  · have e : (iota lo (n - lo).toNat).take (n - lo).toNat = iota lo (n - lo).toNat := by
      rw [List.take_of_length_le]
      rw [ints_len]
      exact Nat.le_refl _
    rw [e] at L
    obtain ⟨acc, e, ra⟩ := L.acc
    exact q p acc H' (free_back s1 hp) (s1.trans L.same) e (ra.less fun a h => inO_blk.mpr h)
/-! targets in the block -/
def BTgt (X : Cx) (scope : Scope) (tg : Expr) (en : α → D) (f : α → List Sl → List Sl) (is : List Nat) : Prop := ∃ g, (InBlk X scope fun X' => PG X' tg g) ∧ ∀ a, GD X.K g (en a) (f a) is
end
end Dy
namespace Dy
open PySem PySem.Spec PyProof.Rows L2
/-! ### what the printed proofs use -/
abbrev eQ {α : Type} (en : α → D) (l : List α) : D := .tup (l.map en)
abbrev eL {α : Type} (en : α → D) (l : List α) : D := .lst (l.map en)
abbrev eP {α β : Type} (e1 : α → D) (e2 : β → D) (p : α × β) : D := .tup [e1 p.1, e2 p.2]
abbrev eX (d : D) : D := d
def eO {α : Type} (en : α → D) : Option α → D
  | none => .non
  | some a => en a
def nth {α : Type} [Inhabited α] (l : List α) (i : Int) : α := l.getD i.toNat default
theorem nth_nat {α : Type} [Inhabited α] {l : List α} {i : Nat} {a : α} (h : l[i]? = some a) : nth l (i : Int) = a := by simp [nth, List.getD, h]
theorem atI_pos {α : Type} {ds : List α} {i : Int} (h0 : 0 ≤ i) (h1 : i < ds.length) : atI ds i = ds[i.toNat]? := by
  unfold atI ixN
  rw [if_pos h0, if_pos h1]
  rfl
theorem atI_neg {α : Type} {ds : List α} {i : Int} (h0 : i < 0) (h1 : -(ds.length : Int) ≤ i) : atI ds i = ds[(i + ds.length).toNat]? := by
  unfold atI ixN
  rw [if_neg (by omega), if_pos h1]
  rfl
theorem atI_nth {α : Type} [Inhabited α] {en : α → D} {l : List α} {i : Int} (h0 : 0 ≤ i) (h1 : i < l.length) : atI (l.map en) i = some (en (nth l i)) := by
  have hl : i.toNat < l.length := by omega
  rw [atI_pos h0 (by simpa using h1), List.getElem?_map, nth, List.getD, List.getElem?_eq_getElem hl]
  rfl
theorem atI_last' {α : Type} [Inhabited α] {en : α → D} {l : List α} {k : Int} (hk : k < 0) (h : -(l.length : Int) ≤ k) : atI (l.map en) k = some (en (nth l (l.length + k))) := by
  have hl : (k + l.length).toNat < l.length := by omega
  have e : ((l.length : Int) + k).toNat = (k + l.length).toNat := by omega
  rw [atI_neg hk (by simpa using h), List.length_map, List.getElem?_map, nth, List.getD, e, List.getElem?_eq_getElem hl]
  rfl
theorem map_cutD {α : Type} {en : α → D} {l : List α} {lo hi : Option Int} : cutD (l.map en) lo hi = (cutD l lo hi).map en := by
  unfold cutD
  rw [List.length_map, List.map_take, List.map_drop]
theorem cutD_len {α : Type} {l : List α} {lo hi : Option Int} : (cutD l lo hi).length ≤ l.length := by
  unfold cutD
  rw [List.length_take, List.length_drop]
  omega
section
variable {X : Cx} {B : Bas} {Δ : List Sl} {E : EndD} {e a b : Expr} {pos : Pos} {α : Type} {en : α → D}
theorem jv_v (i : Nat) (d : D) {x : Str} {pos : Pos} (h : Δ[i]? = some (.val d) := by rfl) (hN : X.N[i]? = some x := by rfl) (hv : Vis X.env.scope x := by first | exact Or.inl rfl | exact Or.inr (Or.inl rfl) | exact Or.inr (Or.inr rfl))
    (hd : (x == ("__debug__" : Str)) = false := by decide) (hcd : (x == ("__classdict__" : Str)) = false := by decide) : JV X B Δ (.Name x pos) d := jv_var i h hN hv hd hcd
theorem JV.to (y : D) {x : D} (h : JV X B Δ a x) (e : x = y) : JV X B Δ a y := e ▸ h
theorem FL.to {ds : List D} (en : α → D) (l : List α) (h : FL X B Δ e ds) (q : ds = l.map en) : FL X B Δ e (l.map en) := q ▸ h
theorem js_setE (i : Nat) (en : α → D) (v0 : α) {x : Str} {pos' : Pos} (he : JV X B Δ e (en v0)) (k : ∀ v, v = v0 → E.nx (Δ.set i (.val (en v)))) (hN : X.N.Nodup) (hi : X.N[i]? = some x := by rfl) (hx : Loc X.env.scope x := by first | exact Or.inl rfl | exact Or.inr rfl)
    (hs : swapsWith e (some (.Name x pos')) pos.line X.env = pure false := by rfl) (hf : X.fn x = true ∨ X.env.scope.names.lookup x = some .local := by first | exact .inl rfl | exact .inr rfl) : JS X B Δ (.Assign [.Name x pos'] e pos) E :=
  js_set i he (k v0 rfl) hN hi hx hs hf
theorem js_setLE (i : Nat) (en : α → D) (l0 : List α) {x : Str} {pos' : Pos} (he : FL X B Δ e (l0.map en)) (k : ∀ v, v = l0 → E.nx (Δ.set i (.own (v.map en)))) (hN : X.N.Nodup) (hi : X.N[i]? = some x := by rfl) (hx : Loc X.env.scope x := by first | exact Or.inl rfl | exact Or.inr rfl)
    (hs : swapsWith e (some (.Name x pos')) pos.line X.env = pure false := by rfl) (hf : X.fn x = true ∨ X.env.scope.names.lookup x = some .local := by first | exact .inl rfl | exact .inr rfl) : JS X B Δ (.Assign [.Name x pos'] e pos) E :=
  js_setL i he (k l0 rfl) hN hi hx hs hf
theorem js_appE (i : Nat) (en : α → D) (l : List α) (v0 : α) {x : Str} {px apos cpos : Pos} (he : JV X B Δ e (en v0)) (hl : l.length < 100000) (k : ∀ v, v = l ++ [v0] → E.nx (Δ.set i (.own (v.map en)))) (h : Δ[i]? = some (.own (l.map en)) := by rfl)
    (hN : X.N[i]? = some x := by rfl) (hv : Vis X.env.scope x := by first | exact Or.inl rfl | exact Or.inr (Or.inl rfl) | exact Or.inr (Or.inr rfl)) (hd : (x == ("__debug__" : Str)) = false := by decide) (hcd : (x == ("__classdict__" : Str)) = false := by decide)
    (hp : PE X (.Call (.Attribute (.Name x px) "append" apos) [e] [] cpos) (tBM X.K "list" rAppend (tVar i) (tCons (WEx X e) tNil)) := by exact pe_bm PySem.F.plainAttrs_list PySem.F.slot_list_append PySem.F.type_list_append mt_append (pv _) (pa_cons peW pa_nil))
    (hs : swapsWith (.Call (.Attribute (.Name x px) "append" apos) [e] [] cpos) none pos.line X.env = pure false := by rfl) : JS X B Δ (.Expr (.Call (.Attribute (.Name x px) "append" apos) [e] [] cpos) pos) E := by
  refine js_app i he ?_ (by simpa using hl) h hN hv hd hcd hp hs
  have := k _ rfl
  rw [List.map_append] at this
  exact this
/-- a script's cell -/
theorem jv_ixS {ns : List Int} {i : Int} (ha : JV X B Δ a (.scr ns)) (hb : JV X B Δ b (.int i)) (h0 : 0 ≤ i) (h1 : i < ns.length) (hs : PlainIx b := by exact fun _ _ => rfl) : JV X B Δ (.Subscript a b pos) (.int (nth ns i)) :=
  jv_ixL ha.sv hb (atI_nth h0 h1) hs
/-! chains of two comparisons of ints -/
structure ChI (X : Cx) (op : CmpOp) (r : R2) (p : Int → Int → Bool) : Prop where
  ok : OpR X (compareOp op) r
  sp : ∀ (K : PySem.W.Frag) (i j : Int), OpS K r (.int i) (.int j) (.bl (p i j))
theorem ci_lt : ChI X .Lt (rI0 fun i j => .bl (decide (i < j))) (fun i j => decide (i < j)) := ⟨op_lt, fun _ i j => opS_I (d := fun i j => .bl (decide (i < j))) fun _ _ => bl_rep⟩
theorem ci_le : ChI X .LtE (rI0 fun i j => .bl (decide (i ≤ j))) (fun i j => decide (i ≤ j)) := ⟨op_le, fun _ i j => opS_I (d := fun i j => .bl (decide (i ≤ j))) fun _ _ => bl_rep⟩
theorem ci_gt : ChI X .Gt (rI0 fun i j => .bl (decide (j < i))) (fun i j => decide (j < i)) := ⟨op_gt, fun _ i j => opS_I (d := fun i j => .bl (decide (j < i))) fun _ _ => bl_rep⟩
theorem ci_ge : ChI X .GtE (rI0 fun i j => .bl (decide (j ≤ i))) (fun i j => decide (j ≤ i)) := ⟨op_ge, fun _ i j => opS_I (d := fun i j => .bl (decide (j ≤ i))) fun _ _ => bl_rep⟩
variable {c : Expr} {i j k : Int} {op op' : CmpOp} {r r' : R2} {p p' : Int → Int → Bool}
theorem tv_ch2 (h1 : ChI X op r p) (h2 : ChI X op' r' p') (ha : JV X B Δ a (.int i)) (hb : JV X B Δ b (.int j)) (hc : JV X B Δ c (.int k)) (hm : lastMarks [op, op'] [b, c] = false := by with_unfolding_all rfl) : TV X B Δ (.Compare a [op, op'] [b, c] pos) (p i j && p' j k) :=
  tv_mk fun ow σ H Q W tk S q => wt_of (pt_chain h1.ok h2.ok peW peW peW hm) (ha.use tk S fun u H1 s1 r1 => hb.use tk (S.up s1) fun v H2 s2 r2 => by
    refine h1.sp X.K i j _ H2 u v _ (S.up (s1.trans s2)).live (r1.up s2) r2 fun t H3 s3 r3 => ⟨p i j, rep_bl r3, ?_⟩
    cases hp : p i j with
    | true =>
      rw [hp] at q
      refine iteT (hc.use tk (S.up ((s1.trans s2).trans s3)) fun w H4 s4 r4 => ?_)
      exact h2.sp X.K j k _ H4 v w _ (S.up (((s1.trans s2).trans s3).trans s4)).live (r2.up (s3.trans s4)) r4 fun t H' s' r' => ⟨_, rep_bl r', q H' ((((s1.trans s2).trans s3).trans s4).trans s')⟩
    | false =>
      rw [hp] at q
      exact iteF ⟨false, rfl, q H3 ((s1.trans s2).trans s3)⟩)
theorem jv_ch2 (h1 : ChI X op r p) (h2 : ChI X op' r' p') (ha : JV X B Δ a (.int i)) (hb : JV X B Δ b (.int j)) (hc : JV X B Δ c (.int k)) (hm : lastMarks [op, op'] [b, c] = false := by with_unfolding_all rfl) : JV X B Δ (.Compare a [op, op'] [b, c] pos) (.bl (p i j && p' j k)) :=
  jv_mk fun ow σ H Q W tk S q => we_of (pe_chain h1.ok h2.ok peW peW peW hm) (ha.use tk S fun u H1 s1 r1 => hb.use tk (S.up s1) fun v H2 s2 r2 => by
    refine h1.sp X.K i j _ H2 u v _ (S.up (s1.trans s2)).live (r1.up s2) r2 fun t H3 s3 r3 => ⟨p i j, rep_bl r3, ?_⟩
    cases hp : p i j with
    | true =>
      rw [hp] at q
      refine iteT (hc.use tk (S.up ((s1.trans s2).trans s3)) fun w H4 s4 r4 => ?_)
      exact h2.sp X.K j k _ H4 v w _ (S.up (((s1.trans s2).trans s3).trans s4)).live (r2.up (s3.trans s4)) r4 fun t H' s' r' => q _ H' ((((s1.trans s2).trans s3).trans s4).trans s') r'
    | false =>
      rw [hp] at q
      exact iteF (q _ H3 ((s1.trans s2).trans s3) bl_rep))
theorem max_py (i j : Int) : (if j > i then j else i) = max i j := by split <;> omega
theorem min_py (i j : Int) : (if j < i then j else i) = min i j := by split <;> omega
section
variable {elt tg iter : Expr} {ifs : List Expr} {scope : Scope}
theorem lc_all {β : Type} {l : List β} (en : α → D) (f : β → α) (h : LcV X B Δ elt tg iter ifs scope ((l.filter fun _ => true).map fun b => en (f b))) : LcV X B Δ elt tg iter ifs scope ((l.map f).map en) := h.cast (by
  rw [List.filter_eq_self.mpr (fun _ _ => rfl), List.map_map]
  rfl)
theorem lc_some {β : Type} {l : List β} {c : β → Bool} (en : α → D) (f : β → α) (h : LcV X B Δ elt tg iter ifs scope ((l.filter c).map fun b => en (f b))) : LcV X B Δ elt tg iter ifs scope (((l.filter c).map f).map en) := h.cast (by
  rw [List.map_map]
  rfl)
end
theorem js_unp {tg : Expr} {is : List Nat} {en : α → D} (v : α) (f : α → List Sl → List Sl) (he : JV X B Δ e (en v)) (tgt : Tgt X tg en f is) (k : ∀ u, u = v → E.nx (f u Δ)) (hs : swapsWithSole [tg] e pos.line X.env = pure false := by rfl) (hw : swappedStores [tg] e X.env = pure none := by rfl)
    (h1 : (assignEach [tg] X.env).map (·.2) = [assign tg X.env] := by rfl) : JS X B Δ (.Assign [tg] e pos) E := by
  obtain ⟨g, hg, gd⟩ := tgt
  exact js_asg he (gd v) (k v rfl) hg hs hw h1
/-! raising -/
def exM (en : α → D) : Except Exn α → Except Exn D
  | .ok a => .ok (en a)
  | .error x => .error x
theorem exM_ok {F : Except Exn α} {v : α} (h : F = .ok v) : exM en F = .ok (en v) := by rw [h]; rfl
theorem exM_er {F : Except Exn α} {x : Exn} (h : F = .error x) : exM en F = .error x := by rw [h]; rfl
def xn (C : Addr) : Exn := ⟨C, [], []⟩
structure ExcF (K : PySem.W.Frag) (mg : Str → Option Value) (x : Str) (C : Addr) : Prop where
  ex : PySem.W.excIn K C [.type "ValueError", .type "Exception", .type "BaseException", .type "object"] "ValueError.__new__" = true
  gl : mg x = some (.ref C)
  kp : PySem.W.keepIn K (.ref C) = true
  sb : PySem.W.subIn K (.ref C) (.type "BaseException") = some true
  ty : PySem.W.typeIn K (.ref C) = some (.type "type")
theorem js_raise {x m : Str} {C : Addr} {p0 p2 p3 : Pos} {j : Nat} (h : ExcF X.K X.mg x C) (k : E.xc Δ (xn C)) (hc : X.calm = true) (hg : Gl X x := by rfl) (hdb : (x == ("__debug__" : Str)) = false := by decide) :
    JS X B Δ (.Raise (some (.Call (.Name x p0) [.Constant (.str m) j p2] [] p3)) none pos) E := fun ow σ H De W tk S G =>
  ws_of (ps_raise hc tk (pmk_own PySem.F.excBase_ValueError h.ex h.gl h.kp (raises_own h.sb h.ty) hg hdb)) (G.xc Δ ow σ H (xn C) _ _ k S ⟨rfl, .inl rfl⟩)
theorem je_callE {x : Str} {es : List Expr} {ds : List D} {R : Rl} {k : Nat} {p0 : Pos} {F : Except Exn α} (Fx : Fn X.prog X.w X.K X.mg X.base k x R) (hr : Room k X.A) (ha : AV X B Δ (e :: es) ds) (hR : R ds (exM en F)) (hg : Gl X x := by rfl)
    (hdb : (x == ("__debug__" : Str)) = false := by decide) (he : starEach (e :: es) X.env = (false, eval e X.env) :: starEach es X.env := by rfl) (hpl : (backTo pos (starEach es X.env)).any (·.1) = false := by rfl) :
    JE X B Δ (.Call (.Name x p0) (e :: es) [] pos) (fun d => ∃ v, F = .ok v ∧ d = en v) (fun x => F = .error x) :=
  je_call Fx hr ha hR (fun d q => by
    cases hF : F with
    | ok v => rw [hF] at q; exact ⟨v, rfl, (Except.ok.inj q).symm⟩
    | error x => rw [hF] at q; cases q) (fun x q => by
    cases hF : F with
    | ok v => rw [hF] at q; cases q
    | error y => rw [hF] at q; exact congrArg _ (Except.error.inj q)) hg hdb he hpl
end
end Dy
namespace Dy
open PySem PySem.Spec PyProof.Rows L2
/-! ### == of data of one kind -/
def PyE {α : Type} [DecidableEq α] (en : α → D) (n : Nat) : Prop := ∃ f : α → PyData, (∀ a, pyD (en a) = some (f a)) ∧ (∀ a, (f a).canLay0 = true) ∧ (∀ a, (f a).depth ≤ n) ∧ ∀ a b, PyData.eqv (f a) (f b) = decide (a = b)
section
variable {α β : Type} [DecidableEq α] [DecidableEq β] {en : α → D} {e2 : β → D} {n m : Nat}
theorem pyE_int : PyE D.int 0 := ⟨.int, fun _ => by unfold pyD; rfl, fun _ => by simp [PyData.canLay0], fun _ => by simp [PyData.depth], fun a b => by simp [PyData.eqv, Bool.beq_eq_decide_eq]⟩
theorem pyE_bl : PyE D.bl 0 := ⟨.bool, fun _ => by unfold pyD; rfl, fun _ => by simp [PyData.canLay0], fun _ => by simp [PyData.depth], fun a b => by simp [PyData.eqv, Bool.beq_eq_decide_eq]⟩
theorem pyE_pair (h1 : PyE en n) (h2 : PyE e2 m) : PyE (eP en e2) (max n m + 1) := by
  obtain ⟨f, a1, a2, a3, a4⟩ := h1
  obtain ⟨g, b1, b2, b3, b4⟩ := h2
  refine ⟨fun p => .tuple [f p.1, g p.2], fun p => ?_, fun p => ?_, fun p => ?_, fun p q => ?_⟩
  · simp [eP, pyD, pyDs, a1, b1]
  · simp [PyData.canLay0, PyData.canLayAll0, a2, b2]
  · have := a3 p.1
    have := b3 p.2
    simp [PyData.depth, PyData.depthAll]
    omega
  · simp only [PyData.eqv, PyData.eqvAll, a4, b4, Bool.and_true]
    rw [← Bool.decide_and]
    apply decide_eq_decide.mpr
    constructor
    · rintro ⟨h1, h2⟩
      exact Prod.ext h1 h2
    · rintro rfl
      exact ⟨rfl, rfl⟩
omit [DecidableEq α] in
theorem pyDs_map {f : α → PyData} (h : ∀ a, pyD (en a) = some (f a)) : ∀ l : List α, pyDs (l.map en) = some (l.map f)
  | [] => by unfold pyDs; rfl
  | a :: l => by
    rw [List.map_cons]
    unfold pyDs
    rw [h a, pyDs_map h l]
    rfl
omit [DecidableEq α] in
theorem lay_map {f : α → PyData} (h : ∀ a, (f a).canLay0 = true) : ∀ l : List α, PyData.canLayAll0 (l.map f) = true
  | [] => by simp [PyData.canLayAll0]
  | a :: l => by rw [List.map_cons]; simp [PyData.canLayAll0, h a, lay_map h l]
omit [DecidableEq α] in
theorem dep_map {f : α → PyData} (h : ∀ a, (f a).depth ≤ n) : ∀ l : List α, PyData.depthAll (l.map f) ≤ n
  | [] => by simp [PyData.depthAll]
  | a :: l => by
    have := h a
    have := dep_map h l
    rw [List.map_cons]
    simp [PyData.depthAll]
    omega
theorem eqv_map {f : α → PyData} (h : ∀ a b, PyData.eqv (f a) (f b) = decide (a = b)) : ∀ l k : List α, PyData.eqvAll (l.map f) (k.map f) = decide (l = k)
  | [], [] => by simp [PyData.eqvAll]
  | [], _ :: _ => by simp [PyData.eqvAll]
  | _ :: _, [] => by simp [PyData.eqvAll]
  | a :: l, b :: k => by
    rw [List.map_cons, List.map_cons]
    simp only [PyData.eqvAll, h, eqv_map h l k]
    rw [← Bool.decide_and]
    apply decide_eq_decide.mpr
    simp
theorem pyE_Q (h1 : PyE en n) : PyE (eQ en) (n + 1) := by
  obtain ⟨f, a1, a2, a3, a4⟩ := h1
  refine ⟨fun l => .tuple (l.map f), fun l => ?_, fun l => ?_, fun l => ?_, fun l k => ?_⟩
  · simp [eQ, pyD, pyDs_map a1]
  · simp [PyData.canLay0, lay_map a2]
  · have := dep_map a3 l
    simp [PyData.depth]
    omega
  · simp only [PyData.eqv, eqv_map a4]
theorem pyE_L (h1 : PyE en n) : PyE (eL en) (n + 1) := by
  obtain ⟨f, a1, a2, a3, a4⟩ := h1
  refine ⟨fun l => .list (l.map f), fun l => ?_, fun l => ?_, fun l => ?_, fun l k => ?_⟩
  · simp [eL, pyD, pyDs_map a1]
  · simp [PyData.canLay0, lay_map a2]
  · have := dep_map a3 l
    simp [PyData.depth]
    omega
  · simp only [PyData.eqv, eqv_map a4]
/-- .. told apart from nothing only -/
def PyN {α : Type} (en : α → D) (n : Nat) : Prop := ∃ f : α → PyData, (∀ a, pyD (en a) = some (f a)) ∧ (∀ a, (f a).canLay0 = true) ∧ ∀ a, (f a).depth ≤ n
theorem PyE.toN (h : PyE en n) : PyN en n := let ⟨f, a1, a2, a3, _⟩ := h; ⟨f, a1, a2, a3⟩
theorem strOk_of (s : String) : PyData.strOk (Str.ofString s) = true := by
  rw [Str.ofString_eq_toList]
  unfold PyData.strOk
  simp only [List.all_toArray, List.all_map, List.all_eq_true]
  intro c _
  have := c.valid
  simp only [Function.comp, decide_eq_true_eq]
  show c.toNat < 1114112
  rcases this with h | h
  · have : c.toNat < 55296 := h
    omega
  · exact h.2
theorem strOk_app {s t : Str} (h1 : PyData.strOk s = true) (h2 : PyData.strOk t = true) : PyData.strOk (s ++ t) = true := by
  unfold PyData.strOk at *
  show (s.cps ++ t.cps).all _ = true
  rw [Array.all_append, h1, h2]
  rfl
section
variable {α : Type} {en : α → D} {n : Nat}
theorem nilB_of (h : PyN en n) (hn : n + 1 ≤ 64) (l : List α) : EqB (.lst (l.map en)) (.lst []) (decide (l = [])) := by
  obtain ⟨f, a1, a2, a3⟩ := h
  refine ⟨.list (l.map f), .list [], by unfold pyD; rw [pyDs_map a1]; rfl, by unfold pyD pyDs; rfl, ?_, by decide, ?_⟩
  · have := dep_map a3 l
    unfold SeqAt.shaped
    simp [PyData.canLay0, lay_map a2, PyData.depth]
    omega
  · cases l <;> simp [PyData.eqv, PyData.eqvAll]
theorem nilT_of (h : PyN en n) (hn : n + 1 ≤ 64) (l : List α) : EqB (.tup (l.map en)) (.tup []) (decide (l = [])) := by
  obtain ⟨f, a1, a2, a3⟩ := h
  refine ⟨.tuple (l.map f), .tuple [], by unfold pyD; rw [pyDs_map a1]; rfl, by unfold pyD pyDs; rfl, ?_, by decide, ?_⟩
  · have := dep_map a3 l
    unfold SeqAt.shaped
    simp [PyData.canLay0, lay_map a2, PyData.depth]
    omega
  · cases l <;> simp [PyData.eqv, PyData.eqvAll]
end
theorem eqB_of (h : PyE en n) (hn : n ≤ 64) (x y : α) : EqB (en x) (en y) (decide (x = y)) := by
  obtain ⟨f, a1, a2, a3, a4⟩ := h
  have sh : ∀ a, SeqAt.shaped (f a) = true := fun a => by
    have := a3 a
    unfold SeqAt.shaped
    rw [a2 a, Bool.true_and]
    exact decide_eq_true (by omega)
  exact ⟨f x, f y, a1 x, a1 y, sh x, sh y, a4 x y⟩
end
section
variable {X : Cx} {B : Bas} {Δ : List Sl} {E : EndD} {e a b : Expr} {pos p : Pos} {α : Type} [DecidableEq α] {en : α → D} {n : Nat} {k : Nat} {x y : α} {l m : List α}
theorem jv_eqE (hr : Room k X.A) (h : PyE en n) (hn : n ≤ 64) (ha : JV X B Δ a (en x)) (hb : JV X B Δ b (en y)) : JV X B Δ (.Compare a [.Eq] [b] pos) (.bl (decide (x = y))) := jv_eqD hr.units ha hb (eqB_of h hn x y)
theorem jv_neE (hr : Room k X.A) (h : PyE en n) (hn : n ≤ 64) (ha : JV X B Δ a (en x)) (hb : JV X B Δ b (en y)) : JV X B Δ (.Compare a [.NotEq] [b] pos) (.bl (!decide (x = y))) := jv_neD hr.units ha hb (eqB_of h hn x y)
theorem jv_eqLE (hr : Room k X.A) (h : PyE en n) (hn : n + 1 ≤ 64) (ha : LV X B Δ a (l.map en)) (hb : LV X B Δ b (m.map en)) : JV X B Δ (.Compare a [.Eq] [b] pos) (.bl (decide (l = m))) := jv_eqL hr.units ha hb (eqB_of (pyE_L h) hn l m)
theorem jv_neLE (hr : Room k X.A) (h : PyE en n) (hn : n + 1 ≤ 64) (ha : LV X B Δ a (l.map en)) (hb : LV X B Δ b (m.map en)) : JV X B Δ (.Compare a [.NotEq] [b] pos) (.bl (!decide (l = m))) := jv_neL hr.units ha hb (eqB_of (pyE_L h) hn l m)
theorem tv_eqE (hr : Room k X.A) (h : PyE en n) (hn : n ≤ 64) (ha : JV X B Δ a (en x)) (hb : JV X B Δ b (en y)) : TV X B Δ (.Compare a [.Eq] [b] pos) (decide (x = y)) := tv_opR (pt_cmpR (op_eqD hr.units) peW peW (nomark _)) ha hb (opS_eqD (eqB_of h hn x y))
theorem tv_neE (hr : Room k X.A) (h : PyE en n) (hn : n ≤ 64) (ha : JV X B Δ a (en x)) (hb : JV X B Δ b (en y)) : TV X B Δ (.Compare a [.NotEq] [b] pos) (!decide (x = y)) := tv_opR (pt_cmpR (op_neD hr.units) peW peW (nomark _)) ha hb (opS_neD (eqB_of h hn x y))
theorem tv_eqLE (hr : Room k X.A) (h : PyE en n) (hn : n + 1 ≤ 64) (ha : LV X B Δ a (l.map en)) (hb : LV X B Δ b (m.map en)) : TV X B Δ (.Compare a [.Eq] [b] pos) (decide (l = m)) := tv_mk fun ow σ H Q W tk S q =>
  wt_of (pt_cmpR (op_eqD hr.units) peW peW (nomark _)) (ha ow σ H _ W tk S fun p vs H1 s1 hL r1 => hb ow σ H1 _ W tk (S.up s1) fun p2 ws H2 s2 hL2 r2 => by
    obtain ⟨p1, p2, e1, e2, z1, z2, e⟩ := eqB_of (pyE_L h) hn l m
    exact ⟨p1, p2, LV.dp e1 (s2 _ _ hL) (r1.up s2), LV.dp e2 hL2 r2, z1, z2, _, rfl, e ▸ q _ (s1.trans s2)⟩)
theorem tv_neLE (hr : Room k X.A) (h : PyE en n) (hn : n + 1 ≤ 64) (ha : LV X B Δ a (l.map en)) (hb : LV X B Δ b (m.map en)) : TV X B Δ (.Compare a [.NotEq] [b] pos) (!decide (l = m)) := tv_mk fun ow σ H Q W tk S q =>
  wt_of (pt_cmpR (op_neD hr.units) peW peW (nomark _)) (ha ow σ H _ W tk S fun p vs H1 s1 hL r1 => hb ow σ H1 _ W tk (S.up s1) fun p2 ws H2 s2 hL2 r2 => by
    obtain ⟨p1, p2, e1, e2, z1, z2, e⟩ := eqB_of (pyE_L h) hn l m
    exact ⟨p1, p2, LV.dp e1 (s2 _ _ hL) (r1.up s2), LV.dp e2 hL2 r2, z1, z2, _, rfl, e ▸ q _ (s1.trans s2)⟩)
theorem tv_isN {j pos'} {d : D} (h : JV X B Δ a d) : TV X B Δ (.Compare a [.Is] [.Constant .none j pos'] pos) (isN d) := tv_mk fun ow σ H Q W tk S q =>
  wt_of (pt_cmp (pc_isN peW) rfl) (h.use tk S fun v H1 s1 r1 => ⟨_, rfl, by rw [isN_iff r1]; exact q _ s1⟩)
theorem tv_notN {j pos'} {d : D} (h : JV X B Δ a d) : TV X B Δ (.Compare a [.IsNot] [.Constant .none j pos'] pos) (!isN d) := tv_mk fun ow σ H Q W tk S q =>
  wt_of (pt_cmp (pc_notN peW) rfl) (h.use tk S fun v H1 s1 r1 => ⟨_, rfl, by rw [isN_iff r1]; exact q _ s1⟩)
theorem tv_isB {q r : Bool} (ha : JV X B Δ a (.bl q)) (hb : JV X B Δ b (.bl r)) : TV X B Δ (.Compare a [.Is] [b] pos) (decide (q = r)) := tv_opR (pt_cmpR op_isBl peW peW (nomark _)) ha hb fun O H u v Q _ ru rv z => ⟨q, r, rep_bl ru, rep_bl rv, z _ H (Same.refl H) bl_rep⟩
theorem tv_notB {q r : Bool} (ha : JV X B Δ a (.bl q)) (hb : JV X B Δ b (.bl r)) : TV X B Δ (.Compare a [.IsNot] [b] pos) (!decide (q = r)) := tv_opR (pt_cmpR op_notBl peW peW (nomark _)) ha hb fun O H u v Q _ ru rv z => ⟨q, r, rep_bl ru, rep_bl rv, z _ H (Same.refl H) bl_rep⟩
section
variable {α : Type} {en : α → D} {n k : Nat} {l : List α}
theorem jv_eqNL (hr : Room k X.A) (h : PyN en n) (hn : n + 1 ≤ 64) (ha : LV X B Δ a (l.map en)) (hb : LV X B Δ b []) : JV X B Δ (.Compare a [.Eq] [b] pos) (.bl (decide (l = []))) := jv_eqL hr.units ha hb (nilB_of h hn l)
theorem jv_neNL (hr : Room k X.A) (h : PyN en n) (hn : n + 1 ≤ 64) (ha : LV X B Δ a (l.map en)) (hb : LV X B Δ b []) : JV X B Δ (.Compare a [.NotEq] [b] pos) (.bl (!decide (l = []))) := jv_neL hr.units ha hb (nilB_of h hn l)
theorem jv_eqNT (hr : Room k X.A) (h : PyN en n) (hn : n + 1 ≤ 64) (ha : JV X B Δ a (.tup (l.map en))) (hb : JV X B Δ b (.tup [])) : JV X B Δ (.Compare a [.Eq] [b] pos) (.bl (decide (l = []))) := jv_eqD hr.units ha hb (nilT_of h hn l)
theorem jv_neNT (hr : Room k X.A) (h : PyN en n) (hn : n + 1 ≤ 64) (ha : JV X B Δ a (.tup (l.map en))) (hb : JV X B Δ b (.tup [])) : JV X B Δ (.Compare a [.NotEq] [b] pos) (.bl (!decide (l = []))) := jv_neD hr.units ha hb (nilT_of h hn l)
theorem tv_eqNT (hr : Room k X.A) (h : PyN en n) (hn : n + 1 ≤ 64) (ha : JV X B Δ a (.tup (l.map en))) (hb : JV X B Δ b (.tup [])) : TV X B Δ (.Compare a [.Eq] [b] pos) (decide (l = [])) := tv_opR (pt_cmpR (op_eqD hr.units) peW peW (nomark _)) ha hb (opS_eqD (nilT_of h hn l))
theorem tv_neNT (hr : Room k X.A) (h : PyN en n) (hn : n + 1 ≤ 64) (ha : JV X B Δ a (.tup (l.map en))) (hb : JV X B Δ b (.tup [])) : TV X B Δ (.Compare a [.NotEq] [b] pos) (!decide (l = [])) := tv_opR (pt_cmpR (op_neD hr.units) peW peW (nomark _)) ha hb (opS_neD (nilT_of h hn l))
theorem tv_eqNL (hr : Room k X.A) (h : PyN en n) (hn : n + 1 ≤ 64) (ha : LV X B Δ a (l.map en)) (hb : LV X B Δ b []) : TV X B Δ (.Compare a [.Eq] [b] pos) (decide (l = [])) := tv_mk fun ow σ H Q W tk S q =>
  wt_of (pt_cmpR (op_eqD hr.units) peW peW (nomark _)) (ha ow σ H _ W tk S fun p vs H1 s1 hL r1 => hb ow σ H1 _ W tk (S.up s1) fun p2 ws H2 s2 hL2 r2 => by
    obtain ⟨p1, p2, e1, e2, z1, z2, e⟩ := nilB_of h hn l
    exact ⟨p1, p2, LV.dp e1 (s2 _ _ hL) (r1.up s2), LV.dp e2 hL2 r2, z1, z2, _, rfl, e ▸ q _ (s1.trans s2)⟩)
theorem tv_neNL (hr : Room k X.A) (h : PyN en n) (hn : n + 1 ≤ 64) (ha : LV X B Δ a (l.map en)) (hb : LV X B Δ b []) : TV X B Δ (.Compare a [.NotEq] [b] pos) (!decide (l = [])) := tv_mk fun ow σ H Q W tk S q =>
  wt_of (pt_cmpR (op_neD hr.units) peW peW (nomark _)) (ha ow σ H _ W tk S fun p vs H1 s1 hL r1 => hb ow σ H1 _ W tk (S.up s1) fun p2 ws H2 s2 hL2 r2 => by
    obtain ⟨p1, p2, e1, e2, z1, z2, e⟩ := nilB_of h hn l
    exact ⟨p1, p2, LV.dp e1 (s2 _ _ hL) (r1.up s2), LV.dp e2 hL2 r2, z1, z2, _, rfl, e ▸ q _ (s1.trans s2)⟩)
end
/-! is True -/
theorem jv_isB {q r : Bool} (ha : JV X B Δ a (.bl q)) (hb : JV X B Δ b (.bl r)) : JV X B Δ (.Compare a [.Is] [b] pos) (.bl (decide (q = r))) := jv_opR (pe_cmpR op_isBl peW peW (nomark _)) ha hb fun O H u v Q _ ru rv z => ⟨q, r, rep_bl ru, rep_bl rv, z _ H (Same.refl H) bl_rep⟩
theorem jv_notB {q r : Bool} (ha : JV X B Δ a (.bl q)) (hb : JV X B Δ b (.bl r)) : JV X B Δ (.Compare a [.IsNot] [b] pos) (.bl (!decide (q = r))) := jv_opR (pe_cmpR op_notBl peW peW (nomark _)) ha hb fun O H u v Q _ ru rv z => ⟨q, r, rep_bl ru, rep_bl rv, z _ H (Same.refl H) bl_rep⟩
/-! isinstance by a built-in class -/
def tyD : D → Option String
  | .non => some "NoneType"
  | .bl _ => some "bool"
  | .int _ => some "int"
  | .str _ => some "str"
  | .lst _ => some "list"
  | _ => none
theorem tyOf_rep {K : PySem.W.Frag} {O : Addr → Prop} {H : Hp} {d : D} {v : V} {t : String} (h : tyD d = some t) (r : Rep K O H d v) : TyX K H v (.type t) := by
  cases d with
  | non => cases h; rw [rep_non r]; exact .base .non
  | bl b => cases h; rw [rep_bl r]; exact .base (.bl b)
  | int i => cases h; rw [rep_int r]; exact .base (.int i)
  | str z => cases h; rw [rep_str r]; exact .base (.str z)
  | lst xs => cases h; obtain ⟨a, vs, rfl, _, hL, _⟩ := rep_lst r; exact .base (.lst hL)
  | tup xs => cases h
  | scr xs => cases h
  | obj C ns xs => cases h
theorem tyT_rep {K : PySem.W.Frag} {O : Addr → Prop} {H : Hp} {xs : List D} {v : V} (r : Rep K O H (.tup xs) v) : TyX K H v (.type "tuple") := by
  obtain ⟨a, vs, rfl, hT, _⟩ := rep_tup r
  rcases hT.sq with (h | ⟨o, h⟩) | ⟨o, its, n, h, hc, _⟩
  · exact .base (.tup h)
  · exact .fTuple h
  · exact .kTuple h hc
theorem jv_isi {d : D} {t : String} {T : Str} {tn : String} {r : Bool} {pb : Pos} (ha : JV X B Δ a d) (ht : ∀ O H v, Rep X.K O H d v → TyX X.K H v (.type t)) (hT : bootBuiltins T = some (.type tn)) (hk : PySem.W.kitOne X.K (.type t) (.type tn) = some r)
    (hm : X.mg "isinstance" = none) (hmT : X.mg T = none) (hg : Gl X "isinstance" := by rfl) (hgT : Gl X T := by rfl) (hn : T ≠ "__name__" := by decide) (hd : (T == ("__debug__" : Str)) = false := by decide)
    (hs : starEach [a, .Name T pb] X.env = [(false, eval a X.env), (false, eval (.Name T pb) X.env)] := by rfl) (hs2 : starEach [.Name T pb] X.env = [(false, eval (.Name T pb) X.env)] := by rfl) (hpl : (backTo pos (starEach [.Name T pb] X.env)).any (·.1) = false := by rfl) :
    JV X B Δ (.Call (.Name "isinstance" p) [a, .Name T pb] [] pos) (.bl r) := jv_mk fun ow σ H Q W tk S q =>
  we_of (pe_callB call_isi hg hm (by decide +kernel) (pa_cons peW (pa_cons (pe_bltn (v := .ty tn) hgT hmT hT rfl hn hd) pa_nil hs2) (by rw [hs, hs2])) (by decide) (by decide) (by rw [hs, hs2]) hpl)
    (ha.use tk S fun v H1 s1 r1 => ⟨v, .ty tn, .type t, .type tn, r, rfl, .ty tn, ht _ H1 v r1, hk, q _ _ s1 bl_rep⟩)
/-! texts -/
theorem jv_addS {s t : Str} (ha : JV X B Δ a (.str s)) (hb : JV X B Δ b (.str t)) (hl : s.length + t.length ≤ 100000) : JV X B Δ (.BinOp a .Add b pos) (.str (s ++ t)) := jv_opR (pe_op op_add_str peW peW) ha hb fun O H u v Q _ ru rv z =>
  ⟨s, t, rep_str ru, rep_str rv, le_line hl, z _ H (Same.refl H) str_rep⟩
theorem log2_small {i : Int} (h : i.natAbs < 2 ^ 64) : i.natAbs.log2 < 1920 := by
  by_cases h0 : i.natAbs = 0
  · rw [h0]; decide
  · exact Nat.lt_of_lt_of_le ((Nat.log2_lt h0).mpr h) (by decide)
theorem jv_strI {i : Int} (h : JV X B Δ e (.int i)) (hi : i.natAbs.log2 < 1920) (hm : X.mg "str" = none) (hg : Gl X "str" := by rfl) (he : starEach [e] X.env = [(false, eval e X.env)] := by rfl) : JV X B Δ (.Call (.Name "str" p) [e] [] pos) (.str (toString i)) :=
  jv_ct call_str_int (av_cons h av_nil he) (fun O H vs Q _ r q => by
    obtain ⟨v, rfl, rv⟩ := reps1 r
    rw [rep_int rv]
    exact ⟨i, rfl, hi, q _ H (Same.refl H) str_rep⟩) hm (by decide +kernel) hg (by decide) (by decide) he
end
end Dy
namespace Dy
open PySem PySem.Spec PyProof.Rows L2
/-! ### sorted of pairs of ints, out of a list or a tuple -/
section
variable {prog : Program} {w : World} {A : Around} {E : Value → Shared → Prop} {s : Shared}
theorem sorted_both {l : Addr} {o : Obj} {its : List Value} {n : Nat} {T : String} {k : Value → Int × Int} {Q : Value → Shared → Prop} (hT : T = "list" ∨ T = "tuple") (ho : s.heap.get? l = some o) (hc : o.cls = .type T) (hd : o.data = .seq its.toArray n) (hz : its.length ≤ sizeLine)
    (hp : ∀ v ∈ its, Srt.IsPair s.heap v (k v).1 (k v).2)
    (h : ∀ (h' : Heap) (d : Addr) (out : List Value), SrtO.Srtd (fun v u => SrtO.lexB (k v) (k u)) out → out.Perm its → (∀ b u, s.heap.get? b = some u → h'.get? b = some u) → s.heap.get? d = none → (∃ n, h'.get? d = some (seqObj "list" out.toArray n)) → Q (.ref d) { s with heap := h' }) :
    wpAny (model prog w) A (call (.builtin "sorted") [.ref l]) Q E s := by
  refine Calls.call_function_entry kind_sorted plain_sorted entry_sorted (args_sorted1 _) ?_
  unfold Builtin.«sorted»
  refine wpAny_bind (m := checkCount "sorted" 1 1 _) (wpAny_pure ?_)
  refine wpAny_bind (wpAny_collect_seq (hsz := by rw [List.size_toArray]; exact hz) l hT ho hc hd fun h1 k1 => ?_)
  refine wpAny_bind (wpAny_newList ?_ hz)
  have hoL : (h1.push (seqObj "list" its.toArray 0)).get? h1.objs.size = some (seqObj "list" its.toArray 0) := Heap.get?_push_size _ rfl
  have k2 : ∀ b u, s.heap.get? b = some u → b ≠ h1.objs.size ∧ (h1.push (seqObj "list" its.toArray 0)).get? b = some u := fun b u q => ⟨Nat.ne_of_lt (Heap.lt_size (k1 b u q)), Heap.get?_push_of_some _ (k1 b u q)⟩
  have hS : 2 ≤ its.length → SrtO.SortableO prog w A.in1.in1 { s with heap := h1.push (seqObj "list" its.toArray 0) } h1.objs.size its fun v u => SrtO.lexB (k v) (k u) := fun h2 =>
    SrtO.pairs_sortableO (s := { s with heap := h1.push (seqObj "list" its.toArray 0) }) (by omega) (fun v hm => (hp v hm).keeps fun b u e _ => (k2 b u e).2) fun u e c => by
      have e' := e.symm.trans hoL
      cases e'
      exact absurd (Value.type.inj c) (by decide)
  refine wpAny_bind (wpAny_holding (wpAny_call_entry slot_list_sort ⟨_, hoL, rfl⟩ entry_list_sort
    (SrtO.list_sort_ord (SrtO.swo_lex k) hoL hz hS fun out hs hb => ⟨_, rfl, ?_⟩) (args_list_sort _)))
  refine wpAny_pure ⟨_, rfl, h _ _ out hs hb.perm (fun b u e => ?_) ?_ (sortedHeap_at hoL)⟩
  · rw [sortedHeap_old (k2 b u e).1 (Heap.lt_size (k2 b u e).2)]
    exact (k2 b u e).2
  · cases q : s.heap.get? h1.objs.size with
    | none => rfl
    | some u => exact absurd (Heap.lt_size (k1 _ u q)) (Nat.lt_irrefl _)
end
theorem there_of {P : Program} {w : World} {H : Hp} {h : Heap} {a : Addr} {o : HO} (x : ObjOk P w H h a o) : ∃ u, h.get? a = some u := by
  cases hq : h.get? a with
  | some u => exact ⟨u, rfl⟩
  | none =>
    exfalso
    cases o with
    | lst xs => obtain ⟨_, _, _, _, e⟩ := x; rw [hq] at e; cases e
    | tup xs => obtain ⟨_, _, _, ⟨_, e, _⟩⟩ := x; rw [hq] at e; cases e
    | dK kvs => obtain ⟨_, _, _, _, o, _, _, e, _⟩ := x; rw [hq] at e; cases e
    | dT kvs => obtain ⟨_, _, _, _, o, _, _, e, _⟩ := x; rw [hq] at e; cases e
    | set S n => obtain ⟨o, _, _, _, e, _⟩ := x; rw [hq] at e; cases e
    | ins C dx fs => obtain ⟨_, _, _, e, _⟩ := x; rw [hq] at e; cases e
    | own y => obtain ⟨_, e⟩ := x; rw [hq] at e; cases e
    | xd fs => obtain ⟨_, ⟨_, _, _, e, _⟩, _⟩ := x; rw [hq] at e; cases e
    | rng lo hi => obtain ⟨_, _, _, e⟩ := x; rw [hq] at e; cases e
    | frz ob u => obtain ⟨e, _⟩ := x; rw [hq] at e; cases e
    | tbl ps => have e : h.get? a = some _ := x; rw [hq] at e; cases e
    | met f y => have e : h.get? a = some _ := x; rw [hq] at e; cases e
    | ext φ => obtain ⟨_, ⟨_, e⟩, _⟩ := x; rw [hq] at e; cases e
/-- the pairs that values stand for -/
def Prs (K : PySem.W.Frag) (H : Hp) (xs : List V) (ps : List (Int × Int)) : Prop := xs.length = ps.length ∧ ∀ z ∈ xs.zip ps, ∃ t, z.1 = V.ref t ∧ SqT K H t [.int z.2.1, .int z.2.2]
def rSortD (K : PySem.W.Frag) : List V → Hp → VK → Prop := fun vs H Q => ∃ (a : Addr) (xs : List V) (ps : List (Int × Int)), vs = [V.ref a] ∧ (SqL K H a xs ∨ SqT K H a xs) ∧ Prs K H xs ps ∧
  ∀ ys qs p, ys.length = qs.length → (∀ z ∈ ys.zip qs, z ∈ xs.zip ps) → qs.Perm ps → SrtO.Srtd SrtO.lexB qs → H p = none → Q (.ref p) (upd H p (.lst ys))
open Classical in
noncomputable def kOf (h : Heap) (v : Value) : Int × Int := if q : ∃ p : Int × Int, Srt.IsPair h v p.1 p.2 then q.choose else (0, 0)
theorem isPair_inj {h : Heap} {v : Value} {x y x' y' : Int} (a : Srt.IsPair h v x y) (b : Srt.IsPair h v x' y') : x = x' ∧ y = y' := by
  obtain ⟨l, o, t, u, n, rfl, ho, hc, hd⟩ := a
  obtain ⟨l', o', t', u', n', e, ho', hc', hd'⟩ := b
  cases e
  rw [ho] at ho'
  cases ho'
  rw [hd] at hd'
  injection hd' with e1 _
  have e2 := congrArg Array.toList e1
  simp at e2
  exact ⟨e2.1.1, e2.2.1⟩
theorem kOf_eq {h : Heap} {v : Value} {p : Int × Int} (a : Srt.IsPair h v p.1 p.2) : kOf h v = p := by
  have q : ∃ p : Int × Int, Srt.IsPair h v p.1 p.2 := ⟨p, a⟩
  unfold kOf
  rw [dif_pos q]
  have := isPair_inj q.choose_spec a
  exact Prod.ext this.1 this.2
theorem zip_map_mem {α β γ : Type} {f : α → β} {g : α → γ} : ∀ {l : List α} {z : β × γ}, z ∈ (l.map f).zip (l.map g) → ∃ a ∈ l, z = (f a, g a)
  | [], z, h => by simp at h
  | a :: l, z, h => by
    simp only [List.map_cons, List.zip_cons_cons, List.mem_cons] at h
    rcases h with h | h
    · exact ⟨a, by simp, h⟩
    · obtain ⟨b, hb, e⟩ := zip_map_mem h
      exact ⟨b, by simp [hb], e⟩
theorem zip_map_mk {α β γ : Type} {f : α → β} {g : α → γ} : ∀ {l : List α} {a : α}, a ∈ l → (f a, g a) ∈ (l.map f).zip (l.map g)
  | [], a, h => by simp at h
  | b :: l, a, h => by
    rcases List.mem_cons.mp h with rfl | h
    · simp
    · simp only [List.map_cons, List.zip_cons_cons, List.mem_cons]
      exact .inr (zip_map_mk h)
section
variable {X : Cx}
theorem cr_sortD : CallR X (.builtin "sorted") (rSortD X.K) := by
  intro pins s σ H vs us Q I r h
  obtain ⟨a, xs, ps, rfl, hs, ⟨hl, hx⟩, q⟩ := h
  obtain ⟨u, rfl, ru⟩ := vals1 r
  obtain rfl : u = Value.ref a := ru
  have hxr : ∀ x ∈ xs, ∃ t, x = V.ref t := fun x m => by
    obtain ⟨i, hi, e⟩ := List.getElem_of_mem m
    have hi2 : i < ps.length := hl ▸ hi
    have hz : (xs[i], ps[i]) ∈ xs.zip ps := by
      have : (xs.zip ps)[i]? = some (xs[i], ps[i]) := by rw [List.getElem?_zip_eq_some]; simp [hi, hi2]
      exact List.mem_of_getElem? this
    obtain ⟨t, e1, _⟩ := hx _ hz
    exact ⟨t, e ▸ e1⟩
  have main : ∀ (its : List Value) (T : String) (o : Obj) (n : Nat), Vals xs its → xs.length ≤ sizeLine → (T = "list" ∨ T = "tuple") → s.heap.get? a = some o → o.cls = .type T → o.data = .seq its.toArray n → wpAny (model X.prog X.w) X.A (call (.builtin "sorted") [.ref a]) (EP X pins σ Q) X.xe s := by
    intro its T o n rv hz hT ho hc hd
    obtain ⟨e1, e2⟩ := refs_back rv hxr
    have hil : its.length = xs.length := rv.length.symm
    have hpair : ∀ (i : Nat) (h1 : i < its.length) (h2 : i < ps.length), Srt.IsPair s.heap its[i] ps[i].1 ps[i].2 := fun i h1 h2 => by
      have h3 : i < xs.length := by omega
      have hz : (xs[i], ps[i]) ∈ xs.zip ps := by
        have : (xs.zip ps)[i]? = some (xs[i], ps[i]) := by rw [List.getElem?_zip_eq_some]; simp [h3, h2]
        exact List.mem_of_getElem? this
      obtain ⟨t, et, hT⟩ := hx _ hz
      obtain ⟨its2, r2, ⟨o, ho, hc, n, hd⟩, _⟩ := I.tuple hT
      obtain ⟨u1, u2, rfl, ri, rj⟩ := vals2 r2
      obtain ⟨t1, rfl⟩ := ri
      obtain ⟨t2, rfl⟩ := rj
      obtain ⟨t', et'⟩ := e2 _ (List.getElem_mem h1)
      have : backV its[i] = xs[i] := by simp [e1]
      rw [et', show xs[i] = V.ref t from et] at this
      have tt : t' = t := by simpa [backV] using this
      subst tt
      exact ⟨t', o, t1, t2, n, et', ho, hc, hd⟩
    have hk : its.map (kOf s.heap) = ps := by
      apply List.ext_getElem (by rw [List.length_map]; omega)
      intro i h1 h2
      rw [List.getElem_map]
      exact kOf_eq (hpair i (by simpa using h1) h2)
    refine sorted_both (k := kOf s.heap) hT ho hc hd (by omega) (fun v hv => ?_) fun h' d out h1 h2 kp hd hn => ?_
    · obtain ⟨i, hi, e⟩ := List.getElem_of_mem hv
      have := hpair i hi (by omega)
      rw [← e, kOf_eq this]
      exact this
    · obtain ⟨n, hn⟩ := hn
      have h3 : ∀ u ∈ out, ∃ a, u = Value.ref a := fun u hu => e2 u (h2.mem_iff.mp hu)
      have hH : H d = none := by
        cases q : H d with
        | none => rfl
        | some o => obtain ⟨u, e⟩ := there_of (I.hok d o q); rw [hd] at e; cases e
      refine ⟨.ref d, upd H d (.lst (out.map backV)), I.laidN (t' := s.toks) kp hd hH ⟨?_, out, n, vals_back h3, hn⟩, rfl, q _ (out.map (kOf s.heap)) d (by rw [List.length_map, List.length_map]) (fun z hz => ?_) ?_ (SrtO.srtd_map h1) hH⟩
      · rw [List.length_map, h2.length_eq]
        omega
      · obtain ⟨v, hv, rfl⟩ := zip_map_mem hz
        have := zip_map_mk (f := backV) (g := kOf s.heap) (h2.mem_iff.mp hv)
        rw [hk, ← e1] at this
        exact this
      · rw [← hk]
        exact h2.map _
  rcases hs with hs | hs
  · obtain ⟨its, rv, ⟨o, n, ho, hc, _, hd⟩, hz⟩ := I.list hs
    exact main its "list" o n rv hz (.inl rfl) ho hc hd
  · obtain ⟨its, rv, ⟨o, ho, hc, n, hd⟩, hz⟩ := I.tuple hs
    exact main its "tuple" o n rv hz (.inr rfl) ho hc hd
end
/-! as plain lists -/
def leP (a b : Int × Int) : Bool := !SrtO.lexB b a
def sortP (l : List (Int × Int)) : List (Int × Int) := l.mergeSort leP
theorem leP_iff {a b : Int × Int} : leP a b = true ↔ a.1 < b.1 ∨ (a.1 = b.1 ∧ a.2 ≤ b.2) := by
  unfold leP
  rw [Bool.not_eq_true', SrtO.lexB_no]
  omega
theorem sortP_perm (l : List (Int × Int)) : (sortP l).Perm l := List.mergeSort_perm l leP
theorem sortP_srt (l : List (Int × Int)) : (sortP l).Pairwise fun a b => leP a b = true := by
  apply List.pairwise_mergeSort
  · intro a b c h1 h2
    rw [leP_iff] at *
    omega
  · intro a b
    rw [Bool.or_eq_true, leP_iff, leP_iff]
    omega
theorem sortP_uniq {l m : List (Int × Int)} (hp : m.Perm l) (hs : m.Pairwise fun a b => leP a b = true) : m = sortP l := by
  refine List.Perm.eq_of_pairwise (le := fun a b => leP a b = true) (fun a b _ _ h1 h2 => ?_) hs (sortP_srt l) (hp.trans (sortP_perm l).symm)
  rw [leP_iff] at *
  exact Prod.ext (by omega) (by omega)
theorem srtd_le {l : List (Int × Int)} (h : SrtO.Srtd SrtO.lexB l) : l.Pairwise fun a b => leP a b = true := by
  refine List.Pairwise.imp (fun {a b} h => ?_) h
  unfold leP
  rw [h]
  rfl
section
variable {X : Cx} {B : Bas} {Δ : List Sl} {E : EndD} {e a b : Expr} {pos p : Pos} {α : Type}
theorem reps_prs {K : PySem.W.Frag} {O : Addr → Prop} {H : Hp} : ∀ {ps : List (Int × Int)} {vs : List V}, Reps K O H (ps.map (eP D.int D.int)) vs → Prs K H vs ps
  | [], vs, h => by rw [Reps.nil_inv h]; exact ⟨rfl, fun z m => by simp at m⟩
  | q :: ps, vs, h => by
    obtain ⟨v, vs', rfl, r, h'⟩ := Reps.cons_inv h
    obtain ⟨t, ws, rfl, hT, r2⟩ := rep_tup r
    obtain ⟨x, y, rfl, rx, ry⟩ := reps2 r2
    rw [rep_int rx, rep_int ry] at hT
    obtain ⟨h1, h2⟩ := reps_prs h'
    refine ⟨by simp [h1], fun z m => ?_⟩
    simp only [List.zip_cons_cons, List.mem_cons] at m
    rcases m with rfl | m
    · exact ⟨t, rfl, hT.sq⟩
    · exact h2 z m
theorem reps_zip {K : PySem.W.Frag} {O : Addr → Prop} {H : Hp} {en : α → D} : ∀ {ps : List α} {vs : List V}, Reps K O H (ps.map en) vs → ∀ z ∈ vs.zip ps, Rep K O H (en z.2) z.1
  | [], vs, h => fun z m => by rw [Reps.nil_inv h] at m; simp at m
  | q :: ps, vs, h => fun z m => by
    obtain ⟨v, vs', rfl, r, h'⟩ := Reps.cons_inv h
    simp only [List.zip_cons_cons, List.mem_cons] at m
    rcases m with rfl | m
    · exact r
    · exact reps_zip h' z m
theorem reps_of_zip {K : PySem.W.Frag} {O : Addr → Prop} {H : Hp} {en : α → D} : ∀ {ps : List α} {vs : List V}, vs.length = ps.length → (∀ z ∈ vs.zip ps, Rep K O H (en z.2) z.1) → Reps K O H (ps.map en) vs
  | [], vs, hl, h => by
    rw [List.length_nil] at hl
    rw [List.eq_nil_of_length_eq_zero hl]
    exact Reps.nil
  | q :: ps, [], hl, h => by simp at hl
  | q :: ps, v :: vs, hl, h => Reps.cons (h (v, q) (by simp)) (reps_of_zip (by simpa using hl) fun z m => h z (by simp [m]))
theorem fl_sortP {ps : List (Int × Int)} (h : QV X B Δ e (ps.map (eP D.int D.int))) (hm : X.mg "sorted" = none) (hg : Gl X "sorted" := by rfl) (he : starEach [e] X.env = [(false, eval e X.env)] := by rfl) : FL X B Δ (.Call (.Name "sorted" p) [e] [] pos) ((sortP ps).map (eP D.int D.int)) := fun ow σ H Q W tk S q =>
  we_of (pe_callB cr_sortD hg hm (by decide +kernel) (pa_cons peW pa_nil he) (by decide) (by decide) he rfl) (h ow σ H _ W tk S fun a vs H1 s1 hL r1 =>
    ⟨a, vs, ps, rfl, hL, reps_prs r1, fun ys qs l hlen hz hperm hs hl => by
      have e1 : qs = sortP ps := sortP_uniq hperm (srtd_le hs)
      subst e1
      exact q l ys _ (free_back s1 hl) (s1.trans (same_new hl)) upd_same (((reps_of_zip hlen fun z m => reps_zip r1 z (hz z m)).add hl).up (same_new hl))⟩)
/-! ### max, min, sum of a list; sum of a tuple -/
def maxL (l : List Int) : Int := match l with
  | [] => 0
  | a :: r => r.foldl max a
def minL (l : List Int) : Int := match l with
  | [] => 0
  | a :: r => r.foldl min a
theorem foldl_max_ge (r : List Int) : ∀ (a : Int), a ≤ r.foldl max a ∧ (∀ y ∈ r, y ≤ r.foldl max a) ∧ (r.foldl max a = a ∨ r.foldl max a ∈ r) := by
  induction r with
  | nil => intro a; simp
  | cons b r ih =>
    intro a
    obtain ⟨h1, h2, h3⟩ := ih (max a b)
    rw [List.foldl_cons]
    refine ⟨by omega, fun y hy => ?_, ?_⟩
    · rcases List.mem_cons.mp hy with rfl | hy
      · omega
      · exact h2 y hy
    · rcases h3 with h3 | h3
      · rcases Int.le_total a b with q | q
        · rw [Int.max_eq_right q] at h3 ⊢
          exact .inr (by rw [h3]; simp)
        · rw [Int.max_eq_left q] at h3 ⊢
          exact .inl h3
      · exact .inr (by simp [h3])
theorem foldl_min_le (r : List Int) : ∀ (a : Int), r.foldl min a ≤ a ∧ (∀ y ∈ r, r.foldl min a ≤ y) ∧ (r.foldl min a = a ∨ r.foldl min a ∈ r) := by
  induction r with
  | nil => intro a; simp
  | cons b r ih =>
    intro a
    obtain ⟨h1, h2, h3⟩ := ih (min a b)
    rw [List.foldl_cons]
    refine ⟨by omega, fun y hy => ?_, ?_⟩
    · rcases List.mem_cons.mp hy with rfl | hy
      · omega
      · exact h2 y hy
    · rcases h3 with h3 | h3
      · rcases Int.le_total a b with q | q
        · rw [Int.min_eq_left q] at h3 ⊢
          exact .inl h3
        · rw [Int.min_eq_right q] at h3 ⊢
          exact .inr (by rw [h3]; simp)
      · exact .inr (by simp [h3])
theorem maxL_mem {l : List Int} (h : l ≠ []) : maxL l ∈ l ∧ ∀ y ∈ l, y ≤ maxL l := by
  cases l with
  | nil => exact absurd rfl h
  | cons a r =>
    obtain ⟨h1, h2, h3⟩ := foldl_max_ge r a
    refine ⟨?_, fun y hy => ?_⟩
    · show r.foldl max a ∈ a :: r
      rcases h3 with h3 | h3
      · rw [h3]; simp
      · simp [h3]
    · rcases List.mem_cons.mp hy with rfl | hy
      · exact h1
      · exact h2 y hy
theorem minL_mem {l : List Int} (h : l ≠ []) : minL l ∈ l ∧ ∀ y ∈ l, minL l ≤ y := by
  cases l with
  | nil => exact absurd rfl h
  | cons a r =>
    obtain ⟨h1, h2, h3⟩ := foldl_min_le r a
    refine ⟨?_, fun y hy => ?_⟩
    · show r.foldl min a ∈ a :: r
      rcases h3 with h3 | h3
      · rw [h3]; simp
      · simp [h3]
    · rcases List.mem_cons.mp hy with rfl | hy
      · exact h1
      · exact h2 y hy
theorem jv_maxL {ns : List Int} (hc : X.calm = true) (h : RV X B Δ e (ns.map D.int)) (hn : ns ≠ []) (hm : X.mg "max" = none) (hg : Gl X "max" := by rfl) (he : starEach [e] X.env = [(false, eval e X.env)] := by rfl) : JV X B Δ (.Call (.Name "max" p) [e] [] pos) (.int (maxL ns)) := jv_mk fun ow σ H Q W tk S q =>
  we_of (pe_callB (cr_max hc) hg hm (by decide +kernel) (pa_cons peW pa_nil he) (by decide) (by decide) he rfl) (h ow σ H _ W tk S fun a vs H1 s1 hL r1 => by
    rw [reps_ints r1] at hL
    refine ⟨a, ns, rfl, hL, List.length_pos_iff.mpr hn, fun m h1 h2 => ?_⟩
    obtain ⟨h3, h4⟩ := maxL_mem hn
    have : m = maxL ns := Int.le_antisymm (h4 m h1) (h2 _ h3)
    subst this
    exact q _ _ s1 int_rep)
theorem jv_minL {ns : List Int} (hc : X.calm = true) (h : RV X B Δ e (ns.map D.int)) (hn : ns ≠ []) (hm : X.mg "min" = none) (hg : Gl X "min" := by rfl) (he : starEach [e] X.env = [(false, eval e X.env)] := by rfl) : JV X B Δ (.Call (.Name "min" p) [e] [] pos) (.int (minL ns)) := jv_mk fun ow σ H Q W tk S q =>
  we_of (pe_callB (cr_min hc) hg hm (by decide +kernel) (pa_cons peW pa_nil he) (by decide) (by decide) he rfl) (h ow σ H _ W tk S fun a vs H1 s1 hL r1 => by
    rw [reps_ints r1] at hL
    refine ⟨a, ns, rfl, hL, List.length_pos_iff.mpr hn, fun m h1 h2 => ?_⟩
    obtain ⟨h3, h4⟩ := minL_mem hn
    have : m = minL ns := Int.le_antisymm (h2 _ h3) (h4 m h1)
    subst this
    exact q _ _ s1 int_rep)
theorem jv_sumL {ns : List Int} (hc : X.calm = true) (h : RV X B Δ e (ns.map D.int)) (hm : X.mg "sum" = none) (hg : Gl X "sum" := by rfl) (he : starEach [e] X.env = [(false, eval e X.env)] := by rfl) : JV X B Δ (.Call (.Name "sum" p) [e] [] pos) (.int ns.sum) := jv_mk fun ow σ H Q W tk S q =>
  we_of (pe_callB (cr_sum hc) hg hm (by decide +kernel) (pa_cons peW pa_nil he) (by decide) (by decide) he rfl) (h ow σ H _ W tk S fun a vs H1 s1 hL r1 => by
    rw [reps_ints r1] at hL
    exact ⟨a, ns, rfl, hL, q _ _ s1 int_rep⟩)
def rSumT (K : PySem.W.Frag) : List V → Hp → VK → Prop := fun vs H Q => ∃ (a : Addr) (ns : List Int), vs = [V.ref a] ∧ SqT K H a (ns.map V.int) ∧ Q (.int ns.sum) H
theorem cr_sumT (hc : X.calm = true) : CallR X (.builtin "sum") (rSumT X.K) := by
  intro pins s σ H vs us Q I r h
  obtain ⟨a, ns, rfl, hs, q⟩ := h
  obtain ⟨its, rv, hl, _⟩ := I.tuple hs
  rw [Vals.ref1 r]
  obtain ⟨xs, e⟩ := rv.ints.allInts.items
  have hn : numsOf (intItems xs).toList = ns := by rw [← e]; exact rv.ints.numsOf
  rw [nums_intItems] at hn
  rw [e] at hl
  refine PySem.W.ktm_sumG (I.ok.hd hc) hl fun h' tk t' hk => ⟨.int ns.sum, H, I.kept hk, ⟨t', ?_⟩, q⟩
  rw [preSum_eq, List.take_of_length_le (by simp), hn]
theorem jv_sumT {ns : List Int} (hc : X.calm = true) (h : JV X B Δ e (.tup (ns.map D.int))) (hm : X.mg "sum" = none) (hg : Gl X "sum" := by rfl) (he : starEach [e] X.env = [(false, eval e X.env)] := by rfl) : JV X B Δ (.Call (.Name "sum" p) [e] [] pos) (.int ns.sum) := jv_mk fun ow σ H Q W tk S q =>
  we_of (pe_callB (cr_sumT hc) hg hm (by decide +kernel) (pa_cons peW pa_nil he) (by decide) (by decide) he rfl) (h.use tk S fun v H1 s1 r1 => by
    obtain ⟨a, vs, rfl, hL, r⟩ := rep_tup r1
    rw [reps_ints r] at hL
    exact ⟨a, ns, rfl, hL.sq, q _ _ s1 int_rep⟩)
/-! ### x[i] = e, x.reverse() of an owned list -/
theorem js_setIx (i : Nat) {x : Str} {ix : Expr} {px spos : Pos} {ds : List D} {d : D} {k : Int} {j : Nat} (he : JV X B Δ e d) (hi : JV X B Δ ix (.int k)) (hj : ixN ds.length k = some j) (kk : E.nx (Δ.set i (.own (ds.set j d)))) (h : Δ[i]? = some (.own ds) := by rfl)
    (hN : X.N[i]? = some x := by rfl) (hv : Vis X.env.scope x := by first | exact Or.inl rfl | exact Or.inr (Or.inl rfl) | exact Or.inr (Or.inr rfl)) (hd : (x == ("__debug__" : Str)) = false := by decide) (hcd : (x == ("__classdict__" : Str)) = false := by decide)
    (ha : ∀ v, assign (.Subscript (.Name x px) ix spos) X.env v = (do
      let ov ← holding [v] (eval (.Name x px) X.env)
      let iv ← holding [v, ov] (eval ix X.env)
      standAt spos
      holding [v, ov, iv] (setItem ov iv v)
      release [v, ov, iv] []) := by intro _; rfl)
    (hs : swapsWithSole [.Subscript (.Name x px) ix spos] e pos.line X.env = pure false := by rfl) (hw : swappedStores [.Subscript (.Name x px) ix spos] e X.env = pure none := by rfl)
    (h1 : (assignEach [.Subscript (.Name x px) ix spos] X.env).map (·.2) = [assign (.Subscript (.Name x px) ix spos) X.env] := by rfl) :
    JS X B Δ (.Assign [.Subscript (.Name x px) ix spos] e pos) E := fun ow σ H De W tk S G =>
  ws_of (ps_asg peW (pg_sub (pe_var hN hv hd hcd) peW set_list ha) hs hw h1) (he.use tk S fun u H1 s1 r1 => by
    have S1 := S.up s1
    obtain ⟨a, vs, e1, e2, e3, r⟩ := S1.sl i _ h
    refine ⟨_, e1, hi.use tk S1 fun v H2 s2 r2 => ?_⟩
    have S2 := S1.up s2
    refine ⟨a, vs, k, j, rfl, rep_int r2, s2 _ _ e3, by rw [← r.len]; exact hj, ?_⟩
    have so : SameO (InO B ow) H2 (upd H2 a (.lst (vs.set j u))) := fun b u n z => by
      rw [upd_ne (fun q => n (.inr ⟨i, by rw [q]; exact e2⟩))]
      exact z
    exact G.nx _ ow σ _ kk (S2.write e2 ⟨a, vs.set j u, e1, e2, upd_same, Reps.mono so (fun _ z => z) _ _ ((r.up s2).set j (r1.up s2))⟩))
theorem ixN_pos {n : Nat} {k : Int} (h0 : 0 ≤ k) (h1 : k < n) : ixN n k = some k.toNat := by
  unfold ixN
  rw [if_pos h0, if_pos h1]
theorem ixN_neg {n : Nat} {k : Int} (h0 : k < 0) (h1 : -(n : Int) ≤ k) : ixN n k = some (k + n).toNat := by
  unfold ixN
  rw [if_neg (by omega), if_pos h1]
theorem js_setIxE (i : Nat) (en : α → D) (l : List α) (v0 : α) {x : Str} {ix : Expr} {px spos : Pos} {k : Int} {j : Nat} (he : JV X B Δ e (en v0)) (hi : JV X B Δ ix (.int k)) (hj : ixN l.length k = some j) (kk : ∀ v, v = l.set j v0 → E.nx (Δ.set i (.own (v.map en)))) (h : Δ[i]? = some (.own (l.map en)) := by rfl)
    (hN : X.N[i]? = some x := by rfl) (hv : Vis X.env.scope x := by first | exact Or.inl rfl | exact Or.inr (Or.inl rfl) | exact Or.inr (Or.inr rfl)) (hd : (x == ("__debug__" : Str)) = false := by decide) (hcd : (x == ("__classdict__" : Str)) = false := by decide)
    (ha : ∀ v, assign (.Subscript (.Name x px) ix spos) X.env v = (do
      let ov ← holding [v] (eval (.Name x px) X.env)
      let iv ← holding [v, ov] (eval ix X.env)
      standAt spos
      holding [v, ov, iv] (setItem ov iv v)
      release [v, ov, iv] []) := by intro _; rfl)
    (hs : swapsWithSole [.Subscript (.Name x px) ix spos] e pos.line X.env = pure false := by rfl) (hw : swappedStores [.Subscript (.Name x px) ix spos] e X.env = pure none := by rfl)
    (h1 : (assignEach [.Subscript (.Name x px) ix spos] X.env).map (·.2) = [assign (.Subscript (.Name x px) ix spos) X.env] := by rfl) :
    JS X B Δ (.Assign [.Subscript (.Name x px) ix spos] e pos) E := by
  refine js_setIx i he hi (by rw [List.length_map]; exact hj) ?_ h hN hv hd hcd ha hs hw h1
  have := kk _ rfl
  rw [List.map_set] at this
  exact this
theorem js_revE (i : Nat) (en : α → D) (l : List α) {x : Str} {px apos cpos : Pos} (k : ∀ v, v = l.reverse → E.nx (Δ.set i (.own (v.map en)))) (h : Δ[i]? = some (.own (l.map en)) := by rfl)
    (hN : X.N[i]? = some x := by rfl) (hv : Vis X.env.scope x := by first | exact Or.inl rfl | exact Or.inr (Or.inl rfl) | exact Or.inr (Or.inr rfl)) (hd : (x == ("__debug__" : Str)) = false := by decide) (hcd : (x == ("__classdict__" : Str)) = false := by decide)
    (hp : PE X (.Call (.Attribute (.Name x px) "reverse" apos) [] [] cpos) (tBM0 X.K "list" rReverse (tVar i)) := by exact pe_bm0 PySem.F.plainAttrs_list PySem.F.slot_list_reverse PySem.F.type_list_reverse mt_reverse (pv _))
    (hs : swapsWith (.Call (.Attribute (.Name x px) "reverse" apos) [] [] cpos) none pos.line X.env = pure false := by rfl) : JS X B Δ (.Expr (.Call (.Attribute (.Name x px) "reverse" apos) [] [] cpos) pos) E := fun ow σ H De W tk S G => by
  obtain ⟨a, vs, e1, e2, e3, r⟩ := S.sl i _ h
  refine ws_of (ps_expr hp hs) ⟨.ref a, e1, .inl ⟨rfl, vs, SqL.of e3⟩, ?_⟩
  refine ⟨a, vs, rfl, rfl, e3, ?_⟩
  have so : SameO (InO B ow) H (upd H a (.lst vs.reverse)) := fun b u n z => by
    rw [upd_ne (fun q => n (.inr ⟨i, by rw [q]; exact e2⟩))]
    exact z
  have kk := k _ rfl
  rw [List.map_reverse] at kk
  exact G.nx _ ow σ _ kk (S.write e2 ⟨a, vs.reverse, e1, e2, upd_same, Reps.mono so (fun _ z => z) _ _ r.rev⟩)
end
end Dy
namespace Dy
open PySem PySem.Spec PyProof.Rows L2
theorem fn_to0 {P : Program} {w : World} {K : PySem.W.Frag} {mg : Str → Option Value} {base : Heap} {k : Nat} {f : Addr} {fd : FuncData} {ps : List Str} {sp : Sp} (F : FnOk P w K mg base (L2.CX P w) k f fd ps sp) :
    FnOk P w K mg base CX0 k f fd ps (fun vs H Q _ => sp vs H Q fun _ _ _ => False) := by
  refine ⟨fun vs H Q E h => F.len _ _ _ _ h, fun A outer s H args us vs Q E hr he hb hv hs => ?_⟩
  refine codeAny_mono (F.run A outer s H args us vs Q _ hr he hb hv hs) fun r s' q => ?_
  cases r with
  | ok fl => cases fl <;> exact q
  | error e =>
    obtain ⟨_, _, _, _, _, _, _, _, _, _, _, _, z⟩ := (show L2.CX P w outer H s (fun _ _ _ => False) e s' from q)
    exact z.elim
theorem law_end {l : PySem.W.OpenLaw} {k : Nat} {q : Program} {loose : List Str} {XP : (Str → Option Value) → Heap → Prop} {YP : World → Heap → Prop} {d : DefRec} {x : Str} {R : PySem.W.Frag → Rl}
    (hn : l.most = some 63) (hdf : d.params.defaults = []) (hr : Room k callerA)
    (F : ∀ (w : World) (mg : Str → Option Value) (fa : Addr) (h : Heap), YP w h → h.Ns mainGlobals mg → mg d.name = some (.ref fa) →
      ∃ (K : PySem.W.Frag) (fd : FuncData), K.In h ∧ (∀ (s : Shared) (u : Value), BindsTo s fd ⟨[u], []⟩ [(x, u)]) ∧ (∀ ns : List Int, ns.length ≤ 63 → R K [.scr ns] (.ok (.bl true))) ∧
        ∀ base : Heap, K.In base → base.Ns mainGlobals mg → FnOk l.prog w K mg base (L2.CX l.prog w) k fa fd [x] (spR K (R K))) :
    PySem.W.WalkO q loose XP YP l.row.toRowW d [] (fun f vs => PySem.call f vs) := by
  refine L2.walk_ofE (n := 63) (k := k) (x := x) (CX := CX0) hn (by decide) hdf hr (fun w mg fa h Y G hm => ?_) fun _ _ _ _ z => z
  obtain ⟨K, fd, KX, hb, hR, hF⟩ := F w mg fa h Y G hm
  refine ⟨K, fd, _, KX, hb, fun H a ns hl _ hS => ?_, fun base h1 h2 => fn_to0 (hF base h1 h2)⟩
  exact ⟨fun _ => False, [.scr ns], _, fun _ z => z.elim, Reps.cons (scr_rep (.inl ⟨fun z => z, hS⟩)) Reps.nil, hR ns hl, fun v H' _ r => rep_bl r⟩
/-- a def of the text, from the head's facts -/
theorem fun_ofD {K : PySem.W.Frag} {x qual : Str} {st : Stmt} {f : Addr} {fd : FuncData} {kws : List (Str × V)} (F : L2.FunD K x qual (L2.defArgs st) (L2.defBody st) (L2.defScope st) [] kws f fd) : L2.Fun K x qual st f fd := He5.fun_of F
end Dy
namespace My
open PySem PySem.Spec PyProof.Rows L2 Dy
def cell (ns : List Int) (k : Int) : Int := if k < ns.length then nth ns k else 0
def digits : Int → List Int → List Int
  | _, [] => []
  | c, s :: r => c % s :: digits (c / s) r
def rich (c : Int) : Int := if 10 ^ 18 ≤ c then c else
  ((c * 48271 + 11) % 2147483647) * 2147483629 + (((c * 48271 + 11) % 2147483647) * 69621 + c / 7 + 5) % 2147483629
theorem digits_len : ∀ (c : Int) (l : List Int), (digits c l).length = l.length
  | _, [] => rfl
  | c, s :: r => by simp [digits, digits_len]
theorem digits_at : ∀ (l : List Int) (c : Int) (i : Nat), i < l.length → (∀ s ∈ l, 0 < s) → 0 ≤ (digits c l).getD i 0 ∧ (digits c l).getD i 0 < l.getD i 0
  | [], c, i, h, _ => by simp at h
  | s :: r, c, 0, _, hs => by
    have := hs s (by simp)
    simp only [digits, List.getD_cons_zero]
    exact ⟨Int.emod_nonneg _ (by omega), Int.emod_lt_of_pos _ this⟩
  | s :: r, c, i + 1, h, hs => by
    simp only [digits, List.getD_cons_succ]
    exact digits_at r _ i (by simpa using h) fun x hx => hs x (by simp [hx])
theorem nth_getD (l : List Int) (i : Nat) : nth l (i : Int) = l.getD i 0 := by simp [nth]
theorem digits_nth (l : List Int) (c : Int) (i : Nat) (h : i < l.length) (hs : ∀ s ∈ l, 0 < s) : 0 ≤ nth (digits c l) (i : Int) ∧ nth (digits c l) (i : Int) < l.getD i 0 := by
  rw [nth_getD]
  exact digits_at l c i h hs
end My
namespace My
open PySem PySem.Spec PyProof.Rows L2 Dy
abbrev Pr := Int × Int
def mrg : Pr → List Pr → List Pr
  | c, [] => [c]
  | c, p :: r => if p.1 ≤ c.2 then mrg (c.1, max c.2 p.2) r else c :: mrg p r
def mergedF (ps : List Pr) : List Pr := match sortP ps with
  | [] => []
  | p :: r => mrg p r
def rowSt (d : List Int) : Nat → List Pr × Int
  | 0 => ([], nth d 9 % 3 - 1)
  | k + 1 =>
    let b := (rowSt d k).2 + nth d (1 + 2 * (k : Int)) * (1 + nth d (2 + 2 * (k : Int)) / 3)
    ((rowSt d k).1 ++ [(max 0 b, max 0 b + 1 + nth d (2 + 2 * (k : Int)))], b + nth d (2 + 2 * (k : Int)))
def rowF (c bound : Int) : List Pr :=
  let d := digits (rich c) [5, 12, 7, 12, 7, 12, 7, 12, 7, 4]
  (rowSt d (nth d 0).toNat).1.filter fun r => decide (r.2 ≤ bound)
def tidyGo (hi : Int) : Int → List Pr → Bool
  | _, [] => true
  | past, p :: r => if past < p.1 ∧ p.1 < p.2 ∧ p.2 ≤ hi then tidyGo hi p.2 r else false
def tidyF (ps : List Pr) (lo hi : Int) : Bool := tidyGo hi (lo - 1) ps
def hitF (ps : List Pr) (t : Int) : Bool := ps.any fun r => decide (r.1 ≤ t) && decide (t < r.2)
def Wf (lo hi : Int) (ps : List Pr) : Prop := ∀ r ∈ ps, lo ≤ r.1 ∧ r.1 < r.2 ∧ r.2 ≤ hi
theorem rowSt_len (d : List Int) : ∀ k, (rowSt d k).1.length = k
  | 0 => rfl
  | k + 1 => by simp [rowSt, rowSt_len d k]
theorem rowSt_wf (d : List Int) : ∀ k, (∀ i : Nat, i < k → 0 ≤ nth d (2 + 2 * (i : Int))) → ∀ r ∈ (rowSt d k).1, 0 ≤ r.1 ∧ r.1 < r.2
  | 0, _ => by simp [rowSt]
  | k + 1, h => by
    intro r hr
    simp only [rowSt, List.mem_append, List.mem_singleton] at hr
    rcases hr with hr | hr
    · exact rowSt_wf d k (fun i hi => h i (by omega)) r hr
    · have := h k (by omega)
      subst hr
      simp only
      omega
theorem row_dig (c : Int) : let d := digits (rich c) [5, 12, 7, 12, 7, 12, 7, 12, 7, 4]; 0 ≤ nth d 0 ∧ nth d 0 < 5 ∧ ∀ i : Nat, i < 4 → 0 ≤ nth d (2 + 2 * (i : Int)) ∧ nth d (2 + 2 * (i : Int)) < 12 := by
  intro d
  have h := fun i h => digits_nth [5, 12, 7, 12, 7, 12, 7, 12, 7, 4] (rich c) i h (by decide)
  refine ⟨(h 0 (by decide)).1, (h 0 (by decide)).2, fun i hi => ?_⟩
  have h1 := h (2 + 2 * i) (by simp; omega)
  have h2 : ([5, 12, 7, 12, 7, 12, 7, 12, 7, 4] : List Int).getD (2 + 2 * i) 0 ≤ 12 := by
    rcases i with _ | _ | _ | _ | i
    · decide
    · decide
    · decide
    · decide
    · omega
  have e : ((2 + 2 * i : Nat) : Int) = 2 + 2 * (i : Int) := by omega
  rw [e] at h1
  exact ⟨h1.1, Int.lt_of_lt_of_le h1.2 h2⟩
theorem rowF_wf (c bound : Int) : Wf 0 bound (rowF c bound) ∧ (rowF c bound).length ≤ 4 := by
  obtain ⟨h1, h2, h3⟩ := row_dig c
  refine ⟨fun r hr => ?_, ?_⟩
  · simp only [rowF, List.mem_filter, decide_eq_true_eq] at hr
    have := rowSt_wf _ _ (fun i hi => (h3 i (by omega)).1) r hr.1
    omega
  · refine Nat.le_trans (List.length_filter_le _ _) ?_
    rw [rowSt_len]
    omega
theorem Wf.mono {lo hi lo' hi' : Int} {ps : List Pr} (h : Wf lo hi ps) (h1 : lo' ≤ lo) (h2 : hi ≤ hi') : Wf lo' hi' ps := fun r hr => by
  have := h r hr
  omega
theorem Wf.app {lo hi : Int} {ps qs : List Pr} (h : Wf lo hi ps) (h2 : Wf lo hi qs) : Wf lo hi (ps ++ qs) := fun r hr => by
  rcases List.mem_append.mp hr with hr | hr
  · exact h r hr
  · exact h2 r hr
theorem Wf.sub {lo hi : Int} {ps qs : List Pr} (h : Wf lo hi ps) (s : ∀ r ∈ qs, r ∈ ps) : Wf lo hi qs := fun r hr => h r (s r hr)
theorem mem_cutD {α : Type} {l : List α} {a b : Option Int} {x : α} (h : x ∈ Dy.cutD l a b) : x ∈ l := by
  unfold Dy.cutD at h
  exact List.mem_of_mem_drop (List.mem_of_mem_take h)
theorem Wf.shift {lo hi : Int} {ps : List Pr} (h : Wf lo hi ps) (by_ : Int) : Wf (lo + by_) (hi + by_) (ps.map fun a => (a.1 + by_, a.2 + by_)) := fun r hr => by
  obtain ⟨q, hq, rfl⟩ := List.mem_map.mp hr
  have := h q hq
  simp only
  omega
/-- the starts do not fall -/
def Asc (x : Int) : List Pr → Prop
  | [] => True
  | p :: r => x ≤ p.1 ∧ Asc p.1 r
theorem asc_of : ∀ {l : List Pr} {x : Int}, (∀ p ∈ l, x ≤ p.1) → (l.Pairwise fun a b => leP a b = true) → Asc x l
  | [], _, _, _ => trivial
  | p :: r, x, h, s => by
    refine ⟨h p (by simp), asc_of (fun q hq => ?_) (List.pairwise_cons.mp s).2⟩
    have := (List.pairwise_cons.mp s).1 q hq
    rw [leP_iff] at this
    omega
theorem mrg_tidy {hi : Int} : ∀ (l : List Pr) (c : Pr) (past : Int), past < c.1 → c.1 < c.2 → c.2 ≤ hi → (∀ r ∈ l, r.1 < r.2 ∧ r.2 ≤ hi) → tidyGo hi past (mrg c l) = true
  | [], c, past, h1, h2, h3, _ => by
    rw [mrg, tidyGo, if_pos ⟨h1, h2, h3⟩]
    rfl
  | p :: r, c, past, h1, h2, h3, h4 => by
    have hp := h4 p (by simp)
    rw [mrg]
    split
    · exact mrg_tidy r _ past h1 (by simp only; omega) (by simp only; omega) fun q hq => h4 q (by simp [hq])
    · rw [tidyGo, if_pos ⟨h1, h2, h3⟩]
      exact mrg_tidy r p c.2 (by omega) hp.1 hp.2 fun q hq => h4 q (by simp [hq])
theorem hit_cons (p : Pr) (l : List Pr) (t : Int) : hitF (p :: l) t = ((decide (p.1 ≤ t) && decide (t < p.2)) || hitF l t) := by simp [hitF]
theorem mrg_hit (t : Int) : ∀ (l : List Pr) (c : Pr), c.1 < c.2 → Asc c.1 l → (∀ r ∈ l, r.1 < r.2) → hitF (mrg c l) t = hitF (c :: l) t
  | [], c, _, _, _ => rfl
  | p :: r, c, h1, h2, h3 => by
    rw [mrg]
    have hp := h3 p (by simp)
    split
    · rename_i hle
      rw [mrg_hit t r _ (by simp only; omega) (by
        show Asc c.1 r
        have h2' := h2.2
        cases r with
        | nil => trivial
        | cons q r => exact ⟨by have := h2'.1; have := h2.1; omega, h2'.2⟩) fun q hq => h3 q (by simp [hq])]
      rw [hit_cons, hit_cons, hit_cons, ← Bool.or_assoc]
      congr 1
      have := h2.1
      rw [Bool.eq_iff_iff]
      simp only [Bool.or_eq_true, Bool.and_eq_true, decide_eq_true_eq]
      omega
    · rw [hit_cons, mrg_hit t r p hp h2.2 fun q hq => h3 q (by simp [hq]), ← hit_cons]
theorem hit_perm {l m : List Pr} (h : l.Perm m) (t : Int) : hitF l t = hitF m t := by
  rw [Bool.eq_iff_iff]
  simp only [hitF, List.any_eq_true]
  exact ⟨fun ⟨x, hx, e⟩ => ⟨x, h.mem_iff.mp hx, e⟩, fun ⟨x, hx, e⟩ => ⟨x, h.mem_iff.mpr hx, e⟩⟩
theorem merged_hit {lo hi : Int} {ps : List Pr} (h : Wf lo hi ps) (t : Int) : hitF (mergedF ps) t = hitF ps t := by
  have hp := sortP_perm ps
  have hs := sortP_srt ps
  rw [← hit_perm hp t, mergedF]
  cases e : sortP ps with
  | nil => rfl
  | cons p r =>
    rw [e] at hp hs
    have w : ∀ q ∈ p :: r, q.1 < q.2 := fun q hq => (h q (hp.mem_iff.mp hq)).2.1
    exact mrg_hit t r p (w p (by simp)) (asc_of (fun q hq => by
      have := (List.pairwise_cons.mp hs).1 q hq
      rw [leP_iff] at this
      omega) (List.pairwise_cons.mp hs).2) fun q hq => w q (by simp [hq])
theorem merged_tidy {lo hi : Int} {ps : List Pr} (h : Wf lo hi ps) : tidyF (mergedF ps) lo hi = true := by
  have hp := sortP_perm ps
  rw [tidyF, mergedF]
  cases e : sortP ps with
  | nil => rfl
  | cons p r =>
    rw [e] at hp
    have w := fun q (hq : q ∈ p :: r) => h q (hp.mem_iff.mp hq)
    have := w p (by simp)
    exact mrg_tidy r p _ (by omega) this.2.1 this.2.2 fun q hq => (w q (by simp [hq])).2
theorem tidy_srt {hi : Int} : ∀ (l : List Pr) (past : Int), tidyGo hi past l = true → (∀ p ∈ l, past < p.1 ∧ p.1 < p.2 ∧ p.2 ≤ hi) ∧ l.Pairwise (fun a b => leP a b = true)
  | [], _, _ => by simp
  | p :: r, past, h => by
    rw [tidyGo] at h
    split at h
    · rename_i hc
      obtain ⟨h1, h2⟩ := tidy_srt r p.2 h
      refine ⟨fun q hq => ?_, List.pairwise_cons.mpr ⟨fun q hq => ?_, h2⟩⟩
      · rcases List.mem_cons.mp hq with rfl | hq
        · exact hc
        · have := h1 q hq
          omega
      · have := h1 q hq
        rw [leP_iff]
        omega
    · cases h
theorem mrg_id {hi : Int} : ∀ (l : List Pr) (c : Pr), tidyGo hi c.2 l = true → mrg c l = c :: l
  | [], c, _ => rfl
  | p :: r, c, h => by
    rw [tidyGo] at h
    split at h
    · rename_i hc
      rw [mrg, if_neg (by omega), mrg_id r p h]
    · cases h
theorem tidy_merged {lo hi : Int} {l : List Pr} (h : tidyF l lo hi = true) : mergedF l = l := by
  obtain ⟨h1, h2⟩ := tidy_srt l _ h
  have e : sortP l = l := (sortP_uniq (List.Perm.refl l) h2).symm
  rw [mergedF, e]
  cases l with
  | nil => rfl
  | cons p r =>
    rw [tidyF, tidyGo] at h
    split at h
    · exact mrg_id r p h
    · cases h
theorem mrg_len : ∀ (l : List Pr) (c : Pr), (mrg c l).length ≤ l.length + 1
  | [], c => by simp [mrg]
  | p :: r, c => by
    rw [mrg]
    split
    · have := mrg_len r (c.1, max c.2 p.2)
      simp only [List.length_cons]
      omega
    · have := mrg_len r p
      simp only [List.length_cons]
      omega
theorem merged_len (ps : List Pr) : (mergedF ps).length ≤ ps.length := by
  have hp := (sortP_perm ps).length_eq
  rw [mergedF]
  cases e : sortP ps with
  | nil => simp
  | cons p r =>
    have := mrg_len r p
    rw [e, List.length_cons] at hp
    show (mrg p r).length ≤ _
    omega
theorem last_eq {l : List Pr} {i : List Pr} {c : Pr} (h : l = i ++ [c]) : nth l (l.length + -1) = c := by
  have e : (((l.length : Nat) : Int) + -1).toNat = i.length := by rw [h]; simp; omega
  rw [nth, e, h]
  simp
def MI (ps rows pre : List Pr) : Prop := (rows = [] ∧ pre = []) ∨ ∃ i0 c0, rows = i0 ++ [c0] ∧ i0.length < pre.length ∧ ∀ post, sortP ps = pre ++ post → mergedF ps = i0 ++ mrg c0 post
theorem MI.len {ps rows pre : List Pr} (h : MI ps rows pre) : rows.length ≤ pre.length := by
  rcases h with ⟨h, _⟩ | ⟨i0, c0, h, hl, _⟩ <;> rw [h] <;> simp <;> omega
theorem mi_app {ps rows pre post0 : List Pr} {a : Pr} (h : MI ps rows pre) (e : sortP ps = pre ++ a :: post0) (c : ¬ (rows ≠ [] ∧ a.1 ≤ (nth rows (rows.length + -1)).2)) : MI ps (rows ++ [(a.1, a.2)]) (pre ++ [a]) := by
  have eta : (a.1, a.2) = a := rfl
  rcases h with ⟨rfl, rfl⟩ | ⟨i0, c0, h, hl, hh⟩
  · refine .inr ⟨[], a, by rw [eta], by simp, fun post ep => ?_⟩
    rw [mergedF, ep]
    rfl
  · refine .inr ⟨rows, a, by rw [eta], by rw [h]; simp; omega, fun post ep => ?_⟩
    rw [List.append_assoc] at ep
    rw [hh _ ep, List.singleton_append, mrg, if_neg, h]
    · simp
    · intro z
      exact c ⟨by rw [h]; simp, by rw [last_eq h]; exact z⟩
theorem mi_set {ps rows pre post0 : List Pr} {a : Pr} {j : Nat} (h : MI ps rows pre) (e : sortP ps = pre ++ a :: post0) (c : rows ≠ [] ∧ a.1 ≤ (nth rows (rows.length + -1)).2) (hj : j = (-1 + (rows.length : Int)).toNat) :
    MI ps (rows.set j ((nth rows (rows.length + -1)).1, max (nth rows (rows.length + -1)).2 a.2)) (pre ++ [a]) := by
  rcases h with ⟨rfl, rfl⟩ | ⟨i0, c0, h, hl, hh⟩
  · exact absurd rfl c.1
  · rw [last_eq h] at c ⊢
    refine .inr ⟨i0, (c0.1, max c0.2 a.2), ?_, by simp; omega, fun post ep => ?_⟩
    · have ej : j = i0.length := by rw [hj, h]; simp; omega
      rw [h, ej]
      simp
    · rw [List.append_assoc] at ep
      rw [hh _ ep, List.singleton_append, mrg, if_pos c.2]
theorem mi_done {ps rows : List Pr} (h : MI ps rows (sortP ps)) : mergedF ps = rows := by
  rcases h with ⟨h, e⟩ | ⟨i0, c0, h, hl, hh⟩
  · rw [h, mergedF, e]
  · rw [hh [] (by simp), h]
    rfl
end My
namespace My
open PySem PySem.Spec PyProof.Rows L2 Dy
/-! ### cut, gaps, common in plain Lean -/
def cutF : List Pr → Int → Int → List Pr
  | [], _, _ => []
  | p :: r, a, b => if max p.1 a < min p.2 b then (max p.1 a, min p.2 b) :: cutF r a b else cutF r a b
def gapsGo (b : Int) : Int → List Pr → List Pr
  | free, [] => if free < b then [(free, b)] else []
  | free, p :: r => if free < p.1 then (free, p.1) :: gapsGo b p.2 r else gapsGo b p.2 r
def gapsF (ps : List Pr) (a b : Int) : List Pr := gapsGo b a (cutF ps a b)
def comF : List Pr → List Pr → List Pr
  | [], _ => []
  | _ :: _, [] => []
  | p :: r, q :: s => (if max p.1 q.1 < min p.2 q.2 then [(max p.1 q.1, min p.2 q.2)] else []) ++ (if p.2 < q.2 then comF r (q :: s) else comF (p :: r) s)
termination_by l m => l.length + m.length
theorem tidyGo_cons {hi past : Int} {p : Pr} {r : List Pr} : tidyGo hi past (p :: r) = true ↔ (past < p.1 ∧ p.1 < p.2 ∧ p.2 ≤ hi) ∧ tidyGo hi p.2 r = true := by
  rw [tidyGo]
  by_cases c : past < p.1 ∧ p.1 < p.2 ∧ p.2 ≤ hi
  · rw [if_pos c]
    exact ⟨fun h => ⟨c, h⟩, fun h => h.2⟩
  · rw [if_neg c]
    exact ⟨fun h => absurd h Bool.false_ne_true, fun h => absurd h.1 c⟩
theorem tidy_mono {hi : Int} : ∀ {l : List Pr} {past past' : Int}, past' ≤ past → tidyGo hi past l = true → tidyGo hi past' l = true
  | [], _, _, _, _ => rfl
  | p :: r, past, past', h, t => by
    rw [tidyGo_cons] at t ⊢
    exact ⟨⟨by omega, t.1.2⟩, t.2⟩
theorem hit_lo {hi t : Int} : ∀ {l : List Pr} {past : Int}, tidyGo hi past l = true → hitF l t = true → past < t ∧ t < hi
  | [], _, _, h => by cases h
  | p :: r, past, h, g => by
    rw [tidyGo_cons] at h
    rw [hit_cons, Bool.or_eq_true, Bool.and_eq_true, decide_eq_true_eq, decide_eq_true_eq] at g
    rcases g with g | g
    · omega
    · have := hit_lo h.2 g
      omega
theorem cut_len : ∀ (l : List Pr) (a b : Int), (cutF l a b).length ≤ l.length
  | [], _, _ => by simp [cutF]
  | p :: r, a, b => by
    have := cut_len r a b
    rw [cutF]
    split <;> simp only [List.length_cons] <;> omega
theorem cut_tidy {hi a b : Int} : ∀ (l : List Pr) (past past' : Int), tidyGo hi past l = true → (past' < a ∨ past' ≤ past) → tidyGo b past' (cutF l a b) = true
  | [], _, _, _, _ => rfl
  | p :: r, past, past', h, hp => by
    rw [tidyGo_cons] at h
    rw [cutF]
    split
    · rw [tidyGo_cons]
      exact ⟨by simp only; omega, cut_tidy r p.2 _ h.2 (.inr (by simp only; omega))⟩
    · exact cut_tidy r p.2 past' h.2 (hp.imp id (by omega))
theorem cut_hit (t a b : Int) : ∀ (l : List Pr), hitF (cutF l a b) t = (hitF l t && (decide (a ≤ t) && decide (t < b)))
  | [] => by simp [cutF, hitF]
  | p :: r => by
    rw [cutF]
    have ih := cut_hit t a b r
    split
    · rename_i c
      rw [hit_cons, hit_cons, ih, Bool.eq_iff_iff]
      cases hitF r t <;> simp only [Bool.or_eq_true, Bool.and_eq_true, decide_eq_true_eq, Bool.false_and, Bool.true_and, Bool.or_false, Bool.or_true, Bool.false_eq_true, or_false] <;> omega
    · rename_i c
      rw [hit_cons, ih, Bool.eq_iff_iff]
      cases hitF r t <;> simp only [Bool.or_eq_true, Bool.and_eq_true, decide_eq_true_eq, Bool.false_and, Bool.true_and, Bool.or_false, Bool.or_true, Bool.false_eq_true, false_iff] <;> omega
theorem gaps_tidy {b : Int} : ∀ (m : List Pr) (past past' free : Int), tidyGo b past m = true → free ≤ past + 1 → past' < free → tidyGo b past' (gapsGo b free m) = true
  | [], past, past', free, _, h1, h2 => by
    rw [gapsGo]
    split
    · rw [tidyGo_cons]
      exact ⟨by simp only; omega, rfl⟩
    · rfl
  | p :: r, past, past', free, h, h1, h2 => by
    rw [tidyGo_cons] at h
    rw [gapsGo]
    split
    · rw [tidyGo_cons]
      exact ⟨by simp only; omega, gaps_tidy r p.2 _ p.2 h.2 (by omega) (by simp only; omega)⟩
    · exact gaps_tidy r p.2 past' p.2 h.2 (by omega) (by omega)
theorem gaps_hit (t b : Int) : ∀ (m : List Pr) (past free : Int), tidyGo b past m = true → free ≤ past + 1 → hitF (gapsGo b free m) t = (decide (free ≤ t) && decide (t < b) && !hitF m t)
  | [], past, free, _, h1 => by
    rw [gapsGo]
    split
    · simp [hitF]
    · simp [hitF]
      omega
  | p :: r, past, free, h, h1 => by
    rw [tidyGo_cons] at h
    have ih := gaps_hit t b r p.2 p.2 h.2 (by omega)
    have hl := fun g => hit_lo (t := t) h.2 g
    rw [gapsGo]
    split
    · rw [hit_cons, hit_cons, ih, Bool.eq_iff_iff]
      cases hr : hitF r t with
      | true =>
        have := hl hr
        simp
        omega
      | false =>
        simp
        omega
    · rw [hit_cons, ih, Bool.eq_iff_iff]
      cases hr : hitF r t with
      | true =>
        have := hl hr
        simp
      | false =>
        simp
        omega
theorem gapsF_tidy {hi past : Int} {l : List Pr} {a b : Int} (h : tidyGo hi past l = true) : tidyF (gapsF l a b) a b = true :=
  gaps_tidy _ (a - 1) _ a (cut_tidy l past _ h (.inl (by omega))) (by omega) (by omega)
theorem gapsF_hit {hi past : Int} {l : List Pr} {a b : Int} (h : tidyGo hi past l = true) (t : Int) : hitF (gapsF l a b) t = (decide (a ≤ t) && decide (t < b) && !hitF l t) := by
  rw [gapsF, gaps_hit t b _ (a - 1) a (cut_tidy l past _ h (.inl (by omega))) (by omega), cut_hit]
  cases hitF l t <;> simp
/-- tidy rows of the same instants are one -/
theorem tidy_ext {hi hi' : Int} : ∀ (l m : List Pr) (past past' : Int), tidyGo hi past l = true → tidyGo hi' past' m = true → (∀ t, hitF l t = hitF m t) → l = m
  | [], [], _, _, _, _, _ => rfl
  | [], q :: s, _, past', _, h, e => by
    have := e q.1
    rw [tidyGo_cons] at h
    rw [hit_cons] at this
    have h1 : decide (q.1 ≤ q.1) = true := by simp
    have h2 : decide (q.1 < q.2) = true := by simp; omega
    rw [h1, h2] at this
    simp [hitF] at this
  | p :: r, [], past, _, h, _, e => by
    have := e p.1
    rw [tidyGo_cons] at h
    rw [hit_cons] at this
    have h1 : decide (p.1 ≤ p.1) = true := by simp
    have h2 : decide (p.1 < p.2) = true := by simp; omega
    rw [h1, h2] at this
    simp [hitF] at this
  | p :: r, q :: s, past, past', h, h', e => by
    rw [tidyGo_cons] at h h'
    have lo1 := fun t g => hit_lo (t := t) h.2 g
    have lo2 := fun t g => hit_lo (t := t) h'.2 g
    have ee : ∀ t, ((p.1 ≤ t ∧ t < p.2) ∨ hitF r t = true) ↔ ((q.1 ≤ t ∧ t < q.2) ∨ hitF s t = true) := fun t => by
      have := e t
      rw [hit_cons, hit_cons, Bool.eq_iff_iff] at this
      simpa using this
    have a1 := (ee p.1).mp (.inl (by omega))
    have a2 := (ee q.1).mpr (.inl (by omega))
    have s1 : p.1 = q.1 := by
      have b1 : q.1 ≤ p.1 := by
        rcases a1 with a1 | a1
        · omega
        · have := lo2 _ a1
          omega
      have b2 : p.1 ≤ q.1 := by
        rcases a2 with a2 | a2
        · omega
        · have := lo1 _ a2
          omega
      omega
    have s2 : p.2 = q.2 := by
      rcases Int.lt_trichotomy p.2 q.2 with c | c | c
      · rcases (ee p.2).mpr (.inl (by omega)) with z | z
        · omega
        · have := lo1 _ z
          omega
      · exact c
      · rcases (ee q.2).mp (.inl (by omega)) with z | z
        · omega
        · have := lo2 _ z
          omega
    have es : p = q := Prod.ext s1 s2
    subst es
    congr 1
    refine tidy_ext r s p.2 p.2 h.2 h'.2 fun t => ?_
    rw [Bool.eq_iff_iff]
    constructor
    · intro z
      have := lo1 _ z
      rcases (ee t).mp (.inr z) with y | y
      · omega
      · exact y
    · intro z
      have := lo2 _ z
      rcases (ee t).mpr (.inr z) with y | y
      · omega
      · exact y
theorem tidy_none {hi past : Int} {l : List Pr} (h : tidyGo hi past l = true) (e : ∀ t, hitF l t = false) : l = [] := tidy_ext l [] past past h (show tidyGo hi past [] = true from rfl) fun t => by rw [e t]; rfl
theorem com_tidy {hi hi' : Int} : ∀ (n : Nat) (l m : List Pr) (past past' x : Int), l.length + m.length ≤ n → tidyGo hi past l = true → tidyGo hi' past' m = true → (x ≤ past ∨ x ≤ past') → tidyGo hi x (comF l m) = true
  | n, [], m, _, _, _, _, _, _, _ => by rw [comF]; rfl
  | n, p :: r, [], _, _, _, _, _, _, _ => by rw [comF]; rfl
  | 0, p :: r, q :: s, _, _, _, hn, _, _, _ => by simp at hn
  | n + 1, p :: r, q :: s, past, past', x, hn, h, h', hx => by
    have g := tidyGo_cons.mp h
    have g' := tidyGo_cons.mp h'
    simp only [List.length_cons] at hn
    rw [comF]
    have rest : ∀ y, (y ≤ min p.2 q.2 ∨ y ≤ x) → tidyGo hi y (if p.2 < q.2 then comF r (q :: s) else comF (p :: r) s) = true := fun y hy => by
      split
      · refine com_tidy n r (q :: s) p.2 past' y (by simp only [List.length_cons]; omega) g.2 h' ?_
        rcases hy with hy | hy
        · exact .inl (by omega)
        · rcases hx with hx | hx
          · exact .inl (by omega)
          · exact .inr (by omega)
      · refine com_tidy n (p :: r) s past q.2 y (by simp only [List.length_cons]; omega) h g'.2 ?_
        rcases hy with hy | hy
        · exact .inr (by omega)
        · rcases hx with hx | hx
          · exact .inl (by omega)
          · exact .inr (by omega)
    split
    · rw [List.singleton_append, tidyGo_cons]
      exact ⟨by simp only; omega, rest _ (.inl (by simp only; omega))⟩
    · rw [List.nil_append]
      exact rest x (.inr (by omega))
theorem com_hit {hi hi' : Int} (t : Int) : ∀ (n : Nat) (l m : List Pr) (past past' : Int), l.length + m.length ≤ n → tidyGo hi past l = true → tidyGo hi' past' m = true → hitF (comF l m) t = (hitF l t && hitF m t)
  | n, [], m, _, _, _, _, _ => by rw [comF]; rfl
  | n, p :: r, [], _, _, _, _, _ => by rw [comF]; simp [hitF]
  | 0, p :: r, q :: s, _, _, hn, _, _ => by simp at hn
  | n + 1, p :: r, q :: s, past, past', hn, h, h' => by
    have g := tidyGo_cons.mp h
    have g' := tidyGo_cons.mp h'
    simp only [List.length_cons] at hn
    have lo1 := fun z => hit_lo (t := t) g.2 z
    have lo2 := fun z => hit_lo (t := t) g'.2 z
    have app : ∀ (a b : List Pr), hitF (a ++ b) t = (hitF a t || hitF b t) := fun a b => by simp [hitF]
    rw [comF, app]
    have e1 : hitF (if max p.1 q.1 < min p.2 q.2 then [(max p.1 q.1, min p.2 q.2)] else []) t = (decide (max p.1 q.1 ≤ t) && decide (t < min p.2 q.2)) := by
      split
      · simp [hitF]
      · rw [Bool.eq_iff_iff]
        simp [hitF]
        omega
    rw [e1]
    split
    · rename_i c
      rw [com_hit t n r (q :: s) p.2 past' (by simp only [List.length_cons]; omega) g.2 h', hit_cons, hit_cons, Bool.eq_iff_iff]
      cases hr : hitF r t with
      | true =>
        have := lo1 hr
        cases hs : hitF s t <;> simp <;> omega
      | false =>
        cases hs : hitF s t with
        | true =>
          have := lo2 hs
          simp
          omega
        | false =>
          simp
          omega
    · rename_i c
      rw [com_hit t n (p :: r) s past q.2 (by simp only [List.length_cons]; omega) h g'.2, hit_cons, hit_cons, Bool.eq_iff_iff]
      cases hs : hitF s t with
      | true =>
        have := lo2 hs
        cases hr : hitF r t <;> simp <;> omega
      | false =>
        cases hr : hitF r t with
        | true =>
          have := lo1 hr
          simp
          omega
        | false =>
          simp
          omega
theorem com_len : ∀ (n : Nat) (l m : List Pr), l.length + m.length ≤ n → (comF l m).length ≤ n
  | n, [], m, _ => by rw [comF]; simp
  | n, p :: r, [], _ => by rw [comF]; simp
  | 0, p :: r, q :: s, hn => by simp at hn
  | n + 1, p :: r, q :: s, hn => by
    simp only [List.length_cons] at hn
    rw [comF]
    have : (if p.2 < q.2 then comF r (q :: s) else comF (p :: r) s).length ≤ n := by
      split
      · exact com_len n r (q :: s) (by simp only [List.length_cons]; omega)
      · exact com_len n (p :: r) s (by simp only [List.length_cons]; omega)
    rw [List.length_append]
    split <;> simp <;> omega
theorem drop_nth {l : List Pr} {i : Int} (h0 : 0 ≤ i) (h1 : i < l.length) : l.drop i.toNat = nth l i :: l.drop (i + 1).toNat := by
  have hl : i.toNat < l.length := by omega
  have e : (i + 1).toNat = i.toNat + 1 := by omega
  rw [e, List.drop_eq_getElem_cons hl, nth, List.getD, List.getElem?_eq_getElem hl]
  rfl
theorem com_step {ps qs : List Pr} {i j : Int} (h0 : 0 ≤ i) (h1 : i < ps.length) (h2 : 0 ≤ j) (h3 : j < qs.length) : comF (ps.drop i.toNat) (qs.drop j.toNat) =
    (if max (nth ps i).1 (nth qs j).1 < min (nth ps i).2 (nth qs j).2 then [(max (nth ps i).1 (nth qs j).1, min (nth ps i).2 (nth qs j).2)] else []) ++ (if (nth ps i).2 < (nth qs j).2 then comF (ps.drop (i + 1).toNat) (qs.drop j.toNat) else comF (ps.drop i.toNat) (qs.drop (j + 1).toNat)) := by
  rw [drop_nth h0 h1, drop_nth h2 h3, comF]
theorem com_end {ps qs : List Pr} {i j : Int} (h : ¬ (i < ps.length ∧ j < qs.length)) (h0 : 0 ≤ i) (h2 : 0 ≤ j) : comF (ps.drop i.toNat) (qs.drop j.toNat) = [] := by
  by_cases c : i < ps.length
  · have e : qs.drop j.toNat = [] := List.drop_eq_nil_of_le (by omega)
    rw [e]
    cases ps.drop i.toNat <;> rw [comF]
  · have e : ps.drop i.toNat = [] := List.drop_eq_nil_of_le (by omega)
    rw [e, comF]
theorem tidy_shift (k : Int) {lo hi : Int} {l : List Pr} (h : tidyF l lo hi = true) : tidyGo (hi + k) (lo + k - 1) (l.map fun a => (a.1 + k, a.2 + k)) = true := by
  have main : ∀ (l : List Pr) (past : Int), tidyGo hi past l = true → tidyGo (hi + k) (past + k) (l.map fun a => (a.1 + k, a.2 + k)) = true := by
    intro l
    induction l with
    | nil => intro _ _; rfl
    | cons p r ih =>
      intro past h
      rw [tidyGo_cons] at h
      rw [List.map_cons, tidyGo_cons]
      exact ⟨by simp only; omega, ih p.2 h.2⟩
  have := main l (lo - 1) h
  have e : lo - 1 + k = lo + k - 1 := by omega
  rw [e] at this
  exact this
theorem nth_mem {α : Type} [Inhabited α] {l : List α} {i : Int} (h0 : 0 ≤ i) (h1 : i < l.length) : nth l i ∈ l := by
  have hl : i.toNat < l.length := by omega
  rw [nth, List.getD, List.getElem?_eq_getElem hl]
  exact List.getElem_mem hl
theorem tidy_hi {hi hi' : Int} (h : hi ≤ hi') : ∀ {l : List Pr} {past : Int}, tidyGo hi past l = true → tidyGo hi' past l = true
  | [], _, _ => rfl
  | p :: r, past, t => by
    rw [tidyGo_cons] at t ⊢
    exact ⟨by omega, tidy_hi h t.2⟩
theorem gapsGo_len (b : Int) : ∀ (m : List Pr) (free : Int), (gapsGo b free m).length ≤ m.length + 1
  | [], free => by
    rw [gapsGo]
    split <;> simp
  | p :: r, free => by
    have := gapsGo_len b r p.2
    rw [gapsGo]
    split <;> simp only [List.length_cons] <;> omega
theorem gapsF_len (l : List Pr) (a b : Int) : (gapsF l a b).length ≤ l.length + 1 := by
  have h1 := gapsGo_len b (cutF l a b) a
  have h2 := cut_len l a b
  rw [gapsF]
  omega
end My
namespace My
open PySem PySem.Spec PyProof.Rows L2 Dy
def top (i : Nat) : Stmt := PySem.Challenge.pw_dayspread_k22_common_spans.main.body.getD i (.Pass ⟨0, 0, 0, 0⟩)


structure Txt (K : PySem.W.Frag) (mg : Str → Option Value) : Prop where
  merged : ∃ (f : Addr) (fd : FuncData), Fun K "merged" "merged" (top 1) f fd ∧ mg "merged" = some (.ref f)
  cut : ∃ (f : Addr) (fd : FuncData), Fun K "cut" "cut" (top 2) f fd ∧ mg "cut" = some (.ref f)
  gaps : ∃ (f : Addr) (fd : FuncData), Fun K "gaps" "gaps" (top 3) f fd ∧ mg "gaps" = some (.ref f)
  common : ∃ (f : Addr) (fd : FuncData), Fun K "common" "common" (top 4) f fd ∧ mg "common" = some (.ref f)
  law_cell : ∃ (f : Addr) (fd : FuncData), Fun K "_law_cell" "_law_cell" (top 6) f fd ∧ mg "_law_cell" = some (.ref f)
  law_digits : ∃ (f : Addr) (fd : FuncData), Fun K "_law_digits" "_law_digits" (top 7) f fd ∧ mg "_law_digits" = some (.ref f)
  law_rich : ∃ (f : Addr) (fd : FuncData), Fun K "_law_rich" "_law_rich" (top 8) f fd ∧ mg "_law_rich" = some (.ref f)
  law_row : ∃ (f : Addr) (fd : FuncData), Fun K "_law_row" "_law_row" (top 9) f fd ∧ mg "_law_row" = some (.ref f)
  law_tidy : ∃ (f : Addr) (fd : FuncData), Fun K "_law_tidy" "_law_tidy" (top 10) f fd ∧ mg "_law_tidy" = some (.ref f)
  law_hit : ∃ (f : Addr) (fd : FuncData), Fun K "_law_hit" "_law_hit" (top 11) f fd ∧ mg "_law_hit" = some (.ref f)
  law : ∃ (f : Addr) (fd : FuncData), Fun K "law" "law" (top 12) f fd ∧ mg "law" = some (.ref f)
  b_abs : mg "abs" = none
  b_int : mg "int" = none
  b_isinstance : mg "isinstance" = none
  b_len : mg "len" = none
  b_list : mg "list" = none
  b_max : mg "max" = none
  b_min : mg "min" = none
  b_range : mg "range" = none
  b_sorted : mg "sorted" = none
  b_tuple : mg "tuple" = none

abbrev s_merged : Stmt := (top 1)
def R_merged : Rl := fun ds r => ∃ (ps : List (Int × Int)), ds = [((eL (eP D.int D.int)) ps)] ∧ (ps.length ≤ 2000) ∧ r = .ok ((eQ (eP D.int D.int)) (mergedF ps))
theorem r_merged {ps : List (Int × Int)} (hpre : ps.length ≤ 2000) : R_merged [((eL (eP D.int D.int)) ps)] (.ok ((eQ (eP D.int D.int)) (mergedF ps))) := ⟨ps, rfl, hpre, rfl⟩
theorem sc_merged : FnScope ["spans", "rows", "start", "end"] ["spans"] (defScope s_merged) := ⟨rfl, rfl, rfl, by decide +kernel, rfl, by decide +kernel, by decide +kernel⟩
section
variable {P : Program} {w : World} {K : PySem.W.Frag} {mg : Str → Option Value} {base : Heap}
theorem ok_merged (T : Txt K mg) {f : Addr} {fd : FuncData} (F : Fun K "merged" "merged" s_merged f fd) : FnOk P w K mg base (L2.CX P w) 1 f fd ["spans"] (spR K (R_merged )) := by
  refine fnok_of F sc_merged (fun ds r h => ?_) (fun cdv A outer s H E B ds r hr h => ?_)
  · obtain ⟨_, rfl, _⟩ := h
    rfl
  obtain ⟨ps, rfl, hpre, rfl⟩ := h
  refine js_cons (js_setLE 1 (eP D.int D.int) ([] : List (Int × Int)) (FL.to (eP D.int D.int) ([] : List (Int × Int)) (fl_lst av_nil) rfl) (fun rows h_rows => ?_) sc_merged.nd)
  refine js_cons (js_overL (is := [2, 3]) (sortP ps) (eP D.int D.int) (fun (a : Int × Int) Δ => ((Δ.set 2 (.val (D.int a.1))).set 3 (.val (D.int a.2)))) (fun (pre0 : List (Int × Int)) (rows1 : (List (Int × Int))) => [.val ((eL (eP D.int D.int)) ps), .own (rows1.map (eP D.int D.int)), .un, .un]) (fun (pre0 : List (Int × Int)) (rows1 : (List (Int × Int))) => MI ps rows1 pre0) rows (FL.jv (fl_sortP (RV.qv (LV.rv (JV.lv (jv_v 0 ((eL (eP D.int D.int)) ps))))) T.b_sorted)) ?tgt ?h0 ⟨.inr rfl, .inr rfl, .inl rfl, .inl rfl, trivial⟩ ?turn ?done (passes_of rfl) rfl)
  case tgt => exact tg2 2 3 sc_merged.nd rfl
  case h0 =>
    try dsimp only
    exact .inl ⟨h_rows, rfl⟩
  case turn =>
    rintro B pre0 av post0 rows1 e0 iv0
    try dsimp only at iv0
    have hlen := MI.len iv0; have hsl : pre0.length < 2000 := by have h9 := (sortP_perm ps).length_eq; rw [e0] at h9; simp at h9; omega
    refine js_cons (js_if (tv_w (wv_and (tv_neNL hr (PyE.toN (pyE_pair pyE_int pyE_int)) (by decide) (lv_own 1) (FL.lv (fl_lst av_nil))) (fun q1 => (wv_and1 (tv_le (jv_v 2 (D.int av.1)) (jv_ixT (d := (D.int ((nth rows1 (rows1.length + (-(1 : Int)))).2))) (jv_ixL (d := ((eP D.int D.int) (nth rows1 (rows1.length + (-(1 : Int)))))) (LV.rv (lv_own 1)) (jv_neg jv_int) (atI_last' (by decide) (by have h0 : rows1 ≠ [] := (by simpa using q1); have := List.length_pos_iff.mpr h0; omega))) jv_int rfl)))))) (fun c1 => ?_) (fun c1 => ?_))
    ·
      have hc : rows1 ≠ [] ∧ av.1 ≤ (nth rows1 (rows1.length + -1)).2 := by simpa using c1
      have hp := List.length_pos_iff.mpr hc.1
      refine js_cons (js_setIxE 1 (eP D.int D.int) rows1 ((nth rows1 (rows1.length + (-(1 : Int)))).1, (max ((nth rows1 (rows1.length + (-(1 : Int)))).2) av.2)) (k := (-(1 : Int))) (j := ((-(1 : Int)) + rows1.length).toNat) (JV.to ((eP D.int D.int) ((nth rows1 (rows1.length + (-(1 : Int)))).1, (max ((nth rows1 (rows1.length + (-(1 : Int)))).2) av.2))) (jv_tup (av_cons (jv_ixT (d := (D.int ((nth rows1 (rows1.length + (-(1 : Int)))).1))) (jv_ixL (d := ((eP D.int D.int) (nth rows1 (rows1.length + (-(1 : Int)))))) (LV.rv (lv_own 1)) (jv_neg jv_int) (atI_last' (by decide) (by first | decide | omega | (simp only [Dy.cutD, List.length_append, List.length_map, List.length_cons, List.length_nil, List.length_take, List.length_drop]; omega) | (simp_all; done) | (simp_all; omega)))) jv_int rfl) (av_cons (JV.to (.int (max ((nth rows1 (rows1.length + (-(1 : Int)))).2) av.2)) (jv_max2 rfl (jv_ixT (d := (D.int ((nth rows1 (rows1.length + (-(1 : Int)))).2))) (jv_ixL (d := ((eP D.int D.int) (nth rows1 (rows1.length + (-(1 : Int)))))) (LV.rv (lv_own 1)) (jv_neg jv_int) (atI_last' (by decide) (by first | decide | omega | (simp only [Dy.cutD, List.length_append, List.length_map, List.length_cons, List.length_nil, List.length_take, List.length_drop]; omega) | (simp_all; done) | (simp_all; omega)))) jv_int rfl) (jv_v 3 (D.int av.2)) T.b_max) (by rw [max_py])) av_nil))) rfl) (jv_neg jv_int) (ixN_neg (by decide) (by first | decide | omega | (simp only [Dy.cutD, List.length_append, List.length_map, List.length_cons, List.length_nil, List.length_take, List.length_drop]; omega) | (simp_all; done) | (simp_all; omega))) (fun rows2 h_rows2 => ?_))
      refine js_nil ?_
      refine js_nil ⟨rows2, ?_, ⟨.inr rfl, .inr rfl, .inl rfl, .inl rfl, trivial⟩⟩
      try dsimp only
      rw [h_rows2]; exact mi_set iv0 e0 hc rfl
    ·
      have hc : ¬ (rows1 ≠ [] ∧ av.1 ≤ (nth rows1 (rows1.length + -1)).2) := by simpa using c1
      refine js_cons (js_appE 1 (eP D.int D.int) rows1 (av.1, av.2) (JV.to ((eP D.int D.int) (av.1, av.2)) (jv_tup (av_cons (jv_v 2 (D.int av.1)) (av_cons (jv_v 3 (D.int av.2)) av_nil))) rfl) (by first | decide | omega | (simp only [Dy.cutD, List.length_append, List.length_map, List.length_cons, List.length_nil, List.length_take, List.length_drop]; omega) | (simp_all; done) | (simp_all; omega)) (fun rows3 h_rows3 => ?_))
      refine js_nil ?_
      refine js_nil ⟨rows3, ?_, ⟨.inr rfl, .inr rfl, .inl rfl, .inl rfl, trivial⟩⟩
      try dsimp only
      rw [h_rows3]; exact mi_app iv0 e0 hc
  case done =>
    rintro rows1 iv0
    try dsimp only at iv0
    refine js_cons (js_ret (jv_tupL (LV.rv (lv_own 1)) T.b_tuple) ?_)
    refine congrArg (fun z => Except.ok ((eQ (eP D.int D.int)) z)) (show mergedF ps = rows1 from ?_)
    exact mi_done iv0
theorem fn_merged (T : Txt K mg) : Fn P w K mg base 1 "merged" (R_merged ) := by
  obtain ⟨f, fd, F, gf⟩ := T.merged
  exact ⟨f, fd, _, ok_merged T F, gf, F.kp, F.binds fun _ _ _ _ _ _ us hl => match us, hl with | [_], _ => rfl⟩
end

abbrev s_cut : Stmt := (top 2)
def R_cut : Rl := fun ds r => ∃ (ps : List (Int × Int)) (x : Int) (y : Int), ds = [((eQ (eP D.int D.int)) ps), (D.int x), (D.int y)] ∧ (ps.length ≤ 2000) ∧ r = .ok ((eQ (eP D.int D.int)) (cutF ps x y))
theorem r_cut {ps : List (Int × Int)} {x : Int} {y : Int} (hpre : ps.length ≤ 2000) : R_cut [((eQ (eP D.int D.int)) ps), (D.int x), (D.int y)] (.ok ((eQ (eP D.int D.int)) (cutF ps x y))) := ⟨ps, x, y, rfl, hpre, rfl⟩
theorem sc_cut : FnScope ["spans", "start", "stop", "rows", "low", "high"] ["spans", "start", "stop"] (defScope s_cut) := ⟨rfl, rfl, rfl, by decide +kernel, rfl, by decide +kernel, by decide +kernel⟩
section
variable {P : Program} {w : World} {K : PySem.W.Frag} {mg : Str → Option Value} {base : Heap}
theorem ok_cut (T : Txt K mg) {f : Addr} {fd : FuncData} (F : Fun K "cut" "cut" s_cut f fd) : FnOk P w K mg base (L2.CX P w) 1 f fd ["spans", "start", "stop"] (spR K (R_cut )) := by
  refine fnok_of F sc_cut (fun ds r h => ?_) (fun cdv A outer s H E B ds r hr h => ?_)
  · obtain ⟨_, _, _, rfl, _⟩ := h
    rfl
  obtain ⟨ps, x, y, rfl, hpre, rfl⟩ := h
  refine js_cons (js_setLE 3 (eP D.int D.int) ([] : List (Int × Int)) (FL.to (eP D.int D.int) ([] : List (Int × Int)) (fl_lst av_nil) rfl) (fun rows h_rows => ?_) sc_cut.nd)
  refine js_cons (js_overT (is := [4, 5]) ps (eP D.int D.int) (fun (a : Int × Int) Δ => ((Δ.set 4 (.val (D.int a.1))).set 5 (.val (D.int a.2)))) (fun (pre0 : List (Int × Int)) (rows1 : (List (Int × Int))) => [.val ((eQ (eP D.int D.int)) ps), .val (D.int x), .val (D.int y), .own (rows1.map (eP D.int D.int)), .un, .un]) (fun (pre0 : List (Int × Int)) (rows1 : (List (Int × Int))) => (∀ post, ps = pre0 ++ post → cutF ps x y = rows1 ++ cutF post x y) ∧ rows1.length ≤ pre0.length) rows (jv_v 0 ((eQ (eP D.int D.int)) ps)) ?tgt ?h0 ⟨.inr rfl, .inr rfl, .inr rfl, .inr rfl, .inl rfl, .inl rfl, trivial⟩ ?turn ?done (passes_of rfl) rfl)
  case tgt => exact tg2 4 5 sc_cut.nd rfl
  case h0 =>
    try dsimp only
    exact ⟨fun post e => by rw [h_rows, e]; rfl, by rw [h_rows]; simp⟩
  case turn =>
    rintro B pre0 av post0 rows1 e0 iv0
    try dsimp only at iv0
    have hp := iv0.1 _ e0; have hlen := iv0.2; have hsl : pre0.length < 2000 := by have h9 := hpre; rw [e0] at h9; simp at h9; omega
    refine js_cons (js_if (tv_lt (JV.to (.int (max av.1 x)) (jv_max2 rfl (jv_v 4 (D.int av.1)) (jv_v 1 (D.int x)) T.b_max) (by rw [max_py])) (JV.to (.int (min av.2 y)) (jv_min2 rfl (jv_v 5 (D.int av.2)) (jv_v 2 (D.int y)) T.b_min) (by rw [min_py]))) (fun c1 => ?_) (fun c1 => ?_))
    ·
      refine js_cons (js_appE 3 (eP D.int D.int) rows1 ((max av.1 x), (min av.2 y)) (JV.to ((eP D.int D.int) ((max av.1 x), (min av.2 y))) (jv_tup (av_cons (JV.to (.int (max av.1 x)) (jv_max2 rfl (jv_v 4 (D.int av.1)) (jv_v 1 (D.int x)) T.b_max) (by rw [max_py])) (av_cons (JV.to (.int (min av.2 y)) (jv_min2 rfl (jv_v 5 (D.int av.2)) (jv_v 2 (D.int y)) T.b_min) (by rw [min_py])) av_nil))) rfl) (by first | decide | omega | (simp only [Dy.cutD, List.length_append, List.length_map, List.length_cons, List.length_nil, List.length_take, List.length_drop]; omega) | (simp_all; done) | (simp_all; omega)) (fun rows2 h_rows2 => ?_))
      refine js_nil ?_
      refine js_nil ⟨rows2, ?_, ⟨.inr rfl, .inr rfl, .inr rfl, .inr rfl, .inl rfl, .inl rfl, trivial⟩⟩
      try dsimp only
      refine ⟨fun post1 e1 => ?_, by rw [h_rows2]; simp; omega⟩; rw [e0, List.append_assoc] at e1; have := List.append_cancel_left e1; simp at this; subst this; rw [hp, cutF, if_pos (by simpa using c1), h_rows2, List.append_assoc]; rfl
    ·
      refine js_nil ?_
      refine js_nil ⟨rows1, ?_, ⟨.inr rfl, .inr rfl, .inr rfl, .inr rfl, .inl rfl, .inl rfl, trivial⟩⟩
      try dsimp only
      refine ⟨fun post1 e1 => ?_, by simp; omega⟩; rw [e0, List.append_assoc] at e1; have := List.append_cancel_left e1; simp at this; subst this; rw [hp, cutF, if_neg (by simpa using c1)]
  case done =>
    rintro rows1 iv0
    try dsimp only at iv0
    refine js_cons (js_ret (jv_tupL (LV.rv (lv_own 3)) T.b_tuple) ?_)
    refine congrArg (fun z => Except.ok ((eQ (eP D.int D.int)) z)) (show cutF ps x y = rows1 from ?_)
    rw [iv0.1 [] (by simp)]; simp [cutF]
theorem fn_cut (T : Txt K mg) : Fn P w K mg base 1 "cut" (R_cut ) := by
  obtain ⟨f, fd, F, gf⟩ := T.cut
  exact ⟨f, fd, _, ok_cut T F, gf, F.kp, F.binds fun _ _ _ _ _ _ us hl => match us, hl with | [_, _, _], _ => rfl⟩
end

abbrev s_gaps : Stmt := (top 3)
def R_gaps : Rl := fun ds r => ∃ (ps : List (Int × Int)) (x : Int) (y : Int), ds = [((eQ (eP D.int D.int)) ps), (D.int x), (D.int y)] ∧ (ps.length ≤ 2000) ∧ r = .ok ((eQ (eP D.int D.int)) (gapsF ps x y))
theorem r_gaps {ps : List (Int × Int)} {x : Int} {y : Int} (hpre : ps.length ≤ 2000) : R_gaps [((eQ (eP D.int D.int)) ps), (D.int x), (D.int y)] (.ok ((eQ (eP D.int D.int)) (gapsF ps x y))) := ⟨ps, x, y, rfl, hpre, rfl⟩
theorem sc_gaps : FnScope ["spans", "start", "stop", "rows", "free", "low", "high"] ["spans", "start", "stop"] (defScope s_gaps) := ⟨rfl, rfl, rfl, by decide +kernel, rfl, by decide +kernel, by decide +kernel⟩
section
variable {P : Program} {w : World} {K : PySem.W.Frag} {mg : Str → Option Value} {base : Heap}
theorem ok_gaps (T : Txt K mg) {f : Addr} {fd : FuncData} (F : Fun K "gaps" "gaps" s_gaps f fd) : FnOk P w K mg base (L2.CX P w) 2 f fd ["spans", "start", "stop"] (spR K (R_gaps )) := by
  refine fnok_of F sc_gaps (fun ds r h => ?_) (fun cdv A outer s H E B ds r hr h => ?_)
  · obtain ⟨_, _, _, rfl, _⟩ := h
    rfl
  obtain ⟨ps, x, y, rfl, hpre, rfl⟩ := h
  refine js_cons (js_setLE 3 (eP D.int D.int) ([] : List (Int × Int)) (FL.to (eP D.int D.int) ([] : List (Int × Int)) (fl_lst av_nil) rfl) (fun rows h_rows => ?_) sc_gaps.nd)
  refine js_cons (js_set 4 (jv_v 1 (D.int x)) ?_ sc_gaps.nd)
  refine js_cons (js_overT (is := [5, 6]) (cutF ps x y) (eP D.int D.int) (fun (a : Int × Int) Δ => ((Δ.set 5 (.val (D.int a.1))).set 6 (.val (D.int a.2)))) (fun (pre0 : List (Int × Int)) (z : (List (Int × Int)) × (Int)) => [.val ((eQ (eP D.int D.int)) ps), .val (D.int x), .val (D.int y), .own (z.1.map (eP D.int D.int)), .val (D.int z.2), .un, .un]) (fun (pre0 : List (Int × Int)) (z : (List (Int × Int)) × (Int)) => (∀ post, cutF ps x y = pre0 ++ post → gapsF ps x y = z.1 ++ gapsGo y z.2 post) ∧ z.1.length ≤ pre0.length) (rows, x) (jv_call (fn_cut T) (hr.mono (by decide)) (av_cons (jv_v 0 ((eQ (eP D.int D.int)) ps)) (av_cons (jv_v 1 (D.int x)) (av_cons (jv_v 2 (D.int y)) av_nil))) (r_cut (by first | decide | omega | (simp only [Dy.cutD, List.length_append, List.length_map, List.length_cons, List.length_nil, List.length_take, List.length_drop]; omega) | (simp_all; done) | (simp_all; omega)))) ?tgt ?h0 ⟨.inr rfl, .inr rfl, .inr rfl, .inr rfl, .inr rfl, .inl rfl, .inl rfl, trivial⟩ ?turn ?done (passes_of rfl) rfl)
  case tgt => exact tg2 5 6 sc_gaps.nd rfl
  case h0 =>
    try dsimp only
    refine ⟨fun post e => ?_, by rw [h_rows]; simp⟩; rw [List.nil_append] at e; rw [gapsF, e, h_rows]; rfl
  case turn =>
    rintro B pre0 av post0 ⟨rows1, free⟩ e0 iv0
    try dsimp only at iv0
    have hp := iv0.1 _ e0; have hlen := iv0.2; have hsl : pre0.length < 2000 := by have h9 := cut_len ps x y; rw [e0] at h9; simp at h9; omega
    refine js_mid (fun (rows2 : (List (Int × Int))) => [.val ((eQ (eP D.int D.int)) ps), .val (D.int x), .val (D.int y), .own (rows2.map (eP D.int D.int)), .val (D.int free), .val (D.int av.1), .val (D.int av.2)]) (fun (rows2 : (List (Int × Int))) => rows2 = (if (decide (free < av.1)) = true then (rows1 ++ [(free, av.1)]) else rows1)) (js_if (tv_lt (jv_v 4 (D.int free)) (jv_v 5 (D.int av.1))) (fun c1 => ?_) (fun c1 => ?_)) ?_
    ·
      refine js_cons (js_appE 3 (eP D.int D.int) rows1 (free, av.1) (JV.to ((eP D.int D.int) (free, av.1)) (jv_tup (av_cons (jv_v 4 (D.int free)) (av_cons (jv_v 5 (D.int av.1)) av_nil))) rfl) (by first | decide | omega | (simp only [Dy.cutD, List.length_append, List.length_map, List.length_cons, List.length_nil, List.length_take, List.length_drop]; omega) | (simp_all; done) | (simp_all; omega)) (fun rows3 h_rows3 => ?_))
      refine js_nil ⟨rows3, ?_, ⟨.inr rfl, .inr rfl, .inr rfl, .inr rfl, .inr rfl, .inr rfl, .inr rfl, trivial⟩⟩
      (rw [if_pos c1]; first | done | rfl | assumption | (subst_vars; rfl) | simp_all)
    ·
      refine js_nil ⟨rows1, ?_, ⟨.inr rfl, .inr rfl, .inr rfl, .inr rfl, .inr rfl, .inr rfl, .inr rfl, trivial⟩⟩
      (rw [if_neg (by rw [c1]; exact Bool.false_ne_true)]; first | done | rfl | assumption | (subst_vars; rfl) | simp_all)
    ·
      rintro rows2 j_rows2
      refine js_cons (js_set 4 (jv_v 6 (D.int av.2)) ?_ sc_gaps.nd)
      refine js_nil ⟨(rows2, av.2), ?_, ⟨.inr rfl, .inr rfl, .inr rfl, .inr rfl, .inr rfl, .inl rfl, .inl rfl, trivial⟩⟩
      try dsimp only
      refine ⟨fun post1 e1 => ?_, by rw [j_rows2]; split <;> simp <;> omega⟩; rw [e0, List.append_assoc] at e1; have := List.append_cancel_left e1; simp at this; subst this; rw [hp, gapsGo, j_rows2]; by_cases c : free < av.1 <;> simp [c]
  case done =>
    rintro ⟨rows1, free⟩ iv0
    try dsimp only at iv0
    have hlen := iv0.2; have h9 := cut_len ps x y; have he := iv0.1 [] (by simp)
    refine js_mid (fun (rows4 : (List (Int × Int))) => [.val ((eQ (eP D.int D.int)) ps), .val (D.int x), .val (D.int y), .own (rows4.map (eP D.int D.int)), .val (D.int free), .un, .un]) (fun (rows4 : (List (Int × Int))) => rows4 = (if (decide (free < y)) = true then (rows1 ++ [(free, y)]) else rows1)) (js_if (tv_lt (jv_v 4 (D.int free)) (jv_v 2 (D.int y))) (fun c2 => ?_) (fun c2 => ?_)) ?_
    ·
      refine js_cons (js_appE 3 (eP D.int D.int) rows1 (free, y) (JV.to ((eP D.int D.int) (free, y)) (jv_tup (av_cons (jv_v 4 (D.int free)) (av_cons (jv_v 2 (D.int y)) av_nil))) rfl) (by first | decide | omega | (simp only [Dy.cutD, List.length_append, List.length_map, List.length_cons, List.length_nil, List.length_take, List.length_drop]; omega) | (simp_all; done) | (simp_all; omega)) (fun rows5 h_rows5 => ?_))
      refine js_nil ⟨rows5, ?_, ⟨.inr rfl, .inr rfl, .inr rfl, .inr rfl, .inr rfl, .inl rfl, .inl rfl, trivial⟩⟩
      (rw [if_pos c2]; first | done | rfl | assumption | (subst_vars; rfl) | simp_all)
    ·
      refine js_nil ⟨rows1, ?_, ⟨.inr rfl, .inr rfl, .inr rfl, .inr rfl, .inr rfl, .inl rfl, .inl rfl, trivial⟩⟩
      (rw [if_neg (by rw [c2]; exact Bool.false_ne_true)]; first | done | rfl | assumption | (subst_vars; rfl) | simp_all)
    ·
      rintro rows4 j_rows4
      refine js_cons (js_ret (jv_tupL (LV.rv (lv_own 3)) T.b_tuple) ?_)
      refine congrArg (fun z => Except.ok ((eQ (eP D.int D.int)) z)) (show gapsF ps x y = rows4 from ?_)
      rw [he, gapsGo, j_rows4]; by_cases c : free < y <;> simp [c]
theorem fn_gaps (T : Txt K mg) : Fn P w K mg base 2 "gaps" (R_gaps ) := by
  obtain ⟨f, fd, F, gf⟩ := T.gaps
  exact ⟨f, fd, _, ok_gaps T F, gf, F.kp, F.binds fun _ _ _ _ _ _ us hl => match us, hl with | [_, _, _], _ => rfl⟩
end

abbrev s_common : Stmt := (top 4)
def R_common : Rl := fun ds r => ∃ (ps : List (Int × Int)) (qs : List (Int × Int)), ds = [((eQ (eP D.int D.int)) ps), ((eQ (eP D.int D.int)) qs)] ∧ (ps.length ≤ 2000 ∧ qs.length ≤ 2000) ∧ r = .ok ((eQ (eP D.int D.int)) (comF ps qs))
theorem r_common {ps : List (Int × Int)} {qs : List (Int × Int)} (hpre : ps.length ≤ 2000 ∧ qs.length ≤ 2000) : R_common [((eQ (eP D.int D.int)) ps), ((eQ (eP D.int D.int)) qs)] (.ok ((eQ (eP D.int D.int)) (comF ps qs))) := ⟨ps, qs, rfl, hpre, rfl⟩
theorem sc_common : FnScope ["first", "second", "rows", "one", "two", "low", "high"] ["first", "second"] (defScope s_common) := ⟨rfl, rfl, rfl, by decide +kernel, rfl, by decide +kernel, by decide +kernel⟩
section
variable {P : Program} {w : World} {K : PySem.W.Frag} {mg : Str → Option Value} {base : Heap}
theorem ok_common (T : Txt K mg) {f : Addr} {fd : FuncData} (F : Fun K "common" "common" s_common f fd) : FnOk P w K mg base (L2.CX P w) 1 f fd ["first", "second"] (spR K (R_common )) := by
  refine fnok_of F sc_common (fun ds r h => ?_) (fun cdv A outer s H E B ds r hr h => ?_)
  · obtain ⟨_, _, rfl, _⟩ := h
    rfl
  obtain ⟨ps, qs, rfl, hpre, rfl⟩ := h
  refine js_cons (js_setLE 2 (eP D.int D.int) ([] : List (Int × Int)) (FL.to (eP D.int D.int) ([] : List (Int × Int)) (fl_lst av_nil) rfl) (fun rows h_rows => ?_) sc_common.nd)
  refine js_cons (js_set 3 jv_int ?_ sc_common.nd)
  refine js_cons (js_set 4 jv_int ?_ sc_common.nd)
  refine js_cons (js_while (fun (z : (List (Int × Int)) × (Int) × (Int)) => [.val ((eQ (eP D.int D.int)) ps), .val ((eQ (eP D.int D.int)) qs), .own (z.1.map (eP D.int D.int)), .val (D.int z.2.1), .val (D.int z.2.2), .un, .un]) (fun (z : (List (Int × Int)) × (Int) × (Int)) => comF ps qs = z.1 ++ comF (ps.drop z.2.1.toNat) (qs.drop z.2.2.toNat) ∧ 0 ≤ z.2.1 ∧ z.2.1 ≤ ps.length ∧ 0 ≤ z.2.2 ∧ z.2.2 ≤ qs.length ∧ (z.1.length : Int) ≤ z.2.1 + z.2.2) (fun (z : (List (Int × Int)) × (Int) × (Int)) => ((ps.length : Int) + qs.length - z.2.1 - z.2.2).toNat) (rows, (0 : Int), (0 : Int)) ?h0 ⟨.inr rfl, .inr rfl, .inr rfl, .inr rfl, .inr rfl, .inl rfl, .inl rfl, trivial⟩ ?turn (passes_of rfl))
  case h0 =>
    try dsimp only
    refine ⟨by rw [h_rows]; rfl, by omega, by omega, by omega, by omega, by rw [h_rows]; simp⟩
  case turn =>
    rintro ⟨rows1, one, two⟩ iv0
    try dsimp only at iv0
    obtain ⟨i1, i2, i3, i4, i5, i6⟩ := iv0
    refine ⟨((decide (one < (ps.length : Int))) && (decide (two < (qs.length : Int)))), (tv_w (wv_and (tv_lt (jv_v 3 (D.int one)) (JV.to (.int (ps.length : Int)) (jv_len (JV.qv (jv_v 0 ((eQ (eP D.int D.int)) ps))) T.b_len) (by rw [List.length_map]))) (fun q1 => (wv_and1 (tv_lt (jv_v 4 (D.int two)) (JV.to (.int (qs.length : Int)) (jv_len (JV.qv (jv_v 1 ((eQ (eP D.int D.int)) qs))) T.b_len) (by rw [List.length_map]))))))), fun w0 => ?_, fun w0 => ?_⟩
    ·
      have hw : one < ps.length ∧ two < qs.length := by simpa using w0
      have hs := com_step i2 hw.1 i4 hw.2
      refine js_cons (js_setE 5 D.int (max ((nth ps one).1) ((nth qs two).1)) (JV.to (.int (max ((nth ps one).1) ((nth qs two).1))) (jv_max2 rfl (jv_ixT (d := (D.int ((nth ps one).1))) (jv_ixT (d := ((eP D.int D.int) (nth ps one))) (jv_v 0 ((eQ (eP D.int D.int)) ps)) (jv_v 3 (D.int one)) (atI_nth (by first | decide | omega | (simp only [Dy.cutD, List.length_append, List.length_map, List.length_cons, List.length_nil, List.length_take, List.length_drop]; omega) | (simp_all; done) | (simp_all; omega)) (by first | decide | omega | (simp only [Dy.cutD, List.length_append, List.length_map, List.length_cons, List.length_nil, List.length_take, List.length_drop]; omega) | (simp_all; done) | (simp_all; omega)))) jv_int rfl) (jv_ixT (d := (D.int ((nth qs two).1))) (jv_ixT (d := ((eP D.int D.int) (nth qs two))) (jv_v 1 ((eQ (eP D.int D.int)) qs)) (jv_v 4 (D.int two)) (atI_nth (by first | decide | omega | (simp only [Dy.cutD, List.length_append, List.length_map, List.length_cons, List.length_nil, List.length_take, List.length_drop]; omega) | (simp_all; done) | (simp_all; omega)) (by first | decide | omega | (simp only [Dy.cutD, List.length_append, List.length_map, List.length_cons, List.length_nil, List.length_take, List.length_drop]; omega) | (simp_all; done) | (simp_all; omega)))) jv_int rfl) T.b_max) (by rw [max_py])) (fun low h_low => ?_) sc_common.nd)
      refine js_cons (js_setE 6 D.int (min ((nth ps one).2) ((nth qs two).2)) (JV.to (.int (min ((nth ps one).2) ((nth qs two).2))) (jv_min2 rfl (jv_ixT (d := (D.int ((nth ps one).2))) (jv_ixT (d := ((eP D.int D.int) (nth ps one))) (jv_v 0 ((eQ (eP D.int D.int)) ps)) (jv_v 3 (D.int one)) (atI_nth (by first | decide | omega | (simp only [Dy.cutD, List.length_append, List.length_map, List.length_cons, List.length_nil, List.length_take, List.length_drop]; omega) | (simp_all; done) | (simp_all; omega)) (by first | decide | omega | (simp only [Dy.cutD, List.length_append, List.length_map, List.length_cons, List.length_nil, List.length_take, List.length_drop]; omega) | (simp_all; done) | (simp_all; omega)))) jv_int rfl) (jv_ixT (d := (D.int ((nth qs two).2))) (jv_ixT (d := ((eP D.int D.int) (nth qs two))) (jv_v 1 ((eQ (eP D.int D.int)) qs)) (jv_v 4 (D.int two)) (atI_nth (by first | decide | omega | (simp only [Dy.cutD, List.length_append, List.length_map, List.length_cons, List.length_nil, List.length_take, List.length_drop]; omega) | (simp_all; done) | (simp_all; omega)) (by first | decide | omega | (simp only [Dy.cutD, List.length_append, List.length_map, List.length_cons, List.length_nil, List.length_take, List.length_drop]; omega) | (simp_all; done) | (simp_all; omega)))) jv_int rfl) T.b_min) (by rw [min_py])) (fun high h_high => ?_) sc_common.nd)
      refine js_mid (fun (rows2 : (List (Int × Int))) => [.val ((eQ (eP D.int D.int)) ps), .val ((eQ (eP D.int D.int)) qs), .own (rows2.map (eP D.int D.int)), .val (D.int one), .val (D.int two), .val (D.int low), .val (D.int high)]) (fun (rows2 : (List (Int × Int))) => rows2 = (if (decide (low < high)) = true then (rows1 ++ [(low, high)]) else rows1)) (js_if (tv_lt (jv_v 5 (D.int low)) (jv_v 6 (D.int high))) (fun c1 => ?_) (fun c1 => ?_)) ?_
      ·
        refine js_cons (js_appE 2 (eP D.int D.int) rows1 (low, high) (JV.to ((eP D.int D.int) (low, high)) (jv_tup (av_cons (jv_v 5 (D.int low)) (av_cons (jv_v 6 (D.int high)) av_nil))) rfl) (by first | decide | omega | (simp only [Dy.cutD, List.length_append, List.length_map, List.length_cons, List.length_nil, List.length_take, List.length_drop]; omega) | (simp_all; done) | (simp_all; omega)) (fun rows3 h_rows3 => ?_))
        refine js_nil ⟨rows3, ?_, ⟨.inr rfl, .inr rfl, .inr rfl, .inr rfl, .inr rfl, .inr rfl, .inr rfl, trivial⟩⟩
        (rw [if_pos c1]; first | done | rfl | assumption | (subst_vars; rfl) | simp_all)
      ·
        refine js_nil ⟨rows1, ?_, ⟨.inr rfl, .inr rfl, .inr rfl, .inr rfl, .inr rfl, .inr rfl, .inr rfl, trivial⟩⟩
        (rw [if_neg (by rw [c1]; exact Bool.false_ne_true)]; first | done | rfl | assumption | (subst_vars; rfl) | simp_all)
      ·
        rintro rows2 j_rows2
        refine js_cons (js_if (tv_lt (jv_ixT (d := (D.int ((nth ps one).2))) (jv_ixT (d := ((eP D.int D.int) (nth ps one))) (jv_v 0 ((eQ (eP D.int D.int)) ps)) (jv_v 3 (D.int one)) (atI_nth (by first | decide | omega | (simp only [Dy.cutD, List.length_append, List.length_map, List.length_cons, List.length_nil, List.length_take, List.length_drop]; omega) | (simp_all; done) | (simp_all; omega)) (by first | decide | omega | (simp only [Dy.cutD, List.length_append, List.length_map, List.length_cons, List.length_nil, List.length_take, List.length_drop]; omega) | (simp_all; done) | (simp_all; omega)))) jv_int rfl) (jv_ixT (d := (D.int ((nth qs two).2))) (jv_ixT (d := ((eP D.int D.int) (nth qs two))) (jv_v 1 ((eQ (eP D.int D.int)) qs)) (jv_v 4 (D.int two)) (atI_nth (by first | decide | omega | (simp only [Dy.cutD, List.length_append, List.length_map, List.length_cons, List.length_nil, List.length_take, List.length_drop]; omega) | (simp_all; done) | (simp_all; omega)) (by first | decide | omega | (simp only [Dy.cutD, List.length_append, List.length_map, List.length_cons, List.length_nil, List.length_take, List.length_drop]; omega) | (simp_all; done) | (simp_all; omega)))) jv_int rfl)) (fun c2 => ?_) (fun c2 => ?_))
        ·
          refine js_cons (js_setE 3 D.int (one + (1 : Int)) (jv_add (jv_v 3 (D.int one)) jv_int) (fun one1 h_one1 => ?_) sc_common.nd)
          refine js_nil ?_
          refine js_nil ⟨(rows2, one1, two), ?_, ?_, ⟨.inr rfl, .inr rfl, .inr rfl, .inr rfl, .inr rfl, .inl rfl, .inl rfl, trivial⟩⟩
          · dsimp only; omega
          · try dsimp only
            refine ⟨?_, by omega, by omega, by omega, by omega, by rw [j_rows2]; split <;> (try simp) <;> omega⟩; rw [i1, hs, if_pos (show (nth ps one).2 < (nth qs two).2 from by simpa using c2), ← h_low, ← h_high, j_rows2, h_one1]; by_cases c : low < high <;> simp [c]
        ·
          refine js_cons (js_setE 4 D.int (two + (1 : Int)) (jv_add (jv_v 4 (D.int two)) jv_int) (fun two1 h_two1 => ?_) sc_common.nd)
          refine js_nil ?_
          refine js_nil ⟨(rows2, one, two1), ?_, ?_, ⟨.inr rfl, .inr rfl, .inr rfl, .inr rfl, .inr rfl, .inl rfl, .inl rfl, trivial⟩⟩
          · dsimp only; omega
          · try dsimp only
            refine ⟨?_, by omega, by omega, by omega, by omega, by rw [j_rows2]; split <;> (try simp) <;> omega⟩; rw [i1, hs, if_neg (show ¬ (nth ps one).2 < (nth qs two).2 from by simpa using c2), ← h_low, ← h_high, j_rows2, h_two1]; by_cases c : low < high <;> simp [c]
    ·
      have hw : ¬ (one < ps.length ∧ two < qs.length) := (by simpa using w0)
      refine js_cons (js_ret (jv_tupL (LV.rv (lv_own 2)) T.b_tuple) ?_)
      refine congrArg (fun z => Except.ok ((eQ (eP D.int D.int)) z)) (show comF ps qs = rows1 from ?_)
      rw [i1, com_end hw i2 i4, List.append_nil]
theorem fn_common (T : Txt K mg) : Fn P w K mg base 1 "common" (R_common ) := by
  obtain ⟨f, fd, F, gf⟩ := T.common
  exact ⟨f, fd, _, ok_common T F, gf, F.kp, F.binds fun _ _ _ _ _ _ us hl => match us, hl with | [_, _], _ => rfl⟩
end

abbrev s_common_L : Stmt := (top 4)
def R_common_L : Rl := fun ds r => ∃ (ps : List (Int × Int)) (qs : List (Int × Int)), ds = [((eL (eP D.int D.int)) ps), ((eL (eP D.int D.int)) qs)] ∧ (ps.length ≤ 2000 ∧ qs.length ≤ 2000) ∧ r = .ok ((eQ (eP D.int D.int)) (comF ps qs))
theorem r_common_L {ps : List (Int × Int)} {qs : List (Int × Int)} (hpre : ps.length ≤ 2000 ∧ qs.length ≤ 2000) : R_common_L [((eL (eP D.int D.int)) ps), ((eL (eP D.int D.int)) qs)] (.ok ((eQ (eP D.int D.int)) (comF ps qs))) := ⟨ps, qs, rfl, hpre, rfl⟩
theorem sc_common_L : FnScope ["first", "second", "rows", "one", "two", "low", "high"] ["first", "second"] (defScope s_common_L) := ⟨rfl, rfl, rfl, by decide +kernel, rfl, by decide +kernel, by decide +kernel⟩
section
variable {P : Program} {w : World} {K : PySem.W.Frag} {mg : Str → Option Value} {base : Heap}
theorem ok_common_L (T : Txt K mg) {f : Addr} {fd : FuncData} (F : Fun K "common" "common" s_common_L f fd) : FnOk P w K mg base (L2.CX P w) 1 f fd ["first", "second"] (spR K (R_common_L )) := by
  refine fnok_of F sc_common_L (fun ds r h => ?_) (fun cdv A outer s H E B ds r hr h => ?_)
  · obtain ⟨_, _, rfl, _⟩ := h
    rfl
  obtain ⟨ps, qs, rfl, hpre, rfl⟩ := h
  refine js_cons (js_setLE 2 (eP D.int D.int) ([] : List (Int × Int)) (FL.to (eP D.int D.int) ([] : List (Int × Int)) (fl_lst av_nil) rfl) (fun rows h_rows => ?_) sc_common_L.nd)
  refine js_cons (js_set 3 jv_int ?_ sc_common_L.nd)
  refine js_cons (js_set 4 jv_int ?_ sc_common_L.nd)
  refine js_cons (js_while (fun (z : (List (Int × Int)) × (Int) × (Int)) => [.val ((eL (eP D.int D.int)) ps), .val ((eL (eP D.int D.int)) qs), .own (z.1.map (eP D.int D.int)), .val (D.int z.2.1), .val (D.int z.2.2), .un, .un]) (fun (z : (List (Int × Int)) × (Int) × (Int)) => comF ps qs = z.1 ++ comF (ps.drop z.2.1.toNat) (qs.drop z.2.2.toNat) ∧ 0 ≤ z.2.1 ∧ z.2.1 ≤ ps.length ∧ 0 ≤ z.2.2 ∧ z.2.2 ≤ qs.length ∧ (z.1.length : Int) ≤ z.2.1 + z.2.2) (fun (z : (List (Int × Int)) × (Int) × (Int)) => ((ps.length : Int) + qs.length - z.2.1 - z.2.2).toNat) (rows, (0 : Int), (0 : Int)) ?h0 ⟨.inr rfl, .inr rfl, .inr rfl, .inr rfl, .inr rfl, .inl rfl, .inl rfl, trivial⟩ ?turn (passes_of rfl))
  case h0 =>
    try dsimp only
    refine ⟨by rw [h_rows]; rfl, by omega, by omega, by omega, by omega, by rw [h_rows]; simp⟩
  case turn =>
    rintro ⟨rows1, one, two⟩ iv0
    try dsimp only at iv0
    obtain ⟨i1, i2, i3, i4, i5, i6⟩ := iv0
    refine ⟨((decide (one < (ps.length : Int))) && (decide (two < (qs.length : Int)))), (tv_w (wv_and (tv_lt (jv_v 3 (D.int one)) (JV.to (.int (ps.length : Int)) (jv_len (RV.qv (LV.rv (JV.lv (jv_v 0 ((eL (eP D.int D.int)) ps))))) T.b_len) (by rw [List.length_map]))) (fun q1 => (wv_and1 (tv_lt (jv_v 4 (D.int two)) (JV.to (.int (qs.length : Int)) (jv_len (RV.qv (LV.rv (JV.lv (jv_v 1 ((eL (eP D.int D.int)) qs))))) T.b_len) (by rw [List.length_map]))))))), fun w0 => ?_, fun w0 => ?_⟩
    ·
      have hw : one < ps.length ∧ two < qs.length := by simpa using w0
      have hs := com_step i2 hw.1 i4 hw.2
      refine js_cons (js_setE 5 D.int (max ((nth ps one).1) ((nth qs two).1)) (JV.to (.int (max ((nth ps one).1) ((nth qs two).1))) (jv_max2 rfl (jv_ixT (d := (D.int ((nth ps one).1))) (jv_ixL (d := ((eP D.int D.int) (nth ps one))) (LV.rv (JV.lv (jv_v 0 ((eL (eP D.int D.int)) ps)))) (jv_v 3 (D.int one)) (atI_nth (by first | decide | omega | (simp only [Dy.cutD, List.length_append, List.length_map, List.length_cons, List.length_nil, List.length_take, List.length_drop]; omega) | (simp_all; done) | (simp_all; omega)) (by first | decide | omega | (simp only [Dy.cutD, List.length_append, List.length_map, List.length_cons, List.length_nil, List.length_take, List.length_drop]; omega) | (simp_all; done) | (simp_all; omega)))) jv_int rfl) (jv_ixT (d := (D.int ((nth qs two).1))) (jv_ixL (d := ((eP D.int D.int) (nth qs two))) (LV.rv (JV.lv (jv_v 1 ((eL (eP D.int D.int)) qs)))) (jv_v 4 (D.int two)) (atI_nth (by first | decide | omega | (simp only [Dy.cutD, List.length_append, List.length_map, List.length_cons, List.length_nil, List.length_take, List.length_drop]; omega) | (simp_all; done) | (simp_all; omega)) (by first | decide | omega | (simp only [Dy.cutD, List.length_append, List.length_map, List.length_cons, List.length_nil, List.length_take, List.length_drop]; omega) | (simp_all; done) | (simp_all; omega)))) jv_int rfl) T.b_max) (by rw [max_py])) (fun low h_low => ?_) sc_common_L.nd)
      refine js_cons (js_setE 6 D.int (min ((nth ps one).2) ((nth qs two).2)) (JV.to (.int (min ((nth ps one).2) ((nth qs two).2))) (jv_min2 rfl (jv_ixT (d := (D.int ((nth ps one).2))) (jv_ixL (d := ((eP D.int D.int) (nth ps one))) (LV.rv (JV.lv (jv_v 0 ((eL (eP D.int D.int)) ps)))) (jv_v 3 (D.int one)) (atI_nth (by first | decide | omega | (simp only [Dy.cutD, List.length_append, List.length_map, List.length_cons, List.length_nil, List.length_take, List.length_drop]; omega) | (simp_all; done) | (simp_all; omega)) (by first | decide | omega | (simp only [Dy.cutD, List.length_append, List.length_map, List.length_cons, List.length_nil, List.length_take, List.length_drop]; omega) | (simp_all; done) | (simp_all; omega)))) jv_int rfl) (jv_ixT (d := (D.int ((nth qs two).2))) (jv_ixL (d := ((eP D.int D.int) (nth qs two))) (LV.rv (JV.lv (jv_v 1 ((eL (eP D.int D.int)) qs)))) (jv_v 4 (D.int two)) (atI_nth (by first | decide | omega | (simp only [Dy.cutD, List.length_append, List.length_map, List.length_cons, List.length_nil, List.length_take, List.length_drop]; omega) | (simp_all; done) | (simp_all; omega)) (by first | decide | omega | (simp only [Dy.cutD, List.length_append, List.length_map, List.length_cons, List.length_nil, List.length_take, List.length_drop]; omega) | (simp_all; done) | (simp_all; omega)))) jv_int rfl) T.b_min) (by rw [min_py])) (fun high h_high => ?_) sc_common_L.nd)
      refine js_mid (fun (rows2 : (List (Int × Int))) => [.val ((eL (eP D.int D.int)) ps), .val ((eL (eP D.int D.int)) qs), .own (rows2.map (eP D.int D.int)), .val (D.int one), .val (D.int two), .val (D.int low), .val (D.int high)]) (fun (rows2 : (List (Int × Int))) => rows2 = (if (decide (low < high)) = true then (rows1 ++ [(low, high)]) else rows1)) (js_if (tv_lt (jv_v 5 (D.int low)) (jv_v 6 (D.int high))) (fun c1 => ?_) (fun c1 => ?_)) ?_
      ·
        refine js_cons (js_appE 2 (eP D.int D.int) rows1 (low, high) (JV.to ((eP D.int D.int) (low, high)) (jv_tup (av_cons (jv_v 5 (D.int low)) (av_cons (jv_v 6 (D.int high)) av_nil))) rfl) (by first | decide | omega | (simp only [Dy.cutD, List.length_append, List.length_map, List.length_cons, List.length_nil, List.length_take, List.length_drop]; omega) | (simp_all; done) | (simp_all; omega)) (fun rows3 h_rows3 => ?_))
        refine js_nil ⟨rows3, ?_, ⟨.inr rfl, .inr rfl, .inr rfl, .inr rfl, .inr rfl, .inr rfl, .inr rfl, trivial⟩⟩
        (rw [if_pos c1]; first | done | rfl | assumption | (subst_vars; rfl) | simp_all)
      ·
        refine js_nil ⟨rows1, ?_, ⟨.inr rfl, .inr rfl, .inr rfl, .inr rfl, .inr rfl, .inr rfl, .inr rfl, trivial⟩⟩
        (rw [if_neg (by rw [c1]; exact Bool.false_ne_true)]; first | done | rfl | assumption | (subst_vars; rfl) | simp_all)
      ·
        rintro rows2 j_rows2
        refine js_cons (js_if (tv_lt (jv_ixT (d := (D.int ((nth ps one).2))) (jv_ixL (d := ((eP D.int D.int) (nth ps one))) (LV.rv (JV.lv (jv_v 0 ((eL (eP D.int D.int)) ps)))) (jv_v 3 (D.int one)) (atI_nth (by first | decide | omega | (simp only [Dy.cutD, List.length_append, List.length_map, List.length_cons, List.length_nil, List.length_take, List.length_drop]; omega) | (simp_all; done) | (simp_all; omega)) (by first | decide | omega | (simp only [Dy.cutD, List.length_append, List.length_map, List.length_cons, List.length_nil, List.length_take, List.length_drop]; omega) | (simp_all; done) | (simp_all; omega)))) jv_int rfl) (jv_ixT (d := (D.int ((nth qs two).2))) (jv_ixL (d := ((eP D.int D.int) (nth qs two))) (LV.rv (JV.lv (jv_v 1 ((eL (eP D.int D.int)) qs)))) (jv_v 4 (D.int two)) (atI_nth (by first | decide | omega | (simp only [Dy.cutD, List.length_append, List.length_map, List.length_cons, List.length_nil, List.length_take, List.length_drop]; omega) | (simp_all; done) | (simp_all; omega)) (by first | decide | omega | (simp only [Dy.cutD, List.length_append, List.length_map, List.length_cons, List.length_nil, List.length_take, List.length_drop]; omega) | (simp_all; done) | (simp_all; omega)))) jv_int rfl)) (fun c2 => ?_) (fun c2 => ?_))
        ·
          refine js_cons (js_setE 3 D.int (one + (1 : Int)) (jv_add (jv_v 3 (D.int one)) jv_int) (fun one1 h_one1 => ?_) sc_common_L.nd)
          refine js_nil ?_
          refine js_nil ⟨(rows2, one1, two), ?_, ?_, ⟨.inr rfl, .inr rfl, .inr rfl, .inr rfl, .inr rfl, .inl rfl, .inl rfl, trivial⟩⟩
          · dsimp only; omega
          · try dsimp only
            refine ⟨?_, by omega, by omega, by omega, by omega, by rw [j_rows2]; split <;> (try simp) <;> omega⟩; rw [i1, hs, if_pos (show (nth ps one).2 < (nth qs two).2 from by simpa using c2), ← h_low, ← h_high, j_rows2, h_one1]; by_cases c : low < high <;> simp [c]
        ·
          refine js_cons (js_setE 4 D.int (two + (1 : Int)) (jv_add (jv_v 4 (D.int two)) jv_int) (fun two1 h_two1 => ?_) sc_common_L.nd)
          refine js_nil ?_
          refine js_nil ⟨(rows2, one, two1), ?_, ?_, ⟨.inr rfl, .inr rfl, .inr rfl, .inr rfl, .inr rfl, .inl rfl, .inl rfl, trivial⟩⟩
          · dsimp only; omega
          · try dsimp only
            refine ⟨?_, by omega, by omega, by omega, by omega, by rw [j_rows2]; split <;> (try simp) <;> omega⟩; rw [i1, hs, if_neg (show ¬ (nth ps one).2 < (nth qs two).2 from by simpa using c2), ← h_low, ← h_high, j_rows2, h_two1]; by_cases c : low < high <;> simp [c]
    ·
      have hw : ¬ (one < ps.length ∧ two < qs.length) := (by simpa using w0)
      refine js_cons (js_ret (jv_tupL (LV.rv (lv_own 2)) T.b_tuple) ?_)
      refine congrArg (fun z => Except.ok ((eQ (eP D.int D.int)) z)) (show comF ps qs = rows1 from ?_)
      rw [i1, com_end hw i2 i4, List.append_nil]
theorem fn_common_L (T : Txt K mg) : Fn P w K mg base 1 "common" (R_common_L ) := by
  obtain ⟨f, fd, F, gf⟩ := T.common
  exact ⟨f, fd, _, ok_common_L T F, gf, F.kp, F.binds fun _ _ _ _ _ _ us hl => match us, hl with | [_, _], _ => rfl⟩
end

abbrev s_law_cell : Stmt := (top 6)
def R_law_cell : Rl := fun ds r => ∃ (ns : List Int) (k : Int), ds = [(D.scr ns), (D.int k)] ∧ (0 ≤ k) ∧ r = .ok (D.int (cell ns k))
theorem r_law_cell {ns : List Int} {k : Int} (hpre : 0 ≤ k) : R_law_cell [(D.scr ns), (D.int k)] (.ok (D.int (cell ns k))) := ⟨ns, k, rfl, hpre, rfl⟩
theorem sc_law_cell : FnScope ["_law_script", "_law_k"] ["_law_script", "_law_k"] (defScope s_law_cell) := ⟨rfl, rfl, rfl, by decide +kernel, rfl, by decide +kernel, by decide +kernel⟩
section
variable {P : Program} {w : World} {K : PySem.W.Frag} {mg : Str → Option Value} {base : Heap}
theorem ok_law_cell (T : Txt K mg) {f : Addr} {fd : FuncData} (F : Fun K "_law_cell" "_law_cell" s_law_cell f fd) : FnOk P w K mg base (L2.CX P w) 1 f fd ["_law_script", "_law_k"] (spR K (R_law_cell )) := by
  refine fnok_of F sc_law_cell (fun ds r h => ?_) (fun cdv A outer s H E B ds r hr h => ?_)
  · obtain ⟨_, _, rfl, _⟩ := h
    rfl
  obtain ⟨ns, k, rfl, hpre, rfl⟩ := h
  refine js_cons (js_if (tv_lt (jv_v 1 (D.int k)) (JV.to (.int (ns.length : Int)) (jv_len (RV.qv (JV.sv (jv_v 0 (D.scr ns)))) T.b_len) (by rw [List.length_map]))) (fun c1 => ?_) (fun c1 => ?_))
  ·
    refine js_cons (js_ret (jv_ixS (jv_v 0 (D.scr ns)) (jv_v 1 (D.int k)) (by first | decide | omega | (simp only [Dy.cutD, List.length_append, List.length_map, List.length_cons, List.length_nil, List.length_take, List.length_drop]; omega) | (simp_all; done) | (simp_all; omega)) (by first | decide | omega | (simp only [Dy.cutD, List.length_append, List.length_map, List.length_cons, List.length_nil, List.length_take, List.length_drop]; omega) | (simp_all; done) | (simp_all; omega))) ?_)
    refine congrArg (fun z => Except.ok (D.int z)) (show cell ns k = (nth ns k) from ?_)
    rw [cell, if_pos]; simpa using c1
  ·
    refine js_nil ?_
    refine js_cons (js_ret jv_int ?_)
    refine congrArg (fun z => Except.ok (D.int z)) (show cell ns k = (0 : Int) from ?_)
    rw [cell, if_neg]; simpa using c1
theorem fn_law_cell (T : Txt K mg) : Fn P w K mg base 1 "_law_cell" (R_law_cell ) := by
  obtain ⟨f, fd, F, gf⟩ := T.law_cell
  exact ⟨f, fd, _, ok_law_cell T F, gf, F.kp, F.binds fun _ _ _ _ _ _ us hl => match us, hl with | [_, _], _ => rfl⟩
end

abbrev s_law_digits : Stmt := (top 7)
def R_law_digits : Rl := fun ds r => ∃ (c : Int) (szs : List (Int)), ds = [(D.int c), ((eL D.int) szs)] ∧ ((∀ s ∈ szs, 0 < s ∧ s < 1073741824) ∧ szs.length ≤ 1000) ∧ r = .ok ((eL D.int) (digits c szs))
theorem r_law_digits {c : Int} {szs : List (Int)} (hpre : (∀ s ∈ szs, 0 < s ∧ s < 1073741824) ∧ szs.length ≤ 1000) : R_law_digits [(D.int c), ((eL D.int) szs)] (.ok ((eL D.int) (digits c szs))) := ⟨c, szs, rfl, hpre, rfl⟩
theorem sc_law_digits : FnScope ["_law_cell_here", "_law_sizes", "_law_row_here", "_law_size"] ["_law_cell_here", "_law_sizes"] (defScope s_law_digits) := ⟨rfl, rfl, rfl, by decide +kernel, rfl, by decide +kernel, by decide +kernel⟩
section
variable {P : Program} {w : World} {K : PySem.W.Frag} {mg : Str → Option Value} {base : Heap}
theorem ok_law_digits (T : Txt K mg) {f : Addr} {fd : FuncData} (F : Fun K "_law_digits" "_law_digits" s_law_digits f fd) : FnOk P w K mg base (L2.CX P w) 1 f fd ["_law_cell_here", "_law_sizes"] (spR K (R_law_digits )) := by
  refine fnok_of F sc_law_digits (fun ds r h => ?_) (fun cdv A outer s H E B ds r hr h => ?_)
  · obtain ⟨_, _, rfl, _⟩ := h
    rfl
  obtain ⟨c, szs, rfl, hpre, rfl⟩ := h
  refine js_cons (js_setLE 2 D.int ([] : List (Int)) (FL.to D.int ([] : List (Int)) (fl_lst av_nil) rfl) (fun rowhere h_rowhere => ?_) sc_law_digits.nd)
  refine js_cons (js_overL (is := [3]) szs D.int (fun (a : Int) Δ => Δ.set 3 (.val (D.int a))) (fun (pre0 : List (Int)) (z : (List (Int)) × (Int)) => [.val (D.int z.2), .val ((eL D.int) szs), .own (z.1.map D.int), .un]) (fun (pre0 : List (Int)) (z : (List (Int)) × (Int)) => z.1.length = pre0.length ∧ ∀ post, szs = pre0 ++ post → digits c szs = z.1 ++ digits z.2 post) (rowhere, c) (jv_v 1 ((eL D.int) szs)) ?tgt ?h0 ⟨.inr rfl, .inr rfl, .inr rfl, .inl rfl, trivial⟩ ?turn ?done (passes_of rfl) rfl)
  case tgt => exact tg_name 3 sc_law_digits.nd
  case h0 =>
    try dsimp only
    simp [h_rowhere]
  case turn =>
    rintro B pre0 av post0 ⟨rowhere1, cellhere⟩ e0 iv0
    try dsimp only at iv0
    have hp := iv0.2 _ e0; have hz := hpre.1 av (by rw [e0]; simp); have hl : pre0.length < 1000 := by have := hpre.2; rw [e0] at this; simp at this; omega
    refine js_cons (js_appE 2 D.int rowhere1 (cellhere % av) (jv_mod (jv_callInt (jv_v 0 (D.int cellhere)) T.b_int) (jv_v 3 (D.int av)) (by exact hz.1)) (by rw [iv0.1]; omega) (fun rowhere2 h_rowhere2 => ?_))
    refine js_cons (js_setE 0 D.int (cellhere / av) (jv_div (jv_v 0 (D.int cellhere)) (jv_v 3 (D.int av)) (by exact hz)) (fun cellhere1 h_cellhere1 => ?_) sc_law_digits.nd)
    refine js_nil ⟨(rowhere2, cellhere1), ?_, ⟨.inr rfl, .inr rfl, .inr rfl, .inl rfl, trivial⟩⟩
    try dsimp only
    refine ⟨by rw [h_rowhere2]; simp [iv0.1], ?_⟩; intro post1 e1; rw [e0, List.append_assoc] at e1; have := List.append_cancel_left e1; simp at this; subst this; rw [hp, digits, h_rowhere2, h_cellhere1]; simp
  case done =>
    rintro ⟨rowhere1, cellhere⟩ iv0
    try dsimp only at iv0
    refine Js.freeze 2 (ds := rowhere1.map D.int) rfl ?_
    refine js_cons (js_ret (jv_v 2 ((eL D.int) rowhere1)) ?_)
    refine congrArg (fun z => Except.ok ((eL D.int) z)) (show digits c szs = rowhere1 from ?_)
    rw [iv0.2 [] (by simp)]; simp [digits]
theorem fn_law_digits (T : Txt K mg) : Fn P w K mg base 1 "_law_digits" (R_law_digits ) := by
  obtain ⟨f, fd, F, gf⟩ := T.law_digits
  exact ⟨f, fd, _, ok_law_digits T F, gf, F.kp, F.binds fun _ _ _ _ _ _ us hl => match us, hl with | [_, _], _ => rfl⟩
end

abbrev s_law_rich : Stmt := (top 8)
def R_law_rich : Rl := fun ds r => ∃ (c : Int), ds = [(D.int c)] ∧ r = .ok (D.int (rich c))
theorem r_law_rich {c : Int} : R_law_rich [(D.int c)] (.ok (D.int (rich c))) := ⟨c, rfl, rfl⟩
theorem sc_law_rich : FnScope ["_law_cell_here", "_law_low", "_law_high"] ["_law_cell_here"] (defScope s_law_rich) := ⟨rfl, rfl, rfl, by decide +kernel, rfl, by decide +kernel, by decide +kernel⟩
section
variable {P : Program} {w : World} {K : PySem.W.Frag} {mg : Str → Option Value} {base : Heap}
theorem ok_law_rich (T : Txt K mg) {f : Addr} {fd : FuncData} (F : Fun K "_law_rich" "_law_rich" s_law_rich f fd) : FnOk P w K mg base (L2.CX P w) 1 f fd ["_law_cell_here"] (spR K (R_law_rich )) := by
  refine fnok_of F sc_law_rich (fun ds r h => ?_) (fun cdv A outer s H E B ds r hr h => ?_)
  · obtain ⟨_, rfl, _⟩ := h
    rfl
  obtain ⟨c, rfl, rfl⟩ := h
  refine js_cons (js_if (tv_ge (jv_v 0 (D.int c)) (jv_pow jv_int jv_int (by unfold CPow; decide))) (fun c1 => ?_) (fun c1 => ?_))
  ·
    refine js_cons (js_ret (jv_v 0 (D.int c)) ?_)
    refine congrArg (fun z => Except.ok (D.int z)) (show rich c = c from ?_)
    rw [rich, if_pos]; simpa using c1
  ·
    refine js_nil ?_
    refine js_cons (js_setE 1 D.int (((c * (48271 : Int)) + (11 : Int)) % (2147483647 : Int)) (jv_mod (jv_callInt (jv_add (jv_mul (jv_v 0 (D.int c)) jv_int (.inr ⟨by decide, by decide⟩)) jv_int) T.b_int) jv_int (by decide)) (fun low h_low => ?_) sc_law_rich.nd)
    refine js_cons (js_setE 2 D.int ((((low * (69621 : Int)) + (c / (7 : Int))) + (5 : Int)) % (2147483629 : Int)) (jv_mod (jv_callInt (jv_add (jv_add (jv_mul (jv_v 1 (D.int low)) jv_int (.inr ⟨by decide, by decide⟩)) (jv_div (jv_v 0 (D.int c)) jv_int ⟨by decide, by decide⟩)) jv_int) T.b_int) jv_int (by decide)) (fun high h_high => ?_) sc_law_rich.nd)
    refine js_cons (js_ret (jv_add (jv_mul (jv_v 1 (D.int low)) jv_int (.inr ⟨by decide, by decide⟩)) (jv_v 2 (D.int high))) ?_)
    refine congrArg (fun z => Except.ok (D.int z)) (show rich c = ((low * (2147483629 : Int)) + high) from ?_)
    rw [rich, if_neg (by simpa using c1), h_low, h_high, h_low]
theorem fn_law_rich (T : Txt K mg) : Fn P w K mg base 1 "_law_rich" (R_law_rich ) := by
  obtain ⟨f, fd, F, gf⟩ := T.law_rich
  exact ⟨f, fd, _, ok_law_rich T F, gf, F.kp, F.binds fun _ _ _ _ _ _ us hl => match us, hl with | [_], _ => rfl⟩
end

abbrev s_law_row : Stmt := (top 9)
def R_law_row : Rl := fun ds r => ∃ (c : Int) (bound : Int), ds = [(D.int c), (D.int bound)] ∧ r = .ok ((eL (eP D.int D.int)) (rowF c bound))
theorem r_law_row {c : Int} {bound : Int} : R_law_row [(D.int c), (D.int bound)] (.ok ((eL (eP D.int D.int)) (rowF c bound))) := ⟨c, bound, rfl, rfl⟩
theorem sc_law_row : FnScope ["_law_cell_here", "_law_bound", "_law_d", "_law_rows", "_law_place", "_law_k", "_law_begin", "_law_row_here"] ["_law_cell_here", "_law_bound"] (defScope s_law_row) := ⟨rfl, rfl, rfl, by decide +kernel, rfl, by decide +kernel, by decide +kernel⟩
section
variable {P : Program} {w : World} {K : PySem.W.Frag} {mg : Str → Option Value} {base : Heap}
theorem ok_law_row (T : Txt K mg) {f : Addr} {fd : FuncData} (F : Fun K "_law_row" "_law_row" s_law_row f fd) : FnOk P w K mg base (L2.CX P w) 2 f fd ["_law_cell_here", "_law_bound"] (spR K (R_law_row )) := by
  refine fnok_of F sc_law_row (fun ds r h => ?_) (fun cdv A outer s H E B ds r hr h => ?_)
  · obtain ⟨_, _, rfl, _⟩ := h
    rfl
  obtain ⟨c, bound, rfl, rfl⟩ := h
  refine js_cons (js_setE 2 (eL D.int) (digits (rich c) ([(5 : Int), (12 : Int), (7 : Int), (12 : Int), (7 : Int), (12 : Int), (7 : Int), (12 : Int), (7 : Int), (4 : Int)] : List (Int))) (jv_call (fn_law_digits T) (hr.mono (by decide)) (av_cons (jv_call (fn_law_rich T) (hr.mono (by decide)) (av_cons (jv_v 0 (D.int c)) av_nil) (r_law_rich)) (av_cons (FL.jv (FL.to D.int ([(5 : Int), (12 : Int), (7 : Int), (12 : Int), (7 : Int), (12 : Int), (7 : Int), (12 : Int), (7 : Int), (4 : Int)] : List (Int)) (fl_lst (av_cons jv_int (av_cons jv_int (av_cons jv_int (av_cons jv_int (av_cons jv_int (av_cons jv_int (av_cons jv_int (av_cons jv_int (av_cons jv_int (av_cons jv_int av_nil))))))))))) rfl)) av_nil)) (r_law_digits (by first | decide | omega | (simp only [Dy.cutD, List.length_append, List.length_map, List.length_cons, List.length_nil, List.length_take, List.length_drop]; omega) | (simp_all; done) | (simp_all; omega)))) (fun dv h_dv => ?_) sc_law_row.nd)
  have hdl : dv.length = 10 := by rw [h_dv, digits_len]; rfl
  have hdr := row_dig c
  rw [← h_dv] at hdr
  obtain ⟨hd1, hd2, hd3⟩ := hdr
  refine js_cons (js_setLE 3 (eP D.int D.int) ([] : List (Int × Int)) (FL.to (eP D.int D.int) ([] : List (Int × Int)) (fl_lst av_nil) rfl) (fun rows h_rows => ?_) sc_law_row.nd)
  refine js_cons (js_setE 4 D.int (((nth dv (9 : Int)) % (3 : Int)) - (1 : Int)) (jv_sub (jv_mod (jv_callInt (jv_ixL (d := (D.int (nth dv (9 : Int)))) (LV.rv (JV.lv (jv_v 2 ((eL D.int) dv)))) jv_int (atI_nth (by first | decide | omega | (simp only [Dy.cutD, List.length_append, List.length_map, List.length_cons, List.length_nil, List.length_take, List.length_drop]; omega) | (simp_all; done) | (simp_all; omega)) (by first | decide | omega | (simp only [Dy.cutD, List.length_append, List.length_map, List.length_cons, List.length_nil, List.length_take, List.length_drop]; omega) | (simp_all; done) | (simp_all; omega)))) T.b_int) jv_int (by decide)) jv_int) (fun place h_place => ?_) sc_law_row.nd)
  refine js_cons (js_overR1 (is := [5]) (n := (nth dv (0 : Int))) (fun (a : Int) Δ => Δ.set 5 (.val (D.int a))) (fun (i0 : Nat) (z : (List (Int × Int)) × (Int)) => [.val (D.int c), .val (D.int bound), .val ((eL D.int) dv), .own (z.1.map (eP D.int D.int)), .val (D.int z.2), .un, .un, .un]) (fun (i0 : Nat) (z : (List (Int × Int)) × (Int)) => (z.1, z.2) = rowSt dv i0 ∧ z.1.length = i0) (rows, place) (jv_ixL (d := (D.int (nth dv (0 : Int)))) (LV.rv (JV.lv (jv_v 2 ((eL D.int) dv)))) jv_int (atI_nth (by first | decide | omega | (simp only [Dy.cutD, List.length_append, List.length_map, List.length_cons, List.length_nil, List.length_take, List.length_drop]; omega) | (simp_all; done) | (simp_all; omega)) (by first | decide | omega | (simp only [Dy.cutD, List.length_append, List.length_map, List.length_cons, List.length_nil, List.length_take, List.length_drop]; omega) | (simp_all; done) | (simp_all; omega)))) ?tgt ?h0 ⟨.inr rfl, .inr rfl, .inr rfl, .inr rfl, .inr rfl, .inl rfl, .inl rfl, .inl rfl, trivial⟩ ?turn ?done (passes_of rfl) rfl T.b_range)
  case tgt => exact tg_name 5 sc_law_row.nd
  case h0 =>
    try dsimp only
    exact ⟨by rw [h_rows, h_place, rowSt], by rw [h_rows]; rfl⟩
  case turn =>
    rintro B i0 ⟨rows1, place1⟩ hi0 iv0
    try dsimp only at iv0
    have hx := hd3 i0 (by omega)
    refine js_cons (js_setE 6 D.int (place1 + ((nth dv ((1 : Int) + ((2 : Int) * (i0 : Int)))) * ((1 : Int) + ((nth dv ((2 : Int) + ((2 : Int) * (i0 : Int)))) / (3 : Int))))) (jv_add (jv_v 4 (D.int place1)) (jv_mul (jv_ixL (d := (D.int (nth dv ((1 : Int) + ((2 : Int) * (i0 : Int)))))) (LV.rv (JV.lv (jv_v 2 ((eL D.int) dv)))) (jv_add jv_int (jv_mul jv_int (jv_v 5 (D.int (i0 : Int))) (.inl ⟨by decide, by decide⟩))) (atI_nth (by first | decide | omega | (simp only [Dy.cutD, List.length_append, List.length_map, List.length_cons, List.length_nil, List.length_take, List.length_drop]; omega) | (simp_all; done) | (simp_all; omega)) (by first | decide | omega | (simp only [Dy.cutD, List.length_append, List.length_map, List.length_cons, List.length_nil, List.length_take, List.length_drop]; omega) | (simp_all; done) | (simp_all; omega)))) (jv_callInt (jv_add jv_int (jv_div (jv_ixL (d := (D.int (nth dv ((2 : Int) + ((2 : Int) * (i0 : Int)))))) (LV.rv (JV.lv (jv_v 2 ((eL D.int) dv)))) (jv_add jv_int (jv_mul jv_int (jv_v 5 (D.int (i0 : Int))) (.inl ⟨by decide, by decide⟩))) (atI_nth (by first | decide | omega | (simp only [Dy.cutD, List.length_append, List.length_map, List.length_cons, List.length_nil, List.length_take, List.length_drop]; omega) | (simp_all; done) | (simp_all; omega)) (by first | decide | omega | (simp only [Dy.cutD, List.length_append, List.length_map, List.length_cons, List.length_nil, List.length_take, List.length_drop]; omega) | (simp_all; done) | (simp_all; omega)))) jv_int ⟨by decide, by decide⟩)) T.b_int) (by first | (unfold CMul; omega) | decide | omega | (simp only [Dy.cutD, List.length_append, List.length_map, List.length_cons, List.length_nil, List.length_take, List.length_drop]; omega) | (simp_all; done) | (simp_all; omega)))) (fun begin h_begin => ?_) sc_law_row.nd)
    refine js_cons (js_appE 3 (eP D.int D.int) rows1 ((max (0 : Int) begin), (((max (0 : Int) begin) + (1 : Int)) + (nth dv ((2 : Int) + ((2 : Int) * (i0 : Int)))))) (JV.to ((eP D.int D.int) ((max (0 : Int) begin), (((max (0 : Int) begin) + (1 : Int)) + (nth dv ((2 : Int) + ((2 : Int) * (i0 : Int))))))) (jv_tup (av_cons (JV.to (.int (max (0 : Int) begin)) (jv_max2 rfl jv_int (jv_v 6 (D.int begin)) T.b_max) (by rw [max_py])) (av_cons (jv_add (jv_add (JV.to (.int (max (0 : Int) begin)) (jv_max2 rfl jv_int (jv_v 6 (D.int begin)) T.b_max) (by rw [max_py])) jv_int) (jv_ixL (d := (D.int (nth dv ((2 : Int) + ((2 : Int) * (i0 : Int)))))) (LV.rv (JV.lv (jv_v 2 ((eL D.int) dv)))) (jv_add jv_int (jv_mul jv_int (jv_v 5 (D.int (i0 : Int))) (.inl ⟨by decide, by decide⟩))) (atI_nth (by first | decide | omega | (simp only [Dy.cutD, List.length_append, List.length_map, List.length_cons, List.length_nil, List.length_take, List.length_drop]; omega) | (simp_all; done) | (simp_all; omega)) (by first | decide | omega | (simp only [Dy.cutD, List.length_append, List.length_map, List.length_cons, List.length_nil, List.length_take, List.length_drop]; omega) | (simp_all; done) | (simp_all; omega))))) av_nil))) rfl) (by first | decide | omega | (simp only [Dy.cutD, List.length_append, List.length_map, List.length_cons, List.length_nil, List.length_take, List.length_drop]; omega) | (simp_all; done) | (simp_all; omega)) (fun rows2 h_rows2 => ?_))
    refine js_cons (js_setE 4 D.int (begin + (nth dv ((2 : Int) + ((2 : Int) * (i0 : Int))))) (jv_add (jv_v 6 (D.int begin)) (jv_ixL (d := (D.int (nth dv ((2 : Int) + ((2 : Int) * (i0 : Int)))))) (LV.rv (JV.lv (jv_v 2 ((eL D.int) dv)))) (jv_add jv_int (jv_mul jv_int (jv_v 5 (D.int (i0 : Int))) (.inl ⟨by decide, by decide⟩))) (atI_nth (by first | decide | omega | (simp only [Dy.cutD, List.length_append, List.length_map, List.length_cons, List.length_nil, List.length_take, List.length_drop]; omega) | (simp_all; done) | (simp_all; omega)) (by first | decide | omega | (simp only [Dy.cutD, List.length_append, List.length_map, List.length_cons, List.length_nil, List.length_take, List.length_drop]; omega) | (simp_all; done) | (simp_all; omega))))) (fun place2 h_place2 => ?_) sc_law_row.nd)
    refine js_nil ⟨(rows2, place2), ?_, ⟨.inr rfl, .inr rfl, .inr rfl, .inr rfl, .inr rfl, .inl rfl, .inl rfl, .inl rfl, trivial⟩⟩
    try dsimp only
    obtain ⟨e1, e2⟩ := iv0; refine ⟨?_, by rw [h_rows2]; simp [e2]⟩; simp only [rowSt, ← e1, h_rows2, h_place2, h_begin]
  case done =>
    rintro ⟨rows1, place1⟩ iv0
    try dsimp only at iv0
    refine js_cons (js_ret (FL.jv (LcV.fl (lc_some (eP D.int D.int) (fun (a1 : Int × Int) => a1) (lc_compL [("_law_row_here", 7)] rows1 (eP D.int D.int) (fun (a1 : Int × Int) Δ => Δ.set 7 (.val ((eP D.int D.int) a1))) (fun (a1 : Int × Int) => (decide (a1.2 ≤ bound))) (fun (a1 : Int × Int) => ((eP D.int D.int) a1)) (LV.rv (lv_own 3)) ⟨_, fun s H C cl fp => pg_name (i := 7) sc_law_row.nd rfl (by first | exact Or.inl rfl | exact Or.inr rfl), fun a => gd_name 7⟩ (fun a1 m1 B' s H C cl fp => (tv_le (jv_ixT (d := (D.int a1.2)) (jv_v 7 ((eP D.int D.int) a1)) jv_int rfl) (jv_v 1 (D.int bound)))) (fun a1 m1 c1 B' s H C cl fp => (jv_v 7 ((eP D.int D.int) a1))) (by first | decide | omega | (simp only [Dy.cutD, List.length_append, List.length_map, List.length_cons, List.length_nil, List.length_take, List.length_drop]; omega) | (simp_all; done) | (simp_all; omega)) rfl sc_law_row.nd (ok := (show blkC ["_law_cell_here", "_law_bound", "_law_d", "_law_rows", "_law_place", "_law_k", "_law_begin", "_law_row_here"] (defScope s_law_row) _ [("_law_row_here", 7)] = true from by decide +kernel)))))) ?_)
    refine congrArg (fun z => Except.ok ((eL (eP D.int D.int)) z)) (show rowF c bound = ((rows1.filter (fun (a1 : Int × Int) => (decide (a1.2 ≤ bound)))).map (fun (a1 : Int × Int) => a1)) from ?_)
    simp only [rowF, ← h_dv, ← iv0.1, List.map_id_fun', id_eq]
theorem fn_law_row (T : Txt K mg) : Fn P w K mg base 2 "_law_row" (R_law_row ) := by
  obtain ⟨f, fd, F, gf⟩ := T.law_row
  exact ⟨f, fd, _, ok_law_row T F, gf, F.kp, F.binds fun _ _ _ _ _ _ us hl => match us, hl with | [_, _], _ => rfl⟩
end

abbrev s_law_tidy : Stmt := (top 10)
def R_law_tidy : Rl := fun ds r => ∃ (ps : List (Int × Int)) (lo : Int) (hi : Int), ds = [((eQ (eP D.int D.int)) ps), (D.int lo), (D.int hi)] ∧ r = .ok (D.bl (tidyF ps lo hi))
theorem r_law_tidy {ps : List (Int × Int)} {lo : Int} {hi : Int} : R_law_tidy [((eQ (eP D.int D.int)) ps), (D.int lo), (D.int hi)] (.ok (D.bl (tidyF ps lo hi))) := ⟨ps, lo, hi, rfl, rfl⟩
theorem sc_law_tidy : FnScope ["_law_rows", "_law_low", "_law_high", "_law_past", "_law_row_here"] ["_law_rows", "_law_low", "_law_high"] (defScope s_law_tidy) := ⟨rfl, rfl, rfl, by decide +kernel, rfl, by decide +kernel, by decide +kernel⟩
section
variable {P : Program} {w : World} {K : PySem.W.Frag} {mg : Str → Option Value} {base : Heap}
theorem ok_law_tidy (T : Txt K mg) {f : Addr} {fd : FuncData} (F : Fun K "_law_tidy" "_law_tidy" s_law_tidy f fd) : FnOk P w K mg base (L2.CX P w) 1 f fd ["_law_rows", "_law_low", "_law_high"] (spR K (R_law_tidy )) := by
  refine fnok_of F sc_law_tidy (fun ds r h => ?_) (fun cdv A outer s H E B ds r hr h => ?_)
  · obtain ⟨_, _, _, rfl, _⟩ := h
    rfl
  obtain ⟨ps, lo, hi, rfl, rfl⟩ := h
  refine js_cons (js_if (tv_not (tv_of (jv_isi (jv_v 0 ((eQ (eP D.int D.int)) ps)) (fun _ _ _ r => tyT_rep r) (tn := "tuple") (by decide +kernel) (r := true) (kit_ty (by decide +kernel)) T.b_isinstance T.b_tuple))) (fun c1 => ?_) (fun c1 => ?_))
  ·
    refine js_cons (js_ret jv_bl ?_)
    refine congrArg (fun z => Except.ok (D.bl z)) (show tidyF ps lo hi = false from ?_)
    simp at c1
  ·
    refine js_nil ?_
    refine js_cons (js_setE 3 D.int (lo - (1 : Int)) (jv_sub (jv_v 1 (D.int lo)) jv_int) (fun past h_past => ?_) sc_law_tidy.nd)
    refine js_cons (js_overT (is := [4]) ps (eP D.int D.int) (fun (a : Int × Int) Δ => Δ.set 4 (.val ((eP D.int D.int) a))) (fun (pre0 : List (Int × Int)) (past1 : (Int)) => [.val ((eQ (eP D.int D.int)) ps), .val (D.int lo), .val (D.int hi), .val (D.int past1), .un]) (fun (pre0 : List (Int × Int)) (past1 : (Int)) => ∀ post, ps = pre0 ++ post → tidyF ps lo hi = tidyGo hi past1 post) past (jv_v 0 ((eQ (eP D.int D.int)) ps)) ?tgt ?h0 ⟨.inr rfl, .inr rfl, .inr rfl, .inr rfl, .inl rfl, trivial⟩ ?turn ?done (passes_of rfl) rfl)
    case tgt => exact tg_name 4 sc_law_tidy.nd
    case h0 =>
      try dsimp only
      intro post e; rw [e]; simp [tidyF, h_past]
    case turn =>
      rintro B pre0 av post0 past1 e0 iv0
      try dsimp only at iv0
      have hp := iv0 _ e0
      refine js_cons (js_if (tv_w (wv_or (tv_not (tv_of (jv_isi (jv_v 4 ((eP D.int D.int) av)) (fun _ _ _ r => tyT_rep r) (tn := "tuple") (by decide +kernel) (r := true) (kit_ty (by decide +kernel)) T.b_isinstance T.b_tuple))) (fun q1 => (wv_or1 (tv_ne (jv_len (JV.qv (jv_v 4 ((eP D.int D.int) av))) T.b_len) jv_int))))) (fun c2 => ?_) (fun c2 => ?_))
      ·
        refine js_cons (js_ret jv_bl ?_)
        refine congrArg (fun z => Except.ok (D.bl z)) (show tidyF ps lo hi = false from ?_)
        simp at c2
      ·
        refine js_nil ?_
        refine js_cons (js_if (tv_w (wv_or (tv_not (tv_of (jv_isi (jv_ixT (d := (D.int av.1)) (jv_v 4 ((eP D.int D.int) av)) jv_int rfl) (fun _ _ _ r => tyOf_rep rfl r) (tn := "int") (by decide +kernel) (r := true) (kit_ty (by decide +kernel)) T.b_isinstance T.b_int))) (fun q2 => (wv_or1 (tv_not (tv_of (jv_isi (jv_ixT (d := (D.int av.2)) (jv_v 4 ((eP D.int D.int) av)) jv_int rfl) (fun _ _ _ r => tyOf_rep rfl r) (tn := "int") (by decide +kernel) (r := true) (kit_ty (by decide +kernel)) T.b_isinstance T.b_int))))))) (fun c3 => ?_) (fun c3 => ?_))
        ·
          refine js_cons (js_ret jv_bl ?_)
          refine congrArg (fun z => Except.ok (D.bl z)) (show tidyF ps lo hi = false from ?_)
          simp at c3
        ·
          refine js_nil ?_
          refine js_cons (js_if (tv_w (wv_or (tv_le (jv_ixT (d := (D.int av.1)) (jv_v 4 ((eP D.int D.int) av)) jv_int rfl) (jv_v 3 (D.int past1))) (fun q4 => (wv_or (tv_le (jv_ixT (d := (D.int av.2)) (jv_v 4 ((eP D.int D.int) av)) jv_int rfl) (jv_ixT (d := (D.int av.1)) (jv_v 4 ((eP D.int D.int) av)) jv_int rfl)) (fun q3 => (wv_or1 (tv_gt (jv_ixT (d := (D.int av.2)) (jv_v 4 ((eP D.int D.int) av)) jv_int rfl) (jv_v 2 (D.int hi))))))))) (fun c4 => ?_) (fun c4 => ?_))
          ·
            refine js_cons (js_ret jv_bl ?_)
            refine congrArg (fun z => Except.ok (D.bl z)) (show tidyF ps lo hi = false from ?_)
            rw [hp, tidyGo, if_neg]; simp at c4; omega
          ·
            refine js_nil ?_
            refine js_cons (js_set 3 (jv_ixT (d := (D.int av.2)) (jv_v 4 ((eP D.int D.int) av)) jv_int rfl) ?_ sc_law_tidy.nd)
            refine js_nil ⟨av.2, ?_, ⟨.inr rfl, .inr rfl, .inr rfl, .inr rfl, .inl rfl, trivial⟩⟩
            try dsimp only
            intro post1 e1; rw [e0, List.append_assoc] at e1; have := List.append_cancel_left e1; simp at this; subst this; rw [hp, tidyGo, if_pos]; simp at c4; omega
    case done =>
      rintro past1 iv0
      try dsimp only at iv0
      refine js_cons (js_ret jv_bl ?_)
      refine congrArg (fun z => Except.ok (D.bl z)) (show tidyF ps lo hi = true from ?_)
      rw [iv0 [] (by simp)]; rfl
theorem fn_law_tidy (T : Txt K mg) : Fn P w K mg base 1 "_law_tidy" (R_law_tidy ) := by
  obtain ⟨f, fd, F, gf⟩ := T.law_tidy
  exact ⟨f, fd, _, ok_law_tidy T F, gf, F.kp, F.binds fun _ _ _ _ _ _ us hl => match us, hl with | [_, _, _], _ => rfl⟩
end

abbrev s_law_hit : Stmt := (top 11)
def R_law_hit : Rl := fun ds r => ∃ (ps : List (Int × Int)) (x : Int), ds = [((eQ (eP D.int D.int)) ps), (D.int x)] ∧ r = .ok (D.bl (hitF ps x))
theorem r_law_hit {ps : List (Int × Int)} {x : Int} : R_law_hit [((eQ (eP D.int D.int)) ps), (D.int x)] (.ok (D.bl (hitF ps x))) := ⟨ps, x, rfl, rfl⟩
theorem sc_law_hit : FnScope ["_law_rows", "_law_instant", "_law_row_here"] ["_law_rows", "_law_instant"] (defScope s_law_hit) := ⟨rfl, rfl, rfl, by decide +kernel, rfl, by decide +kernel, by decide +kernel⟩
section
variable {P : Program} {w : World} {K : PySem.W.Frag} {mg : Str → Option Value} {base : Heap}
theorem ok_law_hit (T : Txt K mg) {f : Addr} {fd : FuncData} (F : Fun K "_law_hit" "_law_hit" s_law_hit f fd) : FnOk P w K mg base (L2.CX P w) 1 f fd ["_law_rows", "_law_instant"] (spR K (R_law_hit )) := by
  refine fnok_of F sc_law_hit (fun ds r h => ?_) (fun cdv A outer s H E B ds r hr h => ?_)
  · obtain ⟨_, _, rfl, _⟩ := h
    rfl
  obtain ⟨ps, x, rfl, rfl⟩ := h
  refine js_cons (js_overT (is := [2]) ps (eP D.int D.int) (fun (a : Int × Int) Δ => Δ.set 2 (.val ((eP D.int D.int) a))) (fun (pre0 : List (Int × Int)) (_ : Unit) => [.val ((eQ (eP D.int D.int)) ps), .val (D.int x), .un]) (fun (pre0 : List (Int × Int)) (_ : Unit) => ∀ post, ps = pre0 ++ post → hitF ps x = hitF post x) () (jv_v 0 ((eQ (eP D.int D.int)) ps)) ?tgt ?h0 ⟨.inr rfl, .inr rfl, .inl rfl, trivial⟩ ?turn ?done (passes_of rfl) rfl)
  case tgt => exact tg_name 2 sc_law_hit.nd
  case h0 =>
    try dsimp only
    intro post e; rw [e]; rfl
  case turn =>
    rintro B pre0 av post0 _ e0 iv0
    try dsimp only at iv0
    have hp := iv0 _ e0
    refine js_cons (js_if (tv_w (wv_and (tv_le (jv_ixT (d := (D.int av.1)) (jv_v 2 ((eP D.int D.int) av)) jv_int rfl) (jv_v 1 (D.int x))) (fun q1 => (wv_and1 (tv_lt (jv_v 1 (D.int x)) (jv_ixT (d := (D.int av.2)) (jv_v 2 ((eP D.int D.int) av)) jv_int rfl)))))) (fun c1 => ?_) (fun c1 => ?_))
    ·
      refine js_cons (js_ret jv_bl ?_)
      refine congrArg (fun z => Except.ok (D.bl z)) (show hitF ps x = true from ?_)
      rw [hp, hit_cons, c1]; rfl
    ·
      refine js_nil ?_
      refine js_nil ⟨(), ?_, ⟨.inr rfl, .inr rfl, .inl rfl, trivial⟩⟩
      try dsimp only
      intro post1 e1; rw [e0, List.append_assoc] at e1; have := List.append_cancel_left e1; simp at this; subst this; rw [hp, hit_cons, c1, Bool.false_or]
  case done =>
    rintro _ iv0
    try dsimp only at iv0
    refine js_cons (js_ret jv_bl ?_)
    refine congrArg (fun z => Except.ok (D.bl z)) (show hitF ps x = false from ?_)
    rw [iv0 [] (by simp)]; rfl
theorem fn_law_hit (T : Txt K mg) : Fn P w K mg base 1 "_law_hit" (R_law_hit ) := by
  obtain ⟨f, fd, F, gf⟩ := T.law_hit
  exact ⟨f, fd, _, ok_law_hit T F, gf, F.kp, F.binds fun _ _ _ _ _ _ us hl => match us, hl with | [_, _], _ => rfl⟩
end


end My
namespace My
open PySem PySem.Spec PyProof.Rows L2 Dy

abbrev s_law : Stmt := (top 12)
def R_law : Rl := fun ds r => ∃ (ns : List Int), ds = [(D.scr ns)] ∧ (ns.length ≤ 63) ∧ r = .ok (D.bl true)
theorem r_law {ns : List Int} (hpre : ns.length ≤ 63) : R_law [(D.scr ns)] (.ok (D.bl true)) := ⟨ns, rfl, hpre, rfl⟩
theorem sc_law : FnScope ["_law_script", "_law_by", "_law_rows", "_law_k", "_law_found", "_law_instant", "_law_listed", "_law_drawn", "_law_low", "_law_high"] ["_law_script"] (defScope s_law) := ⟨rfl, rfl, rfl, by decide +kernel, rfl, by decide +kernel, by decide +kernel⟩
section
variable {P : Program} {w : World} {K : PySem.W.Frag} {mg : Str → Option Value} {base : Heap}
theorem ok_law (T : Txt K mg) {f : Addr} {fd : FuncData} (F : Fun K "law" "law" s_law f fd) : FnOk P w K mg base (L2.CX P w) 3 f fd ["_law_script"] (spR K (R_law )) := by
  refine fnok_of F sc_law (fun ds r h => ?_) (fun cdv A outer s H E B ds r hr h => ?_)
  · obtain ⟨_, rfl, _⟩ := h
    rfl
  obtain ⟨ns, rfl, hpre, rfl⟩ := h
  refine js_cons (js_setE 1 D.int ((if (cell ns (0 : Int)) < 0 then -(cell ns (0 : Int)) else (cell ns (0 : Int))) % ((10 : Int) ^ ((60 : Int)).toNat)) (jv_mod (jv_callInt (jv_abs (jv_call (fn_law_cell T) (hr.mono (by decide)) (av_cons (jv_v 0 (D.scr ns)) (av_cons jv_int av_nil)) (r_law_cell (by first | decide | omega | (simp only [Dy.cutD, List.length_append, List.length_map, List.length_cons, List.length_nil, List.length_take, List.length_drop]; omega) | (simp_all; done) | (simp_all; omega)))) T.b_abs) T.b_int) (jv_pow jv_int jv_int (by unfold CPow; decide)) (by decide +kernel)) (fun byv h_byv => ?_) sc_law.nd)
  refine js_cons (js_setLE 2 (eQ (eP D.int D.int)) ([] : List (List (Int × Int))) (FL.to (eQ (eP D.int D.int)) ([] : List (List (Int × Int))) (fl_lst av_nil) rfl) (fun rows h_rows => ?_) sc_law.nd)
  refine js_cons (js_overR1 (is := [3]) (n := (2 : Int)) (fun (a : Int) Δ => Δ.set 3 (.val (D.int a))) (fun (i0 : Nat) (rows1 : (List (List (Int × Int)))) => [.val (D.scr ns), .val (D.int byv), .own (rows1.map (eQ (eP D.int D.int))), .un, .un, .un, .un, .un, .un, .un]) (fun (i0 : Nat) (rows1 : (List (List (Int × Int)))) => rows1.length = i0 ∧ ∀ l ∈ rows1, tidyGo (400 + byv) (0 + byv - 1) l = true ∧ l.length ≤ 8) rows jv_int ?tgt ?h0 ⟨.inr rfl, .inr rfl, .inr rfl, .inl rfl, .inl rfl, .inl rfl, .inl rfl, .inl rfl, .inl rfl, .inl rfl, trivial⟩ ?turn ?done (passes_of rfl) rfl T.b_range)
  case tgt => exact tg_name 3 sc_law.nd
  case h0 =>
    try dsimp only
    rw [h_rows]; simp
  case turn =>
    rintro B i0 rows1 hi0 iv0
    try dsimp only at iv0
    have hi : (i0 : Int) < 2 := hi0; obtain ⟨hl, hw⟩ := iv0
    refine js_cons (js_setE 7 (eQ (eP D.int D.int)) (mergedF ((rowF (cell ns ((1 : Int) + ((2 : Int) * (i0 : Int)))) (400 : Int)) ++ (rowF (cell ns ((2 : Int) + ((2 : Int) * (i0 : Int)))) (400 : Int)))) (jv_call (fn_merged T) (hr.mono (by decide)) (av_cons (FL.jv (FL.to (eP D.int D.int) ((rowF (cell ns ((1 : Int) + ((2 : Int) * (i0 : Int)))) (400 : Int)) ++ (rowF (cell ns ((2 : Int) + ((2 : Int) * (i0 : Int)))) (400 : Int))) (fl_cat (JV.lv (jv_call (fn_law_row T) (hr.mono (by decide)) (av_cons (jv_call (fn_law_cell T) (hr.mono (by decide)) (av_cons (jv_v 0 (D.scr ns)) (av_cons (jv_add jv_int (jv_mul jv_int (jv_v 3 (D.int (i0 : Int))) (.inl ⟨by decide, by decide⟩))) av_nil)) (r_law_cell (by first | decide | omega | (simp only [Dy.cutD, List.length_append, List.length_map, List.length_cons, List.length_nil, List.length_take, List.length_drop]; omega) | (simp_all; done) | (simp_all; omega)))) (av_cons jv_int av_nil)) (r_law_row))) (JV.lv (jv_call (fn_law_row T) (hr.mono (by decide)) (av_cons (jv_call (fn_law_cell T) (hr.mono (by decide)) (av_cons (jv_v 0 (D.scr ns)) (av_cons (jv_add jv_int (jv_mul jv_int (jv_v 3 (D.int (i0 : Int))) (.inl ⟨by decide, by decide⟩))) av_nil)) (r_law_cell (by first | decide | omega | (simp only [Dy.cutD, List.length_append, List.length_map, List.length_cons, List.length_nil, List.length_take, List.length_drop]; omega) | (simp_all; done) | (simp_all; omega)))) (av_cons jv_int av_nil)) (r_law_row))) (by have h1 := (rowF_wf (cell ns (1 + 2 * (i0 : Int))) 400).2; have h2 := (rowF_wf (cell ns (2 + 2 * (i0 : Int))) 400).2; simp only [List.length_map]; omega)) (by simp only [List.map_append]))) av_nil) (r_merged (by have h1 := (rowF_wf (cell ns (1 + 2 * (i0 : Int))) 400).2; have h2 := (rowF_wf (cell ns (2 + 2 * (i0 : Int))) 400).2; rw [List.length_append]; omega))) (fun drawn h_drawn => ?_) sc_law.nd)
    have hrw : (rowF (cell ns (1 + 2 * (i0 : Int))) 400 ++ rowF (cell ns (2 + 2 * (i0 : Int))) 400).length ≤ 8 := by have h1 := (rowF_wf (cell ns (1 + 2 * (i0 : Int))) 400).2; have h2 := (rowF_wf (cell ns (2 + 2 * (i0 : Int))) 400).2; rw [List.length_append]; omega
    have wd : tidyF drawn 0 400 = true ∧ drawn.length ≤ 8 := by rw [h_drawn]; exact ⟨merged_tidy ((rowF_wf _ _).1.app (rowF_wf _ _).1), Nat.le_trans (merged_len _) hrw⟩
    refine js_cons (js_appE 2 (eQ (eP D.int D.int)) rows1 (drawn.map (fun (a3 : Int × Int) => ((a3.1 + byv), (a3.2 + byv)))) (jv_tupL (LV.rv (FL.lv (LcV.fl (lc_all (eP D.int D.int) (fun (a3 : Int × Int) => ((a3.1 + byv), (a3.2 + byv))) (lc_compT [("_law_low", 8), ("_law_high", 9)] drawn (eP D.int D.int) (fun (a3 : Int × Int) Δ => ((Δ.set 8 (.val (D.int a3.1))).set 9 (.val (D.int a3.2)))) (fun (a3 : Int × Int) => true) (fun (a3 : Int × Int) => ((eP D.int D.int) ((a3.1 + byv), (a3.2 + byv)))) (jv_v 7 ((eQ (eP D.int D.int)) drawn)) ⟨_, fun s H C cl fp => pg_tup (n := 2) rfl (pgs_cons (pg_name (i := 8) sc_law.nd rfl (by first | exact Or.inl rfl | exact Or.inr rfl)) (pgs_cons (pg_name (i := 9) sc_law.nd rfl (by first | exact Or.inl rfl | exact Or.inr rfl)) pgs_nil)), fun a => gd_tup (gds_cons (gd_name 8) (gds_cons (gd_name 9) gds_nil)) rfl⟩ (fun a3 m3 => rfl) (fun a3 m3 c3 B' s H C cl fp => (JV.to ((eP D.int D.int) ((a3.1 + byv), (a3.2 + byv))) (jv_tup (av_cons (jv_add (jv_v 8 (D.int a3.1)) (jv_v 1 (D.int byv))) (av_cons (jv_add (jv_v 9 (D.int a3.2)) (jv_v 1 (D.int byv))) av_nil))) rfl)) (by first | decide | omega | (simp only [Dy.cutD, List.length_append, List.length_map, List.length_cons, List.length_nil, List.length_take, List.length_drop]; omega) | (simp_all; done) | (simp_all; omega)) rfl sc_law.nd (ok := (show blkC ["_law_script", "_law_by", "_law_rows", "_law_k", "_law_found", "_law_instant", "_law_listed", "_law_drawn", "_law_low", "_law_high"] (defScope s_law) _ [("_law_low", 8), ("_law_high", 9)] = true from by decide +kernel))))))) T.b_tuple) (by first | decide | omega | (simp only [Dy.cutD, List.length_append, List.length_map, List.length_cons, List.length_nil, List.length_take, List.length_drop]; omega) | (simp_all; done) | (simp_all; omega)) (fun rows2 h_rows2 => ?_))
    refine js_nil ⟨rows2, ?_, ⟨.inr rfl, .inr rfl, .inr rfl, .inl rfl, .inl rfl, .inl rfl, .inl rfl, .inl rfl, .inl rfl, .inl rfl, trivial⟩⟩
    try dsimp only
    rw [h_rows2]; refine ⟨by simp [hl], fun l hm => ?_⟩; rcases List.mem_append.mp hm with hm | hm; exact hw l hm; rw [List.mem_singleton.mp hm]; exact ⟨tidy_shift byv wd.1, by rw [List.length_map]; exact wd.2⟩
  case done =>
    rintro rows1 iv0
    try dsimp only at iv0
    have hl2 : rows1.length = 2 := (by have := iv0.1; simpa using this); have t0 := iv0.2 _ (nth_mem (l := rows1) (i := 0) (by omega) (by omega)); have t1 := iv0.2 _ (nth_mem (l := rows1) (i := 1) (by omega) (by omega)); have hgl := gapsF_len (nth rows1 0) byv (byv + 300)
    refine js_cons (js_setE 4 (eQ (eP D.int D.int)) (comF (nth rows1 (0 : Int)) (nth rows1 (1 : Int))) (jv_call (fn_common T) (hr.mono (by decide)) (av_cons (jv_ixL (d := ((eQ (eP D.int D.int)) (nth rows1 (0 : Int)))) (LV.rv (lv_own 2)) jv_int (atI_nth (by first | decide | omega | (simp only [Dy.cutD, List.length_append, List.length_map, List.length_cons, List.length_nil, List.length_take, List.length_drop]; omega) | (simp_all; done) | (simp_all; omega)) (by first | decide | omega | (simp only [Dy.cutD, List.length_append, List.length_map, List.length_cons, List.length_nil, List.length_take, List.length_drop]; omega) | (simp_all; done) | (simp_all; omega)))) (av_cons (jv_ixL (d := ((eQ (eP D.int D.int)) (nth rows1 (1 : Int)))) (LV.rv (lv_own 2)) jv_int (atI_nth (by first | decide | omega | (simp only [Dy.cutD, List.length_append, List.length_map, List.length_cons, List.length_nil, List.length_take, List.length_drop]; omega) | (simp_all; done) | (simp_all; omega)) (by first | decide | omega | (simp only [Dy.cutD, List.length_append, List.length_map, List.length_cons, List.length_nil, List.length_take, List.length_drop]; omega) | (simp_all; done) | (simp_all; omega)))) av_nil)) (r_common (by first | decide | omega | (simp only [Dy.cutD, List.length_append, List.length_map, List.length_cons, List.length_nil, List.length_take, List.length_drop]; omega) | (simp_all; done) | (simp_all; omega)))) (fun found h_found => ?_) sc_law.nd)
    have hF0 := com_tidy _ (nth rows1 0) (nth rows1 1) _ _ (0 + byv - 1) (Nat.le_refl _) t0.1 t1.1 (.inl (Int.le_refl _))
    have hF1 := com_tidy _ (nth rows1 1) (nth rows1 0) _ _ (0 + byv - 1) (Nat.le_refl _) t1.1 t0.1 (.inl (Int.le_refl _))
    have hH0 := fun t => com_hit t _ (nth rows1 0) (nth rows1 1) _ _ (Nat.le_refl _) t0.1 t1.1
    have hH1 := fun t => com_hit t _ (nth rows1 1) (nth rows1 0) _ _ (Nat.le_refl _) t1.1 t0.1
    have hT : tidyF found byv (byv + 1000) = true := by rw [h_found]; show tidyGo (byv + 1000) (byv - 1) _ = true; exact tidy_hi (by omega) (tidy_mono (by omega) hF0)
    have hc : comF (nth rows1 1) (nth rows1 0) = found := by rw [h_found]; exact tidy_ext _ _ _ _ hF1 hF0 fun t => by rw [hH0, hH1, Bool.and_comm]
    have hs : comF (nth rows1 0) (nth rows1 0) = nth rows1 0 := tidy_ext _ _ _ _ (com_tidy _ _ _ _ _ (0 + byv - 1) (Nat.le_refl _) t0.1 t0.1 (.inl (Int.le_refl _))) t0.1 fun t => by rw [com_hit t _ _ _ _ _ (Nat.le_refl _) t0.1 t0.1, Bool.and_self]
    have hgt : tidyGo (byv + 300) (byv - 1) (gapsF (nth rows1 0) byv (byv + 300)) = true := gapsF_tidy t0.1
    have hg : comF (nth rows1 0) (gapsF (nth rows1 0) byv (byv + 300)) = [] := tidy_none (com_tidy _ _ _ _ _ (0 + byv - 1) (Nat.le_refl _) t0.1 hgt (.inl (Int.le_refl _))) fun t => by rw [com_hit t _ _ _ _ _ (Nat.le_refl _) t0.1 hgt, gapsF_hit t0.1]; cases hitF (nth rows1 0) t <;> simp
    refine js_cons (js_if (tv_not (tv_of (jv_call (fn_law_tidy T) (hr.mono (by decide)) (av_cons (jv_v 4 ((eQ (eP D.int D.int)) found)) (av_cons (jv_v 1 (D.int byv)) (av_cons (jv_add (jv_v 1 (D.int byv)) jv_int) av_nil))) (r_law_tidy)))) (fun c1 => ?_) (fun c1 => ?_))
    ·
      refine js_cons (js_ret jv_bl ?_)
      refine congrArg (fun z => Except.ok (D.bl z)) (show true = false from ?_)
      rw [hT] at c1; simp at c1
    ·
      refine js_nil ?_
      refine js_cons (js_overR2 (is := [5]) (lo := byv) (n := (byv + (260 : Int))) (fun (a : Int) Δ => Δ.set 5 (.val (D.int a))) (fun (i1 : Nat) (_ : Unit) => [.val (D.scr ns), .val (D.int byv), .own (rows1.map (eQ (eP D.int D.int))), .un, .val ((eQ (eP D.int D.int)) found), .un, .un, .un, .un, .un]) (fun (i1 : Nat) (_ : Unit) => True) () (jv_v 1 (D.int byv)) (jv_add (jv_v 1 (D.int byv)) jv_int) ?tgt ?h0 ⟨.inr rfl, .inr rfl, .inr rfl, .inl rfl, .inr rfl, .inl rfl, .inl rfl, .inl rfl, .inl rfl, .inl rfl, trivial⟩ ?turn ?done (passes_of rfl) rfl T.b_range)
      case tgt => exact tg_name 5 sc_law.nd
      case h0 =>
        try dsimp only
        all_goals trivial
      case turn =>
        rintro B i1 _ hi1 iv1
        try dsimp only at iv1
        refine js_cons (js_if (tv_ne (jv_call (fn_law_hit T) (hr.mono (by decide)) (av_cons (jv_v 4 ((eQ (eP D.int D.int)) found)) (av_cons (jv_v 5 (D.int (byv + (i1 : Int)))) av_nil)) (r_law_hit)) (jv_and (jv_call (fn_law_hit T) (hr.mono (by decide)) (av_cons (jv_ixL (d := ((eQ (eP D.int D.int)) (nth rows1 (0 : Int)))) (LV.rv (lv_own 2)) jv_int (atI_nth (by first | decide | omega | (simp only [Dy.cutD, List.length_append, List.length_map, List.length_cons, List.length_nil, List.length_take, List.length_drop]; omega) | (simp_all; done) | (simp_all; omega)) (by first | decide | omega | (simp only [Dy.cutD, List.length_append, List.length_map, List.length_cons, List.length_nil, List.length_take, List.length_drop]; omega) | (simp_all; done) | (simp_all; omega)))) (av_cons (jv_v 5 (D.int (byv + (i1 : Int)))) av_nil)) (r_law_hit)) (fun q1 => (jv_one (jv_call (fn_law_hit T) (hr.mono (by decide)) (av_cons (jv_ixL (d := ((eQ (eP D.int D.int)) (nth rows1 (1 : Int)))) (LV.rv (lv_own 2)) jv_int (atI_nth (by first | decide | omega | (simp only [Dy.cutD, List.length_append, List.length_map, List.length_cons, List.length_nil, List.length_take, List.length_drop]; omega) | (simp_all; done) | (simp_all; omega)) (by first | decide | omega | (simp only [Dy.cutD, List.length_append, List.length_map, List.length_cons, List.length_nil, List.length_take, List.length_drop]; omega) | (simp_all; done) | (simp_all; omega)))) (av_cons (jv_v 5 (D.int (byv + (i1 : Int)))) av_nil)) (r_law_hit)))))) (fun c2 => ?_) (fun c2 => ?_))
        ·
          refine js_cons (js_ret jv_bl ?_)
          refine congrArg (fun z => Except.ok (D.bl z)) (show true = false from ?_)
          rw [h_found, hH0] at c2; simp at c2
        ·
          refine js_nil ?_
          refine js_nil ⟨(), ?_, ⟨.inr rfl, .inr rfl, .inr rfl, .inl rfl, .inr rfl, .inl rfl, .inl rfl, .inl rfl, .inl rfl, .inl rfl, trivial⟩⟩
          try dsimp only
          all_goals trivial
      case done =>
        rintro _ iv1
        try dsimp only at iv1
        refine js_cons (js_setLE 6 (eL (eP D.int D.int)) ([(nth rows1 (0 : Int)), (nth rows1 (1 : Int))] : List (List (Int × Int))) (FL.to (eL (eP D.int D.int)) ([(nth rows1 (0 : Int)), (nth rows1 (1 : Int))] : List (List (Int × Int))) (fl_lst (av_cons (FL.jv (fl_list (JV.qv (jv_ixL (d := ((eQ (eP D.int D.int)) (nth rows1 (0 : Int)))) (LV.rv (lv_own 2)) jv_int (atI_nth (by first | decide | omega | (simp only [Dy.cutD, List.length_append, List.length_map, List.length_cons, List.length_nil, List.length_take, List.length_drop]; omega) | (simp_all; done) | (simp_all; omega)) (by first | decide | omega | (simp only [Dy.cutD, List.length_append, List.length_map, List.length_cons, List.length_nil, List.length_take, List.length_drop]; omega) | (simp_all; done) | (simp_all; omega))))) T.b_list)) (av_cons (FL.jv (fl_list (JV.qv (jv_ixL (d := ((eQ (eP D.int D.int)) (nth rows1 (1 : Int)))) (LV.rv (lv_own 2)) jv_int (atI_nth (by first | decide | omega | (simp only [Dy.cutD, List.length_append, List.length_map, List.length_cons, List.length_nil, List.length_take, List.length_drop]; omega) | (simp_all; done) | (simp_all; omega)) (by first | decide | omega | (simp only [Dy.cutD, List.length_append, List.length_map, List.length_cons, List.length_nil, List.length_take, List.length_drop]; omega) | (simp_all; done) | (simp_all; omega))))) T.b_list)) av_nil))) rfl) (fun listed h_listed => ?_) sc_law.nd)
        have hl0 : nth listed 0 = nth rows1 0 := by rw [h_listed]; rfl
        have hl1 : nth listed 1 = nth rows1 1 := by rw [h_listed]; rfl
        refine js_cons (js_if (tv_w (wv_or (tv_neE hr (pyE_Q (pyE_pair pyE_int pyE_int)) (by decide) (jv_call (fn_common T) (hr.mono (by decide)) (av_cons (jv_ixL (d := ((eQ (eP D.int D.int)) (nth rows1 (1 : Int)))) (LV.rv (lv_own 2)) jv_int (atI_nth (by first | decide | omega | (simp only [Dy.cutD, List.length_append, List.length_map, List.length_cons, List.length_nil, List.length_take, List.length_drop]; omega) | (simp_all; done) | (simp_all; omega)) (by first | decide | omega | (simp only [Dy.cutD, List.length_append, List.length_map, List.length_cons, List.length_nil, List.length_take, List.length_drop]; omega) | (simp_all; done) | (simp_all; omega)))) (av_cons (jv_ixL (d := ((eQ (eP D.int D.int)) (nth rows1 (0 : Int)))) (LV.rv (lv_own 2)) jv_int (atI_nth (by first | decide | omega | (simp only [Dy.cutD, List.length_append, List.length_map, List.length_cons, List.length_nil, List.length_take, List.length_drop]; omega) | (simp_all; done) | (simp_all; omega)) (by first | decide | omega | (simp only [Dy.cutD, List.length_append, List.length_map, List.length_cons, List.length_nil, List.length_take, List.length_drop]; omega) | (simp_all; done) | (simp_all; omega)))) av_nil)) (r_common (by first | decide | omega | (simp only [Dy.cutD, List.length_append, List.length_map, List.length_cons, List.length_nil, List.length_take, List.length_drop]; omega) | (simp_all; done) | (simp_all; omega)))) (jv_v 4 ((eQ (eP D.int D.int)) found))) (fun q2 => (wv_or1 (tv_neE hr (pyE_Q (pyE_pair pyE_int pyE_int)) (by decide) (jv_call (fn_common_L T) (hr.mono (by decide)) (av_cons (jv_ixL (d := ((eL (eP D.int D.int)) (nth listed (0 : Int)))) (LV.rv (lv_own 6)) jv_int (atI_nth (by first | decide | omega | (simp only [Dy.cutD, List.length_append, List.length_map, List.length_cons, List.length_nil, List.length_take, List.length_drop]; omega) | (simp_all; done) | (simp_all; omega)) (by first | decide | omega | (simp only [Dy.cutD, List.length_append, List.length_map, List.length_cons, List.length_nil, List.length_take, List.length_drop]; omega) | (simp_all; done) | (simp_all; omega)))) (av_cons (jv_ixL (d := ((eL (eP D.int D.int)) (nth listed (1 : Int)))) (LV.rv (lv_own 6)) jv_int (atI_nth (by first | decide | omega | (simp only [Dy.cutD, List.length_append, List.length_map, List.length_cons, List.length_nil, List.length_take, List.length_drop]; omega) | (simp_all; done) | (simp_all; omega)) (by first | decide | omega | (simp only [Dy.cutD, List.length_append, List.length_map, List.length_cons, List.length_nil, List.length_take, List.length_drop]; omega) | (simp_all; done) | (simp_all; omega)))) av_nil)) (r_common_L (by first | decide | omega | (simp only [Dy.cutD, List.length_append, List.length_map, List.length_cons, List.length_nil, List.length_take, List.length_drop]; omega) | (simp_all; done) | (simp_all; omega)))) (jv_v 4 ((eQ (eP D.int D.int)) found))))))) (fun c3 => ?_) (fun c3 => ?_))
        ·
          refine js_cons (js_ret jv_bl ?_)
          refine congrArg (fun z => Except.ok (D.bl z)) (show true = false from ?_)
          rw [hl0, hl1, hc, ← h_found] at c3; simp at c3
        ·
          refine js_nil ?_
          refine js_cons (js_if (tv_neLE hr (pyE_L (pyE_pair pyE_int pyE_int)) (by decide) (lv_own 6) (FL.lv (FL.to (eL (eP D.int D.int)) ([(nth rows1 (0 : Int)), (nth rows1 (1 : Int))] : List (List (Int × Int))) (fl_lst (av_cons (FL.jv (fl_list (JV.qv (jv_ixL (d := ((eQ (eP D.int D.int)) (nth rows1 (0 : Int)))) (LV.rv (lv_own 2)) jv_int (atI_nth (by first | decide | omega | (simp only [Dy.cutD, List.length_append, List.length_map, List.length_cons, List.length_nil, List.length_take, List.length_drop]; omega) | (simp_all; done) | (simp_all; omega)) (by first | decide | omega | (simp only [Dy.cutD, List.length_append, List.length_map, List.length_cons, List.length_nil, List.length_take, List.length_drop]; omega) | (simp_all; done) | (simp_all; omega))))) T.b_list)) (av_cons (FL.jv (fl_list (JV.qv (jv_ixL (d := ((eQ (eP D.int D.int)) (nth rows1 (1 : Int)))) (LV.rv (lv_own 2)) jv_int (atI_nth (by first | decide | omega | (simp only [Dy.cutD, List.length_append, List.length_map, List.length_cons, List.length_nil, List.length_take, List.length_drop]; omega) | (simp_all; done) | (simp_all; omega)) (by first | decide | omega | (simp only [Dy.cutD, List.length_append, List.length_map, List.length_cons, List.length_nil, List.length_take, List.length_drop]; omega) | (simp_all; done) | (simp_all; omega))))) T.b_list)) av_nil))) rfl))) (fun c4 => ?_) (fun c4 => ?_))
          ·
            refine js_cons (js_ret jv_bl ?_)
            refine congrArg (fun z => Except.ok (D.bl z)) (show true = false from ?_)
            rw [h_listed] at c4; simp at c4
          ·
            refine js_nil ?_
            refine js_cons (js_ret (jv_and (jv_eqE hr (pyE_Q (pyE_pair pyE_int pyE_int)) (by decide) (jv_call (fn_common T) (hr.mono (by decide)) (av_cons (jv_ixL (d := ((eQ (eP D.int D.int)) (nth rows1 (0 : Int)))) (LV.rv (lv_own 2)) jv_int (atI_nth (by first | decide | omega | (simp only [Dy.cutD, List.length_append, List.length_map, List.length_cons, List.length_nil, List.length_take, List.length_drop]; omega) | (simp_all; done) | (simp_all; omega)) (by first | decide | omega | (simp only [Dy.cutD, List.length_append, List.length_map, List.length_cons, List.length_nil, List.length_take, List.length_drop]; omega) | (simp_all; done) | (simp_all; omega)))) (av_cons (jv_ixL (d := ((eQ (eP D.int D.int)) (nth rows1 (0 : Int)))) (LV.rv (lv_own 2)) jv_int (atI_nth (by first | decide | omega | (simp only [Dy.cutD, List.length_append, List.length_map, List.length_cons, List.length_nil, List.length_take, List.length_drop]; omega) | (simp_all; done) | (simp_all; omega)) (by first | decide | omega | (simp only [Dy.cutD, List.length_append, List.length_map, List.length_cons, List.length_nil, List.length_take, List.length_drop]; omega) | (simp_all; done) | (simp_all; omega)))) av_nil)) (r_common (by first | decide | omega | (simp only [Dy.cutD, List.length_append, List.length_map, List.length_cons, List.length_nil, List.length_take, List.length_drop]; omega) | (simp_all; done) | (simp_all; omega)))) (jv_ixL (d := ((eQ (eP D.int D.int)) (nth rows1 (0 : Int)))) (LV.rv (lv_own 2)) jv_int (atI_nth (by first | decide | omega | (simp only [Dy.cutD, List.length_append, List.length_map, List.length_cons, List.length_nil, List.length_take, List.length_drop]; omega) | (simp_all; done) | (simp_all; omega)) (by first | decide | omega | (simp only [Dy.cutD, List.length_append, List.length_map, List.length_cons, List.length_nil, List.length_take, List.length_drop]; omega) | (simp_all; done) | (simp_all; omega))))) (fun q3 => (jv_one (jv_eqNT hr (PyE.toN (pyE_pair pyE_int pyE_int)) (by decide) (jv_call (fn_common T) (hr.mono (by decide)) (av_cons (jv_ixL (d := ((eQ (eP D.int D.int)) (nth rows1 (0 : Int)))) (LV.rv (lv_own 2)) jv_int (atI_nth (by first | decide | omega | (simp only [Dy.cutD, List.length_append, List.length_map, List.length_cons, List.length_nil, List.length_take, List.length_drop]; omega) | (simp_all; done) | (simp_all; omega)) (by first | decide | omega | (simp only [Dy.cutD, List.length_append, List.length_map, List.length_cons, List.length_nil, List.length_take, List.length_drop]; omega) | (simp_all; done) | (simp_all; omega)))) (av_cons (jv_call (fn_gaps T) (hr.mono (by decide)) (av_cons (jv_ixL (d := ((eQ (eP D.int D.int)) (nth rows1 (0 : Int)))) (LV.rv (lv_own 2)) jv_int (atI_nth (by first | decide | omega | (simp only [Dy.cutD, List.length_append, List.length_map, List.length_cons, List.length_nil, List.length_take, List.length_drop]; omega) | (simp_all; done) | (simp_all; omega)) (by first | decide | omega | (simp only [Dy.cutD, List.length_append, List.length_map, List.length_cons, List.length_nil, List.length_take, List.length_drop]; omega) | (simp_all; done) | (simp_all; omega)))) (av_cons (jv_v 1 (D.int byv)) (av_cons (jv_add (jv_v 1 (D.int byv)) jv_int) av_nil))) (r_gaps (by first | decide | omega | (simp only [Dy.cutD, List.length_append, List.length_map, List.length_cons, List.length_nil, List.length_take, List.length_drop]; omega) | (simp_all; done) | (simp_all; omega)))) av_nil)) (r_common (by first | decide | omega | (simp only [Dy.cutD, List.length_append, List.length_map, List.length_cons, List.length_nil, List.length_take, List.length_drop]; omega) | (simp_all; done) | (simp_all; omega)))) (jv_tup av_nil))))) ?_)
            refine congrArg (fun z => Except.ok (D.bl z)) (show true = ((decide ((comF (nth rows1 (0 : Int)) (nth rows1 (0 : Int))) = (nth rows1 (0 : Int)))) && (decide ((comF (nth rows1 (0 : Int)) (gapsF (nth rows1 (0 : Int)) byv (byv + (300 : Int)))) = []))) from ?_)
            rw [hs, hg]; simp
theorem fn_law (T : Txt K mg) : Fn P w K mg base 3 "law" (R_law ) := by
  obtain ⟨f, fd, F, gf⟩ := T.law
  exact ⟨f, fd, _, ok_law T F, gf, F.kp, F.binds fun _ _ _ _ _ _ us hl => match us, hl with | [_], _ => rfl⟩
end


def D_merged : He.DefD := ⟨("merged", none), "merged", "merged", defArgs s_merged, defBody s_merged, defScope s_merged, [], []⟩
def D_cut : He.DefD := ⟨("cut", none), "cut", "cut", defArgs s_cut, defBody s_cut, defScope s_cut, [], []⟩
def D_gaps : He.DefD := ⟨("gaps", none), "gaps", "gaps", defArgs s_gaps, defBody s_gaps, defScope s_gaps, [], []⟩
def D_common : He.DefD := ⟨("common", none), "common", "common", defArgs s_common, defBody s_common, defScope s_common, [], []⟩
def D_law_cell : He.DefD := ⟨("_law_cell", none), "_law_cell", "_law_cell", defArgs s_law_cell, defBody s_law_cell, defScope s_law_cell, [], []⟩
def D_law_digits : He.DefD := ⟨("_law_digits", none), "_law_digits", "_law_digits", defArgs s_law_digits, defBody s_law_digits, defScope s_law_digits, [], []⟩
def D_law_rich : He.DefD := ⟨("_law_rich", none), "_law_rich", "_law_rich", defArgs s_law_rich, defBody s_law_rich, defScope s_law_rich, [], []⟩
def D_law_row : He.DefD := ⟨("_law_row", none), "_law_row", "_law_row", defArgs s_law_row, defBody s_law_row, defScope s_law_row, [], []⟩
def D_law_tidy : He.DefD := ⟨("_law_tidy", none), "_law_tidy", "_law_tidy", defArgs s_law_tidy, defBody s_law_tidy, defScope s_law_tidy, [], []⟩
def D_law_hit : He.DefD := ⟨("_law_hit", none), "_law_hit", "_law_hit", defArgs s_law_hit, defBody s_law_hit, defScope s_law_hit, [], []⟩
def D_law : He.DefD := ⟨("law", none), "law", "law", defArgs s_law, defBody s_law, defScope s_law, [], []⟩
def fnL : List He.DefD := [D_merged, D_cut, D_gaps, D_common, D_law_cell, D_law_digits, D_law_rich, D_law_row, D_law_tidy, D_law_hit, D_law]
def faL : List He.Fa := [.glo "merged", .glo "cut", .glo "gaps", .glo "common", .glo "_law_cell", .glo "_law_digits", .glo "_law_rich", .glo "_law_row", .glo "_law_tidy", .glo "_law_hit", .glo "law", .free "abs", .free "int", .free "isinstance", .free "len", .free "list", .free "max", .free "min", .free "range", .free "sorted", .free "tuple"]
abbrev RwX : PySem.W.OpenRow := PySem.W.OpenLaw.row PySem.Challenge.rw_dayspread_k22_common_spans
abbrev hkX : PySem.W.Hook := He.hookD 5 faL fnL
def obX (s : PySem.W.SharedT) : He.AlD := He.obsDG 5 faL fnL (HandSHeadRun.getT s)
theorem obX_eq (s : PySem.W.SharedT) : obX s = hkX.obs s.abs := He.obsDG_eq (HandSHeadRun.getT_eq s)
def othersX : List Str := ["__name__", "merged", "cut", "gaps", "common", "_law_cell", "_law_digits", "_law_rich", "_law_row", "_law_tidy", "_law_hit"]
theorem runX (w : World) : HandSHeadRun.RunEq RwX (PySem.W.view RwX.prog [12]) hkX obX 4000 othersX w := by
  intro os
  kernel_rfl
theorem txtX {K : PySem.W.Frag} {h : Heap} {mg : Str → Option Value} (X : K.In h) (G : h.Ns mainGlobals mg) (c : He.SaysD faL fnL K) : Txt K mg where
  merged := by
    obtain ⟨fd, F⟩ := c.def_ 0 (d := D_merged) rfl
    exact ⟨_, fd, fun_ofD F, He.glo_ok X G (c.fact 0 (f := .glo "merged") rfl)⟩
  cut := by
    obtain ⟨fd, F⟩ := c.def_ 1 (d := D_cut) rfl
    exact ⟨_, fd, fun_ofD F, He.glo_ok X G (c.fact 1 (f := .glo "cut") rfl)⟩
  gaps := by
    obtain ⟨fd, F⟩ := c.def_ 2 (d := D_gaps) rfl
    exact ⟨_, fd, fun_ofD F, He.glo_ok X G (c.fact 2 (f := .glo "gaps") rfl)⟩
  common := by
    obtain ⟨fd, F⟩ := c.def_ 3 (d := D_common) rfl
    exact ⟨_, fd, fun_ofD F, He.glo_ok X G (c.fact 3 (f := .glo "common") rfl)⟩
  law_cell := by
    obtain ⟨fd, F⟩ := c.def_ 4 (d := D_law_cell) rfl
    exact ⟨_, fd, fun_ofD F, He.glo_ok X G (c.fact 4 (f := .glo "_law_cell") rfl)⟩
  law_digits := by
    obtain ⟨fd, F⟩ := c.def_ 5 (d := D_law_digits) rfl
    exact ⟨_, fd, fun_ofD F, He.glo_ok X G (c.fact 5 (f := .glo "_law_digits") rfl)⟩
  law_rich := by
    obtain ⟨fd, F⟩ := c.def_ 6 (d := D_law_rich) rfl
    exact ⟨_, fd, fun_ofD F, He.glo_ok X G (c.fact 6 (f := .glo "_law_rich") rfl)⟩
  law_row := by
    obtain ⟨fd, F⟩ := c.def_ 7 (d := D_law_row) rfl
    exact ⟨_, fd, fun_ofD F, He.glo_ok X G (c.fact 7 (f := .glo "_law_row") rfl)⟩
  law_tidy := by
    obtain ⟨fd, F⟩ := c.def_ 8 (d := D_law_tidy) rfl
    exact ⟨_, fd, fun_ofD F, He.glo_ok X G (c.fact 8 (f := .glo "_law_tidy") rfl)⟩
  law_hit := by
    obtain ⟨fd, F⟩ := c.def_ 9 (d := D_law_hit) rfl
    exact ⟨_, fd, fun_ofD F, He.glo_ok X G (c.fact 9 (f := .glo "_law_hit") rfl)⟩
  law := by
    obtain ⟨fd, F⟩ := c.def_ 10 (d := D_law) rfl
    exact ⟨_, fd, fun_ofD F, He.glo_ok X G (c.fact 10 (f := .glo "law") rfl)⟩
  b_abs := He.free_ok X G (c.fact 11 (f := .free "abs") rfl)
  b_int := He.free_ok X G (c.fact 12 (f := .free "int") rfl)
  b_isinstance := He.free_ok X G (c.fact 13 (f := .free "isinstance") rfl)
  b_len := He.free_ok X G (c.fact 14 (f := .free "len") rfl)
  b_list := He.free_ok X G (c.fact 15 (f := .free "list") rfl)
  b_max := He.free_ok X G (c.fact 16 (f := .free "max") rfl)
  b_min := He.free_ok X G (c.fact 17 (f := .free "min") rfl)
  b_range := He.free_ok X G (c.fact 18 (f := .free "range") rfl)
  b_sorted := He.free_ok X G (c.fact 19 (f := .free "sorted") rfl)
  b_tuple := He.free_ok X G (c.fact 20 (f := .free "tuple") rfl)
theorem atX {P : Program} {w : World} {K : PySem.W.Frag} {h : Heap} {mg : Str → Option Value} {f : Addr} (X : K.In h) (G : h.Ns mainGlobals mg) (hfa : mg ("law" : Str) = some (.ref f)) (c : He.SaysD faL fnL K) :
    ∃ fd : FuncData, (∀ (s : Shared) (v : Value), BindsTo s fd ⟨[v], []⟩ [("_law_script", v)]) ∧ ∀ base : Heap, K.In base → base.Ns mainGlobals mg → FnOk P w K mg base (L2.CX P w) 3 f fd ["_law_script"] (spR K R_law) := by
  obtain ⟨fd, F⟩ := c.def_ 10 (d := D_law) rfl
  have e := hfa.symm.trans (He.glo_ok X G (c.fact 10 (f := .glo "law") rfl))
  cases e
  have b := FunD.bindsA (ps := ["_law_script"]) F fun _ _ _ _ _ _ us hl => match us, hl with | [_], _ => rfl
  exact ⟨fd, fun s v => b s [v] rfl, fun base _ _ => ok_law (txtX X G c) (fun_ofD F)⟩
end My
open PySem PySem.W PySem.Calls PyProof.Rows
set_option maxHeartbeats 0 in
theorem PySem.Challenge.cw_dayspread_k22_common_spans_holds : PySem.Challenge.rw_dayspread_k22_common_spans.Holds := by
  w_on; o_law
  refine HandSHeadRun.head_any (r := OpenLaw.row PySem.Challenge.rw_dayspread_k22_common_spans) (q := view (OpenLaw.row PySem.Challenge.rw_dayspread_k22_common_spans).prog [12]) (H := My.hkX) (ob := My.obX) (M := 4000) (loose := My.othersX) (d := HandSHeadRun.topDef (OpenLaw.row PySem.Challenge.rw_dayspread_k22_common_spans).prog 12) (kwd := []) My.obX_eq
    (by kernel_rfl) (fun s => by kernel_rfl) My.runX (by kernel_rfl) (by kernel_rfl) (by kernel_rfl) (by rfl) (by first | assumption | decide +kernel) (by decide +kernel) ⟨rfl, rfl, rfl, rfl, rfl, by decide +kernel⟩ ?hw ?hc
  case hw => w_witness2
  case hc =>
    refine Dy.law_end (l := PySem.Challenge.rw_dayspread_k22_common_spans) (k := 3) (x := "_law_script") (R := fun _ => My.R_law) rfl (by kernel_rfl) ⟨rfl, by decide, by decide⟩ ?F
    intro w mg fa h Y G hmg0
    obtain ⟨K, KX, c⟩ := Y
    have hmg : mg ("law" : PySem.Str) = some (.ref fa) := by
      have e : (HandSHeadRun.topDef (OpenLaw.row PySem.Challenge.rw_dayspread_k22_common_spans).prog 12).name = ("law" : PySem.Str) := by kernel_rfl
      rw [← e]
      exact hmg0
    obtain ⟨fd, hb, hF⟩ := My.atX (P := (PySem.Challenge.rw_dayspread_k22_common_spans).prog) (w := w) KX G hmg c
    exact ⟨K, fd, KX, hb, fun ns hl => My.r_law hl, hF⟩
