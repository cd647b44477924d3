import PyProof.Rows.All
import Wide.All
import OpenK.AllK
import Wide.FinOn
import HandS.ForMost
import HandS.ForExc
import HandS.Defaults
import HandS.CallSlots
import HandS.Flow
import PyProof.LongRange
import HandS.IsInst
import HandS.Style
import HandS.Deep
import HandS.SortRule
import KE.KTupSum
import HandS.TupAny
import HandS.ExcValue
import HandS.MakeKwOnly
import HandS.Gcd
import HandS.TryOnly
import HandS.HeadHook1
import HandS.HeadHook2
import HandS.ExcIs
import HandS.SlotsOwn
import HandS.SortInts
import KE.GoesEnum
import HandS.Iter
import KE.KSortTupAny
import PyProof.InstEq
import HandS.TryMany
import PyProof.Rows.SortStr
import KE.KDictSum
import HandS.Walk
import HandS.More
import HandS.Head0
import HandS.Head1
import HandS.Head2
import HandS.Head3
import HandS.HeadEnd
import HandS.HeadHook3
import HandS.HeadHook4
import HandS.HeadNt
import PySem.Challenge.RW_dayspread_k23_instants_of_a_span_set
set_option Elab.async false
set_option linter.all false
set_option maxRecDepth 100000
set_option maxHeartbeats 4000000
namespace Dy
open PySem PySem.Spec PyProof.Rows L2
/-- a value as plain data -/
inductive D where
  | non | bl (b : Bool) | int (i : Int) | str (s : Str) | tup (xs : List D) | lst (xs : List D) | scr (ns : List Int) | obj (C : Addr) (ns : List Str) (xs : List D) | adr (a : Addr) | dic (ks : List Key) (xs : List D)
/-- what a dict with texts or numbers as keys holds -/
def dkv (ks : List Key) (vs : List V) : List (Key × V) := ks.zip vs
structure Exn where
  C : Addr
  ns : List Str
  xs : List D
def RdT (K : PySem.W.Frag) (O : Addr → Prop) (H : Hp) (a : Addr) (vs : List V) : Prop := (¬ O a ∧ SqT K H a vs) ∨ ∀ H', SqT K H' a vs
def RdL (K : PySem.W.Frag) (O : Addr → Prop) (H : Hp) (a : Addr) (vs : List V) : Prop := (¬ O a ∧ SqL K H a vs) ∨ ∀ H', SqL K H' a vs
mutual
def Rep (K : PySem.W.Frag) (O : Addr → Prop) (H : Hp) : D → V → Prop
  | .non, v => v = .non
  | .bl b, v => v = .bl b
  | .int i, v => v = .int i
  | .str s, v => v = .str s
  | .tup xs, v => ∃ a vs, v = .ref a ∧ RdT K O H a vs ∧ Reps K O H xs vs
  | .lst xs, v => ∃ a vs, v = .ref a ∧ ¬ O a ∧ H a = some (.lst vs) ∧ Reps K O H xs vs
  | .scr ns, v => ∃ a, v = .ref a ∧ RdL K O H a (ns.map V.int)
  | .obj C ns xs, v => ∃ a dx vs, v = .ref a ∧ ¬ O a ∧ H a = some (.ins C dx (ns.zip vs)) ∧ ns.length = xs.length ∧ Reps K O H xs vs
  | .adr a, v => v = .ref a
  | .dic ks xs, v => ∃ a vs, v = .ref a ∧ ¬ O a ∧ Rd H a (.dK (dkv ks vs)) ∧ ks.length = xs.length ∧ Reps K O H xs vs
def Reps (K : PySem.W.Frag) (O : Addr → Prop) (H : Hp) : List D → List V → Prop
  | [], vs => vs = []
  | d :: ds, vs => ∃ v ws, vs = v :: ws ∧ Rep K O H d v ∧ Reps K O H ds ws
end
section
variable {K : PySem.W.Frag} {O O' : Addr → Prop} {H H' : Hp}
/-- kept but for what is owned -/
def SameO (O : Addr → Prop) (H H' : Hp) : Prop := ∀ a o, ¬ O a → H a = some o → H' a = some o
theorem Same.o (h : Same H H') : SameO O H H' := fun a o _ e => h a o e
theorem sqT_same {a : Addr} {vs : List V} (h : ∀ o, H a = some o → H' a = some o) (q : SqT K H a vs) : SqT K H' a vs := by
  rcases q with (q | ⟨o, q⟩) | q
  · exact .inl (.inl (h _ q))
  · exact .inl (.inr ⟨o, h _ q⟩)
  · exact .inr q
theorem sqL_same {a : Addr} {vs : List V} (h : ∀ o, H a = some o → H' a = some o) (q : SqL K H a vs) : SqL K H' a vs := by
  rcases q with (q | ⟨o, q⟩) | q
  · exact .inl (.inl (h _ q))
  · exact .inl (.inr ⟨o, h _ q⟩)
  · exact .inr q
theorem RdT.mono {a : Addr} {vs : List V} (s : SameO O H H') (ho : ∀ a, O' a → O a) (h : RdT K O H a vs) : RdT K O' H' a vs := by
  rcases h with ⟨n, h⟩ | h
  · exact .inl ⟨fun z => n (ho a z), sqT_same (fun o e => s a o n e) h⟩
  · exact .inr h
theorem RdL.mono {a : Addr} {vs : List V} (s : SameO O H H') (ho : ∀ a, O' a → O a) (h : RdL K O H a vs) : RdL K O' H' a vs := by
  rcases h with ⟨n, h⟩ | h
  · exact .inl ⟨fun z => n (ho a z), sqL_same (fun o e => s a o n e) h⟩
  · exact .inr h
theorem RdT.sq {a : Addr} {vs : List V} (h : RdT K O H a vs) : SqT K H a vs := by
  rcases h with ⟨_, h⟩ | h
  · exact h
  · exact h H
theorem RdL.sq {a : Addr} {vs : List V} (h : RdL K O H a vs) : SqL K H a vs := by
  rcases h with ⟨_, h⟩ | h
  · exact h
  · exact h H
mutual
theorem Rep.mono (s : SameO O H H') (ho : ∀ a, O' a → O a) : ∀ (d : D) (v : V), Rep K O H d v → Rep K O' H' d v
  | .non, _, h => by unfold Rep at h ⊢; exact h
  | .bl _, _, h => by unfold Rep at h ⊢; exact h
  | .int _, _, h => by unfold Rep at h ⊢; exact h
  | .str _, _, h => by unfold Rep at h ⊢; exact h
  | .tup xs, _, h => by
    unfold Rep at h ⊢
    obtain ⟨a, vs, e, r, q⟩ := h
    exact ⟨a, vs, e, r.mono s ho, Reps.mono s ho xs vs q⟩
  | .lst xs, _, h => by
    unfold Rep at h ⊢
    obtain ⟨a, vs, e, n, r, q⟩ := h
    exact ⟨a, vs, e, fun z => n (ho a z), s a _ n r, Reps.mono s ho xs vs q⟩
  | .scr ns, _, h => by
    unfold Rep at h ⊢
    obtain ⟨a, e, r⟩ := h
    exact ⟨a, e, r.mono s ho⟩
  | .obj C ns xs, _, h => by
    unfold Rep at h ⊢
    obtain ⟨a, dx, vs, e, n, r, l, q⟩ := h
    exact ⟨a, dx, vs, e, fun z => n (ho a z), s a _ n r, l, Reps.mono s ho xs vs q⟩
  | .adr a, _, h => by unfold Rep at h ⊢; exact h
  | .dic ks xs, _, h => by
    unfold Rep at h ⊢
    obtain ⟨a, vs, e, n, r, l, q⟩ := h
    exact ⟨a, vs, e, fun z => n (ho a z), r.elim (fun r => .inl (s a _ n r)) (fun ⟨o, r⟩ => .inr ⟨o, s a _ n r⟩), l, Reps.mono s ho xs vs q⟩
theorem Reps.mono (s : SameO O H H') (ho : ∀ a, O' a → O a) : ∀ (ds : List D) (vs : List V), Reps K O H ds vs → Reps K O' H' ds vs
  | [], _, h => by unfold Reps at h ⊢; exact h
  | d :: ds, _, h => by
    unfold Reps at h ⊢
    obtain ⟨v, ws, e, r, q⟩ := h
    exact ⟨v, ws, e, Rep.mono s ho d v r, Reps.mono s ho ds ws q⟩
end
theorem Rep.up (s : Same H H') {d : D} {v : V} (h : Rep K O H d v) : Rep K O H' d v := Rep.mono (fun a o _ e => s a o e) (fun _ z => z) d v h
theorem Reps.up (s : Same H H') {d : List D} {v : List V} (h : Reps K O H d v) : Reps K O H' d v := Reps.mono (fun a o _ e => s a o e) (fun _ z => z) d v h
theorem Rep.less (ho : ∀ a, O' a → O a) {d : D} {v : V} (h : Rep K O H d v) : Rep K O' H d v := Rep.mono (fun _ _ _ e => e) ho d v h
theorem Reps.less (ho : ∀ a, O' a → O a) {d : List D} {v : List V} (h : Reps K O H d v) : Reps K O' H d v := Reps.mono (fun _ _ _ e => e) ho d v h
theorem Reps.len : ∀ {ds : List D} {vs : List V}, Reps K O H ds vs → ds.length = vs.length
  | [], vs, h => by unfold Reps at h; subst h; rfl
  | d :: ds, vs, h => by
    unfold Reps at h
    obtain ⟨v, ws, rfl, _, q⟩ := h
    simp [Reps.len q]
theorem Reps.get : ∀ {ds : List D} {vs : List V} {i : Nat} {d : D}, Reps K O H ds vs → ds[i]? = some d → ∃ v, vs[i]? = some v ∧ Rep K O H d v
  | [], vs, i, d, h, e => by simp at e
  | d' :: ds, vs, i, d, h, e => by
    unfold Reps at h
    obtain ⟨v, ws, rfl, r, q⟩ := h
    cases i with
    | zero =>
      simp at e
      subst e
      exact ⟨v, rfl, r⟩
    | succ i =>
      simp at e
      obtain ⟨v', e1, e2⟩ := Reps.get q e
      exact ⟨v', by simpa using e1, e2⟩
theorem Reps.nil : Reps K O H [] [] := by unfold Reps; rfl
theorem Reps.cons {d : D} {v : V} {ds : List D} {vs : List V} (r : Rep K O H d v) (q : Reps K O H ds vs) : Reps K O H (d :: ds) (v :: vs) := by
  unfold Reps
  exact ⟨v, vs, rfl, r, q⟩
theorem Reps.nil_inv {vs : List V} (h : Reps K O H [] vs) : vs = [] := by unfold Reps at h; exact h
theorem Reps.cons_inv {d : D} {ds : List D} {vs : List V} (h : Reps K O H (d :: ds) vs) : ∃ v ws, vs = v :: ws ∧ Rep K O H d v ∧ Reps K O H ds ws := by unfold Reps at h; exact h
theorem Reps.app : ∀ {ds es : List D} {vs ws : List V}, Reps K O H ds vs → Reps K O H es ws → Reps K O H (ds ++ es) (vs ++ ws)
  | [], es, vs, ws, h, q => by
    rw [Reps.nil_inv h]
    exact q
  | d :: ds, es, vs, ws, h, q => by
    obtain ⟨v, vs', rfl, r, h'⟩ := Reps.cons_inv h
    exact Reps.cons r (Reps.app h' q)
theorem Reps.take : ∀ (n : Nat) {ds : List D} {vs : List V}, Reps K O H ds vs → Reps K O H (ds.take n) (vs.take n)
  | 0, ds, vs, h => by simp; exact Reps.nil
  | n + 1, [], vs, h => by rw [Reps.nil_inv h]; simp; exact Reps.nil
  | n + 1, d :: ds, vs, h => by
    obtain ⟨v, vs', rfl, r, h'⟩ := Reps.cons_inv h
    exact Reps.cons r (Reps.take n h')
theorem Reps.drop : ∀ (n : Nat) {ds : List D} {vs : List V}, Reps K O H ds vs → Reps K O H (ds.drop n) (vs.drop n)
  | 0, ds, vs, h => h
  | n + 1, [], vs, h => by rw [Reps.nil_inv h]; simp; exact Reps.nil
  | n + 1, d :: ds, vs, h => by
    obtain ⟨v, vs', rfl, r, h'⟩ := Reps.cons_inv h
    exact Reps.drop n h'
theorem Reps.set : ∀ (n : Nat) {ds : List D} {vs : List V} {d : D} {v : V}, Reps K O H ds vs → Rep K O H d v → Reps K O H (ds.set n d) (vs.set n v)
  | n, [], vs, d, v, h, r => by rw [Reps.nil_inv h]; simp; exact Reps.nil
  | 0, d' :: ds, vs, d, v, h, r => by
    obtain ⟨v', vs', rfl, r', h'⟩ := Reps.cons_inv h
    exact Reps.cons r h'
  | n + 1, d' :: ds, vs, d, v, h, r => by
    obtain ⟨v', vs', rfl, r', h'⟩ := Reps.cons_inv h
    exact Reps.cons r' (Reps.set n h' r)
theorem Reps.rev {ds : List D} {vs : List V} (h : Reps K O H ds vs) : Reps K O H ds.reverse vs.reverse := by
  induction ds generalizing vs with
  | nil => rw [Reps.nil_inv h]; exact Reps.nil
  | cons d ds ih =>
    obtain ⟨v, vs', rfl, r, h'⟩ := Reps.cons_inv h
    rw [List.reverse_cons, List.reverse_cons]
    exact Reps.app (ih h') (Reps.cons r Reps.nil)
theorem reps_ints : ∀ {ns : List Int} {vs : List V}, Reps K O H (ns.map D.int) vs → vs = ns.map V.int
  | [], vs, h => Reps.nil_inv h
  | n :: ns, vs, h => by
    obtain ⟨v, vs', rfl, r, h'⟩ := Reps.cons_inv h
    unfold Rep at r
    rw [r, reps_ints h']
    rfl
theorem reps_of_ints : ∀ {ns : List Int}, Reps K O H (ns.map D.int) (ns.map V.int)
  | [] => Reps.nil
  | n :: ns => Reps.cons (by unfold Rep; rfl) reps_of_ints
theorem rep_int {i : Int} {v : V} (h : Rep K O H (.int i) v) : v = .int i := by unfold Rep at h; exact h
theorem rep_bl {i : Bool} {v : V} (h : Rep K O H (.bl i) v) : v = .bl i := by unfold Rep at h; exact h
theorem rep_str {i : Str} {v : V} (h : Rep K O H (.str i) v) : v = .str i := by unfold Rep at h; exact h
theorem rep_non {v : V} (h : Rep K O H .non v) : v = .non := by unfold Rep at h; exact h
theorem rep_tup {xs : List D} {v : V} (h : Rep K O H (.tup xs) v) : ∃ a vs, v = .ref a ∧ RdT K O H a vs ∧ Reps K O H xs vs := by unfold Rep at h; exact h
theorem rep_lst {xs : List D} {v : V} (h : Rep K O H (.lst xs) v) : ∃ a vs, v = .ref a ∧ ¬ O a ∧ H a = some (.lst vs) ∧ Reps K O H xs vs := by unfold Rep at h; exact h
theorem rep_scr {xs : List Int} {v : V} (h : Rep K O H (.scr xs) v) : ∃ a, v = .ref a ∧ RdL K O H a (xs.map V.int) := by unfold Rep at h; exact h
theorem scr_rep {xs : List Int} {a : Addr} (r : RdL K O H a (xs.map V.int)) : Rep K O H (.scr xs) (.ref a) := by unfold Rep; exact ⟨a, rfl, r⟩
theorem rep_obj {C : Addr} {ns : List Str} {xs : List D} {v : V} (h : Rep K O H (.obj C ns xs) v) : ∃ a dx vs, v = .ref a ∧ ¬ O a ∧ H a = some (.ins C dx (ns.zip vs)) ∧ ns.length = xs.length ∧ Reps K O H xs vs := by unfold Rep at h; exact h
theorem int_rep {i : Int} : Rep K O H (.int i) (.int i) := by unfold Rep; rfl
theorem bl_rep {i : Bool} : Rep K O H (.bl i) (.bl i) := by unfold Rep; rfl
theorem non_rep : Rep K O H .non .non := by unfold Rep; rfl
theorem tup_rep {xs : List D} {a : Addr} {vs : List V} (r : RdT K O H a vs) (q : Reps K O H xs vs) : Rep K O H (.tup xs) (.ref a) := by unfold Rep; exact ⟨a, vs, rfl, r, q⟩
theorem lst_rep {xs : List D} {a : Addr} {vs : List V} (n : ¬ O a) (r : H a = some (.lst vs)) (q : Reps K O H xs vs) : Rep K O H (.lst xs) (.ref a) := by unfold Rep; exact ⟨a, vs, rfl, n, r, q⟩
theorem rep_adr {a : Addr} {v : V} (h : Rep K O H (.adr a) v) : v = .ref a := by unfold Rep at h; exact h
theorem adr_rep {a : Addr} : Rep K O H (.adr a) (.ref a) := by unfold Rep; rfl
theorem rep_dic {ks : List Key} {xs : List D} {v : V} (h : Rep K O H (.dic ks xs) v) : ∃ a vs, v = .ref a ∧ ¬ O a ∧ Rd H a (.dK (dkv ks vs)) ∧ ks.length = xs.length ∧ Reps K O H xs vs := by unfold Rep at h; exact h
theorem dic_rep {ks : List Key} {xs : List D} {a : Addr} {vs : List V} (n : ¬ O a) (h : Rd H a (.dK (dkv ks vs))) (l : ks.length = xs.length) (q : Reps K O H xs vs) : Rep K O H (.dic ks xs) (.ref a) := by
  unfold Rep
  exact ⟨a, vs, rfl, n, h, l, q⟩
theorem obj_rep {C : Addr} {ns : List Str} {xs : List D} {a dx : Addr} {vs : List V} (n : ¬ O a) (h : H a = some (.ins C dx (ns.zip vs))) (l : ns.length = xs.length) (q : Reps K O H xs vs) : Rep K O H (.obj C ns xs) (.ref a) := by
  unfold Rep
  exact ⟨a, dx, vs, rfl, n, h, l, q⟩
end
/-- what a cell that changes holds -/
inductive Cel where
  | ins (C : Addr) (ns : List Str) (ds : List D) | lst (ds : List D) | dic (ks : List Key) (ds : List D)
def CelOk (K : PySem.W.Frag) (O : Addr → Prop) (H : Hp) (a : Addr) : Cel → Prop
  | .ins C ns ds => ∃ dx vs, H a = some (.ins C dx (ns.zip vs)) ∧ ns.length = ds.length ∧ Reps K O H ds vs
  | .lst ds => ∃ vs, H a = some (.lst vs) ∧ Reps K O H ds vs
  | .dic ks ds => ∃ vs, H a = some (.dK (dkv ks vs)) ∧ ks.length = ds.length ∧ Reps K O H ds vs
inductive Sl where
  | un | val (d : D) | own (ds : List D) | slf (a dx C : Addr) (ns : List Str) (ds : List D) | exc (a : Addr) | cel (a : Addr) (c : Cel)
structure Bas where
  H0 : Hp
  Oc : Addr → Prop
def InO (B : Bas) (ow : Nat → Option Addr) (a : Addr) : Prop := B.Oc a ∨ ∃ i, ow i = some a
def SlOk (K : PySem.W.Frag) (O : Addr → Prop) (ow : Nat → Option Addr) (σ : L2.St) (H : Hp) (i : Nat) : Sl → Prop
  | .un => True
  | .val d => ∃ v, σ[i]? = some (some v) ∧ Rep K O H d v
  | .own ds => ∃ a vs, σ[i]? = some (some (.ref a)) ∧ ow i = some a ∧ H a = some (.lst vs) ∧ Reps K O H ds vs
  | .exc a => σ[i]? = some (some (.ref a))
  | .cel a c => ow i = some a ∧ CelOk K O H a c
  | .slf a dx C ns ds => ∃ vs, σ[i]? = some (some (.ref a)) ∧ ow i = some a ∧ H a = some (.ins C dx (ns.zip vs)) ∧ ns.length = ds.length ∧ Reps K O H ds vs
theorem CelOk.via {K : PySem.W.Frag} {O O' : Addr → Prop} {H H' : Hp} {a : Addr} {c : Cel} (up : ∀ {ds : List D} {vs : List V}, Reps K O H ds vs → Reps K O' H' ds vs) (keep : ∀ o, H a = some o → H' a = some o) (h : CelOk K O H a c) : CelOk K O' H' a c := by
  cases c with
  | ins C ns ds => obtain ⟨dx, vs, e, l, r⟩ := h; exact ⟨dx, vs, keep _ e, l, up r⟩
  | lst ds => obtain ⟨vs, e, r⟩ := h; exact ⟨vs, keep _ e, up r⟩
  | dic ks ds => obtain ⟨vs, e, l, r⟩ := h; exact ⟨vs, keep _ e, l, up r⟩
theorem CelOk.mono {K : PySem.W.Frag} {O O' : Addr → Prop} {H H' : Hp} {a : Addr} {c : Cel} (so : SameO O H H') (ho : ∀ a, O' a → O a) (keep : ∀ o, H a = some o → H' a = some o) (h : CelOk K O H a c) : CelOk K O' H' a c := h.via (fun r => Reps.mono so ho _ _ r) keep
theorem CelOk.up {K : PySem.W.Frag} {O : Addr → Prop} {H H' : Hp} {a : Addr} {c : Cel} (s : Same H H') (h : CelOk K O H a c) : CelOk K O H' a c := h.mono (fun a o _ e => s a o e) (fun _ z => z) fun o e => s a o e
theorem CelOk.less {K : PySem.W.Frag} {O O' : Addr → Prop} {H : Hp} {a : Addr} {c : Cel} (ho : ∀ a, O' a → O a) (h : CelOk K O H a c) : CelOk K O' H a c := h.mono (fun _ _ _ e => e) ho fun _ e => e
structure StO (K : PySem.W.Frag) (B : Bas) (Δ : List Sl) (ow : Nat → Option Addr) (σ : L2.St) (H : Hp) : Prop where
  base : Same B.H0 H
  live : ∀ a, InO B ow a → ∃ o, H a = some o
  sep : ∀ i a, ow i = some a → B.H0 a = none ∧ ¬ B.Oc a
  inj : ∀ i j a, ow i = some a → ow j = some a → i = j
  len : σ.length = Δ.length
  sl : ∀ i s, Δ[i]? = some s → SlOk K (InO B ow) ow σ H i s
section
variable {K : PySem.W.Frag} {B : Bas} {Δ : List Sl} {ow : Nat → Option Addr} {σ : L2.St} {H H' : Hp}
theorem StO.up (S : StO K B Δ ow σ H) (s : Same H H') : StO K B Δ ow σ H' where
  base := S.base.trans s
  live := fun a h => let ⟨o, e⟩ := S.live a h; ⟨o, s a o e⟩
  sep := S.sep
  inj := S.inj
  len := S.len
  sl := fun i d e => by
    have h := S.sl i d e
    cases d with
    | un => trivial
    | val d => obtain ⟨v, e1, r⟩ := h; exact ⟨v, e1, r.up s⟩
    | own ds => obtain ⟨a, vs, e1, e2, e3, r⟩ := h; exact ⟨a, vs, e1, e2, s _ _ e3, r.up s⟩
    | exc a => exact h
    | slf a dx C ns ds => obtain ⟨vs, e1, e2, e3, l, r⟩ := h; exact ⟨vs, e1, e2, s _ _ e3, l, r.up s⟩
    | cel a c => exact ⟨h.1, h.2.up s⟩
/-- a slot gets a plain value -/
theorem StO.put (S : StO K B Δ ow σ H) {i : Nat} {d : D} {v : V} (r : Rep K (InO B ow) H d v) : StO K B (Δ.set i (.val d)) ow (σ.set i (some v)) H where
  base := S.base
  live := S.live
  sep := S.sep
  inj := S.inj
  len := by simp [S.len]
  sl := fun j s e => by
    by_cases hj : j = i
    · subst hj
      have hl : j < Δ.length := by
        have := (List.getElem?_eq_some_iff.mp e).1
        simpa using this
      rw [List.getElem?_set_self hl] at e
      cases e
      exact ⟨v, List.getElem?_set_self (by rw [S.len]; exact hl), r⟩
    · rw [List.getElem?_set_ne (Ne.symm hj)] at e
      have h := S.sl j s e
      have hσ : (σ.set i (some v))[j]? = σ[j]? := List.getElem?_set_ne (Ne.symm hj)
      cases s with
      | un => trivial
      | val d => obtain ⟨v, e1, r⟩ := h; exact ⟨v, hσ.trans e1, r⟩
      | own ds => obtain ⟨a, vs, e1, r⟩ := h; exact ⟨a, vs, hσ.trans e1, r⟩
      | exc a => exact hσ.trans h
      | slf a dx C ns ds => obtain ⟨vs, e1, r⟩ := h; exact ⟨vs, hσ.trans e1, r⟩
      | cel a c => exact h
/-- forgetting -/
def Le : List Sl → List Sl → Prop
  | [], [] => True
  | a :: l, b :: m => (b = .un ∨ a = b) ∧ Le l m
  | _, _ => False
theorem Le.refl : ∀ {l : List Sl}, Le l l
  | [] => trivial
  | _ :: _ => ⟨.inr rfl, Le.refl⟩
theorem Le.len : ∀ {l m : List Sl}, Le l m → l.length = m.length
  | [], [], _ => rfl
  | _ :: l, _ :: m, h => by simp [Le.len h.2]
theorem Le.get : ∀ {l m : List Sl} {i : Nat} {s : Sl}, Le l m → m[i]? = some s → s = .un ∨ l[i]? = some s
  | [], [], i, s, _, e => by simp at e
  | a :: l, b :: m, 0, s, h, e => by
    simp at e
    subst e
    rcases h.1 with h | h
    · exact .inl h
    · exact .inr (by simp [h])
  | a :: l, b :: m, i + 1, s, h, e => by
    simp at e
    simpa using Le.get h.2 e
theorem StO.weak {Δ' : List Sl} (S : StO K B Δ ow σ H) (h : Le Δ Δ') : StO K B Δ' ow σ H where
  base := S.base
  live := S.live
  sep := S.sep
  inj := S.inj
  len := by rw [S.len, h.len]
  sl := fun i s e => by
    rcases h.get e with rfl | e'
    · trivial
    · exact S.sl i s e'
theorem InO.fresh {a p : Addr} (S : StO K B Δ ow σ H) (s : Same H H') (hp : H' p = none) : ¬ InO B ow p := fun z => by
  obtain ⟨o, e⟩ := S.live p z
  rw [s p o e] at hp
  cases hp
/-- owning anew -/
def putO (ow : Nat → Option Addr) (i : Nat) (x : Option Addr) : Nat → Option Addr := fun j => if j = i then x else ow j
theorem putO_same {i : Nat} {x : Option Addr} : putO ow i x i = x := by unfold putO; rw [if_pos rfl]
theorem putO_ne {i j : Nat} {x : Option Addr} (h : j ≠ i) : putO ow i x j = ow j := by unfold putO; rw [if_neg h]
end
end Dy
namespace Dy
open PySem PySem.Spec PyProof.Rows L2
section
variable (X : Cx)
structure WEx (e : Expr) (σ : L2.St) (H : Hp) (Q : VK) : Prop where
  run : ∀ (pins : List (Addr × Obj)) (s : Shared), Inv X pins σ H s → wpAny (model X.prog X.w) X.A (eval e X.env) (EP X pins σ Q) X.xe s
structure WTx (e : Expr) (σ : L2.St) (H : Hp) (Q : Bool → Hp → Prop) : Prop where
  run : ∀ (pins : List (Addr × Obj)) (s : Shared), Inv X pins σ H s → wpAny (model X.prog X.w) X.A (isTrue e X.env (eval e X.env)) (TP X pins σ Q) X.xe s
structure WWx (e : Expr) (σ : L2.St) (H : Hp) (Q : Bool → Hp → Prop) : Prop where
  run : ∀ (wh : Sem Value) (pins : List (Addr × Obj)) (s : Shared), Inv X pins σ H s → wpAny (model X.prog X.w) X.A (isTrue e X.env wh) (TP X pins σ Q) X.xe s
structure WAx (es : List Expr) (σ : L2.St) (H : Hp) (Q : List V → Hp → Prop) : Prop where
  run : ∀ (pos : Pos) (pins : List (Addr × Obj)) (s : Shared), Inv X pins σ H s → wpAny (model X.prog X.w) X.A (spliced (backTo pos (starEach es X.env))) (AP X pins σ Q) X.xe s
structure WSx (st : Stmt) (De : Ends) (σ : L2.St) (H : Hp) : Prop where
  run : ∀ (pins : List (Addr × Obj)) (s : Shared), Inv X pins σ H s → wpAny (model X.prog X.w) X.A (exec st X.env) (SP X pins De) X.xe s
structure WSs (st : List Stmt) (De : Ends) (σ : L2.St) (H : Hp) : Prop where
  run : ∀ (pins : List (Addr × Obj)) (s : Shared), Inv X pins σ H s → wpAny (model X.prog X.w) X.A (execs st X.env) (SP X pins De) X.xe s
end
section
variable {X : Cx}
theorem peW {e : Expr} : PE X e (WEx X e) := ⟨fun pins s _ _ _ I h => h.run pins s I⟩
theorem ptW {e : Expr} : PT X e (WTx X e) := ⟨fun pins s _ _ _ I h => h.run pins s I⟩
theorem pwW {e : Expr} : PW X e (WWx X e) := ⟨fun wh pins s _ _ _ I h => h.run wh pins s I⟩
theorem paW {es : List Expr} : PA X es (WAx X es) := ⟨fun pos pins s _ _ _ I h => h.run pos pins s I⟩
theorem psW {st : Stmt} : PS X st (WSx X st) := ⟨fun pins s _ _ _ I h => h.run pins s I⟩
theorem pssW {st : List Stmt} : PSs X st (WSs X st) := ⟨fun pins s _ _ _ I h => h.run pins s I⟩
theorem we_of {e : Expr} {t : TE} (p : PE X e t) {σ : L2.St} {H : Hp} {Q : VK} (h : t σ H Q) : WEx X e σ H Q := ⟨fun pins s I => p.run pins s σ H Q I h⟩
theorem wt_of {e : Expr} {t : TT} (p : PT X e t) {σ : L2.St} {H : Hp} {Q : Bool → Hp → Prop} (h : t σ H Q) : WTx X e σ H Q := ⟨fun pins s I => p.run pins s σ H Q I h⟩
theorem ww_of {e : Expr} {t : TT} (p : PW X e t) {σ : L2.St} {H : Hp} {Q : Bool → Hp → Prop} (h : t σ H Q) : WWx X e σ H Q := ⟨fun wh pins s I => p.run wh pins s σ H Q I h⟩
theorem wa_of {es : List Expr} {t : TA} (p : PA X es t) {σ : L2.St} {H : Hp} {Q : List V → Hp → Prop} (h : t σ H Q) : WAx X es σ H Q := ⟨fun pos pins s I => p.run pos pins s σ H Q I h⟩
theorem ws_of {st : Stmt} {t : TS} (p : PS X st t) {σ : L2.St} {H : Hp} {De : Ends} (h : t De σ H) : WSx X st De σ H := ⟨fun pins s I => p.run pins s σ H De I h⟩
theorem wss_of {st : List Stmt} {t : TS} (p : PSs X st t) {σ : L2.St} {H : Hp} {De : Ends} (h : t De σ H) : WSs X st De σ H := ⟨fun pins s I => p.run pins s σ H De I h⟩
end
/-- an exception as data -/
def ExR (K : PySem.W.Frag) (O : Addr → Prop) (H : Hp) (x : Exn) (cls : Value) (dd : Option Addr) : Prop :=
  cls = .ref x.C ∧ ((x.ns = [] ∧ dd = none) ∨ x.ns ≠ [] ∧ ∃ d vs, dd = some d ∧ H d = some (.xd (x.ns.zip vs)) ∧ x.ns.length = x.xs.length ∧ Reps K O H x.xs vs)
section
variable (X : Cx) (B : Bas) (Δ : List Sl)
/-- what may follow a raise -/
def Hears (ow : Nat → Option Addr) (H : Hp) (σ : L2.St) (W : WX) (Ψ : Exn → Prop) : Prop := ∀ x cls dd H', Ψ x → Same H H' → ExR X.K (InO B ow) H' x cls dd → W cls dd σ H'
def JE (e : Expr) (P : D → Prop) (Ψ : Exn → Prop) : Prop :=
  ∀ (ow : Nat → Option Addr) (σ : L2.St) (H : Hp) (Q : VK) (W : WX), Takes X W → StO X.K B Δ ow σ H → (∀ d v H', P d → Same H H' → Rep X.K (InO B ow) H' d v → Q v H') → Hears X B ow H σ W Ψ → WEx X e σ H Q
def JT (e : Expr) (P : Bool → Prop) (Ψ : Exn → Prop) : Prop :=
  ∀ (ow : Nat → Option Addr) (σ : L2.St) (H : Hp) (Q : Bool → Hp → Prop) (W : WX), Takes X W → StO X.K B Δ ow σ H → (∀ b H', P b → Same H H' → Q b H') → Hears X B ow H σ W Ψ → WTx X e σ H Q
def JW (e : Expr) (P : Bool → Prop) (Ψ : Exn → Prop) : Prop :=
  ∀ (ow : Nat → Option Addr) (σ : L2.St) (H : Hp) (Q : Bool → Hp → Prop) (W : WX), Takes X W → StO X.K B Δ ow σ H → (∀ b H', P b → Same H H' → Q b H') → Hears X B ow H σ W Ψ → WWx X e σ H Q
def JA (es : List Expr) (P : List D → Prop) (Ψ : Exn → Prop) : Prop :=
  ∀ (ow : Nat → Option Addr) (σ : L2.St) (H : Hp) (Q : List V → Hp → Prop) (W : WX), Takes X W → StO X.K B Δ ow σ H → (∀ ds vs H', P ds → Same H H' → Reps X.K (InO B ow) H' ds vs → Q vs H') → Hears X B ow H σ W Ψ → WAx X es σ H Q
/-- a value, nothing raised -/
def JV (e : Expr) (d : D) : Prop := ∀ (P : D → Prop) (Ψ : Exn → Prop), P d → JE X B Δ e P Ψ
def TV (e : Expr) (b : Bool) : Prop := ∀ (P : Bool → Prop) (Ψ : Exn → Prop), P b → JT X B Δ e P Ψ
def WV (e : Expr) (b : Bool) : Prop := ∀ (P : Bool → Prop) (Ψ : Exn → Prop), P b → JW X B Δ e P Ψ
def AV (es : List Expr) (ds : List D) : Prop := ∀ (P : List D → Prop) (Ψ : Exn → Prop), P ds → JA X B Δ es P Ψ
structure EndD where
  nx : List Sl → Prop
  rt : List Sl → D → Prop
  bk : List Sl → Prop := fun _ => False
  ct : List Sl → Prop := fun _ => False
  xc : List Sl → Exn → Prop := fun _ _ => False
structure Good (E : EndD) (De : Ends) (W : WX) : Prop where
  nx : ∀ Δ' ow' σ' H', E.nx Δ' → StO X.K B Δ' ow' σ' H' → De.nx σ' H'
  rt : ∀ Δ' ow' σ' H' d v, E.rt Δ' d → StO X.K B Δ' ow' σ' H' → Rep X.K (InO B ow') H' d v → De.rt v H'
  bk : ∀ Δ' ow' σ' H', E.bk Δ' → StO X.K B Δ' ow' σ' H' → De.bk σ' H'
  ct : ∀ Δ' ow' σ' H', E.ct Δ' → StO X.K B Δ' ow' σ' H' → De.ct σ' H'
  xc : ∀ Δ' ow' σ' H' x cls dd, E.xc Δ' x → StO X.K B Δ' ow' σ' H' → ExR X.K (InO B ow') H' x cls dd → W cls dd σ' H'
def JS (st : Stmt) (E : EndD) : Prop :=
  ∀ (ow : Nat → Option Addr) (σ : L2.St) (H : Hp) (De : Ends) (W : WX), Takes X W → StO X.K B Δ ow σ H → Good X B E De W → WSx X st De σ H
def Js (st : List Stmt) (E : EndD) : Prop :=
  ∀ (ow : Nat → Option Addr) (σ : L2.St) (H : Hp) (De : Ends) (W : WX), Takes X W → StO X.K B Δ ow σ H → Good X B E De W → WSs X st De σ H
end
section
variable {X : Cx} {B : Bas} {Δ : List Sl} {P : D → Prop} {Ψ : Exn → Prop}
theorem Hears.mono {ow : Nat → Option Addr} {H H1 : Hp} {σ : L2.St} {W : WX} (h : Hears X B ow H σ W Ψ) (s : Same H H1) : Hears X B ow H1 σ W Ψ := fun x cls dd H' p s' r => h x cls dd H' p (s.trans s') r
theorem Hears.imp {ow : Nat → Option Addr} {H : Hp} {σ : L2.St} {W : WX} {Ψ' : Exn → Prop} (h : Hears X B ow H σ W Ψ) (i : ∀ x, Ψ' x → Ψ x) : Hears X B ow H σ W Ψ' := fun x cls dd H' p s' r => h x cls dd H' (i x p) s' r
theorem JE.imp {e : Expr} {P' : D → Prop} {Ψ' : Exn → Prop} (h : JE X B Δ e P Ψ) (i : ∀ d, P d → P' d) (j : ∀ x, Ψ x → Ψ' x) : JE X B Δ e P' Ψ' := fun ow σ H Q W tk S q hx =>
  h ow σ H Q W tk S (fun d v H' p => q d v H' (i d p)) (hx.imp j)
theorem jv_of {e : Expr} {d : D} {t : TE} (p : PE X e t) (h : ∀ ow σ H Q, StO X.K B Δ ow σ H → (∀ v H', Same H H' → Rep X.K (InO B ow) H' d v → Q v H') → t σ H Q) : JV X B Δ e d := fun P Ψ pd ow σ H Q W tk S q _ =>
  we_of p (h ow σ H Q S fun v H' s r => q d v H' pd s r)
theorem jv_int {i : Int} {j pos} : JV X B Δ (.Constant (.int i) j pos) (.int i) := jv_of pe_int fun ow σ H Q S q => q _ _ (Same.refl H) int_rep
theorem jv_bl {i : Bool} {j pos} : JV X B Δ (.Constant (.bool i) j pos) (.bl i) := jv_of pe_bl fun ow σ H Q S q => q _ _ (Same.refl H) bl_rep
theorem jv_var (i : Nat) {x : Str} {pos : Pos} {d : D} (h : Δ[i]? = some (.val d) := by rfl) (hN : X.N[i]? = some x := by rfl) (hv : Vis X.env.scope x := by first | exact Or.inl rfl | exact Or.inr (Or.inl rfl) | exact Or.inr (Or.inr rfl))
    (hd : (x == ("__debug__" : Str)) = false := by decide) (hcd : (x == ("__classdict__" : Str)) = false := by decide) : JV X B Δ (.Name x pos) d :=
  jv_of (pe_var hN hv hd hcd) fun ow σ H Q S q => by
    obtain ⟨v, e, r⟩ := S.sl i _ h
    exact ⟨v, e, q v H (Same.refl H) r⟩
/-- a two-place operation on data -/
def OpS (K : PySem.W.Frag) (r : R2) (x y z : D) : Prop := ∀ (O : Addr → Prop) (H : Hp) (u v : V) (Q : VK), (∀ a, O a → ∃ o, H a = some o) → Rep K O H x u → Rep K O H y v → (∀ t H', Same H H' → Rep K O H' z t → Q t H') → r u v H Q
theorem jv_opR {e a b : Expr} {r : R2} {x y z : D} (p : PE X e (tOp r (WEx X a) (WEx X b))) (ha : JV X B Δ a x) (hb : JV X B Δ b y) (o : OpS X.K r x y z) : JV X B Δ e z := fun P Ψ pz ow σ H Q W tk S q hx => by
  refine we_of p ?_
  refine ha (fun d => d = x) (fun _ => False) rfl ow σ H _ W tk S (fun d u H1 e1 s1 r1 => ?_) (fun _ _ _ _ z => z.elim)
  subst e1
  refine hb (fun d => d = y) (fun _ => False) rfl ow σ H1 _ W tk (S.up s1) (fun d v H2 e2 s2 r2 => ?_) (fun _ _ _ _ z => z.elim)
  subst e2
  exact o _ H2 u v Q (S.up (s1.trans s2)).live (r1.up s2) r2 fun t H' s' r' => q z t H' pz ((s1.trans s2).trans s') r'
theorem opS_I {K : PySem.W.Frag} {g : Int → Int → V} {d : Int → Int → D} {i j : Int} (h : ∀ O H, Rep K O H (d i j) (g i j)) : OpS K (rI0 g) (.int i) (.int j) (d i j) := fun O H u v Q _ ru rv q =>
  ⟨i, j, rep_int ru, rep_int rv, q _ H (Same.refl H) (h O H)⟩
theorem opS_IC {K : PySem.W.Frag} {C : Int → Int → Prop} {g : Int → Int → V} {d : Int → Int → D} {i j : Int} (hc : C i j) (h : ∀ O H, Rep K O H (d i j) (g i j)) : OpS K (rI C g) (.int i) (.int j) (d i j) := fun O H u v Q _ ru rv q =>
  ⟨i, j, rep_int ru, rep_int rv, hc, q _ H (Same.refl H) (h O H)⟩
section
variable {a b : Expr} {i j : Int} {pos : Pos}
theorem jv_add (ha : JV X B Δ a (.int i)) (hb : JV X B Δ b (.int j)) : JV X B Δ (.BinOp a .Add b pos) (.int (i + j)) := jv_opR (pe_op op_add peW peW) ha hb (opS_I (d := fun i j => .int (i + j)) fun _ _ => int_rep)
theorem jv_sub (ha : JV X B Δ a (.int i)) (hb : JV X B Δ b (.int j)) : JV X B Δ (.BinOp a .Sub b pos) (.int (i - j)) := jv_opR (pe_op op_sub peW peW) ha hb (opS_I (d := fun i j => .int (i - j)) fun _ _ => int_rep)
theorem jv_mul (ha : JV X B Δ a (.int i)) (hb : JV X B Δ b (.int j)) (h : CMul i j) : JV X B Δ (.BinOp a .Mult b pos) (.int (i * j)) := jv_opR (pe_op op_mul peW peW) ha hb (opS_IC (d := fun i j => .int (i * j)) h fun _ _ => int_rep)
theorem jv_div (ha : JV X B Δ a (.int i)) (hb : JV X B Δ b (.int j)) (h : CDiv i j) : JV X B Δ (.BinOp a .FloorDiv b pos) (.int (i / j)) := jv_opR (pe_op op_fdiv peW peW) ha hb (opS_IC (d := fun i j => .int (i / j)) h fun _ _ => int_rep)
theorem jv_mod (ha : JV X B Δ a (.int i)) (hb : JV X B Δ b (.int j)) (h : 0 < j) : JV X B Δ (.BinOp a .Mod b pos) (.int (i % j)) := jv_opR (pe_op op_mod peW peW) ha hb (opS_IC (d := fun i j => .int (i % j)) h fun _ _ => int_rep)
theorem jv_pow (ha : JV X B Δ a (.int i)) (hb : JV X B Δ b (.int j)) (h : CPow i j) : JV X B Δ (.BinOp a .Pow b pos) (.int (i ^ j.toNat)) := jv_opR (pe_op op_pow peW peW) ha hb (opS_IC (d := fun i j => .int (i ^ j.toNat)) h fun _ _ => int_rep)
theorem jv_neg (ha : JV X B Δ a (.int i)) : JV X B Δ (.UnaryOp .USub a pos) (.int (-i)) := fun P Ψ pz ow σ H Q W tk S q hx => by
  refine we_of (pe_un un_neg peW) ?_
  refine ha (fun d => d = .int i) (fun _ => False) rfl ow σ H _ W tk S (fun d u H1 e1 s1 r1 => ?_) (fun _ _ _ _ z => z.elim)
  subst e1
  exact ⟨i, rep_int r1, q _ _ _ pz s1 int_rep⟩
end
/-- scalars that == compares -/
def sc : D → D → Option Bool
  | .int i, .int j => some (decide (i = j))
  | .bl i, .bl j => some (decide (i = j))
  | .str i, .str j => some (decide (i = j))
  | _, _ => none
theorem opS_eq {K : PySem.W.Frag} {x y : D} {b : Bool} (h : sc x y = some b) : OpS K rEq x y (.bl b) := fun O H u v Q _ ru rv q => by
  unfold sc at h
  split at h
  · cases h; cases rep_int ru; cases rep_int rv
    rename_i i j
    refine ⟨rfl, ?_⟩
    have e : decide (V.int i = V.int j) = decide (i = j) := by by_cases c : i = j <;> simp [c]
    rw [e]
    exact q _ H (Same.refl H) bl_rep
  · cases h; cases rep_bl ru; cases rep_bl rv
    rename_i i j
    refine ⟨rfl, ?_⟩
    have e : decide (V.bl i = V.bl j) = decide (i = j) := by by_cases c : i = j <;> simp [c]
    rw [e]
    exact q _ H (Same.refl H) bl_rep
  · cases h; cases rep_str ru; cases rep_str rv
    rename_i i j
    refine ⟨rfl, ?_⟩
    have e : decide (V.str i = V.str j) = decide (i = j) := by by_cases c : i = j <;> simp [c]
    rw [e]
    exact q _ H (Same.refl H) bl_rep
  · cases h
theorem opS_ne {K : PySem.W.Frag} {x y : D} {b : Bool} (h : sc x y = some b) : OpS K rNe x y (.bl (!b)) := fun O H u v Q _ ru rv q => by
  unfold sc at h
  split at h
  · cases h; cases rep_int ru; cases rep_int rv
    rename_i i j
    refine ⟨rfl, ?_⟩
    have e : decide (V.int i = V.int j) = decide (i = j) := by by_cases c : i = j <;> simp [c]
    rw [e]
    exact q _ H (Same.refl H) bl_rep
  · cases h; cases rep_bl ru; cases rep_bl rv
    rename_i i j
    refine ⟨rfl, ?_⟩
    have e : decide (V.bl i = V.bl j) = decide (i = j) := by by_cases c : i = j <;> simp [c]
    rw [e]
    exact q _ H (Same.refl H) bl_rep
  · cases h; cases rep_str ru; cases rep_str rv
    rename_i i j
    refine ⟨rfl, ?_⟩
    have e : decide (V.str i = V.str j) = decide (i = j) := by by_cases c : i = j <;> simp [c]
    rw [e]
    exact q _ H (Same.refl H) bl_rep
  · cases h
section
variable {a b c : Expr} {x y : D} {k : Bool} {pos : Pos}
theorem tv_of (ha : JV X B Δ a (.bl k)) (he : ∀ whole, isTrue a X.env whole = (do let v ← whole; standAt a.pos; holding [v] (truthy v)) := by intro _; rfl) : TV X B Δ a k := fun P Ψ pk ow σ H Q W tk S q hx => by
  refine wt_of (pt_val peW he) ?_
  refine ha (fun d => d = .bl k) (fun _ => False) rfl ow σ H _ W tk S (fun d u H1 e1 s1 r1 => ?_) (fun _ _ _ _ z => z.elim)
  subst e1
  exact ⟨k, rep_bl r1, q k H1 pk s1⟩
/-- a comparison as a test -/
theorem tv_opR {e : Expr} {r : R2} {z : Bool} (p : PT X e (tTest (tOp r (WEx X a) (WEx X b)))) (ha : JV X B Δ a x) (hb : JV X B Δ b y) (o : OpS X.K r x y (.bl z)) : TV X B Δ e z := fun P Ψ pz ow σ H Q W tk S q hx => by
  refine wt_of p ?_
  refine ha (fun d => d = x) (fun _ => False) rfl ow σ H _ W tk S (fun d u H1 e1 s1 r1 => ?_) (fun _ _ _ _ z => z.elim)
  subst e1
  refine hb (fun d => d = y) (fun _ => False) rfl ow σ H1 _ W tk (S.up s1) (fun d v H2 e2 s2 r2 => ?_) (fun _ _ _ _ z => z.elim)
  subst e2
  exact o _ H2 u v _ (S.up (s1.trans s2)).live (r1.up s2) r2 fun t H' s' r' => ⟨z, rep_bl r', q z H' pz ((s1.trans s2).trans s')⟩
variable {i j : Int}
theorem tv_lt (ha : JV X B Δ a (.int i)) (hb : JV X B Δ b (.int j)) : TV X B Δ (.Compare a [.Lt] [b] pos) (decide (i < j)) := tv_opR (pt_cmpR op_lt peW peW (nomark _)) ha hb (opS_I (d := fun i j => .bl (decide (i < j))) fun _ _ => bl_rep)
theorem tv_le (ha : JV X B Δ a (.int i)) (hb : JV X B Δ b (.int j)) : TV X B Δ (.Compare a [.LtE] [b] pos) (decide (i ≤ j)) := tv_opR (pt_cmpR op_le peW peW (nomark _)) ha hb (opS_I (d := fun i j => .bl (decide (i ≤ j))) fun _ _ => bl_rep)
theorem tv_gt (ha : JV X B Δ a (.int i)) (hb : JV X B Δ b (.int j)) : TV X B Δ (.Compare a [.Gt] [b] pos) (decide (j < i)) := tv_opR (pt_cmpR op_gt peW peW (nomark _)) ha hb (opS_I (d := fun i j => .bl (decide (j < i))) fun _ _ => bl_rep)
theorem tv_ge (ha : JV X B Δ a (.int i)) (hb : JV X B Δ b (.int j)) : TV X B Δ (.Compare a [.GtE] [b] pos) (decide (j ≤ i)) := tv_opR (pt_cmpR op_ge peW peW (nomark _)) ha hb (opS_I (d := fun i j => .bl (decide (j ≤ i))) fun _ _ => bl_rep)
theorem tv_eq (ha : JV X B Δ a x) (hb : JV X B Δ b y) (h : sc x y = some k := by rfl) : TV X B Δ (.Compare a [.Eq] [b] pos) k := tv_opR (pt_cmpR op_eq peW peW (nomark _)) ha hb (opS_eq h)
theorem tv_ne (ha : JV X B Δ a x) (hb : JV X B Δ b y) (h : sc x y = some k := by rfl) : TV X B Δ (.Compare a [.NotEq] [b] pos) (!k) := tv_opR (pt_cmpR op_ne peW peW (nomark _)) ha hb (opS_ne h)
theorem tv_not (ha : TV X B Δ a k) : TV X B Δ (.UnaryOp .Not a pos) (!k) := fun P Ψ pk ow σ H Q W tk S q hx =>
  wt_of (pt_not ptW) (ha (fun c => c = k) Ψ rfl ow σ H _ W tk S (fun c H1 e s => q _ H1 (e ▸ pk) s) hx)
variable {rest : List Expr} {k2 : Bool}
theorem wv_and1 (ha : TV X B Δ a k) : WV X B Δ (.BoolOp .And [a] pos) k := fun P Ψ pk ow σ H Q W tk S q hx => ww_of (pw_and1 ptW) (ha P Ψ pk ow σ H Q W tk S q hx)
theorem wv_or1 (ha : TV X B Δ a k) : WV X B Δ (.BoolOp .Or [a] pos) k := fun P Ψ pk ow σ H Q W tk S q hx => ww_of (pw_or1 ptW) (ha P Ψ pk ow σ H Q W tk S q hx)
theorem wv_and (ha : TV X B Δ a k) (hb : k = true → WV X B Δ (.BoolOp .And (b :: rest) pos) k2) : WV X B Δ (.BoolOp .And (a :: b :: rest) pos) (k && k2) := fun P Ψ pk ow σ H Q W tk S q hx =>
  ww_of (pw_and ptW pwW) (ha (fun c => c = k) Ψ rfl ow σ H _ W tk S (fun c H1 e s => by
    subst e
    cases c with
    | true => exact hb rfl P Ψ pk ow σ H1 Q W tk (S.up s) (fun b H' p s' => q b H' p (s.trans s')) (hx.mono s)
    | false => exact q _ H1 pk s) hx)
theorem wv_or (ha : TV X B Δ a k) (hb : k = false → WV X B Δ (.BoolOp .Or (b :: rest) pos) k2) : WV X B Δ (.BoolOp .Or (a :: b :: rest) pos) (k || k2) := fun P Ψ pk ow σ H Q W tk S q hx =>
  ww_of (pw_or ptW pwW) (ha (fun c => c = k) Ψ rfl ow σ H _ W tk S (fun c H1 e s => by
    subst e
    cases c with
    | false => exact hb rfl P Ψ pk ow σ H1 Q W tk (S.up s) (fun b H' p s' => q b H' p (s.trans s')) (hx.mono s)
    | true => exact q _ H1 pk s) hx)
theorem tv_w (ha : WV X B Δ a k) : TV X B Δ a k := fun P Ψ pk ow σ H Q W tk S q hx => wt_of pwW.pt (ha P Ψ pk ow σ H Q W tk S q hx)
end
end
end Dy
namespace Dy
open PySem PySem.Spec PyProof.Rows L2
theorem turn_long {P : Program} {w : World} {K : PySem.W.Frag} {tg : Expr} (I : Addr) (lo : Int) (n : Nat) : Turn P w K tg (Itr lo n) [I] I (fun i h => IsLongIter h I (lo + (i : Nat) * 1) ((n : Int) - (i : Nat)) 1) where
  mem := List.mem_singleton.mpr rfl
  obj := fun i h st b hb => by
    cases List.mem_singleton.mp hb
    refine ⟨_, st, fun v z => ?_⟩
    have z' : Data.fields _ = Data.cell v := z
    cases z'
  keep := fun i h h' st k => k I (List.mem_singleton.mpr rfl) _ st
  item := by
    intro X e1 e2 e3 hc i pins s σ H E V hf st hg
    subst e1 e2 e3
    have F := hf I (List.mem_singleton.mpr rfl)
    refine (Walks.longrange (prog := X.prog) (w := X.w) (V.ok.hd hc) I lo 1 n).item i s _ _ hg st fun v h' tk hv st' kk => ?_
    obtain ⟨t, rfl⟩ := hv
    have V1 : Inv X pins σ H { s with heap := h', toks := tk } := V.turned (fun b o hb e => kk b o (by simpa using hb) e) F.1 F.2.1 F.2.2.2.1 F.2.2.2.2.1 F.2.2.2.2.2
    refine ⟨_, rfl, go_of (s := { s with heap := h', toks := tk }) (n := "longrange_iterator") st' rfl rfl (by decide) ⟨.int (lo + i), H, V1, ⟨t, by rw [Int.mul_one]⟩, ⟨rfl, rfl⟩, st', fun b hb => ?_⟩⟩
    cases List.mem_singleton.mp hb
    exact F.1
  done := by
    intro X e1 e2 e3 hc i pins s σ H E V hf st hg
    subst e1 e2 e3
    have F := hf I (List.mem_singleton.mpr rfl)
    have hn : n ≤ i := hg
    exact wpAny_pyNext_long_end (V.ok.hd hc) st (by omega) fun h' eb => ⟨rfl, V.turned (t' := s.toks) (fun b o hb e => eb b o hb e) F.1 F.2.1 F.2.2.2.1 F.2.2.2.2.1 F.2.2.2.2.2⟩
  self := fun _ _ _ _ _ st h => wpAny_pyIter_longiter st h
section
variable {X : Cx} {tg : Expr}
theorem range_any {pins : List (Addr × Obj)} {σ : L2.St} {H : Hp} {s : Shared} {R : It → Hp → Prop} {E : Value → Shared → Prop} {lo hi : Int} {t u v : Tok} {tk : Nat} (V : Inv X pins σ H s) (q : R (Itr lo (hi - lo).toNat) H) :
    wpAny (model X.prog X.w) X.A (pyIter (.ref s.heap.objs.size)) (PIE X pins σ tg R) E { s with heap := s.heap.push { cls := .type "range", data := .fields #[.int lo t, .int hi u, .int 1 v] }, toks := tk } := by
  have V1 : Inv X pins σ H { s with heap := s.heap.push { cls := .type "range", data := .fields #[.int lo t, .int hi u, .int 1 v] }, toks := tk } := V.kept fun b o e => Heap.get?_push_of_some _ e
  have e1 : lo + ((0 : Nat) : Int) * 1 = lo := by simp
  have e2 : (((hi - lo).toNat : Nat) : Int) - ((0 : Nat) : Int) = Builtin.Range.rangeSize lo hi 1 := by rw [rangeSize_one]; split <;> omega
  cases hs : Builtin.Range.small lo hi 1 with
  | true =>
    refine wpAny_pyIter_range (IsRange.new ..) hs ?_
    refine ⟨_, [_], _, _, H, rfl, V1.kept (t' := tk) fun b o e => Heap.get?_push_of_some _ e, turn_range _ lo (hi - lo).toNat, ?_, fun b hb => ?_, q⟩
    · show IsRangeIter _ _ (lo + ((0 : Nat) : Int) * 1) ((((hi - lo).toNat : Nat) : Int) - ((0 : Nat) : Int)) 1
      rw [e1, e2]
      exact Heap.get?_push_size _ rfl
    · cases List.mem_singleton.mp hb
      exact V1.fpOk (Nat.le_refl _) (V1.hok.fresh (Nat.le_refl _))
  | false =>
    refine wpAny_pyIter_longrange (IsRange.new ..) hs ?_
    refine ⟨_, [_], _, _, H, rfl, V1.kept (t' := tk) fun b o e => Heap.get?_push_of_some _ e, turn_long _ lo (hi - lo).toNat, ?_, fun b hb => ?_, q⟩
    · show IsLongIter _ _ (lo + ((0 : Nat) : Int) * 1) ((((hi - lo).toNat : Nat) : Int) - ((0 : Nat) : Int)) 1
      rw [e1, e2]
      exact Heap.get?_push_size _ rfl
    · cases List.mem_singleton.mp hb
      exact V1.fpOk (Nat.le_refl _) (V1.hok.fresh (Nat.le_refl _))
def iRa1 (ta : TA) : TI := fun σ H R => ta σ H fun vs H1 => ∃ j : Int, vs = [.int j] ∧ R (Itr 0 j.toNat) H1
theorem pi_ra1 {a : Expr} {ta : TA} {p pos : Pos} (hg : Gl X "range") (hm : X.mg "range" = none) (ha : PA X [a] ta) (hs : starEach [a] X.env = [(false, eval a X.env)] := by rfl) : PI X tg (.Call (.Name "range" p) [a] [] pos) (iRa1 ta) := by
  refine ⟨fun pins s σ H R V h => ?_⟩
  refine Call_ (ld_blt V hg hm boot_range (PyProof.Rows.callWith_type1 (thn (ha.run pos pins s σ H _ V h) fun us s1 ⟨vs, H1, V1, r1, z1⟩ => ?_) hs rfl))
  obtain ⟨j, rfl, q⟩ := z1
  obtain ⟨u, rfl, ru⟩ := vals1 r1
  obtain ⟨t, rfl⟩ := ru
  exact call_range_1 (range_any V1 (by simpa using q))
end
end Dy
namespace Dy
open PySem PySem.Spec PyProof.Rows L2
theorem same_new {H : Hp} {p : Addr} {o : HO} (h : H p = none) : Same H (upd H p o) := fun a u e => by
  rw [upd_ne (ne_of_none e h)]
  exact e
theorem le_line {n : Nat} (h : n ≤ 100000) : n ≤ sizeLine := by rw [sizeLine_eq]; omega
theorem lt_line {n : Nat} (h : n < 100000) : n < sizeLine := by rw [sizeLine_eq]; omega
section
variable {X : Cx} {B : Bas} {Δ : List Sl} {e a b : Expr} {pos : Pos} {ds : List D} {d x y z : D}
/-- uses a pure value -/
theorem JV.use (h : JV X B Δ e d) {ow : Nat → Option Addr} {σ : L2.St} {H : Hp} {Q : VK} {W : WX} (tk : Takes X W) (S : StO X.K B Δ ow σ H) (q : ∀ v H', Same H H' → Rep X.K (InO B ow) H' d v → Q v H') : WEx X e σ H Q :=
  h (fun c => c = d) (fun _ => False) rfl ow σ H Q W tk S (fun c v H' ec s r => q v H' s (ec ▸ r)) (fun _ _ _ _ z => z.elim)
theorem AV.use {es : List Expr} (h : AV X B Δ es ds) {ow : Nat → Option Addr} {σ : L2.St} {H : Hp} {Q : List V → Hp → Prop} {W : WX} (tk : Takes X W) (S : StO X.K B Δ ow σ H) (q : ∀ v H', Same H H' → Reps X.K (InO B ow) H' ds v → Q v H') : WAx X es σ H Q :=
  h (fun c => c = ds) (fun _ => False) rfl ow σ H Q W tk S (fun c v H' ec s r => q v H' s (ec ▸ r)) (fun _ _ _ _ z => z.elim)
theorem TV.use {k : Bool} (h : TV X B Δ e k) {ow : Nat → Option Addr} {σ : L2.St} {H : Hp} {Q : Bool → Hp → Prop} {W : WX} (tk : Takes X W) (S : StO X.K B Δ ow σ H) (q : ∀ H', Same H H' → Q k H') : WTx X e σ H Q :=
  h (fun c => c = k) (fun _ => False) rfl ow σ H Q W tk S (fun c H' ec s => ec ▸ q H' s) (fun _ _ _ _ z => z.elim)
/-- proves a pure value, whatever W is -/
theorem jv_mk (h : ∀ ow σ H Q (W : WX), Takes X W → StO X.K B Δ ow σ H → (∀ v H', Same H H' → Rep X.K (InO B ow) H' d v → Q v H') → WEx X e σ H Q) : JV X B Δ e d := fun P Ψ pd ow σ H Q W tk S q _ =>
  h ow σ H Q W tk S fun v H' s r => q d v H' pd s r
theorem tv_mk {k : Bool} (h : ∀ ow σ H Q (W : WX), Takes X W → StO X.K B Δ ow σ H → (∀ H', Same H H' → Q k H') → WTx X e σ H Q) : TV X B Δ e k := fun P Ψ pd ow σ H Q W tk S q _ =>
  h ow σ H Q W tk S fun H' s => q k H' pd s
/-- a value with a raise in it, by a value rule -/
theorem av_nil : AV X B Δ [] [] := fun P Ψ pd ow σ H Q W tk S q _ => wa_of pa_nil (q [] [] H pd (Same.refl H) Reps.nil)
theorem av_cons {es : List Expr} (he : JV X B Δ e d) (hr : AV X B Δ es ds) (hs : starEach (e :: es) X.env = (false, eval e X.env) :: starEach es X.env := by rfl) : AV X B Δ (e :: es) (d :: ds) := fun P Ψ pd ow σ H Q W tk S q _ =>
  wa_of (pa_cons peW paW hs) (he.use tk S fun v H1 s1 r1 => hr.use tk (S.up s1) fun vs H2 s2 r2 => q _ _ H2 pd (s1.trans s2) (Reps.cons (r1.up s2) r2))
theorem fresh_not {ow : Nat → Option Addr} {σ : L2.St} {H H1 : Hp} {p : Addr} {K : PySem.W.Frag} (S : StO K B Δ ow σ H) (s : Same H H1) (hp : H1 p = none) : ¬ InO B ow p := InO.fresh (a := p) S s hp
mutual
theorem Rep.swap {K : PySem.W.Frag} {O O' : Addr → Prop} {H : Hp} (ho : ∀ a o, ¬ O a → H a = some o → ¬ O' a) : ∀ (d : D) (v : V), Rep K O H d v → Rep K O' H d v
  | .non, _, h => by unfold Rep at h ⊢; exact h
  | .bl _, _, h => by unfold Rep at h ⊢; exact h
  | .int _, _, h => by unfold Rep at h ⊢; exact h
  | .str _, _, h => by unfold Rep at h ⊢; exact h
  | .tup xs, _, h => by
    unfold Rep at h ⊢
    obtain ⟨a, vs, e, r, q⟩ := h
    refine ⟨a, vs, e, ?_, Reps.swap ho xs vs q⟩
    rcases r with ⟨n, (r | ⟨o, r⟩) | r⟩ | r
    · exact .inl ⟨ho a _ n r, .inl (.inl r)⟩
    · exact .inl ⟨ho a _ n r, .inl (.inr ⟨o, r⟩)⟩
    · exact .inr fun H' => .inr r
    · exact .inr r
  | .lst xs, _, h => by
    unfold Rep at h ⊢
    obtain ⟨a, vs, e, n, r, q⟩ := h
    exact ⟨a, vs, e, ho a _ n r, r, Reps.swap ho xs vs q⟩
  | .scr ns, _, h => by
    unfold Rep at h ⊢
    obtain ⟨a, e, r⟩ := h
    refine ⟨a, e, ?_⟩
    rcases r with ⟨n, (r | ⟨o, r⟩) | r⟩ | r
    · exact .inl ⟨ho a _ n r, .inl (.inl r)⟩
    · exact .inl ⟨ho a _ n r, .inl (.inr ⟨o, r⟩)⟩
    · exact .inr fun H' => .inr r
    · exact .inr r
  | .obj C ns xs, _, h => by
    unfold Rep at h ⊢
    obtain ⟨a, dx, vs, e, n, r, l, q⟩ := h
    exact ⟨a, dx, vs, e, ho a _ n r, r, l, Reps.swap ho xs vs q⟩
  | .adr a, _, h => by unfold Rep at h ⊢; exact h
  | .dic ks xs, _, h => by
    unfold Rep at h ⊢
    obtain ⟨a, vs, e, n, r, l, q⟩ := h
    exact ⟨a, vs, e, r.elim (fun r => ho a _ n r) (fun ⟨_, r⟩ => ho a _ n r), r, l, Reps.swap ho xs vs q⟩
theorem Reps.swap {K : PySem.W.Frag} {O O' : Addr → Prop} {H : Hp} (ho : ∀ a o, ¬ O a → H a = some o → ¬ O' a) : ∀ (ds : List D) (vs : List V), Reps K O H ds vs → Reps K O' H ds vs
  | [], _, h => by unfold Reps at h ⊢; exact h
  | d :: ds, _, h => by
    unfold Reps at h ⊢
    obtain ⟨v, ws, e, r, q⟩ := h
    exact ⟨v, ws, e, Rep.swap ho d v r, Reps.swap ho ds ws q⟩
end
theorem Rep.add {K : PySem.W.Frag} {O : Addr → Prop} {H : Hp} {p : Addr} {v : V} (hp : H p = none) (r : Rep K O H d v) : Rep K (fun a => O a ∨ a = p) H d v :=
  Rep.swap (fun a o n e z => z.elim n fun q => by rw [q, hp] at e; cases e) d v r
theorem Reps.add {K : PySem.W.Frag} {O : Addr → Prop} {H : Hp} {p : Addr} {v : List V} (hp : H p = none) (r : Reps K O H ds v) : Reps K (fun a => O a ∨ a = p) H ds v :=
  Reps.swap (fun a o n e z => z.elim n fun q => by rw [q, hp] at e; cases e) ds v r
theorem new_tup {K : PySem.W.Frag} {O : Addr → Prop} {H : Hp} {p : Addr} {vs : List V} (n : ¬ O p) (hp : H p = none) (r : Reps K O H ds vs) : Rep K O (upd H p (.tup vs)) (.tup ds) (.ref p) :=
  tup_rep (.inl ⟨n, SqT.of upd_same⟩) (r.up (same_new hp))
theorem jv_tup {es : List Expr} {k : Nat} (h : AV X B Δ es ds) (hl : ds.length ≤ 100000 := by exact Nat.le_of_ble_eq_true rfl) : JV X B Δ (.Tuple es k pos) (.tup ds) := jv_mk fun ow σ H Q W tk S q =>
  we_of (pe_tup paW) (h.use tk S fun vs H1 s1 r1 => ⟨by rw [← r1.len]; exact le_line hl, fun p hp => q _ _ (s1.trans (same_new hp)) (new_tup (fresh_not S s1 hp) hp r1)⟩)
/-- a list that is new -/
def FL (X : Cx) (B : Bas) (Δ : List Sl) (e : Expr) (ds : List D) : Prop :=
  ∀ (ow : Nat → Option Addr) (σ : L2.St) (H : Hp) (Q : VK) (W : WX), Takes X W → StO X.K B Δ ow σ H → (∀ p vs H', H p = none → Same H H' → H' p = some (.lst vs) → Reps X.K (fun a => InO B ow a ∨ a = p) H' ds vs → Q (.ref p) H') → WEx X e σ H Q
/-- a list that stands -/
def LV (X : Cx) (B : Bas) (Δ : List Sl) (e : Expr) (ds : List D) : Prop :=
  ∀ (ow : Nat → Option Addr) (σ : L2.St) (H : Hp) (Q : VK) (W : WX), Takes X W → StO X.K B Δ ow σ H → (∀ p vs H', Same H H' → H' p = some (.lst vs) → Reps X.K (InO B ow) H' ds vs → Q (.ref p) H') → WEx X e σ H Q
/-- a list to read -/
def RV (X : Cx) (B : Bas) (Δ : List Sl) (e : Expr) (ds : List D) : Prop :=
  ∀ (ow : Nat → Option Addr) (σ : L2.St) (H : Hp) (Q : VK) (W : WX), Takes X W → StO X.K B Δ ow σ H → (∀ p vs H', Same H H' → SqL X.K H' p vs → Reps X.K (InO B ow) H' ds vs → Q (.ref p) H') → WEx X e σ H Q
/-- a list or tuple to read -/
def QV (X : Cx) (B : Bas) (Δ : List Sl) (e : Expr) (ds : List D) : Prop :=
  ∀ (ow : Nat → Option Addr) (σ : L2.St) (H : Hp) (Q : VK) (W : WX), Takes X W → StO X.K B Δ ow σ H → (∀ p vs H', Same H H' → (SqL X.K H' p vs ∨ SqT X.K H' p vs) → Reps X.K (InO B ow) H' ds vs → Q (.ref p) H') → WEx X e σ H Q
theorem free_back {H H' : Hp} {p : Addr} (s : Same H H') (h : H' p = none) : H p = none := s.free h
theorem fl_lst {es : List Expr} (h : AV X B Δ es ds) (hl : ds.length ≤ 100000 := by exact Nat.le_of_ble_eq_true rfl) : FL X B Δ (.List es pos) ds := fun ow σ H Q W tk S q =>
  we_of (pe_lst paW) (h.use tk S fun vs H1 s1 r1 => ⟨by rw [← r1.len]; exact le_line hl, fun p hp => q p vs _ (free_back s1 hp) (s1.trans (same_new hp)) upd_same ((r1.add hp).up (same_new hp))⟩)
theorem FL.jv (h : FL X B Δ e ds) : JV X B Δ e (.lst ds) := jv_mk fun ow σ H Q W tk S q =>
  h ow σ H Q W tk S fun p vs H' hp s hL r => q _ _ s (lst_rep (fresh_not S (Same.refl H) hp) hL (r.less fun _ z => .inl z))
theorem FL.lv (h : FL X B Δ e ds) : LV X B Δ e ds := fun ow σ H Q W tk S q => h ow σ H Q W tk S fun p vs H' hp s hL r => q p vs H' s hL (r.less fun _ z => .inl z)
theorem JV.lv (h : JV X B Δ e (.lst ds)) : LV X B Δ e ds := fun ow σ H Q W tk S q => h.use tk S fun v H' s r => by
  obtain ⟨p, vs, rfl, n, hL, r'⟩ := rep_lst r
  exact q p vs H' s hL r'
theorem LV.rv (h : LV X B Δ e ds) : RV X B Δ e ds := fun ow σ H Q W tk S q => h ow σ H Q W tk S fun p vs H' s hL r => q p vs H' s (SqL.of hL) r
theorem JV.sv {ns : List Int} (h : JV X B Δ e (.scr ns)) : RV X B Δ e (ns.map D.int) := fun ow σ H Q W tk S q => h.use tk S fun v H' s r => by
  obtain ⟨p, rfl, hL⟩ := rep_scr r
  exact q p _ H' s hL.sq reps_of_ints
theorem lv_own (i : Nat) {x : Str} (h : Δ[i]? = some (.own ds) := by rfl) (hN : X.N[i]? = some x := by rfl) (hv : Vis X.env.scope x := by first | exact Or.inl rfl | exact Or.inr (Or.inl rfl) | exact Or.inr (Or.inr rfl))
    (hd : (x == ("__debug__" : Str)) = false := by decide) (hcd : (x == ("__classdict__" : Str)) = false := by decide) : LV X B Δ (.Name x pos) ds := fun ow σ H Q W tk S q =>
  we_of (pe_var hN hv hd hcd) (by
    obtain ⟨p, vs, e1, _, e3, r⟩ := S.sl i _ h
    exact ⟨_, e1, q p vs H (Same.refl H) e3 r⟩)
theorem RV.qv (h : RV X B Δ e ds) : QV X B Δ e ds := fun ow σ H Q W tk S q => h ow σ H Q W tk S fun p vs H' s hL r => q p vs H' s (.inl hL) r
theorem JV.qv (h : JV X B Δ e (.tup ds)) : QV X B Δ e ds := fun ow σ H Q W tk S q => h.use tk S fun v H' s r => by
  obtain ⟨p, vs, rfl, hL, r'⟩ := rep_tup r
  exact q p vs H' s (.inr hL.sq) r'
theorem FL.is {es : List D} (h : FL X B Δ e ds) (q : ds = es) : FL X B Δ e es := q ▸ h
theorem atI_rep {K : PySem.W.Frag} {O : Addr → Prop} {H : Hp} {vs : List V} {i : Int} (r : Reps K O H ds vs) (h : atI ds i = some d) : ∃ v, atI vs i = some v ∧ Rep K O H d v := by
  unfold atI at h ⊢
  rw [← r.len]
  cases hj : ixN ds.length i with
  | none => rw [hj] at h; cases h
  | some j =>
    rw [hj] at h
    exact r.get h
theorem jv_ixL {i : Int} (ha : RV X B Δ a ds) (hb : JV X B Δ b (.int i)) (h : atI ds i = some d) (hs : PlainIx b := by exact fun _ _ => rfl) : JV X B Δ (.Subscript a b pos) d := jv_mk fun ow σ H Q W tk S q =>
  we_of (pe_ix ix_list peW peW hs) (ha ow σ H _ W tk S fun p vs H1 s1 hL r1 => hb.use tk (S.up s1) fun v H2 s2 r2 => by
    obtain ⟨w, e, rw'⟩ := atI_rep (r1.up s2) h
    exact ⟨p, vs, i, w, rfl, rep_int r2, sqL_same (fun o e => s2 _ o e) hL, e, q _ _ (s1.trans s2) rw'⟩)
theorem jv_ixT {i : Int} (ha : JV X B Δ a (.tup ds)) (hb : JV X B Δ b (.int i)) (h : atI ds i = some d) (hs : PlainIx b := by exact fun _ _ => rfl) : JV X B Δ (.Subscript a b pos) d := jv_mk fun ow σ H Q W tk S q =>
  we_of (pe_ix ix_tup peW peW hs) (ha.use tk S fun u H1 s1 r1 => hb.use tk (S.up s1) fun v H2 s2 r2 => by
    obtain ⟨p, vs, rfl, hL, r1'⟩ := rep_tup r1
    obtain ⟨w, e, rw'⟩ := atI_rep (r1'.up s2) h
    exact ⟨p, vs, i, w, rfl, rep_int r2, sqT_same (fun o e => s2 _ o e) hL.sq, e, q _ _ (s1.trans s2) rw'⟩)
def cutD {α : Type} (xs : List α) (lo hi : Option Int) : List α := (xs.drop (HT.sIx xs.length 0 lo)).take (HT.sIx xs.length xs.length hi - HT.sIx xs.length 0 lo)
theorem cut_rep {K : PySem.W.Frag} {O : Addr → Prop} {H : Hp} {vs : List V} {lo hi : Option Int} (r : Reps K O H ds vs) : Reps K O H (cutD ds lo hi) (cutV vs lo hi) := by
  unfold cutD cutV
  rw [← r.len]
  exact Reps.take _ (Reps.drop _ r)
/-- an optional bound -/
def OV (X : Cx) (B : Bas) (Δ : List Sl) (e : Option Expr) (i : Option Int) : Prop := ∃ t : TO, PO X e t ∧ ∀ (ow : Nat → Option Addr) (σ : L2.St) (H : Hp) (Q : Option Int → Hp → Prop) (W : WX), Takes X W → StO X.K B Δ ow σ H → (∀ H', Same H H' → Q i H') → t σ H Q
theorem ov_none : OV X B Δ none none := ⟨_, po_none, fun _ _ H _ _ _ _ q => q H (Same.refl H)⟩
theorem ov_some {i : Int} (h : JV X B Δ e (.int i)) : OV X B Δ (some e) (some i) := ⟨_, po_some peW, fun _ _ H _ _ tk S q => h.use tk S fun v H' s r => ⟨i, rep_int r, q H' s⟩⟩
theorem fl_sl {lo hi : Option Expr} {l u : Option Int} {p2 : Pos} (ha : RV X B Δ a ds) (hl : OV X B Δ lo l) (hu : OV X B Δ hi u) : FL X B Δ (.Subscript a (.Slice lo hi none p2) pos) (cutD ds l u) := fun ow σ H Q W tk S q => by
  obtain ⟨tl, pl, ql⟩ := hl
  obtain ⟨tu, pu, qu⟩ := hu
  refine we_of (pe_slice sl_list peW pl pu) (ha ow σ H _ W tk S fun p vs H1 s1 hL r1 => ql ow σ H1 _ W tk (S.up s1) fun H2 s2 => qu ow σ H2 _ W tk (S.up (s1.trans s2)) fun H3 s3 => ?_)
  refine ⟨p, vs, rfl, sqL_same (fun o e => (s2.trans s3) _ o e) hL, fun p hp => ?_⟩
  exact q p _ _ (free_back ((s1.trans s2).trans s3) hp) (((s1.trans s2).trans s3).trans (same_new hp)) upd_same ((cut_rep ((r1.up (s2.trans s3)).add hp)).up (same_new hp))
def CallS (K : PySem.W.Frag) (r : List V → Hp → VK → Prop) (ds : List D) (z : D) : Prop :=
  ∀ (O : Addr → Prop) (H : Hp) (vs : List V) (Q : VK), (∀ a, O a → ∃ o, H a = some o) → Reps K O H ds vs → (∀ t H', Same H H' → Rep K O H' z t → Q t H') → r vs H Q
theorem jv_cb {r : List V → Hp → VK → Prop} {id : String} {x : Str} {p : Pos} {es : List Expr} (hc : CallR X (.builtin id) r) (ha : AV X B Δ (e :: es) ds) (hs : CallS X.K r ds z) (hm : X.mg x = none) (hv : bootBuiltins x = some (.builtin id)) (hg : Gl X x := by rfl)
    (hn : x ≠ "__name__" := by decide) (hdb : (x == ("__debug__" : Str)) = false := by decide)
    (he : starEach (e :: es) X.env = (false, eval e X.env) :: starEach es X.env := by rfl) (hpl : (backTo pos (starEach es X.env)).any (·.1) = false := by rfl) : JV X B Δ (.Call (.Name x p) (e :: es) [] pos) z := jv_mk fun ow σ H Q W tk S q =>
  we_of (pe_callB hc hg hm hv paW hn hdb he hpl) (ha.use tk S fun vs H1 s1 r1 => hs _ H1 vs Q (S.up s1).live r1 fun t H' s' r' => q t H' (s1.trans s') r')
theorem jv_ct {r : List V → Hp → VK → Prop} {T : String} {x : Str} {p : Pos} {es : List Expr} (hc : CallR X (.type T) r) (ha : AV X B Δ (e :: es) ds) (hs : CallS X.K r ds z) (hm : X.mg x = none) (hv : bootBuiltins x = some (.type T)) (hg : Gl X x := by rfl)
    (hn : x ≠ "__name__" := by decide) (hdb : (x == ("__debug__" : Str)) = false := by decide)
    (he : starEach (e :: es) X.env = (false, eval e X.env) :: starEach es X.env := by rfl) (hpl : (backTo pos (starEach es X.env)).any (·.1) = false := by rfl) : JV X B Δ (.Call (.Name x p) (e :: es) [] pos) z := jv_mk fun ow σ H Q W tk S q =>
  we_of (pe_callTy hc hg hm hv paW hn hdb he hpl) (ha.use tk S fun vs H1 s1 r1 => hs _ H1 vs Q (S.up s1).live r1 fun t H' s' r' => q t H' (s1.trans s') r')
theorem reps1 {K : PySem.W.Frag} {O : Addr → Prop} {H : Hp} {vs : List V} (h : Reps K O H [x] vs) : ∃ v, vs = [v] ∧ Rep K O H x v := by
  obtain ⟨v, ws, rfl, r, h'⟩ := Reps.cons_inv h
  rw [Reps.nil_inv h']
  exact ⟨v, rfl, r⟩
theorem reps2 {K : PySem.W.Frag} {O : Addr → Prop} {H : Hp} {vs : List V} (h : Reps K O H [x, y] vs) : ∃ v w, vs = [v, w] ∧ Rep K O H x v ∧ Rep K O H y w := by
  obtain ⟨v, ws, rfl, r, h'⟩ := Reps.cons_inv h
  obtain ⟨w, rfl, r2⟩ := reps1 h'
  exact ⟨v, w, rfl, r, r2⟩
variable {i j : Int} {p : Pos}
theorem jv_callInt (h : JV X B Δ e (.int i)) (hm : X.mg "int" = none) (hg : Gl X "int" := by rfl) (he : starEach [e] X.env = [(false, eval e X.env)] := by rfl) : JV X B Δ (.Call (.Name "int" p) [e] [] pos) (.int i) :=
  jv_ct call_int1 (av_cons h av_nil he) (fun O H vs Q _ r q => by
    obtain ⟨v, rfl, rv⟩ := reps1 r
    rw [rep_int rv]
    exact .inl ⟨i, rfl, q _ H (Same.refl H) int_rep⟩) hm (by decide +kernel) hg (by decide) (by decide) he
theorem jv_abs (h : JV X B Δ e (.int i)) (hm : X.mg "abs" = none) (hg : Gl X "abs" := by rfl) (he : starEach [e] X.env = [(false, eval e X.env)] := by rfl) : JV X B Δ (.Call (.Name "abs" p) [e] [] pos) (.int (if i < 0 then -i else i)) :=
  jv_cb call_abs (av_cons h av_nil he) (fun O H vs Q _ r q => by
    obtain ⟨v, rfl, rv⟩ := reps1 r
    rw [rep_int rv]
    exact ⟨i, rfl, q _ H (Same.refl H) int_rep⟩) hm (by decide +kernel) hg (by decide) (by decide) he
theorem jv_max2 (hc : X.calm = true) (ha : JV X B Δ a (.int i)) (hb : JV X B Δ b (.int j)) (hm : X.mg "max" = none) (hg : Gl X "max" := by rfl) (he : starEach [a, b] X.env = [(false, eval a X.env), (false, eval b X.env)] := by rfl) (he2 : starEach [b] X.env = [(false, eval b X.env)] := by rfl) (hpl : (backTo pos (starEach [b] X.env)).any (·.1) = false := by rfl) :
    JV X B Δ (.Call (.Name "max" p) [a, b] [] pos) (.int (if j > i then j else i)) :=
  jv_cb (call_max2 hc) (av_cons ha (av_cons hb av_nil he2) (by rw [he, he2])) (fun O H vs Q _ r q => by
    obtain ⟨v, w, rfl, rv, rw'⟩ := reps2 r
    rw [rep_int rv, rep_int rw']
    exact ⟨i, j, rfl, q _ H (Same.refl H) int_rep⟩) hm (by decide +kernel) hg (by decide) (by decide) (by rw [he, he2]) hpl
theorem jv_min2 (hc : X.calm = true) (ha : JV X B Δ a (.int i)) (hb : JV X B Δ b (.int j)) (hm : X.mg "min" = none) (hg : Gl X "min" := by rfl) (he : starEach [a, b] X.env = [(false, eval a X.env), (false, eval b X.env)] := by rfl) (he2 : starEach [b] X.env = [(false, eval b X.env)] := by rfl) (hpl : (backTo pos (starEach [b] X.env)).any (·.1) = false := by rfl) :
    JV X B Δ (.Call (.Name "min" p) [a, b] [] pos) (.int (if j < i then j else i)) :=
  jv_cb (call_min2 hc) (av_cons ha (av_cons hb av_nil he2) (by rw [he, he2])) (fun O H vs Q _ r q => by
    obtain ⟨v, w, rfl, rv, rw'⟩ := reps2 r
    rw [rep_int rv, rep_int rw']
    exact ⟨i, j, rfl, q _ H (Same.refl H) int_rep⟩) hm (by decide +kernel) hg (by decide) (by decide) (by rw [he, he2]) hpl
/-- len of a list, a tuple -/
theorem jv_len (h : QV X B Δ e ds) (hm : X.mg "len" = none) (hg : Gl X "len" := by rfl) (he : starEach [e] X.env = [(false, eval e X.env)] := by rfl) : JV X B Δ (.Call (.Name "len" p) [e] [] pos) (.int (ds.length : Int)) := jv_mk fun ow σ H Q W tk S q =>
  we_of (pe_callB call_len_seq hg hm boot_len (pa_cons peW pa_nil he) (by decide) (by decide) he rfl) (h ow σ H _ W tk S fun p vs H1 s1 hL r1 => ⟨p, vs, rfl, hL, q _ _ s1 (r1.len ▸ int_rep)⟩)
theorem jv_tupL (h : RV X B Δ e ds) (hm : X.mg "tuple" = none) (hg : Gl X "tuple" := by rfl) (he : starEach [e] X.env = [(false, eval e X.env)] := by rfl) : JV X B Δ (.Call (.Name "tuple" p) [e] [] pos) (.tup ds) := jv_mk fun ow σ H Q W tk S q =>
  we_of (pe_callTy call_tuple_of hg hm (by decide +kernel) (pa_cons peW pa_nil he) (by decide) (by decide) he rfl) (h ow σ H _ W tk S fun p vs H1 s1 hL r1 =>
    ⟨p, vs, rfl, .inl ⟨hL, fun l hl => q _ _ (s1.trans (same_new hl)) (new_tup (fresh_not S s1 hl) hl r1)⟩⟩)
theorem fl_list (h : QV X B Δ e ds) (hm : X.mg "list" = none) (hg : Gl X "list" := by rfl) (he : starEach [e] X.env = [(false, eval e X.env)] := by rfl) : FL X B Δ (.Call (.Name "list" p) [e] [] pos) ds := fun ow σ H Q W tk S q =>
  we_of (pe_callTy call_list_of hg hm (by decide +kernel) (pa_cons peW pa_nil he) (by decide) (by decide) he rfl) (h ow σ H _ W tk S fun p vs H1 s1 hL r1 =>
    ⟨p, vs, rfl, hL, fun l hl => q l vs _ (free_back s1 hl) (s1.trans (same_new hl)) upd_same ((r1.add hl).up (same_new hl))⟩)
/-- xs + ys -/
theorem fl_cat {es : List D} (ha : LV X B Δ a ds) (hb : LV X B Δ b es) (hl : ds.length + es.length ≤ 100000) : FL X B Δ (.BinOp a .Add b pos) (ds ++ es) := fun ow σ H Q W tk S q =>
  we_of (pe_op op_cat peW peW) (ha ow σ H _ W tk S fun p vs H1 s1 hL r1 => hb ow σ H1 _ W tk (S.up s1) fun p2 ws H2 s2 hL2 r2 =>
    ⟨p, p2, vs, ws, rfl, rfl, s2 _ _ hL, hL2, by rw [← r1.len, ← r2.len]; exact le_line hl, fun l hl => q l _ _ (free_back (s1.trans s2) hl) ((s1.trans s2).trans (same_new hl)) upd_same (((Reps.app (r1.up s2) r2).add hl).up (same_new hl))⟩)
mutual
def pyD : D → Option PyData
  | .non => some .none
  | .bl b => some (.bool b)
  | .int i => some (.int i)
  | .str s => some (.str s)
  | .tup xs => (pyDs xs).map .tuple
  | .lst xs => (pyDs xs).map .list
  | .scr _ => none
  | .obj _ _ _ => none
  | .adr _ => none
  | .dic _ _ => none
def pyDs : List D → Option (List PyData)
  | [] => some []
  | d :: ds => (pyD d).bind fun x => (pyDs ds).map fun xs => x :: xs
end
mutual
theorem dp_of {K : PySem.W.Frag} {O : Addr → Prop} {H : Hp} : ∀ (d : D) (v : V) (x : PyData), pyD d = some x → Rep K O H d v → Dp K H v x
  | .non, v, x, e, r => by unfold pyD at e; cases e; rw [rep_non r]; exact .non
  | .bl b, v, x, e, r => by unfold pyD at e; cases e; rw [rep_bl r]; exact .bl b
  | .int b, v, x, e, r => by unfold pyD at e; cases e; rw [rep_int r]; exact .int b
  | .str b, v, x, e, r => by unfold pyD at e; cases e; rw [rep_str r]; exact .str b
  | .tup xs, v, x, e, r => by
    unfold pyD at e
    obtain ⟨p, vs, rfl, hL, r'⟩ := rep_tup r
    cases h : pyDs xs with
    | none => rw [h] at e; cases e
    | some ys =>
      rw [h] at e
      cases e
      exact .tup hL.sq (dps_of xs vs ys h r')
  | .lst xs, v, x, e, r => by
    unfold pyD at e
    obtain ⟨p, vs, rfl, nO, hL, r'⟩ := rep_lst r
    cases h : pyDs xs with
    | none => rw [h] at e; cases e
    | some ys =>
      rw [h] at e
      cases e
      exact .lst (SqL.of hL) (dps_of xs vs ys h r')
  | .scr _, v, x, e, r => by unfold pyD at e; cases e
  | .obj _ _ _, v, x, e, r => by unfold pyD at e; cases e
  | .adr _, v, x, e, r => by unfold pyD at e; cases e
  | .dic _ _, v, x, e, r => by unfold pyD at e; cases e
theorem dps_of {K : PySem.W.Frag} {O : Addr → Prop} {H : Hp} : ∀ (d : List D) (v : List V) (x : List PyData), pyDs d = some x → Reps K O H d v → DpAll K H v x
  | [], v, x, e, r => by unfold pyDs at e; cases e; rw [Reps.nil_inv r]; exact .nil
  | d :: ds, v, x, e, r => by
    unfold pyDs at e
    obtain ⟨v, vs, rfl, r1, r2⟩ := Reps.cons_inv r
    cases h : pyD d with
    | none => rw [h] at e; cases e
    | some y =>
      rw [h] at e
      cases h2 : pyDs ds with
      | none => rw [h2] at e; cases e
      | some ys =>
        rw [h2] at e
        cases e
        exact .cons (dp_of d v y h r1) (dps_of ds vs ys h2 r2)
end
/-- the answer of == on data -/
def EqB (x y : D) (k : Bool) : Prop := ∃ p q, pyD x = some p ∧ pyD y = some q ∧ SeqAt.shaped p = true ∧ SeqAt.shaped q = true ∧ PyData.eqv p q = k
theorem opS_eqD {K : PySem.W.Frag} {k : Bool} (h : EqB x y k) : OpS K (rEqD K) x y (.bl k) := fun O H u v Q _ ru rv q => by
  obtain ⟨p1, p2, e1, e2, s1, s2, e⟩ := h
  subst e
  exact ⟨p1, p2, dp_of x u p1 e1 ru, dp_of y v p2 e2 rv, s1, s2, q _ H (Same.refl H) bl_rep⟩
theorem opS_neD {K : PySem.W.Frag} {k : Bool} (h : EqB x y k) : OpS K (rNeD K) x y (.bl (!k)) := fun O H u v Q _ ru rv q => by
  obtain ⟨p1, p2, e1, e2, s1, s2, e⟩ := h
  subst e
  exact ⟨p1, p2, dp_of x u p1 e1 ru, dp_of y v p2 e2 rv, s1, s2, q _ H (Same.refl H) bl_rep⟩
/-- of a list that is being filled -/
theorem LV.dp {ow : Nat → Option Addr} {H : Hp} {p : Addr} {vs : List V} {q : PyData} (e : pyD (.lst ds) = some q) (hL : H p = some (.lst vs)) (r : Reps X.K (InO B ow) H ds vs) : Dp X.K H (.ref p) q := by
  unfold pyD at e
  cases h : pyDs ds with
  | none => rw [h] at e; cases e
  | some ys =>
    rw [h] at e
    cases e
    exact .lst (SqL.of hL) (dps_of ds vs ys h r)
theorem jv_eqL {es : List D} {k : Bool} (hu : X.A.units + 64 < cLine) (ha : LV X B Δ a ds) (hb : LV X B Δ b es) (h : EqB (.lst ds) (.lst es) k) : JV X B Δ (.Compare a [.Eq] [b] pos) (.bl k) := jv_mk fun ow σ H Q W tk S q =>
  we_of (pe_cmpR (op_eqD hu) peW peW (nomark _)) (ha ow σ H _ W tk S fun p vs H1 s1 hL r1 => hb ow σ H1 _ W tk (S.up s1) fun p2 ws H2 s2 hL2 r2 => by
    obtain ⟨p1, p2, e1, e2, z1, z2, e⟩ := h
    subst e
    exact ⟨p1, p2, LV.dp e1 (s2 _ _ hL) (r1.up s2), LV.dp e2 hL2 r2, z1, z2, q _ _ (s1.trans s2) bl_rep⟩)
end
end Dy
namespace Dy
open PySem PySem.Spec PyProof.Rows L2
section
variable {K : PySem.W.Frag} {B : Bas} {Δ : List Sl} {ow : Nat → Option Addr} {σ : L2.St} {H H' : Hp}
/-- an owned object is written -/
theorem StO.write (S : StO K B Δ ow σ H) {i : Nat} {a : Addr} {o : HO} {s : Sl} (hi : ow i = some a) (hs : SlOk K (InO B ow) ow σ (upd H a o) i s) : StO K B (Δ.set i s) ow σ (upd H a o) where
  base := fun b u e => by
    have n : b ≠ a := fun z => by
      rw [z, (S.sep i a hi).1] at e
      cases e
    rw [upd_ne n]
    exact S.base b u e
  live := fun b hb => by
    by_cases n : b = a
    · exact ⟨o, by rw [n]; exact upd_same⟩
    · rw [upd_ne n]
      exact S.live b hb
  sep := S.sep
  inj := S.inj
  len := by simp [S.len]
  sl := fun j t e => by
    by_cases hj : j = i
    · subst hj
      have hl : j < Δ.length := by
        have := (List.getElem?_eq_some_iff.mp e).1
        simpa using this
      rw [List.getElem?_set_self hl] at e
      cases e
      exact hs
    · rw [List.getElem?_set_ne (Ne.symm hj)] at e
      have h := S.sl j t e
      have so : SameO (InO B ow) H (upd H a o) := fun b u n e => by
        rw [upd_ne (fun z => n (.inr ⟨i, by rw [z]; exact hi⟩))]
        exact e
      have ne : ∀ b, ow j = some b → b ≠ a := fun b hb z => hj (S.inj j i a (z ▸ hb) hi)
      cases t with
      | un => trivial
      | val d => obtain ⟨v, e1, r⟩ := h; exact ⟨v, e1, Rep.mono so (fun _ z => z) _ _ r⟩
      | own ds => obtain ⟨b, vs, e1, e2, e3, r⟩ := h; exact ⟨b, vs, e1, e2, by rw [upd_ne (ne b e2)]; exact e3, Reps.mono so (fun _ z => z) _ _ r⟩
      | exc b => exact h
      | slf b dx C ns ds => obtain ⟨vs, e1, e2, e3, l, r⟩ := h; exact ⟨vs, e1, e2, by rw [upd_ne (ne b e2)]; exact e3, l, Reps.mono so (fun _ z => z) _ _ r⟩
      | cel b c => exact ⟨h.1, h.2.mono so (fun _ z => z) fun o e => by rw [upd_ne (ne b h.1)]; exact e⟩
theorem inO_put {i : Nat} {x : Option Addr} {a : Addr} (h : InO B (putO ow i x) a) : InO B ow a ∨ x = some a := by
  rcases h with h | ⟨j, h⟩
  · exact .inl (.inl h)
  · by_cases hj : j = i
    · rw [hj, putO_same] at h
      exact .inr h
    · rw [putO_ne hj] at h
      exact .inl (.inr ⟨j, h⟩)
/-- a new list at a slot -/
theorem StO.own (S : StO K B Δ ow σ H) {i : Nat} {p : Addr} {vs : List V} {ds : List D} (hp : H p = none) (s : Same H H') (hL : H' p = some (.lst vs)) (r : Reps K (fun a => InO B ow a ∨ a = p) H' ds vs) :
    StO K B (Δ.set i (.own ds)) (putO ow i (some p)) (σ.set i (some (.ref p))) H' := by
  have np : ∀ b o, H b = some o → b ≠ p := fun b o e z => by rw [z, hp] at e; cases e
  have sub : ∀ a, InO B (putO ow i (some p)) a → InO B ow a ∨ a = p := fun a h => (inO_put h).elim .inl fun z => .inr (Option.some.inj z).symm
  refine ⟨S.base.trans s, fun a h => ?_, fun j a h => ?_, fun j k a h1 h2 => ?_, by simp [S.len], fun j t e => ?_⟩
  · rcases sub a h with h | h
    · obtain ⟨o, e⟩ := S.live a h
      exact ⟨o, s a o e⟩
    · exact ⟨_, h ▸ hL⟩
  · by_cases hj : j = i
    · rw [hj, putO_same] at h
      cases h
      refine ⟨?_, fun z => ?_⟩
      · cases q : B.H0 p with
        | none => rfl
        | some o => exact absurd rfl (np p o (S.base p o q))
      · obtain ⟨o, e⟩ := S.live p (.inl z)
        exact np p o e rfl
    · rw [putO_ne hj] at h
      exact S.sep j a h
  · have nw : ∀ j, j ≠ i → ow j = some p → False := fun j _ z => by
      obtain ⟨o, e⟩ := S.live p (.inr ⟨j, z⟩)
      exact np p o e rfl
    by_cases hj : j = i
    · by_cases hk : k = i
      · rw [hj, hk]
      · rw [hj, putO_same] at h1
        rw [putO_ne hk] at h2
        cases h1
        exact (nw k hk h2).elim
    · by_cases hk : k = i
      · rw [hk, putO_same] at h2
        rw [putO_ne hj] at h1
        cases h2
        exact (nw j hj h1).elim
      · rw [putO_ne hj] at h1
        rw [putO_ne hk] at h2
        exact S.inj j k a h1 h2
  · by_cases hj : j = i
    · subst hj
      have hl : j < Δ.length := by
        have := (List.getElem?_eq_some_iff.mp e).1
        simpa using this
      rw [List.getElem?_set_self hl] at e
      cases e
      exact ⟨p, vs, List.getElem?_set_self (by rw [S.len]; exact hl), putO_same, hL, r.less sub⟩
    · rw [List.getElem?_set_ne (Ne.symm hj)] at e
      have h := S.sl j t e
      have hσ : (σ.set i (some (.ref p)))[j]? = σ[j]? := List.getElem?_set_ne (Ne.symm hj)
      have up1 : ∀ {d : D} {v : V}, Rep K (InO B ow) H d v → Rep K (InO B (putO ow i (some p))) H' d v := fun r => ((r.add hp).up s).less sub
      have up2 : ∀ {d : List D} {v : List V}, Reps K (InO B ow) H d v → Reps K (InO B (putO ow i (some p))) H' d v := fun r => ((r.add hp).up s).less sub
      cases t with
      | un => trivial
      | val d => obtain ⟨v, e1, r⟩ := h; exact ⟨v, hσ.trans e1, up1 r⟩
      | own ds => obtain ⟨b, vs, e1, e2, e3, r⟩ := h; exact ⟨b, vs, hσ.trans e1, by rw [putO_ne hj]; exact e2, s _ _ e3, up2 r⟩
      | exc b => exact hσ.trans h
      | slf b dx C ns ds => obtain ⟨vs, e1, e2, e3, l, r⟩ := h; exact ⟨vs, hσ.trans e1, by rw [putO_ne hj]; exact e2, s _ _ e3, l, up2 r⟩
      | cel b c =>
        exact ⟨by rw [putO_ne hj]; exact h.1, h.2.via up2 fun o e => s _ _ e⟩
/-- an owned list is given up: from now on it is a value -/
theorem StO.freeze (S : StO K B Δ ow σ H) {i : Nat} {ds : List D} (h : Δ[i]? = some (.own ds)) : StO K B (Δ.set i (.val (.lst ds))) (putO ow i none) σ H := by
  obtain ⟨a, vs, e1, e2, e3, r⟩ := S.sl i _ h
  have sub : ∀ b, InO B (putO ow i none) b → InO B ow b := fun b z => (inO_put z).elim id fun q => nomatch q
  have hl : i < Δ.length := (List.getElem?_eq_some_iff.mp h).1
  have na : ¬ InO B (putO ow i none) a := fun z => by
    rcases z with z | ⟨j, z⟩
    · exact (S.sep i a e2).2 z
    · by_cases hj : j = i
      · rw [hj, putO_same] at z
        cases z
      · rw [putO_ne hj] at z
        exact hj (S.inj j i a z e2)
  refine ⟨S.base, fun b z => S.live b (sub b z), fun j b z => ?_, fun j k b z1 z2 => ?_, by simp [S.len], fun j t e => ?_⟩
  · by_cases hj : j = i
    · rw [hj, putO_same] at z
      cases z
    · rw [putO_ne hj] at z
      exact S.sep j b z
  · by_cases hj : j = i
    · rw [hj, putO_same] at z1
      cases z1
    · by_cases hk : k = i
      · rw [hk, putO_same] at z2
        cases z2
      · rw [putO_ne hj] at z1
        rw [putO_ne hk] at z2
        exact S.inj j k b z1 z2
  · by_cases hj : j = i
    · subst hj
      rw [List.getElem?_set_self hl] at e
      cases e
      exact ⟨_, e1, lst_rep na e3 (r.less sub)⟩
    · rw [List.getElem?_set_ne (Ne.symm hj)] at e
      have h := S.sl j t e
      cases t with
      | un => trivial
      | val d => obtain ⟨v, e1, r⟩ := h; exact ⟨v, e1, r.less sub⟩
      | own ds => obtain ⟨b, vs, e1, e2, e3, r⟩ := h; exact ⟨b, vs, e1, by rw [putO_ne hj]; exact e2, e3, r.less sub⟩
      | exc b => exact h
      | slf b dx C ns ds => obtain ⟨vs, e1, e2, e3, l, r⟩ := h; exact ⟨vs, e1, by rw [putO_ne hj]; exact e2, e3, l, r.less sub⟩
      | cel b c => exact ⟨by rw [putO_ne hj]; exact h.1, h.2.less sub⟩
/-- another base -/
theorem StO.reb {B' : Bas} (S : StO K B' Δ ow σ H) (s : Same B.H0 B'.H0) (o : B'.Oc = B.Oc) : StO K B Δ ow σ H := by
  have e : InO B ow = InO B' ow := by unfold InO; rw [o]
  exact ⟨s.trans S.base, fun a h => S.live a (e ▸ h), fun i a h => ⟨s.free (S.sep i a h).1, o ▸ (S.sep i a h).2⟩, S.inj, S.len, fun i t h => e ▸ S.sl i t h⟩
open Classical in
/-- the heap but for what is owned -/
noncomputable def maskH (ow : Nat → Option Addr) (H : Hp) : Hp := fun a => if ∃ i, ow i = some a then none else H a
theorem maskH_some {a : Addr} {o : HO} (n : ¬ ∃ i, ow i = some a) (h : H a = some o) : maskH ow H a = some o := by unfold maskH; rw [if_neg n]; exact h
theorem maskH_own {a : Addr} {i : Nat} (h : ow i = some a) : maskH ow H a = none := by unfold maskH; rw [if_pos ⟨i, h⟩]
theorem maskH_same : Same (maskH ow H) H := fun a o e => by
  unfold maskH at e
  split at e
  · cases e
  · exact e
noncomputable def Bas.at (B : Bas) (ow : Nat → Option Addr) (H : Hp) : Bas := ⟨maskH ow H, B.Oc⟩
theorem StO.fresh (S : StO K B Δ ow σ H) : StO K (B.at ow H) Δ ow σ H :=
  ⟨maskH_same, S.live, fun i a h => ⟨maskH_own h, (S.sep i a h).2⟩, S.inj, S.len, S.sl⟩
theorem StO.backBase (S : StO K B Δ ow σ H) : Same B.H0 (B.at ow H).H0 := fun a o e => maskH_some (fun ⟨i, z⟩ => by rw [(S.sep i a z).1] at e; cases e) (S.base a o e)
/-- what stood at the base stands -/
theorem Rep.keep {Δ' : List Sl} {ow' : Nat → Option Addr} {σ' : L2.St} {d : D} {v : V} (r : Rep K (InO B ow) H d v) (S' : StO K (B.at ow H) Δ' ow' σ' H') : Rep K (InO (B.at ow H) ow') H' d v := by
  have r1 : Rep K (InO B ow) (maskH ow H) d v := Rep.mono (fun a o n e => maskH_some (fun z => n (.inr z)) e) (fun _ z => z) d v r
  have r2 : Rep K (InO (B.at ow H) ow') (maskH ow H) d v := Rep.swap (fun a o n e z => by
    rcases z with z | ⟨j, z⟩
    · exact n (.inl z)
    · have e' : maskH ow H a = none := (S'.sep j a z).1
      rw [e'] at e
      cases e) d v r1
  exact r2.up S'.base
end
section
variable {X : Cx} {B : Bas} {Δ : List Sl} {E : EndD} {st : Stmt} {rest body : List Stmt} {e a b : Expr} {d : D} {ds : List D} {pos : Pos} {P : D → Prop} {Ψ : Exn → Prop}
theorem js_nil (h : E.nx Δ) : Js X B Δ [] E := fun ow σ H De W tk S G => wss_of pss_nil (G.nx Δ ow σ H h S)
theorem js_cons (h : JS X B Δ st { E with nx := fun Δ' => Js X B Δ' rest E }) : Js X B Δ (st :: rest) E := fun ow σ H De W tk S G =>
  wss_of (pss_cons psW pssW) (h ow σ H { De with nx := WSs X rest De } W tk S ⟨fun Δ' ow' σ' H' h S' => h ow' σ' H' De W tk S' G, G.rt, G.bk, G.ct, G.xc⟩)
theorem Js.freeze (i : Nat) (h : Δ[i]? = some (.own ds)) (k : Js X B (Δ.set i (.val (.lst ds))) rest E) : Js X B Δ rest E := fun ow σ H De W tk S G => k _ σ H De W tk (S.freeze h) G
theorem Js.weak {Δ' : List Sl} (h : Le Δ Δ') (k : Js X B Δ' rest E) : Js X B Δ rest E := fun ow σ H De W tk S G => k ow σ H De W tk (S.weak h) G
theorem hears {ow : Nat → Option Addr} {σ : L2.St} {H : Hp} {De : Ends} {W : WX} (S : StO X.K B Δ ow σ H) (G : Good X B E De W) (hx : ∀ x, Ψ x → E.xc Δ x) : Hears X B ow H σ W Ψ := fun x cls dd H' p s r => G.xc Δ ow σ H' x cls dd (hx x p) (S.up s) r
theorem js_exprX (he : JE X B Δ e P Ψ) (k : ∀ d, P d → E.nx Δ) (kx : ∀ x, Ψ x → E.xc Δ x) (hs : swapsWith e none pos.line X.env = pure false := by rfl) : JS X B Δ (.Expr e pos) E := fun ow σ H De W tk S G =>
  ws_of (ps_expr peW hs) (he ow σ H _ W tk S (fun d v H' p s r => G.nx Δ ow σ H' (k d p) (S.up s)) (hears S G kx))
theorem js_retX (he : JE X B Δ e P Ψ) (k : ∀ d, P d → E.rt Δ d) (kx : ∀ x, Ψ x → E.xc Δ x) : JS X B Δ (.Return (some e) pos) E := fun ow σ H De W tk S G =>
  ws_of (ps_ret peW) (he ow σ H _ W tk S (fun d v H' p s r => G.rt Δ ow σ H' d v (k d p) (S.up s) r) (hears S G kx))
theorem js_ret (he : JV X B Δ e d) (k : E.rt Δ d) : JS X B Δ (.Return (some e) pos) E := js_retX (he (fun z => z = d) (fun _ => False) rfl) (fun z q => q ▸ k) fun _ z => z.elim
theorem js_setX (i : Nat) {x : Str} {pos' : Pos} (he : JE X B Δ e P Ψ) (k : ∀ d, P d → E.nx (Δ.set i (.val d))) (kx : ∀ x, Ψ x → E.xc Δ x) (hN : X.N.Nodup) (hi : X.N[i]? = some x := by rfl) (hx : Loc X.env.scope x := by first | exact Or.inl rfl | exact Or.inr rfl)
    (hs : swapsWith e (some (.Name x pos')) pos.line X.env = pure false := by rfl) (hf : X.fn x = true ∨ X.env.scope.names.lookup x = some .local := by first | exact .inl rfl | exact .inr rfl) : JS X B Δ (.Assign [.Name x pos'] e pos) E := fun ow σ H De W tk S G =>
  ws_of (ps_set hN hi hx peW hs hf) (he ow σ H _ W tk S (fun d v H' p s r => G.nx _ ow _ H' (k d p) ((S.up s).put r)) (hears S G kx))
theorem js_set (i : Nat) {x : Str} {pos' : Pos} (he : JV X B Δ e d) (k : E.nx (Δ.set i (.val d))) (hN : X.N.Nodup) (hi : X.N[i]? = some x := by rfl) (hx : Loc X.env.scope x := by first | exact Or.inl rfl | exact Or.inr rfl)
    (hs : swapsWith e (some (.Name x pos')) pos.line X.env = pure false := by rfl) (hf : X.fn x = true ∨ X.env.scope.names.lookup x = some .local := by first | exact .inl rfl | exact .inr rfl) : JS X B Δ (.Assign [.Name x pos'] e pos) E :=
  js_setX i (he (fun z => z = d) (fun _ => False) rfl) (fun z q => q ▸ k) (fun _ z => z.elim) hN hi hx hs hf
theorem js_setL (i : Nat) {x : Str} {pos' : Pos} (he : FL X B Δ e ds) (k : E.nx (Δ.set i (.own ds))) (hN : X.N.Nodup) (hi : X.N[i]? = some x := by rfl) (hx : Loc X.env.scope x := by first | exact Or.inl rfl | exact Or.inr rfl)
    (hs : swapsWith e (some (.Name x pos')) pos.line X.env = pure false := by rfl) (hf : X.fn x = true ∨ X.env.scope.names.lookup x = some .local := by first | exact .inl rfl | exact .inr rfl) : JS X B Δ (.Assign [.Name x pos'] e pos) E := fun ow σ H De W tk S G =>
  ws_of (ps_set hN hi hx peW hs hf) (he ow σ H _ W tk S fun p vs H' hp s hL r => G.nx _ _ _ H' k (S.own hp s hL r))
theorem js_if {c : Expr} {s1 s2 : List Stmt} {k : Bool} (hc : TV X B Δ c k) (h1 : k = true → Js X B Δ s1 E) (h2 : k = false → Js X B Δ s2 E) : JS X B Δ (.If c s1 s2 pos) E := fun ow σ H De W tk S G =>
  ws_of (ps_if ptW pssW pssW) (hc.use tk S fun H' s => by
    cases k with
    | true => exact iteT (h1 rfl ow σ H' De W tk (S.up s) G)
    | false => exact iteF (h2 rfl ow σ H' De W tk (S.up s) G))
/-- x.append(e) -/
theorem js_app (i : Nat) {x : Str} {px apos cpos : Pos} (he : JV X B Δ e d) (k : E.nx (Δ.set i (.own (ds ++ [d])))) (hl : ds.length < 100000) (h : Δ[i]? = some (.own ds) := by rfl)
    (hN : X.N[i]? = some x := by rfl) (hv : Vis X.env.scope x := by first | exact Or.inl rfl | exact Or.inr (Or.inl rfl) | exact Or.inr (Or.inr rfl)) (hd : (x == ("__debug__" : Str)) = false := by decide) (hcd : (x == ("__classdict__" : Str)) = false := by decide)
    (hp : PE X (.Call (.Attribute (.Name x px) "append" apos) [e] [] cpos) (tBM X.K "list" rAppend (tVar i) (tCons (WEx X e) tNil)) := by exact pe_bm PySem.F.plainAttrs_list PySem.F.slot_list_append PySem.F.type_list_append mt_append (pv _) (pa_cons peW pa_nil))
    (hs : swapsWith (.Call (.Attribute (.Name x px) "append" apos) [e] [] cpos) none pos.line X.env = pure false := by rfl) : JS X B Δ (.Expr (.Call (.Attribute (.Name x px) "append" apos) [e] [] cpos) pos) E := fun ow σ H De W tk S G => by
  obtain ⟨a, vs, e1, e2, e3, r⟩ := S.sl i _ h
  refine ws_of (ps_expr hp hs) ⟨.ref a, e1, .inl ⟨rfl, vs, SqL.of e3⟩, he.use tk S fun v H' s rv => ?_⟩
  refine ⟨a, vs, v, rfl, rfl, s _ _ e3, lt_line (by rw [← r.len]; exact hl), ?_⟩
  have S' := S.up s
  have so : SameO (InO B ow) H' (upd H' a (.lst (vs ++ [v]))) := fun b u n z => by
    rw [upd_ne (fun q => n (.inr ⟨i, by rw [q]; exact e2⟩))]
    exact z
  exact G.nx _ ow σ _ k (S'.write e2 ⟨a, vs ++ [v], e1, e2, upd_same, Reps.mono so (fun _ z => z) _ _ (Reps.app (r.up s) (Reps.cons rv Reps.nil))⟩)
theorem wipe_get {σ : L2.St} {j : Nat} : ∀ {vs : List Nat}, (L2.wipe σ vs)[j]? = if j ∈ vs ∧ j < σ.length then some none else σ[j]?
  | [] => by simp [L2.wipe]
  | v :: vs => by
    unfold L2.wipe
    have hlen : (L2.wipe σ vs).length = σ.length := L2.wipe_length σ vs
    by_cases h : j = v
    · subst h
      by_cases hl : j < σ.length
      · rw [List.getElem?_set_self (by rw [hlen]; exact hl), if_pos ⟨List.mem_cons_self, hl⟩]
      · rw [if_neg (fun z => hl z.2), List.getElem?_eq_none_iff.mpr (by rw [List.length_set, hlen]; omega), List.getElem?_eq_none_iff.mpr (by omega)]
    · rw [List.getElem?_set_ne (Ne.symm h), wipe_get (vs := vs)]
      simp [h]
theorem wipe_eq {σ τ : L2.St} {vs : List Nat} (hl : τ.length = σ.length) (h : ∀ j, j ∉ vs → τ[j]? = σ[j]?) : L2.wipe τ vs = L2.wipe σ vs := by
  apply List.ext_getElem?
  intro j
  rw [wipe_get, wipe_get, hl]
  by_cases hj : j ∈ vs
  · by_cases hb : j < σ.length
    · rw [if_pos ⟨hj, hb⟩, if_pos ⟨hj, hb⟩]
    · rw [if_neg (fun z => hb z.2), if_neg (fun z => hb z.2), List.getElem?_eq_none_iff.mpr (by omega), List.getElem?_eq_none_iff.mpr (by omega)]
  · rw [if_neg (fun z => hj z.1), if_neg (fun z => hj z.1)]
    exact h j hj
/-- the slots of a target alone are changed -/
def Ch (is : List Nat) (σ σ' : L2.St) : Prop := σ'.length = σ.length ∧ ∀ j, j ∉ is → σ'[j]? = σ[j]?
theorem Ch.refl {is : List Nat} {σ : L2.St} : Ch is σ σ := ⟨rfl, fun _ _ => rfl⟩
theorem Ch.trans {is js : List Nat} {σ σ1 σ2 : L2.St} (a : Ch is σ σ1) (b : Ch js σ1 σ2) : Ch (is ++ js) σ σ2 := ⟨b.1.trans a.1, fun j h => by
  rw [List.mem_append, not_or] at h
  exact (b.2 j h.2).trans (a.2 j h.1)⟩
def GD (K : PySem.W.Frag) (g : TG) (d : D) (f : List Sl → List Sl) (is : List Nat) : Prop := ∀ (B : Bas) (Δ : List Sl) (ow : Nat → Option Addr) (σ : L2.St) (H : Hp) (v : V) (Q : L2.St → Hp → Prop), StO K B Δ ow σ H → Rep K (InO B ow) H d v →
  (∀ σ', StO K B (f Δ) ow σ' H → Ch is σ σ' → Q σ' H) → g v σ H Q
def GDs (K : PySem.W.Frag) (g : TGs) (ds : List D) (f : List Sl → List Sl) (is : List Nat) : Prop := ∀ (B : Bas) (Δ : List Sl) (ow : Nat → Option Addr) (σ : L2.St) (H : Hp) (vs : List V) (Q : L2.St → Hp → Prop), StO K B Δ ow σ H → Reps K (InO B ow) H ds vs →
  (∀ σ', StO K B (f Δ) ow σ' H → Ch is σ σ' → Q σ' H) → g vs σ H Q
theorem gd_name {K : PySem.W.Frag} (i : Nat) : GD K (gName i) d (fun Δ => Δ.set i (.val d)) [i] := fun B Δ ow σ H v Q S r q => q _ (S.put r) ⟨List.length_set .., fun j h => List.getElem?_set_ne (fun z => h (by simp [z]))⟩
theorem gds_nil {K : PySem.W.Frag} : GDs K gNil [] (fun Δ => Δ) [] := fun B Δ ow σ H vs Q S r q => ⟨Reps.nil_inv r, q _ S Ch.refl⟩
theorem gds_cons {K : PySem.W.Frag} {g : TG} {gs : TGs} {f f2 : List Sl → List Sl} {is js : List Nat} (h : GD K g d f is) (h2 : GDs K gs ds f2 js) : GDs K (gCons g gs) (d :: ds) (fun Δ => f2 (f Δ)) (is ++ js) := fun B Δ ow σ H vs Q S r q => by
  obtain ⟨v, ws, rfl, r1, r2⟩ := Reps.cons_inv r
  exact ⟨v, ws, rfl, h B Δ ow σ H v _ S r1 fun σ' S' c => h2 B _ ow σ' H ws _ S' r2 fun σ2 S2 c2 => q σ2 S2 (c.trans c2)⟩
theorem gd_tup {K : PySem.W.Frag} {gs : TGs} {f : List Sl → List Sl} {n : Nat} {is : List Nat} (h : GDs K gs ds f is) (hn : ds.length = n) : GD K (gTup K n gs) (.tup ds) f is := fun B Δ ow σ H v Q S r q => by
  obtain ⟨p, vs, rfl, hL, r'⟩ := rep_tup r
  exact ⟨p, vs, rfl, hL.sq, by rw [← r'.len]; exact hn, h B Δ ow σ H vs _ S r' q⟩
theorem js_asg {tg : Expr} {g : TG} {f : List Sl → List Sl} {is : List Nat} (he : JV X B Δ e d) (gd : GD X.K g d f is) (k : E.nx (f Δ)) (hg : PG X tg g) (hs : swapsWithSole [tg] e pos.line X.env = pure false := by rfl) (hw : swappedStores [tg] e X.env = pure none := by rfl)
    (h1 : (assignEach [tg] X.env).map (·.2) = [assign tg X.env] := by rfl) : JS X B Δ (.Assign [tg] e pos) E := fun ow σ H De W tk S G =>
  ws_of (ps_asg peW hg hs hw h1) (he.use tk S fun v H' s r => gd B Δ ow σ H' v _ (S.up s) r fun σ' S' _ => G.nx _ ow σ' H' k S')
def Wk (I : List Sl → Prop) (Δ : List Sl) : Prop := ∃ Δ', Le Δ Δ' ∧ I Δ'
theorem Good.reb {ow : Nat → Option Addr} {σ : L2.St} {H : Hp} {De : Ends} {W : WX} (G : Good X B E De W) (S : StO X.K B Δ ow σ H) : Good X (B.at ow H) E De W :=
  ⟨fun Δ' ow' σ' H' h S' => G.nx Δ' ow' σ' H' h (S'.reb S.backBase rfl), fun Δ' ow' σ' H' d v h S' r => G.rt Δ' ow' σ' H' d v h (S'.reb S.backBase rfl) r, fun Δ' ow' σ' H' h S' => G.bk Δ' ow' σ' H' h (S'.reb S.backBase rfl),
    fun Δ' ow' σ' H' h S' => G.ct Δ' ow' σ' H' h (S'.reb S.backBase rfl), fun Δ' ow' σ' H' x cls dd h S' r => G.xc Δ' ow' σ' H' x cls dd h (S'.reb S.backBase rfl) r⟩
variable {tg iter : Expr} {g : TG} {xs : List D}
theorem js_forT (f : Nat → List Sl → List Sl) (Iv : Nat → List Sl → Prop) (hi : JV X B Δ iter (.tup xs)) {is : List Nat} (gd : ∀ i d, xs[i]? = some d → GD X.K g d (f i) is) (h0 : Wk (Iv 0) Δ)
    (turn : ∀ (B' : Bas) (i : Nat) (d : D) (Δ' : List Sl), xs[i]? = some d → Iv i Δ' → Js X B' (f i Δ') body { nx := Wk (Iv (i + 1)), ct := Wk (Iv (i + 1)), bk := E.nx, rt := E.rt, xc := E.xc })
    (done : ∀ Δ', Iv xs.length Δ' → E.nx Δ') (po : PassesOwn (model X.prog X.w) X.A X.env X.xe) (hc : X.calm = true) (hg : PG X tg g) (hs : ∀ x, foldedSetIterable iter X.env x = pure x := by intro _; rfl) : JS X B Δ (.For tg iter body [] pos) E := fun ow σ H De W tk S G =>
  ws_of (ps_for po hc (pi_tup peW) hg pssW hs) (hi.use tk S fun v H1 s1 r1 => by
    obtain ⟨p, vs, rfl, hL, r⟩ := rep_tup r1
    obtain ⟨Δ0, l0, h0⟩ := h0
    have S1 := (S.up s1).weak l0
    have G1 := G.reb S1
    refine ⟨p, rfl, ⟨vs, hL.sq⟩, for_tup (xs := vs) (fun i σ' H' => ∃ Δ' ow', Iv i Δ' ∧ StO X.K (B.at ow H1) Δ' ow' σ' H') ⟨Δ0, ow, h0, S1.fresh⟩ (fun i σ' H' _ ⟨Δ', ow', _, S'⟩ => ?_) ?_ ?_⟩
    · have r2 := r1.keep S'
      obtain ⟨p', vs', e, hL', r'⟩ := rep_tup r2
      cases e
      rcases hL with ⟨n, hL⟩ | hL
      · have hm : SqT X.K (maskH ow H1) p vs := sqT_same (fun o e => maskH_some (fun z => n (.inr z)) e) hL
        exact sqT_same (fun o e => S'.base _ o e) hm
      · exact hL H'
    · rintro i v σ' H' hv ⟨Δ', ow', iv, S'⟩
      have hlt := (List.getElem?_eq_some_iff.mp hv).1
      rw [← r.len] at hlt
      have hx : xs[i]? = some xs[i] := List.getElem?_eq_getElem hlt
      obtain ⟨v', e, rv⟩ := r.get hx
      rw [hv] at e
      cases e
      exact gd i _ hx _ Δ' ow' σ' H' v _ S' (rv.keep S') fun σ2 S2 _ => turn _ i _ Δ' hx iv ow' σ2 H' _ W tk S2
        ⟨fun Δ2 ow2 σ3 H3 ⟨Δ3, l, h⟩ S3 => ⟨Δ3, ow2, h, S3.weak l⟩, G1.rt, fun Δ2 ow2 σ3 H3 h S3 => G1.nx Δ2 ow2 σ3 H3 h S3, fun Δ2 ow2 σ3 H3 ⟨Δ3, l, h⟩ S3 => ⟨Δ3, ow2, h, S3.weak l⟩, G1.xc⟩
    · rintro σ' H' ⟨Δ', ow', iv, S'⟩
      rw [← r.len] at iv
      exact G1.nx Δ' ow' σ' H' (done Δ' iv) S')
theorem js_forL (f : Nat → List Sl → List Sl) (Iv : Nat → List Sl → Prop) (hi : JV X B Δ iter (.lst xs)) {is : List Nat} (gd : ∀ i d, xs[i]? = some d → GD X.K g d (f i) is) (h0 : Wk (Iv 0) Δ)
    (turn : ∀ (B' : Bas) (i : Nat) (d : D) (Δ' : List Sl), xs[i]? = some d → Iv i Δ' → Js X B' (f i Δ') body { nx := Wk (Iv (i + 1)), ct := Wk (Iv (i + 1)), bk := E.nx, rt := E.rt, xc := E.xc })
    (done : ∀ Δ', Iv xs.length Δ' → E.nx Δ') (po : PassesOwn (model X.prog X.w) X.A X.env X.xe) (hc : X.calm = true) (hg : PG X tg g) (hs : ∀ x, foldedSetIterable iter X.env x = pure x := by intro _; rfl) : JS X B Δ (.For tg iter body [] pos) E := fun ow σ H De W tk S G =>
  ws_of (ps_for po hc (pi_list peW) hg pssW hs) (hi.use tk S fun v H1 s1 r1 => by
    obtain ⟨p, vs, rfl, n, hL, r⟩ := rep_lst r1
    obtain ⟨Δ0, l0, h0⟩ := h0
    have S1 := (S.up s1).weak l0
    have G1 := G.reb S1
    refine ⟨p, rfl, ⟨vs, SqL.of hL⟩, for_list (xs := vs) (fun i σ' H' => ∃ Δ' ow', Iv i Δ' ∧ StO X.K (B.at ow H1) Δ' ow' σ' H') ⟨Δ0, ow, h0, S1.fresh⟩ (fun i σ' H' _ ⟨Δ', ow', _, S'⟩ => ?_) ?_ ?_⟩
    · have hm : maskH ow H1 p = some (.lst vs) := maskH_some (fun z => n (.inr z)) hL
      exact SqL.of (S'.base _ _ hm)
    · rintro i v σ' H' hv ⟨Δ', ow', iv, S'⟩
      have hlt := (List.getElem?_eq_some_iff.mp hv).1
      rw [← r.len] at hlt
      have hx : xs[i]? = some xs[i] := List.getElem?_eq_getElem hlt
      obtain ⟨v', e, rv⟩ := r.get hx
      rw [hv] at e
      cases e
      exact gd i _ hx _ Δ' ow' σ' H' v _ S' (rv.keep S') fun σ2 S2 _ => turn _ i _ Δ' hx iv ow' σ2 H' _ W tk S2
        ⟨fun Δ2 ow2 σ3 H3 ⟨Δ3, l, h⟩ S3 => ⟨Δ3, ow2, h, S3.weak l⟩, G1.rt, fun Δ2 ow2 σ3 H3 h S3 => G1.nx Δ2 ow2 σ3 H3 h S3, fun Δ2 ow2 σ3 H3 ⟨Δ3, l, h⟩ S3 => ⟨Δ3, ow2, h, S3.weak l⟩, G1.xc⟩
    · rintro σ' H' ⟨Δ', ow', iv, S'⟩
      rw [← r.len] at iv
      exact G1.nx Δ' ow' σ' H' (done Δ' iv) S')
/-- for x in range(n) | range(lo, hi) -/
theorem js_forR1 {n : Int} {p pos' : Pos} (f : Int → List Sl → List Sl) (Iv : Nat → List Sl → Prop) (ha : JV X B Δ a (.int n)) {is : List Nat} (gd : ∀ i, GD X.K g (.int i) (f i) is) (h0 : Wk (Iv 0) Δ)
    (turn : ∀ (B' : Bas) (i : Nat) (Δ' : List Sl), (i : Int) < n → Iv i Δ' → Js X B' (f (i : Int) Δ') body { nx := Wk (Iv (i + 1)), ct := Wk (Iv (i + 1)), bk := E.nx, rt := E.rt, xc := E.xc })
    (done : ∀ Δ', Iv n.toNat Δ' → E.nx Δ') (po : PassesOwn (model X.prog X.w) X.A X.env X.xe) (hc : X.calm = true) (hm : X.mg "range" = none) (hg : PG X tg g) (hgl : Gl X "range" := by rfl) (hs : starEach [a] X.env = [(false, eval a X.env)] := by rfl) :
    JS X B Δ (.For tg (.Call (.Name "range" p) [a] [] pos') body [] pos) E := fun ow σ H De W tk S G =>
  ws_of (ps_for po hc (pi_ra1 hgl hm (pa_cons peW pa_nil hs) hs) hg pssW) (ha.use tk S fun v H1 s1 r1 => by
    obtain ⟨Δ0, l0, h0⟩ := h0
    have S1 := (S.up s1).weak l0
    have G1 := G.reb S1
    refine ⟨n, by rw [rep_int r1], for_range (fun i σ' H' => ∃ Δ' ow', Iv i Δ' ∧ StO X.K (B.at ow H1) Δ' ow' σ' H') ⟨Δ0, ow, h0, S1.fresh⟩ ?_ ?_⟩
    · rintro i σ' H' hi ⟨Δ', ow', iv, S'⟩
      have e0 : (0 : Int) + (i : Int) = (i : Int) := Int.zero_add _
      rw [e0]
      exact gd _ _ Δ' ow' σ' H' _ _ S' int_rep fun σ2 S2 _ => turn _ i Δ' (by omega) iv ow' σ2 H' _ W tk S2
        ⟨fun Δ2 ow2 σ3 H3 ⟨Δ3, l, h⟩ S3 => ⟨Δ3, ow2, h, S3.weak l⟩, G1.rt, fun Δ2 ow2 σ3 H3 h S3 => G1.nx Δ2 ow2 σ3 H3 h S3, fun Δ2 ow2 σ3 H3 ⟨Δ3, l, h⟩ S3 => ⟨Δ3, ow2, h, S3.weak l⟩, G1.xc⟩
    · rintro σ' H' ⟨Δ', ow', iv, S'⟩
      exact G1.nx Δ' ow' σ' H' (done Δ' iv) S')
/-- while -/
theorem js_while {α : Type} {c : Expr} (Δs : α → List Sl) (Iv : α → Prop) (μ : α → Nat) (s0 : α) (h0 : Iv s0) (l0 : Le Δ (Δs s0))
    (turn : ∀ (s : α), Iv s → ∃ k, TV X B (Δs s) c k ∧ (k = true → Js X B (Δs s) body { nx := fun Δ2 => ∃ s', μ s' < μ s ∧ Iv s' ∧ Le Δ2 (Δs s'), ct := fun Δ2 => ∃ s', μ s' < μ s ∧ Iv s' ∧ Le Δ2 (Δs s'), bk := E.nx, rt := E.rt, xc := E.xc }) ∧ (k = false → E.nx (Δs s)))
    (po : PassesOwn (model X.prog X.w) X.A X.env X.xe) : JS X B Δ (.While c body [] pos) E := fun ow σ H De W tk S G =>
  ws_of (ps_while po ptW pssW) (by
    refine ⟨fun m σ' H' => ∃ s ow', μ s = m ∧ Iv s ∧ StO X.K B (Δs s) ow' σ' H', ⟨_, s0, ow, rfl, h0, S.weak l0⟩, ?_⟩
    rintro m σ' H' ⟨s, ow', rfl, iv, S'⟩
    obtain ⟨k, hc, h1, h2⟩ := turn s iv
    refine hc.use tk S' fun H2 s2 => ?_
    cases k with
    | true =>
      refine iteT ⟨fun σ3 H3 => ∃ s' ow3, μ s' < μ s ∧ Iv s' ∧ StO X.K B (Δs s') ow3 σ3 H3, fun σ3 H3 ⟨s', ow3, l, i3, S3⟩ => ⟨_, l, s', ow3, rfl, i3, S3⟩, ?_⟩
      exact h1 rfl ow' σ' H2 _ W tk (S'.up s2) ⟨fun Δ2 ow2 σ3 H3 ⟨s', l, i, le⟩ S3 => ⟨s', ow2, l, i, S3.weak le⟩, G.rt, G.nx, fun Δ2 ow2 σ3 H3 ⟨s', l, i, le⟩ S3 => ⟨s', ow2, l, i, S3.weak le⟩, G.xc⟩
    | false => exact iteF (G.nx _ ow' σ' H2 (h2 rfl) (S'.up s2)))
/-- a word behind a statement -/
theorem js_mid {α : Type} (Δm : α → List Sl) (Iv : α → Prop) (h : JS X B Δ st { E with nx := fun Δ' => ∃ s, Iv s ∧ Le Δ' (Δm s) }) (k : ∀ s, Iv s → Js X B (Δm s) rest E) : Js X B Δ (st :: rest) E := js_cons fun ow σ H De W tk S G =>
  h ow σ H De W tk S ⟨fun Δ' ow' σ' H' ⟨s, iv, le⟩ S' => G.nx (Δm s) ow' σ' H' (k s iv) (S'.weak le), G.rt, G.bk, G.ct, G.xc⟩
def Tgt {α : Type} (X : Cx) (tg : Expr) (en : α → D) (f : α → List Sl → List Sl) (is : List Nat) : Prop := ∃ g, PG X tg g ∧ ∀ a, GD X.K g (en a) (f a) is
theorem tg_name {α : Type} (i : Nat) {en : α → D} {x : Str} {pos : Pos} (hN : X.N.Nodup) (hi : X.N[i]? = some x := by rfl) (hx : Loc X.env.scope x := by first | exact Or.inl rfl | exact Or.inr rfl) (hf : X.fn x = true ∨ X.env.scope.names.lookup x = some .local := by first | exact .inl rfl | exact .inr rfl) :
    Tgt X (.Name x pos) en (fun a Δ => Δ.set i (.val (en a))) [i] := ⟨_, pg_name hN hi hx hf, fun _ => gd_name i⟩
end
section
variable (P : Program) (w : World) (K : PySem.W.Frag) (mg : Str → Option Value) (base : Heap)
abbrev Rl := List D → Except Exn D → Prop
def spR (K : PySem.W.Frag) (R : Rl) : Sp := fun vs H Q E => ∃ O ds r, (∀ a, O a → ∃ o, H a = some o) ∧ Reps K O H ds vs ∧ R ds r ∧ match r with
  | .ok d => ∀ v H', Same H H' → Rep K O H' d v → Q v H'
  | .error x => ∀ cls dd H', Same H H' → ExR K O H' x cls dd → E cls dd H'
structure Fn (k : Nat) (x : Str) (R : Rl) : Prop where
  ex : ∃ f fd ps, FnOk P w K mg base (L2.CX P w) k f fd ps (spR K R) ∧ mg x = some (.ref f) ∧ PySem.W.keepIn K (.ref f) = true ∧ Binds K fd ps []
/-- a method of the class at C -/
structure Mt (C : Addr) (k : Nat) (m : Str) (R : Rl) : Prop where
  ex : ∃ f fd ps, FnOk P w K mg base (L2.CX P w) k f fd ps (spR K R) ∧ Meth K C m f ∧ Binds K fd ps []
def endR (r : Except Exn D) : EndD := { nx := fun _ => r = .ok .non, rt := fun _ d => r = .ok d, xc := fun _ x => r = .error x }
def d0 (N : List Str) (ds : List D) : List Sl := ds.map .val ++ List.replicate (N.length - ds.length) .un
end
section
variable {P : Program} {w : World} {K : PySem.W.Frag} {mg : Str → Option Value} {base : Heap}
theorem sto_start {N : List Str} {O : Addr → Prop} {H : Hp} {ds : List D} {vs : List V} (live : ∀ a, O a → ∃ o, H a = some o) (r : Reps K O H ds vs) : StO K ⟨H, O⟩ (d0 N ds) (fun _ => none) (L2.start N vs) H where
  base := Same.refl H
  live := fun a h => h.elim (live a) fun ⟨i, z⟩ => nomatch z
  sep := fun i a h => nomatch h
  inj := fun i j a h => nomatch h
  len := by unfold L2.start d0; simp [r.len]
  sl := fun i s e => by
    unfold d0 at e
    have hO : ∀ a, InO ⟨H, O⟩ (fun _ => none) a → O a := fun a h => h.elim id fun ⟨i, z⟩ => nomatch z
    rw [List.getElem?_append] at e
    split at e
    · rename_i hl
      rw [List.length_map] at hl
      have hd : ds[i]? = some ds[i] := List.getElem?_eq_getElem hl
      have es : s = .val ds[i] := by
        rw [List.getElem?_map, hd] at e
        exact (Option.some.inj e).symm
      subst es
      obtain ⟨v, e1, r1⟩ := r.get hd
      refine ⟨v, ?_, r1.less hO⟩
      unfold L2.start
      rw [List.getElem?_append, if_pos (by rw [List.length_map, ← r.len]; exact hl), List.getElem?_map, e1]
      rfl
    · have := List.mem_of_getElem? e
      rw [(List.mem_replicate.mp this).2]
      trivial
/-- what a body's proof gives -/
theorem fnok_of {x qual : Str} {st : Stmt} {f : Addr} {fd : FuncData} {N ps : List Str} {k : Nat} {R : Rl} (F : Fun K x qual st f fd) (S : FnScope N ps (defScope st)) (len : ∀ ds r, R ds r → ds.length = ps.length)
    (body : ∀ (cdv : Value) (A : Around) (outer : List Env) (s : Shared) (H : Hp) (E : XK) (B : Bas) (ds : List D) (r : Except Exn D), Room k (A.deeper (envOfC qual (defScope st) s.heap.objs.size f cdv)) → R ds r →
      Js (cxOf (L2.CX P w) P w K mg base N qual (defScope st) f cdv A outer s H E) B (d0 N ds) (defBody st) (endR r)) : FnOk P w K mg base (L2.CX P w) (k + 1) f fd ps (spR K R) := by
  refine F.okX S (fun vs H Q E h => ?_) (fun cdv A outer s H vs Q E hr h => ?_)
  · obtain ⟨O, ds, r, _, rr, hR, _⟩ := h
    rw [← rr.len]
    exact len ds r hR
  · obtain ⟨O, ds, r, live, rr, hR, hq⟩ := h
    refine ⟨_, pssW, body cdv A outer s H E ⟨H, O⟩ ds r hr hR (fun _ => none) (L2.start N vs) H _ (fun cls d _ H => E cls d H) (takes_of rfl rfl rfl rfl) (sto_start live rr) ⟨fun Δ' ow' σ' H' h S' => ?_, fun Δ' ow' σ' H' d v h S' r' => ?_, fun _ _ _ _ z => z.elim, fun _ _ _ _ z => z.elim, fun Δ' ow' σ' H' x' cls dd h S' r' => ?_⟩⟩
    · cases (show r = .ok .non from h)
      exact hq _ _ S'.base non_rep
    · cases (show r = .ok d from h)
      exact hq _ _ S'.base (r'.less fun _ z => .inl z)
    · cases (show r = .error x' from h)
      refine hq _ _ _ S'.base ⟨r'.1, r'.2.elim .inl fun ⟨ne, d, vs, e1, e2, e3, e4⟩ => .inr ⟨ne, d, vs, e1, e2, e3, e4.less fun _ z => .inl z⟩⟩
end
section
variable {X : Cx} {B : Bas} {Δ : List Sl} {P : D → Prop} {Ψ : Exn → Prop} {e o : Expr} {es : List Expr} {ds : List D} {d : D} {k : Nat} {x m : Str} {R : Rl} {p pos apos : Pos} {C : Addr} {ns : List Str} {xs : List D}
/-- f(..) -/
theorem je_call (F : Fn X.prog X.w X.K X.mg X.base k x R) (hr : Room k X.A) (ha : AV X B Δ (e :: es) ds) {r : Except Exn D} (hR : R ds r) (ok : ∀ d, r = .ok d → P d) (er : ∀ x, r = .error x → Ψ x) (hg : Gl X x := by rfl)
    (hdb : (x == ("__debug__" : Str)) = false := by decide) (he : starEach (e :: es) X.env = (false, eval e X.env) :: starEach es X.env := by rfl) (hpl : (backTo pos (starEach es X.env)).any (·.1) = false := by rfl) : JE X B Δ (.Call (.Name x p) (e :: es) [] pos) P Ψ := fun ow σ H Q W tk S q hx => by
  obtain ⟨f, fd, ps, G, gf, kp, b⟩ := F.ex
  refine we_of (pe_callS G hr hg gf kp b (fun σ => passAt tk σ) paW hdb he hpl) (ha.use tk S fun vs H1 s1 r1 => ⟨InO B ow, ds, r, (S.up s1).live, r1, hR, ?_⟩)
  cases r with
  | ok d => exact fun v H' s rv => q d v H' (ok d rfl) (s1.trans s) rv
  | error x => exact fun cls dd H' s rv => hx x cls dd H' (er x rfl) (s1.trans s) rv
theorem jv_call (F : Fn X.prog X.w X.K X.mg X.base k x R) (hr : Room k X.A) (ha : AV X B Δ (e :: es) ds) (hR : R ds (.ok d)) (hg : Gl X x := by rfl)
    (hdb : (x == ("__debug__" : Str)) = false := by decide) (he : starEach (e :: es) X.env = (false, eval e X.env) :: starEach es X.env := by rfl) (hpl : (backTo pos (starEach es X.env)).any (·.1) = false := by rfl) : JV X B Δ (.Call (.Name x p) (e :: es) [] pos) d := fun P Ψ pd =>
  je_call F hr ha hR (fun d' q => by cases q; exact pd) (fun x q => nomatch q) hg hdb he hpl
theorem lookup_zip : ∀ {ns : List Str} {vs : List V} {j : Nat} {f : Str} {v : V}, ns.Nodup → ns[j]? = some f → vs[j]? = some v → (ns.zip vs).lookup f = some v
  | [], vs, j, f, v, _, h, _ => by simp at h
  | n :: ns, [], j, f, v, _, _, h => by simp at h
  | n :: ns, u :: vs, 0, f, v, _, h1, h2 => by
    simp at h1 h2
    subst h1 h2
    simp [List.zip_cons_cons, List.lookup]
  | n :: ns, u :: vs, j + 1, f, v, nd, h1, h2 => by
    simp at h1 h2
    have hne : (f == n) = false := by
      rw [beq_eq_false_iff_ne]
      intro z
      subst z
      exact (List.nodup_cons.mp nd).1 (List.mem_of_getElem? h1)
    rw [List.zip_cons_cons, List.lookup_cons, hne]
    exact lookup_zip (List.nodup_cons.mp nd).2 h1 h2
theorem jv_fld (j : Nat) {f : Str} (he : JV X B Δ e (.obj C ns xs)) (c : Cls X.K C) (n : NoAttr X.K C f) (nd : ns.Nodup) (h1 : ns[j]? = some f := by rfl) (h2 : xs[j]? = some d := by rfl) (hb : attributeBase e f X.env (eval e X.env) = eval e X.env := by rfl) : JV X B Δ (.Attribute e f pos) d := jv_mk fun ow σ H Q W tk S q =>
  we_of (pe_fld peW hb) (he.use tk S fun v H1 s1 r1 => by
    obtain ⟨a, dx, vs, rfl, _, hH, hl, r⟩ := rep_obj r1
    obtain ⟨v, e2, rv⟩ := r.get h2
    exact ⟨a, C, dx, _, v, rfl, hH, c, n, lookup_zip nd h1 e2, q v _ s1 rv⟩)
end
end Dy
namespace Dy
open PySem PySem.Spec PyProof.Rows L2
section
variable {X : Cx} {B : Bas} {Δ : List Sl} {E : EndD} {body : List Stmt} {tg iter a b : Expr} {pos : Pos} {α τ : Type}
theorem take_split {as : List α} {i : Nat} {a : α} (h : as[i]? = some a) : as = as.take i ++ a :: as.drop (i + 1) ∧ as.take (i + 1) = as.take i ++ [a] := by
  obtain ⟨hl, e⟩ := List.getElem?_eq_some_iff.mp h
  constructor
  · rw [← e, List.getElem_cons_drop hl, List.take_append_drop]
  · rw [List.take_add_one, h]
    rfl
theorem map_at {as : List α} {en : α → D} {i : Nat} {d : D} (h : (as.map en)[i]? = some d) : ∃ a, as[i]? = some a ∧ d = en a := by
  rw [List.getElem?_map] at h
  cases q : as[i]? with
  | none => rw [q] at h; cases h
  | some a => rw [q] at h; exact ⟨a, rfl, (Option.some.inj h).symm⟩
theorem Js.to {E' : EndD} {sts : List Stmt} (h : Js X B Δ sts E') (n : ∀ Δ, E'.nx Δ → E.nx Δ) (c : ∀ Δ, E'.ct Δ → E.ct Δ) (r : E'.rt = E.rt) (k : E'.bk = E.bk) (x : E'.xc = E.xc) : Js X B Δ sts E := fun ow σ H De W tk S G =>
  h ow σ H De W tk S ⟨fun Δ' ow' σ' H' h => G.nx Δ' ow' σ' H' (n Δ' h), r ▸ G.rt, k ▸ G.bk, fun Δ' ow' σ' H' h => G.ct Δ' ow' σ' H' (c Δ' h), x ▸ G.xc⟩
/-- what a turn is to reach -/
abbrev Nx (Δs : List α → τ → List Sl) (Iv : List α → τ → Prop) (pre : List α) : List Sl → Prop := fun Δ2 => ∃ s, Iv pre s ∧ Le Δ2 (Δs pre s)
theorem js_overT (as : List α) (en : α → D) (f : α → List Sl → List Sl) (Δs : List α → τ → List Sl) (Iv : List α → τ → Prop) (s0 : τ) (hi : JV X B Δ iter (.tup (as.map en))) {is : List Nat} (tgt : Tgt X tg en f is) (h0 : Iv [] s0) (l0 : Le Δ (Δs [] s0))
    (turn : ∀ (B' : Bas) (pre : List α) (a : α) (post : List α) (s : τ), as = pre ++ a :: post → Iv pre s → Js X B' (f a (Δs pre s)) body { nx := Nx Δs Iv (pre ++ [a]), ct := Nx Δs Iv (pre ++ [a]), bk := E.nx, rt := E.rt, xc := E.xc })
    (done : ∀ s, Iv as s → E.nx (Δs as s)) (po : PassesOwn (model X.prog X.w) X.A X.env X.xe) (hc : X.calm = true) (hs : ∀ x, foldedSetIterable iter X.env x = pure x := by intro _; rfl) : JS X B Δ (.For tg iter body [] pos) E := by
  obtain ⟨g, hg, gd⟩ := tgt
  exact js_forT (fun i => (as[i]?).elim id f) (fun i Δ' => ∃ s, Iv (as.take i) s ∧ Δ' = Δs (as.take i) s) hi (fun i d hd => by obtain ⟨a, ha, rfl⟩ := map_at hd; rw [ha]; exact gd a) ⟨_, l0, s0, by simpa using h0, by simp⟩
    (fun B' i d Δ' hd iv => by
      obtain ⟨a, ha, rfl⟩ := map_at hd
      obtain ⟨e1, e2⟩ := take_split ha
      obtain ⟨s, iv, rfl⟩ := iv
      show Js X B' ((as[i]?).elim id f _) body _
      rw [ha]
      have c : ∀ Δ2, Nx Δs Iv (as.take i ++ [a]) Δ2 → Wk (fun Δ' => ∃ s, Iv (as.take (i + 1)) s ∧ Δ' = Δs (as.take (i + 1)) s) Δ2 := fun Δ2 ⟨s, q1, q2⟩ => by rw [e2]; exact ⟨_, q2, s, q1, rfl⟩
      exact (turn B' _ a _ s e1 iv).to c c rfl rfl rfl)
    (fun Δ' iv => by
      obtain ⟨s, iv, rfl⟩ := iv
      rw [List.length_map, List.take_length] at iv ⊢
      exact done s iv) po hc hg hs
theorem js_overL (as : List α) (en : α → D) (f : α → List Sl → List Sl) (Δs : List α → τ → List Sl) (Iv : List α → τ → Prop) (s0 : τ) (hi : JV X B Δ iter (.lst (as.map en))) {is : List Nat} (tgt : Tgt X tg en f is) (h0 : Iv [] s0) (l0 : Le Δ (Δs [] s0))
    (turn : ∀ (B' : Bas) (pre : List α) (a : α) (post : List α) (s : τ), as = pre ++ a :: post → Iv pre s → Js X B' (f a (Δs pre s)) body { nx := Nx Δs Iv (pre ++ [a]), ct := Nx Δs Iv (pre ++ [a]), bk := E.nx, rt := E.rt, xc := E.xc })
    (done : ∀ s, Iv as s → E.nx (Δs as s)) (po : PassesOwn (model X.prog X.w) X.A X.env X.xe) (hc : X.calm = true) (hs : ∀ x, foldedSetIterable iter X.env x = pure x := by intro _; rfl) : JS X B Δ (.For tg iter body [] pos) E := by
  obtain ⟨g, hg, gd⟩ := tgt
  exact js_forL (fun i => (as[i]?).elim id f) (fun i Δ' => ∃ s, Iv (as.take i) s ∧ Δ' = Δs (as.take i) s) hi (fun i d hd => by obtain ⟨a, ha, rfl⟩ := map_at hd; rw [ha]; exact gd a) ⟨_, l0, s0, by simpa using h0, by simp⟩
    (fun B' i d Δ' hd iv => by
      obtain ⟨a, ha, rfl⟩ := map_at hd
      obtain ⟨e1, e2⟩ := take_split ha
      obtain ⟨s, iv, rfl⟩ := iv
      show Js X B' ((as[i]?).elim id f _) body _
      rw [ha]
      have c : ∀ Δ2, Nx Δs Iv (as.take i ++ [a]) Δ2 → Wk (fun Δ' => ∃ s, Iv (as.take (i + 1)) s ∧ Δ' = Δs (as.take (i + 1)) s) Δ2 := fun Δ2 ⟨s, q1, q2⟩ => by rw [e2]; exact ⟨_, q2, s, q1, rfl⟩
      exact (turn B' _ a _ s e1 iv).to c c rfl rfl rfl)
    (fun Δ' iv => by
      obtain ⟨s, iv, rfl⟩ := iv
      rw [List.length_map, List.take_length] at iv ⊢
      exact done s iv) po hc hg hs
abbrev Ni (Δs : Nat → τ → List Sl) (Iv : Nat → τ → Prop) (i : Nat) : List Sl → Prop := fun Δ2 => ∃ s, Iv i s ∧ Le Δ2 (Δs i s)
theorem js_overR1 {n : Int} {p pos' : Pos} (f : Int → List Sl → List Sl) (Δs : Nat → τ → List Sl) (Iv : Nat → τ → Prop) (s0 : τ) (ha : JV X B Δ a (.int n)) {is : List Nat} (tgt : Tgt X tg D.int f is) (h0 : Iv 0 s0) (l0 : Le Δ (Δs 0 s0))
    (turn : ∀ (B' : Bas) (i : Nat) (s : τ), (i : Int) < n → Iv i s → Js X B' (f (i : Int) (Δs i s)) body { nx := Ni Δs Iv (i + 1), ct := Ni Δs Iv (i + 1), bk := E.nx, rt := E.rt, xc := E.xc })
    (done : ∀ s, Iv n.toNat s → E.nx (Δs n.toNat s)) (po : PassesOwn (model X.prog X.w) X.A X.env X.xe) (hc : X.calm = true) (hm : X.mg "range" = none) (hgl : Gl X "range" := by rfl) (hs : starEach [a] X.env = [(false, eval a X.env)] := by rfl) :
    JS X B Δ (.For tg (.Call (.Name "range" p) [a] [] pos') body [] pos) E := by
  obtain ⟨g, hg, gd⟩ := tgt
  exact js_forR1 f (fun i Δ' => ∃ s, Iv i s ∧ Δ' = Δs i s) ha gd ⟨_, l0, s0, h0, rfl⟩ (fun B' i Δ' hi iv => by
      obtain ⟨s, iv, rfl⟩ := iv
      have c : ∀ Δ2, Ni Δs Iv (i + 1) Δ2 → Wk (fun Δ' => ∃ s, Iv (i + 1) s ∧ Δ' = Δs (i + 1) s) Δ2 := fun Δ2 ⟨s, q1, q2⟩ => ⟨_, q2, s, q1, rfl⟩
      exact (turn B' i s hi iv).to c c rfl rfl rfl)
    (fun Δ' iv => by
      obtain ⟨s, iv, rfl⟩ := iv
      exact done s iv) po hc hm hg hgl hs
end
section
variable {X : Cx} {α : Type}
abbrev NmOk (X : Cx) (i : Nat) (x : Str) : Prop := X.N[i]? = some x ∧ Loc X.env.scope x ∧ (X.fn x = true ∨ X.env.scope.names.lookup x = some .local)
theorem pg_nm {i : Nat} {x : Str} {pos : Pos} (hN : X.N.Nodup) (h : NmOk X i x) : PG X (.Name x pos) (gName i) := pg_name hN h.1 h.2.1 h.2.2
theorem tg2 (i0 i1 : Nat) {e0 e1 : α → D} {x0 x1 : Str} {p0 p1 pos : Pos} {kk : Nat} (hN : X.N.Nodup) (hc : X.calm = true) (h0 : NmOk X i0 x0 := by exact ⟨rfl, by first | exact Or.inl rfl | exact Or.inr rfl, by first | exact Or.inl rfl | exact Or.inr rfl⟩) (h1 : NmOk X i1 x1 := by exact ⟨rfl, by first | exact Or.inl rfl | exact Or.inr rfl, by first | exact Or.inl rfl | exact Or.inr rfl⟩) :
    Tgt X (.Tuple [.Name x0 p0, .Name x1 p1] kk pos) (fun a => .tup [e0 a, e1 a]) (fun a Δ => (Δ.set i0 (.val (e0 a))).set i1 (.val (e1 a))) [i0, i1] := ⟨_, pg_tup hc (pgs_cons (pg_nm hN h0) (pgs_cons (pg_nm hN h1) pgs_nil)), fun a => gd_tup (gds_cons (gd_name i0) (gds_cons (gd_name i1) gds_nil)) rfl⟩
theorem tg4 (i0 i1 i2 i3 : Nat) {e0 e1 e2 e3 : α → D} {x0 x1 x2 x3 : Str} {p0 p1 p2 p3 pos : Pos} {kk : Nat} (hN : X.N.Nodup) (hc : X.calm = true) (h0 : NmOk X i0 x0 := by exact ⟨rfl, by first | exact Or.inl rfl | exact Or.inr rfl, by first | exact Or.inl rfl | exact Or.inr rfl⟩) (h1 : NmOk X i1 x1 := by exact ⟨rfl, by first | exact Or.inl rfl | exact Or.inr rfl, by first | exact Or.inl rfl | exact Or.inr rfl⟩) (h2 : NmOk X i2 x2 := by exact ⟨rfl, by first | exact Or.inl rfl | exact Or.inr rfl, by first | exact Or.inl rfl | exact Or.inr rfl⟩) (h3 : NmOk X i3 x3 := by exact ⟨rfl, by first | exact Or.inl rfl | exact Or.inr rfl, by first | exact Or.inl rfl | exact Or.inr rfl⟩) :
    Tgt X (.Tuple [.Name x0 p0, .Name x1 p1, .Name x2 p2, .Name x3 p3] kk pos) (fun a => .tup [e0 a, e1 a, e2 a, e3 a]) (fun a Δ => (((Δ.set i0 (.val (e0 a))).set i1 (.val (e1 a))).set i2 (.val (e2 a))).set i3 (.val (e3 a))) [i0, i1, i2, i3] := ⟨_, pg_tup hc (pgs_cons (pg_nm hN h0) (pgs_cons (pg_nm hN h1) (pgs_cons (pg_nm hN h2) (pgs_cons (pg_nm hN h3) pgs_nil)))), fun a => gd_tup (gds_cons (gd_name i0) (gds_cons (gd_name i1) (gds_cons (gd_name i2) (gds_cons (gd_name i3) gds_nil)))) rfl⟩
end
end Dy
namespace Dy
open PySem PySem.Spec PyProof.Rows L2
def wipeD (Δ : List Sl) : List Nat → List Sl
  | [] => Δ
  | v :: vs => (wipeD Δ vs).set v .un
theorem StO.unset {K : PySem.W.Frag} {B : Bas} {Δ : List Sl} {ow : Nat → Option Addr} {σ : L2.St} {H : Hp} (S : StO K B Δ ow σ H) (i : Nat) : StO K B (Δ.set i .un) ow (σ.set i none) H where
  base := S.base
  live := S.live
  sep := S.sep
  inj := S.inj
  len := by simp [S.len]
  sl := fun j s e => by
    by_cases hj : j = i
    · subst hj
      have hl : j < Δ.length := by
        have := (List.getElem?_eq_some_iff.mp e).1
        simpa using this
      rw [List.getElem?_set_self hl] at e
      cases e
      trivial
    · rw [List.getElem?_set_ne (Ne.symm hj)] at e
      have h := S.sl j s e
      have hσ : (σ.set i none)[j]? = σ[j]? := List.getElem?_set_ne (Ne.symm hj)
      cases s with
      | un => trivial
      | val d => obtain ⟨v, e1, r⟩ := h; exact ⟨v, hσ.trans e1, r⟩
      | own ds => obtain ⟨a, vs, e1, r⟩ := h; exact ⟨a, vs, hσ.trans e1, r⟩
      | exc a => exact hσ.trans h
      | slf a dx C ns ds => obtain ⟨vs, e1, r⟩ := h; exact ⟨vs, hσ.trans e1, r⟩
      | cel a c => exact h
theorem StO.wipe {K : PySem.W.Frag} {B : Bas} {Δ : List Sl} {ow : Nat → Option Addr} {σ : L2.St} {H : Hp} (S : StO K B Δ ow σ H) : ∀ vs : List Nat, StO K B (wipeD Δ vs) ow (L2.wipe σ vs) H
  | [] => S
  | v :: vs => (S.wipe vs).unset v
section
variable {X : Cx} {B : Bas} {Δ : List Sl} {elt tg iter : Expr} {ifs : List Expr} {scope : Scope} {own : List (Str × Nat)} {pos : Pos} {α : Type}
/-- the contexts of the block -/
def InBlk (X : Cx) (scope : Scope) (p : Cx → Prop) : Prop := ∀ (s : Shared) (H : Hp) (C : Addr) (cl : List (Str × Addr)) (fp : List Addr), p (X.blk s H scope (compEnvC scope cl C X.env) fp)
def WEb (X : Cx) (scope : Scope) (e : Expr) : TE := fun σ H Q => ∀ (s : Shared) (H' : Hp) (C : Addr) (cl : List (Str × Addr)) (fp : List Addr), WEx (X.blk s H' scope (compEnvC scope cl C X.env) fp) e σ H Q
def WTb (X : Cx) (scope : Scope) (e : Expr) : TT := fun σ H Q => ∀ (s : Shared) (H' : Hp) (C : Addr) (cl : List (Str × Addr)) (fp : List Addr), WTx (X.blk s H' scope (compEnvC scope cl C X.env) fp) e σ H Q
/-- the tests of the clause: none or one -/
def IfV (X : Cx) (scope : Scope) (ifs : List Expr) (Δ : List Sl) (k : Bool) : Prop := match ifs with
  | [] => k = true
  | [c] => ∀ B', InBlk X scope fun X' => TV X' B' Δ c k
  | _ => False
def tIfs (X : Cx) (scope : Scope) : List Expr → TT
  | [] => tYes
  | [c] => WTb X scope c
  | _ => fun _ _ _ => False
theorem pe_web : InBlk X scope fun X' => PE X' elt (WEb X scope elt) := fun s H C cl fp => ⟨fun pins s2 σ H2 Q I h => (h s H C cl fp).run pins s2 I⟩
theorem pts_if (hl : ifs.length ≤ 1) : InBlk X scope fun X' => PTs X' ifs (tIfs X scope ifs) := fun s H C cl fp => by
  match ifs, hl with
  | [], _ => exact pts_nil
  | [c], _ => exact pts_one ⟨fun pins s2 σ H2 Q I h => (h s H C cl fp).run pins s2 I⟩
theorem use_if {Δ : List Sl} {k : Bool} {B' : Bas} {ow : Nat → Option Addr} {σ : L2.St} {H : Hp} {Q : Bool → Hp → Prop} (h : IfV X scope ifs Δ k) (S : StO X.K B' Δ ow σ H) (q : ∀ H', Same H H' → Q k H') : tIfs X scope ifs σ H Q := by
  match ifs, h with
  | [], h => cases h; exact q H (Same.refl H)
  | [c], h => exact fun s H' C cl fp => TV.use (X := X.blk s H' scope (compEnvC scope cl C X.env) fp) (h B' s H' C cl fp) takes0 S q
/-- the block's base: all that is owned, and the list that grows, is set aside -/
noncomputable def blkB (B : Bas) (ow : Nat → Option Addr) (H1 : Hp) (p : Addr) : Bas := ⟨maskH ow H1, fun a => B.Oc a ∨ a = p⟩
structure LcS (K : PySem.W.Frag) (B : Bas) (Δ : List Sl) (ow : Nat → Option Addr) (σ : L2.St) (H1 : Hp) (p : Addr) (ds : List D) (H : Hp) : Prop where
  st : StO K (blkB B ow H1 p) Δ ow σ H
  same : Same H1 H
  acc : ∃ acc, H p = some (.lst acc) ∧ Reps K (InO (blkB B ow H1 p) ow) H ds acc
theorem inO_blk {ow : Nat → Option Addr} {H1 : Hp} {p a : Addr} : InO (blkB B ow H1 p) ow a ↔ (InO B ow a ∨ a = p) := by
  unfold InO blkB
  constructor
  · rintro ((h | h) | h)
    · exact .inl (.inl h)
    · exact .inr h
    · exact .inl (.inr h)
  · rintro ((h | h) | h)
    · exact .inl (.inl h)
    · exact .inr h
    · exact .inl (.inr h)
theorem lcs_start {K : PySem.W.Frag} {ow : Nat → Option Addr} {σ : L2.St} {H1 : Hp} {p : Addr} (S : StO K B Δ ow σ H1) (hp : H1 p = none) : LcS K B Δ ow σ H1 p [] (upd H1 p (.lst [])) := by
  have s := same_new (o := .lst []) hp
  refine ⟨⟨maskH_same.trans s, fun a h => ?_, fun i a h => ⟨maskH_own h, fun z => z.elim (S.sep i a h).2 fun q => ?_⟩, S.inj, S.len, fun i t e => ?_⟩, s, [], upd_same, Reps.nil⟩
  · rcases inO_blk.mp h with h | h
    · obtain ⟨o, e⟩ := S.live a h
      exact ⟨o, s a o e⟩
    · exact ⟨_, by rw [h]; exact upd_same⟩
  · obtain ⟨o, e⟩ := S.live a (.inr ⟨i, h⟩)
    rw [q, hp] at e
    cases e
  · have h := S.sl i t e
    have up1 : ∀ {d : D} {v : V}, Rep K (InO B ow) H1 d v → Rep K (InO (blkB B ow H1 p) ow) (upd H1 p (.lst [])) d v := fun r => ((r.add hp).up s).less fun a h => inO_blk.mp h
    have up2 : ∀ {d : List D} {v : List V}, Reps K (InO B ow) H1 d v → Reps K (InO (blkB B ow H1 p) ow) (upd H1 p (.lst [])) d v := fun r => ((r.add hp).up s).less fun a h => inO_blk.mp h
    cases t with
    | un => trivial
    | val d => obtain ⟨v, e1, r⟩ := h; exact ⟨v, e1, up1 r⟩
    | own ds => obtain ⟨b, vs, e1, e2, e3, r⟩ := h; exact ⟨b, vs, e1, e2, s _ _ e3, up2 r⟩
    | exc b => exact h
    | slf b dx C ns ds => obtain ⟨vs, e1, e2, e3, l, r⟩ := h; exact ⟨vs, e1, e2, s _ _ e3, l, up2 r⟩
    | cel b c => exact ⟨h.1, h.2.via up2 fun o e => s _ _ e⟩
/-- one more item -/
theorem LcS.app {K : PySem.W.Frag} {ow : Nat → Option Addr} {σ : L2.St} {H1 H H4 : Hp} {p : Addr} {ds : List D} {d : D} {v : V} (L : LcS K B Δ ow σ H1 p ds H) (hp : H1 p = none) (s : Same H H4) (r : Rep K (InO (blkB B ow H1 p) ow) H4 d v) (hl : ds.length < 100000) :
    ∃ acc, H4 p = some (.lst acc) ∧ acc.length < sizeLine ∧ LcS K B Δ ow σ H1 p (ds ++ [d]) (upd H4 p (.lst (acc ++ [v]))) := by
  obtain ⟨acc, e, ra⟩ := L.acc
  have hO : InO (blkB B ow H1 p) ow p := .inl (.inr rfl)
  have so : SameO (InO (blkB B ow H1 p) ow) H4 (upd H4 p (.lst (acc ++ [v]))) := fun b u n z => by
    rw [upd_ne (fun q => n (by rw [q]; exact hO))]
    exact z
  have S4 := L.st.up s
  refine ⟨acc, s _ _ e, lt_line (by rw [← ra.len]; exact hl), ⟨⟨fun a o q => ?_, fun a h => ?_, S4.sep, S4.inj, S4.len, fun i t q => ?_⟩, fun a o q => ?_, _, upd_same, Reps.mono so (fun _ z => z) _ _ (Reps.app (ra.up s) (Reps.cons r Reps.nil))⟩⟩
  · have n : a ≠ p := fun z => by
      have q' : H1 a = some o := maskH_same a o q
      rw [z, hp] at q'
      cases q'
    rw [upd_ne n]
    exact S4.base a o q
  · by_cases n : a = p
    · exact ⟨_, by rw [n]; exact upd_same⟩
    · rw [upd_ne n]
      exact S4.live a h
  · have h := S4.sl i t q
    have ne : ∀ b, ow i = some b → b ≠ p := fun b hb z => (S4.sep i b hb).2 (.inr z)
    cases t with
    | un => trivial
    | val d => obtain ⟨v, e1, r⟩ := h; exact ⟨v, e1, Rep.mono so (fun _ z => z) _ _ r⟩
    | own ds => obtain ⟨b, vs, e1, e2, e3, r⟩ := h; exact ⟨b, vs, e1, e2, by rw [upd_ne (ne b e2)]; exact e3, Reps.mono so (fun _ z => z) _ _ r⟩
    | exc b => exact h
    | slf b dx C ns ds => obtain ⟨vs, e1, e2, e3, l, r⟩ := h; exact ⟨vs, e1, e2, by rw [upd_ne (ne b e2)]; exact e3, l, Reps.mono so (fun _ z => z) _ _ r⟩
    | cel b c => exact ⟨h.1, h.2.mono so (fun _ z => z) fun o e => by rw [upd_ne (ne b h.1)]; exact e⟩
  · rw [upd_ne (ne_of_none q hp)]
    exact s _ _ (L.same a o q)
theorem LcS.up {K : PySem.W.Frag} {ow : Nat → Option Addr} {σ : L2.St} {H1 H H4 : Hp} {p : Addr} {ds : List D} (L : LcS K B Δ ow σ H1 p ds H) (s : Same H H4) : LcS K B Δ ow σ H1 p ds H4 := by
  obtain ⟨acc, e, ra⟩ := L.acc
  exact ⟨L.st.up s, L.same.trans s, acc, s _ _ e, ra.up s⟩
theorem wipe_wipe {σ : L2.St} {vs : List Nat} : L2.wipe (L2.wipe σ vs) vs = L2.wipe σ vs := wipe_eq (L2.wipe_length σ vs) fun j h => by rw [wipe_get, if_neg (fun z => h z.1)]
/-- a turn of the block -/
theorem lc_turn {c : α → Bool} {el : α → D} {f : α → List Sl → List Sl} {is vs : List Nat} {g : TG} {en : α → D} {ow : Nat → Option Addr} {σ : L2.St} {H1 H : Hp} {p : Addr} {ds : List D} {a : α} {v : V}
    (gd : GD X.K g (en a) (f a) is) (hv : ∀ i ∈ is, i ∈ vs) (ht : IfV X scope ifs (f a (wipeD Δ vs)) (c a)) (he : c a = true → ∀ B', InBlk X scope fun X' => JV X' B' (f a (wipeD Δ vs)) elt (el a))
    (hp : H1 p = none) (L : LcS X.K B (wipeD Δ vs) ow (L2.wipe σ vs) H1 p ds H) (r : Rep X.K (InO (blkB B ow H1 p) ow) H (en a) v) (hl : ds.length < 100000) {Nx : Hp → Prop}
    (hn : ∀ H', LcS X.K B (wipeD Δ vs) ow (L2.wipe σ vs) H1 p (if c a then ds ++ [el a] else ds) H' → Nx H') :
    g v (L2.wipe σ vs) H fun σ2 H2 => L2.wipe σ2 vs = L2.wipe σ vs ∧ tIfs X scope ifs σ2 H2 fun b H3 => if b = true then WEb X scope elt σ2 H3 fun y H4 => ∃ acc, H4 p = some (.lst acc) ∧ acc.length < sizeLine ∧ Nx (upd H4 p (.lst (acc ++ [y]))) else Nx H3 := by
  refine gd _ _ ow _ H v _ L.st r fun σ2 S2 ch => ⟨?_, use_if ht S2 fun H3 s3 => ?_⟩
  · rw [← wipe_wipe (σ := σ)]
    exact wipe_eq ch.1 fun j h => ch.2 j fun z => h (hv j z)
  · cases hc : c a with
    | false =>
      refine iteF (hn _ ?_)
      rw [hc]
      exact L.up s3
    | true =>
      refine iteT fun s H' C cl fp => ?_
      refine JV.use (X := X.blk s H' scope (compEnvC scope cl C X.env) fp) (he hc _ s H' C cl fp) takes0 (S2.up s3) fun y H4 s4 ry => ?_
      obtain ⟨acc, e, hz, L'⟩ := L.app hp (s3.trans s4) ry hl
      refine ⟨acc, e, hz, hn _ ?_⟩
      rw [hc]
      exact L'
variable {c : α → Bool} {el : α → D} {f : α → List Sl → List Sl} {is : List Nat} {en : α → D}
theorem filt_take {as : List α} {i : Nat} {a : α} (h : as[i]? = some a) : ((as.take (i + 1)).filter c).map el = if c a then ((as.take i).filter c).map el ++ [el a] else ((as.take i).filter c).map el := by
  rw [List.take_add_one, h]
  simp only [Option.toList_some, List.filter_append, List.map_append]
  cases q : c a with
  | true => rw [if_pos rfl, List.filter_cons_of_pos q]; rfl
  | false => rw [if_neg Bool.false_ne_true, List.filter_cons_of_neg (by rw [q]; exact Bool.false_ne_true)]; simp
theorem filt_len {as : List α} {i : Nat} (h : as.length ≤ 100000) (hi : i < as.length) : (((as.take i).filter c).map el).length < 100000 := by
  rw [List.length_map]
  have h1 : ((as.take i).filter c).length ≤ (as.take i).length := List.length_filter_le ..
  rw [List.length_take] at h1
  omega
/-- a list comprehension, as a value or to be stored -/
def LcV (X : Cx) (B : Bas) (Δ : List Sl) (elt tg iter : Expr) (ifs : List Expr) (scope : Scope) (ds : List D) : Prop :=
  ∃ (wi : TI) (g : TG) (tt : TT) (te : TE) (own : List (Str × Nat)), X.calm = true ∧ X.N.Nodup ∧ PI X tg iter wi ∧ BlkOk X.N X.env.scope scope own ∧ (InBlk X scope fun X' => PG X' tg g) ∧ (InBlk X scope fun X' => PTs X' ifs tt) ∧ (InBlk X scope fun X' => PE X' elt te) ∧
    (∀ x, foldedSetIterable iter X.env x = pure x) ∧ ∀ (ow : Nat → Option Addr) (σ : L2.St) (H : Hp) (Q : VK) (W : WX), Takes X W → StO X.K B Δ ow σ H →
      (∀ p vs H', H p = none → Same H H' → H' p = some (.lst vs) → Reps X.K (fun a => InO B ow a ∨ a = p) H' ds vs → Q (.ref p) H') → tLc wi g tt te (own.map (·.2)) σ H Q
theorem LcV.fl {ds : List D} (h : LcV X B Δ elt tg iter ifs scope ds) : FL X B Δ (.ListComp elt [⟨tg, iter, ifs, 0⟩] scope pos) ds := fun ow σ H Q W tk S q => by
  obtain ⟨wi, g, tt, te, own, hc, hN, hi, ok, hg, ht, he, hs, h⟩ := h
  exact we_of (pe_lc hc hN hi ok hg ht he hs) (h ow σ H Q W tk S q)
theorem LcV.cast {ds es : List D} (h : LcV X B Δ elt tg iter ifs scope ds) (q : ds = es) : LcV X B Δ elt tg iter ifs scope es := q ▸ h
/-- name = [..], on one line -/
theorem js_setLc (i : Nat) {β : Type} (en : β → D) (l0 : List β) {E : EndD} {x : Str} {pos' spos : Pos} (he : LcV X B Δ elt tg iter ifs scope (l0.map en)) (k : ∀ v, v = l0 → E.nx (Δ.set i (.own (v.map en)))) (hi : X.N[i]? = some x := by rfl) (hx : X.env.scope.names.lookup x = some .local := by rfl)
    (hk : X.env.scope.kind = .function := by rfl) (hl : (pos'.line == pos.line) = true := by rfl) (ha : (scope.names.any fun (n, k) => n == x && (k == .local || k == .cell)) = false := by decide +kernel) :
    JS X B Δ (.Assign [.Name x pos'] (.ListComp elt [⟨tg, iter, ifs, 0⟩] scope pos) spos) E := fun ow σ H De W tk S G => by
  obtain ⟨wi, g, tt, te, own, hc, hN, hit, ok, hg, ht, hel, hs, h⟩ := he
  exact ws_of (ps_setLc hc hN hi hx (sw_true hk hx hl ha) hit ok hg ht hel hs) (h ow σ H _ W tk S fun p vs H' hp s hL r => G.nx _ _ _ H' (k l0 rfl) (S.own hp s hL r))
/-- [elt for tg in iter if ..], iter a tuple -/
theorem lc_compT (own : List (Str × Nat)) (as : List α) (en : α → D) (f : α → List Sl → List Sl) (c : α → Bool) (el : α → D) (hi : JV X B Δ iter (.tup (as.map en))) (tgt : ∃ g, (InBlk X scope fun X' => PG X' tg g) ∧ ∀ a, GD X.K g (en a) (f a) is)
    (ht : ∀ a ∈ as, IfV X scope ifs (f a (wipeD Δ (own.map (·.2)))) (c a)) (he : ∀ a ∈ as, c a = true → ∀ B', InBlk X scope fun X' => JV X' B' (f a (wipeD Δ (own.map (·.2)))) elt (el a)) (hz : as.length ≤ 100000)
    (hc : X.calm = true) (hN : X.N.Nodup) (ok : blkC X.N X.env.scope scope own = true := by decide +kernel) (hv : ∀ i ∈ is, i ∈ own.map (·.2) := by decide) (hl : ifs.length ≤ 1 := by decide) (hs : ∀ x, foldedSetIterable iter X.env x = pure x := by intro _; rfl) :
    LcV X B Δ elt tg iter ifs scope ((as.filter c).map el) := by
  obtain ⟨g, hg, gd⟩ := tgt
  refine ⟨iTup X.K (WEx X iter), g, _, _, own, hc, hN, (pi_tup peW), blkOk_by ok, hg, pts_if hl, pe_web (scope := scope), hs, fun ow σ H Q W tk S q => ?_⟩
  refine hi.use tk S fun v H1 s1 r1 => ?_
  obtain ⟨a0, vs, rfl, hL, r⟩ := rep_tup r1
  have S1 := S.up s1
  refine ⟨a0, rfl, ⟨vs, hL.sq⟩, fun p hp => lc_tup (K := X.K) (a := a0) (xs := vs) (fun i H' => LcS X.K B (wipeD Δ (own.map (·.2))) ow (L2.wipe σ (own.map (·.2))) H1 p (((as.take i).filter c).map el) H') (lcs_start (S1.wipe _) hp) (fun i H' _ L => ?_) (fun i v H' hx L => ?_) fun H' L => ?_⟩
  · exact sqT_same (fun o e => L.same _ o e) hL.sq
  · have hlt := (List.getElem?_eq_some_iff.mp hx).1
    rw [← r.len, List.length_map] at hlt
    have ha : as[i]? = some as[i] := List.getElem?_eq_getElem hlt
    obtain ⟨v', e, rv⟩ := r.get (i := i) (d := en as[i]) (by rw [List.getElem?_map, ha]; rfl)
    rw [hx] at e
    cases e
    refine lc_turn (gd as[i]) hv (ht _ (List.getElem_mem hlt)) (he _ (List.getElem_mem hlt)) hp L (((rv.add hp).up L.same).less fun a h => inO_blk.mp h) (filt_len hz hlt) fun H' L' => ?_
    rw [filt_take ha]
    exact L'
  · rw [← r.len, List.length_map, List.take_length] at L
    obtain ⟨acc, e, ra⟩ := L.acc
    exact q p acc H' (free_back s1 hp) (s1.trans L.same) e (ra.less fun a h => inO_blk.mpr h)
theorem lc_compL (own : List (Str × Nat)) (as : List α) (en : α → D) (f : α → List Sl → List Sl) (c : α → Bool) (el : α → D) (hi : RV X B Δ iter (as.map en)) (tgt : ∃ g, (InBlk X scope fun X' => PG X' tg g) ∧ ∀ a, GD X.K g (en a) (f a) is)
    (ht : ∀ a ∈ as, IfV X scope ifs (f a (wipeD Δ (own.map (·.2)))) (c a)) (he : ∀ a ∈ as, c a = true → ∀ B', InBlk X scope fun X' => JV X' B' (f a (wipeD Δ (own.map (·.2)))) elt (el a)) (hz : as.length ≤ 100000)
    (hc : X.calm = true) (hN : X.N.Nodup) (ok : blkC X.N X.env.scope scope own = true := by decide +kernel) (hv : ∀ i ∈ is, i ∈ own.map (·.2) := by decide) (hl : ifs.length ≤ 1 := by decide) (hs : ∀ x, foldedSetIterable iter X.env x = pure x := by intro _; rfl) :
    LcV X B Δ elt tg iter ifs scope ((as.filter c).map el) := by
  obtain ⟨g, hg, gd⟩ := tgt
  refine ⟨iList X.K (WEx X iter), g, _, _, own, hc, hN, (pi_list peW), blkOk_by ok, hg, pts_if hl, pe_web (scope := scope), hs, fun ow σ H Q W tk S q => ?_⟩
  refine hi ow σ H _ W tk S fun a0 vs H1 s1 hL r => ?_
  have S1 := S.up s1
  refine ⟨a0, rfl, ⟨vs, hL⟩, fun p hp => lc_list (K := X.K) (a := a0) (xs := vs) (fun i H' => LcS X.K B (wipeD Δ (own.map (·.2))) ow (L2.wipe σ (own.map (·.2))) H1 p (((as.take i).filter c).map el) H') (lcs_start (S1.wipe _) hp) (fun i H' _ L => ?_) (fun i v H' hx L => ?_) fun H' L => ?_⟩
  · exact sqL_same (fun o e => L.same _ o e) hL
  · have hlt := (List.getElem?_eq_some_iff.mp hx).1
    rw [← r.len, List.length_map] at hlt
    have ha : as[i]? = some as[i] := List.getElem?_eq_getElem hlt
    obtain ⟨v', e, rv⟩ := r.get (i := i) (d := en as[i]) (by rw [List.getElem?_map, ha]; rfl)
    rw [hx] at e
    cases e
    refine lc_turn (gd as[i]) hv (ht _ (List.getElem_mem hlt)) (he _ (List.getElem_mem hlt)) hp L (((rv.add hp).up L.same).less fun a h => inO_blk.mp h) (filt_len hz hlt) fun H' L' => ?_
    rw [filt_take ha]
    exact L'
  · rw [← r.len, List.length_map, List.take_length] at L
    obtain ⟨acc, e, ra⟩ := L.acc
    exact q p acc H' (free_back s1 hp) (s1.trans L.same) e (ra.less fun a h => inO_blk.mpr h)
/-- the iota of a range -/
def iota (lo : Int) (n : Nat) : List Int := (List.range n).map fun (i : Nat) => lo + (i : Int)
theorem ints_len (lo : Int) (n : Nat) : (iota lo n).length = n := by simp [iota]
theorem ints_at (lo : Int) (n i : Nat) (h : i < n) : (iota lo n)[i]? = some (lo + (i : Int)) := by simp [iota, h]
theorem lc_compR1 {a : Expr} {n : Int} {p0 pos' : Pos} (own : List (Str × Nat)) (f : Int → List Sl → List Sl) (c : Int → Bool) (el : Int → D) (ha : JV X B Δ a (.int n)) (hn : n ≤ 100000) (tgt : ∃ g, (InBlk X scope fun X' => PG X' tg g) ∧ ∀ a : Int, GD X.K g (.int a) (f a) is)
    (ht : ∀ x : Int, 0 ≤ x → x < n → IfV X scope ifs (f x (wipeD Δ (own.map (·.2)))) (c x)) (he : ∀ x : Int, 0 ≤ x → x < n → c x = true → ∀ B', InBlk X scope fun X' => JV X' B' (f x (wipeD Δ (own.map (·.2)))) elt (el x))
    (hc : X.calm = true) (hN : X.N.Nodup) (hm : X.mg "range" = none) (ok : blkC X.N X.env.scope scope own = true := by decide +kernel) (hv : ∀ i ∈ is, i ∈ own.map (·.2) := by decide) (hl : ifs.length ≤ 1 := by decide) (hgl : Gl X "range" := by rfl) (hst : starEach [a] X.env = [(false, eval a X.env)] := by rfl)
    (hs : ∀ x, foldedSetIterable (.Call (.Name "range" p0) [a] [] pos') X.env x = pure x := by intro _; rfl) :
    LcV X B Δ elt tg (.Call (.Name "range" p0) [a] [] pos') ifs scope (((iota 0 n.toNat).filter c).map el) := by
  obtain ⟨g, hg, gd⟩ := tgt
  refine ⟨iRa1 (tCons (WEx X a) tNil), g, _, _, own, hc, hN, (pi_ra1 hgl hm (pa_cons peW pa_nil hst) hst), blkOk_by ok, hg, pts_if hl, pe_web (scope := scope), hs, fun ow σ H Q W tk S q => ?_⟩
  refine ha.use tk S fun v H1 s1 r1 => ?_
  have S1 := S.up s1
  refine ⟨n, by rw [rep_int r1], fun p hp => lc_range (fun i H' => LcS X.K B (wipeD Δ (own.map (·.2))) ow (L2.wipe σ (own.map (·.2))) H1 p ((((iota 0 n.toNat).take i).filter c).map el) H') (lcs_start (S1.wipe _) hp) (fun i H' hx L => ?_) fun H' L => ?_⟩
  · have ha : (iota 0 n.toNat)[i]? = some (0 + (i : Int)) := ints_at _ _ _ hx
    refine lc_turn (gd _) hv (ht _ (by omega) (by omega)) (he _ (by omega) (by omega)) hp L int_rep (filt_len (by rw [ints_len]; omega) (by rw [ints_len]; exact hx)) fun H' L' => ?_
    rw [filt_take ha]
    exact L'
  · have e : (iota 0 n.toNat).take n.toNat = iota 0 n.toNat := by
      rw [List.take_of_length_le]
      rw [ints_len]
      exact Nat.le_refl _
    rw [e] at L
    obtain ⟨acc, e, ra⟩ := L.acc
    exact q p acc H' (free_back s1 hp) (s1.trans L.same) e (ra.less fun a h => inO_blk.mpr h)
end
end Dy
namespace Dy
open PySem PySem.Spec PyProof.Rows L2
abbrev eQ {α : Type} (en : α → D) (l : List α) : D := .tup (l.map en)
abbrev eL {α : Type} (en : α → D) (l : List α) : D := .lst (l.map en)
abbrev eP {α β : Type} (e1 : α → D) (e2 : β → D) (p : α × β) : D := .tup [e1 p.1, e2 p.2]
def nth {α : Type} [Inhabited α] (l : List α) (i : Int) : α := l.getD i.toNat default
theorem atI_pos {α : Type} {ds : List α} {i : Int} (h0 : 0 ≤ i) (h1 : i < ds.length) : atI ds i = ds[i.toNat]? := by
  unfold atI ixN
  rw [if_pos h0, if_pos h1]
  rfl
theorem atI_neg {α : Type} {ds : List α} {i : Int} (h0 : i < 0) (h1 : -(ds.length : Int) ≤ i) : atI ds i = ds[(i + ds.length).toNat]? := by
  unfold atI ixN
  rw [if_neg (by omega), if_pos h1]
  rfl
theorem atI_nth {α : Type} [Inhabited α] {en : α → D} {l : List α} {i : Int} (h0 : 0 ≤ i) (h1 : i < l.length) : atI (l.map en) i = some (en (nth l i)) := by
  have hl : i.toNat < l.length := by omega
  rw [atI_pos h0 (by simpa using h1), List.getElem?_map, nth, List.getD, List.getElem?_eq_getElem hl]
  rfl
theorem atI_last' {α : Type} [Inhabited α] {en : α → D} {l : List α} {k : Int} (hk : k < 0) (h : -(l.length : Int) ≤ k) : atI (l.map en) k = some (en (nth l (l.length + k))) := by
  have hl : (k + l.length).toNat < l.length := by omega
  have e : ((l.length : Int) + k).toNat = (k + l.length).toNat := by omega
  rw [atI_neg hk (by simpa using h), List.length_map, List.getElem?_map, nth, List.getD, e, List.getElem?_eq_getElem hl]
  rfl
theorem map_cutD {α : Type} {en : α → D} {l : List α} {lo hi : Option Int} : cutD (l.map en) lo hi = (cutD l lo hi).map en := by
  unfold cutD
  rw [List.length_map, List.map_take, List.map_drop]
section
variable {X : Cx} {B : Bas} {Δ : List Sl} {E : EndD} {e a b : Expr} {pos : Pos} {α : Type} {en : α → D}
theorem jv_v (i : Nat) (d : D) {x : Str} {pos : Pos} (h : Δ[i]? = some (.val d) := by rfl) (hN : X.N[i]? = some x := by rfl) (hv : Vis X.env.scope x := by first | exact Or.inl rfl | exact Or.inr (Or.inl rfl) | exact Or.inr (Or.inr rfl))
    (hd : (x == ("__debug__" : Str)) = false := by decide) (hcd : (x == ("__classdict__" : Str)) = false := by decide) : JV X B Δ (.Name x pos) d := jv_var i h hN hv hd hcd
theorem JV.to (y : D) {x : D} (h : JV X B Δ a x) (e : x = y) : JV X B Δ a y := e ▸ h
theorem FL.to {ds : List D} (en : α → D) (l : List α) (h : FL X B Δ e ds) (q : ds = l.map en) : FL X B Δ e (l.map en) := q ▸ h
theorem js_setE (i : Nat) (en : α → D) (v0 : α) {x : Str} {pos' : Pos} (he : JV X B Δ e (en v0)) (k : ∀ v, v = v0 → E.nx (Δ.set i (.val (en v)))) (hN : X.N.Nodup) (hi : X.N[i]? = some x := by rfl) (hx : Loc X.env.scope x := by first | exact Or.inl rfl | exact Or.inr rfl)
    (hs : swapsWith e (some (.Name x pos')) pos.line X.env = pure false := by rfl) (hf : X.fn x = true ∨ X.env.scope.names.lookup x = some .local := by first | exact .inl rfl | exact .inr rfl) : JS X B Δ (.Assign [.Name x pos'] e pos) E :=
  js_set i he (k v0 rfl) hN hi hx hs hf
theorem js_setLE (i : Nat) (en : α → D) (l0 : List α) {x : Str} {pos' : Pos} (he : FL X B Δ e (l0.map en)) (k : ∀ v, v = l0 → E.nx (Δ.set i (.own (v.map en)))) (hN : X.N.Nodup) (hi : X.N[i]? = some x := by rfl) (hx : Loc X.env.scope x := by first | exact Or.inl rfl | exact Or.inr rfl)
    (hs : swapsWith e (some (.Name x pos')) pos.line X.env = pure false := by rfl) (hf : X.fn x = true ∨ X.env.scope.names.lookup x = some .local := by first | exact .inl rfl | exact .inr rfl) : JS X B Δ (.Assign [.Name x pos'] e pos) E :=
  js_setL i he (k l0 rfl) hN hi hx hs hf
theorem js_appE (i : Nat) (en : α → D) (l : List α) (v0 : α) {x : Str} {px apos cpos : Pos} (he : JV X B Δ e (en v0)) (hl : l.length < 100000) (k : ∀ v, v = l ++ [v0] → E.nx (Δ.set i (.own (v.map en)))) (h : Δ[i]? = some (.own (l.map en)) := by rfl)
    (hN : X.N[i]? = some x := by rfl) (hv : Vis X.env.scope x := by first | exact Or.inl rfl | exact Or.inr (Or.inl rfl) | exact Or.inr (Or.inr rfl)) (hd : (x == ("__debug__" : Str)) = false := by decide) (hcd : (x == ("__classdict__" : Str)) = false := by decide)
    (hp : PE X (.Call (.Attribute (.Name x px) "append" apos) [e] [] cpos) (tBM X.K "list" rAppend (tVar i) (tCons (WEx X e) tNil)) := by exact pe_bm PySem.F.plainAttrs_list PySem.F.slot_list_append PySem.F.type_list_append mt_append (pv _) (pa_cons peW pa_nil))
    (hs : swapsWith (.Call (.Attribute (.Name x px) "append" apos) [e] [] cpos) none pos.line X.env = pure false := by rfl) : JS X B Δ (.Expr (.Call (.Attribute (.Name x px) "append" apos) [e] [] cpos) pos) E := by
  refine js_app i he ?_ (by simpa using hl) h hN hv hd hcd hp hs
  have := k _ rfl
  rw [List.map_append] at this
  exact this
/-- a script's cell -/
theorem jv_ixS {ns : List Int} {i : Int} (ha : JV X B Δ a (.scr ns)) (hb : JV X B Δ b (.int i)) (h0 : 0 ≤ i) (h1 : i < ns.length) (hs : PlainIx b := by exact fun _ _ => rfl) : JV X B Δ (.Subscript a b pos) (.int (nth ns i)) :=
  jv_ixL ha.sv hb (atI_nth h0 h1) hs
structure ChI (X : Cx) (op : CmpOp) (r : R2) (p : Int → Int → Bool) : Prop where
  ok : OpR X (compareOp op) r
  sp : ∀ (K : PySem.W.Frag) (i j : Int), OpS K r (.int i) (.int j) (.bl (p i j))
theorem ci_lt : ChI X .Lt (rI0 fun i j => .bl (decide (i < j))) (fun i j => decide (i < j)) := ⟨op_lt, fun _ i j => opS_I (d := fun i j => .bl (decide (i < j))) fun _ _ => bl_rep⟩
theorem ci_le : ChI X .LtE (rI0 fun i j => .bl (decide (i ≤ j))) (fun i j => decide (i ≤ j)) := ⟨op_le, fun _ i j => opS_I (d := fun i j => .bl (decide (i ≤ j))) fun _ _ => bl_rep⟩
variable {c : Expr} {i j k : Int} {op op' : CmpOp} {r r' : R2} {p p' : Int → Int → Bool}
theorem tv_ch2 (h1 : ChI X op r p) (h2 : ChI X op' r' p') (ha : JV X B Δ a (.int i)) (hb : JV X B Δ b (.int j)) (hc : JV X B Δ c (.int k)) (hm : lastMarks [op, op'] [b, c] = false := by with_unfolding_all rfl) : TV X B Δ (.Compare a [op, op'] [b, c] pos) (p i j && p' j k) :=
  tv_mk fun ow σ H Q W tk S q => wt_of (pt_chain h1.ok h2.ok peW peW peW hm) (ha.use tk S fun u H1 s1 r1 => hb.use tk (S.up s1) fun v H2 s2 r2 => by
    refine h1.sp X.K i j _ H2 u v _ (S.up (s1.trans s2)).live (r1.up s2) r2 fun t H3 s3 r3 => ⟨p i j, rep_bl r3, ?_⟩
    cases hp : p i j with
    | true =>
      rw [hp] at q
      refine iteT (hc.use tk (S.up ((s1.trans s2).trans s3)) fun w H4 s4 r4 => ?_)
      exact h2.sp X.K j k _ H4 v w _ (S.up (((s1.trans s2).trans s3).trans s4)).live (r2.up (s3.trans s4)) r4 fun t H' s' r' => ⟨_, rep_bl r', q H' ((((s1.trans s2).trans s3).trans s4).trans s')⟩
    | false =>
      rw [hp] at q
      exact iteF ⟨false, rfl, q H3 ((s1.trans s2).trans s3)⟩)
theorem max_py (i j : Int) : (if j > i then j else i) = max i j := by split <;> omega
theorem min_py (i j : Int) : (if j < i then j else i) = min i j := by split <;> omega
section
variable {elt tg iter : Expr} {ifs : List Expr} {scope : Scope}
theorem lc_all {β : Type} {l : List β} (en : α → D) (f : β → α) (h : LcV X B Δ elt tg iter ifs scope ((l.filter fun _ => true).map fun b => en (f b))) : LcV X B Δ elt tg iter ifs scope ((l.map f).map en) := h.cast (by
  rw [List.filter_eq_self.mpr (fun _ _ => rfl), List.map_map]
  rfl)
theorem lc_some {β : Type} {l : List β} {c : β → Bool} (en : α → D) (f : β → α) (h : LcV X B Δ elt tg iter ifs scope ((l.filter c).map fun b => en (f b))) : LcV X B Δ elt tg iter ifs scope (((l.filter c).map f).map en) := h.cast (by
  rw [List.map_map]
  rfl)
end
theorem js_unp {tg : Expr} {is : List Nat} {en : α → D} (v : α) (f : α → List Sl → List Sl) (he : JV X B Δ e (en v)) (tgt : Tgt X tg en f is) (k : ∀ u, u = v → E.nx (f u Δ)) (hs : swapsWithSole [tg] e pos.line X.env = pure false := by rfl) (hw : swappedStores [tg] e X.env = pure none := by rfl)
    (h1 : (assignEach [tg] X.env).map (·.2) = [assign tg X.env] := by rfl) : JS X B Δ (.Assign [tg] e pos) E := by
  obtain ⟨g, hg, gd⟩ := tgt
  exact js_asg he (gd v) (k v rfl) hg hs hw h1
def exM (en : α → D) : Except Exn α → Except Exn D
  | .ok a => .ok (en a)
  | .error x => .error x
theorem exM_ok {F : Except Exn α} {v : α} (h : F = .ok v) : exM en F = .ok (en v) := by rw [h]; rfl
theorem exM_er {F : Except Exn α} {x : Exn} (h : F = .error x) : exM en F = .error x := by rw [h]; rfl
def xn (C : Addr) : Exn := ⟨C, [], []⟩
structure ExcF (K : PySem.W.Frag) (mg : Str → Option Value) (x : Str) (C : Addr) : Prop where
  ex : PySem.W.excIn K C [.type "ValueError", .type "Exception", .type "BaseException", .type "object"] "ValueError.__new__" = true
  gl : mg x = some (.ref C)
  kp : PySem.W.keepIn K (.ref C) = true
  sb : PySem.W.subIn K (.ref C) (.type "BaseException") = some true
  ty : PySem.W.typeIn K (.ref C) = some (.type "type")
theorem js_raise {x m : Str} {C : Addr} {p0 p2 p3 : Pos} {j : Nat} (h : ExcF X.K X.mg x C) (k : E.xc Δ (xn C)) (hc : X.calm = true) (hg : Gl X x := by rfl) (hdb : (x == ("__debug__" : Str)) = false := by decide) :
    JS X B Δ (.Raise (some (.Call (.Name x p0) [.Constant (.str m) j p2] [] p3)) none pos) E := fun ow σ H De W tk S G =>
  ws_of (ps_raise hc tk (pmk_own PySem.F.excBase_ValueError h.ex h.gl h.kp (raises_own h.sb h.ty) hg hdb)) (G.xc Δ ow σ H (xn C) _ _ k S ⟨rfl, .inl ⟨rfl, rfl⟩⟩)
theorem je_callE {x : Str} {es : List Expr} {ds : List D} {R : Rl} {k : Nat} {p0 : Pos} {F : Except Exn α} (Fx : Fn X.prog X.w X.K X.mg X.base k x R) (hr : Room k X.A) (ha : AV X B Δ (e :: es) ds) (hR : R ds (exM en F)) (hg : Gl X x := by rfl)
    (hdb : (x == ("__debug__" : Str)) = false := by decide) (he : starEach (e :: es) X.env = (false, eval e X.env) :: starEach es X.env := by rfl) (hpl : (backTo pos (starEach es X.env)).any (·.1) = false := by rfl) :
    JE X B Δ (.Call (.Name x p0) (e :: es) [] pos) (fun d => ∃ v, F = .ok v ∧ d = en v) (fun x => F = .error x) :=
  je_call Fx hr ha hR (fun d q => by
    cases hF : F with
    | ok v => rw [hF] at q; exact ⟨v, rfl, (Except.ok.inj q).symm⟩
    | error x => rw [hF] at q; cases q) (fun x q => by
    cases hF : F with
    | ok v => rw [hF] at q; cases q
    | error y => rw [hF] at q; exact congrArg _ (Except.error.inj q)) hg hdb he hpl
end
end Dy
namespace Dy
open PySem PySem.Spec PyProof.Rows L2
def PyE {α : Type} [DecidableEq α] (en : α → D) (n : Nat) : Prop := ∃ f : α → PyData, (∀ a, pyD (en a) = some (f a)) ∧ (∀ a, (f a).canLay0 = true) ∧ (∀ a, (f a).depth ≤ n) ∧ ∀ a b, PyData.eqv (f a) (f b) = decide (a = b)
section
variable {α β : Type} [DecidableEq α] [DecidableEq β] {en : α → D} {e2 : β → D} {n m : Nat}
theorem pyE_int : PyE D.int 0 := ⟨.int, fun _ => by unfold pyD; rfl, fun _ => by simp [PyData.canLay0], fun _ => by simp [PyData.depth], fun a b => by simp [PyData.eqv, Bool.beq_eq_decide_eq]⟩
theorem pyE_pair (h1 : PyE en n) (h2 : PyE e2 m) : PyE (eP en e2) (max n m + 1) := by
  obtain ⟨f, a1, a2, a3, a4⟩ := h1
  obtain ⟨g, b1, b2, b3, b4⟩ := h2
  refine ⟨fun p => .tuple [f p.1, g p.2], fun p => ?_, fun p => ?_, fun p => ?_, fun p q => ?_⟩
  · simp [eP, pyD, pyDs, a1, b1]
  · simp [PyData.canLay0, PyData.canLayAll0, a2, b2]
  · have := a3 p.1
    have := b3 p.2
    simp [PyData.depth, PyData.depthAll]
    omega
  · simp only [PyData.eqv, PyData.eqvAll, a4, b4, Bool.and_true]
    rw [← Bool.decide_and]
    apply decide_eq_decide.mpr
    constructor
    · rintro ⟨h1, h2⟩
      exact Prod.ext h1 h2
    · rintro rfl
      exact ⟨rfl, rfl⟩
omit [DecidableEq α] in
theorem pyDs_map {f : α → PyData} (h : ∀ a, pyD (en a) = some (f a)) : ∀ l : List α, pyDs (l.map en) = some (l.map f)
  | [] => by unfold pyDs; rfl
  | a :: l => by
    rw [List.map_cons]
    unfold pyDs
    rw [h a, pyDs_map h l]
    rfl
omit [DecidableEq α] in
theorem lay_map {f : α → PyData} (h : ∀ a, (f a).canLay0 = true) : ∀ l : List α, PyData.canLayAll0 (l.map f) = true
  | [] => by simp [PyData.canLayAll0]
  | a :: l => by rw [List.map_cons]; simp [PyData.canLayAll0, h a, lay_map h l]
omit [DecidableEq α] in
theorem dep_map {f : α → PyData} (h : ∀ a, (f a).depth ≤ n) : ∀ l : List α, PyData.depthAll (l.map f) ≤ n
  | [] => by simp [PyData.depthAll]
  | a :: l => by
    have := h a
    have := dep_map h l
    rw [List.map_cons]
    simp [PyData.depthAll]
    omega
theorem eqv_map {f : α → PyData} (h : ∀ a b, PyData.eqv (f a) (f b) = decide (a = b)) : ∀ l k : List α, PyData.eqvAll (l.map f) (k.map f) = decide (l = k)
  | [], [] => by simp [PyData.eqvAll]
  | [], _ :: _ => by simp [PyData.eqvAll]
  | _ :: _, [] => by simp [PyData.eqvAll]
  | a :: l, b :: k => by
    rw [List.map_cons, List.map_cons]
    simp only [PyData.eqvAll, h, eqv_map h l k]
    rw [← Bool.decide_and]
    apply decide_eq_decide.mpr
    simp
theorem pyE_Q (h1 : PyE en n) : PyE (eQ en) (n + 1) := by
  obtain ⟨f, a1, a2, a3, a4⟩ := h1
  refine ⟨fun l => .tuple (l.map f), fun l => ?_, fun l => ?_, fun l => ?_, fun l k => ?_⟩
  · simp [eQ, pyD, pyDs_map a1]
  · simp [PyData.canLay0, lay_map a2]
  · have := dep_map a3 l
    simp [PyData.depth]
    omega
  · simp only [PyData.eqv, eqv_map a4]
theorem pyE_L (h1 : PyE en n) : PyE (eL en) (n + 1) := by
  obtain ⟨f, a1, a2, a3, a4⟩ := h1
  refine ⟨fun l => .list (l.map f), fun l => ?_, fun l => ?_, fun l => ?_, fun l k => ?_⟩
  · simp [eL, pyD, pyDs_map a1]
  · simp [PyData.canLay0, lay_map a2]
  · have := dep_map a3 l
    simp [PyData.depth]
    omega
  · simp only [PyData.eqv, eqv_map a4]
/-- .. told apart from nothing only -/
def PyN {α : Type} (en : α → D) (n : Nat) : Prop := ∃ f : α → PyData, (∀ a, pyD (en a) = some (f a)) ∧ (∀ a, (f a).canLay0 = true) ∧ ∀ a, (f a).depth ≤ n
theorem PyE.toN (h : PyE en n) : PyN en n := let ⟨f, a1, a2, a3, _⟩ := h; ⟨f, a1, a2, a3⟩
section
variable {α : Type} {en : α → D} {n : Nat}
theorem nilB_of (h : PyN en n) (hn : n + 1 ≤ 64) (l : List α) : EqB (.lst (l.map en)) (.lst []) (decide (l = [])) := by
  obtain ⟨f, a1, a2, a3⟩ := h
  refine ⟨.list (l.map f), .list [], by unfold pyD; rw [pyDs_map a1]; rfl, by unfold pyD pyDs; rfl, ?_, by decide, ?_⟩
  · have := dep_map a3 l
    unfold SeqAt.shaped
    simp [PyData.canLay0, lay_map a2, PyData.depth]
    omega
  · cases l <;> simp [PyData.eqv, PyData.eqvAll]
theorem nilT_of (h : PyN en n) (hn : n + 1 ≤ 64) (l : List α) : EqB (.tup (l.map en)) (.tup []) (decide (l = [])) := by
  obtain ⟨f, a1, a2, a3⟩ := h
  refine ⟨.tuple (l.map f), .tuple [], by unfold pyD; rw [pyDs_map a1]; rfl, by unfold pyD pyDs; rfl, ?_, by decide, ?_⟩
  · have := dep_map a3 l
    unfold SeqAt.shaped
    simp [PyData.canLay0, lay_map a2, PyData.depth]
    omega
  · cases l <;> simp [PyData.eqv, PyData.eqvAll]
end
theorem eqB_of (h : PyE en n) (hn : n ≤ 64) (x y : α) : EqB (en x) (en y) (decide (x = y)) := by
  obtain ⟨f, a1, a2, a3, a4⟩ := h
  have sh : ∀ a, SeqAt.shaped (f a) = true := fun a => by
    have := a3 a
    unfold SeqAt.shaped
    rw [a2 a, Bool.true_and]
    exact decide_eq_true (by omega)
  exact ⟨f x, f y, a1 x, a1 y, sh x, sh y, a4 x y⟩
end
section
variable {X : Cx} {B : Bas} {Δ : List Sl} {E : EndD} {e a b : Expr} {pos p : Pos} {α : Type} [DecidableEq α] {en : α → D} {n : Nat} {k : Nat} {x y : α} {l m : List α}
theorem jv_eqLE (hr : Room k X.A) (h : PyE en n) (hn : n + 1 ≤ 64) (ha : LV X B Δ a (l.map en)) (hb : LV X B Δ b (m.map en)) : JV X B Δ (.Compare a [.Eq] [b] pos) (.bl (decide (l = m))) := jv_eqL hr.units ha hb (eqB_of (pyE_L h) hn l m)
theorem tv_eqE (hr : Room k X.A) (h : PyE en n) (hn : n ≤ 64) (ha : JV X B Δ a (en x)) (hb : JV X B Δ b (en y)) : TV X B Δ (.Compare a [.Eq] [b] pos) (decide (x = y)) := tv_opR (pt_cmpR (op_eqD hr.units) peW peW (nomark _)) ha hb (opS_eqD (eqB_of h hn x y))
theorem tv_neLE (hr : Room k X.A) (h : PyE en n) (hn : n + 1 ≤ 64) (ha : LV X B Δ a (l.map en)) (hb : LV X B Δ b (m.map en)) : TV X B Δ (.Compare a [.NotEq] [b] pos) (!decide (l = m)) := tv_mk fun ow σ H Q W tk S q =>
  wt_of (pt_cmpR (op_neD hr.units) peW peW (nomark _)) (ha ow σ H _ W tk S fun p vs H1 s1 hL r1 => hb ow σ H1 _ W tk (S.up s1) fun p2 ws H2 s2 hL2 r2 => by
    obtain ⟨p1, p2, e1, e2, z1, z2, e⟩ := eqB_of (pyE_L h) hn l m
    exact ⟨p1, p2, LV.dp e1 (s2 _ _ hL) (r1.up s2), LV.dp e2 hL2 r2, z1, z2, _, rfl, e ▸ q _ (s1.trans s2)⟩)
section
variable {α : Type} {en : α → D} {n k : Nat} {l : List α}
theorem tv_eqNT (hr : Room k X.A) (h : PyN en n) (hn : n + 1 ≤ 64) (ha : JV X B Δ a (.tup (l.map en))) (hb : JV X B Δ b (.tup [])) : TV X B Δ (.Compare a [.Eq] [b] pos) (decide (l = [])) := tv_opR (pt_cmpR (op_eqD hr.units) peW peW (nomark _)) ha hb (opS_eqD (nilT_of h hn l))
theorem tv_neNT (hr : Room k X.A) (h : PyN en n) (hn : n + 1 ≤ 64) (ha : JV X B Δ a (.tup (l.map en))) (hb : JV X B Δ b (.tup [])) : TV X B Δ (.Compare a [.NotEq] [b] pos) (!decide (l = [])) := tv_opR (pt_cmpR (op_neD hr.units) peW peW (nomark _)) ha hb (opS_neD (nilT_of h hn l))
theorem tv_neNL (hr : Room k X.A) (h : PyN en n) (hn : n + 1 ≤ 64) (ha : LV X B Δ a (l.map en)) (hb : LV X B Δ b []) : TV X B Δ (.Compare a [.NotEq] [b] pos) (!decide (l = [])) := tv_mk fun ow σ H Q W tk S q =>
  wt_of (pt_cmpR (op_neD hr.units) peW peW (nomark _)) (ha ow σ H _ W tk S fun p vs H1 s1 hL r1 => hb ow σ H1 _ W tk (S.up s1) fun p2 ws H2 s2 hL2 r2 => by
    obtain ⟨p1, p2, e1, e2, z1, z2, e⟩ := nilB_of h hn l
    exact ⟨p1, p2, LV.dp e1 (s2 _ _ hL) (r1.up s2), LV.dp e2 hL2 r2, z1, z2, _, rfl, e ▸ q _ (s1.trans s2)⟩)
end
end
end Dy
namespace Dy
open PySem PySem.Spec PyProof.Rows L2
section
variable {prog : Program} {w : World} {A : Around} {E : Value → Shared → Prop} {s : Shared}
theorem sorted_both {l : Addr} {o : Obj} {its : List Value} {n : Nat} {T : String} {k : Value → Int × Int} {Q : Value → Shared → Prop} (hT : T = "list" ∨ T = "tuple") (ho : s.heap.get? l = some o) (hc : o.cls = .type T) (hd : o.data = .seq its.toArray n) (hz : its.length ≤ sizeLine)
    (hp : ∀ v ∈ its, Srt.IsPair s.heap v (k v).1 (k v).2)
    (h : ∀ (h' : Heap) (d : Addr) (out : List Value), SrtO.Srtd (fun v u => SrtO.lexB (k v) (k u)) out → out.Perm its → (∀ b u, s.heap.get? b = some u → h'.get? b = some u) → s.heap.get? d = none → (∃ n, h'.get? d = some (seqObj "list" out.toArray n)) → Q (.ref d) { s with heap := h' }) :
    wpAny (model prog w) A (call (.builtin "sorted") [.ref l]) Q E s := by
  refine Calls.call_function_entry kind_sorted plain_sorted entry_sorted (args_sorted1 _) ?_
  unfold Builtin.«sorted»
  refine wpAny_bind (m := checkCount "sorted" 1 1 _) (wpAny_pure ?_)
  refine wpAny_bind (wpAny_collect_seq (hsz := by rw [List.size_toArray]; exact hz) l hT ho hc hd fun h1 k1 => ?_)
  refine wpAny_bind (wpAny_newList ?_ hz)
  have hoL : (h1.push (seqObj "list" its.toArray 0)).get? h1.objs.size = some (seqObj "list" its.toArray 0) := Heap.get?_push_size _ rfl
  have k2 : ∀ b u, s.heap.get? b = some u → b ≠ h1.objs.size ∧ (h1.push (seqObj "list" its.toArray 0)).get? b = some u := fun b u q => ⟨Nat.ne_of_lt (Heap.lt_size (k1 b u q)), Heap.get?_push_of_some _ (k1 b u q)⟩
  have hS : 2 ≤ its.length → SrtO.SortableO prog w A.in1.in1 { s with heap := h1.push (seqObj "list" its.toArray 0) } h1.objs.size its fun v u => SrtO.lexB (k v) (k u) := fun h2 =>
    SrtO.pairs_sortableO (s := { s with heap := h1.push (seqObj "list" its.toArray 0) }) (by omega) (fun v hm => (hp v hm).keeps fun b u e _ => (k2 b u e).2) fun u e c => by
      have e' := e.symm.trans hoL
      cases e'
      exact absurd (Value.type.inj c) (by decide)
  refine wpAny_bind (wpAny_holding (wpAny_call_entry slot_list_sort ⟨_, hoL, rfl⟩ entry_list_sort
    (SrtO.list_sort_ord (SrtO.swo_lex k) hoL hz hS fun out hs hb => ⟨_, rfl, ?_⟩) (args_list_sort _)))
  refine wpAny_pure ⟨_, rfl, h _ _ out hs hb.perm (fun b u e => ?_) ?_ (sortedHeap_at hoL)⟩
  · rw [sortedHeap_old (k2 b u e).1 (Heap.lt_size (k2 b u e).2)]
    exact (k2 b u e).2
  · cases q : s.heap.get? h1.objs.size with
    | none => rfl
    | some u => exact absurd (Heap.lt_size (k1 _ u q)) (Nat.lt_irrefl _)
end
theorem there_of {P : Program} {w : World} {H : Hp} {h : Heap} {a : Addr} {o : HO} (x : ObjOk P w H h a o) : ∃ u, h.get? a = some u := by
  cases hq : h.get? a with
  | some u => exact ⟨u, rfl⟩
  | none =>
    exfalso
    cases o with
    | lst xs => obtain ⟨_, _, _, _, e⟩ := x; rw [hq] at e; cases e
    | tup xs => obtain ⟨_, _, _, ⟨_, e, _⟩⟩ := x; rw [hq] at e; cases e
    | dK kvs => obtain ⟨_, _, _, _, o, _, _, e, _⟩ := x; rw [hq] at e; cases e
    | dT kvs => obtain ⟨_, _, _, _, o, _, _, e, _⟩ := x; rw [hq] at e; cases e
    | set S n => obtain ⟨o, _, _, _, e, _⟩ := x; rw [hq] at e; cases e
    | ins C dx fs => obtain ⟨_, _, _, e, _⟩ := x; rw [hq] at e; cases e
    | own y => obtain ⟨_, e⟩ := x; rw [hq] at e; cases e
    | xd fs => obtain ⟨_, ⟨_, _, _, e, _⟩, _⟩ := x; rw [hq] at e; cases e
    | rng lo hi => obtain ⟨_, _, _, e⟩ := x; rw [hq] at e; cases e
    | frz ob u => obtain ⟨e, _⟩ := x; rw [hq] at e; cases e
    | tbl ps => have e : h.get? a = some _ := x; rw [hq] at e; cases e
    | met f y => have e : h.get? a = some _ := x; rw [hq] at e; cases e
    | ext φ => obtain ⟨_, ⟨_, e⟩, _⟩ := x; rw [hq] at e; cases e
/-- the pairs that values stand for -/
def Prs (K : PySem.W.Frag) (H : Hp) (xs : List V) (ps : List (Int × Int)) : Prop := xs.length = ps.length ∧ ∀ z ∈ xs.zip ps, ∃ t, z.1 = V.ref t ∧ SqT K H t [.int z.2.1, .int z.2.2]
def rSortD (K : PySem.W.Frag) : List V → Hp → VK → Prop := fun vs H Q => ∃ (a : Addr) (xs : List V) (ps : List (Int × Int)), vs = [V.ref a] ∧ (SqL K H a xs ∨ SqT K H a xs) ∧ Prs K H xs ps ∧
  ∀ ys qs p, ys.length = qs.length → (∀ z ∈ ys.zip qs, z ∈ xs.zip ps) → qs.Perm ps → SrtO.Srtd SrtO.lexB qs → H p = none → Q (.ref p) (upd H p (.lst ys))
open Classical in
noncomputable def kOf (h : Heap) (v : Value) : Int × Int := if q : ∃ p : Int × Int, Srt.IsPair h v p.1 p.2 then q.choose else (0, 0)
theorem isPair_inj {h : Heap} {v : Value} {x y x' y' : Int} (a : Srt.IsPair h v x y) (b : Srt.IsPair h v x' y') : x = x' ∧ y = y' := by
  obtain ⟨l, o, t, u, n, rfl, ho, hc, hd⟩ := a
  obtain ⟨l', o', t', u', n', e, ho', hc', hd'⟩ := b
  cases e
  rw [ho] at ho'
  cases ho'
  rw [hd] at hd'
  injection hd' with e1 _
  have e2 := congrArg Array.toList e1
  simp at e2
  exact ⟨e2.1.1, e2.2.1⟩
theorem kOf_eq {h : Heap} {v : Value} {p : Int × Int} (a : Srt.IsPair h v p.1 p.2) : kOf h v = p := by
  have q : ∃ p : Int × Int, Srt.IsPair h v p.1 p.2 := ⟨p, a⟩
  unfold kOf
  rw [dif_pos q]
  have := isPair_inj q.choose_spec a
  exact Prod.ext this.1 this.2
theorem zip_map_mem {α β γ : Type} {f : α → β} {g : α → γ} : ∀ {l : List α} {z : β × γ}, z ∈ (l.map f).zip (l.map g) → ∃ a ∈ l, z = (f a, g a)
  | [], z, h => by simp at h
  | a :: l, z, h => by
    simp only [List.map_cons, List.zip_cons_cons, List.mem_cons] at h
    rcases h with h | h
    · exact ⟨a, by simp, h⟩
    · obtain ⟨b, hb, e⟩ := zip_map_mem h
      exact ⟨b, by simp [hb], e⟩
theorem zip_map_mk {α β γ : Type} {f : α → β} {g : α → γ} : ∀ {l : List α} {a : α}, a ∈ l → (f a, g a) ∈ (l.map f).zip (l.map g)
  | [], a, h => by simp at h
  | b :: l, a, h => by
    rcases List.mem_cons.mp h with rfl | h
    · simp
    · simp only [List.map_cons, List.zip_cons_cons, List.mem_cons]
      exact .inr (zip_map_mk h)
section
variable {X : Cx}
theorem cr_sortD : CallR X (.builtin "sorted") (rSortD X.K) := by
  intro pins s σ H vs us Q I r h
  obtain ⟨a, xs, ps, rfl, hs, ⟨hl, hx⟩, q⟩ := h
  obtain ⟨u, rfl, ru⟩ := vals1 r
  obtain rfl : u = Value.ref a := ru
  have hxr : ∀ x ∈ xs, ∃ t, x = V.ref t := fun x m => by
    obtain ⟨i, hi, e⟩ := List.getElem_of_mem m
    have hi2 : i < ps.length := hl ▸ hi
    have hz : (xs[i], ps[i]) ∈ xs.zip ps := by
      have : (xs.zip ps)[i]? = some (xs[i], ps[i]) := by rw [List.getElem?_zip_eq_some]; simp [hi, hi2]
      exact List.mem_of_getElem? this
    obtain ⟨t, e1, _⟩ := hx _ hz
    exact ⟨t, e ▸ e1⟩
  have main : ∀ (its : List Value) (T : String) (o : Obj) (n : Nat), Vals xs its → xs.length ≤ sizeLine → (T = "list" ∨ T = "tuple") → s.heap.get? a = some o → o.cls = .type T → o.data = .seq its.toArray n → wpAny (model X.prog X.w) X.A (call (.builtin "sorted") [.ref a]) (EP X pins σ Q) X.xe s := by
    intro its T o n rv hz hT ho hc hd
    obtain ⟨e1, e2⟩ := refs_back rv hxr
    have hil : its.length = xs.length := rv.length.symm
    have hpair : ∀ (i : Nat) (h1 : i < its.length) (h2 : i < ps.length), Srt.IsPair s.heap its[i] ps[i].1 ps[i].2 := fun i h1 h2 => by
      have h3 : i < xs.length := by omega
      have hz : (xs[i], ps[i]) ∈ xs.zip ps := by
        have : (xs.zip ps)[i]? = some (xs[i], ps[i]) := by rw [List.getElem?_zip_eq_some]; simp [h3, h2]
        exact List.mem_of_getElem? this
      obtain ⟨t, et, hT⟩ := hx _ hz
      obtain ⟨its2, r2, ⟨o, ho, hc, n, hd⟩, _⟩ := I.tuple hT
      obtain ⟨u1, u2, rfl, ri, rj⟩ := vals2 r2
      obtain ⟨t1, rfl⟩ := ri
      obtain ⟨t2, rfl⟩ := rj
      obtain ⟨t', et'⟩ := e2 _ (List.getElem_mem h1)
      have : backV its[i] = xs[i] := by simp [e1]
      rw [et', show xs[i] = V.ref t from et] at this
      have tt : t' = t := by simpa [backV] using this
      subst tt
      exact ⟨t', o, t1, t2, n, et', ho, hc, hd⟩
    have hk : its.map (kOf s.heap) = ps := by
      apply List.ext_getElem (by rw [List.length_map]; omega)
      intro i h1 h2
      rw [List.getElem_map]
      exact kOf_eq (hpair i (by simpa using h1) h2)
    refine sorted_both (k := kOf s.heap) hT ho hc hd (by omega) (fun v hv => ?_) fun h' d out h1 h2 kp hd hn => ?_
    · obtain ⟨i, hi, e⟩ := List.getElem_of_mem hv
      have := hpair i hi (by omega)
      rw [← e, kOf_eq this]
      exact this
    · obtain ⟨n, hn⟩ := hn
      have h3 : ∀ u ∈ out, ∃ a, u = Value.ref a := fun u hu => e2 u (h2.mem_iff.mp hu)
      have hH : H d = none := by
        cases q : H d with
        | none => rfl
        | some o => obtain ⟨u, e⟩ := there_of (I.hok d o q); rw [hd] at e; cases e
      refine ⟨.ref d, upd H d (.lst (out.map backV)), I.laidN (t' := s.toks) kp hd hH ⟨?_, out, n, vals_back h3, hn⟩, rfl, q _ (out.map (kOf s.heap)) d (by rw [List.length_map, List.length_map]) (fun z hz => ?_) ?_ (SrtO.srtd_map h1) hH⟩
      · rw [List.length_map, h2.length_eq]
        omega
      · obtain ⟨v, hv, rfl⟩ := zip_map_mem hz
        have := zip_map_mk (f := backV) (g := kOf s.heap) (h2.mem_iff.mp hv)
        rw [hk, ← e1] at this
        exact this
      · rw [← hk]
        exact h2.map _
  rcases hs with hs | hs
  · obtain ⟨its, rv, ⟨o, n, ho, hc, _, hd⟩, hz⟩ := I.list hs
    exact main its "list" o n rv hz (.inl rfl) ho hc hd
  · obtain ⟨its, rv, ⟨o, ho, hc, n, hd⟩, hz⟩ := I.tuple hs
    exact main its "tuple" o n rv hz (.inr rfl) ho hc hd
end
def leP (a b : Int × Int) : Bool := !SrtO.lexB b a
def sortP (l : List (Int × Int)) : List (Int × Int) := l.mergeSort leP
theorem leP_iff {a b : Int × Int} : leP a b = true ↔ a.1 < b.1 ∨ (a.1 = b.1 ∧ a.2 ≤ b.2) := by
  unfold leP
  rw [Bool.not_eq_true', SrtO.lexB_no]
  omega
theorem sortP_perm (l : List (Int × Int)) : (sortP l).Perm l := List.mergeSort_perm l leP
theorem sortP_srt (l : List (Int × Int)) : (sortP l).Pairwise fun a b => leP a b = true := by
  apply List.pairwise_mergeSort
  · intro a b c h1 h2
    rw [leP_iff] at *
    omega
  · intro a b
    rw [Bool.or_eq_true, leP_iff, leP_iff]
    omega
theorem sortP_uniq {l m : List (Int × Int)} (hp : m.Perm l) (hs : m.Pairwise fun a b => leP a b = true) : m = sortP l := by
  refine List.Perm.eq_of_pairwise (le := fun a b => leP a b = true) (fun a b _ _ h1 h2 => ?_) hs (sortP_srt l) (hp.trans (sortP_perm l).symm)
  rw [leP_iff] at *
  exact Prod.ext (by omega) (by omega)
theorem srtd_le {l : List (Int × Int)} (h : SrtO.Srtd SrtO.lexB l) : l.Pairwise fun a b => leP a b = true := by
  refine List.Pairwise.imp (fun {a b} h => ?_) h
  unfold leP
  rw [h]
  rfl
section
variable {X : Cx} {B : Bas} {Δ : List Sl} {E : EndD} {e a b : Expr} {pos p : Pos} {α : Type}
theorem reps_prs {K : PySem.W.Frag} {O : Addr → Prop} {H : Hp} : ∀ {ps : List (Int × Int)} {vs : List V}, Reps K O H (ps.map (eP D.int D.int)) vs → Prs K H vs ps
  | [], vs, h => by rw [Reps.nil_inv h]; exact ⟨rfl, fun z m => by simp at m⟩
  | q :: ps, vs, h => by
    obtain ⟨v, vs', rfl, r, h'⟩ := Reps.cons_inv h
    obtain ⟨t, ws, rfl, hT, r2⟩ := rep_tup r
    obtain ⟨x, y, rfl, rx, ry⟩ := reps2 r2
    rw [rep_int rx, rep_int ry] at hT
    obtain ⟨h1, h2⟩ := reps_prs h'
    refine ⟨by simp [h1], fun z m => ?_⟩
    simp only [List.zip_cons_cons, List.mem_cons] at m
    rcases m with rfl | m
    · exact ⟨t, rfl, hT.sq⟩
    · exact h2 z m
theorem reps_zip {K : PySem.W.Frag} {O : Addr → Prop} {H : Hp} {en : α → D} : ∀ {ps : List α} {vs : List V}, Reps K O H (ps.map en) vs → ∀ z ∈ vs.zip ps, Rep K O H (en z.2) z.1
  | [], vs, h => fun z m => by rw [Reps.nil_inv h] at m; simp at m
  | q :: ps, vs, h => fun z m => by
    obtain ⟨v, vs', rfl, r, h'⟩ := Reps.cons_inv h
    simp only [List.zip_cons_cons, List.mem_cons] at m
    rcases m with rfl | m
    · exact r
    · exact reps_zip h' z m
theorem reps_of_zip {K : PySem.W.Frag} {O : Addr → Prop} {H : Hp} {en : α → D} : ∀ {ps : List α} {vs : List V}, vs.length = ps.length → (∀ z ∈ vs.zip ps, Rep K O H (en z.2) z.1) → Reps K O H (ps.map en) vs
  | [], vs, hl, h => by
    rw [List.length_nil] at hl
    rw [List.eq_nil_of_length_eq_zero hl]
    exact Reps.nil
  | q :: ps, [], hl, h => by simp at hl
  | q :: ps, v :: vs, hl, h => Reps.cons (h (v, q) (by simp)) (reps_of_zip (by simpa using hl) fun z m => h z (by simp [m]))
theorem fl_sortP {ps : List (Int × Int)} (h : QV X B Δ e (ps.map (eP D.int D.int))) (hm : X.mg "sorted" = none) (hg : Gl X "sorted" := by rfl) (he : starEach [e] X.env = [(false, eval e X.env)] := by rfl) : FL X B Δ (.Call (.Name "sorted" p) [e] [] pos) ((sortP ps).map (eP D.int D.int)) := fun ow σ H Q W tk S q =>
  we_of (pe_callB cr_sortD hg hm (by decide +kernel) (pa_cons peW pa_nil he) (by decide) (by decide) he rfl) (h ow σ H _ W tk S fun a vs H1 s1 hL r1 =>
    ⟨a, vs, ps, rfl, hL, reps_prs r1, fun ys qs l hlen hz hperm hs hl => by
      have e1 : qs = sortP ps := sortP_uniq hperm (srtd_le hs)
      subst e1
      exact q l ys _ (free_back s1 hl) (s1.trans (same_new hl)) upd_same (((reps_of_zip hlen fun z m => reps_zip r1 z (hz z m)).add hl).up (same_new hl))⟩)
theorem js_setIx (i : Nat) {x : Str} {ix : Expr} {px spos : Pos} {ds : List D} {d : D} {k : Int} {j : Nat} (he : JV X B Δ e d) (hi : JV X B Δ ix (.int k)) (hj : ixN ds.length k = some j) (kk : E.nx (Δ.set i (.own (ds.set j d)))) (h : Δ[i]? = some (.own ds) := by rfl)
    (hN : X.N[i]? = some x := by rfl) (hv : Vis X.env.scope x := by first | exact Or.inl rfl | exact Or.inr (Or.inl rfl) | exact Or.inr (Or.inr rfl)) (hd : (x == ("__debug__" : Str)) = false := by decide) (hcd : (x == ("__classdict__" : Str)) = false := by decide)
    (ha : ∀ v, assign (.Subscript (.Name x px) ix spos) X.env v = (do
      let ov ← holding [v] (eval (.Name x px) X.env)
      let iv ← holding [v, ov] (eval ix X.env)
      standAt spos
      holding [v, ov, iv] (setItem ov iv v)
      release [v, ov, iv] []) := by intro _; rfl)
    (hs : swapsWithSole [.Subscript (.Name x px) ix spos] e pos.line X.env = pure false := by rfl) (hw : swappedStores [.Subscript (.Name x px) ix spos] e X.env = pure none := by rfl)
    (h1 : (assignEach [.Subscript (.Name x px) ix spos] X.env).map (·.2) = [assign (.Subscript (.Name x px) ix spos) X.env] := by rfl) :
    JS X B Δ (.Assign [.Subscript (.Name x px) ix spos] e pos) E := fun ow σ H De W tk S G =>
  ws_of (ps_asg peW (pg_sub (pe_var hN hv hd hcd) peW set_list ha) hs hw h1) (he.use tk S fun u H1 s1 r1 => by
    have S1 := S.up s1
    obtain ⟨a, vs, e1, e2, e3, r⟩ := S1.sl i _ h
    refine ⟨_, e1, hi.use tk S1 fun v H2 s2 r2 => ?_⟩
    have S2 := S1.up s2
    refine ⟨a, vs, k, j, rfl, rep_int r2, s2 _ _ e3, by rw [← r.len]; exact hj, ?_⟩
    have so : SameO (InO B ow) H2 (upd H2 a (.lst (vs.set j u))) := fun b u n z => by
      rw [upd_ne (fun q => n (.inr ⟨i, by rw [q]; exact e2⟩))]
      exact z
    exact G.nx _ ow σ _ kk (S2.write e2 ⟨a, vs.set j u, e1, e2, upd_same, Reps.mono so (fun _ z => z) _ _ ((r.up s2).set j (r1.up s2))⟩))
theorem ixN_neg {n : Nat} {k : Int} (h0 : k < 0) (h1 : -(n : Int) ≤ k) : ixN n k = some (k + n).toNat := by
  unfold ixN
  rw [if_neg (by omega), if_pos h1]
theorem js_setIxE (i : Nat) (en : α → D) (l : List α) (v0 : α) {x : Str} {ix : Expr} {px spos : Pos} {k : Int} {j : Nat} (he : JV X B Δ e (en v0)) (hi : JV X B Δ ix (.int k)) (hj : ixN l.length k = some j) (kk : ∀ v, v = l.set j v0 → E.nx (Δ.set i (.own (v.map en)))) (h : Δ[i]? = some (.own (l.map en)) := by rfl)
    (hN : X.N[i]? = some x := by rfl) (hv : Vis X.env.scope x := by first | exact Or.inl rfl | exact Or.inr (Or.inl rfl) | exact Or.inr (Or.inr rfl)) (hd : (x == ("__debug__" : Str)) = false := by decide) (hcd : (x == ("__classdict__" : Str)) = false := by decide)
    (ha : ∀ v, assign (.Subscript (.Name x px) ix spos) X.env v = (do
      let ov ← holding [v] (eval (.Name x px) X.env)
      let iv ← holding [v, ov] (eval ix X.env)
      standAt spos
      holding [v, ov, iv] (setItem ov iv v)
      release [v, ov, iv] []) := by intro _; rfl)
    (hs : swapsWithSole [.Subscript (.Name x px) ix spos] e pos.line X.env = pure false := by rfl) (hw : swappedStores [.Subscript (.Name x px) ix spos] e X.env = pure none := by rfl)
    (h1 : (assignEach [.Subscript (.Name x px) ix spos] X.env).map (·.2) = [assign (.Subscript (.Name x px) ix spos) X.env] := by rfl) :
    JS X B Δ (.Assign [.Subscript (.Name x px) ix spos] e pos) E := by
  refine js_setIx i he hi (by rw [List.length_map]; exact hj) ?_ h hN hv hd hcd ha hs hw h1
  have := kk _ rfl
  rw [List.map_set] at this
  exact this
theorem js_revE (i : Nat) (en : α → D) (l : List α) {x : Str} {px apos cpos : Pos} (k : ∀ v, v = l.reverse → E.nx (Δ.set i (.own (v.map en)))) (h : Δ[i]? = some (.own (l.map en)) := by rfl)
    (hN : X.N[i]? = some x := by rfl) (hv : Vis X.env.scope x := by first | exact Or.inl rfl | exact Or.inr (Or.inl rfl) | exact Or.inr (Or.inr rfl)) (hd : (x == ("__debug__" : Str)) = false := by decide) (hcd : (x == ("__classdict__" : Str)) = false := by decide)
    (hp : PE X (.Call (.Attribute (.Name x px) "reverse" apos) [] [] cpos) (tBM0 X.K "list" rReverse (tVar i)) := by exact pe_bm0 PySem.F.plainAttrs_list PySem.F.slot_list_reverse PySem.F.type_list_reverse mt_reverse (pv _))
    (hs : swapsWith (.Call (.Attribute (.Name x px) "reverse" apos) [] [] cpos) none pos.line X.env = pure false := by rfl) : JS X B Δ (.Expr (.Call (.Attribute (.Name x px) "reverse" apos) [] [] cpos) pos) E := fun ow σ H De W tk S G => by
  obtain ⟨a, vs, e1, e2, e3, r⟩ := S.sl i _ h
  refine ws_of (ps_expr hp hs) ⟨.ref a, e1, .inl ⟨rfl, vs, SqL.of e3⟩, ?_⟩
  refine ⟨a, vs, rfl, rfl, e3, ?_⟩
  have so : SameO (InO B ow) H (upd H a (.lst vs.reverse)) := fun b u n z => by
    rw [upd_ne (fun q => n (.inr ⟨i, by rw [q]; exact e2⟩))]
    exact z
  have kk := k _ rfl
  rw [List.map_reverse] at kk
  exact G.nx _ ow σ _ kk (S.write e2 ⟨a, vs.reverse, e1, e2, upd_same, Reps.mono so (fun _ z => z) _ _ r.rev⟩)
end
end Dy
namespace Dy
open PySem PySem.Spec PyProof.Rows L2
section
variable {X : Cx} {CX : CXT} {k n : Nat} {f C : Addr} {fd : FuncData} {ps ks : List Str} {sp : Sp} {E : L2.St → XK} {x m : Str} {p pos apos : Pos} {e o : Expr} {es : List Expr} {kws : List Keyword} {ta : TE} {t tk : TA} {g : List Value → List Value → List Value} {gV : List V → List V → List V}
/-- C(.., k = v, ..) -/
def tMakeD (C : Addr) (n m : Nat) (sp : Sp) (gV : List V → List V → List V) (E : L2.St → XK) (t tk : TA) : TE := fun σ H Q => t σ H fun vs H1 => tk σ H1 fun zs H2 => vs.length = n ∧ zs.length = m ∧ ∀ x dx, H2 x = none → H2 dx = none → dx ≠ x → sp (gV (.ref x :: vs) zs) (upd (upd H2 dx (.own x)) x (.ins C dx [])) (fun v H3 => v = .non ∧ Q (.ref x) H3) (E σ)
theorem run_makeD {pins : List (Addr × Obj)} {σ : L2.St} {H : Hp} {s : Shared} {Q : VK} {us ws : List Value} {vs zs : List V} (M : Mk X.K C f) (F : FnOk X.prog X.w X.K X.mg X.base CX k f fd ps sp) (hr : Room (k + 1) X.A) (hb : KBn X.K fd ps (n + 1) ks g gV) (hx : ∀ σ, PassesAt CX X σ (E σ)) (I : Inv X pins σ H s) (r : Vals vs us) (rz : Vals zs ws) (l1 : vs.length = n) (l2 : zs.length = ks.length)
    (h : ∀ x dx, H x = none → H dx = none → dx ≠ x → sp (gV (.ref x :: vs) zs) (upd (upd H dx (.own x)) x (.ins C dx [])) (fun v H2 => v = .non ∧ Q (.ref x) H2) (E σ)) : wpAny (model X.prog X.w) X.A (call (.ref C) us (ks.zip ws)) (EP X pins σ Q) X.xe s := by
  have I2 := Inv.made (C := C) I
  have rx : Vals (V.ref (s.heap.objs.size + 1) :: vs) (Value.ref (s.heap.objs.size + 1) :: us) := .cons rfl r
  have nx : (Value.ref (s.heap.objs.size + 1) :: us).length = n + 1 := by rw [← rx.length]; exact congrArg Nat.succ l1
  have hq := h _ _ (I.hok.fresh (Nat.le_succ _)) (I.hok.fresh (Nat.le_refl _)) (Nat.ne_of_lt (Nat.lt_succ_self s.heap.objs.size))
  refine wpAny_call (make_map (f := f) I.kIn M.makes M.init (beq_iff_eq.mp M.fn) (codeAny_mono (F.run _ X.stack _ _ ⟨_, ks.zip ws⟩ (g (Value.ref (s.heap.objs.size + 1) :: us) ws) _ _ (E σ) (hr.make C us (ks.zip ws)) (I2.env0.make C us (ks.zip ws)) (hb.to _ _ ws I2.kIn nx (rz.length.symm.trans l2)) (hb.rel rx rz) hq) ?_))
  rintro (e | fl) s' hq'
  · exact hx σ pins _ _ e s' I2 hq'
  · match fl, hq' with
    | .ret u, hq' =>
      obtain ⟨v, H', I3, rv, rfl, q3⟩ := I2.after hq'
      exact ⟨rv, V.ref (s.heap.objs.size + 1), H', I3, rfl, q3⟩
theorem pe_makeD (M : Mk X.K C f) (F : FnOk X.prog X.w X.K X.mg X.base CX k f fd ps sp) (hr : Room (k + 1) X.A) (hm : X.mg x = some (.ref C)) (hb : KBn X.K fd ps (n + 1) ks g gV) (hx : ∀ σ, PassesAt CX X σ (E σ)) (ha : PA X (e :: es) t) (hkw : PK X kws tk) (hg : Gl X x := by rfl)
    (hall : (backToKw pos (keywordEach kws X.env)).all (·.1.isSome) = true := by rfl) (hks : (backToKw pos (keywordEach kws X.env)).filterMap (·.1) = ks := by rfl) (hdb : (x == ("__debug__" : Str)) = false := by decide) (he : starEach (e :: es) X.env = (false, eval e X.env) :: starEach es X.env := by rfl) (hpl : ((backTo pos (starEach (e :: es) X.env)).any (·.1) || (backToKw pos (keywordEach kws X.env)).any (·.1.isNone)) = false := by rfl) :
    PE X (.Call (.Name x p) (e :: es) kws pos) (tMakeD C n ks.length sp gV E t tk) := ⟨fun pins s σ H Q I h => by
  refine wpAny_Call_Name_kw (ld_glob I hg hm (PySem.W.callWith_KW (h₀ := X.base) I.ok.mod.kin M.kp hall (thn (ha.run pos pins s σ H _ I h) ?_) hpl he) hdb)
  rintro us s1 ⟨vs, H1, I1, r, q⟩
  refine thn (hkw.run pos pins s1 σ H1 _ I1 q) ?_
  rintro ws s2 ⟨zs, H2, I2, rz, l1, l2, q2⟩
  subst hks
  exact ⟨I2.kIn, run_makeD M F hr hb hx I2 r rz l1 l2 q2⟩⟩
end
section
variable {X : Cx} {B : Bas} {Δ : List Sl} {P : D → Prop} {Ψ : Exn → Prop} {e o : Expr} {es : List Expr} {ds : List D} {d : D} {k : Nat} {x m : Str} {R : Rl} {p pos apos : Pos} {C : Addr} {ns : List Str} {xs : List D} {r : Except Exn D}
theorem zip_putF : ∀ {ns : List Str} {vs : List V} {f : Str} {v : V}, f ∉ ns → ns.length = vs.length → putF f v (ns.zip vs) = (ns ++ [f]).zip (vs ++ [v])
  | [], [], f, v, _, _ => rfl
  | n :: ns, u :: vs, f, v, h, hl => by
    have h1 : n ≠ f := fun z => h (by rw [z]; exact List.mem_cons_self)
    show (if n = f then (n, v) :: ns.zip vs else (n, u) :: putF f v (ns.zip vs)) = _
    rw [if_neg h1, zip_putF (fun z => h (List.mem_cons_of_mem _ z)) (Nat.succ.inj hl)]
    rfl
  | [], _ :: _, _, _, _, hl => by cases hl
  | _ :: _, [], _, _, _, hl => by cases hl
theorem js_fldS (i : Nat) {E : EndD} {a dx : Addr} {f x : Str} {px : Pos} (he : JV X B Δ e d) (c : Cls X.K C) (na : NoAttr X.K C f) (hf : f ∉ ns) (hl : ns.length < 1000) (kk : E.nx (Δ.set i (.slf a dx C (ns ++ [f]) (xs ++ [d])))) (h : Δ[i]? = some (.slf a dx C ns xs) := by rfl)
    (hN : X.N[i]? = some x := by rfl) (hv : Vis X.env.scope x := by first | exact Or.inl rfl | exact Or.inr (Or.inl rfl) | exact Or.inr (Or.inr rfl)) (hd : (x == ("__debug__" : Str)) = false := by decide) (hcd : (x == ("__classdict__" : Str)) = false := by decide)
    (hs : swapsWith e (some (.Attribute (.Name x px) f apos)) pos.line X.env = pure false := by rfl) : JS X B Δ (.Assign [.Attribute (.Name x px) f apos] e pos) E := fun ow σ H De W tk S G =>
  ws_of (ps_fld (pe_var (i := i) hN hv hd hcd) peW hs) (he.use tk S fun u H1 s1 r1 => by
    have S1 := S.up s1
    obtain ⟨vs, e1, e2, e3, hl2, r⟩ := S1.sl i _ h
    have hlv : ns.length = vs.length := by rw [hl2, r.len]
    refine ⟨_, e1, a, C, dx, _, rfl, e3, c, na, by rw [List.length_zip, ← hlv, Nat.min_self]; exact hl, ?_⟩
    rw [zip_putF hf hlv]
    have so : SameO (InO B ow) H1 (upd H1 a (.ins C dx ((ns ++ [f]).zip (vs ++ [u])))) := fun b u' n z => by
      rw [upd_ne (fun q => n (.inr ⟨i, by rw [q]; exact e2⟩))]
      exact z
    exact G.nx _ ow σ _ kk (S1.write e2 ⟨vs ++ [u], e1, e2, upd_same, by simp [hl2], Reps.mono so (fun _ z => z) _ _ (Reps.app r (Reps.cons r1 Reps.nil))⟩))
end
abbrev RlI := List D → Except Exn (List Str × List D) → Prop
def spI (K : PySem.W.Frag) (C : Addr) (R : RlI) : Sp := fun vs H Q E => ∃ (x dx : Addr) (ws : List V) (O : Addr → Prop) (ds : List D) (r : Except Exn (List Str × List D)), vs = .ref x :: ws ∧ H x = some (.ins C dx []) ∧ (∀ a, O a → ∃ o, H a = some o) ∧ ¬ O x ∧ Reps K (fun a => O a ∨ a = x) H ds ws ∧ R ds r ∧ match r with
  | .ok z => ∀ H' us, SameO (fun a => a = x) H H' → H' x = some (.ins C dx (z.1.zip us)) → z.1.length = z.2.length → Reps K (fun a => O a ∨ a = x) H' z.2 us → Q .non H'
  | .error e => ∀ cls dd H', SameO (fun a => a = x) H H' → ExR K (fun a => O a ∨ a = x) H' e cls dd → E cls dd H'
/-- a class's making: k the level of __init__; kp its parameters behind self -/
structure Mi (P : Program) (w : World) (K : PySem.W.Frag) (mg : Str → Option Value) (base : Heap) (C : Addr) (k : Nat) (x qual : Str) (st : Stmt) (kws : List (Str × V)) (ps : List Str) (R : RlI) : Prop where
  ex : ∃ f fd, FnOk P w K mg base (L2.CX P w) k f fd ps (spI K C R) ∧ Mk K C f ∧ FunD K x qual (defArgs st) (defBody st) (defScope st) [] kws f fd
def endI (x dx C : Addr) (r : Except Exn (List Str × List D)) : EndD := { nx := fun Δ => ∃ z, r = .ok z ∧ Δ[0]? = some (.slf x dx C z.1 z.2), rt := fun Δ d => d = .non ∧ ∃ z, r = .ok z ∧ Δ[0]? = some (.slf x dx C z.1 z.2), xc := fun Δ e => r = .error e ∧ ∃ ns xs, Δ[0]? = some (.slf x dx C ns xs) }
section
variable {P : Program} {w : World} {K : PySem.W.Frag} {mg : Str → Option Value} {base : Heap} {C : Addr}
open Classical in
noncomputable def hideH (H : Hp) (x : Addr) : Hp := fun a => if a = x then none else H a
theorem hide_same {H : Hp} {x : Addr} : Same (hideH H x) H := fun a o e => by
  unfold hideH at e
  split at e
  · cases e
  · exact e
theorem sti_start {N : List Str} {O : Addr → Prop} {H : Hp} {ds : List D} {vs : List V} {x dx : Addr} (hx : H x = some (.ins C dx [])) (nx : ¬ O x) (live : ∀ a, O a → ∃ o, H a = some o) (r : Reps K (fun a => O a ∨ a = x) H ds vs) :
    StO K ⟨hideH H x, O⟩ (.slf x dx C [] [] :: (ds.map .val ++ List.replicate (N.length - (ds.length + 1)) .un)) (fun i => if i = 0 then some x else none) (L2.start N (.ref x :: vs)) H where
  base := hide_same
  live := fun a h => by
    rcases h with h | ⟨i, h⟩
    · exact live a h
    · dsimp only at h
      split at h
      · cases h; exact ⟨_, hx⟩
      · cases h
  sep := fun i a h => by
    have h' : (if i = 0 then some x else none) = some a := h
    split at h'
    · cases h'
      exact ⟨by show (if x = x then none else H x) = none; rw [if_pos rfl], nx⟩
    · cases h'
  inj := fun i j a h1' h2' => by
    have h1 : (if i = 0 then some x else none) = some a := h1'
    have h2 : (if j = 0 then some x else none) = some a := h2'
    split at h1
    · rename_i e
      split at h2
      · rename_i e2
        rw [e, e2]
      · cases h2
    · cases h1
  len := by unfold L2.start; simp [r.len]
  sl := fun i s e => by
    have hO : ∀ a, InO ⟨hideH H x, O⟩ (fun i => if i = 0 then some x else none) a → (O a ∨ a = x) := fun a h => by
      rcases h with h | ⟨i, h⟩
      · exact .inl h
      · dsimp only at h
        split at h
        · cases h; exact .inr rfl
        · cases h
    cases i with
    | zero =>
      cases e
      exact ⟨[], rfl, if_pos rfl, hx, rfl, Reps.nil⟩
    | succ i =>
      rw [List.getElem?_cons_succ, List.getElem?_append] at e
      split at e
      · rename_i hl
        rw [List.length_map] at hl
        have hd : ds[i]? = some ds[i] := List.getElem?_eq_getElem hl
        have es : s = .val ds[i] := by
          rw [List.getElem?_map, hd] at e
          exact (Option.some.inj e).symm
        subst es
        obtain ⟨v, e1, r1⟩ := r.get hd
        refine ⟨v, ?_, r1.less hO⟩
        show (((V.ref x :: vs).map some ++ List.replicate (N.length - (V.ref x :: vs).length) none) : L2.St)[i + 1]? = _
        rw [List.map_cons, List.cons_append, List.getElem?_cons_succ, List.getElem?_append, if_pos (by rw [List.length_map, ← r.len]; exact hl), List.getElem?_map, e1]
        rfl
      · have := List.mem_of_getElem? e
        rw [(List.mem_replicate.mp this).2]
        trivial
/-- what an __init__'s proof gives -/
theorem mi_of {x qual : Str} {st : Stmt} {f : Addr} {fd : FuncData} {N ps : List Str} {k : Nat} {R : RlI} {kws : List (Str × V)} (M : Mk K C f) (F : FunD K x qual (defArgs st) (defBody st) (defScope st) [] kws f fd) (S : FnScope N ps (defScope st)) (len : ∀ ds r, R ds r → ds.length + 1 = ps.length)
    (body : ∀ (cdv : Value) (A : Around) (outer : List Env) (s : Shared) (H : Hp) (E : XK) (B : Bas) (x dx : Addr) (ds : List D) (r : Except Exn (List Str × List D)), Room k (A.deeper (envOfC qual (defScope st) s.heap.objs.size f cdv)) → R ds r →
      Js (cxOf (L2.CX P w) P w K mg base N qual (defScope st) f cdv A outer s H E) B (.slf x dx C [] [] :: (ds.map .val ++ List.replicate (N.length - (ds.length + 1)) .un)) (defBody st) (endI x dx C r)) : Mi P w K mg base C (k + 1) x qual st kws ps R := by
  refine ⟨f, fd, FunD.ok F S (fun vs H Q E h => ?_) (fun cdv A outer s H vs Q E hr h => ?_), M, F⟩
  · obtain ⟨x, dx, ws, O, ds, r, rfl, _, _, _, rr, hR, _⟩ := h
    rw [List.length_cons, ← rr.len]
    exact len ds r hR
  · obtain ⟨x, dx, ws, O, ds, r, rfl, hx, live, nx, rr, hR, hq⟩ := h
    have up : ∀ H', Same (hideH H x) H' → SameO (fun a => a = x) H H' := fun H' s a o n e => s a o (by unfold hideH; rw [if_neg n]; exact e)
    have sb : ∀ ow' : Nat → Option Addr, ow' 0 = some x → ∀ a, (O a ∨ a = x) → InO ⟨hideH H x, O⟩ ow' a := fun ow' e a h => h.elim .inl fun q => .inr ⟨0, by rw [q]; exact e⟩
    refine ⟨_, pssW, body cdv A outer s H E ⟨hideH H x, O⟩ x dx ds r hr hR _ (L2.start N (.ref x :: ws)) H _ (fun cls d _ H => E cls d H) (takes_of rfl rfl rfl rfl) (sti_start hx nx live rr) ⟨fun Δ' ow' σ' H' h S' => ?_, fun Δ' ow' σ' H' d v h S' r' => ?_, fun _ _ _ _ z => z.elim, fun _ _ _ _ z => z.elim, fun Δ' ow' σ' H' x' cls dd h S' r' => ?_⟩⟩
    · obtain ⟨z, rfl, hz⟩ := (show ∃ z, r = .ok z ∧ Δ'[0]? = some (.slf x dx C z.1 z.2) from h)
      obtain ⟨us, e1, e2, e3, l, ru⟩ := S'.sl 0 _ hz
      exact hq H' us (up H' S'.base) e3 l (ru.less (sb ow' e2))
    · obtain ⟨rfl, z, rfl, hz⟩ := (show d = .non ∧ ∃ z, r = .ok z ∧ Δ'[0]? = some (.slf x dx C z.1 z.2) from h)
      obtain ⟨us, e1, e2, e3, l, ru⟩ := S'.sl 0 _ hz
      rw [rep_non r']
      exact hq H' us (up H' S'.base) e3 l (ru.less (sb ow' e2))
    · obtain ⟨rfl, ns, xs, hz⟩ := (show r = .error x' ∧ ∃ ns xs, Δ'[0]? = some (.slf x dx C ns xs) from h)
      obtain ⟨us, e1, e2, e3, l, ru⟩ := S'.sl 0 _ hz
      exact hq _ _ _ (up H' S'.base) ⟨r'.1, r'.2.elim .inl fun ⟨ne, d, vs, q1, q2, q3, q4⟩ => .inr ⟨ne, d, vs, q1, q2, q3, q4.less (sb ow' e2)⟩⟩
end
structure WKx (X : Cx) (kws : List Keyword) (σ : L2.St) (H : Hp) (Q : List V → Hp → Prop) : Prop where
  run : ∀ (ps : Pos) (pins : List (Addr × Obj)) (s : Shared), Inv X pins σ H s → wpAny (model X.prog X.w) X.A (evalAll ((backToKw ps (keywordEach kws X.env)).map (·.2))) (AP X pins σ Q) X.xe s
theorem pkW {X : Cx} {kws : List Keyword} : PK X kws (WKx X kws) := ⟨fun ps pins s _ _ _ I h => h.run ps pins s I⟩
theorem wk_of {X : Cx} {kws : List Keyword} {t : TA} (p : PK X kws t) {σ : L2.St} {H : Hp} {Q : List V → Hp → Prop} (h : t σ H Q) : WKx X kws σ H Q := ⟨fun ps pins s I => p.run ps pins s σ H Q I h⟩
section
variable {X : Cx} {B : Bas} {Δ : List Sl} {P : D → Prop} {Ψ : Exn → Prop} {e : Expr} {es : List Expr} {kws : List Keyword} {ds zs : List D} {d : D} {p pos kpos : Pos}
def KV (X : Cx) (B : Bas) (Δ : List Sl) (kws : List Keyword) (ds : List D) : Prop := ∀ (ow : Nat → Option Addr) (σ : L2.St) (H : Hp) (Q : List V → Hp → Prop) (W : WX), Takes X W → StO X.K B Δ ow σ H → (∀ vs H', Same H H' → Reps X.K (InO B ow) H' ds vs → Q vs H') → WKx X kws σ H Q
theorem kv_nil : KV X B Δ [] [] := fun ow σ H Q W tk S q => wk_of pk_nil (q [] H (Same.refl H) Reps.nil)
/-- how a making's arguments become __init__'s: the data's side -/
def Bnd (K : PySem.W.Frag) (gV : List V → List V → List V) (ds zs as : List D) : Prop := ∀ (O : Addr → Prop) (H : Hp) (x : V) (vs ws : List V), Reps K O H ds vs → Reps K O H zs ws → ∃ us, gV (x :: vs) ws = x :: us ∧ Reps K O H as us
theorem je_make {k n : Nat} {C : Addr} {x xq qual : Str} {st : Stmt} {kwd : List (Str × V)} {ps ks : List Str} {R : RlI} {as : List D} {r : Except Exn (List Str × List D)} {gV : List V → List V → List V} (M : Mi X.prog X.w X.K X.mg X.base C k xq qual st kwd ps R) (hm : X.mg x = some (.ref C)) (hr : Room (k + 1) X.A)
    (hb : ∀ {f : Addr} {fd : FuncData}, FunD X.K xq qual (defArgs st) (defBody st) (defScope st) [] kwd f fd → ∃ g, KBn X.K fd ps (n + 1) ks g gV) (ha : AV X B Δ (e :: es) ds) (hk : KV X B Δ kws zs) (hn : ds.length = n) (hz : zs.length = ks.length) (hg : Bnd X.K gV ds zs as) (hR : R as r)
    (ok : ∀ z, r = .ok z → P (.obj C z.1 z.2)) (er : ∀ x, r = .error x → Ψ x) (hgl : Gl X x := by rfl)
    (hall : (backToKw pos (keywordEach kws X.env)).all (·.1.isSome) = true := by rfl) (hks : (backToKw pos (keywordEach kws X.env)).filterMap (·.1) = ks := by rfl) (hdb : (x == ("__debug__" : Str)) = false := by decide) (he : starEach (e :: es) X.env = (false, eval e X.env) :: starEach es X.env := by rfl) (hpl : ((backTo pos (starEach (e :: es) X.env)).any (·.1) || (backToKw pos (keywordEach kws X.env)).any (·.1.isNone)) = false := by rfl) :
    JE X B Δ (.Call (.Name x p) (e :: es) kws pos) P Ψ := fun ow σ H Q W tk S q hx => by
  obtain ⟨f, fd, G, mk, F⟩ := M.ex
  obtain ⟨g, kb⟩ := hb F
  refine we_of (pe_makeD mk G hr hm kb (fun σ => passAt tk σ) paW pkW hgl hall hks hdb he hpl) (ha.use tk S fun vs H1 s1 r1 => hk ow σ H1 _ W tk (S.up s1) fun ws H2 s2 r2 => ⟨by rw [← r1.len]; exact hn, by rw [← r2.len]; exact hz, fun x dx hx2 hdx ne => ?_⟩)
  obtain ⟨us, eg, ru⟩ := hg _ H2 (.ref x) vs ws (r1.up s2) r2
  have S2 := S.up (s1.trans s2)
  have ho : ∀ a o, H2 a = some o → a ≠ x ∧ a ≠ dx := fun a o e => ⟨fun z => (by rw [z, hx2] at e; cases e), fun z => (by rw [z, hdx] at e; cases e)⟩
  have s3 : Same H2 (upd (upd H2 dx (.own x)) x (.ins C dx [])) := fun a o e => by
    rw [upd_ne (ho a o e).1, upd_ne (ho a o e).2]
    exact e
  have nO : ¬ InO B ow x := fun z => by
    obtain ⟨o, e⟩ := S2.live x z
    rw [hx2] at e
    cases e
  have back : ∀ H', SameO (fun a => a = x) (upd (upd H2 dx (.own x)) x (.ins C dx [])) H' → Same H2 H' := fun H' s a o e => s a o (ho a o e).1 (s3 a o e)
  refine ⟨x, dx, us, InO B ow, as, r, eg, upd_same, fun a z => ?_, nO, (ru.add hx2).up s3, hR, ?_⟩
  · obtain ⟨o, e⟩ := S2.live a z
    exact ⟨o, s3 a o e⟩
  · cases r with
    | ok z => exact fun H' us' s hH hl rr => ⟨rfl, q _ _ H' (ok z rfl) ((s1.trans s2).trans (back H' s)) (obj_rep nO hH hl (rr.less fun _ w => .inl w))⟩
    | error y => exact fun cls dd H' s rv => hx y cls dd H' (er y rfl) ((s1.trans s2).trans (back H' s)) ⟨rv.1, rv.2.elim .inl fun ⟨ne, d, vs, q1, q2, q3, q4⟩ => .inr ⟨ne, d, vs, q1, q2, q3, q4.less fun _ w => .inl w⟩⟩
end
section
variable {X : Cx} {B : Bas} {Δ : List Sl} {e a b : Expr} {es : List Expr} {ds : List D} {d : D} {p pos : Pos}
theorem jv_gcd {i j : Int} (ha : JV X B Δ a (.int i)) (hb : JV X B Δ b (.int j)) (hm : X.mg "gcd" = some (.builtin "math.gcd")) (hg : Gl X "gcd" := by rfl) (he : starEach [a, b] X.env = [(false, eval a X.env), (false, eval b X.env)] := by rfl) (he2 : starEach [b] X.env = [(false, eval b X.env)] := by rfl) (hpl : (backTo pos (starEach [b] X.env)).any (·.1) = false := by rfl) :
    JV X B Δ (.Call (.Name "gcd" p) [a, b] [] pos) (.int (Int.gcd i j : Nat)) := jv_mk fun ow σ H Q W tk S q =>
  we_of (pe_callBfun cr_gcd hg hm paW (by decide) (by rw [he, he2]) hpl) ((av_cons ha (av_cons hb av_nil he2) (by rw [he, he2])).use tk S fun vs H1 s1 r => by
    obtain ⟨v, w, rfl, rv, rw'⟩ := reps2 r
    rw [rep_int rv, rep_int rw']
    exact ⟨i, j, rfl, q _ _ s1 int_rep⟩)
end
end Dy
namespace Dy
open PySem PySem.Spec PyProof.Rows L2
/-- where a module's name stands -/
def cAd (mg : Str → Option Value) (x : Str) : Addr := match mg x with
  | some (.ref a) => a
  | _ => 0
theorem cAd_of {mg : Str → Option Value} {x : Str} {a : Addr} (h : mg x = some (.ref a)) : cAd mg x = a := by unfold cAd; rw [h]
theorem mt_of {P : Program} {w : World} {K : PySem.W.Frag} {mg : Str → Option Value} {base : Heap} {C : Addr} {k : Nat} {m qual : Str} {st : Stmt} {R : Rl} {f : Addr} {fd : FuncData} {ps : List Str} (G : FnOk P w K mg base (L2.CX P w) k f fd ps (spR K R)) (F : Fun K m qual st f fd) (hm : Meth K C m f)
    (h : ∀ (kV doc pm : Value) (an : Option Addr) (cdv ct : Value) (us : List Value), us.length = ps.length → bindArgs (PySem.W.fnOf m qual (defArgs st) (defBody st) (defScope st) .none kV doc pm an cdv ct) ⟨us, []⟩ = pure (ps.zip us)) : Mt P w K mg base C k m R := ⟨f, fd, ps, G, hm, by
      first | exact F.binds (fun _ _ _ _ _ _ us hl => h _ _ _ _ _ _ us hl) | exact F.binds h⟩
/-- what an __init__ gives -/
def iniM {α : Type} (ns : List Str) (fl : α → List D) : Except Exn α → Except Exn (List Str × List D)
  | .ok a => .ok (ns, fl a)
  | .error x => .error x
theorem iniM_ok {α : Type} {ns : List Str} {fl : α → List D} {F : Except Exn α} {v : α} (h : F = .ok v) : iniM ns fl F = .ok (ns, fl v) := by rw [h]; rfl
theorem iniM_er {α : Type} {ns : List Str} {fl : α → List D} {F : Except Exn α} {x : Exn} (h : F = .error x) : iniM ns fl F = .error x := by rw [h]; rfl
theorem bnd_all {K : PySem.W.Frag} {ds zs : List D} : Bnd K (fun vs ws => vs ++ ws) ds zs (ds ++ zs) := fun _ _ _ vs ws r1 r2 => ⟨vs ++ ws, rfl, Reps.app r1 r2⟩
section
variable {X : Cx} {B : Bas} {Δ : List Sl} {P : D → Prop} {Ψ : Exn → Prop} {e : Expr} {es : List Expr} {kws : List Keyword} {ds zs : List D} {d : D} {p pos kpos : Pos} {α : Type}
/-- a making that may raise -/
theorem je_makeE {k n : Nat} {C : Addr} {x xq qual : Str} {st : Stmt} {kwd : List (Str × V)} {ps ks : List Str} {R : RlI} {as : List D} {ns : List Str} {fl : α → List D} {F : Except Exn α} {gV : List V → List V → List V} (M : Mi X.prog X.w X.K X.mg X.base C k xq qual st kwd ps R) (hm : X.mg x = some (.ref C)) (hr : Room (k + 1) X.A)
    (hb : ∀ {f : Addr} {fd : FuncData}, FunD X.K xq qual (defArgs st) (defBody st) (defScope st) [] kwd f fd → ∃ g, KBn X.K fd ps (n + 1) ks g gV) (ha : AV X B Δ (e :: es) ds) (hk : KV X B Δ kws zs) (hn : ds.length = n) (hz : zs.length = ks.length) (hg : Bnd X.K gV ds zs as) (hR : R as (iniM ns fl F)) (hgl : Gl X x := by rfl)
    (hall : (backToKw pos (keywordEach kws X.env)).all (·.1.isSome) = true := by rfl) (hks : (backToKw pos (keywordEach kws X.env)).filterMap (·.1) = ks := by rfl) (hdb : (x == ("__debug__" : Str)) = false := by decide) (he : starEach (e :: es) X.env = (false, eval e X.env) :: starEach es X.env := by rfl) (hpl : ((backTo pos (starEach (e :: es) X.env)).any (·.1) || (backToKw pos (keywordEach kws X.env)).any (·.1.isNone)) = false := by rfl) :
    JE X B Δ (.Call (.Name x p) (e :: es) kws pos) (fun d => ∃ v, F = .ok v ∧ d = .obj C ns (fl v)) (fun x => F = .error x) := by
  refine je_make M hm hr hb ha hk hn hz hg hR (fun z q => ?_) (fun x q => ?_) hgl hall hks hdb he hpl
  · cases F with
    | ok v => cases q; exact ⟨v, rfl, rfl⟩
    | error y => cases q
  · cases F with
    | ok v => cases q
    | error y => cases q; rfl
theorem jv_makeE {k n : Nat} {C : Addr} {x xq qual : Str} {st : Stmt} {kwd : List (Str × V)} {ps ks : List Str} {R : RlI} {as : List D} {ns : List Str} {fl : α → List D} {F : Except Exn α} {gV : List V → List V → List V} (v : α) (M : Mi X.prog X.w X.K X.mg X.base C k xq qual st kwd ps R) (hm : X.mg x = some (.ref C)) (hr : Room (k + 1) X.A)
    (hb : ∀ {f : Addr} {fd : FuncData}, FunD X.K xq qual (defArgs st) (defBody st) (defScope st) [] kwd f fd → ∃ g, KBn X.K fd ps (n + 1) ks g gV) (ha : AV X B Δ (e :: es) ds) (hk : KV X B Δ kws zs) (hn : ds.length = n) (hz : zs.length = ks.length) (hg : Bnd X.K gV ds zs as) (hR : R as (iniM ns fl F)) (hF : F = .ok v) (hgl : Gl X x := by rfl)
    (hall : (backToKw pos (keywordEach kws X.env)).all (·.1.isSome) = true := by rfl) (hks : (backToKw pos (keywordEach kws X.env)).filterMap (·.1) = ks := by rfl) (hdb : (x == ("__debug__" : Str)) = false := by decide) (he : starEach (e :: es) X.env = (false, eval e X.env) :: starEach es X.env := by rfl) (hpl : ((backTo pos (starEach (e :: es) X.env)).any (·.1) || (backToKw pos (keywordEach kws X.env)).any (·.1.isNone)) = false := by rfl) :
    JV X B Δ (.Call (.Name x p) (e :: es) kws pos) (.obj C ns (fl v)) := fun P Ψ pd => (je_makeE M hm hr hb ha hk hn hz hg hR hgl hall hks hdb he hpl).imp (fun d ⟨u, q1, q2⟩ => by
      rw [hF] at q1
      cases q1
      rw [q2]
      exact pd) (fun x q => by rw [hF] at q; cases q)
end
def bfnB (K : PySem.W.Frag) (x : Str) (id : String) : Bool := match PySem.W.nsIn K mainGlobals x with
  | some (some (.builtin i)) => decide (i = id)
  | _ => false
theorem bfn_ok {K : PySem.W.Frag} {h : Heap} {mg : Str → Option Value} (X : K.In h) (G : h.Ns mainGlobals mg) {x : Str} {id : String} (c : bfnB K x id = true) : mg x = some (.builtin id) := by
  unfold bfnB at c
  split at c
  · rename_i i q
    rw [of_decide_eq_true c] at q
    exact PySem.W.mg_of X G q
  · cases c
theorem kbn_of2 {K : PySem.W.Frag} {fd : FuncData} {ps : List Str} {n : Nat} (hb : Binds K fd ps []) (hn : n = ps.length) : KBn K fd ps n [] (fun us ws => us ++ ws) (fun vs zs => vs ++ zs) :=
  ⟨fun s us ws X l1 l2 => by
    have e : ws = [] := List.eq_nil_of_length_eq_zero l2
    subst e
    exact hb s us X (by rw [List.append_nil, l1, hn]), fun r r2 => r.append r2⟩
end Dy
namespace Dy
open PySem PySem.Spec PyProof.Rows L2
def kitB (K : PySem.W.Frag) (D : Addr) (cv : Value) (b : Bool) : Bool := decide (PySem.W.kitOne K (.ref D) cv = some b)
theorem kitB_ok {K : PySem.W.Frag} {D : Addr} {cv : Value} {b : Bool} (h : kitB K D cv b = true) : PySem.W.kitOne K (.ref D) cv = some b := of_decide_eq_true h
end Dy
namespace Dy
open PySem PySem.Spec PyProof.Rows L2
end Dy
namespace Dy
open PySem PySem.Spec PyProof.Rows L2
end Dy
namespace Dy
open PySem PySem.Spec PyProof.Rows L2
theorem rvR {a : Addr} : RelV (V.ref a) (Value.ref a) := rfl
theorem rvB {k : Bool} : RelV (V.bl k) (Value.bool k) := rfl
section
variable {X : Cx} {CX : CXT} {a b : Expr} {pos : Pos} {ta tb : TE} {op : Operator} {C f : Addr} {fd : FuncData} {ps : List Str} {sp : Sp} {E : L2.St → XK} {k : Nat} {m : Str}
theorem pt_of {a b : Expr} {o : CmpOp} {t : TE} {ta tb : TE} {R : L2.St → VK → V → V → Hp → Prop} (ha : PE X a ta) (hb : PE X b tb) (hbm : behindInMarks o b = false) (ht : ∀ σ H Q, t σ H Q → ta σ H fun x H1 => tb σ H1 fun y H2 => R σ Q x y H2)
    (h : ∀ (pins : List (Addr × Obj)) (s2 : Shared) (σ : L2.St) (H2 : Hp) (x y : V) (v u : Value) (Q : VK), Inv X pins σ H2 s2 → RelV x v → RelV y u → R σ Q x y H2 → wpAny (model X.prog X.w) X.A (compareOp o v u) (EP X pins σ Q) X.xe s2) : PE X (.Compare a [o] [b] pos) t ∧ PT X (.Compare a [o] [b] pos) (tTest t) := by
  refine ⟨⟨fun pins s σ H Q I q => wpAny_Compare1 (binT ha hb I (ht σ H Q q) fun v u s2 x y H2 I2 rx ry q => h pins s2 σ H2 x y v u Q I2 rx ry q) hbm⟩, ⟨fun pins s σ H Q I q => ?_⟩⟩
  refine wpAny_isTrue_Compare1 (thn (ha.run pins s σ H _ I (ht σ H _ q)) fun v s1 ⟨x, H1, I1, r1, q1⟩ => thn (hb.run pins s1 σ H1 _ I1 q1) fun u s2 ⟨y, H2, I2, r2, q2⟩ =>
    thn (h pins s2 σ H2 x y v u _ I2 r1 r2 q2) fun c s3 ⟨z, H3, I3, r3, k, e, q3⟩ => ?_) hbm
  subst e
  cases r3
  exact wpAny_truthy_bool ⟨H3, I3, q3⟩
def tInO (C : Addr) (sp : Sp) (E : L2.St → XK) (g : Bool → Bool) (ta tb : TE) : TE := fun σ H Q => ta σ H fun x H1 => tb σ H1 fun y H2 => ∃ b dy gs, y = .ref b ∧ H2 b = some (.ins C dy gs) ∧ sp [.ref b, x] H2 (fun z H' => ∃ k, z = .bl k ∧ Q (.bl (g k)) H') (E σ)
theorem pe_inO (hm : Meth X.K C "__contains__" f) (F : FnOk X.prog X.w X.K X.mg X.base CX k f fd ps sp) (hr : Room k X.A) (hb : Binds X.K fd ps []) (hx : ∀ σ, PassesAt CX X σ (E σ)) (ha : PE X a ta) (hbb : PE X b tb) (hbm : behindInMarks .In b = false) :
    PE X (.Compare a [.In] [b] pos) (tInO C sp E id ta tb) ∧ PT X (.Compare a [.In] [b] pos) (tTest (tInO C sp E id ta tb)) := by
  refine pt_of (R := fun σ Q x y H2 => ∃ b dy gs, y = .ref b ∧ H2 b = some (.ins C dy gs) ∧ sp [.ref b, x] H2 (fun z H' => ∃ k, z = .bl k ∧ Q (.bl (id k)) H') (E σ)) ha hbb hbm (fun _ _ _ q => q) fun pins s2 σ H2 x y v u Q I2 rx ry q => ?_
  obtain ⟨b', dy, gs, rfl, eb, q⟩ := q
  cases (show u = Value.ref b' from ry)
  obtain ⟨mB, O2, _⟩ := ins_get I2.hok eb
  obtain ⟨od2, J2, _⟩ := O2.look
  obtain ⟨mm, hF⟩ := I2.fr
  refine PySem.W.in_K hF I2.ok.mod.kin J2 hm.at_ hm.fn (wpAny_mono (run_fnS F hr hb (hx σ) I2 (.cons rvR (.cons rx .nil)) q) (fun w s' z => ?_) fun _ _ x => x)
  obtain ⟨z', H', I', rz, k, rfl, qz⟩ := z
  cases (show w = Value.bool k from rz)
  exact wpAny_truthy_bool ⟨_, H', I', rvB, qz⟩
end
section
variable {X : Cx} {B : Bas} {Δ : List Sl} {a b : Expr} {pos : Pos} {op : Operator} {C : Addr} {k : Nat} {m : Str} {R : Rl} {ns ms : List Str} {xs ys : List D} {d : D} {t : Bool}
theorem jv_inO (M : Mt X.prog X.w X.K X.mg X.base C k "__contains__" R) (hr : Room k X.A) (ha : JV X B Δ a d) (hb : JV X B Δ b (.obj C ms ys)) (hR : R [.obj C ms ys, d] (.ok (.bl t))) (hbm : behindInMarks .In b = false := by rfl) :
    JV X B Δ (.Compare a [.In] [b] pos) (.bl t) := jv_mk fun ow σ H Q W tk S q => by
  obtain ⟨f, fd, ps, G, hm, bb⟩ := M.ex
  refine we_of (pe_inO hm G hr bb (fun σ => passAt tk σ) peW peW hbm).1 (ha.use tk S fun v H1 s1 r1 => hb.use tk (S.up s1) fun u H2 s2 r2 => ?_)
  obtain ⟨b', dy, ws, rfl, n2, hH2, hl2, rr2⟩ := rep_obj r2
  exact ⟨b', dy, _, rfl, hH2, InO B ow, _, _, (S.up (s1.trans s2)).live, Reps.cons r2 (Reps.cons (r1.up s2) Reps.nil), hR, fun v H' s rv => ⟨t, rep_bl rv, q _ H' ((s1.trans s2).trans s) bl_rep⟩⟩
end
section
open AutoSeq1 (wpAny_loadPart')
theorem extend_tupG (l : Addr) (items : Array Value) (n : Nat) (b : Addr) (items2 : Array Value) (n2 : Nat) (dd : Option Addr) (sl : Array (Option Value)) (hs0 : ¬(!items.isEmpty && Builtin.List.listTooLong (items.size + items2.size)) = true) (hs1 : items.size ≤ sizeLine) (hs2 : items.size + items2.size ≤ sizeLine + 1) :
    Meets (Builtin.«list.extend» ⟨[.ref l, .ref b], []⟩) (fun _ R s => s.heap.get? l = some { cls := .type "list", dict := none, data := .seq items n, slots := #[] } ∧ s.heap.get? b = some { cls := .type "tuple", dict := dd, data := .seq items2 n2, slots := sl } ∧ R (.ok (.ret Value.none)) { s with heap := s.heap.update l (Obj.mapSeq fun x => x ++ items2), toks := s.toks }) :=
  .of_wp fun prog w A R s h => by
    obtain ⟨hp, g, d, tk, os⟩ := s; obtain ⟨hl, hb, h⟩ := h; have f1 := AutoSeq1.idx_int; have f2 := AutoSeq1.sub_tuple_tuple; have f3 := AutoSeq1.sub_list_list; have f4 := AutoSeq1.sub_tuple_list; have f5 := AutoSeq1.sub_list_tuple;
    have hz' : (items ++ items2).size ≤ sizeLine + 1 := by rw [Array.size_append]; exact hs2
    wp_walk using (wpAny_updateSeq hl rfl (hz := hs1) (_hz' := hz')), wpAny_loadPart' hl, wpAny_loadPart' hb; exact ⟨_, rfl, h⟩
end
def rExtendT (K : PySem.W.Frag) : V → List V → Hp → VK → Prop := fun x vs H Q => ∃ l b xs zs, x = .ref l ∧ vs = [.ref b] ∧ H l = some (.lst xs) ∧ SqT K H b zs ∧ xs.length + zs.length ≤ sizeLine ∧ Q .non (upd H l (.lst (xs ++ zs)))
theorem mt_extendT {X : Cx} : MtR X "list.extend" (rExtendT X.K) := by
  intro pins s σ H x vs v us Q I rx rv h
  obtain ⟨l, b, xs, zs, rfl, rfl, hH, hB, hz, q⟩ := h
  cases rx
  obtain ⟨u, rfl, ru⟩ := rv.one
  cases ru
  obtain ⟨z, its, n, r, hl, e⟩ := I.lstM hH
  obtain ⟨its2, r2, ⟨⟨cls, dd, data, sl⟩, e2, hc, n2, hd⟩, hl2⟩ := I.tuple hB
  simp only at hc hd
  subst hc hd
  have hl3 := r2.length
  have hsz : its.toArray.size + its2.toArray.size ≤ sizeLine := by rw [List.size_toArray, List.size_toArray]; omega
  have hlong : ¬ (!its.toArray.isEmpty && Builtin.List.listTooLong (its.toArray.size + its2.toArray.size)) = true := by
    rw [notLongL hsz, Bool.and_false]
    exact Bool.false_ne_true
  refine call_meets F.slot_list_extend ⟨_, e, rfl⟩ F.entry_list_extend (F.args_list_extend_2 _ _)
    (extend_tupG l its.toArray n b its2.toArray n2 dd sl hlong (by rw [List.size_toArray]; omega) (by omega)) ⟨e, e2, ?_⟩
  refine ⟨.non, _, I.lset (its' := its ++ its2) hH e (by simp) (r.append r2) ?_, rfl, q⟩
  rw [List.length_append]
  omega
section
variable {X : Cx} {B : Bas} {Δ : List Sl} {E : EndD} {e : Expr} {pos : Pos} {α : Type} {ds es : List D}
theorem js_ext (i : Nat) {x : Str} {px apos cpos : Pos} (he : JV X B Δ e (.tup es)) (k : E.nx (Δ.set i (.own (ds ++ es)))) (hl : ds.length + es.length ≤ 100000) (h : Δ[i]? = some (.own ds) := by rfl)
    (hN : X.N[i]? = some x := by rfl) (hv : Vis X.env.scope x := by first | exact Or.inl rfl | exact Or.inr (Or.inl rfl) | exact Or.inr (Or.inr rfl)) (hd : (x == ("__debug__" : Str)) = false := by decide) (hcd : (x == ("__classdict__" : Str)) = false := by decide)
    (hp : PE X (.Call (.Attribute (.Name x px) "extend" apos) [e] [] cpos) (tBM X.K "list" (rExtendT X.K) (tVar i) (tCons (WEx X e) tNil)) := by exact pe_bm PySem.F.plainAttrs_list PySem.F.slot_list_extend PySem.F.type_list_extend mt_extendT (pv _) (pa_cons peW pa_nil))
    (hs : swapsWith (.Call (.Attribute (.Name x px) "extend" apos) [e] [] cpos) none pos.line X.env = pure false := by rfl) : JS X B Δ (.Expr (.Call (.Attribute (.Name x px) "extend" apos) [e] [] cpos) pos) E := fun ow σ H De W tk S G => by
  obtain ⟨a, vs, e1, e2, e3, r⟩ := S.sl i _ h
  refine ws_of (ps_expr hp hs) ⟨.ref a, e1, .inl ⟨rfl, vs, SqL.of e3⟩, he.use tk S fun v H' s rv => ?_⟩
  obtain ⟨p2, ws, rfl, h2, q2⟩ := rep_tup rv
  refine ⟨a, p2, vs, ws, rfl, rfl, s _ _ e3, h2.sq, le_line (by rw [← r.len, ← q2.len]; exact hl), ?_⟩
  have S' := S.up s
  have so : SameO (InO B ow) H' (upd H' a (.lst (vs ++ ws))) := fun b u n z => by
    rw [upd_ne (fun q => n (.inr ⟨i, by rw [q]; exact e2⟩))]
    exact z
  exact G.nx _ ow σ _ k (S'.write e2 ⟨a, vs ++ ws, e1, e2, upd_same, Reps.mono so (fun _ z => z) _ _ (Reps.app (r.up s) q2)⟩)
theorem js_extE (i : Nat) (en : α → D) (l m : List α) {x : Str} {px apos cpos : Pos} (he : JV X B Δ e (.tup (m.map en))) (hl : l.length + m.length ≤ 100000) (k : ∀ v, v = l ++ m → E.nx (Δ.set i (.own (v.map en)))) (h : Δ[i]? = some (.own (l.map en)) := by rfl)
    (hN : X.N[i]? = some x := by rfl) (hv : Vis X.env.scope x := by first | exact Or.inl rfl | exact Or.inr (Or.inl rfl) | exact Or.inr (Or.inr rfl)) (hd : (x == ("__debug__" : Str)) = false := by decide) (hcd : (x == ("__classdict__" : Str)) = false := by decide)
    (hp : PE X (.Call (.Attribute (.Name x px) "extend" apos) [e] [] cpos) (tBM X.K "list" (rExtendT X.K) (tVar i) (tCons (WEx X e) tNil)) := by exact pe_bm PySem.F.plainAttrs_list PySem.F.slot_list_extend PySem.F.type_list_extend mt_extendT (pv _) (pa_cons peW pa_nil))
    (hs : swapsWith (.Call (.Attribute (.Name x px) "extend" apos) [e] [] cpos) none pos.line X.env = pure false := by rfl) : JS X B Δ (.Expr (.Call (.Attribute (.Name x px) "extend" apos) [e] [] cpos) pos) E := by
  refine js_ext i he ?_ (by simpa using hl) h hN hv hd hcd hp hs
  rw [← List.map_append]
  exact k _ rfl
end
structure Isi (K : PySem.W.Frag) (C : Addr) : Prop where
  cl : Cls K C
  ca : PySem.W.findIn K (.ref C) "__class__" = some (some (.builtin "object.__class__"))
  cn : PySem.W.specialIn K (.builtin "object.__class__") "__get__" = some (some (.builtin "getset_descriptor.__get__"))
  ct : PySem.W.takesIn K (.builtin "object.__class__") = some true
  cm : PySem.W.mroIn K C (.type "object") = some true
def isiB (K : PySem.W.Frag) (C : Addr) : Bool := decide (PySem.W.findIn K (.ref C) "__class__" = some (some (.builtin "object.__class__"))) && (decide (PySem.W.specialIn K (.builtin "object.__class__") "__get__" = some (some (.builtin "getset_descriptor.__get__"))) && (decide (PySem.W.takesIn K (.builtin "object.__class__") = some true) && decide (PySem.W.mroIn K C (.type "object") = some true)))
theorem isiB_ok {K : PySem.W.Frag} {C : Addr} (c : Cls K C) (h : isiB K C = true) : Isi K C := by
  unfold isiB at h
  simp only [Bool.and_eq_true, decide_eq_true_eq] at h
  exact ⟨c, h.1, h.2.1, h.2.2.1, h.2.2.2⟩
def sortI (l : List Int) : List Int := l.mergeSort fun a b => decide (a ≤ b)
theorem sortI_perm (l : List Int) : (sortI l).Perm l := List.mergeSort_perm l _
theorem sortI_srt (l : List Int) : (sortI l).Pairwise (· ≤ ·) := by
  have h : (sortI l).Pairwise fun a b => decide (a ≤ b) = true := by
    apply List.pairwise_mergeSort
    · intro a b c h1 h2
      simp only [decide_eq_true_eq] at *
      omega
    · intro a b
      simp only [Bool.or_eq_true, decide_eq_true_eq]
      omega
  exact h.imp fun {a b} q => of_decide_eq_true q
theorem sortI_uniq {l m : List Int} (hp : m.Perm l) (hs : m.Pairwise (· ≤ ·)) : m = sortI l :=
  List.Perm.eq_of_pairwise (le := (· ≤ ·)) (fun a b _ _ h1 h2 => Int.le_antisymm h1 h2) hs (sortI_srt l) (hp.trans (sortI_perm l).symm)
theorem ints_reps {K : PySem.W.Frag} {O : Addr → Prop} {H : Hp} : ∀ ns : List Int, Reps K O H (ns.map D.int) (ns.map V.int)
  | [] => Reps.nil
  | n :: ns => Reps.cons int_rep (ints_reps ns)
section
variable {X : Cx} {B : Bas} {Δ : List Sl} {e : Expr} {pos p : Pos}
theorem fl_sortI {ns : List Int} (h : RV X B Δ e (ns.map D.int)) (hm : X.mg "sorted" = none) (hg : Gl X "sorted" := by rfl) (he : starEach [e] X.env = [(false, eval e X.env)] := by rfl) : FL X B Δ (.Call (.Name "sorted" p) [e] [] pos) ((sortI ns).map D.int) := fun ow σ H Q W tk S q =>
  we_of (pe_callB cr_sortedI hg hm (by decide +kernel) (pa_cons peW pa_nil he) (by decide) (by decide) he rfl) (h ow σ H _ W tk S fun a vs H1 s1 hL r1 => by
    rw [reps_ints r1] at hL
    refine ⟨a, ns, rfl, hL, fun ns' l hp hs hl => ?_⟩
    have e1 : ns' = sortI ns := sortI_uniq hp hs
    subst e1
    exact q l _ _ (free_back s1 hl) (s1.trans (same_new hl)) upd_same (ints_reps _))
end
end Dy
namespace Dy
open PySem PySem.Spec PyProof.Rows L2
section
variable {X : Cx} {a b c e : Expr} {pos : Pos} {ta tb tc td : TE}
def tChain3 (r r' r'' : R2) (ta tb tc td : TE) : TE := fun σ H Q => ta σ H fun x H1 => tb σ H1 fun y H2 => r x y H2 fun z H3 => ∃ k, z = .bl k ∧
  (if k = true then tc σ H3 fun w' H4 => r' y w' H4 fun z2 H5 => ∃ k2, z2 = .bl k2 ∧ (if k2 = true then td σ H5 fun v' H6 => r'' w' v' H6 Q else Q (.bl false) H5) else Q (.bl false) H3)
theorem pt_chain3 {op op' op'' : CmpOp} {r r' r'' : R2} (ho : OpR X (compareOp op) r) (ho' : OpR X (compareOp op') r') (ho'' : OpR X (compareOp op'') r'') (ha : PE X a ta) (hb : PE X b tb) (hc : PE X c tc) (he : PE X e td)
    (hm : lastMarks [op, op', op''] [b, c, e] = false := by with_unfolding_all rfl) : PT X (.Compare a [op, op', op''] [b, c, e] pos) (tTest (tChain3 r r' r'' ta tb tc td)) := by
  refine ⟨fun pins s σ H Q I h => ?_⟩
  refine isTrue_chain (thn (ha.run pins s σ H _ I h) fun v s1 ⟨x, H1, I1, r1, q1⟩ => test_link (thn (hb.run pins s1 σ H1 _ I1 q1) fun u s2 ⟨y, H2, I2, r2, q2⟩ =>
    thn (ho pins s2 σ H2 x y v u _ I2 r1 r2 q2) fun d s3 ⟨z, H3, I3, r3, k, e, q3⟩ => ?_)) hm
  subst e
  cases r3
  refine wpAny_truthy_bool ?_
  cases k with
  | false =>
    obtain ⟨k', e', q'⟩ := q3
    cases e'
    exact ite_ff ⟨H3, I3, q'⟩
  | true =>
    refine ite_tt (test_link (thn (hc.run pins s3 σ H3 _ I3 q3) fun w' s4 ⟨z', H4, I4, r4, q4⟩ => thn (ho' pins s4 σ H4 y z' u w' _ I4 r2 r4 q4) fun d' s5 ⟨z2, H5, I5, r5, k2, e2, q5⟩ => ?_))
    subst e2
    cases r5
    refine wpAny_truthy_bool ?_
    cases k2 with
    | false =>
      obtain ⟨k', e', q'⟩ := q5
      cases e'
      exact ite_ff ⟨H5, I5, q'⟩
    | true =>
      refine ite_tt (test_last (thn (he.run pins s5 σ H5 _ I5 q5) fun v' s6 ⟨z3, H6, I6, r6, q6⟩ => thn (ho'' pins s6 σ H6 z' z3 w' v' _ I6 r4 r6 q6) fun d'' s7 ⟨z4, H7, I7, r7, k3, e3, q7⟩ => ?_))
      subst e3
      cases r7
      exact wpAny_truthy_bool ⟨H7, I7, q7⟩
end
section
variable {X : Cx} {B : Bas} {Δ : List Sl} {a b c e : Expr} {pos : Pos} {i j k l : Int} {op op' op'' : CmpOp} {r r' r'' : R2} {p p' p'' : Int → Int → Bool}
theorem tv_ch3 (h1 : ChI X op r p) (h2 : ChI X op' r' p') (h3 : ChI X op'' r'' p'') (ha : JV X B Δ a (.int i)) (hb : JV X B Δ b (.int j)) (hc : JV X B Δ c (.int k)) (he : JV X B Δ e (.int l)) (hm : lastMarks [op, op', op''] [b, c, e] = false := by with_unfolding_all rfl) : TV X B Δ (.Compare a [op, op', op''] [b, c, e] pos) (p i j && (p' j k && p'' k l)) :=
  tv_mk fun ow σ H Q W tk S q => wt_of (pt_chain3 h1.ok h2.ok h3.ok peW peW peW peW hm) (ha.use tk S fun u H1 s1 r1 => hb.use tk (S.up s1) fun v H2 s2 r2 => by
    refine h1.sp X.K i j _ H2 u v _ (S.up (s1.trans s2)).live (r1.up s2) r2 fun t H3 s3 r3 => ⟨p i j, rep_bl r3, ?_⟩
    cases hp : p i j with
    | true =>
      rw [hp] at q
      refine iteT (hc.use tk (S.up ((s1.trans s2).trans s3)) fun w H4 s4 r4 => ?_)
      refine h2.sp X.K j k _ H4 v w _ (S.up (((s1.trans s2).trans s3).trans s4)).live (r2.up (s3.trans s4)) r4 fun t2 H5 s5 r5 => ⟨p' j k, rep_bl r5, ?_⟩
      cases hp2 : p' j k with
      | true =>
        rw [hp2] at q
        refine iteT (he.use tk (S.up ((((s1.trans s2).trans s3).trans s4).trans s5)) fun z H6 s6 r6 => ?_)
        exact h3.sp X.K k l _ H6 w z _ (S.up (((((s1.trans s2).trans s3).trans s4).trans s5).trans s6)).live (r4.up (s5.trans s6)) r6 fun t H' s' r' => ⟨_, rep_bl r', q H' ((((((s1.trans s2).trans s3).trans s4).trans s5).trans s6).trans s')⟩
      | false =>
        rw [hp2] at q
        exact iteF ⟨false, rfl, q H5 ((((s1.trans s2).trans s3).trans s4).trans s5)⟩
    | false =>
      rw [hp] at q
      exact iteF ⟨false, rfl, q H3 ((s1.trans s2).trans s3)⟩)
end
end Dy
namespace Dy
open PySem PySem.Spec PyProof.Rows L2
mutual
def noL : D → Bool
  | .non => true
  | .bl _ => true
  | .int _ => true
  | .str _ => true
  | .tup xs => noLs xs
  | .lst _ => false
  | .scr _ => false
  | .obj _ _ _ => false
  | .adr _ => false
  | .dic _ _ => false
def noLs : List D → Bool
  | [] => true
  | d :: ds => noL d && noLs ds
end
theorem noLs_map {α : Type} {en : α → D} (h : ∀ a, noL (en a) = true) : ∀ l : List α, noLs (l.map en) = true
  | [] => rfl
  | a :: l => by rw [List.map_cons, noLs, h, noLs_map h l]; rfl
theorem sqT_lst {K : PySem.W.Frag} {H : Hp} {p : Addr} {vs ws : List V} (hp : H p = some (.lst ws)) (q : SqT K H p vs) : ∀ H', SqT K H' p vs := by
  rcases q with (q | ⟨o, q⟩) | q
  · rw [hp] at q; cases q
  · rw [hp] at q; cases q
  · exact fun H' => .inr q
section
variable {K : PySem.W.Frag} {O O2 : Addr → Prop} {H : Hp} {p : Addr} {ws : List V}
mutual
theorem rep_noL (ho : ∀ a, O2 a → O a ∨ a = p) (hp : H p = some (.lst ws)) : ∀ (d : D) (v : V), noL d = true → Rep K O H d v → Rep K O2 H d v
  | .non, _, _, h => by unfold Rep at h ⊢; exact h
  | .bl _, _, _, h => by unfold Rep at h ⊢; exact h
  | .int _, _, _, h => by unfold Rep at h ⊢; exact h
  | .str _, _, _, h => by unfold Rep at h ⊢; exact h
  | .tup xs, _, n, h => by
    unfold Rep at h ⊢
    obtain ⟨a, vs, e, r, q⟩ := h
    refine ⟨a, vs, e, ?_, reps_noL ho hp xs vs (by unfold noL at n; exact n) q⟩
    rcases r with ⟨na, r⟩ | r
    · by_cases z : a = p
      · subst z
        exact .inr (sqT_lst hp r)
      · exact .inl ⟨fun y => (ho a y).elim na z, r⟩
    · exact .inr r
  | .lst _, _, n, _ => by unfold noL at n; cases n
  | .scr _, _, n, _ => by unfold noL at n; cases n
  | .obj _ _ _, _, n, _ => by unfold noL at n; cases n
  | .adr _, _, n, _ => by unfold noL at n; cases n
  | .dic _ _, _, n, _ => by unfold noL at n; cases n
theorem reps_noL (ho : ∀ a, O2 a → O a ∨ a = p) (hp : H p = some (.lst ws)) : ∀ (ds : List D) (vs : List V), noLs ds = true → Reps K O H ds vs → Reps K O2 H ds vs
  | [], _, _, h => by unfold Reps at h ⊢; exact h
  | d :: ds, _, n, h => by
    unfold noLs at n
    rw [Bool.and_eq_true] at n
    unfold Reps at h ⊢
    obtain ⟨v, ws', e, r, q⟩ := h
    exact ⟨v, ws', e, rep_noL ho hp d v n.1 r, reps_noL ho hp ds ws' n.2 q⟩
end
end
section
variable {X : Cx} {B : Bas} {Δ : List Sl} {e : Expr} {es : List Expr} {ds zs : List D} {d : D} {p pos : Pos} {x : Str} {k : Nat} {R : Rl} {i : Int}
/-- arguments that hold nothing of a heap ahead -/
def AM (X : Cx) (B : Bas) (Δ : List Sl) (es : List Expr) (ds : List D) : Prop :=
  ∀ (H0 : Hp) (ow : Nat → Option Addr) (σ : L2.St) (H : Hp) (Q : List V → Hp → Prop) (W : WX), Takes X W → StO X.K B Δ ow σ H → Same H0 H → (∀ vs H', Same H H' → Reps X.K (fun a => ∃ o, H0 a = some o) H' ds vs → Q vs H') → WAx X es σ H Q
theorem am_nil : AM X B Δ [] [] := fun H0 ow σ H Q W tk S s0 q => wa_of pa_nil (q [] H (Same.refl H) Reps.nil)
theorem am_int (he : JV X B Δ e (.int i)) (hr : AM X B Δ es ds) (hs : starEach (e :: es) X.env = (false, eval e X.env) :: starEach es X.env := by rfl) : AM X B Δ (e :: es) (.int i :: ds) := fun H0 ow σ H Q W tk S s0 q =>
  wa_of (pa_cons peW paW hs) (he.use tk S fun v H1 s1 r1 => hr H0 ow σ H1 _ W tk (S.up s1) (s0.trans s1) fun vs H2 s2 r2 => q _ _ (s1.trans s2) (Reps.cons (by rw [rep_int r1]; exact int_rep) r2))
theorem fl_callF (F : Fn X.prog X.w X.K X.mg X.base k x R) (hr : Room k X.A) (ha : AM X B Δ (e :: es) zs) (hR : R zs (.ok (.lst ds))) (hn : noLs ds = true) (hg : Gl X x := by rfl)
    (hdb : (x == ("__debug__" : Str)) = false := by decide) (he : starEach (e :: es) X.env = (false, eval e X.env) :: starEach es X.env := by rfl) (hpl : (backTo pos (starEach es X.env)).any (·.1) = false := by rfl) : FL X B Δ (.Call (.Name x p) (e :: es) [] pos) ds := fun ow σ H Q W tk S q => by
  obtain ⟨f, fd, ps, G, gf, kp, b⟩ := F.ex
  refine we_of (pe_callS G hr hg gf kp b (fun σ => passAt tk σ) paW hdb he hpl) (ha H ow σ H _ W tk S (Same.refl H) fun vs H1 s1 r1 => ⟨fun a => ∃ o, H a = some o, zs, _, fun a ⟨o, z⟩ => ⟨o, s1 a o z⟩, r1, hR, ?_⟩)
  intro v H' s rv
  obtain ⟨p, ws, rfl, np, hp, rr⟩ := rep_lst rv
  have hf : H p = none := by
    cases z : H p with
    | none => rfl
    | some o => exact absurd ⟨o, z⟩ np
  exact q p ws H' hf (s1.trans s) hp (reps_noL (fun a z => z.elim (fun z => .inl (S.live a z)) .inr) hp ds ws hn rr)
end
end Dy
namespace Dy
open PySem
open Sem (wp)
end Dy
namespace Dy
open PySem PySem.Spec PyProof.Rows L2
end Dy
namespace Dy
open PySem PySem.Spec PyProof.Rows L2
end Dy
namespace Dy
open PySem PySem.Spec PyProof.Rows L2
section
variable {X : Cx} {B : Bas} {Δ : List Sl} {a b : Expr} {pos : Pos}
/-- an item of what is a list in the end -/
theorem jv_ixLD {i : Int} {d0 d : D} (ha : JV X B Δ a d0) (hb : JV X B Δ b (.int i)) (h : ∃ ds, d0 = .lst ds ∧ atI ds i = some d) (hs : PlainIx b := by exact fun _ _ => rfl) : JV X B Δ (.Subscript a b pos) d := by
  obtain ⟨ds, rfl, h⟩ := h
  exact jv_ixL (LV.rv (JV.lv ha)) hb h hs
end
end Dy
namespace Dy
open PySem PySem.Spec PyProof.Rows L2
def tkI : Key → Int ⊕ List Nat
  | .inl n => .inl n
  | .inr s => .inr s.cps.toList
def tk (ks : List Key) : List (Int ⊕ List Nat) := ks.map tkI
def IsRow (h : Heap) (shape : Nat → Bool) (v : Value) (k : List (Int ⊕ List Nat)) : Prop := ∃ l o xs n, v = .ref l ∧ h.get? l = some o ∧ o.cls = .type "tuple" ∧ o.data = .seq xs n ∧ tupItems shape 0 xs.toList = some k ∧ k ≠ []
theorem IsRow.keeps {h h' : Heap} {shape : Nat → Bool} {v : Value} {k : List (Int ⊕ List Nat)} (a : IsRow h shape v k) (kk : ∀ b o, h.get? b = some o → o.cls = .type "tuple" → h'.get? b = some o) : IsRow h' shape v k := by
  obtain ⟨l, o, xs, n, e, ho, hc, hd, ht⟩ := a
  exact ⟨l, o, xs, n, e, kk l o ho hc, hc, hd, ht⟩
def k3 (p : Int × Int × Int) : List Key := [.inl p.1, .inl p.2.1, .inl p.2.2]
end Dy
namespace Dy
open PySem PySem.Spec PyProof.Rows L2
end Dy
namespace Dy
open PySem PySem.Spec PyProof.Rows L2
end Dy
namespace Dy
open PySem PySem.Spec PyProof.Rows L2
end Dy
namespace Dy
open PySem PySem.Spec PyProof.Rows L2
end Dy
namespace Dy
open PySem PySem.Spec PyProof.Rows L2
end Dy
namespace Dy
open PySem PySem.Spec PyProof.Rows L2
abbrev Cels := List (Addr × Cel)
def adC (cs : Cels) : List Addr := cs.map (·.1)
/-- the slots hold the cells -/
def SlI (Δ : List Sl) : List Nat → Cels → Prop
  | [], [] => True
  | i :: is, q :: cs => Δ[i]? = some (.cel q.1 q.2) ∧ SlI Δ is cs
  | _, _ => False
def putC : List Sl → List Nat → Cels → List Sl
  | Δ, i :: is, q :: cs => putC (Δ.set i (.cel q.1 q.2)) is cs
  | Δ, _, _ => Δ
def putL (ow : Nat → Option Addr) : List Nat → List Addr → (Nat → Option Addr)
  | j :: js, a :: as => putO (putL ow js as) j (some a)
  | _, _ => ow
theorem SlI.len {Δ : List Sl} : ∀ {is : List Nat} {cs : Cels}, SlI Δ is cs → is.length = cs.length
  | [], [], _ => rfl
  | _ :: is, _ :: cs, h => congrArg Nat.succ (SlI.len (is := is) (cs := cs) h.2)
theorem SlI.get {Δ : List Sl} : ∀ {is : List Nat} {cs : Cels} {k j : Nat}, SlI Δ is cs → is[k]? = some j → ∃ q, cs[k]? = some q ∧ Δ[j]? = some (.cel q.1 q.2)
  | i :: is, q :: cs, 0, j, h, e => by
    cases e
    exact ⟨q, rfl, h.1⟩
  | i :: is, q :: cs, k + 1, j, h, e => SlI.get (is := is) (cs := cs) h.2 (by simpa using e)
theorem SlI.at_ {Δ : List Sl} : ∀ {is : List Nat} {cs : Cels} {q : Addr × Cel}, SlI Δ is cs → q ∈ cs → ∃ j : Nat, Δ[j]? = some (Sl.cel q.1 q.2)
  | i :: is, p :: cs, q, h, e => by
    rcases List.mem_cons.mp e with rfl | e
    · exact ⟨i, h.1⟩
    · exact SlI.at_ (is := is) (cs := cs) h.2 e
  | [], _, _, h, e => by
    rename_i cs q
    cases cs with
    | nil => cases e
    | cons _ _ => exact h.elim
theorem putC_len : ∀ {is : List Nat} {cs : Cels} {Δ : List Sl}, (putC Δ is cs).length = Δ.length
  | [], _, _ => by unfold putC; rfl
  | i :: is, [], _ => by unfold putC; rfl
  | i :: is, q :: cs, Δ => by
    unfold putC
    rw [putC_len (is := is) (cs := cs)]
    simp
theorem putC_get {s : Sl} {j : Nat} : ∀ {is : List Nat} {cs : Cels} {Δ : List Sl}, is.length = cs.length → (putC Δ is cs)[j]? = some s → (∃ (k : Nat) (q : Addr × Cel), is[k]? = some j ∧ cs[k]? = some q ∧ s = .cel q.1 q.2) ∨ (j ∉ is ∧ Δ[j]? = some s)
  | [], [], Δ, _, e => .inr ⟨(fun z => nomatch z), by simpa [putC] using e⟩
  | i :: is, q :: cs, Δ, hl, e => by
    unfold putC at e
    rcases putC_get (is := is) (cs := cs) (Nat.succ.inj hl) e with ⟨k, q', h1, h2, h3⟩ | ⟨h1, h2⟩
    · exact .inl ⟨k + 1, q', by simpa using h1, by simpa using h2, h3⟩
    · by_cases hj : j = i
      · subst hj
        have hb : j < Δ.length := by
          have := (List.getElem?_eq_some_iff.mp h2).1
          simpa using this
        rw [List.getElem?_set_self hb] at h2
        exact .inl ⟨0, q, rfl, rfl, (Option.some.inj h2).symm⟩
      · rw [List.getElem?_set_ne (Ne.symm hj)] at h2
        exact .inr ⟨by simp [hj, h1], h2⟩
theorem putL_inv {ow : Nat → Option Addr} {j : Nat} {a : Addr} : ∀ {js : List Nat} {as : List Addr}, js.length = as.length → putL ow js as j = some a → (∃ k : Nat, js[k]? = some j ∧ as[k]? = some a) ∨ (j ∉ js ∧ ow j = some a)
  | [], [], _, e => .inr ⟨(fun z => nomatch z), e⟩
  | i :: js, b :: as, hl, e => by
    unfold putL at e
    by_cases hj : j = i
    · rw [hj, putO_same] at e
      exact .inl ⟨0, by simp [hj], by simpa using e⟩
    · rw [putO_ne hj] at e
      rcases putL_inv (js := js) (as := as) (Nat.succ.inj hl) e with ⟨k, h1, h2⟩ | ⟨h1, h2⟩
      · exact .inl ⟨k + 1, by simpa using h1, by simpa using h2⟩
      · exact .inr ⟨by simp [hj, h1], h2⟩
theorem putL_mem {ow : Nat → Option Addr} {j k : Nat} {a : Addr} : ∀ {js : List Nat} {as : List Addr} , js.Nodup → js[k]? = some j → as[k]? = some a → putL ow js as j = some a := by
  intro js
  induction js generalizing k with
  | nil => intro as _ h; simp at h
  | cons i js ih =>
    intro as n h1 h2
    cases as with
    | nil => simp at h2
    | cons b as =>
      rw [List.nodup_cons] at n
      unfold putL
      cases k with
      | zero =>
        simp at h1 h2
        rw [h1, h2, putO_same]
      | succ k =>
        simp at h1 h2
        rw [putO_ne (fun z => n.1 (by rw [← z]; exact List.mem_of_getElem? h1))]
        exact ih n.2 h1 h2
theorem putL_not {ow : Nat → Option Addr} {j : Nat} : ∀ {js : List Nat} {as : List Addr}, j ∉ js → putL ow js as j = ow j
  | [], _, _ => by unfold putL; rfl
  | i :: js, [], _ => by unfold putL; rfl
  | i :: js, b :: as, h => by
    rw [List.mem_cons, not_or] at h
    unfold putL
    rw [putO_ne h.1]
    exact putL_not h.2
section
variable {K : PySem.W.Frag} {B : Bas} {Δ : List Sl} {ow : Nat → Option Addr} {σ : L2.St} {H H' : Hp}
theorem SlI.own (S : StO K B Δ ow σ H) {is : List Nat} {cs : Cels} (h : SlI Δ is cs) {a : Addr} (ha : a ∈ adC cs) : ∃ j, j ∈ is ∧ ow j = some a := by
  obtain ⟨q, hq, rfl⟩ := List.mem_map.mp ha
  obtain ⟨k, hk, e⟩ := List.mem_iff_getElem.mp hq
  have hl := h.len
  have hj : is[k]? = some (is[k]'(by omega)) := List.getElem?_eq_getElem (by omega)
  obtain ⟨q', e1, e2⟩ := h.get hj
  rw [List.getElem?_eq_getElem hk, e] at e1
  cases e1
  exact ⟨_, List.getElem_mem _, (S.sl _ _ e2).1⟩
/-- the state behind a call: cells changed at is, new ones at js -/
theorem StO.cells (S : StO K B Δ ow σ H) {is js : List Nat} {cs cs' ce : Cels} {as : List Addr} (hi : SlI Δ is cs) (hc : adC cs' = adC cs) (he : adC ce = as) (hj : js.length = as.length) (nj : js.Nodup) (na : as.Nodup) (dj : ∀ j ∈ js, j ∉ is) (ni : is.Nodup)
    (hn : ∀ a ∈ as, H a = none) (so : SameO (fun a => a ∈ adC cs) H H') (ok : ∀ q ∈ cs' ++ ce, CelOk K (fun a => InO B ow a ∨ a ∈ as) H' q.1 q.2) : StO K B (putC (putC Δ is cs') js ce) (putL ow js as) σ H' := by
  have li := hi.len
  have lc : cs'.length = cs.length := by have := congrArg List.length hc; simpa [adC] using this
  have le : ce.length = as.length := by have := congrArg List.length he; simpa [adC] using this
  have fresh : ∀ a o, H a = some o → a ∉ as := fun a o e z => by rw [hn a z] at e; cases e
  have sub : ∀ a, InO B (putL ow js as) a → InO B ow a ∨ a ∈ as := fun a h => by
    rcases h with h | ⟨j, h⟩
    · exact .inl (.inl h)
    · rcases putL_inv hj h with ⟨k, _, h2⟩ | ⟨_, h2⟩
      · exact .inr (List.mem_of_getElem? h2)
      · exact .inl (.inr ⟨j, h2⟩)
  have cin : ∀ a ∈ adC cs, InO B ow a := fun a ha => let ⟨j, _, e⟩ := hi.own S ha; .inr ⟨j, e⟩
  have soO : SameO (fun a => InO B ow a ∨ a ∈ as) H H' := fun a o n e => so a o (fun z => n (.inl (cin a z))) e
  have up1 : ∀ {d : D} {v : V}, Rep K (InO B ow) H d v → Rep K (InO B (putL ow js as)) H' d v := fun {d v} r =>
    Rep.mono soO sub d v (Rep.swap (fun a o n e z => z.elim n (fresh a o e)) d v r)
  have up2 : ∀ {d : List D} {v : List V}, Reps K (InO B ow) H d v → Reps K (InO B (putL ow js as)) H' d v := fun {d v} r =>
    Reps.mono soO sub d v (Reps.swap (fun a o n e z => z.elim n (fresh a o e)) d v r)
  have oldown : ∀ j a, j ∉ js → ow j = some a → putL ow js as j = some a := fun j a n e => by rw [putL_not n]; exact e
  refine ⟨fun a o e => ?_, fun a h => ?_, fun j a h => ?_, fun j k a h1 h2 => ?_, by rw [putC_len, putC_len]; exact S.len, fun j s e => ?_⟩
  · refine so a o (fun z => ?_) (S.base a o e)
    obtain ⟨i, _, hi'⟩ := hi.own S z
    rw [(S.sep i a hi').1] at e
    cases e
  · rcases sub a h with h | h
    · by_cases z : a ∈ adC cs
      · rw [← hc] at z
        obtain ⟨q, hq, rfl⟩ := List.mem_map.mp z
        have := ok q (List.mem_append_left _ hq)
        obtain ⟨a, c⟩ := q
        cases c with
        | ins C ns ds => obtain ⟨dx, vs, e, _⟩ := this; exact ⟨_, e⟩
        | lst ds => obtain ⟨vs, e, _⟩ := this; exact ⟨_, e⟩
        | dic ks ds => obtain ⟨vs, e, _⟩ := this; exact ⟨_, e⟩
      · obtain ⟨o, e⟩ := S.live a h
        exact ⟨o, so a o z e⟩
    · rw [← he] at h
      obtain ⟨q, hq, rfl⟩ := List.mem_map.mp h
      have := ok q (List.mem_append_right _ hq)
      obtain ⟨a, c⟩ := q
      cases c with
      | ins C ns ds => obtain ⟨dx, vs, e, _⟩ := this; exact ⟨_, e⟩
      | lst ds => obtain ⟨vs, e, _⟩ := this; exact ⟨_, e⟩
      | dic ks ds => obtain ⟨vs, e, _⟩ := this; exact ⟨_, e⟩
  · rcases putL_inv hj h with ⟨k, _, h2⟩ | ⟨_, h2⟩
    · have hm := List.mem_of_getElem? h2
      refine ⟨?_, fun z => ?_⟩
      · cases q : B.H0 a with
        | none => rfl
        | some o => exact absurd hm (fresh a o (S.base a o q))
      · obtain ⟨o, e⟩ := S.live a (.inl z)
        exact fresh a o e hm
    · exact S.sep j a h2
  · have live : ∀ j, ow j = some a → a ∉ as := fun j e => by
      obtain ⟨o, q⟩ := S.live a (.inr ⟨j, e⟩)
      exact fresh a o q
    rcases putL_inv hj h1 with ⟨k1, a1, a2⟩ | ⟨_, a2⟩
    · rcases putL_inv hj h2 with ⟨k2, b1, b2⟩ | ⟨_, b2⟩
      · have e := (List.getElem?_inj (i := k1) (j := k2) (List.getElem?_eq_some_iff.mp a2).1 na).mp (a2.trans b2.symm)
        subst e
        rw [a1] at b1
        exact Option.some.inj b1
      · exact absurd (List.mem_of_getElem? a2) (live k b2)
    · rcases putL_inv hj h2 with ⟨k2, b1, b2⟩ | ⟨_, b2⟩
      · exact absurd (List.mem_of_getElem? b2) (live j a2)
      · exact S.inj j k a a2 b2
  · rcases putC_get (by rw [hj, le]) e with ⟨k, q, h1, h2, rfl⟩ | ⟨n1, e⟩
    · have ha : as[k]? = some q.1 := by rw [← he, adC, List.getElem?_map, h2]; rfl
      exact ⟨putL_mem nj h1 ha, (ok q (List.mem_append_right _ (List.mem_of_getElem? h2))).less sub⟩
    · rcases putC_get (by rw [li, lc]) e with ⟨k, q, h1, h2, rfl⟩ | ⟨n2, e⟩
      · obtain ⟨q0, c1, c2⟩ := hi.get h1
        have ho := (S.sl j _ c2).1
        have eq : q.1 = q0.1 := by
          have h3 : (adC cs')[k]? = some q.1 := by rw [adC, List.getElem?_map, h2]; rfl
          rw [hc, adC, List.getElem?_map, c1] at h3
          exact (Option.some.inj h3).symm
        exact ⟨by rw [eq]; exact oldown j _ n1 ho, (ok q (List.mem_append_left _ (List.mem_of_getElem? h2))).less sub⟩
      · have h := S.sl j s e
        have keep : ∀ b, ow j = some b → ∀ o, H b = some o → H' b = some o := fun b hb o eb => so b o (fun z => by
          obtain ⟨i, hi1, hi2⟩ := hi.own S z
          exact n2 (by rw [S.inj j i b hb hi2]; exact hi1)) eb
        cases s with
        | un => trivial
        | val d => obtain ⟨v, e1, r⟩ := h; exact ⟨v, e1, up1 r⟩
        | own ds => obtain ⟨b, vs, e1, e2, e3, r⟩ := h; exact ⟨b, vs, e1, oldown j b n1 e2, keep b e2 _ e3, up2 r⟩
        | exc b => exact h
        | slf b dx C ns ds => obtain ⟨vs, e1, e2, e3, l, r⟩ := h; exact ⟨vs, e1, oldown j b n1 e2, keep b e2 _ e3, l, up2 r⟩
        | cel b c => exact ⟨oldown j b n1 h.1, h.2.via up2 (keep b h.1)⟩
end
section
variable {K : PySem.W.Frag} {B : Bas} {Δ : List Sl} {ow : Nat → Option Addr} {σ : L2.St} {H H' : Hp}
theorem inO_putL {js : List Nat} {as : List Addr} (hj : js.length = as.length) {a : Addr} (h : InO B (putL ow js as) a) : InO B ow a ∨ a ∈ as := by
  rcases h with h | ⟨j, h⟩
  · exact .inl (.inl h)
  · rcases putL_inv hj h with ⟨k, _, h2⟩ | ⟨_, h2⟩
    · exact .inr (List.mem_of_getElem? h2)
    · exact .inl (.inr ⟨j, h2⟩)
/-- values live on -/
def Kp (K : PySem.W.Frag) (B : Bas) (ow ow' : Nat → Option Addr) (H H' : Hp) : Prop := ∀ (d : D) (v : V), Rep K (InO B ow) H d v → Rep K (InO B ow') H' d v
theorem Kp.refl : Kp K B ow ow H H := fun _ _ r => r
theorem Kp.same (s : Same H H') : Kp K B ow ow H H' := fun _ _ r => r.up s
theorem Kp.trans {ow1 ow2 : Nat → Option Addr} {H1 H2 : Hp} (a : Kp K B ow ow1 H H1) (b : Kp K B ow1 ow2 H1 H2) : Kp K B ow ow2 H H2 := fun d v r => b d v (a d v r)
theorem Kp.all {ow1 : Nat → Option Addr} {H1 : Hp} (a : Kp K B ow ow1 H H1) : ∀ {ds : List D} {vs : List V}, Reps K (InO B ow) H ds vs → Reps K (InO B ow1) H1 ds vs
  | [], vs, r => by rw [Reps.nil_inv r]; exact Reps.nil
  | d :: ds, vs, r => by
    obtain ⟨v, ws, rfl, r1, r2⟩ := Reps.cons_inv r
    exact Reps.cons (a d v r1) (Kp.all a r2)
theorem StO.cells_kp (S : StO K B Δ ow σ H) {is js : List Nat} {cs : Cels} {as : List Addr} (hi : SlI Δ is cs) (hj : js.length = as.length) (hn : ∀ a ∈ as, H a = none) (so : SameO (fun a => a ∈ adC cs) H H') : Kp K B ow (putL ow js as) H H' := fun d v r => by
  have cin : ∀ a ∈ adC cs, InO B ow a := fun a ha => let ⟨j, _, e⟩ := hi.own S ha; .inr ⟨j, e⟩
  exact Rep.mono (fun a o n e => so a o (fun z => n (.inl (cin a z))) e) (fun a => inO_putL hj) d v (Rep.swap (O' := fun a => InO B ow a ∨ a ∈ as) (fun a o n e z => z.elim n fun q => by rw [hn a q] at e; cases e) d v r)
theorem SlI.nd (S : StO K B Δ ow σ H) : ∀ {is : List Nat} {cs : Cels}, SlI Δ is cs → is.Nodup → (adC cs).Nodup
  | [], [], _, _ => List.nodup_nil
  | [], _ :: _, h, _ => h.elim
  | _ :: _, [], h, _ => h.elim
  | i :: is, q :: cs, h, n => by
    rw [List.nodup_cons] at n
    have ih := SlI.nd S (is := is) (cs := cs) h.2 n.2
    refine List.nodup_cons.mpr ⟨fun z => ?_, ih⟩
    obtain ⟨j, hj, e⟩ := SlI.own S (is := is) (cs := cs) h.2 z
    have e1 := (S.sl i _ h.1).1
    exact n.1 (by rw [S.inj i j q.1 e1 e]; exact hj)
end
structure Out where
  n : Nat
  r : Except Exn (List Addr → D)
  cs : List Addr → Cels
  ce : List Addr → Cels
abbrev RlG := Cels → List D → Out → Prop
section
variable {P : Program} {w : World} {K : PySem.W.Frag} {mg : Str → Option Value} {base : Heap}
theorem cel_some {O : Addr → Prop} {H : Hp} {q : Addr × Cel} (h : CelOk K O H q.1 q.2) : ∃ o, H q.1 = some o := by
  obtain ⟨a, c⟩ := q
  cases c with
  | ins C ns ds => obtain ⟨dx, vs, e, _⟩ := h; exact ⟨_, e⟩
  | lst ds => obtain ⟨vs, e, _⟩ := h; exact ⟨_, e⟩
  | dic ks ds => obtain ⟨vs, e, _⟩ := h; exact ⟨_, e⟩
theorem SlI.cel_ok {B : Bas} {Δ : List Sl} {ow : Nat → Option Addr} {σ : L2.St} {H : Hp} (S : StO K B Δ ow σ H) {is : List Nat} {cs : Cels} (h : SlI Δ is cs) : ∀ q ∈ cs, CelOk K (InO B ow) H q.1 q.2 := fun q hq => by
  obtain ⟨j, e⟩ := h.at_ hq
  exact (S.sl j _ e).2
end
end Dy
namespace Dy
open PySem PySem.Spec PyProof.Rows L2
mutual
/-- the same value, cells shown as what they hold -/
inductive Vw (cs : Cels) : D → D → Prop
  | refl (d : D) : Vw cs d d
  | lst {a : Addr} {ds es : List D} : (a, Cel.lst ds) ∈ cs → Vws cs ds es → Vw cs (.adr a) (.lst es)
  | ins {a C : Addr} {ns : List Str} {ds es : List D} : (a, Cel.ins C ns ds) ∈ cs → Vws cs ds es → Vw cs (.adr a) (.obj C ns es)
  | dic {a : Addr} {ks : List Key} {ds es : List D} : (a, Cel.dic ks ds) ∈ cs → Vws cs ds es → Vw cs (.adr a) (.dic ks es)
  | tup {ds es : List D} : Vws cs ds es → Vw cs (.tup ds) (.tup es)
inductive Vws (cs : Cels) : List D → List D → Prop
  | nil : Vws cs [] []
  | cons {d e : D} {ds es : List D} : Vw cs d e → Vws cs ds es → Vws cs (d :: ds) (e :: es)
end
theorem Vws.refls {cs : Cels} : ∀ ds : List D, Vws cs ds ds
  | [] => .nil
  | d :: ds => .cons (.refl d) (Vws.refls ds)
section
variable {cs : Cels} {K : PySem.W.Frag} {O O' : Addr → Prop} {H : Hp}
mutual
theorem Vws.len : ∀ {ds es : List D}, Vws cs ds es → ds.length = es.length
  | _, _, .nil => rfl
  | _, _, .cons _ h => congrArg Nat.succ (Vws.len h)
end
mutual
theorem Vw.rep (ok : ∀ q ∈ cs, CelOk K O H q.1 q.2) (hO : ∀ a, O' a → O a) (nO : ∀ a ∈ adC cs, ¬ O' a) : ∀ {d e : D} {v : V}, Vw cs d e → Rep K O H d v → Rep K O' H e v
  | _, _, _, .refl d, r => r.less hO
  | _, _, _, .lst (a := a) m h, r => by
    rw [rep_adr r]
    obtain ⟨vs, e, q⟩ := ok _ m
    exact lst_rep (nO a (List.mem_map.mpr ⟨_, m, rfl⟩)) e (Vws.rep ok hO nO h q)
  | _, _, _, .ins (a := a) m h, r => by
    rw [rep_adr r]
    obtain ⟨dx, vs, e, l, q⟩ := ok _ m
    exact obj_rep (nO a (List.mem_map.mpr ⟨_, m, rfl⟩)) e (l.trans h.len) (Vws.rep ok hO nO h q)
  | _, _, _, .dic (a := a) m h, r => by
    rw [rep_adr r]
    obtain ⟨vs, e, l, q⟩ := ok _ m
    exact dic_rep (nO a (List.mem_map.mpr ⟨_, m, rfl⟩)) (.inl e) (l.trans h.len) (Vws.rep ok hO nO h q)
  | _, _, _, .tup h, r => by
    obtain ⟨a, vs, rfl, t, q⟩ := rep_tup r
    exact tup_rep (t.mono (fun _ _ _ e => e) hO) (Vws.rep ok hO nO h q)
theorem Vws.rep (ok : ∀ q ∈ cs, CelOk K O H q.1 q.2) (hO : ∀ a, O' a → O a) (nO : ∀ a ∈ adC cs, ¬ O' a) : ∀ {ds es : List D} {vs : List V}, Vws cs ds es → Reps K O H ds vs → Reps K O' H es vs
  | _, _, _, .nil, r => r.less hO
  | _, _, _, .cons h1 h2, r => by
    obtain ⟨v, ws, rfl, r1, r2⟩ := Reps.cons_inv r
    exact Reps.cons (Vw.rep ok hO nO h1 r1) (Vws.rep ok hO nO h2 r2)
end
end
/-- slots as plain data -/
def SlV (cs : Cels) : Sl → Sl → Prop
  | _, .un => True
  | .val d, .val e => Vw cs d e
  | .own ds, .own es => Vws cs ds es
  | .exc a, .exc b => a = b
  | _, _ => False
def FrzL (cs : Cels) : List Sl → List Sl → Prop
  | [], [] => True
  | s :: l, t :: m => SlV cs s t ∧ FrzL cs l m
  | _, _ => False
theorem FrzL.len {cs : Cels} : ∀ {l m : List Sl}, FrzL cs l m → l.length = m.length
  | [], [], _ => rfl
  | _ :: l, _ :: m, h => congrArg Nat.succ (FrzL.len (l := l) (m := m) h.2)
  | [], _ :: _, h => h.elim
  | _ :: _, [], h => h.elim
theorem FrzL.get {cs : Cels} : ∀ {l m : List Sl} {i : Nat} {t : Sl}, FrzL cs l m → m[i]? = some t → ∃ s, l[i]? = some s ∧ SlV cs s t
  | s :: l, t' :: m, 0, t, h, e => by
    cases e
    exact ⟨s, rfl, h.1⟩
  | s :: l, t' :: m, i + 1, t, h, e => by
    simpa using FrzL.get (l := l) (m := m) h.2 (by simpa using e)
  | [], [], i, t, _, e => by simp at e
  | [], _ :: _, _, _, h, _ => h.elim
  | _ :: _, [], _, _, h, _ => h.elim
/-- without the cells -/
def owF (is : List Nat) (ow : Nat → Option Addr) : Nat → Option Addr := fun j => if j ∈ is then none else ow j
theorem owF_some {is : List Nat} {ow : Nat → Option Addr} {j : Nat} {a : Addr} (h : owF is ow j = some a) : j ∉ is ∧ ow j = some a := by
  unfold owF at h
  split at h
  · cases h
  · rename_i q
    exact ⟨q, h⟩
section
variable {K : PySem.W.Frag} {B : Bas} {Δ Δv : List Sl} {ow : Nat → Option Addr} {σ : L2.St} {H H' : Hp} {is : List Nat} {cs : Cels}
theorem inO_frz {a : Addr} (h : InO B (owF is ow) a) : InO B ow a := h.elim .inl fun ⟨j, e⟩ => .inr ⟨j, (owF_some e).2⟩
theorem frz_no (S : StO K B Δ ow σ H) (hi : SlI Δ is cs) {a : Addr} (ha : a ∈ adC cs) : ¬ InO B (owF is ow) a := fun z => by
  obtain ⟨j, hj, e⟩ := hi.own S ha
  rcases z with z | ⟨i, z⟩
  · exact (S.sep j a e).2 z
  · obtain ⟨n, e2⟩ := owF_some z
    exact n (by rw [S.inj i j a e2 e]; exact hj)
theorem sto_frz (S : StO K B Δ ow σ H) (hi : SlI Δ is cs) (hf : FrzL cs Δ Δv) : StO K B Δv (owF is ow) σ H where
  base := S.base
  live := fun a h => S.live a (inO_frz h)
  sep := fun i a h => S.sep i a (owF_some h).2
  inj := fun i j a h1 h2 => S.inj i j a (owF_some h1).2 (owF_some h2).2
  len := S.len.trans hf.len
  sl := fun i t e => by
    obtain ⟨s, e1, q⟩ := hf.get e
    have h := S.sl i s e1
    have ok := hi.cel_ok S
    have up : ∀ {d e : D} {v : V}, Vw cs d e → Rep K (InO B ow) H d v → Rep K (InO B (owF is ow)) H e v := fun h r => Vw.rep ok (fun _ => inO_frz) (fun _ => frz_no S hi) h r
    have ups : ∀ {d e : List D} {v : List V}, Vws cs d e → Reps K (InO B ow) H d v → Reps K (InO B (owF is ow)) H e v := fun h r => Vws.rep ok (fun _ => inO_frz) (fun _ => frz_no S hi) h r
    cases t with
    | un => trivial
    | val d' =>
      cases s with
      | val d => obtain ⟨v, e2, r⟩ := h; exact ⟨v, e2, up q r⟩
      | _ => exact q.elim
    | own ds' =>
      cases s with
      | own ds =>
        obtain ⟨a, vs, e2, e3, e4, r⟩ := h
        refine ⟨a, vs, e2, ?_, e4, ups q r⟩
        have : i ∉ is := fun z => by
          obtain ⟨k, hk, ek⟩ := List.mem_iff_getElem.mp z
          obtain ⟨q', _, c2⟩ := hi.get (k := k) (by rw [List.getElem?_eq_getElem hk, ek])
          rw [e1] at c2
          cases c2
        unfold owF
        rw [if_neg this]
        exact e3
      | _ => exact q.elim
    | exc b =>
      cases s with
      | exc a => cases q; exact h
      | _ => exact q.elim
    | slf a dx C ns ds => cases s <;> exact q.elim
    | cel a c => cases s <;> exact q.elim
end
/-- what holds none of the cells -/
def celNs : Cels → List (List Str)
  | [] => []
  | (_, .ins _ ns _) :: l => ns :: celNs l
  | _ :: l => celNs l
theorem celNs_mem {a C : Addr} {ns : List Str} {ds : List D} : ∀ {cs : Cels}, (a, Cel.ins C ns ds) ∈ cs → ns ∈ celNs cs
  | q :: l, h => by
    rcases List.mem_cons.mp h with h | h
    · subst h
      unfold celNs
      exact List.mem_cons_self
    · have := celNs_mem h
      obtain ⟨b, c⟩ := q
      cases c with
      | ins => unfold celNs; exact List.mem_cons_of_mem _ this
      | lst => unfold celNs; exact this
      | dic => unfold celNs; exact this
def clsN (cs : Cels) (ns : List Str) : Prop := ns ∉ celNs cs
theorem zip_fst_eq : ∀ {ns ms : List Str} {vs us : List V}, ns.length = vs.length → ms.length = us.length → ns.zip vs = ms.zip us → ns = ms
  | [], [], _, _, _, _, _ => rfl
  | [], _ :: _, vs, u :: us, _, _, h => by simp at h
  | _ :: _, [], v :: vs, us, _, _, h => by simp at h
  | n :: ns, m :: ms, v :: vs, u :: us, h1, h2, h => by
    rw [List.zip_cons_cons, List.zip_cons_cons] at h
    injection h with e1 e2
    injection e1 with e3 e4
    rw [e3, zip_fst_eq (Nat.succ.inj h1) (Nat.succ.inj h2) e2]
  | [], _ :: _, _, [], _, h, _ => by cases h
  | _ :: _, _, [], _, h, _, _ => by cases h
  | _, _ :: _, _, [], _, h, _ => by cases h
/-- a list that begins with an int -/
def hk1 : List D → Bool
  | .int _ :: _ => true
  | _ => false
def noI : Cel → Prop
  | .lst ds => hk1 ds = false
  | _ => True
theorem hk1_rep {K : PySem.W.Frag} {O O' : Addr → Prop} {H : Hp} {xs ds : List D} {vs : List V} (h : hk1 xs = true) (r : Reps K O H xs vs) (q : Reps K O' H ds vs) : hk1 ds = true := by
  cases xs with
  | nil => cases h
  | cons x xs =>
    cases x with
    | int i =>
      obtain ⟨v, ws, rfl, r1, _⟩ := Reps.cons_inv r
      have e := rep_int r1
      cases ds with
      | nil => have := Reps.nil_inv q; cases this
      | cons d ds =>
        obtain ⟨v', ws', e2, q1, _⟩ := Reps.cons_inv q
        cases e2
        rw [e] at q1
        cases d with
        | int j => rfl
        | non => cases rep_non q1
        | bl b => cases rep_bl q1
        | str s => cases rep_str q1
        | tup l => obtain ⟨a, _, z, _⟩ := rep_tup q1; cases z
        | lst l => obtain ⟨a, _, z, _⟩ := rep_lst q1; cases z
        | scr l => obtain ⟨a, z, _⟩ := rep_scr q1; cases z
        | obj C n l => obtain ⟨a, _, _, z, _⟩ := rep_obj q1; cases z
        | adr a => cases rep_adr q1
        | dic k l => obtain ⟨a, _, z, _⟩ := rep_dic q1; cases z
    | _ => cases h
mutual
def Fre (cs : Cels) : D → Prop
  | .non => True
  | .bl _ => True
  | .int _ => True
  | .str _ => True
  | .tup xs => Fres cs xs
  | .lst xs => (∀ q ∈ cs, noI q.2) ∧ hk1 xs = true ∧ Fres cs xs
  | .scr _ => False
  | .obj _ ns xs => clsN cs ns ∧ Fres cs xs
  | .adr _ => True
  | .dic _ _ => False
def Fres (cs : Cels) : List D → Prop
  | [] => True
  | d :: ds => Fre cs d ∧ Fres cs ds
end
section
variable {K : PySem.W.Frag} {cs : Cels} {O O' : Addr → Prop} {H : Hp} (hO : ∀ a, O a → O' a ∨ a ∈ adC cs) (ok : ∀ q ∈ cs, ∃ P : Addr → Prop, CelOk K P H q.1 q.2)
include hO ok
theorem sqT_free {a : Addr} {vs : List V} (h : RdT K O' H a vs) : RdT K O H a vs := by
  rcases h with ⟨n, h⟩ | h
  · by_cases z : O a
    · rcases hO a z with z | z
      · exact absurd z n
      · obtain ⟨q, hq, rfl⟩ := List.mem_map.mp z
        obtain ⟨P, ho⟩ := ok q hq
        have no : ¬ Rd H q.1 (.tup vs) := fun y => by
          obtain ⟨a, c⟩ := q
          cases c with
          | ins C ns ds => obtain ⟨dx, ws, e, _⟩ := ho; rcases y with y | ⟨o, y⟩ <;> rw [show H a = _ from e] at y <;> cases y
          | lst ds => obtain ⟨ws, e, _⟩ := ho; rcases y with y | ⟨o, y⟩ <;> rw [show H a = _ from e] at y <;> cases y
          | dic ks ds => obtain ⟨ws, e, _⟩ := ho; rcases y with y | ⟨o, y⟩ <;> rw [show H a = _ from e] at y <;> cases y
        rcases h with h | h
        · exact absurd h no
        · exact .inr fun H' => .inr h
    · exact .inl ⟨z, h⟩
  · exact .inr h
mutual
theorem rep_free : ∀ (d : D) (v : V), Fre cs d → Rep K O' H d v → Rep K O H d v
  | .non, _, _, h => by unfold Rep at h ⊢; exact h
  | .bl _, _, _, h => by unfold Rep at h ⊢; exact h
  | .int _, _, _, h => by unfold Rep at h ⊢; exact h
  | .str _, _, _, h => by unfold Rep at h ⊢; exact h
  | .adr _, _, _, h => by unfold Rep at h ⊢; exact h
  | .tup xs, v, f, h => by
    obtain ⟨a, vs, rfl, t, q⟩ := rep_tup h
    exact tup_rep (sqT_free hO ok t) (reps_free xs vs (by unfold Fre at f; exact f) q)
  | .obj C ns xs, v, f, h => by
    unfold Fre at f
    obtain ⟨a, dx, vs, rfl, n, e, l, q⟩ := rep_obj h
    refine obj_rep (fun z => ?_) e l (reps_free xs vs f.2 q)
    rcases hO a z with z | z
    · exact n z
    · obtain ⟨q, hq, rfl⟩ := List.mem_map.mp z
      obtain ⟨P, ho⟩ := ok q hq
      have fc := f.1
      obtain ⟨a, c⟩ := q
      cases c with
      | ins C' ns' ds =>
        obtain ⟨dx', ws, e', l', r'⟩ := ho
        rw [show H a = _ from e'] at e
        have := Option.some.inj e
        injection this with e1 e2 e3
        have l2 := l'.trans r'.len
        have l3 := l.trans (show xs.length = vs.length by exact (by assumption : Reps K O' H xs vs).len)
        exact fc (zip_fst_eq l2 l3 e3 ▸ celNs_mem hq)
      | lst ds => obtain ⟨ws, e', _⟩ := ho; rw [show H a = _ from e'] at e; cases e
      | dic ks ds => obtain ⟨ws, e', _⟩ := ho; rw [show H a = _ from e'] at e; cases e
  | .lst xs, v, f, h => by
    unfold Fre at f
    obtain ⟨a, vs, rfl, n, e, q⟩ := rep_lst h
    refine lst_rep (fun z => ?_) e (reps_free xs vs f.2.2 q)
    rcases hO a z with z | z
    · exact n z
    · obtain ⟨c, hc, rfl⟩ := List.mem_map.mp z
      obtain ⟨P, ho⟩ := ok c hc
      have fn := f.1 c hc
      obtain ⟨a, c⟩ := c
      cases c with
      | ins C' ns' ds => obtain ⟨dx', ws, e', _⟩ := ho; rw [show H a = _ from e'] at e; cases e
      | dic ks ds => obtain ⟨ws, e', _⟩ := ho; rw [show H a = _ from e'] at e; cases e
      | lst ds =>
        obtain ⟨ws, e', r'⟩ := ho
        rw [show H a = _ from e'] at e
        cases e
        have := hk1_rep f.2.1 q r'
        rw [show hk1 ds = false from fn] at this
        cases this
  | .scr _, _, f, _ => by unfold Fre at f; exact f.elim
  | .dic _ _, _, f, _ => by unfold Fre at f; exact f.elim
theorem reps_free : ∀ (ds : List D) (vs : List V), Fres cs ds → Reps K O' H ds vs → Reps K O H ds vs
  | [], _, _, h => by rw [Reps.nil_inv h]; exact Reps.nil
  | d :: ds, vs, f, h => by
    unfold Fres at f
    obtain ⟨v, ws, rfl, r1, r2⟩ := Reps.cons_inv h
    exact Reps.cons (rep_free d v f.1 r1) (reps_free ds ws f.2 r2)
end
end
section
variable {X : Cx} {B : Bas} {Δ Δv : List Sl} {is : List Nat} {cs : Cels} {e : Expr} {es : List Expr} {d : D} {ds : List D} {b : Bool}
theorem frz_out {K : PySem.W.Frag} {ow : Nat → Option Addr} {σ : L2.St} {H H' : Hp} (S : StO K B Δ ow σ H) (hi : SlI Δ is cs) (s : Same H H') : (∀ a, InO B ow a → InO B (owF is ow) a ∨ a ∈ adC cs) ∧ ∀ q ∈ cs, ∃ P : Addr → Prop, CelOk K P H' q.1 q.2 := by
  refine ⟨fun a h => ?_, fun q hq => ⟨_, (hi.cel_ok S q hq).up s⟩⟩
  rcases h with h | ⟨j, h⟩
  · exact .inl (.inl h)
  · by_cases z : j ∈ is
    · obtain ⟨k, hk, ek⟩ := List.mem_iff_getElem.mp z
      obtain ⟨q, c1, c2⟩ := hi.get (k := k) (by rw [List.getElem?_eq_getElem hk, ek])
      have := (S.sl j _ c2).1
      rw [h] at this
      exact .inr (List.mem_map.mpr ⟨q, List.mem_of_getElem? c1, (Option.some.inj this).symm⟩)
    · refine .inl (.inr ⟨j, ?_⟩)
      unfold owF
      rw [if_neg z]
      exact h
/-- a value out of the state with its cells as plain data -/
theorem jv_frz (hi : SlI Δ is cs) (hf : FrzL cs Δ Δv) (h : JV X B Δv e d) (hd : Fre cs d) : JV X B Δ e d := jv_mk fun ow σ H Q W tk S q =>
  h.use tk (sto_frz S hi hf) fun v H' s r => q v H' s (rep_free (frz_out S hi s).1 (frz_out S hi s).2 d v hd r)
theorem tv_frz (hi : SlI Δ is cs) (hf : FrzL cs Δ Δv) (h : TV X B Δv e b) : TV X B Δ e b := tv_mk fun ow σ H Q W tk S q =>
  h.use tk (sto_frz S hi hf) fun H' s => q H' s
end
end Dy
namespace Dy
open PySem PySem.Spec PyProof.Rows L2
def JX (X : Cx) (B : Bas) (Δ : List Sl) (e : Expr) (P : List Sl → D → Prop) (Ψ : List Sl → Exn → Prop) : Prop :=
  ∀ (ow : Nat → Option Addr) (σ : L2.St) (H : Hp) (Q : VK) (W : WX), Takes X W → StO X.K B Δ ow σ H →
    (∀ Δ' ow' d v H', P Δ' d → StO X.K B Δ' ow' σ H' → Kp X.K B ow ow' H H' → Rep X.K (InO B ow') H' d v → Q v H') →
    (∀ Δ' ow' x cls dd H', Ψ Δ' x → StO X.K B Δ' ow' σ H' → ExR X.K (InO B ow') H' x cls dd → W cls dd σ H') → WEx X e σ H Q
section
variable {X : Cx} {B : Bas} {Δ Δ2 Δv : List Sl} {E : EndD} {st : Stmt} {rest body : List Stmt} {e o a b : Expr} {es : List Expr} {d d2 : D} {ds xs : List D} {pos apos cpos tpos pos' p : Pos} {P : List Sl → D → Prop} {Ψ : List Sl → Exn → Prop} {i j k : Nat} {C q r : Addr} {ns : List Str} {f m x : Str} {cs : Cels} {is js : List Nat}
theorem JX.imp {P' : List Sl → D → Prop} {Ψ' : List Sl → Exn → Prop} (h : JX X B Δ e P Ψ) (i : ∀ Δ d, P Δ d → P' Δ d) (j : ∀ Δ x, Ψ Δ x → Ψ' Δ x) : JX X B Δ e P' Ψ' := fun ow σ H Q W tk S q hx =>
  h ow σ H Q W tk S (fun Δ' ow' d v H' p => q Δ' ow' d v H' (i _ _ p)) (fun Δ' ow' x cls dd H' p => hx Δ' ow' x cls dd H' (j _ _ p))
theorem js_exprJ (he : JX X B Δ e P Ψ) (k : ∀ Δ' d, P Δ' d → E.nx Δ') (kx : ∀ Δ' x, Ψ Δ' x → E.xc Δ' x) (hs : swapsWith e none pos.line X.env = pure false := by rfl) : JS X B Δ (.Expr e pos) E := fun ow σ H De W tk S G =>
  ws_of (ps_expr peW hs) (he ow σ H _ W tk S (fun Δ' ow' d v H' p S' _ r => G.nx Δ' ow' σ H' (k _ _ p) S') (fun Δ' ow' x cls dd H' p S' r => G.xc Δ' ow' σ H' x cls dd (kx _ _ p) S' r))
theorem js_setJ (i : Nat) {x : Str} {pos' : Pos} (he : JX X B Δ e P Ψ) (k : ∀ Δ' d, P Δ' d → E.nx (Δ'.set i (.val d))) (kx : ∀ Δ' x, Ψ Δ' x → E.xc Δ' x) (hN : X.N.Nodup) (hi : X.N[i]? = some x := by rfl) (hx : Loc X.env.scope x := by first | exact Or.inl rfl | exact Or.inr rfl)
    (hs : swapsWith e (some (.Name x pos')) pos.line X.env = pure false := by rfl) (hf : X.fn x = true ∨ X.env.scope.names.lookup x = some .local := by first | exact .inl rfl | exact .inr rfl) : JS X B Δ (.Assign [.Name x pos'] e pos) E := fun ow σ H De W tk S G =>
  ws_of (ps_set hN hi hx peW hs hf) (he ow σ H _ W tk S (fun Δ' ow' d v H' p S' _ r => G.nx _ ow' _ H' (k _ _ p) (S'.put r)) (fun Δ' ow' x cls dd H' p S' r => G.xc Δ' ow' σ H' x cls dd (kx _ _ p) S' r))
theorem write_kp {K : PySem.W.Frag} {ow : Nat → Option Addr} {σ : L2.St} {H : Hp} {u : HO} (S : StO K B Δ ow σ H) (h : ow i = some q) : Kp K B ow ow H (upd H q u) := fun d v r =>
  Rep.mono (fun b w n z => by rw [upd_ne (fun y => n (.inr ⟨i, by rw [y]; exact h⟩))]; exact z) (fun _ z => z) d v r
theorem sto_cel {K : PySem.W.Frag} {ow : Nat → Option Addr} {σ : L2.St} {H : Hp} {c c' : Cel} {u : HO} (S : StO K B Δ ow σ H) (h : Δ[i]? = some (.cel q c)) (ok : CelOk K (InO B ow) (upd H q u) q c') : StO K B (Δ.set i (.cel q c')) ow σ (upd H q u) :=
  S.write (S.sl i _ h).1 ⟨(S.sl i _ h).1, ok⟩
/-- o.append(e) -/
theorem jx_appC (i : Nat) (ho : JV X B Δ o (.adr q)) (he : JV X B Δ e d) (hl : ds.length < 100000) (h : Δ[i]? = some (.cel q (.lst ds)) := by rfl) (hb : attributeBase o "append" X.env (eval o X.env) = eval o X.env := by rfl)
    (hp : PE X (.Call (.Attribute o "append" apos) [e] [] cpos) (tBM X.K "list" rAppend (WEx X o) (tCons (WEx X e) tNil)) := by exact pe_bm PySem.F.plainAttrs_list PySem.F.slot_list_append PySem.F.type_list_append mt_append peW (pa_cons peW pa_nil)) :
    JX X B Δ (.Call (.Attribute o "append" apos) [e] [] cpos) (fun Δ' z => Δ' = Δ.set i (.cel q (.lst (ds ++ [d]))) ∧ z = .non) (fun _ _ => False) := fun ow σ H Q W tk S k hx =>
  we_of hp (ho.use tk S fun v H1 s1 r1 => by
    obtain ⟨hw, vs0, e0, r0⟩ := (S.up s1).sl i _ h
    rw [rep_adr r1]
    refine ⟨.inl ⟨rfl, vs0, SqL.of e0⟩, he.use tk (S.up s1) fun u H2 s2 r2 => ?_⟩
    have S2 := S.up (s1.trans s2)
    obtain ⟨hw, vs, e3, r⟩ := S2.sl i _ h
    refine ⟨q, vs, u, rfl, rfl, e3, lt_line (by rw [← r.len]; exact hl), ?_⟩
    have kp := write_kp (u := .lst (vs ++ [u])) S2 hw
    exact k _ ow .non _ _ ⟨rfl, rfl⟩ (sto_cel S2 h ⟨vs ++ [u], upd_same, Kp.all kp (Reps.app r (Reps.cons r2 Reps.nil))⟩) ((Kp.same (s1.trans s2)).trans kp) non_rep)
theorem Reps.erase {K : PySem.W.Frag} {O : Addr → Prop} {H : Hp} : ∀ {ds : List D} {vs : List V}, Reps K O H (d :: ds) vs → ∃ v, vs = v :: vs.eraseIdx 0 ∧ Rep K O H d v ∧ Reps K O H ds (vs.eraseIdx 0) := fun r => by
  obtain ⟨v, ws, rfl, r1, r2⟩ := Reps.cons_inv r
  exact ⟨v, rfl, r1, r2⟩
end
end Dy
namespace Dy
open PySem PySem.Spec PyProof.Rows L2
end Dy
namespace Dy
open PySem PySem.Spec PyProof.Rows L2
section
variable {K : PySem.W.Frag} {B : Bas} {Δ : List Sl} {ow : Nat → Option Addr} {σ : L2.St} {H H' : Hp}
theorem sto_newC (S : StO K B Δ ow σ H) {j : Nat} {p : Addr} {c : Cel} (hp : H p = none) (s : Same H H') (ok : CelOk K (fun a => InO B ow a ∨ a = p) H' p c) : StO K B (Δ.set j (.cel p c)) (putO ow j (some p)) σ H' ∧ Kp K B ow (putO ow j (some p)) H H' := by
  have h := S.cells (is := []) (cs := []) (cs' := []) (js := [j]) (as := [p]) (ce := [(p, c)]) (H' := H') trivial rfl rfl rfl (List.nodup_cons.mpr ⟨(fun z => nomatch z), List.nodup_nil⟩) (List.nodup_cons.mpr ⟨(fun z => nomatch z), List.nodup_nil⟩) (fun _ _ z => nomatch z) List.nodup_nil (fun a ha => by rw [List.mem_singleton.mp ha]; exact hp) (Same.o s) (fun q hq => by
    have hq' : q = (p, c) := List.mem_singleton.mp (show q ∈ [(p, c)] from hq)
    rw [hq']
    exact ok.less fun a z => z.elim .inl fun z => .inr (List.mem_singleton.mp z))
  have k := S.cells_kp (is := []) (cs := []) (js := [j]) (as := [p]) (H' := H') trivial rfl (fun a ha => by rw [List.mem_singleton.mp ha]; exact hp) (Same.o s)
  exact ⟨h, k⟩
end
section
variable {X : Cx} {B : Bas} {Δ Δ2 Δv : List Sl} {E : EndD} {e o a b : Expr} {es : List Expr} {d d2 : D} {ds xs : List D} {pos apos cpos tpos pos' p : Pos} {i j k : Nat} {C q : Addr} {ns : List Str} {f m x : Str}
def NoX (_ : List Sl) (_ : Exn) : Prop := False
theorem FL.jx (j : Nat) (h : FL X B Δ e ds) : JX X B Δ e (fun Δ' d => ∃ p, Δ' = Δ.set j (.cel p (.lst ds)) ∧ d = .adr p) NoX := fun ow σ H Q W tk S k hx =>
  h ow σ H Q W tk S fun p vs H' hp s hL r => by
    obtain ⟨S', kp⟩ := sto_newC (j := j) (c := .lst ds) S hp s ⟨vs, hL, r⟩
    exact k _ _ _ _ _ ⟨p, rfl, rfl⟩ S' kp adr_rep
/-- arguments with effects -/
def AX (X : Cx) (B : Bas) (Δ : List Sl) (es : List Expr) (P : List Sl → List D → Prop) : Prop :=
  ∀ (ow : Nat → Option Addr) (σ : L2.St) (H : Hp) (Q : List V → Hp → Prop) (W : WX), Takes X W → StO X.K B Δ ow σ H →
    (∀ Δ' ow' ds vs H', P Δ' ds → StO X.K B Δ' ow' σ H' → Kp X.K B ow ow' H H' → Reps X.K (InO B ow') H' ds vs → Q vs H') → WAx X es σ H Q
theorem ax_nil {P : List Sl → List D → Prop} (h : P Δ []) : AX X B Δ [] P := fun ow σ H Q W tk S q => wa_of pa_nil (q Δ ow [] [] H h S Kp.refl Reps.nil)
theorem ax_cons {P : List Sl → D → Prop} {R : List Sl → List D → Prop} (he : JX X B Δ e P NoX) (hr : ∀ Δ' d, P Δ' d → AX X B Δ' es (fun Δ2 ds => R Δ2 (d :: ds))) (hs : starEach (e :: es) X.env = (false, eval e X.env) :: starEach es X.env := by rfl) : AX X B Δ (e :: es) R := fun ow σ H Q W tk S q =>
  wa_of (pa_cons peW paW hs) (he ow σ H _ W tk S (fun Δ' ow' d v H1 p S1 k1 r1 => hr Δ' d p ow' σ H1 _ W tk S1 fun Δ2 ow2 ds vs H2 p2 S2 k2 r2 => q Δ2 ow2 (d :: ds) (v :: vs) H2 p2 S2 (k1.trans k2) (Reps.cons (k2 d v r1) r2)) (fun _ _ _ _ _ _ z => z.elim))
theorem jx_lst {R : List Sl → D → Prop} (j : Nat) (h : AX X B Δ es (fun Δ' ds => ds.length ≤ 100000 ∧ ∀ p, R (Δ'.set j (.cel p (.lst ds))) (.adr p))) : JX X B Δ (.List es pos) R NoX := fun ow σ H Q W tk S q _ =>
  we_of (pe_lst paW) (h ow σ H _ W tk S fun Δ' ow' ds vs H1 hp S1 k1 r1 => ⟨by rw [← r1.len]; exact le_line hp.1, fun p hp2 => by
    obtain ⟨S', kp⟩ := sto_newC (j := j) (c := .lst ds) S1 hp2 (same_new hp2) ⟨vs, upd_same, (r1.add hp2).up (same_new hp2)⟩
    exact q _ _ _ _ _ (hp.2 p) S' (k1.trans kp) adr_rep⟩)
end
section
variable {X : Cx} {B : Bas} {Δ : List Sl} {E : EndD} {e a b c : Expr} {rest : List Expr} {s1 s2 : List Stmt} {pos : Pos} {k : Bool}
def JXT (X : Cx) (B : Bas) (Δ : List Sl) (e : Expr) (P : List Sl → Bool → Prop) : Prop :=
  ∀ (ow : Nat → Option Addr) (σ : L2.St) (H : Hp) (Q : Bool → Hp → Prop) (W : WX), Takes X W → StO X.K B Δ ow σ H →
    (∀ Δ' ow' b H', P Δ' b → StO X.K B Δ' ow' σ H' → Kp X.K B ow ow' H H' → Q b H') → WTx X e σ H Q
def JXW (X : Cx) (B : Bas) (Δ : List Sl) (e : Expr) (P : List Sl → Bool → Prop) : Prop :=
  ∀ (ow : Nat → Option Addr) (σ : L2.St) (H : Hp) (Q : Bool → Hp → Prop) (W : WX), Takes X W → StO X.K B Δ ow σ H →
    (∀ Δ' ow' b H', P Δ' b → StO X.K B Δ' ow' σ H' → Kp X.K B ow ow' H H' → Q b H') → WWx X e σ H Q
theorem JXT.imp {P P' : List Sl → Bool → Prop} (h : JXT X B Δ e P) (i : ∀ Δ b, P Δ b → P' Δ b) : JXT X B Δ e P' := fun ow σ H Q W tk S q => h ow σ H Q W tk S fun Δ' ow' b H' p => q Δ' ow' b H' (i _ _ p)
end
end Dy
namespace Dy
open PySem PySem.Spec PyProof.Rows L2
def SlFr (cs : Cels) : Sl → Prop
  | .un => True
  | .val d => Fre cs d
  | .own ds => Fres cs ds
  | .exc _ => True
  | _ => False
def FreL (cs : Cels) (Δ : List Sl) : Prop := ∀ s ∈ Δ, SlFr cs s
section
variable {K : PySem.W.Frag} {B : Bas} {Δ Δ' : List Sl} {ow ow' : Nat → Option Addr} {σ σ' : L2.St} {H H' : Hp} {is : List Nat} {cs : Cels}
def owB (is : List Nat) (ow ow' : Nat → Option Addr) : Nat → Option Addr := fun j => if j ∈ is then ow j else ow' j
theorem SlI.in_ : ∀ {is : List Nat} {cs : Cels}, SlI Δ is cs → ∀ {j : Nat}, j ∈ is → ∃ q ∈ cs, Δ[j]? = some (.cel q.1 q.2)
  | i :: is, q :: cs, h, j, hj => by
    rcases List.mem_cons.mp hj with rfl | hj
    · exact ⟨q, List.mem_cons_self, h.1⟩
    · obtain ⟨q', h1, h2⟩ := SlI.in_ (is := is) (cs := cs) h.2 hj
      exact ⟨q', List.mem_cons_of_mem _ h1, h2⟩
theorem sto_back (S : StO K B Δ ow σ H) (hi : SlI Δ is cs) (S' : StO K (B.at (owF is ow) H) Δ' ow' σ' H') (fr : FreL cs Δ') :
    StO K B (putC Δ' is cs) (owB is ow ow') σ' H' ∧ (∀ d v, Fre cs d → Rep K (InO (B.at (owF is ow) H) ow') H' d v → Rep K (InO B (owB is ow ow')) H' d v) ∧ (∀ d v, Fres cs d → Reps K (InO (B.at (owF is ow) H) ow') H' d v → Reps K (InO B (owB is ow ow')) H' d v) := by
  have st : ∀ a ∈ adC cs, ∀ o, H a = some o → (B.at (owF is ow) H).H0 a = some o := fun a ha o e => maskH_some (fun ⟨i, z⟩ => frz_no S hi ha (.inr ⟨i, z⟩)) e
  have keep : ∀ a ∈ adC cs, ∀ o, H a = some o → H' a = some o := fun a ha o e => S'.base a o (st a ha o e)
  have celH : ∀ a ∈ adC cs, ∃ o, H a = some o := fun a ha => by
    obtain ⟨q, hq, rfl⟩ := List.mem_map.mp ha
    exact cel_some (hi.cel_ok S q hq)
  have b0 : ∀ a o, B.H0 a = some o → (B.at (owF is ow) H).H0 a = some o := fun a o e => maskH_some (fun ⟨i, z⟩ => by rw [(S.sep i a (owF_some z).2).1] at e; cases e) (S.base a o e)
  have inn : ∀ a, InO B (owB is ow ow') a → InO (B.at (owF is ow) H) ow' a ∨ a ∈ adC cs := fun a h => by
    rcases h with h | ⟨j, h⟩
    · exact .inl (.inl h)
    · unfold owB at h
      split at h
      · rename_i hj
        obtain ⟨q, hq, e⟩ := hi.in_ hj
        have := (S.sl j _ e).1
        rw [h] at this
        exact .inr (List.mem_map.mpr ⟨q, hq, (Option.some.inj this).symm⟩)
      · exact .inl (.inr ⟨j, h⟩)
  have m1 : ∀ a o, maskH ow H a = some o → (B.at (owF is ow) H).H0 a = some o := fun a o e => maskH_some (fun ⟨i, z⟩ => by
    rw [maskH_own (owF_some z).2] at e
    cases e) (maskH_same a o e)
  have sw : ∀ a o, ¬ InO B ow a → maskH ow H a = some o → ¬ InO B (owB is ow ow') a := fun a o n e h => by
    rcases h with h | ⟨j, h⟩
    · exact n (.inl h)
    · unfold owB at h
      split at h
      · exact n (.inr ⟨j, h⟩)
      · have := (S'.sep j a h).1
        rw [m1 a o e] at this
        cases this
  have r0 : ∀ {ds : List D} {vs : List V}, Reps K (InO B ow) H ds vs → Reps K (InO B (owB is ow ow')) H' ds vs := fun {ds vs} r =>
    ((Reps.swap sw ds vs (Reps.mono (fun a o n e => maskH_some (fun z => n (.inr z)) e) (fun _ z => z) ds vs r)).up (show Same (maskH ow H) (B.at (owF is ow) H).H0 from m1)).up S'.base
  have okH' : ∀ q ∈ cs, CelOk K (InO B (owB is ow ow')) H' q.1 q.2 := fun q hq => (hi.cel_ok S q hq).via r0 (keep q.1 (List.mem_map.mpr ⟨q, hq, rfl⟩))
  have f1 : ∀ d v, Fre cs d → Rep K (InO (B.at (owF is ow) H) ow') H' d v → Rep K (InO B (owB is ow ow')) H' d v := fun d v f r => rep_free inn (fun q hq => ⟨_, okH' q hq⟩) d v f r
  have f2 : ∀ d v, Fres cs d → Reps K (InO (B.at (owF is ow) H) ow') H' d v → Reps K (InO B (owB is ow ow')) H' d v := fun d v f r => reps_free inn (fun q hq => ⟨_, okH' q hq⟩) d v f r
  have noin : ∀ j a, j ∉ is → ow' j = some a → a ∉ adC cs := fun j a _ e z => by
    obtain ⟨o, eo⟩ := celH a z
    have := (S'.sep j a e).1
    rw [st a z o eo] at this
    cases this
  have adin : ∀ i a, i ∈ is → ow i = some a → a ∈ adC cs := fun i a hj h => by
    obtain ⟨q, hq, e⟩ := hi.in_ hj
    have := (S.sl i _ e).1
    rw [h] at this
    exact List.mem_map.mpr ⟨q, hq, (Option.some.inj this).symm⟩
  refine ⟨⟨fun a o e => S'.base a o (b0 a o e), fun a h => ?_, fun i a h => ?_, fun i j a h1 h2 => ?_, by rw [putC_len]; exact S'.len, fun j s e => ?_⟩, f1, f2⟩
  · rcases inn a h with h | h
    · exact S'.live a h
    · obtain ⟨o, e⟩ := celH a h
      exact ⟨o, keep a h o e⟩
  · unfold owB at h
    split at h
    · exact S.sep i a h
    · obtain ⟨n1, n2⟩ := S'.sep i a h
      refine ⟨?_, n2⟩
      cases q : B.H0 a with
      | none => rfl
      | some o => rw [b0 a o q] at n1; cases n1
  · unfold owB at h1 h2
    split at h1
    · rename_i hi1
      split at h2
      · exact S.inj i j a h1 h2
      · rename_i hj2
        exact absurd (adin i a hi1 h1) (noin j a hj2 h2)
    · rename_i hi1
      split at h2
      · rename_i hj2
        exact absurd (adin j a hj2 h2) (noin i a hi1 h1)
      · exact S'.inj i j a h1 h2
  · rcases putC_get hi.len e with ⟨k, q, h1, h2, rfl⟩ | ⟨n1, e⟩
    · obtain ⟨q', c1, c2⟩ := hi.get h1
      rw [h2] at c1
      cases c1
      refine ⟨?_, okH' q (List.mem_of_getElem? h2)⟩
      unfold owB
      rw [if_pos (List.mem_of_getElem? h1)]
      exact (S.sl j _ c2).1
    · have hf := fr s (List.mem_of_getElem? e)
      have h := S'.sl j s e
      have e0 : owB is ow ow' j = ow' j := by unfold owB; rw [if_neg n1]
      cases s with
      | un => trivial
      | val d => obtain ⟨v, e1, r⟩ := h; exact ⟨v, e1, f1 d v hf r⟩
      | own ds => obtain ⟨a, vs, e1, e2, e3, r⟩ := h; exact ⟨a, vs, e1, e0.trans e2, e3, f2 ds vs hf r⟩
      | exc a => exact h
      | slf a dx C ns ds => exact hf.elim
      | cel a c => exact hf.elim
end
section
variable {X : Cx} {B : Bas} {Δ Δv : List Sl} {E : EndD} {st : Stmt} {is : List Nat} {cs : Cels}
/-- a statement that neither reads nor changes the cells -/
def unE (cs : Cels) (is : List Nat) (E : EndD) : EndD where
  nx := fun Δ' => FreL cs Δ' ∧ E.nx (putC Δ' is cs)
  rt := fun Δ' d => FreL cs Δ' ∧ Fre cs d ∧ E.rt (putC Δ' is cs) d
  bk := fun Δ' => FreL cs Δ' ∧ E.bk (putC Δ' is cs)
  ct := fun Δ' => FreL cs Δ' ∧ E.ct (putC Δ' is cs)
  xc := fun Δ' x => FreL cs Δ' ∧ Fres cs x.xs ∧ E.xc (putC Δ' is cs) x
theorem Good.un {ow : Nat → Option Addr} {σ : L2.St} {H : Hp} {De : Ends} {W : WX} (G : Good X B E De W) (S : StO X.K B Δ ow σ H) (hi : SlI Δ is cs) : Good X (B.at (owF is ow) H) (unE cs is E) De W :=
  ⟨fun Δ' ow' σ' H' h S' => G.nx _ _ σ' H' h.2 (sto_back S hi S' h.1).1,
   fun Δ' ow' σ' H' d v h S' r => let b := sto_back S hi S' h.1; G.rt _ _ σ' H' d v h.2.2 b.1 (b.2.1 d v h.2.1 r),
   fun Δ' ow' σ' H' h S' => G.bk _ _ σ' H' h.2 (sto_back S hi S' h.1).1,
   fun Δ' ow' σ' H' h S' => G.ct _ _ σ' H' h.2 (sto_back S hi S' h.1).1,
   fun Δ' ow' σ' H' x cls dd h S' r => let b := sto_back S hi S' h.1; G.xc _ _ σ' H' x cls dd h.2.2 b.1 ⟨r.1, r.2.elim .inl fun ⟨ne, d, vs, q1, q2, q3, q4⟩ => .inr ⟨ne, d, vs, q1, q2, q3, b.2.2 _ _ h.2.1 q4⟩⟩⟩
variable {body : List Stmt} {tg iter : Expr} {pos : Pos} {g : TG} {xs : List D}
variable {α τ : Type}
end
end Dy
namespace Dy
open PySem PySem.Spec PyProof.Rows L2
abbrev celS (cs : Cels) : List Sl := cs.map fun q => Sl.cel q.1 q.2
abbrev unS (n : Nat) : List Sl := List.replicate n .un
/-- a making's cells: the object first -/
def adF (l : List Addr) : Nat → Addr := fun k => l.getD k default
section
variable {X : Cx} {B : Bas} {Δ Δ2 Δv : List Sl} {E : EndD} {st : Stmt} {rest : List Stmt} {e o a b : Expr} {es : List Expr} {d d2 : D} {ds xs : List D} {pos apos cpos tpos pos' p spos : Pos} {i j k : Nat} {C q : Addr} {ns : List Str} {f m x : Str} {cs c : Cels} {is js : List Nat} {R : RlG}
theorem Js.eq (h : Δ = Δ2) (k : Js X B Δ2 rest E) : Js X B Δ rest E := h ▸ k
end
def FreE {α : Type} (cs : Cels) (en : α → D) : Prop := ∀ v, Fre cs (en v)
section
variable {α β : Type} {cs : Cels} {en : α → D} {e2 : β → D}
theorem fre_int : FreE cs D.int := fun _ => trivial
theorem fre_pair (h1 : FreE cs en) (h2 : FreE cs e2) : FreE cs (eP en e2) := fun p => ⟨h1 p.1, h2 p.2, trivial⟩
theorem fre_map (h : FreE cs en) : ∀ l : List α, Fres cs (l.map en)
  | [] => trivial
  | a :: l => ⟨h a, fre_map h l⟩
theorem fre_Q (h : FreE cs en) : FreE cs (eQ en) := fun l => fre_map h l
end
end Dy
namespace Dy
open PySem PySem.Spec PyProof.Rows L2
theorem JXW.imp {X : Cx} {B : Bas} {Δ : List Sl} {e : Expr} {P P' : List Sl → Bool → Prop} (h : JXW X B Δ e P) (i : ∀ Δ b, P Δ b → P' Δ b) : JXW X B Δ e P' := fun ow σ H Q W tk S q => h ow σ H Q W tk S fun Δ' ow' b H' p => q Δ' ow' b H' (i _ _ p)
end Dy
namespace Dy
open PySem PySem.Spec PyProof.Rows L2
end Dy
namespace Dy
open PySem PySem.Spec PyProof.Rows L2
/-- alike but for a dict's lock -/
def LockR (O : Addr → Prop) (H H' : Hp) : Prop := ∀ a o, ¬ O a → H a = some o → H' a = some o ∨ (∃ kvs, o = .dK kvs ∧ ∃ od, H' a = some (.frz od (.dK kvs))) ∨ ∃ kvs od, o = .frz od (.dK kvs) ∧ H' a = some (.dK kvs)
section
variable {K : PySem.W.Frag} {O : Addr → Prop} {H H' : Hp}
theorem LockR.refl : LockR O H H := fun a o _ e => .inl e
theorem LockR.tup {a : Addr} {vs : List V} (s : LockR O H H') (n : ¬ O a) (q : SqT K H a vs) : SqT K H' a vs := by
  rcases q with (q | ⟨o, q⟩) | q
  · rcases s a _ n q with h | ⟨_, h, _⟩ | ⟨_, _, h, _⟩
    · exact .inl (.inl h)
    · cases h
    · cases h
  · rcases s a _ n q with h | ⟨_, h, _⟩ | ⟨_, _, h, _⟩
    · exact .inl (.inr ⟨o, h⟩)
    · cases h
    · cases h
  · exact .inr q
theorem LockR.lst {a : Addr} {vs : List V} (s : LockR O H H') (n : ¬ O a) (q : SqL K H a vs) : SqL K H' a vs := by
  rcases q with (q | ⟨o, q⟩) | q
  · rcases s a _ n q with h | ⟨_, h, _⟩ | ⟨_, _, h, _⟩
    · exact .inl (.inl h)
    · cases h
    · cases h
  · rcases s a _ n q with h | ⟨_, h, _⟩ | ⟨_, _, h, _⟩
    · exact .inl (.inr ⟨o, h⟩)
    · cases h
    · cases h
  · exact .inr q
theorem LockR.at {a : Addr} {o : HO} (s : LockR O H H') (n : ¬ O a) (q : H a = some o) (h1 : ∀ kvs, o ≠ .dK kvs) (h2 : ∀ od kvs, o ≠ .frz od (.dK kvs)) : H' a = some o := by
  rcases s a _ n q with h | ⟨_, h, _⟩ | ⟨_, _, h, _⟩
  · exact h
  · exact absurd h (h1 _)
  · exact absurd h (h2 _ _)
theorem LockR.dic {a : Addr} {kvs : List (Key × V)} (s : LockR O H H') (n : ¬ O a) (q : Rd H a (.dK kvs)) : Rd H' a (.dK kvs) := by
  rcases q with q | ⟨o, q⟩
  · rcases s a _ n q with h | ⟨_, h, od, e⟩ | ⟨_, _, h, e⟩
    · exact .inl h
    · cases h; exact .inr ⟨od, e⟩
    · cases h
  · rcases s a _ n q with h | ⟨_, h, _⟩ | ⟨_, _, h, e⟩
    · exact .inr ⟨o, h⟩
    · cases h
    · cases h; exact .inl e
end
section
variable {X : Cx} {B : Bas} {Δ : List Sl} {e elt tg iter : Expr} {ifs : List Expr} {scope : Scope} {pos : Pos} {d : D} {α : Type} {en : α → D} {l : List (Str × α)}
/-- an expression whose value's address is known ahead -/
def DetV (X : Cx) (Δ : List Sl) (e : Expr) (d : D) : Prop := ∃ td, PE X e td ∧ ∀ (B : Bas) (ow : Nat → Option Addr) (σ : L2.St) (H : Hp), StO X.K B Δ ow σ H → ∃ v, Rep X.K (InO B ow) H d v ∧ ∀ H' (Q : VK), LockR (InO B ow) H H' → Q v H' → td σ H' Q
theorem DetV.to (y : D) {x : D} (h : DetV X Δ e x) (q : x = y) : DetV X Δ e y := q ▸ h
end
end Dy
namespace Dy
open PySem PySem.Spec PyProof.Rows L2
theorem reps_adrs {K : PySem.W.Frag} {O : Addr → Prop} {H : Hp} : ∀ {as : List Addr} {vs : List V}, Reps K O H (as.map D.adr) vs → vs = as.map V.ref
  | [], vs, h => Reps.nil_inv h
  | n :: ns, vs, h => by
    obtain ⟨v, vs', rfl, r, h'⟩ := Reps.cons_inv h
    rw [rep_adr r, reps_adrs h']
    rfl
section
variable {X : Cx} {B : Bas} {Δ : List Sl} {E : EndD} {body : List Stmt} {tg iter : Expr} {pos : Pos} {τ : Type} {g : TG}
theorem js_forAd (as : List Addr) (j : Nat) {a0 : Addr} (f : Nat → List Sl → List Sl) (Iv : Nat → List Sl → Prop) (hi : JV X B Δ iter (.adr a0)) (hj : ∀ i Δ', Iv i Δ' → Δ'[j]? = some (.cel a0 (.lst (as.map D.adr)))) {is : List Nat} (gd : ∀ i a, as[i]? = some a → GD X.K g (.adr a) (f i) is) (h0 : Wk (Iv 0) Δ)
    (turn : ∀ (B' : Bas) (i : Nat) (a : Addr) (Δ' : List Sl), as[i]? = some a → Iv i Δ' → Js X B' (f i Δ') body { nx := Wk (Iv (i + 1)), ct := Wk (Iv (i + 1)), bk := E.nx, rt := E.rt, xc := E.xc })
    (done : ∀ Δ', Iv as.length Δ' → E.nx Δ') (po : PassesOwn (model X.prog X.w) X.A X.env X.xe) (hc : X.calm = true) (hg : PG X tg g) (hs : ∀ x, foldedSetIterable iter X.env x = pure x := by intro _; rfl) : JS X B Δ (.For tg iter body [] pos) E := fun ow σ H De W tk S G =>
  ws_of (ps_for po hc (pi_list peW) hg pssW hs) (hi.use tk S fun v H1 s1 r1 => by
    obtain rfl := rep_adr r1
    obtain ⟨Δ0, l0, h0⟩ := h0
    have S1 := (S.up s1).weak l0
    have G1 := G.reb S1
    have look : ∀ {B' : Bas} {i : Nat} {Δ' : List Sl} {ow' : Nat → Option Addr} {σ' : L2.St} {H' : Hp}, Iv i Δ' → StO X.K B' Δ' ow' σ' H' → H' a0 = some (.lst (as.map V.ref)) := fun iv S' => by
      obtain ⟨_, vs, e, r⟩ := S'.sl j _ (hj _ _ iv)
      rw [reps_adrs r] at e
      exact e
    refine ⟨a0, rfl, ⟨as.map V.ref, SqL.of (look h0 S1)⟩, for_list (xs := as.map V.ref) (fun i σ' H' => ∃ Δ' ow', Iv i Δ' ∧ StO X.K (B.at ow H1) Δ' ow' σ' H') ⟨Δ0, ow, h0, S1.fresh⟩ (fun i σ' H' _ ⟨Δ', ow', iv, S'⟩ => SqL.of (look iv S')) ?_ ?_⟩
    · rintro i v σ' H' hv ⟨Δ', ow', iv, S'⟩
      rw [List.getElem?_map] at hv
      cases q : as[i]? with
      | none => rw [q] at hv; cases hv
      | some a =>
        rw [q] at hv
        cases hv
        exact gd i _ q _ Δ' ow' σ' H' _ _ S' adr_rep fun σ2 S2 _ => turn _ i _ Δ' q iv ow' σ2 H' _ W tk S2
          ⟨fun Δ2 ow2 σ3 H3 ⟨Δ3, l, h⟩ S3 => ⟨Δ3, ow2, h, S3.weak l⟩, G1.rt, fun Δ2 ow2 σ3 H3 h S3 => G1.nx Δ2 ow2 σ3 H3 h S3, fun Δ2 ow2 σ3 H3 ⟨Δ3, l, h⟩ S3 => ⟨Δ3, ow2, h, S3.weak l⟩, G1.xc⟩
    · rintro σ' H' ⟨Δ', ow', iv, S'⟩
      rw [List.length_map] at iv
      exact G1.nx Δ' ow' σ' H' (done Δ' iv) S')
/-- for x in [a, b], both objects that change -/
theorem js_overA2 (a b : Addr) (j : Nat) {a0 : Addr} (f : Addr → List Sl → List Sl) (Δs : Nat → τ → List Sl) (Iv : Nat → τ → Prop) (s0 : τ) (hi : JV X B Δ iter (.adr a0)) {is : List Nat} (tgt : Tgt X tg D.adr f is)
    (hj : ∀ i s, (Δs i s)[j]? = some (.cel a0 (.lst [.adr a, .adr b]))) (h0 : Iv 0 s0) (l0 : Le Δ (Δs 0 s0))
    (t1 : ∀ (B' : Bas) (s : τ), Iv 0 s → Js X B' (f a (Δs 0 s)) body { nx := fun Δ2 => ∃ s, Iv 1 s ∧ Le Δ2 (Δs 1 s), ct := fun Δ2 => ∃ s, Iv 1 s ∧ Le Δ2 (Δs 1 s), bk := E.nx, rt := E.rt, xc := E.xc })
    (t2 : ∀ (B' : Bas) (s : τ), Iv 1 s → Js X B' (f b (Δs 1 s)) body { nx := fun Δ2 => ∃ s, Iv 2 s ∧ Le Δ2 (Δs 2 s), ct := fun Δ2 => ∃ s, Iv 2 s ∧ Le Δ2 (Δs 2 s), bk := E.nx, rt := E.rt, xc := E.xc })
    (done : ∀ s, Iv 2 s → E.nx (Δs 2 s)) (po : PassesOwn (model X.prog X.w) X.A X.env X.xe) (hc : X.calm = true) (hs : ∀ x, foldedSetIterable iter X.env x = pure x := by intro _; rfl) : JS X B Δ (.For tg iter body [] pos) E := by
  obtain ⟨g, hg, gd⟩ := tgt
  refine js_forAd [a, b] j (fun i => ([a, b][i]?).elim id f) (fun i Δ' => ∃ s, Iv i s ∧ Δ' = Δs i s) hi (fun i Δ' ⟨s, _, e⟩ => by rw [e]; exact hj i s) (fun i d hd => by rw [hd]; exact gd d) ⟨_, l0, s0, h0, rfl⟩ (fun B' i d Δ' hd iv => ?_) (fun Δ' iv => ?_) po hc hg hs
  · obtain ⟨s, iv, rfl⟩ := iv
    match i, hd with
    | 0, hd =>
      exact (t1 B' s iv).to (fun Δ2 ⟨s, q1, q2⟩ => ⟨_, q2, s, q1, rfl⟩) (fun Δ2 ⟨s, q1, q2⟩ => ⟨_, q2, s, q1, rfl⟩) rfl rfl rfl
    | 1, hd =>
      exact (t2 B' s iv).to (fun Δ2 ⟨s, q1, q2⟩ => ⟨_, q2, s, q1, rfl⟩) (fun Δ2 ⟨s, q1, q2⟩ => ⟨_, q2, s, q1, rfl⟩) rfl rfl rfl
  · obtain ⟨s, iv, rfl⟩ := iv
    exact done s iv
end
end Dy
namespace Dy
open PySem PySem.Spec PyProof.Rows L2
theorem fn_to0 {P : Program} {w : World} {K : PySem.W.Frag} {mg : Str → Option Value} {base : Heap} {k : Nat} {f : Addr} {fd : FuncData} {ps : List Str} {sp : Sp} (F : FnOk P w K mg base (L2.CX P w) k f fd ps sp) :
    FnOk P w K mg base CX0 k f fd ps (fun vs H Q _ => sp vs H Q fun _ _ _ => False) := by
  refine ⟨fun vs H Q E h => F.len _ _ _ _ h, fun A outer s H args us vs Q E hr he hb hv hs => ?_⟩
  refine codeAny_mono (F.run A outer s H args us vs Q _ hr he hb hv hs) fun r s' q => ?_
  cases r with
  | ok fl => cases fl <;> exact q
  | error e =>
    obtain ⟨_, _, _, _, _, _, _, _, _, _, _, _, z⟩ := (show L2.CX P w outer H s (fun _ _ _ => False) e s' from q)
    exact z.elim
theorem law_end {l : PySem.W.OpenLaw} {k : Nat} {q : Program} {loose : List Str} {XP : (Str → Option Value) → Heap → Prop} {YP : World → Heap → Prop} {d : DefRec} {x : Str} {R : PySem.W.Frag → Rl}
    (hn : l.most = some 63) (hdf : d.params.defaults = []) (hr : Room k callerA)
    (F : ∀ (w : World) (mg : Str → Option Value) (fa : Addr) (h : Heap), YP w h → h.Ns mainGlobals mg → mg d.name = some (.ref fa) →
      ∃ (K : PySem.W.Frag) (fd : FuncData), K.In h ∧ (∀ (s : Shared) (u : Value), BindsTo s fd ⟨[u], []⟩ [(x, u)]) ∧ (∀ ns : List Int, ns.length ≤ 63 → R K [.scr ns] (.ok (.bl true))) ∧
        ∀ base : Heap, K.In base → base.Ns mainGlobals mg → FnOk l.prog w K mg base (L2.CX l.prog w) k fa fd [x] (spR K (R K))) :
    PySem.W.WalkO q loose XP YP l.row.toRowW d [] (fun f vs => PySem.call f vs) := by
  refine L2.walk_ofE (n := 63) (k := k) (x := x) (CX := CX0) hn (by decide) hdf hr (fun w mg fa h Y G hm => ?_) fun _ _ _ _ z => z
  obtain ⟨K, fd, KX, hb, hR, hF⟩ := F w mg fa h Y G hm
  refine ⟨K, fd, _, KX, hb, fun H a ns hl _ hS => ?_, fun base h1 h2 => fn_to0 (hF base h1 h2)⟩
  exact ⟨fun _ => False, [.scr ns], _, fun _ z => z.elim, Reps.cons (scr_rep (.inl ⟨fun z => z, hS⟩)) Reps.nil, hR ns hl, fun v H' _ r => rep_bl r⟩
/-- a def of the text, from the head's facts -/
theorem fun_ofD {K : PySem.W.Frag} {x qual : Str} {st : Stmt} {f : Addr} {fd : FuncData} {kws : List (Str × V)} (F : L2.FunD K x qual (L2.defArgs st) (L2.defBody st) (L2.defScope st) [] kws f fd) : L2.Fun K x qual st f fd := He5.fun_of F
end Dy
namespace Dy
open PySem PySem.Spec PyProof.Rows L2
open HandSHeadRun He
end Dy
namespace My
open PySem PySem.Spec PyProof.Rows L2 Dy
def cell (ns : List Int) (k : Int) : Int := if k < ns.length then nth ns k else 0
def digits : Int → List Int → List Int
  | _, [] => []
  | c, s :: r => c % s :: digits (c / s) r
def rich (c : Int) : Int := if 10 ^ 18 ≤ c then c else
  ((c * 48271 + 11) % 2147483647) * 2147483629 + (((c * 48271 + 11) % 2147483647) * 69621 + c / 7 + 5) % 2147483629
theorem digits_len : ∀ (c : Int) (l : List Int), (digits c l).length = l.length
  | _, [] => rfl
  | c, s :: r => by simp [digits, digits_len]
theorem digits_at : ∀ (l : List Int) (c : Int) (i : Nat), i < l.length → (∀ s ∈ l, 0 < s) → 0 ≤ (digits c l).getD i 0 ∧ (digits c l).getD i 0 < l.getD i 0
  | [], c, i, h, _ => by simp at h
  | s :: r, c, 0, _, hs => by
    have := hs s (by simp)
    simp only [digits, List.getD_cons_zero]
    exact ⟨Int.emod_nonneg _ (by omega), Int.emod_lt_of_pos _ this⟩
  | s :: r, c, i + 1, h, hs => by
    simp only [digits, List.getD_cons_succ]
    exact digits_at r _ i (by simpa using h) fun x hx => hs x (by simp [hx])
theorem nth_getD (l : List Int) (i : Nat) : nth l (i : Int) = l.getD i 0 := by simp [nth]
theorem digits_nth (l : List Int) (c : Int) (i : Nat) (h : i < l.length) (hs : ∀ s ∈ l, 0 < s) : 0 ≤ nth (digits c l) (i : Int) ∧ nth (digits c l) (i : Int) < l.getD i 0 := by
  rw [nth_getD]
  exact digits_at l c i h hs
end My
namespace My
open PySem PySem.Spec PyProof.Rows L2 Dy
abbrev Pr := Int × Int
def mrg : Pr → List Pr → List Pr
  | c, [] => [c]
  | c, p :: r => if p.1 ≤ c.2 then mrg (c.1, max c.2 p.2) r else c :: mrg p r
def mergedF (ps : List Pr) : List Pr := match sortP ps with
  | [] => []
  | p :: r => mrg p r
def rowSt (d : List Int) : Nat → List Pr × Int
  | 0 => ([], nth d 9 % 3 - 1)
  | k + 1 =>
    let b := (rowSt d k).2 + nth d (1 + 2 * (k : Int)) * (1 + nth d (2 + 2 * (k : Int)) / 3)
    ((rowSt d k).1 ++ [(max 0 b, max 0 b + 1 + nth d (2 + 2 * (k : Int)))], b + nth d (2 + 2 * (k : Int)))
def rowF (c bound : Int) : List Pr :=
  let d := digits (rich c) [5, 12, 7, 12, 7, 12, 7, 12, 7, 4]
  (rowSt d (nth d 0).toNat).1.filter fun r => decide (r.2 ≤ bound)
def tidyGo (hi : Int) : Int → List Pr → Bool
  | _, [] => true
  | past, p :: r => if past < p.1 ∧ p.1 < p.2 ∧ p.2 ≤ hi then tidyGo hi p.2 r else false
def tidyF (ps : List Pr) (lo hi : Int) : Bool := tidyGo hi (lo - 1) ps
def hitF (ps : List Pr) (t : Int) : Bool := ps.any fun r => decide (r.1 ≤ t) && decide (t < r.2)
def Wf (lo hi : Int) (ps : List Pr) : Prop := ∀ r ∈ ps, lo ≤ r.1 ∧ r.1 < r.2 ∧ r.2 ≤ hi
theorem rowSt_len (d : List Int) : ∀ k, (rowSt d k).1.length = k
  | 0 => rfl
  | k + 1 => by simp [rowSt, rowSt_len d k]
theorem rowSt_wf (d : List Int) : ∀ k, (∀ i : Nat, i < k → 0 ≤ nth d (2 + 2 * (i : Int))) → ∀ r ∈ (rowSt d k).1, 0 ≤ r.1 ∧ r.1 < r.2
  | 0, _ => by simp [rowSt]
  | k + 1, h => by
    intro r hr
    simp only [rowSt, List.mem_append, List.mem_singleton] at hr
    rcases hr with hr | hr
    · exact rowSt_wf d k (fun i hi => h i (by omega)) r hr
    · have := h k (by omega)
      subst hr
      simp only
      omega
theorem row_dig (c : Int) : let d := digits (rich c) [5, 12, 7, 12, 7, 12, 7, 12, 7, 4]; 0 ≤ nth d 0 ∧ nth d 0 < 5 ∧ ∀ i : Nat, i < 4 → 0 ≤ nth d (2 + 2 * (i : Int)) ∧ nth d (2 + 2 * (i : Int)) < 12 := by
  intro d
  have h := fun i h => digits_nth [5, 12, 7, 12, 7, 12, 7, 12, 7, 4] (rich c) i h (by decide)
  refine ⟨(h 0 (by decide)).1, (h 0 (by decide)).2, fun i hi => ?_⟩
  have h1 := h (2 + 2 * i) (by simp; omega)
  have h2 : ([5, 12, 7, 12, 7, 12, 7, 12, 7, 4] : List Int).getD (2 + 2 * i) 0 ≤ 12 := by
    rcases i with _ | _ | _ | _ | i
    · decide
    · decide
    · decide
    · decide
    · omega
  have e : ((2 + 2 * i : Nat) : Int) = 2 + 2 * (i : Int) := by omega
  rw [e] at h1
  exact ⟨h1.1, Int.lt_of_lt_of_le h1.2 h2⟩
theorem rowF_wf (c bound : Int) : Wf 0 bound (rowF c bound) ∧ (rowF c bound).length ≤ 4 := by
  obtain ⟨h1, h2, h3⟩ := row_dig c
  refine ⟨fun r hr => ?_, ?_⟩
  · simp only [rowF, List.mem_filter, decide_eq_true_eq] at hr
    have := rowSt_wf _ _ (fun i hi => (h3 i (by omega)).1) r hr.1
    omega
  · refine Nat.le_trans (List.length_filter_le _ _) ?_
    rw [rowSt_len]
    omega
theorem Wf.mono {lo hi lo' hi' : Int} {ps : List Pr} (h : Wf lo hi ps) (h1 : lo' ≤ lo) (h2 : hi ≤ hi') : Wf lo' hi' ps := fun r hr => by
  have := h r hr
  omega
theorem Wf.app {lo hi : Int} {ps qs : List Pr} (h : Wf lo hi ps) (h2 : Wf lo hi qs) : Wf lo hi (ps ++ qs) := fun r hr => by
  rcases List.mem_append.mp hr with hr | hr
  · exact h r hr
  · exact h2 r hr
theorem Wf.sub {lo hi : Int} {ps qs : List Pr} (h : Wf lo hi ps) (s : ∀ r ∈ qs, r ∈ ps) : Wf lo hi qs := fun r hr => h r (s r hr)
theorem Wf.shift {lo hi : Int} {ps : List Pr} (h : Wf lo hi ps) (by_ : Int) : Wf (lo + by_) (hi + by_) (ps.map fun a => (a.1 + by_, a.2 + by_)) := fun r hr => by
  obtain ⟨q, hq, rfl⟩ := List.mem_map.mp hr
  have := h q hq
  simp only
  omega
/-- the starts do not fall -/
def Asc (x : Int) : List Pr → Prop
  | [] => True
  | p :: r => x ≤ p.1 ∧ Asc p.1 r
theorem asc_of : ∀ {l : List Pr} {x : Int}, (∀ p ∈ l, x ≤ p.1) → (l.Pairwise fun a b => leP a b = true) → Asc x l
  | [], _, _, _ => trivial
  | p :: r, x, h, s => by
    refine ⟨h p (by simp), asc_of (fun q hq => ?_) (List.pairwise_cons.mp s).2⟩
    have := (List.pairwise_cons.mp s).1 q hq
    rw [leP_iff] at this
    omega
theorem mrg_tidy {hi : Int} : ∀ (l : List Pr) (c : Pr) (past : Int), past < c.1 → c.1 < c.2 → c.2 ≤ hi → (∀ r ∈ l, r.1 < r.2 ∧ r.2 ≤ hi) → tidyGo hi past (mrg c l) = true
  | [], c, past, h1, h2, h3, _ => by
    rw [mrg, tidyGo, if_pos ⟨h1, h2, h3⟩]
    rfl
  | p :: r, c, past, h1, h2, h3, h4 => by
    have hp := h4 p (by simp)
    rw [mrg]
    split
    · exact mrg_tidy r _ past h1 (by simp only; omega) (by simp only; omega) fun q hq => h4 q (by simp [hq])
    · rw [tidyGo, if_pos ⟨h1, h2, h3⟩]
      exact mrg_tidy r p c.2 (by omega) hp.1 hp.2 fun q hq => h4 q (by simp [hq])
theorem hit_cons (p : Pr) (l : List Pr) (t : Int) : hitF (p :: l) t = ((decide (p.1 ≤ t) && decide (t < p.2)) || hitF l t) := by simp [hitF]
theorem mrg_hit (t : Int) : ∀ (l : List Pr) (c : Pr), c.1 < c.2 → Asc c.1 l → (∀ r ∈ l, r.1 < r.2) → hitF (mrg c l) t = hitF (c :: l) t
  | [], c, _, _, _ => rfl
  | p :: r, c, h1, h2, h3 => by
    rw [mrg]
    have hp := h3 p (by simp)
    split
    · rename_i hle
      rw [mrg_hit t r _ (by simp only; omega) (by
        show Asc c.1 r
        have h2' := h2.2
        cases r with
        | nil => trivial
        | cons q r => exact ⟨by have := h2'.1; have := h2.1; omega, h2'.2⟩) fun q hq => h3 q (by simp [hq])]
      rw [hit_cons, hit_cons, hit_cons, ← Bool.or_assoc]
      congr 1
      have := h2.1
      rw [Bool.eq_iff_iff]
      simp only [Bool.or_eq_true, Bool.and_eq_true, decide_eq_true_eq]
      omega
    · rw [hit_cons, mrg_hit t r p hp h2.2 fun q hq => h3 q (by simp [hq]), ← hit_cons]
theorem hit_perm {l m : List Pr} (h : l.Perm m) (t : Int) : hitF l t = hitF m t := by
  rw [Bool.eq_iff_iff]
  simp only [hitF, List.any_eq_true]
  exact ⟨fun ⟨x, hx, e⟩ => ⟨x, h.mem_iff.mp hx, e⟩, fun ⟨x, hx, e⟩ => ⟨x, h.mem_iff.mpr hx, e⟩⟩
theorem merged_hit {lo hi : Int} {ps : List Pr} (h : Wf lo hi ps) (t : Int) : hitF (mergedF ps) t = hitF ps t := by
  have hp := sortP_perm ps
  have hs := sortP_srt ps
  rw [← hit_perm hp t, mergedF]
  cases e : sortP ps with
  | nil => rfl
  | cons p r =>
    rw [e] at hp hs
    have w : ∀ q ∈ p :: r, q.1 < q.2 := fun q hq => (h q (hp.mem_iff.mp hq)).2.1
    exact mrg_hit t r p (w p (by simp)) (asc_of (fun q hq => by
      have := (List.pairwise_cons.mp hs).1 q hq
      rw [leP_iff] at this
      omega) (List.pairwise_cons.mp hs).2) fun q hq => w q (by simp [hq])
theorem merged_tidy {lo hi : Int} {ps : List Pr} (h : Wf lo hi ps) : tidyF (mergedF ps) lo hi = true := by
  have hp := sortP_perm ps
  rw [tidyF, mergedF]
  cases e : sortP ps with
  | nil => rfl
  | cons p r =>
    rw [e] at hp
    have w := fun q (hq : q ∈ p :: r) => h q (hp.mem_iff.mp hq)
    have := w p (by simp)
    exact mrg_tidy r p _ (by omega) this.2.1 this.2.2 fun q hq => (w q (by simp [hq])).2
theorem tidy_srt {hi : Int} : ∀ (l : List Pr) (past : Int), tidyGo hi past l = true → (∀ p ∈ l, past < p.1 ∧ p.1 < p.2 ∧ p.2 ≤ hi) ∧ l.Pairwise (fun a b => leP a b = true)
  | [], _, _ => by simp
  | p :: r, past, h => by
    rw [tidyGo] at h
    split at h
    · rename_i hc
      obtain ⟨h1, h2⟩ := tidy_srt r p.2 h
      refine ⟨fun q hq => ?_, List.pairwise_cons.mpr ⟨fun q hq => ?_, h2⟩⟩
      · rcases List.mem_cons.mp hq with rfl | hq
        · exact hc
        · have := h1 q hq
          omega
      · have := h1 q hq
        rw [leP_iff]
        omega
    · cases h
theorem mrg_len : ∀ (l : List Pr) (c : Pr), (mrg c l).length ≤ l.length + 1
  | [], c => by simp [mrg]
  | p :: r, c => by
    rw [mrg]
    split
    · have := mrg_len r (c.1, max c.2 p.2)
      simp only [List.length_cons]
      omega
    · have := mrg_len r p
      simp only [List.length_cons]
      omega
theorem merged_len (ps : List Pr) : (mergedF ps).length ≤ ps.length := by
  have hp := (sortP_perm ps).length_eq
  rw [mergedF]
  cases e : sortP ps with
  | nil => simp
  | cons p r =>
    have := mrg_len r p
    rw [e, List.length_cons] at hp
    show (mrg p r).length ≤ _
    omega
theorem last_eq {l : List Pr} {i : List Pr} {c : Pr} (h : l = i ++ [c]) : nth l (l.length + -1) = c := by
  have e : (((l.length : Nat) : Int) + -1).toNat = i.length := by rw [h]; simp; omega
  rw [nth, e, h]
  simp
def MI (ps rows pre : List Pr) : Prop := (rows = [] ∧ pre = []) ∨ ∃ i0 c0, rows = i0 ++ [c0] ∧ i0.length < pre.length ∧ ∀ post, sortP ps = pre ++ post → mergedF ps = i0 ++ mrg c0 post
theorem MI.len {ps rows pre : List Pr} (h : MI ps rows pre) : rows.length ≤ pre.length := by
  rcases h with ⟨h, _⟩ | ⟨i0, c0, h, hl, _⟩ <;> rw [h] <;> simp <;> omega
theorem mi_app {ps rows pre post0 : List Pr} {a : Pr} (h : MI ps rows pre) (e : sortP ps = pre ++ a :: post0) (c : ¬ (rows ≠ [] ∧ a.1 ≤ (nth rows (rows.length + -1)).2)) : MI ps (rows ++ [(a.1, a.2)]) (pre ++ [a]) := by
  have eta : (a.1, a.2) = a := rfl
  rcases h with ⟨rfl, rfl⟩ | ⟨i0, c0, h, hl, hh⟩
  · refine .inr ⟨[], a, by rw [eta], by simp, fun post ep => ?_⟩
    rw [mergedF, ep]
    rfl
  · refine .inr ⟨rows, a, by rw [eta], by rw [h]; simp; omega, fun post ep => ?_⟩
    rw [List.append_assoc] at ep
    rw [hh _ ep, List.singleton_append, mrg, if_neg, h]
    · simp
    · intro z
      exact c ⟨by rw [h]; simp, by rw [last_eq h]; exact z⟩
theorem mi_set {ps rows pre post0 : List Pr} {a : Pr} {j : Nat} (h : MI ps rows pre) (e : sortP ps = pre ++ a :: post0) (c : rows ≠ [] ∧ a.1 ≤ (nth rows (rows.length + -1)).2) (hj : j = (-1 + (rows.length : Int)).toNat) :
    MI ps (rows.set j ((nth rows (rows.length + -1)).1, max (nth rows (rows.length + -1)).2 a.2)) (pre ++ [a]) := by
  rcases h with ⟨rfl, rfl⟩ | ⟨i0, c0, h, hl, hh⟩
  · exact absurd rfl c.1
  · rw [last_eq h] at c ⊢
    refine .inr ⟨i0, (c0.1, max c0.2 a.2), ?_, by simp; omega, fun post ep => ?_⟩
    · have ej : j = i0.length := by rw [hj, h]; simp; omega
      rw [h, ej]
      simp
    · rw [List.append_assoc] at ep
      rw [hh _ ep, List.singleton_append, mrg, if_pos c.2]
theorem mi_done {ps rows : List Pr} (h : MI ps rows (sortP ps)) : mergedF ps = rows := by
  rcases h with ⟨h, e⟩ | ⟨i0, c0, h, hl, hh⟩
  · rw [h, mergedF, e]
  · rw [hh [] (by simp), h]
    rfl
end My
namespace My
open PySem PySem.Spec PyProof.Rows L2 Dy
def cutF : List Pr → Int → Int → List Pr
  | [], _, _ => []
  | p :: r, a, b => if max p.1 a < min p.2 b then (max p.1 a, min p.2 b) :: cutF r a b else cutF r a b
def gapsGo (b : Int) : Int → List Pr → List Pr
  | free, [] => if free < b then [(free, b)] else []
  | free, p :: r => if free < p.1 then (free, p.1) :: gapsGo b p.2 r else gapsGo b p.2 r
def gapsF (ps : List Pr) (a b : Int) : List Pr := gapsGo b a (cutF ps a b)
def comF : List Pr → List Pr → List Pr
  | [], _ => []
  | _ :: _, [] => []
  | p :: r, q :: s => (if max p.1 q.1 < min p.2 q.2 then [(max p.1 q.1, min p.2 q.2)] else []) ++ (if p.2 < q.2 then comF r (q :: s) else comF (p :: r) s)
termination_by l m => l.length + m.length
theorem tidyGo_cons {hi past : Int} {p : Pr} {r : List Pr} : tidyGo hi past (p :: r) = true ↔ (past < p.1 ∧ p.1 < p.2 ∧ p.2 ≤ hi) ∧ tidyGo hi p.2 r = true := by
  rw [tidyGo]
  by_cases c : past < p.1 ∧ p.1 < p.2 ∧ p.2 ≤ hi
  · rw [if_pos c]
    exact ⟨fun h => ⟨c, h⟩, fun h => h.2⟩
  · rw [if_neg c]
    exact ⟨fun h => absurd h Bool.false_ne_true, fun h => absurd h.1 c⟩
theorem hit_lo {hi t : Int} : ∀ {l : List Pr} {past : Int}, tidyGo hi past l = true → hitF l t = true → past < t ∧ t < hi
  | [], _, _, h => by cases h
  | p :: r, past, h, g => by
    rw [tidyGo_cons] at h
    rw [hit_cons, Bool.or_eq_true, Bool.and_eq_true, decide_eq_true_eq, decide_eq_true_eq] at g
    rcases g with g | g
    · omega
    · have := hit_lo h.2 g
      omega
theorem cut_len : ∀ (l : List Pr) (a b : Int), (cutF l a b).length ≤ l.length
  | [], _, _ => by simp [cutF]
  | p :: r, a, b => by
    have := cut_len r a b
    rw [cutF]
    split <;> simp only [List.length_cons] <;> omega
theorem cut_tidy {hi a b : Int} : ∀ (l : List Pr) (past past' : Int), tidyGo hi past l = true → (past' < a ∨ past' ≤ past) → tidyGo b past' (cutF l a b) = true
  | [], _, _, _, _ => rfl
  | p :: r, past, past', h, hp => by
    rw [tidyGo_cons] at h
    rw [cutF]
    split
    · rw [tidyGo_cons]
      exact ⟨by simp only; omega, cut_tidy r p.2 _ h.2 (.inr (by simp only; omega))⟩
    · exact cut_tidy r p.2 past' h.2 (hp.imp id (by omega))
theorem cut_hit (t a b : Int) : ∀ (l : List Pr), hitF (cutF l a b) t = (hitF l t && (decide (a ≤ t) && decide (t < b)))
  | [] => by simp [cutF, hitF]
  | p :: r => by
    rw [cutF]
    have ih := cut_hit t a b r
    split
    · rename_i c
      rw [hit_cons, hit_cons, ih, Bool.eq_iff_iff]
      cases hitF r t <;> simp only [Bool.or_eq_true, Bool.and_eq_true, decide_eq_true_eq, Bool.false_and, Bool.true_and, Bool.or_false, Bool.or_true, Bool.false_eq_true, or_false] <;> omega
    · rename_i c
      rw [hit_cons, ih, Bool.eq_iff_iff]
      cases hitF r t <;> simp only [Bool.or_eq_true, Bool.and_eq_true, decide_eq_true_eq, Bool.false_and, Bool.true_and, Bool.or_false, Bool.or_true, Bool.false_eq_true, false_iff] <;> omega
theorem gaps_tidy {b : Int} : ∀ (m : List Pr) (past past' free : Int), tidyGo b past m = true → free ≤ past + 1 → past' < free → tidyGo b past' (gapsGo b free m) = true
  | [], past, past', free, _, h1, h2 => by
    rw [gapsGo]
    split
    · rw [tidyGo_cons]
      exact ⟨by simp only; omega, rfl⟩
    · rfl
  | p :: r, past, past', free, h, h1, h2 => by
    rw [tidyGo_cons] at h
    rw [gapsGo]
    split
    · rw [tidyGo_cons]
      exact ⟨by simp only; omega, gaps_tidy r p.2 _ p.2 h.2 (by omega) (by simp only; omega)⟩
    · exact gaps_tidy r p.2 past' p.2 h.2 (by omega) (by omega)
theorem gaps_hit (t b : Int) : ∀ (m : List Pr) (past free : Int), tidyGo b past m = true → free ≤ past + 1 → hitF (gapsGo b free m) t = (decide (free ≤ t) && decide (t < b) && !hitF m t)
  | [], past, free, _, h1 => by
    rw [gapsGo]
    split
    · simp [hitF]
    · simp [hitF]
      omega
  | p :: r, past, free, h, h1 => by
    rw [tidyGo_cons] at h
    have ih := gaps_hit t b r p.2 p.2 h.2 (by omega)
    have hl := fun g => hit_lo (t := t) h.2 g
    rw [gapsGo]
    split
    · rw [hit_cons, hit_cons, ih, Bool.eq_iff_iff]
      cases hr : hitF r t with
      | true =>
        have := hl hr
        simp
        omega
      | false =>
        simp
        omega
    · rw [hit_cons, ih, Bool.eq_iff_iff]
      cases hr : hitF r t with
      | true =>
        have := hl hr
        simp
      | false =>
        simp
        omega
theorem gapsF_tidy {hi past : Int} {l : List Pr} {a b : Int} (h : tidyGo hi past l = true) : tidyF (gapsF l a b) a b = true :=
  gaps_tidy _ (a - 1) _ a (cut_tidy l past _ h (.inl (by omega))) (by omega) (by omega)
theorem gapsF_hit {hi past : Int} {l : List Pr} {a b : Int} (h : tidyGo hi past l = true) (t : Int) : hitF (gapsF l a b) t = (decide (a ≤ t) && decide (t < b) && !hitF l t) := by
  rw [gapsF, gaps_hit t b _ (a - 1) a (cut_tidy l past _ h (.inl (by omega))) (by omega), cut_hit]
  cases hitF l t <;> simp
/-- tidy rows of the same instants are one -/
theorem tidy_ext {hi hi' : Int} : ∀ (l m : List Pr) (past past' : Int), tidyGo hi past l = true → tidyGo hi' past' m = true → (∀ t, hitF l t = hitF m t) → l = m
  | [], [], _, _, _, _, _ => rfl
  | [], q :: s, _, past', _, h, e => by
    have := e q.1
    rw [tidyGo_cons] at h
    rw [hit_cons] at this
    have h1 : decide (q.1 ≤ q.1) = true := by simp
    have h2 : decide (q.1 < q.2) = true := by simp; omega
    rw [h1, h2] at this
    simp [hitF] at this
  | p :: r, [], past, _, h, _, e => by
    have := e p.1
    rw [tidyGo_cons] at h
    rw [hit_cons] at this
    have h1 : decide (p.1 ≤ p.1) = true := by simp
    have h2 : decide (p.1 < p.2) = true := by simp; omega
    rw [h1, h2] at this
    simp [hitF] at this
  | p :: r, q :: s, past, past', h, h', e => by
    rw [tidyGo_cons] at h h'
    have lo1 := fun t g => hit_lo (t := t) h.2 g
    have lo2 := fun t g => hit_lo (t := t) h'.2 g
    have ee : ∀ t, ((p.1 ≤ t ∧ t < p.2) ∨ hitF r t = true) ↔ ((q.1 ≤ t ∧ t < q.2) ∨ hitF s t = true) := fun t => by
      have := e t
      rw [hit_cons, hit_cons, Bool.eq_iff_iff] at this
      simpa using this
    have a1 := (ee p.1).mp (.inl (by omega))
    have a2 := (ee q.1).mpr (.inl (by omega))
    have s1 : p.1 = q.1 := by
      have b1 : q.1 ≤ p.1 := by
        rcases a1 with a1 | a1
        · omega
        · have := lo2 _ a1
          omega
      have b2 : p.1 ≤ q.1 := by
        rcases a2 with a2 | a2
        · omega
        · have := lo1 _ a2
          omega
      omega
    have s2 : p.2 = q.2 := by
      rcases Int.lt_trichotomy p.2 q.2 with c | c | c
      · rcases (ee p.2).mpr (.inl (by omega)) with z | z
        · omega
        · have := lo1 _ z
          omega
      · exact c
      · rcases (ee q.2).mp (.inl (by omega)) with z | z
        · omega
        · have := lo2 _ z
          omega
    have es : p = q := Prod.ext s1 s2
    subst es
    congr 1
    refine tidy_ext r s p.2 p.2 h.2 h'.2 fun t => ?_
    rw [Bool.eq_iff_iff]
    constructor
    · intro z
      have := lo1 _ z
      rcases (ee t).mp (.inr z) with y | y
      · omega
      · exact y
    · intro z
      have := lo2 _ z
      rcases (ee t).mpr (.inr z) with y | y
      · omega
      · exact y
theorem com_tidy {hi hi' : Int} : ∀ (n : Nat) (l m : List Pr) (past past' x : Int), l.length + m.length ≤ n → tidyGo hi past l = true → tidyGo hi' past' m = true → (x ≤ past ∨ x ≤ past') → tidyGo hi x (comF l m) = true
  | n, [], m, _, _, _, _, _, _, _ => by rw [comF]; rfl
  | n, p :: r, [], _, _, _, _, _, _, _ => by rw [comF]; rfl
  | 0, p :: r, q :: s, _, _, _, hn, _, _, _ => by simp at hn
  | n + 1, p :: r, q :: s, past, past', x, hn, h, h', hx => by
    have g := tidyGo_cons.mp h
    have g' := tidyGo_cons.mp h'
    simp only [List.length_cons] at hn
    rw [comF]
    have rest : ∀ y, (y ≤ min p.2 q.2 ∨ y ≤ x) → tidyGo hi y (if p.2 < q.2 then comF r (q :: s) else comF (p :: r) s) = true := fun y hy => by
      split
      · refine com_tidy n r (q :: s) p.2 past' y (by simp only [List.length_cons]; omega) g.2 h' ?_
        rcases hy with hy | hy
        · exact .inl (by omega)
        · rcases hx with hx | hx
          · exact .inl (by omega)
          · exact .inr (by omega)
      · refine com_tidy n (p :: r) s past q.2 y (by simp only [List.length_cons]; omega) h g'.2 ?_
        rcases hy with hy | hy
        · exact .inr (by omega)
        · rcases hx with hx | hx
          · exact .inl (by omega)
          · exact .inr (by omega)
    split
    · rw [List.singleton_append, tidyGo_cons]
      exact ⟨by simp only; omega, rest _ (.inl (by simp only; omega))⟩
    · rw [List.nil_append]
      exact rest x (.inr (by omega))
theorem com_hit {hi hi' : Int} (t : Int) : ∀ (n : Nat) (l m : List Pr) (past past' : Int), l.length + m.length ≤ n → tidyGo hi past l = true → tidyGo hi' past' m = true → hitF (comF l m) t = (hitF l t && hitF m t)
  | n, [], m, _, _, _, _, _ => by rw [comF]; rfl
  | n, p :: r, [], _, _, _, _, _ => by rw [comF]; simp [hitF]
  | 0, p :: r, q :: s, _, _, hn, _, _ => by simp at hn
  | n + 1, p :: r, q :: s, past, past', hn, h, h' => by
    have g := tidyGo_cons.mp h
    have g' := tidyGo_cons.mp h'
    simp only [List.length_cons] at hn
    have lo1 := fun z => hit_lo (t := t) g.2 z
    have lo2 := fun z => hit_lo (t := t) g'.2 z
    have app : ∀ (a b : List Pr), hitF (a ++ b) t = (hitF a t || hitF b t) := fun a b => by simp [hitF]
    rw [comF, app]
    have e1 : hitF (if max p.1 q.1 < min p.2 q.2 then [(max p.1 q.1, min p.2 q.2)] else []) t = (decide (max p.1 q.1 ≤ t) && decide (t < min p.2 q.2)) := by
      split
      · simp [hitF]
      · rw [Bool.eq_iff_iff]
        simp [hitF]
        omega
    rw [e1]
    split
    · rename_i c
      rw [com_hit t n r (q :: s) p.2 past' (by simp only [List.length_cons]; omega) g.2 h', hit_cons, hit_cons, Bool.eq_iff_iff]
      cases hr : hitF r t with
      | true =>
        have := lo1 hr
        cases hs : hitF s t <;> simp <;> omega
      | false =>
        cases hs : hitF s t with
        | true =>
          have := lo2 hs
          simp
          omega
        | false =>
          simp
          omega
    · rename_i c
      rw [com_hit t n (p :: r) s past q.2 (by simp only [List.length_cons]; omega) h g'.2, hit_cons, hit_cons, Bool.eq_iff_iff]
      cases hs : hitF s t with
      | true =>
        have := lo2 hs
        cases hr : hitF r t <;> simp <;> omega
      | false =>
        cases hr : hitF r t with
        | true =>
          have := lo1 hr
          simp
          omega
        | false =>
          simp
          omega
theorem com_len : ∀ (n : Nat) (l m : List Pr), l.length + m.length ≤ n → (comF l m).length ≤ n
  | n, [], m, _ => by rw [comF]; simp
  | n, p :: r, [], _ => by rw [comF]; simp
  | 0, p :: r, q :: s, hn => by simp at hn
  | n + 1, p :: r, q :: s, hn => by
    simp only [List.length_cons] at hn
    rw [comF]
    have : (if p.2 < q.2 then comF r (q :: s) else comF (p :: r) s).length ≤ n := by
      split
      · exact com_len n r (q :: s) (by simp only [List.length_cons]; omega)
      · exact com_len n (p :: r) s (by simp only [List.length_cons]; omega)
    rw [List.length_append]
    split <;> simp <;> omega
theorem drop_nth {l : List Pr} {i : Int} (h0 : 0 ≤ i) (h1 : i < l.length) : l.drop i.toNat = nth l i :: l.drop (i + 1).toNat := by
  have hl : i.toNat < l.length := by omega
  have e : (i + 1).toNat = i.toNat + 1 := by omega
  rw [e, List.drop_eq_getElem_cons hl, nth, List.getD, List.getElem?_eq_getElem hl]
  rfl
theorem com_step {ps qs : List Pr} {i j : Int} (h0 : 0 ≤ i) (h1 : i < ps.length) (h2 : 0 ≤ j) (h3 : j < qs.length) : comF (ps.drop i.toNat) (qs.drop j.toNat) =
    (if max (nth ps i).1 (nth qs j).1 < min (nth ps i).2 (nth qs j).2 then [(max (nth ps i).1 (nth qs j).1, min (nth ps i).2 (nth qs j).2)] else []) ++ (if (nth ps i).2 < (nth qs j).2 then comF (ps.drop (i + 1).toNat) (qs.drop j.toNat) else comF (ps.drop i.toNat) (qs.drop (j + 1).toNat)) := by
  rw [drop_nth h0 h1, drop_nth h2 h3, comF]
theorem com_end {ps qs : List Pr} {i j : Int} (h : ¬ (i < ps.length ∧ j < qs.length)) (h0 : 0 ≤ i) (h2 : 0 ≤ j) : comF (ps.drop i.toNat) (qs.drop j.toNat) = [] := by
  by_cases c : i < ps.length
  · have e : qs.drop j.toNat = [] := List.drop_eq_nil_of_le (by omega)
    rw [e]
    cases ps.drop i.toNat <;> rw [comF]
  · have e : ps.drop i.toNat = [] := List.drop_eq_nil_of_le (by omega)
    rw [e, comF]
theorem tidy_shift (k : Int) {lo hi : Int} {l : List Pr} (h : tidyF l lo hi = true) : tidyGo (hi + k) (lo + k - 1) (l.map fun a => (a.1 + k, a.2 + k)) = true := by
  have main : ∀ (l : List Pr) (past : Int), tidyGo hi past l = true → tidyGo (hi + k) (past + k) (l.map fun a => (a.1 + k, a.2 + k)) = true := by
    intro l
    induction l with
    | nil => intro _ _; rfl
    | cons p r ih =>
      intro past h
      rw [tidyGo_cons] at h
      rw [List.map_cons, tidyGo_cons]
      exact ⟨by simp only; omega, ih p.2 h.2⟩
  have := main l (lo - 1) h
  have e : lo - 1 + k = lo + k - 1 := by omega
  rw [e] at this
  exact this
theorem gapsGo_len (b : Int) : ∀ (m : List Pr) (free : Int), (gapsGo b free m).length ≤ m.length + 1
  | [], free => by
    rw [gapsGo]
    split <;> simp
  | p :: r, free => by
    have := gapsGo_len b r p.2
    rw [gapsGo]
    split <;> simp only [List.length_cons] <;> omega
theorem gapsF_len (l : List Pr) (a b : Int) : (gapsF l a b).length ≤ l.length + 1 := by
  have h1 := gapsGo_len b (cutF l a b) a
  have h2 := cut_len l a b
  rw [gapsF]
  omega
end My
namespace My
open PySem PySem.Spec PyProof.Rows L2 Dy
theorem hit_app (l m : List Pr) (t : Int) : hitF (l ++ m) t = (hitF l t || hitF m t) := by simp [hitF]
theorem hit_shift (k : Int) : ∀ (l : List Pr) (t : Int), hitF (l.map fun a => (a.1 + k, a.2 + k)) t = hitF l (t - k)
  | [], _ => rfl
  | p :: r, t => by
    rw [List.map_cons, hit_cons, hit_cons, hit_shift k r t]
    have e1 : decide (p.1 + k ≤ t) = decide (p.1 ≤ t - k) := decide_eq_decide.mpr (by omega)
    have e2 : decide (t < p.2 + k) = decide (t - k < p.2) := decide_eq_decide.mpr (by omega)
    rw [e1, e2]
abbrev movedF (c : List Pr) (k : Int) : List Pr := c.map fun a => (a.1 + k, a.2 + k)
theorem wf_shift {lo hi : Int} {l : List Pr} (k : Int) (h : Wf lo hi l) : Wf (lo + k) (hi + k) (movedF l k) := h.shift k
theorem tidy_wf {lo hi : Int} {l : List Pr} (h : tidyF l lo hi = true) : Wf lo hi l := fun r hr => by
  have := (tidy_srt l _ h).1 r hr
  omega
theorem tidy_bd {lo hi t : Int} {l : List Pr} (h : tidyF l lo hi = true) (q : hitF l t = true) : lo ≤ t ∧ t < hi := by
  have := hit_lo h q
  omega
theorem wf_bd {lo hi t : Int} {l : List Pr} (h : Wf lo hi l) (q : hitF l t = true) : lo ≤ t ∧ t < hi := by
  obtain ⟨r, hr, h2⟩ := List.any_eq_true.mp q
  have := h r hr
  simp only [Bool.and_eq_true, decide_eq_true_eq] at h2
  omega
theorem hit_out {lo hi t : Int} {l : List Pr} (h : Wf lo hi l) (q : t < lo ∨ hi ≤ t) : hitF l t = false := by
  cases e : hitF l t with
  | false => rfl
  | true =>
    have := wf_bd h e
    omega
def turnsF (c : List Pr) (t0 p : Int) : Nat → List Pr
  | 0 => []
  | n + 1 => turnsF c t0 p n ++ movedF c (t0 + n * p)
theorem turns_len (c : List Pr) (t0 p : Int) : ∀ n, (turnsF c t0 p n).length = n * c.length
  | 0 => by simp [turnsF]
  | n + 1 => by rw [turnsF, List.length_append, turns_len c t0 p n, List.length_map, Nat.succ_mul]
theorem turns_wf {c : List Pr} {p : Int} (t0 : Int) (hp : 1 ≤ p) (hc : Wf 0 p c) : ∀ n : Nat, Wf t0 (t0 + n * p) (turnsF c t0 p n)
  | 0 => fun r hr => by simp [turnsF] at hr
  | n + 1 => by
    have h1 : 0 ≤ (n : Int) * p := Int.mul_nonneg (by omega) (by omega)
    have h2 : ((n + 1 : Nat) : Int) * p = n * p + p := by rw [Int.natCast_add, Int.add_mul]; simp
    rw [turnsF]
    refine Wf.app ((turns_wf t0 hp hc n).mono (Int.le_refl _) (by omega)) ((wf_shift (t0 + n * p) hc).mono (by omega) (by omega))
theorem turns_hit {c : List Pr} {p : Int} (t0 : Int) (hp : 1 ≤ p) (hc : Wf 0 p c) {t : Int} (h0 : t0 ≤ t) : ∀ n : Nat, hitF (turnsF c t0 p n) t = (decide (t < t0 + n * p) && hitF c ((t - t0) % p))
  | 0 => by
    rw [decide_eq_false (by simp; omega)]
    rfl
  | n + 1 => by
    have h1 : 0 ≤ (n : Int) * p := Int.mul_nonneg (by omega) (by omega)
    have h2 : ((n + 1 : Nat) : Int) * p = n * p + p := by rw [Int.natCast_add, Int.add_mul]; simp
    rw [turnsF, hit_app, turns_hit t0 hp hc h0 n, hit_shift]
    by_cases q : t < t0 + n * p
    · rw [decide_eq_true q, decide_eq_true (by omega), hit_out (t := t - (t0 + n * p)) hc (.inl (by omega)), Bool.or_false]
    · rw [decide_eq_false q, Bool.false_and, Bool.false_or]
      by_cases q2 : t < t0 + ((n + 1 : Nat) : Int) * p
      · rw [decide_eq_true q2, Bool.true_and]
        congr 1
        rw [show t - t0 = (t - (t0 + n * p)) + p * n from by rw [Int.mul_comm p]; omega, Int.add_mul_emod_self_left]
        exact (Int.emod_eq_of_lt (by omega) (by omega)).symm
      · rw [decide_eq_false q2, Bool.false_and, hit_out hc (.inr (by omega))]
/-- membership in a repeated cycle -/
def cir (c : List Pr) (p t : Int) : Bool := hitF c (t % p)
theorem cir_add (c : List Pr) (p t k : Int) : cir c p (t + p * k) = cir c p t := by unfold cir; rw [Int.add_mul_emod_self_left]
theorem cir_in (c : List Pr) {p t : Int} (h0 : 0 ≤ t) (h1 : t < p) : cir c p t = hitF c t := by unfold cir; rw [Int.emod_eq_of_lt h0 h1]
def turn0 (s p a : Int) : Int := s + (a - s) / p * p
def turnN (s p a b : Int) : Nat := ((b - turn0 s p a + p - 1) / p).toNat
def unrF (c : List Pr) (s p a b : Int) : List Pr := if c = [] ∨ b ≤ a then [] else if c = [(0, p)] then [(a, b)] else cutF (mergedF (turnsF c (turn0 s p a) p (turnN s p a b))) a b
theorem turn0_bd {s p a : Int} (hp : 1 ≤ p) : turn0 s p a ≤ a ∧ a < turn0 s p a + p := by
  have h1 := Int.emod_nonneg (a - s) (b := p) (by omega)
  have h2 := Int.emod_lt_of_pos (a - s) (b := p) (by omega)
  have h3 := Int.mul_ediv_add_emod (a - s) p
  rw [Int.mul_comm] at h3
  unfold turn0
  omega
theorem turnN_ge {s p a b : Int} (hp : 1 ≤ p) (hab : a < b) : b ≤ turn0 s p a + (turnN s p a b : Int) * p := by
  have h := turn0_bd (s := s) (a := a) hp
  unfold turnN
  have h1 := Int.emod_nonneg (b - turn0 s p a + p - 1) (b := p) (by omega)
  have h2 := Int.emod_lt_of_pos (b - turn0 s p a + p - 1) (b := p) (by omega)
  have h3 := Int.mul_ediv_add_emod (b - turn0 s p a + p - 1) p
  have h4 : 0 ≤ (b - turn0 s p a + p - 1) / p := Int.ediv_nonneg (by omega) (by omega)
  rw [Int.toNat_of_nonneg h4, Int.mul_comm]
  omega
theorem unr_hit {c : List Pr} {p : Int} (s a b : Int) (hp : 1 ≤ p) (hc : tidyF c 0 p = true) (t : Int) : hitF (unrF c s p a b) t = (decide (a ≤ t) && decide (t < b) && cir c p (t - s)) := by
  unfold unrF
  split
  · rename_i q
    rcases q with q | q
    · rw [q]
      unfold cir hitF
      simp
    · have : ¬ (a ≤ t ∧ t < b) := by omega
      rw [← Bool.decide_and, decide_eq_false this]
      rfl
  · rename_i q
    split
    · rename_i q2
      have h1 := Int.emod_nonneg (t - s) (b := p) (by omega)
      have h2 := Int.emod_lt_of_pos (t - s) (b := p) (by omega)
      rw [q2]
      unfold cir hitF
      simp [h1, h2]
    · have hab : a < b := by omega
      have hw := tidy_wf hc
      rw [cut_hit, merged_hit (turns_wf _ hp hw _)]
      by_cases z : a ≤ t ∧ t < b
      · have h0 := turn0_bd (s := s) (a := a) hp
        have h1 := turnN_ge (s := s) hp hab
        rw [turns_hit _ hp hw (by omega), decide_eq_true (by omega : t < _), Bool.true_and, decide_eq_true z.1, decide_eq_true z.2]
        simp only [Bool.and_self, Bool.true_and, Bool.and_true]
        unfold cir turn0
        congr 1
        rw [show t - (s + (a - s) / p * p) = (t - s) + p * (-((a - s) / p)) from by rw [Int.mul_neg, Int.mul_comm p]; omega, Int.add_mul_emod_self_left]
      · rw [← Bool.decide_and, decide_eq_false z, Bool.and_false, Bool.false_and]
theorem unr_tidy {c : List Pr} {p : Int} (s a b : Int) (hp : 1 ≤ p) (hc : tidyF c 0 p = true) : tidyF (unrF c s p a b) a b = true := by
  unfold unrF
  split
  · rfl
  · split
    · rename_i q _
      simp [tidyF, tidyGo]
      omega
    · exact cut_tidy _ _ _ (merged_tidy (turns_wf _ hp (tidy_wf hc) _)) (.inl (by omega))
structure Sp where
  head : List Pr
  since : Int
  period : Int
  cycle : List Pr
  deriving DecidableEq, Inhabited
def genF (S : Sp) (t : Int) : Bool := if t < S.since then hitF S.head t else cir S.cycle S.period (t - S.since)
def inF (S : Sp) (t : Int) : Bool := decide (0 ≤ t) && genF S t
/-- tidy in its bounds -/
structure SW (S : Sp) : Prop where
  s0 : 0 ≤ S.since
  p1 : 1 ≤ S.period
  th : tidyF S.head 0 S.since = true
  tc : tidyF S.cycle 0 S.period = true
/-- what describes one -/
structure SR (S : Sp) : Prop where
  s0 : 0 ≤ S.since
  p1 : 1 ≤ S.period
  th : Wf 0 S.since S.head
  tc : Wf 0 S.period S.cycle
theorem SW.r {S : Sp} (h : SW S) : SR S := ⟨h.s0, h.p1, tidy_wf h.th, tidy_wf h.tc⟩
theorem gen_neg {S : Sp} (h : SR S) {t : Int} (ht : t < 0) : genF S t = false := by
  have := h.s0
  unfold genF
  rw [if_pos (by omega)]
  exact hit_out h.th (.inl ht)
theorem in_gen {S : Sp} (h : SR S) (t : Int) : inF S t = genF S t := by
  unfold inF
  by_cases q : 0 ≤ t
  · rw [decide_eq_true q, Bool.true_and]
  · rw [gen_neg h (by omega), Bool.and_false]
def partsF (S : Sp) (a b : Int) : List Pr := mergedF (cutF S.head a (min b S.since) ++ unrF S.cycle S.since S.period (max a S.since) b)
theorem cut_wf {lo hi : Int} {l : List Pr} (h : Wf lo hi l) (a b : Int) : Wf (max lo a) (min hi b) (cutF l a b) := by
  induction l with
  | nil => intro r hr; cases hr
  | cons p r ih =>
    have hp := h p (by simp)
    have hr : Wf lo hi r := fun x hx => h x (by simp [hx])
    unfold cutF
    split
    · intro x hx
      rcases List.mem_cons.mp hx with e | e
      · rw [e]
        simp only
        omega
      · exact ih hr x e
    · exact ih hr
theorem parts_wf {S : Sp} (h : SW S) (a b : Int) : Wf a b (cutF S.head a (min b S.since) ++ unrF S.cycle S.since S.period (max a S.since) b) :=
  Wf.app ((cut_wf (tidy_wf h.th) a (min b S.since)).mono (by omega) (by omega)) ((tidy_wf (unr_tidy S.since (max a S.since) b h.p1 h.tc)).mono (by omega) (Int.le_refl _))
theorem parts_tidy {S : Sp} (h : SW S) (a b : Int) : tidyF (partsF S a b) a b = true := merged_tidy (parts_wf h a b)
theorem parts_hit {S : Sp} (h : SW S) (a b t : Int) : hitF (partsF S a b) t = (decide (a ≤ t) && decide (t < b) && genF S t) := by
  unfold partsF
  rw [merged_hit (parts_wf h a b), hit_app, cut_hit, unr_hit _ _ _ h.p1 h.tc]
  unfold genF
  by_cases q : t < S.since
  · have e1 : decide (max a S.since ≤ t) = false := decide_eq_false (by omega)
    have e2 : decide (t < min b S.since) = decide (t < b) := decide_eq_decide.mpr (by omega)
    rw [if_pos q, e1, e2, Bool.false_and, Bool.false_and, Bool.or_false, Bool.and_comm]
  · have e1 : decide (max a S.since ≤ t) = decide (a ≤ t) := decide_eq_decide.mpr (by omega)
    have e2 : decide (t < min b S.since) = false := decide_eq_false (by omega)
    rw [if_neg q, e1, e2, Bool.and_false, Bool.and_false, Bool.false_or]
def perB (c : List Pr) (p d : Int) : Prop := ∀ t, cir c p (t + d) = cir c p t
theorem per_self (c : List Pr) (p : Int) : perB c p p := fun t => by
  have := cir_add c p t 1
  rwa [Int.mul_one] at this
theorem per_mul {c : List Pr} {p d : Int} (h : perB c p d) : ∀ n : Nat, perB c p (n * d)
  | 0 => fun t => by simp
  | n + 1 => fun t => by
    rw [show t + ((n + 1 : Nat) : Int) * d = (t + n * d) + d from by rw [Int.natCast_add, Int.add_mul]; simp; omega, h, per_mul h n]
theorem per_neg {c : List Pr} {p d : Int} (h : perB c p d) : perB c p (-d) := fun t => by
  have := h (t + -d)
  rw [show t + -d + d = t from by omega] at this
  exact this.symm
theorem per_imul {c : List Pr} {p d : Int} (h : perB c p d) (k : Int) : perB c p (k * d) := by
  rcases Int.eq_nat_or_neg k with ⟨n, rfl | rfl⟩
  · exact per_mul h n
  · have := per_neg (per_mul h n)
    rwa [show -((n : Int) * d) = -(n : Int) * d from (Int.neg_mul _ _).symm] at this
theorem per_add {c : List Pr} {p d e : Int} (h : perB c p d) (g : perB c p e) : perB c p (d + e) := fun t => by
  rw [← Int.add_assoc, g, h]
theorem per_mod {c : List Pr} {p d e : Int} (h : perB c p d) (g : perB c p e) : perB c p (e % d) := by
  have := per_add g (per_imul h (-(e / d)))
  rwa [show e + -(e / d) * d = e % d from by have := Int.mul_ediv_add_emod e d; rw [Int.mul_comm] at this; rw [Int.neg_mul]; omega] at this
structure LP (c : List Pr) (p d : Int) : Prop where
  d1 : 1 ≤ d
  pr : perB c p d
  dv : ∀ e, perB c p e → d ∣ e
theorem lp_ex (c : List Pr) {p : Int} (hp : 1 ≤ p) : ∃ d, LP c p d := by
  have main : ∀ n : Nat, ∀ e : Int, 1 ≤ e → e ≤ n → perB c p e → ∃ d, LP c p d := by
    intro n
    induction n with
    | zero => intro e h1 h2; omega
    | succ n ih =>
      intro e h1 h2 he
      by_cases q : ∃ e' : Int, 1 ≤ e' ∧ e' ≤ n ∧ perB c p e'
      · obtain ⟨e', a1, a2, a3⟩ := q
        exact ih e' a1 a2 a3
      · refine ⟨e, h1, he, fun e2 h3 => ?_⟩
        have h4 := per_mod he h3
        have h5 := Int.emod_nonneg e2 (b := e) (by omega)
        have h6 := Int.emod_lt_of_pos e2 (b := e) (by omega)
        rcases Int.lt_or_le 0 (e2 % e) with z | z
        · exact absurd ⟨e2 % e, by omega, by omega, h4⟩ q
        · exact Int.dvd_of_emod_eq_zero (by omega)
  exact main p.toNat p hp (by omega) (per_self c p)
open Classical in
noncomputable def lp (c : List Pr) (p : Int) : Int := if h : ∃ d, LP c p d then Classical.choose h else 1
theorem lp_ok (c : List Pr) {p : Int} (hp : 1 ≤ p) : LP c p (lp c p) := by
  unfold lp
  rw [dif_pos (lp_ex c hp)]
  exact Classical.choose_spec (lp_ex c hp)
theorem LP.uniq {c : List Pr} {p d e : Int} (h : LP c p d) (g : LP c p e) : d = e := by
  have := h.d1
  have := g.d1
  exact Int.dvd_antisymm (by omega) (by omega) (h.dv e g.pr) (g.dv d h.pr)
structure LS (h : List Pr) (s p : Int) (c : List Pr) (m : Int) : Prop where
  m0 : 0 ≤ m
  ms : m ≤ s
  eq : ∀ t, m ≤ t → t < s → hitF h t = cir c p (t - s)
  ne : m = 0 ∨ hitF h (m - 1) ≠ cir c p (m - 1 - s)
theorem ls_ex (h : List Pr) {s : Int} (p : Int) (c : List Pr) (hs : 0 ≤ s) : ∃ m, LS h s p c m := by
  have main : ∀ n : Nat, ∀ k : Int, k = n → k ≤ s → (∀ t, k ≤ t → t < s → hitF h t = cir c p (t - s)) → ∃ m, LS h s p c m := by
    intro n
    induction n with
    | zero => intro k e h1 h2; exact ⟨k, by omega, h1, h2, .inl (by omega)⟩
    | succ n ih =>
      intro k e h1 h2
      by_cases q : hitF h (k - 1) = cir c p (k - 1 - s)
      · refine ih (k - 1) (by omega) (by omega) fun t a1 a2 => ?_
        rcases Int.lt_or_le t k with z | z
        · have : t = k - 1 := by omega
          rw [this]
          exact q
        · exact h2 t z a2
      · exact ⟨k, by omega, h1, h2, .inr q⟩
  exact main s.toNat s (by omega) (Int.le_refl _) fun t a1 a2 => by omega
open Classical in
noncomputable def ls (h : List Pr) (s p : Int) (c : List Pr) : Int := if q : ∃ m, LS h s p c m then Classical.choose q else 0
theorem ls_ok (h : List Pr) {s : Int} (p : Int) (c : List Pr) (hs : 0 ≤ s) : LS h s p c (ls h s p c) := by
  unfold ls
  rw [dif_pos (ls_ex h p c hs)]
  exact Classical.choose_spec (ls_ex h p c hs)
theorem LS.uniq {h : List Pr} {s p : Int} {c : List Pr} {m k : Int} (a : LS h s p c m) (b : LS h s p c k) : m = k := by
  have key : ∀ {m k : Int}, LS h s p c m → LS h s p c k → ¬ m < k := fun {m k} a b q => by
    have := a.m0
    rcases b.ne with z | z
    · omega
    · exact z (a.eq (k - 1) (by omega) (by have := b.ms; omega))
  have h1 := key a b
  have h2 := key b a
  omega
structure SV (S : Sp) : Prop where
  w : SW S
  mp : LP S.cycle S.period S.period
  ms : S.since = 0 ∨ genF S (S.since - 1) ≠ genF S (S.since - 1 + S.period)
theorem per_dvd {c : List Pr} {p d e : Int} (h : LP c p d) (q : d ∣ e) : perB c p e := by
  obtain ⟨k, rfl⟩ := q
  rw [Int.mul_comm]
  exact per_imul h.pr k
/-- a cycle cut to its least period -/
theorem cut_cir {c : List Pr} {p d : Int} (hp : 1 ≤ p) (h : LP c p d) (t : Int) : cir (cutF c 0 d) d t = cir c p t := by
  have h1 := h.d1
  have hd := Int.le_of_dvd (by omega) (h.dv p (per_self c p))
  have a0 := Int.emod_nonneg t (b := d) (by omega)
  have a1 := Int.emod_lt_of_pos t (b := d) (by omega)
  have e : cir c p t = cir c p (t % d) := by
    have := per_imul h.pr (t / d) (t % d)
    rw [← this]
    congr 1
    have := Int.mul_ediv_add_emod t d
    rw [Int.mul_comm] at this
    omega
  rw [e, cir_in c a0 (by omega)]
  unfold cir
  rw [cut_hit, decide_eq_true a0, decide_eq_true a1, Bool.and_self, Bool.and_true]
theorem cut_lp {c : List Pr} {p d : Int} (hp : 1 ≤ p) (h : LP c p d) : LP (cutF c 0 d) d d := by
  refine ⟨h.d1, per_self _ _, fun e q => h.dv e fun t => ?_⟩
  rw [← cut_cir hp h, ← cut_cir hp h, q]
noncomputable def nfS (S : Sp) : Sp :=
  if ls (mergedF S.head) S.since (lp (mergedF S.cycle) S.period) (cutF (mergedF S.cycle) 0 (lp (mergedF S.cycle) S.period)) < S.since then
    ⟨cutF (mergedF S.head) 0 (ls (mergedF S.head) S.since (lp (mergedF S.cycle) S.period) (cutF (mergedF S.cycle) 0 (lp (mergedF S.cycle) S.period))),
     ls (mergedF S.head) S.since (lp (mergedF S.cycle) S.period) (cutF (mergedF S.cycle) 0 (lp (mergedF S.cycle) S.period)), lp (mergedF S.cycle) S.period,
     movedF (unrF (cutF (mergedF S.cycle) 0 (lp (mergedF S.cycle) S.period)) S.since (lp (mergedF S.cycle) S.period) (ls (mergedF S.head) S.since (lp (mergedF S.cycle) S.period) (cutF (mergedF S.cycle) 0 (lp (mergedF S.cycle) S.period)))
       (ls (mergedF S.head) S.since (lp (mergedF S.cycle) S.period) (cutF (mergedF S.cycle) 0 (lp (mergedF S.cycle) S.period)) + lp (mergedF S.cycle) S.period)) (-(ls (mergedF S.head) S.since (lp (mergedF S.cycle) S.period) (cutF (mergedF S.cycle) 0 (lp (mergedF S.cycle) S.period))))⟩
  else ⟨mergedF S.head, S.since, lp (mergedF S.cycle) S.period, cutF (mergedF S.cycle) 0 (lp (mergedF S.cycle) S.period)⟩
theorem nf_ok {S : Sp} (h : SR S) : SV (nfS S) ∧ ∀ t, genF (nfS S) t = genF S t := by
  have hL := lp_ok (mergedF S.cycle) h.p1
  have tc0 := merged_tidy h.tc
  have th0 := merged_tidy h.th
  unfold nfS
  generalize hq : lp (mergedF S.cycle) S.period = q at *
  have q1 := hL.d1
  have tc : tidyF (cutF (mergedF S.cycle) 0 q) 0 q = true := cut_tidy _ _ _ tc0 (.inl (by omega))
  have cc : ∀ t, cir (cutF (mergedF S.cycle) 0 q) q t = cir S.cycle S.period t := fun t => by
    rw [cut_cir h.p1 hL]
    unfold cir
    exact merged_hit h.tc _
  have mL := cut_lp h.p1 hL
  generalize cutF (mergedF S.cycle) 0 q = c1 at *
  have hl := ls_ok (mergedF S.head) q c1 h.s0
  generalize ls (mergedF S.head) S.since q c1 = m at *
  have gS : ∀ t, genF S t = if t < S.since then hitF (mergedF S.head) t else cir c1 q (t - S.since) := fun t => by
    unfold genF
    rw [cc, merged_hit h.th]
  have hm0 := hl.m0
  have hms := hl.ms
  split
  · rename_i z
    have hmv : ∀ t, cir (movedF (unrF c1 S.since q m (m + q)) (-m)) q (t - m) = cir c1 q (t - S.since) := fun t => by
      have a0 := Int.emod_nonneg (t - m) (b := q) (by omega)
      have a1 := Int.emod_lt_of_pos (t - m) (b := q) (by omega)
      unfold cir
      rw [hit_shift, unr_hit _ _ _ q1 tc, decide_eq_true (by omega), decide_eq_true (by omega), Bool.and_self, Bool.true_and]
      unfold cir
      congr 1
      have := Int.mul_ediv_add_emod (t - m) q
      rw [show (t - m) % q - -m - S.since = (t - S.since) + q * (-((t - m) / q)) from by rw [Int.mul_neg]; omega, Int.add_mul_emod_self_left]
    have gN : ∀ t, genF ⟨cutF (mergedF S.head) 0 m, m, q, movedF (unrF c1 S.since q m (m + q)) (-m)⟩ t = genF S t := fun t => by
      rw [gS]
      unfold genF
      simp only
      by_cases y : t < m
      · rw [if_pos y, if_pos (by omega), cut_hit, decide_eq_true y, Bool.and_true]
        by_cases y0 : 0 ≤ t
        · rw [decide_eq_true y0, Bool.and_true]
        · rw [hit_out (tidy_wf th0) (.inl (by omega))]
          rfl
      · rw [if_neg y, hmv]
        split
        · rename_i y2
          exact (hl.eq t (by omega) y2).symm
        · rfl
    refine ⟨⟨⟨hm0, q1, cut_tidy _ _ _ th0 (.inl (by omega)), ?_⟩, ⟨q1, per_self _ _, fun e he => mL.dv e fun t => ?_⟩, ?_⟩, gN⟩
    · have := tidy_shift (-m) (unr_tidy S.since m (m + q) q1 tc)
      unfold tidyF
      rw [show (m + q) + -m = q from by omega, show m + -m - 1 = 0 - 1 from by omega] at this
      exact this
    · have e1 := hmv (t + S.since)
      have e2 := hmv (t + e + S.since)
      rw [show t + S.since - S.since = t from by omega] at e1
      rw [show t + e + S.since - S.since = t + e from by omega] at e2
      rw [← e1, ← e2, show t + e + S.since - m = (t + S.since - m) + e from by omega, he]
    · rcases hl.ne with y | y
      · exact .inl y
      · right
        intro he
        by_cases y0 : m = 0
        · subst y0
          refine y ?_
          have := hl.ne
          rw [gN, gS, if_pos (by show (0 : Int) - 1 < S.since; omega)] at he
          have e2 := hmv (0 - 1)
          rw [← e2]
          refine he.trans ?_
          unfold genF
          simp only
          rw [if_neg (by omega)]
          have := cir_add (movedF (unrF c1 S.since q 0 (0 + q)) (-0)) q (0 - 1 - 0) 1
          rw [← this, Int.mul_one]
          congr 1
          omega
        · refine y ?_
          rw [gN, gS, if_pos (by show m - 1 < S.since; omega)] at he
          have e2 := hmv (m - 1)
          rw [← e2]
          refine he.trans ?_
          unfold genF
          simp only
          rw [if_neg (by omega)]
          have := cir_add (movedF (unrF c1 S.since q m (m + q)) (-m)) q (m - 1 - m) 1
          rw [← this, Int.mul_one]
          congr 1
          omega
  · have em : m = S.since := by omega
    subst em
    have gN : ∀ t, genF ⟨mergedF S.head, S.since, q, c1⟩ t = genF S t := fun t => (gS t).symm
    refine ⟨⟨⟨h.s0, q1, th0, tc⟩, mL, ?_⟩, gN⟩
    rcases hl.ne with y | y
    · exact .inl y
    · right
      intro he
      refine y ?_
      unfold genF at he
      simp only at he
      rw [if_pos (by omega), if_neg (by omega)] at he
      refine he.trans ?_
      have := cir_add c1 q (S.since - 1 - S.since) 1
      rw [← this, Int.mul_one]
      congr 1
      omega
end My
namespace My
open PySem PySem.Spec PyProof.Rows L2 Dy
theorem lowmem {hi : Int} : ∀ (c : List Pr) (past : Int), tidyGo hi past c = true → ∀ x, x ∈ c.map (·.1) ↔ (hitF c x = true ∧ hitF c (x - 1) = false)
  | [], _, _, x => by simp [hitF]
  | p :: r, past, h, x => by
    rw [tidyGo_cons] at h
    have ih := lowmem r p.2 h.2 x
    rw [List.map_cons, List.mem_cons, ih, hit_cons, hit_cons]
    have lo : ∀ t, hitF r t = true → p.2 < t := fun t q => (hit_lo h.2 q).1
    constructor
    · rintro (e | ⟨e1, e2⟩)
      · refine ⟨?_, ?_⟩
        · rw [decide_eq_true (by omega), decide_eq_true (by omega)]
          rfl
        · have e3 : hitF r (x - 1) = false := Bool.eq_false_iff.mpr fun q => by
            have := lo _ q
            omega
          rw [e3, decide_eq_false (by omega : ¬ p.1 ≤ x - 1)]
          rfl
      · have := lo _ e1
        rw [e1, e2, decide_eq_false (by omega : ¬ x - 1 < p.2)]
        simp
    · rintro ⟨e1, e2⟩
      simp only [Bool.or_eq_true, Bool.and_eq_true, decide_eq_true_eq, Bool.or_eq_false_iff, Bool.and_eq_false_iff, decide_eq_false_iff_not] at e1 e2
      rcases e1 with e1 | e1
      · left
        omega
      · exact .inr ⟨e1, e2.2⟩
theorem highmem {hi : Int} : ∀ (c : List Pr) (past : Int), tidyGo hi past c = true → ∀ x, x ∈ c.map (·.2) ↔ (hitF c (x - 1) = true ∧ hitF c x = false)
  | [], _, _, x => by simp [hitF]
  | p :: r, past, h, x => by
    rw [tidyGo_cons] at h
    have ih := highmem r p.2 h.2 x
    rw [List.map_cons, List.mem_cons, ih, hit_cons, hit_cons]
    have lo : ∀ t, hitF r t = true → p.2 < t := fun t q => (hit_lo h.2 q).1
    constructor
    · rintro (e | ⟨e1, e2⟩)
      · refine ⟨?_, ?_⟩
        · rw [decide_eq_true (by omega), decide_eq_true (by omega)]
          rfl
        · have e3 : hitF r x = false := Bool.eq_false_iff.mpr fun q => by
            have := lo _ q
            omega
          rw [e3, decide_eq_false (by omega : ¬ x < p.2)]
          simp
      · have := lo _ e1
        rw [e1, e2, decide_eq_false (by omega : ¬ x < p.2)]
        simp
    · rintro ⟨e1, e2⟩
      simp only [Bool.or_eq_true, Bool.and_eq_true, decide_eq_true_eq, Bool.or_eq_false_iff, Bool.and_eq_false_iff, decide_eq_false_iff_not] at e1 e2
      rcases e1 with e1 | e1
      · left
        omega
      · exact .inr ⟨e1, e2.2⟩
theorem low_asc {hi : Int} : ∀ (c : List Pr) (past : Int), tidyGo hi past c = true → (c.map (·.1)).Pairwise (· < ·)
  | [], _, _ => List.Pairwise.nil
  | p :: r, past, h => by
    rw [tidyGo_cons] at h
    rw [List.map_cons, List.pairwise_cons]
    refine ⟨fun x hx => ?_, low_asc r p.2 h.2⟩
    obtain ⟨q, hq, rfl⟩ := List.mem_map.mp hx
    have := (tidy_srt r _ h.2).1 q hq
    omega
theorem high_asc {hi : Int} : ∀ (c : List Pr) (past : Int), tidyGo hi past c = true → (c.map (·.2)).Pairwise (· < ·)
  | [], _, _ => List.Pairwise.nil
  | p :: r, past, h => by
    rw [tidyGo_cons] at h
    rw [List.map_cons, List.pairwise_cons]
    refine ⟨fun x hx => ?_, high_asc r p.2 h.2⟩
    obtain ⟨q, hq, rfl⟩ := List.mem_map.mp hx
    have := (tidy_srt r _ h.2).1 q hq
    omega
theorem asc_ext : ∀ {l m : List Int}, l.Pairwise (· < ·) → m.Pairwise (· < ·) → (∀ x, x ∈ l ↔ x ∈ m) → l = m
  | [], [], _, _, _ => rfl
  | [], b :: m, _, _, h => by simpa using (h b).mpr (by simp)
  | a :: l, [], _, _, h => by simpa using (h a).mp (by simp)
  | a :: l, b :: m, h1, h2, h => by
    rw [List.pairwise_cons] at h1 h2
    have e : a = b := by
      have q1 := (h a).mp (by simp)
      have q2 := (h b).mpr (by simp)
      rcases List.mem_cons.mp q1 with e | e
      · exact e
      · rcases List.mem_cons.mp q2 with e' | e'
        · exact e'.symm
        · have := h2.1 a e
          have := h1.1 b e'
          omega
    subst e
    rw [asc_ext h1.2 h2.2 fun x => ?_]
    constructor
    · intro hx
      rcases List.mem_cons.mp ((h x).mp (by simp [hx])) with e | e
      · have := h1.1 x hx
        omega
      · exact e
    · intro hx
      rcases List.mem_cons.mp ((h x).mpr (by simp [hx])) with e | e
      · have := h2.1 x hx
        omega
      · exact e
def rng (n : Nat) : List Int := (List.range n).map Int.ofNat
theorem rng_mem {p x : Int} (hp : 0 ≤ p) : x ∈ rng p.toNat ↔ 0 ≤ x ∧ x < p := by
  unfold rng
  rw [List.mem_map]
  constructor
  · rintro ⟨n, hn, rfl⟩
    rw [List.mem_range] at hn
    have : Int.ofNat n = (n : Int) := rfl
    omega
  · rintro ⟨h0, h1⟩
    refine ⟨x.toNat, List.mem_range.mpr (by omega), ?_⟩
    show ((x.toNat : Nat) : Int) = x
    omega
theorem rng_succ (n : Nat) : rng (n + 1) = rng n ++ [(n : Int)] := by
  unfold rng
  rw [List.range_succ, List.map_append]
  rfl
theorem rng_asc : ∀ n : Nat, (rng n).Pairwise (· < ·)
  | 0 => List.Pairwise.nil
  | n + 1 => by
    rw [rng_succ, List.pairwise_append]
    refine ⟨rng_asc n, List.pairwise_singleton _ _, fun a ha b hb => ?_⟩
    rw [List.mem_singleton.mp hb]
    have := (rng_mem (p := (n : Int)) (x := a) (by omega)).mp (by rw [Int.toNat_natCast]; exact ha)
    omega
def fr (R : Int → Bool) (p : Int) : List Int := (rng p.toNat).filter R
theorem fr_mem {R : Int → Bool} {p x : Int} (hp : 0 ≤ p) : x ∈ fr R p ↔ (0 ≤ x ∧ x < p) ∧ R x = true := by
  unfold fr
  rw [List.mem_filter, rng_mem hp]
theorem fr_asc (R : Int → Bool) (p : Int) : (fr R p).Pairwise (· < ·) := List.Pairwise.filter _ (rng_asc _)
def cn (R : Int → Bool) : Nat → Nat
  | 0 => 0
  | n + 1 => cn R n + if R n = true then 1 else 0
theorem fr_cn (R : Int → Bool) : ∀ n : Nat, ((rng n).filter R).length = cn R n
  | 0 => rfl
  | n + 1 => by
    rw [rng_succ, List.filter_append, List.length_append, fr_cn R n, cn]
    congr 1
    rw [List.filter_cons]
    split <;> simp
theorem cn_add {R : Int → Bool} {a : Nat} (h : ∀ t, R (t + a) = R t) : ∀ k : Nat, cn R (a + k) = cn R a + cn R k
  | 0 => rfl
  | k + 1 => by
    show cn R (a + k) + (if R ((a + k : Nat) : Int) = true then 1 else 0) = cn R a + (cn R k + _)
    rw [cn_add h k]
    have : R ((a + k : Nat) : Int) = R k := by
      rw [← h k]
      congr 1
      omega
    rw [this]
    omega
theorem cn_mul {R : Int → Bool} {d : Nat} (h : ∀ t, R (t + d) = R t) : ∀ m : Nat, cn R (m * d) = m * cn R d
  | 0 => by simp [cn]
  | m + 1 => by
    rw [Nat.succ_mul, Nat.add_comm, cn_add h, cn_mul h m, Nat.succ_mul, Nat.add_comm]
theorem fr_dvd {R : Int → Bool} {p d : Int} (hp : 1 ≤ p) (hd : 1 ≤ d) (dv : d ∣ p) (h : ∀ t, R (t + d) = R t) : p / d ∣ ((fr R p).length : Int) := by
  obtain ⟨k, rfl⟩ := dv
  have hk : 0 ≤ k := by
    rcases Int.lt_or_le k 0 with q | q
    · have := Int.mul_nonpos_of_nonneg_of_nonpos (a := d) (b := k) (by omega) (by omega)
      omega
    · exact q
  rw [Int.mul_ediv_cancel_left _ (by omega)]
  unfold fr
  rw [fr_cn, show (d * k).toNat = k.toNat * d.toNat from by
    rw [← Int.toNat_natCast (k.toNat * d.toNat), Int.natCast_mul, Int.toNat_of_nonneg hk, Int.toNat_of_nonneg (by omega : 0 ≤ d), Int.mul_comm], cn_mul (d := d.toNat) (fun t => by rw [Int.toNat_of_nonneg (by omega)]; exact h t), Int.natCast_mul, Int.toNat_of_nonneg hk]
  exact Int.dvd_mul_right _ _
def rise (c : List Pr) (p t : Int) : Bool := cir c p t && !cir c p (t - 1)
def fall (c : List Pr) (p t : Int) : Bool := !cir c p t && cir c p (t - 1)
def wrapP (c : List Pr) (p : Int) : Prop := (nth c 0).1 = 0 ∧ (nth c (c.length + -1)).2 = p
instance {c : List Pr} {p : Int} : Decidable (wrapP c p) := by unfold wrapP; infer_instance
def risesF (c : List Pr) (p : Int) : List Int := if wrapP c p then cutD (c.map fun a => a.1) (some 1) none else c.map fun a => a.1
def fallsF (c : List Pr) (p : Int) : List Int := if wrapP c p then cutD (sortI (c.map fun a => a.2 % p)) (some 1) none else sortI (c.map fun a => a.2 % p)
theorem cut_one {l : List Int} : cutD l (some 1) none = l.drop 1 := by
  unfold Dy.cutD
  cases l with
  | nil => rfl
  | cons a l =>
    have e1 : HT.sIx (a :: l).length 0 (some 1) = 1 := by
      simp [HT.sIx]
    have e2 : HT.sIx (a :: l).length (a :: l).length none = (a :: l).length := by simp [HT.sIx]
    rw [e1, e2]
    simp
theorem drop_mem {l : List Int} (h : l.Pairwise (· < ·)) (h0 : ∀ x ∈ l, 0 ≤ x) (hm : 0 ∈ l) (x : Int) : x ∈ l.drop 1 ↔ x ∈ l ∧ x ≠ 0 := by
  cases l with
  | nil => simp at hm
  | cons a l =>
    rw [List.pairwise_cons] at h
    have ha : a = 0 := by
      rcases List.mem_cons.mp hm with e | e
      · exact e.symm
      · have := h.1 0 e
        have := h0 a (by simp)
        omega
    subst ha
    simp only [List.drop_succ_cons, List.drop_zero, List.mem_cons]
    constructor
    · intro hx
      have := h.1 x hx
      exact ⟨.inr hx, by omega⟩
    · rintro ⟨e | e, z⟩
      · exact absurd e z
      · exact e
section
variable {c : List Pr} {p : Int}
theorem first_iff (hp : 1 ≤ p) (h : tidyF c 0 p = true) (hn : c ≠ []) : (nth c 0).1 = 0 ↔ hitF c 0 = true := by
  obtain ⟨q, r, rfl⟩ := List.exists_cons_of_ne_nil hn
  have e0 : nth (q :: r) 0 = q := rfl
  rw [e0]
  have hm := lowmem (q :: r) _ h 0
  have hf : hitF (q :: r) (0 - 1) = false := hit_out (tidy_wf h) (.inl (by decide))
  constructor
  · intro e
    exact (hm.mp (by simp [e])).1
  · intro e
    have := hm.mpr ⟨e, hf⟩
    have asc := low_asc _ _ h
    rw [List.map_cons] at this asc
    rw [List.pairwise_cons] at asc
    rcases List.mem_cons.mp this with z | z
    · exact z.symm
    · have := asc.1 0 z
      have := tidy_wf h q (by simp)
      omega
theorem split_last {l : List Pr} (hn : l ≠ []) : ∃ i q, l = i ++ [q] ∧ nth l (l.length + -1) = q := by
  obtain ⟨i, q, rfl⟩ : ∃ i q, l = i ++ [q] := ⟨l.dropLast, l.getLast hn, (List.dropLast_concat_getLast hn).symm⟩
  exact ⟨i, q, rfl, last_eq rfl⟩
theorem last_iff (hp : 1 ≤ p) (h : tidyF c 0 p = true) (hn : c ≠ []) : (nth c (c.length + -1)).2 = p ↔ hitF c (p - 1) = true := by
  obtain ⟨i, q, rfl, e0⟩ := split_last hn
  rw [e0]
  have hm := highmem (i ++ [q]) _ h p
  have hf : hitF (i ++ [q]) p = false := hit_out (tidy_wf h) (.inr (Int.le_refl _))
  constructor
  · intro e
    exact (hm.mp (by simp [e])).1
  · intro e
    have := hm.mpr ⟨e, hf⟩
    have asc := high_asc _ _ h
    rw [List.map_append] at this asc
    rw [List.pairwise_append] at asc
    rcases List.mem_append.mp this with z | z
    · have := asc.2.2 p z q.2 (by simp)
      have := tidy_wf h q (by simp)
      omega
    · simp at z
      exact z.symm
theorem wrap_iff (hp : 1 ≤ p) (h : tidyF c 0 p = true) (hn : c ≠ []) : wrapP c p ↔ hitF c 0 = true ∧ hitF c (p - 1) = true := by
  unfold wrapP
  rw [first_iff hp h hn, last_iff hp h hn]
theorem cir_pre (hp : 1 ≤ p) {x : Int} (h0 : 0 ≤ x) (h1 : x < p) : cir c p (x - 1) = if x = 0 then hitF c (p - 1) else hitF c (x - 1) := by
  split
  · rename_i e
    have := cir_add c p (x - 1) 1
    rw [← this, e, Int.mul_one, cir_in c (by omega) (by omega)]
    congr 1
    omega
  · exact cir_in c (by omega) (by omega)
theorem rises_eq (hp : 1 ≤ p) (h : tidyF c 0 p = true) (hn : c ≠ []) : risesF c p = fr (rise c p) p := by
  have asc := low_asc _ _ h
  have mem := lowmem _ _ h
  have hw := wrap_iff hp h hn
  have bd : ∀ x ∈ c.map (·.1), 0 ≤ x ∧ x < p := fun x hx => tidy_bd h ((mem x).mp hx).1
  have hm1 : hitF c (0 - 1) = false := hit_out (tidy_wf h) (.inl (by decide))
  unfold risesF
  split
  · rename_i q
    have q2 := hw.mp q
    have h0 : (0 : Int) ∈ c.map (·.1) := (mem 0).mpr ⟨q2.1, hm1⟩
    rw [cut_one]
    refine asc_ext (asc.drop) (fr_asc _ _) fun x => ?_
    rw [drop_mem asc (fun x hx => (bd x hx).1) h0, fr_mem (by omega)]
    constructor
    · rintro ⟨hx, hne⟩
      have hb := bd x hx
      have hx2 := (mem x).mp hx
      refine ⟨hb, ?_⟩
      unfold rise
      rw [cir_in c hb.1 hb.2, cir_pre hp hb.1 hb.2, if_neg hne, hx2.1, hx2.2]
      rfl
    · rintro ⟨hb, hr⟩
      unfold rise at hr
      rw [cir_in c hb.1 hb.2, cir_pre hp hb.1 hb.2] at hr
      by_cases e : x = 0
      · rw [if_pos e, q2.2] at hr
        simp at hr
      · rw [if_neg e] at hr
        simp only [Bool.and_eq_true, Bool.not_eq_true'] at hr
        exact ⟨(mem x).mpr hr, e⟩
  · rename_i q
    refine asc_ext asc (fr_asc _ _) fun x => ?_
    rw [fr_mem (by omega)]
    constructor
    · intro hx
      have hb := bd x hx
      have hx2 := (mem x).mp hx
      refine ⟨hb, ?_⟩
      unfold rise
      rw [cir_in c hb.1 hb.2, cir_pre hp hb.1 hb.2, hx2.1]
      split
      · rename_i e
        subst e
        cases z : hitF c (p - 1) with
        | false => rfl
        | true => exact absurd (hw.mpr ⟨hx2.1, z⟩) q
      · rw [hx2.2]
        rfl
    · rintro ⟨hb, hr⟩
      unfold rise at hr
      rw [cir_in c hb.1 hb.2, cir_pre hp hb.1 hb.2] at hr
      simp only [Bool.and_eq_true, Bool.not_eq_true'] at hr
      refine (mem x).mpr ⟨hr.1, ?_⟩
      by_cases e : x = 0
      · rw [e]
        exact hm1
      · rw [if_neg e] at hr
        exact hr.2
theorem srt_lt {l : List Int} (h : l.Pairwise (· ≠ ·)) : (sortI l).Pairwise (· < ·) := by
  have h1 : (sortI l).Pairwise (· ≠ ·) := (sortI_perm l).symm.pairwise h (fun {a b} q => q.symm)
  refine (h1.and (sortI_srt l)).imp fun {a b} q => ?_
  have := q.1
  have := q.2
  omega
theorem falls_eq (hp : 1 ≤ p) (h : tidyF c 0 p = true) (hn : c ≠ []) : fallsF c p = fr (fall c p) p := by
  have asc0 := high_asc _ _ h
  have mem := highmem _ _ h
  have hw := wrap_iff hp h hn
  have bd : ∀ x ∈ c.map (·.2), 1 ≤ x ∧ x ≤ p := fun x hx => by
    have := tidy_bd h ((mem x).mp hx).1
    omega
  have hpp : hitF c p = false := hit_out (tidy_wf h) (.inr (Int.le_refl _))
  have em : (c.map fun a => a.2 % p) = (c.map (·.2)).map (· % p) := by rw [List.map_map]; rfl
  have asc : (sortI (c.map fun a => a.2 % p)).Pairwise (· < ·) := srt_lt (by
    rw [em, List.pairwise_map]
    refine asc0.imp_of_mem fun {a b} ha hb q => ?_
    have h1 := bd a ha
    have h2 := bd b hb
    intro e
    rw [Int.emod_eq_of_lt (by omega) (by omega : a < p)] at e
    rcases Int.lt_or_le b p with z | z
    · rw [Int.emod_eq_of_lt (by omega) z] at e
      omega
    · have : b = p := by omega
      rw [this, Int.emod_self] at e
      omega)
  have memS : ∀ x, x ∈ sortI (c.map fun a => a.2 % p) ↔ (0 ≤ x ∧ x < p) ∧ ((x ≠ 0 ∧ hitF c (x - 1) = true ∧ hitF c x = false) ∨ (x = 0 ∧ hitF c (p - 1) = true)) := fun x => by
    rw [(sortI_perm _).mem_iff, em, List.mem_map]
    constructor
    · rintro ⟨y, hy, rfl⟩
      have h1 := bd y hy
      have h2 := (mem y).mp hy
      rcases Int.lt_or_le y p with z | z
      · rw [Int.emod_eq_of_lt (by omega) z]
        exact ⟨⟨by omega, z⟩, .inl ⟨by omega, h2⟩⟩
      · have : y = p := by omega
        subst this
        rw [Int.emod_self]
        exact ⟨⟨Int.le_refl _, by omega⟩, .inr ⟨rfl, h2.1⟩⟩
    · rintro ⟨hb, ⟨e, h2⟩ | ⟨e, h2⟩⟩
      · exact ⟨x, (mem x).mpr h2, Int.emod_eq_of_lt hb.1 hb.2⟩
      · exact ⟨p, (mem p).mpr ⟨h2, hpp⟩, by rw [Int.emod_self, e]⟩
  unfold fallsF
  split
  · rename_i q
    have q2 := hw.mp q
    rw [cut_one]
    refine asc_ext (asc.drop) (fr_asc _ _) fun x => ?_
    rw [drop_mem asc (fun x hx => ((memS x).mp hx).1.1) ((memS 0).mpr ⟨⟨Int.le_refl _, by omega⟩, .inr ⟨rfl, q2.2⟩⟩), memS, fr_mem (by omega)]
    constructor
    · rintro ⟨⟨hb, ⟨_, h2⟩ | ⟨e, _⟩⟩, hne⟩
      · refine ⟨hb, ?_⟩
        unfold fall
        rw [cir_in c hb.1 hb.2, cir_pre hp hb.1 hb.2, if_neg hne, h2.1, h2.2]
        rfl
      · exact absurd e hne
    · rintro ⟨hb, hr⟩
      unfold fall at hr
      rw [cir_in c hb.1 hb.2, cir_pre hp hb.1 hb.2] at hr
      simp only [Bool.and_eq_true, Bool.not_eq_true'] at hr
      by_cases e : x = 0
      · rw [e, q2.1] at hr
        exact absurd hr.1 (by simp)
      · rw [if_neg e] at hr
        exact ⟨⟨hb, .inl ⟨e, hr.2, hr.1⟩⟩, e⟩
  · rename_i q
    refine asc_ext asc (fr_asc _ _) fun x => ?_
    rw [memS, fr_mem (by omega)]
    refine and_congr_right fun hb => ?_
    unfold fall
    rw [cir_in c hb.1 hb.2, cir_pre hp hb.1 hb.2]
    simp only [Bool.and_eq_true, Bool.not_eq_true']
    constructor
    · rintro (⟨e, h2⟩ | ⟨e, h2⟩)
      · rw [if_neg e]
        exact ⟨h2.2, h2.1⟩
      · rw [if_pos e]
        refine ⟨?_, h2⟩
        subst e
        cases z : hitF c 0 with
        | false => rfl
        | true => exact absurd (hw.mpr ⟨z, h2⟩) q
    · rintro ⟨h1, h2⟩
      by_cases e : x = 0
      · rw [if_pos e] at h2
        exact .inr ⟨e, h2⟩
      · rw [if_neg e] at h2
        exact .inl ⟨e, h2, h1⟩
end
def repF (l : List Int) (step p : Int) : Bool := decide (sortI (l.map fun a => (a + step) % p) = l)
theorem rep_iff {R : Int → Bool} {p step : Int} (hp : 1 ≤ p) (hR : ∀ t, R (t % p) = R t) : repF (fr R p) step p = true ↔ ∀ t, R (t + step) = R t := by
  unfold repF
  rw [decide_eq_true_eq]
  have mp : ∀ t : Int, 0 ≤ t % p ∧ t % p < p := fun t => ⟨Int.emod_nonneg t (by omega), Int.emod_lt_of_pos t (by omega)⟩
  constructor
  · intro h t
    have m1 : ∀ x, x ∈ (fr R p).map (fun a => (a + step) % p) ↔ x ∈ fr R p := fun x => by
      rw [← (sortI_perm _).mem_iff, h]
    cases e : R t with
    | true =>
      have h1 := (m1 ((t % p + step) % p)).mp (List.mem_map.mpr ⟨t % p, (fr_mem (by omega)).mpr ⟨mp t, by rw [hR]; exact e⟩, rfl⟩)
      have h2 := ((fr_mem (by omega)).mp h1).2
      rw [hR, ← hR, Int.emod_add_emod, hR] at h2
      exact h2
    | false =>
      cases e2 : R (t + step) with
      | false => rfl
      | true =>
        exfalso
        have h1 := (m1 ((t + step) % p)).mpr ((fr_mem (by omega)).mpr ⟨mp _, by rw [hR]; exact e2⟩)
        obtain ⟨x, hx, h3⟩ := List.mem_map.mp h1
        have h4 := (fr_mem (by omega)).mp hx
        have h5 : x % p = t % p := by
          have := congrArg (fun y => (y - step) % p) h3
          simp only [Int.emod_sub_emod] at this
          rwa [show x + step - step = x from by omega, show t + step - step = t from by omega] at this
        have : R t = R x := by rw [← hR t, ← h5, hR]
        rw [this, h4.2] at e
        cases e
  · intro h
    refine asc_ext (srt_lt ?_) (fr_asc _ _) fun x => ?_
    · rw [List.pairwise_map]
      refine (fr_asc R p).imp_of_mem fun {a b} ha hb q e => ?_
      have h1 := ((fr_mem (by omega)).mp ha).1
      have h2 := ((fr_mem (by omega)).mp hb).1
      have := congrArg (fun y => (y - step) % p) e
      simp only [Int.emod_sub_emod] at this
      rw [show a + step - step = a from by omega, show b + step - step = b from by omega, Int.emod_eq_of_lt h1.1 h1.2, Int.emod_eq_of_lt h2.1 h2.2] at this
      omega
    · rw [(sortI_perm _).mem_iff, List.mem_map]
      constructor
      · rintro ⟨y, hy, rfl⟩
        have h1 := (fr_mem (by omega)).mp hy
        exact (fr_mem (by omega)).mpr ⟨mp _, by rw [hR, h]; exact h1.2⟩
      · intro hx
        have h1 := (fr_mem (by omega)).mp hx
        refine ⟨(x - step) % p, (fr_mem (by omega)).mpr ⟨mp _, by
          rw [hR]
          have := h (x - step)
          rw [show x - step + step = x from by omega] at this
          rw [← this]
          exact h1.2⟩, ?_⟩
        rw [Int.emod_add_emod, show x - step + step = x from by omega]
        exact Int.emod_eq_of_lt h1.1.1 h1.1.2
section
variable {c : List Pr} {p : Int}
theorem cir_mod (hp : 1 ≤ p) (t : Int) : cir c p (t % p) = cir c p t := by unfold cir; rw [Int.emod_emod_of_dvd _ (Int.dvd_refl p)]
theorem cir_mod1 (hp : 1 ≤ p) (t : Int) : cir c p (t % p - 1) = cir c p (t - 1) := by unfold cir; rw [Int.emod_sub_emod]
theorem rise_mod (hp : 1 ≤ p) (t : Int) : rise c p (t % p) = rise c p t := by unfold rise; rw [cir_mod hp, cir_mod1 hp]
theorem fall_mod (hp : 1 ≤ p) (t : Int) : fall c p (t % p) = fall c p t := by unfold fall; rw [cir_mod hp, cir_mod1 hp]
theorem has_rise (hp : 1 ≤ p) (h : tidyF c 0 p = true) (hn : c ≠ []) (hf : c ≠ [(0, p)]) : ∃ t, rise c p t = true := by
  refine Classical.byContradiction fun q => hf ?_
  have nr : ∀ t, cir c p t = true → cir c p (t - 1) = true := fun t ht => by
    cases e : cir c p (t - 1) with
    | true => rfl
    | false => exact absurd ⟨t, by unfold rise; rw [ht, e]; rfl⟩ q
  obtain ⟨r, l, rfl⟩ := List.exists_cons_of_ne_nil hn
  have hr := tidy_wf h r (by simp)
  have hx : cir (r :: l) p r.1 = true := by
    rw [cir_in _ hr.1 (by omega)]
    exact ((lowmem _ _ h r.1).mp (by simp)).1
  have back : ∀ n : Nat, cir (r :: l) p (r.1 - n) = true := by
    intro n
    induction n with
    | zero => rw [show r.1 - ((0 : Nat) : Int) = r.1 from by simp]; exact hx
    | succ n ih =>
      have := nr _ ih
      rwa [show r.1 - (n : Int) - 1 = r.1 - ((n + 1 : Nat) : Int) from by omega] at this
  have all : ∀ t, 0 ≤ t → t < p → hitF (r :: l) t = true := fun t h0 h1 => by
    have := back (r.1 + p - t).toNat
    rw [show r.1 - (((r.1 + p - t).toNat : Nat) : Int) = t + p * (-1) from by omega, cir_add, cir_in _ h0 h1] at this
    exact this
  refine tidy_ext _ _ _ _ h (show tidyGo p (0 - 1) [(0, p)] = true from by simp [tidyGo]; omega) fun t => ?_
  by_cases z : 0 ≤ t ∧ t < p
  · rw [all t z.1 z.2]
    simp [hitF, z.1, z.2]
  · rw [hit_out (tidy_wf h) (by omega)]
    simp [hitF]
    omega
theorem per_of_rep (hp : 1 ≤ p) (h : tidyF c 0 p = true) (hn : c ≠ []) (hf : c ≠ [(0, p)]) {step : Int} (h1 : ∀ t, rise c p (t + step) = rise c p t) (h2 : ∀ t, fall c p (t + step) = fall c p t) : perB c p step := by
  obtain ⟨t0, ht0⟩ := has_rise hp h hn hf
  have val : ∀ x, cir c p x = (rise c p x || (!fall c p x && cir c p (x - 1))) := fun x => by
    unfold rise fall
    cases cir c p x <;> cases cir c p (x - 1) <;> rfl
  have main : ∀ n : Nat, cir c p (t0 + n + step) = cir c p (t0 + n) := by
    intro n
    induction n with
    | zero =>
      rw [show t0 + ((0 : Nat) : Int) = t0 from by simp]
      have a := h1 t0
      rw [ht0] at a
      unfold rise at a ht0
      simp only [Bool.and_eq_true] at a ht0
      rw [a.1, ht0.1]
    | succ n ih =>
      rw [val (t0 + ((n + 1 : Nat) : Int) + step), val (t0 + ((n + 1 : Nat) : Int)), h1, h2, show t0 + ((n + 1 : Nat) : Int) + step - 1 = t0 + n + step from by omega, show t0 + ((n + 1 : Nat) : Int) - 1 = t0 + n from by omega, ih]
  intro t
  have big : ∃ k : Int, t0 ≤ t + p * k := by
    refine ⟨if t < t0 then t0 - t else 0, ?_⟩
    split
    · have := Int.mul_le_mul_of_nonneg_right (c := t0 - t) hp (by omega)
      rw [Int.one_mul] at this
      omega
    · simp
      omega
  obtain ⟨k, hk⟩ := big
  have := main (t + p * k - t0).toNat
  rw [show t0 + (((t + p * k - t0).toNat : Nat) : Int) = t + p * k from by omega, cir_add, show t + p * k + step = t + step + p * k from by omega, cir_add] at this
  exact this
theorem rep_of_per {step : Int} (h : perB c p step) : (∀ t, rise c p (t + step) = rise c p t) ∧ ∀ t, fall c p (t + step) = fall c p t := by
  refine ⟨fun t => ?_, fun t => ?_⟩
  · unfold rise
    rw [h, show t + step - 1 = t - 1 + step from by omega, h]
  · unfold fall
    rw [h, show t + step - 1 = t - 1 + step from by omega, h]
/-- what the test of a step tells -/
theorem test_iff (hp : 1 ≤ p) (h : tidyF c 0 p = true) (hn : c ≠ []) (hf : c ≠ [(0, p)]) {d : Int} (L : LP c p d) (step : Int) : (repF (risesF c p) step p = true ∧ repF (fallsF c p) step p = true) ↔ d ∣ step := by
  rw [rises_eq hp h hn, falls_eq hp h hn, rep_iff hp (rise_mod hp), rep_iff hp (fall_mod hp)]
  exact ⟨fun q => L.dv _ (per_of_rep hp h hn hf q.1 q.2), fun q => rep_of_per (per_dvd L q)⟩
/-- the loop of lower_period -/
structure LI (d rest prime least : Int) : Prop where
  r1 : 1 ≤ rest
  p2 : 2 ≤ prime
  nd : ∀ q, 2 ≤ q → q < prime → ¬ q ∣ rest
  l1 : 1 ≤ least
  rl : rest ∣ least
  dl : d ∣ least
  lr : least / d ∣ rest
theorem LI.pl {d rest prime least : Int} (h : LI d rest prime least) (q : 1 < rest) : prime ≤ rest := by
  rcases Int.lt_or_le rest prime with z | z
  · exact absurd (Int.dvd_refl rest) (h.nd rest (by omega) z)
  · exact z
theorem li_start (hp : 1 ≤ p) (h : tidyF c 0 p = true) (hn : c ≠ []) {d : Int} (L : LP c p d) : LI d (Int.gcd p ((risesF c p).length : Int) : Int) 2 p := by
  have hd := L.d1
  have dv := L.dv p (per_self c p)
  refine ⟨?_, by decide, fun q h1 h2 => by omega, hp, Int.gcd_dvd_left .., dv, ?_⟩
  · have : 0 < Int.gcd p ((risesF c p).length : Int) := Int.gcd_pos_of_ne_zero_left _ (by omega)
    omega
  · refine Int.dvd_coe_gcd ?_ ?_
    · obtain ⟨k, rfl⟩ := dv
      rw [Int.mul_ediv_cancel_left _ (by omega)]
      exact Int.dvd_mul_left _ _
    · rw [rises_eq hp h hn]
      exact fr_dvd hp hd dv (rep_of_per L.pr).1
theorem li_next {d rest prime least : Int} (I : LI d rest prime least) (h : rest % prime ≠ 0) : LI d rest (prime + 1) least := by
  have := I.p2
  refine ⟨I.r1, by omega, fun q h1 h2 z => ?_, I.l1, I.rl, I.dl, I.lr⟩
  by_cases e : q = prime
  · subst e
    exact h (Int.emod_eq_zero_of_dvd z)
  · exact I.nd q h1 (by omega) z
theorem li_div {d rest prime least : Int} (hd : 1 ≤ d) (I : LI d rest prime least) (h : rest % prime = 0) : LI d (rest / prime) prime (if d ∣ least / prime then least / prime else least) ∧ rest / prime ≤ rest - rest / prime := by
  obtain ⟨r1, p2, nd, l1, rl, dl, lr⟩ := I
  obtain ⟨r, rfl⟩ := Int.dvd_of_emod_eq_zero h
  rw [Int.mul_ediv_cancel_left _ (by omega)]
  have rr : 1 ≤ r := by
    rcases Int.lt_or_le r 1 with q | q
    · have := Int.mul_nonpos_of_nonneg_of_nonpos (a := prime) (b := r) (by omega) (by omega)
      omega
    · exact q
  have r2 : r ≤ prime * r - r := by
    have := Int.mul_le_mul_of_nonneg_right (c := r) p2 (by omega)
    omega
  refine ⟨?_, r2⟩
  have nd' : ∀ q, 2 ≤ q → q < prime → ¬ q ∣ r := fun q h1 h2 z => nd q h1 h2 (Int.dvd_trans z (Int.dvd_mul_left _ _))
  obtain ⟨m, hm⟩ := rl
  have em : least / prime = r * m := by rw [hm, Int.mul_assoc, Int.mul_ediv_cancel_left _ (by omega)]
  obtain ⟨x, hx⟩ := dl
  have ex : least / d = x := by rw [hx, Int.mul_ediv_cancel_left _ (by omega)]
  rw [ex] at lr
  have m1 : 1 ≤ r * m := by
    rcases Int.lt_or_le (r * m) 1 with q | q
    · have := Int.mul_nonpos_of_nonneg_of_nonpos (a := prime) (b := r * m) (by omega) (by omega)
      rw [← Int.mul_assoc] at this
      omega
    · exact q
  have x1 : 1 ≤ x := by
    rcases Int.lt_or_le x 1 with q | q
    · have := Int.mul_nonpos_of_nonneg_of_nonpos (a := d) (b := x) (by omega) (by omega)
      omega
    · exact q
  split
  · rename_i q
    obtain ⟨y, hy⟩ := q
    have exy : x = prime * y := by
      have h1 : d * x = prime * (d * y) := by rw [← hx, ← hy, em, hm, Int.mul_assoc]
      have h2 : d * x = d * (prime * y) := by rw [h1, ← Int.mul_assoc, Int.mul_comm prime d, Int.mul_assoc]
      exact Int.eq_of_mul_eq_mul_left (by omega) h2
    refine ⟨rr, p2, nd', by rw [em]; exact m1, by rw [em]; exact Int.dvd_mul_right _ _, ⟨y, hy⟩, ?_⟩
    rw [hy, Int.mul_ediv_cancel_left _ (by omega)]
    rw [exy] at lr
    exact Int.dvd_of_mul_dvd_mul_left (by omega) lr
  · rename_i q
    refine ⟨rr, p2, nd', l1, ⟨prime * m, by rw [hm, Int.mul_comm prime r, Int.mul_assoc]⟩, ⟨x, hx⟩, ?_⟩
    rw [ex]
    have np : ¬ prime ∣ x := fun z => q (by
      obtain ⟨y, rfl⟩ := z
      refine ⟨y, ?_⟩
      have : prime * (r * m) = prime * (d * y) := by rw [← Int.mul_assoc, ← hm, hx, ← Int.mul_assoc, Int.mul_comm d prime, Int.mul_assoc]
      rw [em]
      exact Int.eq_of_mul_eq_mul_left (by omega) this)
    -- the greatest common divisor is 1
    have hg : Nat.Coprime x.natAbs prime.natAbs := by
      have g1 : ((Nat.gcd x.natAbs prime.natAbs : Nat) : Int) ∣ x := by
        rw [← Int.natAbs_dvd_natAbs, Int.natAbs_natCast]
        exact Nat.gcd_dvd_left _ _
      have g2 : ((Nat.gcd x.natAbs prime.natAbs : Nat) : Int) ∣ prime := by
        rw [← Int.natAbs_dvd_natAbs, Int.natAbs_natCast]
        exact Nat.gcd_dvd_right _ _
      have g3 : 0 < Nat.gcd x.natAbs prime.natAbs := Nat.gcd_pos_of_pos_right _ (by omega)
      have g4 := Int.le_of_dvd (by omega) g2
      show Nat.gcd x.natAbs prime.natAbs = 1
      generalize Nat.gcd x.natAbs prime.natAbs = g at *
      by_cases z : g = 1
      · exact z
      · exfalso
        by_cases z2 : (g : Int) = prime
        · rw [z2] at g1
          exact np g1
        · exact nd g (by omega) (by omega) (Int.dvd_trans g1 lr)
    rw [← Int.natAbs_dvd_natAbs] at lr ⊢
    rw [Int.natAbs_mul] at lr
    exact hg.dvd_of_dvd_mul_left lr
theorem li_end {d rest prime least : Int} (hd : 1 ≤ d) (I : LI d rest prime least) (h : ¬ 1 < rest) : least = d := by
  have r1 := I.r1
  have e : rest = 1 := by omega
  obtain ⟨x, hx⟩ := I.dl
  have lr := I.lr
  rw [hx, Int.mul_ediv_cancel_left _ (by omega), e] at lr
  have l1 := I.l1
  have x1 : 1 ≤ x := by
    rcases Int.lt_or_le x 1 with q | q
    · have := Int.mul_nonpos_of_nonneg_of_nonpos (a := d) (b := x) (by omega) (by omega)
      omega
    · exact q
  have := Int.le_of_dvd (by decide) lr
  have : x = 1 := by omega
  rw [hx, this, Int.mul_one]
end
noncomputable def lowerF (c : List Pr) (p : Int) : List Pr × Int := (cutF c 0 (lp c p), lp c p)
theorem lp_nil {p : Int} (hp : 1 ≤ p) : lp [] p = 1 := (lp_ok [] hp).uniq ⟨Int.le_refl _, fun t => by unfold cir hitF; rfl, fun e _ => Int.one_dvd e⟩
theorem lp_full {p : Int} (hp : 1 ≤ p) : lp [(0, p)] p = 1 := (lp_ok _ hp).uniq ⟨Int.le_refl _, fun t => by
  have h1 := fun t : Int => Int.emod_nonneg t (b := p) (by omega)
  have h2 := fun t : Int => Int.emod_lt_of_pos t (b := p) (by omega)
  unfold cir hitF
  simp [h1, h2], fun e _ => Int.one_dvd e⟩
theorem lower_nil {p : Int} (hp : 1 ≤ p) : lowerF [] p = ([], 1) := by unfold lowerF; rw [lp_nil hp]; rfl
theorem lower_full {p : Int} (hp : 1 ≤ p) : lowerF [(0, p)] p = ([(0, 1)], 1) := by
  unfold lowerF
  rw [lp_full hp]
  have : min p 1 = 1 := by omega
  simp [cutF, this]
end My
namespace My
open PySem PySem.Spec PyProof.Rows L2 Dy
def raiseIf (mg : Str → Option Value) (x : Str) (b : Bool) : Except Exn Unit := if b = true then .ok () else .error (xn (cAd mg x))
theorem raiseIf_er {mg : Str → Option Value} {x : Str} {b : Bool} {e : Exn} (h : raiseIf mg x b = .error e) : b = false ∧ e = xn (cAd mg x) := by
  unfold raiseIf at h
  cases b with
  | true => cases h
  | false => cases h; exact ⟨rfl, rfl⟩
theorem raiseIf_ok {mg : Str → Option Value} {x : Str} {b : Bool} {u : Unit} (h : raiseIf mg x b = .ok u) : b = true := by
  unfold raiseIf at h
  cases b with
  | true => rfl
  | false => cases h
end My
namespace My
open PySem PySem.Spec PyProof.Rows L2 Dy
theorem tidy_last {hi : Int} : ∀ (l : List Pr) (past : Int), tidyGo hi past l = true → l ≠ [] → past < (nth l 0).1 ∧ (nth l 0).1 < (nth l (l.length + -1)).2 ∧ (nth l (l.length + -1)).2 ≤ hi ∧ hitF l ((nth l (l.length + -1)).2 - 1) = true ∧ (∀ t, (nth l (l.length + -1)).2 ≤ t → hitF l t = false) ∧ (∀ t, t < (nth l 0).1 → hitF l t = false)
  | [], _, _, h => absurd rfl h
  | [p], past, h, _ => by
    rw [tidyGo_cons] at h
    have e : nth [p] ((([p] : List Pr).length : Int) + -1) = p := rfl
    have e0 : nth [p] 0 = p := rfl
    rw [e, e0]
    refine ⟨h.1.1, h.1.2.1, h.1.2.2, ?_, fun t ht => ?_, fun t ht => ?_⟩
    · simp [hitF]; omega
    · simp [hitF]; omega
    · simp [hitF]; omega
  | p :: q :: r, past, h, _ => by
    rw [tidyGo_cons] at h
    obtain ⟨a0, a1, a2, a3, a4, a5⟩ := tidy_last (q :: r) p.2 h.2 (by simp)
    have e : nth (p :: q :: r) (((p :: q :: r).length : Int) + -1) = nth (q :: r) (((q :: r).length : Int) + -1) := by
      simp only [nth, List.length_cons]
      rw [show (((r.length + 1 + 1 : Nat) : Int) + -1).toNat = r.length + 1 from by omega, show (((r.length + 1 : Nat) : Int) + -1).toNat = r.length from by omega]
      rfl
    have e0 : nth (p :: q :: r) 0 = p := rfl
    rw [e, e0]
    refine ⟨h.1.1, by omega, a2, ?_, fun t ht => ?_, fun t ht => ?_⟩
    · rw [hit_cons, a3, Bool.or_true]
    · rw [hit_cons, a4 t ht]
      simp
      omega
    · rw [hit_cons, a5 t (by omega)]
      simp
      omega
def ldRest (both row : List Pr) : List Pr := comF row (gapsF both (nth row 0).1 (nth row (row.length + -1)).2)
def ldRow (both row : List Pr) (last : Int) : Int := if row = [] then last else if ldRest both row = [] then last else max last (nth (ldRest both row) ((ldRest both row).length + -1)).2
def ldF (a b : List Pr) : Int := ldRow (comF a b) b (ldRow (comF a b) a 0)
theorem ldRow_ok {lo hi lo' hi' : Int} {both row : List Pr} (hb : tidyGo hi' lo' both = true) (hr : tidyGo hi lo row = true) (last : Int) : last ≤ ldRow both row last ∧ (∀ t, ldRow both row last ≤ t → hitF row t = true → hitF both t = true) ∧ (ldRow both row last = last ∨ (last < ldRow both row last ∧ hitF row (ldRow both row last - 1) = true ∧ hitF both (ldRow both row last - 1) = false)) := by
  unfold ldRow
  split
  · rename_i e
    rw [e]
    exact ⟨Int.le_refl _, fun t _ h => (by cases h), .inl rfl⟩
  · rename_i hn
    have hg := gapsF_tidy (a := (nth row 0).1) (b := (nth row (row.length + -1)).2) hb
    have tl := tidy_last row lo hr hn
    have hh : ∀ t, hitF (ldRest both row) t = (hitF row t && !hitF both t) := fun t => by
      unfold ldRest
      rw [com_hit t _ _ _ _ _ (Nat.le_refl _) hr hg, gapsF_hit hb]
      cases q : hitF row t with
      | false => rfl
      | true =>
        have h1 : (nth row 0).1 ≤ t := by
          rcases Int.lt_or_le t (nth row 0).1 with z | z
          · rw [tl.2.2.2.2.2 t z] at q; cases q
          · exact z
        have h2 : t < (nth row (row.length + -1)).2 := by
          rcases Int.lt_or_le t (nth row (row.length + -1)).2 with z | z
          · exact z
          · rw [tl.2.2.2.2.1 t z] at q; cases q
        rw [decide_eq_true h1, decide_eq_true h2]
        rfl
    have ht : tidyGo hi lo (ldRest both row) = true := com_tidy _ _ _ _ _ _ (Nat.le_refl _) hr hg (.inl (Int.le_refl _))
    split
    · rename_i e
      refine ⟨Int.le_refl _, fun t _ h => ?_, .inl rfl⟩
      have := hh t
      rw [e, h] at this
      cases q : hitF both t with
      | true => rfl
      | false => rw [q] at this; cases this
    · rename_i hne
      obtain ⟨a0, a1, a2, a3, a4, a5⟩ := tidy_last _ lo ht hne
      generalize (nth (ldRest both row) ((ldRest both row).length + -1)).2 = e at *
      refine ⟨by omega, fun t h1 h2 => ?_, ?_⟩
      · have := hh t
        rw [a4 t (by omega), h2] at this
        cases q : hitF both t with
        | true => rfl
        | false => rw [q] at this; cases this
      · rcases Int.lt_or_le last e with z | z
        · rw [Int.max_eq_right (by omega)]
          refine .inr ⟨z, ?_⟩
          rw [hh] at a3
          simpa using a3
        · exact .inl (Int.max_eq_left z)
theorem ldF_ok {lo hi lo' hi' : Int} {a b : List Pr} (ha : tidyGo hi lo a = true) (hb : tidyGo hi' lo' b = true) : 0 ≤ ldF a b ∧ (∀ t, ldF a b ≤ t → hitF a t = hitF b t) ∧ (ldF a b = 0 ∨ hitF a (ldF a b - 1) ≠ hitF b (ldF a b - 1)) := by
  have hc : tidyGo hi lo (comF a b) = true := com_tidy _ _ _ _ _ _ (Nat.le_refl _) ha hb (.inl (Int.le_refl _))
  have hh : ∀ t, hitF (comF a b) t = (hitF a t && hitF b t) := fun t => com_hit t _ _ _ _ _ (Nat.le_refl _) ha hb
  obtain ⟨a1, a2, a3⟩ := ldRow_ok hc ha 0
  obtain ⟨b1, b2, b3⟩ := ldRow_ok hc hb (ldRow (comF a b) a 0)
  unfold ldF
  generalize ldRow (comF a b) a 0 = x at *
  generalize ldRow (comF a b) b x = y at *
  refine ⟨by omega, fun t ht => ?_, ?_⟩
  · have p1 := a2 t (by omega)
    have p2 := b2 t ht
    rw [hh] at p1 p2
    cases q1 : hitF a t <;> cases q2 : hitF b t <;> simp_all
  · rcases b3 with b3 | b3
    · rw [b3]
      rcases a3 with a3 | a3
      · exact .inl a3
      · refine .inr ?_
        have := a3.2.2
        rw [hh, a3.2.1] at this
        rw [a3.2.1]
        intro z
        rw [← z] at this
        cases this
    · refine .inr ?_
      have := b3.2.2
      rw [hh, b3.2.1] at this
      rw [b3.2.1]
      intro z
      rw [z] at this
      cases this
theorem ls_nil {h : List Pr} {s p : Int} (hs : 0 ≤ s) (ht : tidyF h 0 s = true) : ldF h [] = ls h s p [] := by
  obtain ⟨a1, a2, a3⟩ := ldF_ok ht (show tidyGo 0 0 [] = true from rfl)
  have hc : ∀ t, cir [] p t = false := fun t => by unfold cir hitF; rfl
  have hn : ∀ t, hitF [] t = false := fun t => rfl
  refine LS.uniq (h := h) (s := s) (p := p) (c := []) ⟨a1, ?_, fun t h1 _ => by rw [hc, a2 t h1]; rfl, ?_⟩ (ls_ok h p [] hs)
  · rcases a3 with a3 | a3
    · omega
    · rw [hn] at a3
      have := tidy_bd ht (t := ldF h [] - 1) (by simpa using a3)
      omega
  · rcases a3 with a3 | a3
    · exact .inl a3
    · rw [hc]
      exact .inr a3
theorem ls_win {h c : List Pr} {s p low high : Int} (hp : 1 ≤ p) (ht : tidyF h 0 s = true) (hc : tidyF c 0 p = true) (h0 : 0 ≤ low) (h1 : high ≤ s) (he : ∀ t, high ≤ t → t < s → hitF h t = cir c p (t - s)) :
    (0 < ldF (cutF h low high) (unrF c s p low high) → ldF (cutF h low high) (unrF c s p low high) = ls h s p c) ∧ (¬ 0 < ldF (cutF h low high) (unrF c s p low high) → ∀ t, low ≤ t → t < s → hitF h t = cir c p (t - s)) := by
  have hcut : tidyGo high (-1 : Int) (cutF h low high) = true := cut_tidy _ _ _ ht (.inr (by omega))
  obtain ⟨a1, a2, a3⟩ := ldF_ok hcut (unr_tidy s low high hp hc)
  generalize ldF (cutF h low high) (unrF c s p low high) = m at *
  have hx : ∀ t, low ≤ t → t < high → m ≤ t → hitF h t = cir c p (t - s) := fun t b1 b2 b3 => by
    have := a2 t b3
    rw [cut_hit, unr_hit s low high hp hc, decide_eq_true b1, decide_eq_true b2] at this
    simpa using this
  refine ⟨fun q => ?_, fun q t b1 b2 => ?_⟩
  · have hm : low < m ∧ m ≤ high := by
      rcases a3 with a3 | a3
      · omega
      · rw [cut_hit, unr_hit s low high hp hc] at a3
        have : low ≤ m - 1 ∧ m - 1 < high := by
          apply Decidable.byContradiction
          intro z
          apply a3
          rw [← Bool.decide_and, decide_eq_false z]
          simp
        omega
    refine LS.uniq (h := h) (s := s) (p := p) (c := c) ⟨a1, by omega, fun t b1 b2 => ?_, .inr ?_⟩ (ls_ok h p c (by omega))
    · rcases Int.lt_or_le t high with z | z
      · exact hx t (by omega) z b1
      · exact he t z b2
    · rcases a3 with a3 | a3
      · omega
      · rw [cut_hit, unr_hit s low high hp hc, decide_eq_true (by omega), decide_eq_true (by omega)] at a3
        simpa using a3
  · rcases Int.lt_or_le t high with z | z
    · exact hx t b1 z (by omega)
    · exact he t z b2
theorem ls_all {h c : List Pr} {s p : Int} (hs : 0 ≤ s) (he : ∀ t, 0 ≤ t → t < s → hitF h t = cir c p (t - s)) : 0 = ls h s p c :=
  LS.uniq (h := h) (s := s) (p := p) (c := c) ⟨Int.le_refl _, hs, he, .inl rfl⟩ (ls_ok h p c hs)
theorem ls_bd {h c : List Pr} {s p : Int} (hs : 0 ≤ s) : 0 ≤ ls h s p c ∧ ls h s p c ≤ s := ⟨(ls_ok h p c hs).m0, (ls_ok h p c hs).ms⟩
def rowsN (c : List Pr) (p L : Int) : Int := (L / p + 2) * c.length
theorem turnN_le {s p a b : Int} (hp : 1 ≤ p) (hab : a < b) : (turnN s p a b : Int) ≤ (b - a) / p + 2 := by
  have h := turn0_bd (s := s) (a := a) hp
  unfold turnN
  have h4 : 0 ≤ (b - turn0 s p a + p - 1) / p := Int.ediv_nonneg (by omega) (by omega)
  rw [Int.toNat_of_nonneg h4]
  have : (b - turn0 s p a + p - 1) / p ≤ (b - a + 2 * p) / p := Int.ediv_le_ediv (by omega) (by omega)
  rw [Int.add_mul_ediv_right _ _ (by omega)] at this
  exact this
theorem turnN_gt {s p a b : Int} {n : Nat} (hp : 1 ≤ p) (h : turn0 s p a + n * p < b) : n < turnN s p a b := by
  unfold turnN
  have : (n : Int) + 1 ≤ (b - turn0 s p a + p - 1) / p := by
    apply Int.le_ediv_of_mul_le (by omega)
    rw [Int.add_mul, Int.one_mul]
    omega
  omega
theorem turnN_le2 {s p a b : Int} {n : Nat} (hp : 1 ≤ p) (h : ¬ turn0 s p a + n * p < b) : turnN s p a b ≤ n := by
  unfold turnN
  have : (b - turn0 s p a + p - 1) / p ≤ n := by
    have : (b - turn0 s p a + p - 1) / p < n + 1 := by
      apply Int.ediv_lt_of_lt_mul (by omega)
      rw [Int.add_mul, Int.one_mul]
      omega
    omega
  omega
theorem rows_le {c : List Pr} {s p a b : Int} (hp : 1 ≤ p) (hab : a < b) {n : Nat} (hn : n ≤ turnN s p a b) : (n * c.length : Nat) ≤ rowsN c p (b - a) := by
  have h1 := turnN_le (s := s) hp hab
  unfold rowsN
  rw [Int.natCast_mul]
  exact Int.mul_le_mul_of_nonneg_right (by omega) (by omega)
theorem tidy_len {hi : Int} : ∀ (l : List Pr) (past : Int), tidyGo hi past l = true → past ≤ hi → 2 * (l.length : Int) ≤ hi - past
  | [], past, _, h => by simp; omega
  | p :: r, past, h, _ => by
    rw [tidyGo_cons] at h
    have := tidy_len r p.2 h.2 (by omega)
    rw [List.length_cons]
    omega
theorem rowsN_mono {c : List Pr} {p L M : Int} (hp : 1 ≤ p) (h : L ≤ M) : rowsN c p L ≤ rowsN c p M := by
  unfold rowsN
  exact Int.mul_le_mul_of_nonneg_right (by have := Int.ediv_le_ediv (c := p) (by omega) h; omega) (by omega)
theorem unr_len {c : List Pr} {s p a b : Int} (hp : 1 ≤ p) (h0 : 0 ≤ rowsN c p (b - a)) : ((unrF c s p a b).length : Int) ≤ rowsN c p (b - a) := by
  unfold unrF
  split
  · simpa using h0
  · rename_i q
    have hn : c ≠ [] ∧ a < b := by
      constructor
      · intro z; exact q (.inl z)
      · rcases Int.lt_or_le a b with z | z
        · exact z
        · exact absurd (.inr z) q
    split
    · rename_i q2
      have := Int.ediv_nonneg (a := b - a) (b := p) (by omega) (by omega)
      unfold rowsN
      rw [q2]
      simp
      omega
    · have h1 := rows_le (c := c) (s := s) hp hn.2 (Nat.le_refl _)
      have h2 := cut_len (mergedF (turnsF c (turn0 s p a) p (turnN s p a b))) a b
      have h3 := merged_len (turnsF c (turn0 s p a) p (turnN s p a b))
      rw [turns_len] at h3
      omega
theorem rowsN_nonneg {c : List Pr} {p L : Int} (hp : 1 ≤ p) (hL : 0 ≤ L) : 0 ≤ rowsN c p L := by
  unfold rowsN
  exact Int.mul_nonneg (by have := Int.ediv_nonneg hL (b := p) (by omega); omega) (by omega)
/-- the lowered cycle -/
noncomputable def lowC (S : Sp) : List Pr := cutF (mergedF S.cycle) 0 (lp (mergedF S.cycle) S.period)
noncomputable def lowP (S : Sp) : Int := lp (mergedF S.cycle) S.period
/-- rows of a repeated cycle, one if it is whole -/
def rowsU (c : List Pr) (p L : Int) : Int := if c = [(0, p)] then 1 else rowsN c p L
theorem unr_lenU {c : List Pr} {s p a b : Int} (hp : 1 ≤ p) (h0 : a < b) : ((unrF c s p a b).length : Int) ≤ rowsU c p (b - a) := by
  unfold rowsU
  split
  · rename_i q
    unfold unrF
    rw [q]
    rw [if_neg (by simp; omega), if_pos rfl]
    simp
  · exact unr_len hp (rowsN_nonneg hp (by omega))
theorem rowsU_mono {c : List Pr} {p L M : Int} (hp : 1 ≤ p) (h : L ≤ M) : rowsU c p L ≤ rowsU c p M := by
  unfold rowsU
  split
  · omega
  · exact rowsN_mono hp h
theorem rises_len (c : List Pr) (p : Int) : (risesF c p).length ≤ c.length ∧ c.length ≤ (risesF c p).length + 1 := by
  unfold risesF
  split
  · rw [cut_one]
    simp
    omega
  · simp
theorem nodup_len {α : Type} [DecidableEq α] : ∀ {l m : List α}, l.Nodup → (∀ x ∈ l, x ∈ m) → l.length ≤ m.length
  | [], _, _, _ => Nat.zero_le _
  | a :: l, m, hn, h => by
    have ha := h a (by simp)
    have hn' := List.nodup_cons.mp hn
    have := nodup_len (l := l) (m := m.erase a) hn'.2 fun x hx => by
      have hne : x ≠ a := fun e => hn'.1 (e ▸ hx)
      exact (List.mem_erase_of_ne hne).mpr (h x (by simp [hx]))
    rw [List.length_erase_of_mem ha] at this
    have := List.length_pos_of_mem ha
    rw [List.length_cons]
    omega
theorem cn_one (R : Int → Bool) : ∀ n : Nat, cn R (n + 1) = (if R 0 = true then 1 else 0) + cn (fun t => R (t + 1)) n
  | 0 => by simp [cn]
  | n + 1 => by
    rw [cn, cn_one R n, cn]
    have : ((n + 1 : Nat) : Int) = (n : Int) + 1 := by omega
    rw [this]
    omega
theorem cn_shift1 {R : Int → Bool} {q : Nat} (h : ∀ t, R (t + q) = R t) : cn (fun t => R (t + 1)) q = cn R q := by
  have h1 := cn_one R q
  rw [cn] at h1
  have : R (q : Int) = R 0 := by rw [← h 0, Int.zero_add]
  rw [this] at h1
  omega
theorem cn_shift {q : Nat} : ∀ (k : Nat) {R : Int → Bool}, (∀ t, R (t + q) = R t) → cn (fun t => R (t + k)) q = cn R q
  | 0, R, h => by simp
  | k + 1, R, h => by
    have := cn_shift k (R := fun t => R (t + 1)) fun t => by rw [show t + (q : Int) + 1 = t + 1 + q from by omega, h]
    rw [cn_shift1 h] at this
    rw [← this]
    congr 1
    funext t
    congr 1
    omega
/-- a cycle's rows, told by those of a window -/
theorem rows_win {c l : List Pr} {q s0 ph M hi past : Int} {n : Nat} (hq : 1 ≤ q) (hM : q ≤ M) (hc : tidyF c 0 q = true) (hl : tidyGo hi past l = true) (hn : l.length ≤ n) (h : ∀ t, s0 ≤ t → t < s0 + M → hitF l t = cir c q (t - ph)) : rowsU c q M ≤ 4 * n + 6 := by
  unfold rowsU
  split
  · omega
  · rename_i hf
    by_cases hc0 : c = []
    · rw [hc0]
      unfold rowsN
      simp
      omega
    · obtain ⟨m, hm⟩ : ∃ m : Nat, M / q = m := ⟨(M / q).toNat, by rw [Int.toNat_of_nonneg (Int.ediv_nonneg (by omega) (by omega))]⟩
      have m1 : 1 ≤ m := by
        have : 1 ≤ M / q := Int.le_ediv_of_mul_le (by omega) (by omega)
        omega
      have hmq : (m : Int) * q ≤ M := by rw [← hm]; exact Int.ediv_mul_le _ (by omega)
      let R : Int → Bool := fun t => rise c q t
      have hR : ∀ t, R (t + (q.toNat : Nat)) = R t := fun t => by rw [Int.toNat_of_nonneg (by omega)]; exact (rep_of_per (per_self c q)).1 t
      -- a phase that is not below 0
      obtain ⟨k, hk⟩ : ∃ k : Nat, (k : Int) = (s0 - ph) % q := ⟨((s0 - ph) % q).toNat, by rw [Int.toNat_of_nonneg (Int.emod_nonneg _ (by omega))]⟩
      have e1 : (risesF c q).length = cn R q.toNat := by rw [rises_eq hq hc hc0]; exact fr_cn _ _
      have e2 : cn (fun t => R (t + k)) (m * q.toNat) = m * cn R q.toNat := by
        rw [cn_mul (R := fun t => R (t + k)) (d := q.toNat) (fun t => by
          show R (t + (q.toNat : Nat) + k) = R (t + k)
          rw [show t + ((q.toNat : Nat) : Int) + k = t + k + (q.toNat : Nat) from by omega]
          exact hR _) m, cn_shift k hR]
      have hRk : ∀ t, R (t + k) = R (t + (s0 - ph)) := fun t => by
        have := rise_mod (c := c) hq (t + k)
        have h2 := rise_mod (c := c) hq (t + (s0 - ph))
        show rise c q (t + k) = rise c q (t + (s0 - ph))
        rw [← this, ← h2, hk, Int.add_emod_emod]
      let ts : List Int := ((rng (m * q.toNat)).filter fun t => R (t + k))
      have hts : ts.length = m * (risesF c q).length := by
        show ((rng (m * q.toNat)).filter fun t => R (t + k)).length = _
        rw [fr_cn (fun t => R (t + k)), e2, e1]
      have hasc : ts.Pairwise (· < ·) := List.Pairwise.filter _ (rng_asc _)
      have hsub : ∀ x ∈ ts, x ∈ 0 :: l.map (fun r => r.1 - s0) := fun x hx => by
        obtain ⟨h1, h2⟩ := List.mem_filter.mp hx
        have h3 := (rng_mem (p := ((m * q.toNat : Nat) : Int)) (x := x) (by omega)).mp (by rw [Int.toNat_natCast]; exact h1)
        have h4 : ((m * q.toNat : Nat) : Int) = m * q := by rw [Int.natCast_mul, Int.toNat_of_nonneg (by omega)]
        rw [h4] at h3
        by_cases z : x = 0
        · rw [z]; simp
        · refine List.mem_cons_of_mem _ ?_
          have h5 : rise c q (x + (s0 - ph)) = true := (hRk x).symm.trans h2
          unfold rise at h5
          rw [Bool.and_eq_true, Bool.not_eq_true'] at h5
          have a1 := h (s0 + x) (by omega) (by omega)
          have a2 := h (s0 + x - 1) (by omega) (by omega)
          rw [show s0 + x - ph = x + (s0 - ph) from by omega, h5.1] at a1
          rw [show s0 + x - 1 - ph = x + (s0 - ph) - 1 from by omega, h5.2] at a2
          have := (lowmem l past hl (s0 + x)).mpr ⟨a1, a2⟩
          obtain ⟨r, hr, er⟩ := List.mem_map.mp this
          exact List.mem_map.mpr ⟨r, hr, by omega⟩
      have hlen := nodup_len (hasc.imp fun {a b} z => (Int.ne_of_lt z)) hsub
      rw [hts, List.length_cons, List.length_map] at hlen
      have r2 := rises_len c q
      have r3 : 1 ≤ (risesF c q).length := by
        obtain ⟨t, ht⟩ := has_rise hq hc hc0 hf
        have hmem : t % q ∈ risesF c q := by
          rw [rises_eq hq hc hc0, fr_mem (by omega)]
          exact ⟨⟨Int.emod_nonneg _ (by omega), Int.emod_lt_of_pos _ (by omega)⟩, by rw [rise_mod hq]; exact ht⟩
        exact List.length_pos_of_mem hmem
      generalize (risesF c q).length = w at *
      unfold rowsN
      rw [hm]
      have h6 : m * 1 ≤ m * w := Nat.mul_le_mul_left m r3
      have h7 : 1 * w ≤ m * w := Nat.mul_le_mul_right w m1
      have h8 : (m + 2) * c.length ≤ (m + 2) * (w + 1) := Nat.mul_le_mul_left _ r2.2
      have h9 : (m + 2) * (w + 1) = m * w + m + 2 * w + 2 := by rw [Nat.add_mul, Nat.mul_add]; omega
      have h10 : ((m : Int) + 2) * (c.length : Int) = (((m + 2) * c.length : Nat) : Int) := by rw [Int.natCast_mul]; rfl
      rw [h10]
      omega
def spnOk (S : Sp) : Bool := decide (0 ≤ S.since ∧ 1 ≤ S.period) && (S.head.all fun r => decide (0 ≤ r.1 ∧ r.1 < r.2 ∧ r.2 ≤ S.since)) && (S.cycle.all fun r => decide (0 ≤ r.1 ∧ r.1 < r.2 ∧ r.2 ≤ S.period))
theorem spnOk_iff {S : Sp} : spnOk S = true ↔ SR S := by
  unfold spnOk
  simp only [Bool.and_eq_true, decide_eq_true_eq, List.all_eq_true]
  constructor
  · rintro ⟨⟨⟨h1, h2⟩, h3⟩, h4⟩
    exact ⟨h1, h2, h3, h4⟩
  · intro h
    exact ⟨⟨⟨h.s0, h.p1⟩, h.th⟩, h.tc⟩
/-- what the walk needs of a description: few rows -/
structure SN (S : Sp) : Prop where
  pb : S.period < 1073741824
  n : S.head.length + S.cycle.length ≤ 10200
theorem lowP_bd {S : Sp} (h : SR S) : 1 ≤ lowP S ∧ lowP S ≤ S.period := by
  have L := lp_ok (mergedF S.cycle) h.p1
  exact ⟨L.d1, Int.le_of_dvd (by have := h.p1; omega) (L.dv _ (per_self _ _))⟩
theorem lowC_tidy {S : Sp} (h : SR S) : tidyF (lowC S) 0 (lowP S) = true := cut_tidy _ _ _ (merged_tidy h.tc) (.inl (by omega))
theorem low_cir {S : Sp} (h : SR S) (t : Int) : cir (lowC S) (lowP S) t = cir S.cycle S.period t := by
  have L := lp_ok (mergedF S.cycle) h.p1
  unfold lowC lowP
  rw [cut_cir h.p1 L]
  unfold cir
  exact merged_hit h.tc _
/-- the rows of the loop of least_since -/
theorem low_win {S : Sp} (h : SR S) {n : Nat} (hn : S.head.length + S.cycle.length ≤ n) {high M : Int} (h1 : high ≤ S.since) (h0 : 0 ≤ high) (he : ∀ t, high ≤ t → t < S.since → hitF (mergedF S.head) t = cir (lowC S) (lowP S) (t - S.since)) (hM : M ≤ S.since - high + lowP S) : rowsU (lowC S) (lowP S) M ≤ 4 * n + 6 := by
  have b := lowP_bd h
  refine Int.le_trans (rowsU_mono b.1 hM) ?_
  have w : Wf 0 (S.since + S.period) (S.head ++ movedF S.cycle S.since) := Wf.app (h.th.mono (Int.le_refl _) (by have := h.p1; omega)) ((wf_shift S.since h.tc).mono (by have := h.s0; omega) (by omega))
  refine rows_win (l := mergedF (S.head ++ movedF S.cycle S.since)) (s0 := high) (ph := S.since) b.1 (by omega) (lowC_tidy h) (merged_tidy w) ?_ fun t a1 a2 => ?_
  · have := merged_len (S.head ++ movedF S.cycle S.since)
    rw [List.length_append, List.length_map] at this
    omega
  · rw [merged_hit w, hit_app, hit_shift]
    rcases Int.lt_or_le t S.since with z | z
    · rw [hit_out (t := t - S.since) h.tc (.inl (by omega)), Bool.or_false, ← he t a1 z, merged_hit h.th]
    · rw [hit_out h.th (.inr z), Bool.false_or, low_cir h, cir_in _ (by omega) (by omega)]
end My
namespace My
open PySem PySem.Spec PyProof.Rows L2 Dy
abbrev ePr : Pr → D := eP D.int D.int
abbrev nmSp : List Str := ["head", "since", "period", "cycle"]
abbrev flSp (S : Sp) : List D := [eQ ePr S.head, .int S.since, .int S.period, eQ ePr S.cycle]
abbrev dSp (mg : Str → Option Value) (S : Sp) : D := .obj (cAd mg "Spans") nmSp (flSp S)
abbrev dSpT (S : Sp) : D := .tup [eQ ePr S.head, .int S.since, .int S.period, eQ ePr S.cycle]
noncomputable def spMk (mg : Str → Option Value) (S : Sp) : Except Exn Sp := if spnOk S = true then .ok (nfS S) else .error (xn (cAd mg "InvalidSpans"))
theorem spMk_of {mg : Str → Option Value} {S : Sp} (h : SR S) : spMk mg S = .ok (nfS S) := by
  unfold spMk
  rw [if_pos (spnOk_iff.mpr h)]
/-- few rows in a family of sets -/
structure Fam (s p : Int) (n : Nat) (S : Sp) : Prop where
  v : SV S
  s1 : S.since ≤ s
  dv : S.period ∣ p
  p1 : 1 ≤ p
  len : (partsF S 0 (s + p)).length ≤ n
theorem Fam.s0 {s p : Int} {n : Nat} {S : Sp} (h : Fam s p n S) : 0 ≤ s := Int.le_trans h.v.w.s0 h.s1
theorem Fam.pp {s p : Int} {n : Nat} {S : Sp} (h : Fam s p n S) : S.period ≤ p := Int.le_of_dvd (by have := h.p1; omega) h.dv
theorem Fam.mono {s p : Int} {n m : Nat} {S : Sp} (h : Fam s p n S) (q : n ≤ m) : Fam s p m S := ⟨h.v, h.s1, h.dv, h.p1, Nat.le_trans h.len q⟩
theorem tidyF_len {lo hi : Int} {l : List Pr} (h : tidyF l lo hi = true) (q : lo ≤ hi + 1) : 2 * (l.length : Int) ≤ hi - lo + 1 := by
  have := tidy_len l (lo - 1) h (by omega)
  omega
theorem fam_small {s p : Int} {S : Sp} (h : SV S) (h1 : S.since ≤ s) (h2 : S.period ∣ p) (hp : 1 ≤ p) : Fam s p ((s + p + 1) / 2).toNat S := by
  have s0 := h.w.s0
  refine ⟨h, h1, h2, hp, ?_⟩
  have := tidyF_len (parts_tidy h.w 0 (s + p)) (by omega)
  omega
/-- parts of parts -/
theorem parts_cut {S : Sp} (h : SW S) {a b c d : Int} (h1 : a ≤ c) (h2 : d ≤ b) : partsF S c d = cutF (partsF S a b) c d := by
  refine tidy_ext _ _ _ _ (parts_tidy h c d) (cut_tidy _ _ (c - 1) (parts_tidy h a b) (.inl (by omega))) fun t => ?_
  rw [parts_hit h, cut_hit, parts_hit h]
  by_cases q : c ≤ t ∧ t < d
  · rw [decide_eq_true q.1, decide_eq_true q.2, decide_eq_true (by omega : a ≤ t), decide_eq_true (by omega : t < b)]
    simp
  · rw [← Bool.decide_and, decide_eq_false q]
    simp
theorem parts_len_le {S : Sp} (h : SW S) {a b c d : Int} (h1 : a ≤ c) (h2 : d ≤ b) : (partsF S c d).length ≤ (partsF S a b).length := by
  rw [parts_cut h h1 h2]
  exact cut_len _ _ _
theorem Fam.plen {s p : Int} {n : Nat} {S : Sp} (h : Fam s p n S) {a b : Int} (h1 : 0 ≤ a) (h2 : b ≤ s + p) : (partsF S a b).length ≤ n := Nat.le_trans (parts_len_le h.v.w h1 h2) h.len
theorem gen_at {S : Sp} (h : SW S) {t : Int} (q : S.since ≤ t) : genF S t = cir S.cycle S.period (t - S.since) := by
  unfold genF
  rw [if_neg (by omega)]
theorem Fam.hlen {s p : Int} {n : Nat} {S : Sp} (h : Fam s p n S) : S.head.length ≤ n := by
  have e : S.head = partsF S 0 S.since := tidy_ext _ _ _ _ h.v.w.th (parts_tidy h.v.w 0 S.since) fun t => by
    rw [parts_hit h.v.w]
    unfold genF
    by_cases q : 0 ≤ t ∧ t < S.since
    · rw [decide_eq_true q.1, decide_eq_true q.2, if_pos q.2]
      rfl
    · rw [← Bool.decide_and, decide_eq_false q, hit_out (tidy_wf h.v.w.th) (by omega)]
      rfl
  rw [e]
  exact h.plen (Int.le_refl _) (by have := h.s1; have := h.p1; omega)
theorem Fam.clen {s p : Int} {n : Nat} {S : Sp} (h : Fam s p n S) : S.cycle.length ≤ n := by
  have e : movedF S.cycle S.since = partsF S S.since (S.since + S.period) := tidy_ext _ _ (0 + S.since - 1) (S.since - 1) (tidy_shift S.since h.v.w.tc) (parts_tidy h.v.w S.since (S.since + S.period)) fun t => by
    rw [parts_hit h.v.w, hit_shift]
    by_cases q : S.since ≤ t ∧ t < S.since + S.period
    · rw [decide_eq_true q.1, decide_eq_true q.2, gen_at h.v.w q.1, cir_in _ (by omega) (by omega)]
      rfl
    · rw [← Bool.decide_and, decide_eq_false q, hit_out (tidy_wf h.v.w.tc) (by omega)]
      rfl
  have h2 : S.cycle.length = (movedF S.cycle S.since).length := by simp
  rw [h2, e]
  exact h.plen h.v.w.s0 (by have := h.s1; have := h.pp; omega)
/-- the rows that parts walks -/
theorem Fam.rows {s p : Int} {n : Nat} {S : Sp} (h : Fam s p n S) {M : Int} (hM : M ≤ s - S.since + p) : rowsU S.cycle S.period M ≤ 4 * n + 6 := by
  have q1 := h.v.w.p1
  refine Int.le_trans (rowsU_mono q1 hM) ?_
  refine rows_win (l := partsF S 0 (s + p)) (s0 := S.since) (ph := S.since) q1 (by have := h.s1; have := h.pp; omega) h.v.w.tc (parts_tidy h.v.w 0 (s + p)) h.len fun t a1 a2 => ?_
  have := h.v.w.s0
  rw [parts_hit h.v.w, decide_eq_true (by omega), decide_eq_true (by omega), gen_at h.v.w a1]
  rfl
/-- what the walk of parts needs -/
structure PB (S : Sp) (a b : Int) : Prop where
  w : SW S
  pb : S.period < 1073741824
  hl : S.head.length ≤ 10200
  cl : S.cycle.length ≤ 11000
  rn : max a S.since < b → rowsU S.cycle S.period (b - max a S.since) ≤ 41000
theorem Fam.pB {s p : Int} {n : Nat} {S : Sp} (h : Fam s p n S) (hp : p < 1073741824) (hn : n ≤ 10200) {a b : Int} (hb : b ≤ s + p) : PB S a b :=
  ⟨h.v.w, by have := h.pp; omega, by have := h.hlen; omega, by have := h.clen; omega, fun q => by have := h.rows (M := b - max a S.since) (by omega); omega⟩
def bD (rows : List Pr) (s p : Int) : Sp := ⟨cutF rows 0 s, s, p, movedF (cutF rows s (s + p)) (-s)⟩
theorem bD_ok {rows : List Pr} {s p past hi : Int} (h : tidyGo hi past rows = true) (hs : 0 ≤ s) (hp : 1 ≤ p) : SR (bD rows s p) := by
  refine ⟨hs, hp, tidy_wf (lo := 0) (hi := s) (cut_tidy _ _ _ h (.inl (by omega))), ?_⟩
  have h1 : Wf s (s + p) (cutF rows s (s + p)) := tidy_wf (cut_tidy _ _ _ h (.inl (by omega)))
  exact (wf_shift (-s) h1).mono (by omega) (by show s + p + -s ≤ p; omega)
end My
namespace My
open PySem PySem.Spec PyProof.Rows L2 Dy
def opS_ (A B : Sp) : Int := max A.since B.since
def opP (A B : Sp) : Int := (Int.lcm A.period B.period : Int)
theorem opP_pos {A B : Sp} (ha : 1 ≤ A.period) (hb : 1 ≤ B.period) : 1 ≤ opP A B := by
  unfold opP
  have : 0 < Int.lcm A.period B.period := Int.lcm_pos (by omega) (by omega)
  omega
theorem opP_dvd {A B : Sp} {p : Int} (ha : A.period ∣ p) (hb : B.period ∣ p) : opP A B ∣ p := Int.coe_lcm_dvd ha hb
section
variable {s p : Int} {n m : Nat} {A B : Sp}
/-- what the walk of the two-place operations needs -/
def OpB (A B : Sp) : Prop := ∃ (s p : Int) (n m : Nat), Fam s p n A ∧ Fam s p m B ∧ n + m ≤ 10200 ∧ p < 1073741824
structure OpW (A B : Sp) : Prop where
  pa : PB A 0 (opS_ A B + opP A B)
  pb : PB B 0 (opS_ A B + opP A B)
  l : (partsF A 0 (opS_ A B + opP A B)).length + (partsF B 0 (opS_ A B + opP A B)).length ≤ 10200
  s0 : 0 ≤ opS_ A B
  p1 : 1 ≤ opP A B
  pl : opP A B < 1073741824
  ap : 1 ≤ A.period ∧ A.period < 1073741824
  bp : 1 ≤ B.period ∧ B.period < 1073741824
theorem OpB.w (h : OpB A B) : OpW A B := by
  obtain ⟨s, p, n, m, ha, hb, hl, hp⟩ := h
  have p1 := opP_pos ha.v.w.p1 hb.v.w.p1
  have hd := Int.le_of_dvd (by have := ha.p1; omega) (opP_dvd ha.dv hb.dv)
  have hw : opS_ A B + opP A B ≤ s + p := by unfold opS_; have := ha.s1; have := hb.s1; omega
  have := ha.plen (Int.le_refl 0) hw
  have := hb.plen (Int.le_refl 0) hw
  exact ⟨ha.pB hp (by omega) hw, hb.pB hp (by omega) hw, by omega, by unfold opS_; have := ha.v.w.s0; omega, p1, by omega, ⟨ha.v.w.p1, by have := ha.pp; omega⟩, ⟨hb.v.w.p1, by have := hb.pp; omega⟩⟩
theorem bD_n {rows : List Pr} {s p past hi : Int} (h : tidyGo hi past rows = true) (hp : 0 ≤ p) (hs : 0 ≤ s) : (bD rows s p).head.length + (bD rows s p).cycle.length ≤ rows.length + 1 := by
  show (cutF rows 0 s).length + ((cutF rows s (s + p)).map _).length ≤ _
  rw [List.length_map]
  -- a row lies in both only once
  have key : ∀ (l : List Pr) (past : Int), tidyGo hi past l = true → (cutF l 0 s).length + (cutF l s (s + p)).length ≤ l.length + 1 ∧ (s ≤ past → (cutF l 0 s).length = 0) := by
    intro l
    induction l with
    | nil => intro past _; simp [cutF]
    | cons r l ih =>
      intro past h
      rw [tidyGo_cons] at h
      obtain ⟨i1, i2⟩ := ih r.2 h.2
      have hc := cut_len l s (s + p)
      rw [cutF, cutF]
      constructor
      · by_cases z : s ≤ r.2
        · have := i2 z
          split <;> split <;> simp only [List.length_cons] <;> omega
        · rw [if_neg (show ¬ max r.1 s < min r.2 (s + p) from by omega)]
          split <;> simp only [List.length_cons] <;> omega
      · intro z
        rw [if_neg (show ¬ max r.1 0 < min r.2 s from by omega)]
        exact i2 (by omega)
  exact (key rows past h).1
theorem bD_sn {rows : List Pr} {s p past hi : Int} (h : tidyGo hi past rows = true) (hp : 0 ≤ p) (hs : 0 ≤ s) (h1 : p < 1073741824) (h2 : rows.length + 1 ≤ 10200) : SN (bD rows s p) := ⟨h1, by have := bD_n h hp hs; omega⟩
end
end My
namespace My
open PySem PySem.Spec PyProof.Rows L2 Dy
/-- a description's family -/
theorem desc_fam {D : Sp} {s' p' : Int} (h : SR D) (h1 : D.since ≤ s') (h2 : D.period ∣ p') (h3 : 1 ≤ p') : Fam s' p' ((s' + p' + 1) / 2).toNat (nfS D) ∧ ∀ t, 0 ≤ t → genF (nfS D) t = genF D t := by
  obtain ⟨a1, a2⟩ := nf_ok h
  refine ⟨fam_small a1 ?_ ?_ h3, fun t _ => a2 t⟩
  · refine Int.le_trans ?_ h1
    unfold nfS
    split
    · rename_i q
      exact Int.le_of_lt q
    · exact Int.le_refl _
  · have : (nfS D).period = lp (mergedF D.cycle) D.period := by
      unfold nfS
      split <;> rfl
    rw [this]
    exact Int.dvd_trans ((lp_ok _ h.p1).dv _ (per_self _ _)) h2
section
variable {s p : Int} {n m : Nat} {A B : Sp}
theorem shiftD_ok (h : SW A) {k : Int} (hk : 0 ≤ k) : SR ⟨movedF A.head k, A.since + k, A.period, A.cycle⟩ ∧ ∀ t, 0 ≤ t → genF ⟨movedF A.head k, A.since + k, A.period, A.cycle⟩ t = genF A (t - k) := by
  refine ⟨⟨by show 0 ≤ A.since + k; have := h.s0; omega, h.p1, ((wf_shift k (tidy_wf h.th)).mono (by omega) (Int.le_refl _)), tidy_wf h.tc⟩, fun t ht => ?_⟩
  unfold genF
  dsimp only
  by_cases q : t < A.since + k
  · rw [if_pos q, if_pos (by omega), hit_shift]
  · rw [if_neg q, if_neg (by omega), show t - (A.since + k) = t - k - A.since from by omega]
end
end My
namespace My
open PySem PySem.Spec PyProof.Rows L2 Dy
def okSp (ps : List Pr) (y : Int) : Bool := ps.all fun r => decide (0 ≤ r.1 ∧ r.1 < r.2 ∧ r.2 ≤ y)
theorem okSp_iff {ps : List Pr} {y : Int} : okSp ps y = true ↔ Wf 0 y ps := by
  unfold okSp
  simp only [List.all_eq_true, decide_eq_true_eq]
  exact Iff.rfl
structure LsP (hd : List Pr) (sn pd : Int) (cy : List Pr) : Prop where
  s0 : 0 ≤ sn
  p1 : 1 ≤ pd
  pb : pd < 1073741824
  th : tidyF hd 0 sn = true
  tc : tidyF cy 0 pd = true
  hl : hd.length ≤ 10200
  cl : cy.length ≤ 10200
  rn : ∀ high M, 0 ≤ high → high ≤ sn → (∀ t, high ≤ t → t < sn → hitF hd t = cir cy pd (t - sn)) → M ≤ sn - high + pd → rowsU cy pd M ≤ 41000
theorem lsP_of {S : Sp} (h : SR S) (n : SN S) : LsP (mergedF S.head) S.since (lowP S) (lowC S) := by
  have b := lowP_bd h
  have n1 := n.n
  have l1 := merged_len S.head
  have l2 := merged_len S.cycle
  have l3 := cut_len (mergedF S.cycle) 0 (lp (mergedF S.cycle) S.period)
  refine ⟨h.s0, b.1, by have := n.pb; omega, merged_tidy h.th, lowC_tidy h, by omega, by show (cutF _ _ _).length ≤ _; omega, fun high M a1 a2 a3 a4 => ?_⟩
  have := low_win h n.n a2 a1 a3 a4
  omega
/-- the row walked by one turn of the loop -/
theorem LsP.win {hd : List Pr} {sn pd : Int} {cy : List Pr} (h : LsP hd sn pd cy) {high step : Int} (h0 : 0 < high) (h1 : high ≤ sn) (he : ∀ t, high ≤ t → t < sn → hitF hd t = cir cy pd (t - sn)) (hs : step ≤ sn - high + pd) (s1 : 1 ≤ step) :
    rowsU cy pd (high - max 0 (high - step)) ≤ 41000 ∧ (cutF hd (max 0 (high - step)) high).length ≤ 11000 ∧ (unrF cy sn pd (max 0 (high - step)) high).length ≤ 41000 := by
  have r := h.rn high (high - max 0 (high - step)) (by omega) h1 he (by omega)
  refine ⟨r, by have := cut_len hd (max 0 (high - step)) high; have := h.hl; omega, ?_⟩
  have := unr_lenU (c := cy) (s := sn) (a := max 0 (high - step)) (b := high) h.p1 (by omega)
  omega
structure BuB (rows : List Pr) (sn pd : Int) : Prop where
  t : ∃ past hi, tidyGo hi past rows = true
  s0 : 0 ≤ sn
  p1 : 1 ≤ pd
  pb : pd < 1073741824
  l : rows.length + 1 ≤ 10200
theorem BuB.sr {rows : List Pr} {sn pd : Int} (h : BuB rows sn pd) : SR (bD rows sn pd) := by
  obtain ⟨past, hi, t⟩ := h.t
  exact bD_ok t h.s0 h.p1
theorem BuB.sn {rows : List Pr} {sn pd : Int} (h : BuB rows sn pd) : SN (bD rows sn pd) := by
  obtain ⟨past, hi, t⟩ := h.t
  have := h.p1
  exact bD_sn t (by omega) h.s0 h.pb h.l
end My
namespace My
open PySem PySem.Spec PyProof.Rows L2 Dy
def descR (c : Int) : Sp :=
  let d := digits (rich (c / 3)) [40, 36, 4]
  ⟨rowF (c + 5) (nth d 0), nth d 0, 1 + nth d 1, rowF (c / 2 + 9) (1 + nth d 1)⟩
def descT (S : Sp) (k : Int) : Sp := if k = 1 ∧ S.period < 19 then ⟨S.head, S.since, 2 * S.period, S.cycle ++ movedF S.cycle S.period⟩ else S
def descV (S : Sp) (k : Int) : Sp := if k = 2 then ⟨S.head.reverse, S.since, S.period, S.cycle.reverse⟩ else S
def descF (c : Int) : Sp := descV (descT (descR c) (nth (digits (rich (c / 3)) [40, 36, 4]) 2)) (nth (digits (rich (c / 3)) [40, 36, 4]) 2)
theorem desc_dig (c : Int) : let d := digits (rich (c / 3)) [40, 36, 4]; (0 ≤ nth d 0 ∧ nth d 0 < 40) ∧ (0 ≤ nth d 1 ∧ nth d 1 < 36) ∧ (0 ≤ nth d 2 ∧ nth d 2 < 4) := by
  have h := fun i h => digits_nth [40, 36, 4] (rich (c / 3)) i h (by decide)
  exact ⟨by simpa using h 0 (by decide), by simpa using h 1 (by decide), by simpa using h 2 (by decide)⟩
structure DescV (S : Sp) : Prop where
  r : SR S
  n : S.head.length + S.cycle.length ≤ 12
  s : S.since ≤ 39
  p : S.period ≤ 36
theorem descR_ok (c : Int) : SR (descR c) ∧ (descR c).head.length ≤ 4 ∧ (descR c).cycle.length ≤ 4 ∧ (descR c).since ≤ 39 ∧ (descR c).period ≤ 36 := by
  have h := desc_dig c
  dsimp only at h
  unfold descR
  generalize digits (rich (c / 3)) [40, 36, 4] = d at *
  dsimp only
  exact ⟨⟨h.1.1, by show 1 ≤ 1 + nth d 1; omega, (rowF_wf _ _).1, (rowF_wf _ _).1⟩, (rowF_wf _ _).2, (rowF_wf _ _).2, by omega, by omega⟩
theorem descF_ok (c : Int) : DescV (descF c) := by
  have h := descR_ok c
  unfold descF
  generalize nth (digits (rich (c / 3)) [40, 36, 4]) 2 = k
  generalize descR c = S at *
  obtain ⟨h1, h2, h3, h4, h5⟩ := h
  have hT : SR (descT S k) ∧ (descT S k).head.length + (descT S k).cycle.length ≤ 12 ∧ (descT S k).since ≤ 39 ∧ (descT S k).period ≤ 36 := by
    unfold descT
    split
    · rename_i q
      refine ⟨⟨h1.s0, by have := h1.p1; show 1 ≤ 2 * S.period; omega, h1.th, ?_⟩, by simp; omega, h4, by show 2 * S.period ≤ 36; omega⟩
      exact Wf.app (h1.tc.mono (Int.le_refl _) (by show S.period ≤ 2 * S.period; have := h1.p1; omega)) ((wf_shift S.period h1.tc).mono (by have := h1.p1; omega) (by show S.period + S.period ≤ 2 * S.period; omega))
    · exact ⟨h1, by omega, h4, h5⟩
  generalize descT S k = U at *
  obtain ⟨t1, t2, t3, t4⟩ := hT
  unfold descV
  split
  · exact ⟨⟨t1.s0, t1.p1, t1.th.sub fun r hr => List.mem_reverse.mp hr, t1.tc.sub fun r hr => List.mem_reverse.mp hr⟩, by simpa using t2, t3, t4⟩
  · exact ⟨t1, t2, t3, t4⟩
theorem DescV.sn {S : Sp} (h : DescV S) : SN S := ⟨by have := h.p; omega, by have := h.n; omega⟩
theorem nf_per {S : Sp} (h : SR S) : 1 ≤ (nfS S).period ∧ (nfS S).period ∣ S.period ∧ (nfS S).since ≤ S.since ∧ (nfS S).period ≤ S.period := by
  have h2 := (desc_fam (s' := S.since) (p' := S.period) h (Int.le_refl _) (Int.dvd_refl _) h.p1).1
  exact ⟨h2.v.w.p1, h2.dv, h2.s1, h2.pp⟩
theorem Fam.in_ {s p : Int} {n : Nat} {S : Sp} (h : Fam s p n S) (t : Int) : inF S t = genF S t := in_gen h.v.w.r t
end My
namespace My
open PySem PySem.Spec PyProof.Rows L2 Dy
structure GivM where
  a : List Pr
  b : List Pr
abbrev dGiv (mg : Str → Option Value) (s : GivM) : D := .lst [eL (eP D.int D.int) s.a, eL (eP D.int D.int) s.b]
abbrev cGiv (mg : Str → Option Value) (A : Nat → Addr) (s : GivM) : Cels := [(A 0, .lst [.adr (A 1), .adr (A 2)]), (A 1, .lst (s.a.map (eP D.int D.int))), (A 2, .lst (s.b.map (eP D.int D.int)))]
theorem vw_Giv {mg : Str → Option Value} {A : Nat → Addr} {s : GivM} {cs : Cels} (h : ∀ q ∈ cGiv mg A s, q ∈ cs) : Vw cs (.adr (A 0)) (dGiv mg s) :=
  .lst (h _ (List.mem_cons_self)) (.cons (.lst (h _ (by simp)) (Vws.refls _)) (.cons (.lst (h _ (by simp)) (Vws.refls _)) .nil))
theorem pyE_pr : PyE ePr 1 := pyE_pair pyE_int pyE_int
theorem fre_sp {cs : Cels} {mg : Str → Option Value} (h : clsN cs nmSp) : FreE cs (dSp mg) := fun S => ⟨h, fre_Q (fre_pair fre_int fre_int) _, trivial, trivial, fre_Q (fre_pair fre_int fre_int) _, trivial⟩
end My
set_option synthInstance.maxSize 4000
namespace My
open PySem PySem.Spec PyProof.Rows L2 Dy
def top (i : Nat) : Stmt := PySem.Challenge.pw_dayspread_k23_instants_of_a_span_set.main.body.getD i (.Pass ⟨0, 0, 0, 0⟩)
def kw_Spans (K : PySem.W.Frag) : List (Str × V) := []
structure Txt (K : PySem.W.Frag) (mg : Str → Option Value) : Prop where
  merged : ∃ (f : Addr) (fd : FuncData), Fun K "merged" "merged" (top 6) f fd ∧ mg "merged" = some (.ref f)
  cut : ∃ (f : Addr) (fd : FuncData), Fun K "cut" "cut" (top 7) f fd ∧ mg "cut" = some (.ref f)
  gaps : ∃ (f : Addr) (fd : FuncData), Fun K "gaps" "gaps" (top 8) f fd ∧ mg "gaps" = some (.ref f)
  common : ∃ (f : Addr) (fd : FuncData), Fun K "common" "common" (top 9) f fd ∧ mg "common" = some (.ref f)
  moved : ∃ (f : Addr) (fd : FuncData), Fun K "moved" "moved" (top 10) f fd ∧ mg "moved" = some (.ref f)
  unrolled : ∃ (f : Addr) (fd : FuncData), Fun K "unrolled" "unrolled" (top 12) f fd ∧ mg "unrolled" = some (.ref f)
  rises : ∃ (f : Addr) (fd : FuncData), Fun K "rises" "rises" (top 13) f fd ∧ mg "rises" = some (.ref f)
  falls : ∃ (f : Addr) (fd : FuncData), Fun K "falls" "falls" (top 14) f fd ∧ mg "falls" = some (.ref f)
  repeats_by : ∃ (f : Addr) (fd : FuncData), Fun K "repeats_by" "repeats_by" (top 15) f fd ∧ mg "repeats_by" = some (.ref f)
  lower_period : ∃ (f : Addr) (fd : FuncData), Fun K "lower_period" "lower_period" (top 16) f fd ∧ mg "lower_period" = some (.ref f)
  last_difference : ∃ (f : Addr) (fd : FuncData), Fun K "last_difference" "last_difference" (top 17) f fd ∧ mg "last_difference" = some (.ref f)
  least_since : ∃ (f : Addr) (fd : FuncData), Fun K "least_since" "least_since" (top 18) f fd ∧ mg "least_since" = some (.ref f)
  normal_form : ∃ (f : Addr) (fd : FuncData), Fun K "normal_form" "normal_form" (top 19) f fd ∧ mg "normal_form" = some (.ref f)
  check_spans : ∃ (f : Addr) (fd : FuncData), Fun K "check_spans" "check_spans" (top 21) f fd ∧ mg "check_spans" = some (.ref f)
  mk_Spans : ∃ (f : Addr) (fd : FuncData), Mk K (cAd mg "Spans") f ∧ FunD K "__init__" "Spans.__init__" (defArgs (inClass (top 23) 0)) (defBody (inClass (top 23) 0)) (defScope (inClass (top 23) 0)) [] (kw_Spans K) f fd
  built : ∃ (f : Addr) (fd : FuncData), Fun K "built" "built" (top 22) f fd ∧ mg "built" = some (.ref f)
  Spans_parts : ∃ (f : Addr) (fd : FuncData), Fun K "parts" "Spans.parts" (inClass (top 23) 7) f fd ∧ Meth K (cAd mg "Spans") "parts" f
  Spans___and : ∃ (f : Addr) (fd : FuncData), Fun K "__and__" "Spans.__and__" (inClass (top 23) 4) f fd ∧ Meth K (cAd mg "Spans") "__and__" f
  Spans___invert : ∃ (f : Addr) (fd : FuncData), Fun K "__invert__" "Spans.__invert__" (inClass (top 23) 6) f fd ∧ Meth K (cAd mg "Spans") "__invert__" f
  Spans___sub : ∃ (f : Addr) (fd : FuncData), Fun K "__sub__" "Spans.__sub__" (inClass (top 23) 5) f fd ∧ Meth K (cAd mg "Spans") "__sub__" f
  Spans___contains : ∃ (f : Addr) (fd : FuncData), Fun K "__contains__" "Spans.__contains__" (inClass (top 23) 1) f fd ∧ Meth K (cAd mg "Spans") "__contains__" f
  Spans___eq : ∃ (f : Addr) (fd : FuncData), Fun K "__eq__" "Spans.__eq__" (inClass (top 23) 2) f fd ∧ Meth K (cAd mg "Spans") "__eq__" f
  Spans___or : ∃ (f : Addr) (fd : FuncData), Fun K "__or__" "Spans.__or__" (inClass (top 23) 3) f fd ∧ Meth K (cAd mg "Spans") "__or__" f
  Spans_next_from : ∃ (f : Addr) (fd : FuncData), Fun K "next_from" "Spans.next_from" (inClass (top 23) 11) f fd ∧ Meth K (cAd mg "Spans") "next_from" f
  Spans_first : ∃ (f : Addr) (fd : FuncData), Fun K "first" "Spans.first" (inClass (top 23) 10) f fd ∧ Meth K (cAd mg "Spans") "first" f
  Spans_shifted : ∃ (f : Addr) (fd : FuncData), Fun K "shifted" "Spans.shifted" (inClass (top 23) 14) f fd ∧ Meth K (cAd mg "Spans") "shifted" f
  law_cell : ∃ (f : Addr) (fd : FuncData), Fun K "_law_cell" "_law_cell" (top 25) f fd ∧ mg "_law_cell" = some (.ref f)
  law_digits : ∃ (f : Addr) (fd : FuncData), Fun K "_law_digits" "_law_digits" (top 26) f fd ∧ mg "_law_digits" = some (.ref f)
  law_rich : ∃ (f : Addr) (fd : FuncData), Fun K "_law_rich" "_law_rich" (top 27) f fd ∧ mg "_law_rich" = some (.ref f)
  law_row : ∃ (f : Addr) (fd : FuncData), Fun K "_law_row" "_law_row" (top 28) f fd ∧ mg "_law_row" = some (.ref f)
  law_description : ∃ (f : Addr) (fd : FuncData), Fun K "_law_description" "_law_description" (top 29) f fd ∧ mg "_law_description" = some (.ref f)
  law_in : ∃ (f : Addr) (fd : FuncData), Fun K "_law_in" "_law_in" (top 30) f fd ∧ mg "_law_in" = some (.ref f)
  law : ∃ (f : Addr) (fd : FuncData), Fun K "law" "law" (top 31) f fd ∧ mg "law" = some (.ref f)
  gl_Spans : mg "Spans" = some (.ref (cAd mg "Spans"))
  cl_Spans : Cls K (cAd mg "Spans")
  na_Spans_head : NoAttr K (cAd mg "Spans") "head"
  na_Spans_since : NoAttr K (cAd mg "Spans") "since"
  na_Spans_period : NoAttr K (cAd mg "Spans") "period"
  na_Spans_cycle : NoAttr K (cAd mg "Spans") "cycle"
  x_InvalidSpans : ExcF K mg "InvalidSpans" (cAd mg "InvalidSpans")
  sf_Spans : PySem.W.selfFirst K (cAd mg "Spans") = true
  is_Spans : Isi K (cAd mg "Spans")
  ki_Spans_Spans : PySem.W.kitOne K (.ref (cAd mg "Spans")) (.ref (cAd mg "Spans")) = some true
  f_gcd : mg "gcd" = some (.builtin "math.gcd")
  f_lcm : mg "lcm" = some (.builtin "math.lcm")
  b_abs : mg "abs" = none
  b_int : mg "int" = none
  b_isinstance : mg "isinstance" = none
  b_len : mg "len" = none
  b_list : mg "list" = none
  b_max : mg "max" = none
  b_min : mg "min" = none
  b_range : mg "range" = none
  b_sorted : mg "sorted" = none
  b_tuple : mg "tuple" = none
theorem kb_Spans_4_all {K : PySem.W.Frag} {f : Addr} {fd : FuncData} (F : FunD K "__init__" "Spans.__init__" (defArgs (inClass (top 23) 0)) (defBody (inClass (top 23) 0)) (defScope (inClass (top 23) 0)) [] (kw_Spans K) f fd) : ∃ g, KBn K fd ["self", "head", "since", "period", "cycle"] (4 + 1) [] g (fun vs zs => vs ++ zs) := by
  exact ⟨_, kbn_of2 (FunD.bindsN F fun _ _ _ _ _ _ us hl => match us, hl with | [_, _, _, _, _], _ => rfl) rfl⟩
theorem nd_Spans : nmSp.Nodup := by decide
abbrev s_merged : Stmt := (top 6)
def R_merged : Rl := fun ds r => ∃ (ps : List (Int × Int)), ds = [((eL (eP D.int D.int)) ps)] ∧ (ps.length ≤ 90000) ∧ r = .ok ((eQ (eP D.int D.int)) (mergedF ps))
theorem r_merged {ps : List (Int × Int)} (hpre : ps.length ≤ 90000) : R_merged [((eL (eP D.int D.int)) ps)] (.ok ((eQ (eP D.int D.int)) (mergedF ps))) := ⟨ps, rfl, hpre, rfl⟩
theorem sc_merged : FnScope ["spans", "rows", "start", "end"] ["spans"] (defScope s_merged) := ⟨rfl, rfl, rfl, by decide +kernel, rfl, by decide +kernel, by decide +kernel⟩
section
variable {P : Program} {w : World} {K : PySem.W.Frag} {mg : Str → Option Value} {base : Heap}
theorem ok_merged (T : Txt K mg) {f : Addr} {fd : FuncData} (F : Fun K "merged" "merged" s_merged f fd) : FnOk P w K mg base (L2.CX P w) 1 f fd ["spans"] (spR K (R_merged )) := by
  refine fnok_of F sc_merged (fun ds r h => ?_) (fun cdv A outer s H E B ds r hr h => ?_)
  · obtain ⟨_, rfl, _⟩ := h
    rfl
  obtain ⟨ps, rfl, hpre, rfl⟩ := h
  refine js_cons (js_setLE 1 (eP D.int D.int) ([] : List (Int × Int)) (FL.to (eP D.int D.int) ([] : List (Int × Int)) (fl_lst av_nil) rfl) (fun rows h_rows => ?_) sc_merged.nd)
  refine js_cons (js_overL (is := [2, 3]) (sortP ps) (eP D.int D.int) (fun (a : Int × Int) Δ => ((Δ.set 2 (.val (D.int a.1))).set 3 (.val (D.int a.2)))) (fun (pre0 : List (Int × Int)) (rows1 : (List (Int × Int))) => [.val ((eL (eP D.int D.int)) ps), .own (rows1.map (eP D.int D.int)), .un, .un]) (fun (pre0 : List (Int × Int)) (rows1 : (List (Int × Int))) => MI ps rows1 pre0) rows (FL.jv (fl_sortP (RV.qv (LV.rv (JV.lv (jv_v 0 ((eL (eP D.int D.int)) ps))))) T.b_sorted)) ?tgt0 ?h00 ⟨.inr rfl, .inr rfl, .inl rfl, .inl rfl, trivial⟩ ?turn0 ?done0 (passes_of rfl) rfl)
  case tgt0 => exact tg2 2 3 sc_merged.nd rfl
  case h00 =>
    try dsimp only
    exact .inl ⟨h_rows, rfl⟩
  case turn0 =>
    rintro B pre0 av post0 rows1 e0 iv0
    try dsimp only at iv0
    have hlen := MI.len iv0; have hsl : pre0.length < 90000 := by have h9 := (sortP_perm ps).length_eq; rw [e0] at h9; simp at h9; omega
    refine js_cons (js_if (tv_w (wv_and (tv_neNL hr (PyE.toN (pyE_pair pyE_int pyE_int)) (by decide) (lv_own 1) (FL.lv (fl_lst av_nil))) (fun q1 => (wv_and1 (tv_le (jv_v 2 (D.int av.1)) (jv_ixT (d := (D.int ((nth rows1 (rows1.length + (-(1 : Int)))).2))) (jv_ixL (d := ((eP D.int D.int) (nth rows1 (rows1.length + (-(1 : Int)))))) (LV.rv (lv_own 1)) (jv_neg jv_int) (atI_last' (by decide) (by have h0 : rows1 ≠ [] := (by simpa using q1); have := List.length_pos_iff.mpr h0; omega))) jv_int rfl)))))) (fun c1 => ?_) (fun c1 => ?_))
    ·
      have hc : rows1 ≠ [] ∧ av.1 ≤ (nth rows1 (rows1.length + -1)).2 := by simpa using c1
      have hp := List.length_pos_iff.mpr hc.1
      refine js_cons (js_setIxE 1 (eP D.int D.int) rows1 ((nth rows1 (rows1.length + (-(1 : Int)))).1, (max ((nth rows1 (rows1.length + (-(1 : Int)))).2) av.2)) (k := (-(1 : Int))) (j := ((-(1 : Int)) + rows1.length).toNat) (JV.to ((eP D.int D.int) ((nth rows1 (rows1.length + (-(1 : Int)))).1, (max ((nth rows1 (rows1.length + (-(1 : Int)))).2) av.2))) (jv_tup (av_cons (jv_ixT (d := (D.int ((nth rows1 (rows1.length + (-(1 : Int)))).1))) (jv_ixL (d := ((eP D.int D.int) (nth rows1 (rows1.length + (-(1 : Int)))))) (LV.rv (lv_own 1)) (jv_neg jv_int) (atI_last' (by decide) (by first | decide | omega | (simp only [Dy.cutD, List.length_append, List.length_map, List.length_cons, List.length_nil, List.length_take, List.length_drop]; omega) | (simp_all; done) | (simp_all; omega)))) jv_int rfl) (av_cons (JV.to (.int (max ((nth rows1 (rows1.length + (-(1 : Int)))).2) av.2)) (jv_max2 rfl (jv_ixT (d := (D.int ((nth rows1 (rows1.length + (-(1 : Int)))).2))) (jv_ixL (d := ((eP D.int D.int) (nth rows1 (rows1.length + (-(1 : Int)))))) (LV.rv (lv_own 1)) (jv_neg jv_int) (atI_last' (by decide) (by first | decide | omega | (simp only [Dy.cutD, List.length_append, List.length_map, List.length_cons, List.length_nil, List.length_take, List.length_drop]; omega) | (simp_all; done) | (simp_all; omega)))) jv_int rfl) (jv_v 3 (D.int av.2)) T.b_max) (by rw [max_py])) av_nil))) rfl) (jv_neg jv_int) (ixN_neg (by decide) (by first | decide | omega | (simp only [Dy.cutD, List.length_append, List.length_map, List.length_cons, List.length_nil, List.length_take, List.length_drop]; omega) | (simp_all; done) | (simp_all; omega))) (fun rows2 h_rows2 => ?_))
      refine js_nil ?_
      refine js_nil ⟨rows2, ?_, ⟨.inr rfl, .inr rfl, .inl rfl, .inl rfl, trivial⟩⟩
      try dsimp only
      rw [h_rows2]; exact mi_set iv0 e0 hc rfl
    ·
      have hc : ¬ (rows1 ≠ [] ∧ av.1 ≤ (nth rows1 (rows1.length + -1)).2) := by simpa using c1
      refine js_cons (js_appE 1 (eP D.int D.int) rows1 (av.1, av.2) (JV.to ((eP D.int D.int) (av.1, av.2)) (jv_tup (av_cons (jv_v 2 (D.int av.1)) (av_cons (jv_v 3 (D.int av.2)) av_nil))) rfl) (by first | decide | omega | (simp only [Dy.cutD, List.length_append, List.length_map, List.length_cons, List.length_nil, List.length_take, List.length_drop]; omega) | (simp_all; done) | (simp_all; omega)) (fun rows3 h_rows3 => ?_))
      refine js_nil ?_
      refine js_nil ⟨rows3, ?_, ⟨.inr rfl, .inr rfl, .inl rfl, .inl rfl, trivial⟩⟩
      try dsimp only
      rw [h_rows3]; exact mi_app iv0 e0 hc
  case done0 =>
    rintro rows1 iv0
    try dsimp only at iv0
    refine js_cons (js_ret (jv_tupL (LV.rv (lv_own 1)) T.b_tuple) ?_)
    refine congrArg (fun z => Except.ok ((eQ (eP D.int D.int)) z)) (show mergedF ps = rows1 from ?_)
    exact mi_done iv0
theorem fn_merged (T : Txt K mg) : Fn P w K mg base 1 "merged" (R_merged ) := by
  obtain ⟨f, fd, F, gf⟩ := T.merged
  exact ⟨f, fd, _, ok_merged T F, gf, F.kp, F.binds fun _ _ _ _ _ _ us hl => match us, hl with | [_], _ => rfl⟩
end
abbrev s_merged_Q : Stmt := (top 6)
def R_merged_Q : Rl := fun ds r => ∃ (ps : List (Int × Int)), ds = [((eQ (eP D.int D.int)) ps)] ∧ (ps.length ≤ 90000) ∧ r = .ok ((eQ (eP D.int D.int)) (mergedF ps))
theorem r_merged_Q {ps : List (Int × Int)} (hpre : ps.length ≤ 90000) : R_merged_Q [((eQ (eP D.int D.int)) ps)] (.ok ((eQ (eP D.int D.int)) (mergedF ps))) := ⟨ps, rfl, hpre, rfl⟩
theorem sc_merged_Q : FnScope ["spans", "rows", "start", "end"] ["spans"] (defScope s_merged_Q) := ⟨rfl, rfl, rfl, by decide +kernel, rfl, by decide +kernel, by decide +kernel⟩
section
variable {P : Program} {w : World} {K : PySem.W.Frag} {mg : Str → Option Value} {base : Heap}
theorem ok_merged_Q (T : Txt K mg) {f : Addr} {fd : FuncData} (F : Fun K "merged" "merged" s_merged_Q f fd) : FnOk P w K mg base (L2.CX P w) 1 f fd ["spans"] (spR K (R_merged_Q )) := by
  refine fnok_of F sc_merged_Q (fun ds r h => ?_) (fun cdv A outer s H E B ds r hr h => ?_)
  · obtain ⟨_, rfl, _⟩ := h
    rfl
  obtain ⟨ps, rfl, hpre, rfl⟩ := h
  refine js_cons (js_setLE 1 (eP D.int D.int) ([] : List (Int × Int)) (FL.to (eP D.int D.int) ([] : List (Int × Int)) (fl_lst av_nil) rfl) (fun rows h_rows => ?_) sc_merged_Q.nd)
  refine js_cons (js_overL (is := [2, 3]) (sortP ps) (eP D.int D.int) (fun (a : Int × Int) Δ => ((Δ.set 2 (.val (D.int a.1))).set 3 (.val (D.int a.2)))) (fun (pre0 : List (Int × Int)) (rows1 : (List (Int × Int))) => [.val ((eQ (eP D.int D.int)) ps), .own (rows1.map (eP D.int D.int)), .un, .un]) (fun (pre0 : List (Int × Int)) (rows1 : (List (Int × Int))) => MI ps rows1 pre0) rows (FL.jv (fl_sortP (JV.qv (jv_v 0 ((eQ (eP D.int D.int)) ps))) T.b_sorted)) ?tgt0 ?h00 ⟨.inr rfl, .inr rfl, .inl rfl, .inl rfl, trivial⟩ ?turn0 ?done0 (passes_of rfl) rfl)
  case tgt0 => exact tg2 2 3 sc_merged_Q.nd rfl
  case h00 =>
    try dsimp only
    exact .inl ⟨h_rows, rfl⟩
  case turn0 =>
    rintro B pre0 av post0 rows1 e0 iv0
    try dsimp only at iv0
    have hlen := MI.len iv0; have hsl : pre0.length < 90000 := by have h9 := (sortP_perm ps).length_eq; rw [e0] at h9; simp at h9; omega
    refine js_cons (js_if (tv_w (wv_and (tv_neNL hr (PyE.toN (pyE_pair pyE_int pyE_int)) (by decide) (lv_own 1) (FL.lv (fl_lst av_nil))) (fun q1 => (wv_and1 (tv_le (jv_v 2 (D.int av.1)) (jv_ixT (d := (D.int ((nth rows1 (rows1.length + (-(1 : Int)))).2))) (jv_ixL (d := ((eP D.int D.int) (nth rows1 (rows1.length + (-(1 : Int)))))) (LV.rv (lv_own 1)) (jv_neg jv_int) (atI_last' (by decide) (by have h0 : rows1 ≠ [] := (by simpa using q1); have := List.length_pos_iff.mpr h0; omega))) jv_int rfl)))))) (fun c1 => ?_) (fun c1 => ?_))
    ·
      have hc : rows1 ≠ [] ∧ av.1 ≤ (nth rows1 (rows1.length + -1)).2 := by simpa using c1
      have hp := List.length_pos_iff.mpr hc.1
      refine js_cons (js_setIxE 1 (eP D.int D.int) rows1 ((nth rows1 (rows1.length + (-(1 : Int)))).1, (max ((nth rows1 (rows1.length + (-(1 : Int)))).2) av.2)) (k := (-(1 : Int))) (j := ((-(1 : Int)) + rows1.length).toNat) (JV.to ((eP D.int D.int) ((nth rows1 (rows1.length + (-(1 : Int)))).1, (max ((nth rows1 (rows1.length + (-(1 : Int)))).2) av.2))) (jv_tup (av_cons (jv_ixT (d := (D.int ((nth rows1 (rows1.length + (-(1 : Int)))).1))) (jv_ixL (d := ((eP D.int D.int) (nth rows1 (rows1.length + (-(1 : Int)))))) (LV.rv (lv_own 1)) (jv_neg jv_int) (atI_last' (by decide) (by first | decide | omega | (simp only [Dy.cutD, List.length_append, List.length_map, List.length_cons, List.length_nil, List.length_take, List.length_drop]; omega) | (simp_all; done) | (simp_all; omega)))) jv_int rfl) (av_cons (JV.to (.int (max ((nth rows1 (rows1.length + (-(1 : Int)))).2) av.2)) (jv_max2 rfl (jv_ixT (d := (D.int ((nth rows1 (rows1.length + (-(1 : Int)))).2))) (jv_ixL (d := ((eP D.int D.int) (nth rows1 (rows1.length + (-(1 : Int)))))) (LV.rv (lv_own 1)) (jv_neg jv_int) (atI_last' (by decide) (by first | decide | omega | (simp only [Dy.cutD, List.length_append, List.length_map, List.length_cons, List.length_nil, List.length_take, List.length_drop]; omega) | (simp_all; done) | (simp_all; omega)))) jv_int rfl) (jv_v 3 (D.int av.2)) T.b_max) (by rw [max_py])) av_nil))) rfl) (jv_neg jv_int) (ixN_neg (by decide) (by first | decide | omega | (simp only [Dy.cutD, List.length_append, List.length_map, List.length_cons, List.length_nil, List.length_take, List.length_drop]; omega) | (simp_all; done) | (simp_all; omega))) (fun rows2 h_rows2 => ?_))
      refine js_nil ?_
      refine js_nil ⟨rows2, ?_, ⟨.inr rfl, .inr rfl, .inl rfl, .inl rfl, trivial⟩⟩
      try dsimp only
      rw [h_rows2]; exact mi_set iv0 e0 hc rfl
    ·
      have hc : ¬ (rows1 ≠ [] ∧ av.1 ≤ (nth rows1 (rows1.length + -1)).2) := by simpa using c1
      refine js_cons (js_appE 1 (eP D.int D.int) rows1 (av.1, av.2) (JV.to ((eP D.int D.int) (av.1, av.2)) (jv_tup (av_cons (jv_v 2 (D.int av.1)) (av_cons (jv_v 3 (D.int av.2)) av_nil))) rfl) (by first | decide | omega | (simp only [Dy.cutD, List.length_append, List.length_map, List.length_cons, List.length_nil, List.length_take, List.length_drop]; omega) | (simp_all; done) | (simp_all; omega)) (fun rows3 h_rows3 => ?_))
      refine js_nil ?_
      refine js_nil ⟨rows3, ?_, ⟨.inr rfl, .inr rfl, .inl rfl, .inl rfl, trivial⟩⟩
      try dsimp only
      rw [h_rows3]; exact mi_app iv0 e0 hc
  case done0 =>
    rintro rows1 iv0
    try dsimp only at iv0
    refine js_cons (js_ret (jv_tupL (LV.rv (lv_own 1)) T.b_tuple) ?_)
    refine congrArg (fun z => Except.ok ((eQ (eP D.int D.int)) z)) (show mergedF ps = rows1 from ?_)
    exact mi_done iv0
theorem fn_merged_Q (T : Txt K mg) : Fn P w K mg base 1 "merged" (R_merged_Q ) := by
  obtain ⟨f, fd, F, gf⟩ := T.merged
  exact ⟨f, fd, _, ok_merged_Q T F, gf, F.kp, F.binds fun _ _ _ _ _ _ us hl => match us, hl with | [_], _ => rfl⟩
end
abbrev s_cut : Stmt := (top 7)
def R_cut : Rl := fun ds r => ∃ (ps : List (Int × Int)) (x : Int) (y : Int), ds = [((eQ (eP D.int D.int)) ps), (D.int x), (D.int y)] ∧ (ps.length ≤ 90000) ∧ r = .ok ((eQ (eP D.int D.int)) (cutF ps x y))
theorem r_cut {ps : List (Int × Int)} {x : Int} {y : Int} (hpre : ps.length ≤ 90000) : R_cut [((eQ (eP D.int D.int)) ps), (D.int x), (D.int y)] (.ok ((eQ (eP D.int D.int)) (cutF ps x y))) := ⟨ps, x, y, rfl, hpre, rfl⟩
theorem sc_cut : FnScope ["spans", "start", "stop", "rows", "low", "high"] ["spans", "start", "stop"] (defScope s_cut) := ⟨rfl, rfl, rfl, by decide +kernel, rfl, by decide +kernel, by decide +kernel⟩
section
variable {P : Program} {w : World} {K : PySem.W.Frag} {mg : Str → Option Value} {base : Heap}
theorem ok_cut (T : Txt K mg) {f : Addr} {fd : FuncData} (F : Fun K "cut" "cut" s_cut f fd) : FnOk P w K mg base (L2.CX P w) 1 f fd ["spans", "start", "stop"] (spR K (R_cut )) := by
  refine fnok_of F sc_cut (fun ds r h => ?_) (fun cdv A outer s H E B ds r hr h => ?_)
  · obtain ⟨_, _, _, rfl, _⟩ := h
    rfl
  obtain ⟨ps, x, y, rfl, hpre, rfl⟩ := h
  refine js_cons (js_setLE 3 (eP D.int D.int) ([] : List (Int × Int)) (FL.to (eP D.int D.int) ([] : List (Int × Int)) (fl_lst av_nil) rfl) (fun rows h_rows => ?_) sc_cut.nd)
  refine js_cons (js_overT (is := [4, 5]) ps (eP D.int D.int) (fun (a : Int × Int) Δ => ((Δ.set 4 (.val (D.int a.1))).set 5 (.val (D.int a.2)))) (fun (pre0 : List (Int × Int)) (rows1 : (List (Int × Int))) => [.val ((eQ (eP D.int D.int)) ps), .val (D.int x), .val (D.int y), .own (rows1.map (eP D.int D.int)), .un, .un]) (fun (pre0 : List (Int × Int)) (rows1 : (List (Int × Int))) => (∀ post, ps = pre0 ++ post → cutF ps x y = rows1 ++ cutF post x y) ∧ rows1.length ≤ pre0.length) rows (jv_v 0 ((eQ (eP D.int D.int)) ps)) ?tgt0 ?h00 ⟨.inr rfl, .inr rfl, .inr rfl, .inr rfl, .inl rfl, .inl rfl, trivial⟩ ?turn0 ?done0 (passes_of rfl) rfl)
  case tgt0 => exact tg2 4 5 sc_cut.nd rfl
  case h00 =>
    try dsimp only
    exact ⟨fun post e => by rw [h_rows, e]; rfl, by rw [h_rows]; simp⟩
  case turn0 =>
    rintro B pre0 av post0 rows1 e0 iv0
    try dsimp only at iv0
    have hp := iv0.1 _ e0; have hlen := iv0.2; have hsl : pre0.length < 90000 := by have h9 := hpre; rw [e0] at h9; simp at h9; omega
    refine js_cons (js_if (tv_lt (JV.to (.int (max av.1 x)) (jv_max2 rfl (jv_v 4 (D.int av.1)) (jv_v 1 (D.int x)) T.b_max) (by rw [max_py])) (JV.to (.int (min av.2 y)) (jv_min2 rfl (jv_v 5 (D.int av.2)) (jv_v 2 (D.int y)) T.b_min) (by rw [min_py]))) (fun c1 => ?_) (fun c1 => ?_))
    ·
      refine js_cons (js_appE 3 (eP D.int D.int) rows1 ((max av.1 x), (min av.2 y)) (JV.to ((eP D.int D.int) ((max av.1 x), (min av.2 y))) (jv_tup (av_cons (JV.to (.int (max av.1 x)) (jv_max2 rfl (jv_v 4 (D.int av.1)) (jv_v 1 (D.int x)) T.b_max) (by rw [max_py])) (av_cons (JV.to (.int (min av.2 y)) (jv_min2 rfl (jv_v 5 (D.int av.2)) (jv_v 2 (D.int y)) T.b_min) (by rw [min_py])) av_nil))) rfl) (by first | decide | omega | (simp only [Dy.cutD, List.length_append, List.length_map, List.length_cons, List.length_nil, List.length_take, List.length_drop]; omega) | (simp_all; done) | (simp_all; omega)) (fun rows2 h_rows2 => ?_))
      refine js_nil ?_
      refine js_nil ⟨rows2, ?_, ⟨.inr rfl, .inr rfl, .inr rfl, .inr rfl, .inl rfl, .inl rfl, trivial⟩⟩
      try dsimp only
      refine ⟨fun post1 e1 => ?_, by rw [h_rows2]; simp; omega⟩; rw [e0, List.append_assoc] at e1; have := List.append_cancel_left e1; simp at this; subst this; rw [hp, cutF, if_pos (by simpa using c1), h_rows2, List.append_assoc]; rfl
    ·
      refine js_nil ?_
      refine js_nil ⟨rows1, ?_, ⟨.inr rfl, .inr rfl, .inr rfl, .inr rfl, .inl rfl, .inl rfl, trivial⟩⟩
      try dsimp only
      refine ⟨fun post1 e1 => ?_, by simp; omega⟩; rw [e0, List.append_assoc] at e1; have := List.append_cancel_left e1; simp at this; subst this; rw [hp, cutF, if_neg (by simpa using c1)]
  case done0 =>
    rintro rows1 iv0
    try dsimp only at iv0
    refine js_cons (js_ret (jv_tupL (LV.rv (lv_own 3)) T.b_tuple) ?_)
    refine congrArg (fun z => Except.ok ((eQ (eP D.int D.int)) z)) (show cutF ps x y = rows1 from ?_)
    rw [iv0.1 [] (by simp)]; simp [cutF]
theorem fn_cut (T : Txt K mg) : Fn P w K mg base 1 "cut" (R_cut ) := by
  obtain ⟨f, fd, F, gf⟩ := T.cut
  exact ⟨f, fd, _, ok_cut T F, gf, F.kp, F.binds fun _ _ _ _ _ _ us hl => match us, hl with | [_, _, _], _ => rfl⟩
end
abbrev s_gaps : Stmt := (top 8)
def R_gaps : Rl := fun ds r => ∃ (ps : List (Int × Int)) (x : Int) (y : Int), ds = [((eQ (eP D.int D.int)) ps), (D.int x), (D.int y)] ∧ (ps.length ≤ 90000) ∧ r = .ok ((eQ (eP D.int D.int)) (gapsF ps x y))
theorem r_gaps {ps : List (Int × Int)} {x : Int} {y : Int} (hpre : ps.length ≤ 90000) : R_gaps [((eQ (eP D.int D.int)) ps), (D.int x), (D.int y)] (.ok ((eQ (eP D.int D.int)) (gapsF ps x y))) := ⟨ps, x, y, rfl, hpre, rfl⟩
theorem sc_gaps : FnScope ["spans", "start", "stop", "rows", "free", "low", "high"] ["spans", "start", "stop"] (defScope s_gaps) := ⟨rfl, rfl, rfl, by decide +kernel, rfl, by decide +kernel, by decide +kernel⟩
section
variable {P : Program} {w : World} {K : PySem.W.Frag} {mg : Str → Option Value} {base : Heap}
theorem ok_gaps (T : Txt K mg) {f : Addr} {fd : FuncData} (F : Fun K "gaps" "gaps" s_gaps f fd) : FnOk P w K mg base (L2.CX P w) 2 f fd ["spans", "start", "stop"] (spR K (R_gaps )) := by
  refine fnok_of F sc_gaps (fun ds r h => ?_) (fun cdv A outer s H E B ds r hr h => ?_)
  · obtain ⟨_, _, _, rfl, _⟩ := h
    rfl
  obtain ⟨ps, x, y, rfl, hpre, rfl⟩ := h
  refine js_cons (js_setLE 3 (eP D.int D.int) ([] : List (Int × Int)) (FL.to (eP D.int D.int) ([] : List (Int × Int)) (fl_lst av_nil) rfl) (fun rows h_rows => ?_) sc_gaps.nd)
  refine js_cons (js_set 4 (jv_v 1 (D.int x)) ?_ sc_gaps.nd)
  refine js_cons (js_overT (is := [5, 6]) (cutF ps x y) (eP D.int D.int) (fun (a : Int × Int) Δ => ((Δ.set 5 (.val (D.int a.1))).set 6 (.val (D.int a.2)))) (fun (pre0 : List (Int × Int)) (z : (List (Int × Int)) × (Int)) => [.val ((eQ (eP D.int D.int)) ps), .val (D.int x), .val (D.int y), .own (z.1.map (eP D.int D.int)), .val (D.int z.2), .un, .un]) (fun (pre0 : List (Int × Int)) (z : (List (Int × Int)) × (Int)) => (∀ post, cutF ps x y = pre0 ++ post → gapsF ps x y = z.1 ++ gapsGo y z.2 post) ∧ z.1.length ≤ pre0.length) (rows, x) (jv_call (fn_cut T) (hr.mono (by decide)) (av_cons (jv_v 0 ((eQ (eP D.int D.int)) ps)) (av_cons (jv_v 1 (D.int x)) (av_cons (jv_v 2 (D.int y)) av_nil))) (r_cut (by first | decide | omega | (simp only [Dy.cutD, List.length_append, List.length_map, List.length_cons, List.length_nil, List.length_take, List.length_drop]; omega) | (simp_all; done) | (simp_all; omega)))) ?tgt0 ?h00 ⟨.inr rfl, .inr rfl, .inr rfl, .inr rfl, .inr rfl, .inl rfl, .inl rfl, trivial⟩ ?turn0 ?done0 (passes_of rfl) rfl)
  case tgt0 => exact tg2 5 6 sc_gaps.nd rfl
  case h00 =>
    try dsimp only
    refine ⟨fun post e => ?_, by rw [h_rows]; simp⟩; rw [List.nil_append] at e; rw [gapsF, e, h_rows]; rfl
  case turn0 =>
    rintro B pre0 av post0 ⟨rows1, free⟩ e0 iv0
    try dsimp only at iv0
    have hp := iv0.1 _ e0; have hlen := iv0.2; have hsl : pre0.length < 90000 := by have h9 := cut_len ps x y; rw [e0] at h9; simp at h9; omega
    refine js_mid (fun (rows2 : (List (Int × Int))) => [.val ((eQ (eP D.int D.int)) ps), .val (D.int x), .val (D.int y), .own (rows2.map (eP D.int D.int)), .val (D.int free), .val (D.int av.1), .val (D.int av.2)]) (fun (rows2 : (List (Int × Int))) => rows2 = (if (decide (free < av.1)) = true then (rows1 ++ [(free, av.1)]) else rows1)) (js_if (tv_lt (jv_v 4 (D.int free)) (jv_v 5 (D.int av.1))) (fun c1 => ?_) (fun c1 => ?_)) ?_
    ·
      refine js_cons (js_appE 3 (eP D.int D.int) rows1 (free, av.1) (JV.to ((eP D.int D.int) (free, av.1)) (jv_tup (av_cons (jv_v 4 (D.int free)) (av_cons (jv_v 5 (D.int av.1)) av_nil))) rfl) (by first | decide | omega | (simp only [Dy.cutD, List.length_append, List.length_map, List.length_cons, List.length_nil, List.length_take, List.length_drop]; omega) | (simp_all; done) | (simp_all; omega)) (fun rows3 h_rows3 => ?_))
      refine js_nil ⟨rows3, ?_, ⟨.inr rfl, .inr rfl, .inr rfl, .inr rfl, .inr rfl, .inr rfl, .inr rfl, trivial⟩⟩
      (rw [if_pos c1]; first | done | rfl | assumption | (subst_vars; rfl) | simp_all)
    ·
      refine js_nil ⟨rows1, ?_, ⟨.inr rfl, .inr rfl, .inr rfl, .inr rfl, .inr rfl, .inr rfl, .inr rfl, trivial⟩⟩
      (rw [if_neg (by rw [c1]; exact Bool.false_ne_true)]; first | done | rfl | assumption | (subst_vars; rfl) | simp_all)
    ·
      rintro rows2 j_rows2
      refine js_cons (js_set 4 (jv_v 6 (D.int av.2)) ?_ sc_gaps.nd)
      refine js_nil ⟨(rows2, av.2), ?_, ⟨.inr rfl, .inr rfl, .inr rfl, .inr rfl, .inr rfl, .inl rfl, .inl rfl, trivial⟩⟩
      try dsimp only
      refine ⟨fun post1 e1 => ?_, by rw [j_rows2]; split <;> simp <;> omega⟩; rw [e0, List.append_assoc] at e1; have := List.append_cancel_left e1; simp at this; subst this; rw [hp, gapsGo, j_rows2]; by_cases c : free < av.1 <;> simp [c]
  case done0 =>
    rintro ⟨rows1, free⟩ iv0
    try dsimp only at iv0
    have hlen := iv0.2; have h9 := cut_len ps x y; have he := iv0.1 [] (by simp)
    refine js_mid (fun (rows4 : (List (Int × Int))) => [.val ((eQ (eP D.int D.int)) ps), .val (D.int x), .val (D.int y), .own (rows4.map (eP D.int D.int)), .val (D.int free), .un, .un]) (fun (rows4 : (List (Int × Int))) => rows4 = (if (decide (free < y)) = true then (rows1 ++ [(free, y)]) else rows1)) (js_if (tv_lt (jv_v 4 (D.int free)) (jv_v 2 (D.int y))) (fun c2 => ?_) (fun c2 => ?_)) ?_
    ·
      refine js_cons (js_appE 3 (eP D.int D.int) rows1 (free, y) (JV.to ((eP D.int D.int) (free, y)) (jv_tup (av_cons (jv_v 4 (D.int free)) (av_cons (jv_v 2 (D.int y)) av_nil))) rfl) (by first | decide | omega | (simp only [Dy.cutD, List.length_append, List.length_map, List.length_cons, List.length_nil, List.length_take, List.length_drop]; omega) | (simp_all; done) | (simp_all; omega)) (fun rows5 h_rows5 => ?_))
      refine js_nil ⟨rows5, ?_, ⟨.inr rfl, .inr rfl, .inr rfl, .inr rfl, .inr rfl, .inl rfl, .inl rfl, trivial⟩⟩
      (rw [if_pos c2]; first | done | rfl | assumption | (subst_vars; rfl) | simp_all)
    ·
      refine js_nil ⟨rows1, ?_, ⟨.inr rfl, .inr rfl, .inr rfl, .inr rfl, .inr rfl, .inl rfl, .inl rfl, trivial⟩⟩
      (rw [if_neg (by rw [c2]; exact Bool.false_ne_true)]; first | done | rfl | assumption | (subst_vars; rfl) | simp_all)
    ·
      rintro rows4 j_rows4
      refine js_cons (js_ret (jv_tupL (LV.rv (lv_own 3)) T.b_tuple) ?_)
      refine congrArg (fun z => Except.ok ((eQ (eP D.int D.int)) z)) (show gapsF ps x y = rows4 from ?_)
      rw [he, gapsGo, j_rows4]; by_cases c : free < y <;> simp [c]
theorem fn_gaps (T : Txt K mg) : Fn P w K mg base 2 "gaps" (R_gaps ) := by
  obtain ⟨f, fd, F, gf⟩ := T.gaps
  exact ⟨f, fd, _, ok_gaps T F, gf, F.kp, F.binds fun _ _ _ _ _ _ us hl => match us, hl with | [_, _, _], _ => rfl⟩
end
abbrev s_common : Stmt := (top 9)
def R_common : Rl := fun ds r => ∃ (ps : List (Int × Int)) (qs : List (Int × Int)), ds = [((eQ (eP D.int D.int)) ps), ((eQ (eP D.int D.int)) qs)] ∧ (ps.length + qs.length ≤ 95000) ∧ r = .ok ((eQ (eP D.int D.int)) (comF ps qs))
theorem r_common {ps : List (Int × Int)} {qs : List (Int × Int)} (hpre : ps.length + qs.length ≤ 95000) : R_common [((eQ (eP D.int D.int)) ps), ((eQ (eP D.int D.int)) qs)] (.ok ((eQ (eP D.int D.int)) (comF ps qs))) := ⟨ps, qs, rfl, hpre, rfl⟩
theorem sc_common : FnScope ["first", "second", "rows", "one", "two", "low", "high"] ["first", "second"] (defScope s_common) := ⟨rfl, rfl, rfl, by decide +kernel, rfl, by decide +kernel, by decide +kernel⟩
section
variable {P : Program} {w : World} {K : PySem.W.Frag} {mg : Str → Option Value} {base : Heap}
theorem ok_common (T : Txt K mg) {f : Addr} {fd : FuncData} (F : Fun K "common" "common" s_common f fd) : FnOk P w K mg base (L2.CX P w) 1 f fd ["first", "second"] (spR K (R_common )) := by
  refine fnok_of F sc_common (fun ds r h => ?_) (fun cdv A outer s H E B ds r hr h => ?_)
  · obtain ⟨_, _, rfl, _⟩ := h
    rfl
  obtain ⟨ps, qs, rfl, hpre, rfl⟩ := h
  refine js_cons (js_setLE 2 (eP D.int D.int) ([] : List (Int × Int)) (FL.to (eP D.int D.int) ([] : List (Int × Int)) (fl_lst av_nil) rfl) (fun rows h_rows => ?_) sc_common.nd)
  refine js_cons (js_set 3 jv_int ?_ sc_common.nd)
  refine js_cons (js_set 4 jv_int ?_ sc_common.nd)
  refine js_cons (js_while (fun (z : (List (Int × Int)) × (Int) × (Int)) => [.val ((eQ (eP D.int D.int)) ps), .val ((eQ (eP D.int D.int)) qs), .own (z.1.map (eP D.int D.int)), .val (D.int z.2.1), .val (D.int z.2.2), .un, .un]) (fun (z : (List (Int × Int)) × (Int) × (Int)) => comF ps qs = z.1 ++ comF (ps.drop z.2.1.toNat) (qs.drop z.2.2.toNat) ∧ 0 ≤ z.2.1 ∧ z.2.1 ≤ ps.length ∧ 0 ≤ z.2.2 ∧ z.2.2 ≤ qs.length ∧ (z.1.length : Int) ≤ z.2.1 + z.2.2) (fun (z : (List (Int × Int)) × (Int) × (Int)) => ((ps.length : Int) + qs.length - z.2.1 - z.2.2).toNat) (rows, (0 : Int), (0 : Int)) ?h00 ⟨.inr rfl, .inr rfl, .inr rfl, .inr rfl, .inr rfl, .inl rfl, .inl rfl, trivial⟩ ?turn0 (passes_of rfl))
  case h00 =>
    try dsimp only
    refine ⟨by rw [h_rows]; rfl, by omega, by omega, by omega, by omega, by rw [h_rows]; simp⟩
  case turn0 =>
    rintro ⟨rows1, one, two⟩ iv0
    try dsimp only at iv0
    obtain ⟨i1, i2, i3, i4, i5, i6⟩ := iv0
    refine ⟨((decide (one < (ps.length : Int))) && (decide (two < (qs.length : Int)))), (tv_w (wv_and (tv_lt (jv_v 3 (D.int one)) (JV.to (.int (ps.length : Int)) (jv_len (JV.qv (jv_v 0 ((eQ (eP D.int D.int)) ps))) T.b_len) (by rw [List.length_map]))) (fun q1 => (wv_and1 (tv_lt (jv_v 4 (D.int two)) (JV.to (.int (qs.length : Int)) (jv_len (JV.qv (jv_v 1 ((eQ (eP D.int D.int)) qs))) T.b_len) (by rw [List.length_map]))))))), fun w0 => ?_, fun w0 => ?_⟩
    ·
      have hw : one < ps.length ∧ two < qs.length := by simpa using w0
      have hs := com_step i2 hw.1 i4 hw.2
      refine js_cons (js_setE 5 D.int (max ((nth ps one).1) ((nth qs two).1)) (JV.to (.int (max ((nth ps one).1) ((nth qs two).1))) (jv_max2 rfl (jv_ixT (d := (D.int ((nth ps one).1))) (jv_ixT (d := ((eP D.int D.int) (nth ps one))) (jv_v 0 ((eQ (eP D.int D.int)) ps)) (jv_v 3 (D.int one)) (atI_nth (by first | decide | omega | (simp only [Dy.cutD, List.length_append, List.length_map, List.length_cons, List.length_nil, List.length_take, List.length_drop]; omega) | (simp_all; done) | (simp_all; omega)) (by first | decide | omega | (simp only [Dy.cutD, List.length_append, List.length_map, List.length_cons, List.length_nil, List.length_take, List.length_drop]; omega) | (simp_all; done) | (simp_all; omega)))) jv_int rfl) (jv_ixT (d := (D.int ((nth qs two).1))) (jv_ixT (d := ((eP D.int D.int) (nth qs two))) (jv_v 1 ((eQ (eP D.int D.int)) qs)) (jv_v 4 (D.int two)) (atI_nth (by first | decide | omega | (simp only [Dy.cutD, List.length_append, List.length_map, List.length_cons, List.length_nil, List.length_take, List.length_drop]; omega) | (simp_all; done) | (simp_all; omega)) (by first | decide | omega | (simp only [Dy.cutD, List.length_append, List.length_map, List.length_cons, List.length_nil, List.length_take, List.length_drop]; omega) | (simp_all; done) | (simp_all; omega)))) jv_int rfl) T.b_max) (by rw [max_py])) (fun low h_low => ?_) sc_common.nd)
      refine js_cons (js_setE 6 D.int (min ((nth ps one).2) ((nth qs two).2)) (JV.to (.int (min ((nth ps one).2) ((nth qs two).2))) (jv_min2 rfl (jv_ixT (d := (D.int ((nth ps one).2))) (jv_ixT (d := ((eP D.int D.int) (nth ps one))) (jv_v 0 ((eQ (eP D.int D.int)) ps)) (jv_v 3 (D.int one)) (atI_nth (by first | decide | omega | (simp only [Dy.cutD, List.length_append, List.length_map, List.length_cons, List.length_nil, List.length_take, List.length_drop]; omega) | (simp_all; done) | (simp_all; omega)) (by first | decide | omega | (simp only [Dy.cutD, List.length_append, List.length_map, List.length_cons, List.length_nil, List.length_take, List.length_drop]; omega) | (simp_all; done) | (simp_all; omega)))) jv_int rfl) (jv_ixT (d := (D.int ((nth qs two).2))) (jv_ixT (d := ((eP D.int D.int) (nth qs two))) (jv_v 1 ((eQ (eP D.int D.int)) qs)) (jv_v 4 (D.int two)) (atI_nth (by first | decide | omega | (simp only [Dy.cutD, List.length_append, List.length_map, List.length_cons, List.length_nil, List.length_take, List.length_drop]; omega) | (simp_all; done) | (simp_all; omega)) (by first | decide | omega | (simp only [Dy.cutD, List.length_append, List.length_map, List.length_cons, List.length_nil, List.length_take, List.length_drop]; omega) | (simp_all; done) | (simp_all; omega)))) jv_int rfl) T.b_min) (by rw [min_py])) (fun high h_high => ?_) sc_common.nd)
      refine js_mid (fun (rows2 : (List (Int × Int))) => [.val ((eQ (eP D.int D.int)) ps), .val ((eQ (eP D.int D.int)) qs), .own (rows2.map (eP D.int D.int)), .val (D.int one), .val (D.int two), .val (D.int low), .val (D.int high)]) (fun (rows2 : (List (Int × Int))) => rows2 = (if (decide (low < high)) = true then (rows1 ++ [(low, high)]) else rows1)) (js_if (tv_lt (jv_v 5 (D.int low)) (jv_v 6 (D.int high))) (fun c1 => ?_) (fun c1 => ?_)) ?_
      ·
        refine js_cons (js_appE 2 (eP D.int D.int) rows1 (low, high) (JV.to ((eP D.int D.int) (low, high)) (jv_tup (av_cons (jv_v 5 (D.int low)) (av_cons (jv_v 6 (D.int high)) av_nil))) rfl) (by first | decide | omega | (simp only [Dy.cutD, List.length_append, List.length_map, List.length_cons, List.length_nil, List.length_take, List.length_drop]; omega) | (simp_all; done) | (simp_all; omega)) (fun rows3 h_rows3 => ?_))
        refine js_nil ⟨rows3, ?_, ⟨.inr rfl, .inr rfl, .inr rfl, .inr rfl, .inr rfl, .inr rfl, .inr rfl, trivial⟩⟩
        (rw [if_pos c1]; first | done | rfl | assumption | (subst_vars; rfl) | simp_all)
      ·
        refine js_nil ⟨rows1, ?_, ⟨.inr rfl, .inr rfl, .inr rfl, .inr rfl, .inr rfl, .inr rfl, .inr rfl, trivial⟩⟩
        (rw [if_neg (by rw [c1]; exact Bool.false_ne_true)]; first | done | rfl | assumption | (subst_vars; rfl) | simp_all)
      ·
        rintro rows2 j_rows2
        refine js_cons (js_if (tv_lt (jv_ixT (d := (D.int ((nth ps one).2))) (jv_ixT (d := ((eP D.int D.int) (nth ps one))) (jv_v 0 ((eQ (eP D.int D.int)) ps)) (jv_v 3 (D.int one)) (atI_nth (by first | decide | omega | (simp only [Dy.cutD, List.length_append, List.length_map, List.length_cons, List.length_nil, List.length_take, List.length_drop]; omega) | (simp_all; done) | (simp_all; omega)) (by first | decide | omega | (simp only [Dy.cutD, List.length_append, List.length_map, List.length_cons, List.length_nil, List.length_take, List.length_drop]; omega) | (simp_all; done) | (simp_all; omega)))) jv_int rfl) (jv_ixT (d := (D.int ((nth qs two).2))) (jv_ixT (d := ((eP D.int D.int) (nth qs two))) (jv_v 1 ((eQ (eP D.int D.int)) qs)) (jv_v 4 (D.int two)) (atI_nth (by first | decide | omega | (simp only [Dy.cutD, List.length_append, List.length_map, List.length_cons, List.length_nil, List.length_take, List.length_drop]; omega) | (simp_all; done) | (simp_all; omega)) (by first | decide | omega | (simp only [Dy.cutD, List.length_append, List.length_map, List.length_cons, List.length_nil, List.length_take, List.length_drop]; omega) | (simp_all; done) | (simp_all; omega)))) jv_int rfl)) (fun c2 => ?_) (fun c2 => ?_))
        ·
          refine js_cons (js_setE 3 D.int (one + (1 : Int)) (jv_add (jv_v 3 (D.int one)) jv_int) (fun one1 h_one1 => ?_) sc_common.nd)
          refine js_nil ?_
          refine js_nil ⟨(rows2, one1, two), ?_, ?_, ⟨.inr rfl, .inr rfl, .inr rfl, .inr rfl, .inr rfl, .inl rfl, .inl rfl, trivial⟩⟩
          · dsimp only; omega
          · try dsimp only
            refine ⟨?_, by omega, by omega, by omega, by omega, by rw [j_rows2]; split <;> (try simp) <;> omega⟩; rw [i1, hs, if_pos (show (nth ps one).2 < (nth qs two).2 from by simpa using c2), ← h_low, ← h_high, j_rows2, h_one1]; by_cases c : low < high <;> simp [c]
        ·
          refine js_cons (js_setE 4 D.int (two + (1 : Int)) (jv_add (jv_v 4 (D.int two)) jv_int) (fun two1 h_two1 => ?_) sc_common.nd)
          refine js_nil ?_
          refine js_nil ⟨(rows2, one, two1), ?_, ?_, ⟨.inr rfl, .inr rfl, .inr rfl, .inr rfl, .inr rfl, .inl rfl, .inl rfl, trivial⟩⟩
          · dsimp only; omega
          · try dsimp only
            refine ⟨?_, by omega, by omega, by omega, by omega, by rw [j_rows2]; split <;> (try simp) <;> omega⟩; rw [i1, hs, if_neg (show ¬ (nth ps one).2 < (nth qs two).2 from by simpa using c2), ← h_low, ← h_high, j_rows2, h_two1]; by_cases c : low < high <;> simp [c]
    ·
      have hw : ¬ (one < ps.length ∧ two < qs.length) := (by simpa using w0)
      refine js_cons (js_ret (jv_tupL (LV.rv (lv_own 2)) T.b_tuple) ?_)
      refine congrArg (fun z => Except.ok ((eQ (eP D.int D.int)) z)) (show comF ps qs = rows1 from ?_)
      rw [i1, com_end hw i2 i4, List.append_nil]
theorem fn_common (T : Txt K mg) : Fn P w K mg base 1 "common" (R_common ) := by
  obtain ⟨f, fd, F, gf⟩ := T.common
  exact ⟨f, fd, _, ok_common T F, gf, F.kp, F.binds fun _ _ _ _ _ _ us hl => match us, hl with | [_, _], _ => rfl⟩
end
abbrev s_moved : Stmt := (top 10)
def R_moved : Rl := fun ds r => ∃ (ps : List (Int × Int)) (k : Int), ds = [((eQ (eP D.int D.int)) ps), (D.int k)] ∧ (ps.length ≤ 90000) ∧ r = .ok ((eQ (eP D.int D.int)) (movedF ps k))
theorem r_moved {ps : List (Int × Int)} {k : Int} (hpre : ps.length ≤ 90000) : R_moved [((eQ (eP D.int D.int)) ps), (D.int k)] (.ok ((eQ (eP D.int D.int)) (movedF ps k))) := ⟨ps, k, rfl, hpre, rfl⟩
theorem sc_moved : FnScope ["spans", "by", "low", "high"] ["spans", "by"] (defScope s_moved) := ⟨rfl, rfl, rfl, by decide +kernel, rfl, by decide +kernel, by decide +kernel⟩
section
variable {P : Program} {w : World} {K : PySem.W.Frag} {mg : Str → Option Value} {base : Heap}
theorem ok_moved (T : Txt K mg) {f : Addr} {fd : FuncData} (F : Fun K "moved" "moved" s_moved f fd) : FnOk P w K mg base (L2.CX P w) 1 f fd ["spans", "by"] (spR K (R_moved )) := by
  refine fnok_of F sc_moved (fun ds r h => ?_) (fun cdv A outer s H E B ds r hr h => ?_)
  · obtain ⟨_, _, rfl, _⟩ := h
    rfl
  obtain ⟨ps, k, rfl, hpre, rfl⟩ := h
  refine js_cons (js_ret (jv_tupL (LV.rv (FL.lv (LcV.fl (lc_all (eP D.int D.int) (fun (a3 : Int × Int) => ((a3.1 + k), (a3.2 + k))) (lc_compT [("low", 2), ("high", 3)] ps (eP D.int D.int) (fun (a3 : Int × Int) Δ => ((Δ.set 2 (.val (D.int a3.1))).set 3 (.val (D.int a3.2)))) (fun (a3 : Int × Int) => true) (fun (a3 : Int × Int) => ((eP D.int D.int) ((a3.1 + k), (a3.2 + k)))) (jv_v 0 ((eQ (eP D.int D.int)) ps)) ⟨_, fun s H C cl fp => pg_tup (n := 2) rfl (pgs_cons (pg_name (i := 2) sc_moved.nd rfl (by first | exact Or.inl rfl | exact Or.inr rfl)) (pgs_cons (pg_name (i := 3) sc_moved.nd rfl (by first | exact Or.inl rfl | exact Or.inr rfl)) pgs_nil)), fun a => gd_tup (gds_cons (gd_name 2) (gds_cons (gd_name 3) gds_nil)) rfl⟩ (fun a3 m3 => rfl) (fun a3 m3 c3 B' s H C cl fp => (JV.to ((eP D.int D.int) ((a3.1 + k), (a3.2 + k))) (jv_tup (av_cons (jv_add (jv_v 2 (D.int a3.1)) (jv_v 1 (D.int k))) (av_cons (jv_add (jv_v 3 (D.int a3.2)) (jv_v 1 (D.int k))) av_nil))) rfl)) (by first | decide | omega | (simp only [Dy.cutD, List.length_append, List.length_map, List.length_cons, List.length_nil, List.length_take, List.length_drop]; omega) | (simp_all; done) | (simp_all; omega)) rfl sc_moved.nd (ok := (show blkC ["spans", "by", "low", "high"] (defScope s_moved) _ [("low", 2), ("high", 3)] = true from by decide +kernel))))))) T.b_tuple) ?_)
  refine congrArg (fun z => Except.ok ((eQ (eP D.int D.int)) z)) (show movedF ps k = (ps.map (fun (a3 : Int × Int) => ((a3.1 + k), (a3.2 + k)))) from ?_)
  rfl
theorem fn_moved (T : Txt K mg) : Fn P w K mg base 1 "moved" (R_moved ) := by
  obtain ⟨f, fd, F, gf⟩ := T.moved
  exact ⟨f, fd, _, ok_moved T F, gf, F.kp, F.binds fun _ _ _ _ _ _ us hl => match us, hl with | [_, _], _ => rfl⟩
end
abbrev s_unrolled : Stmt := (top 12)
def R_unrolled : Rl := fun ds r => ∃ (cy : List (Int × Int)) (sn : Int) (pd : Int) (x : Int) (y : Int), ds = [((eQ (eP D.int D.int)) cy), (D.int sn), (D.int pd), (D.int x), (D.int y)] ∧ (1 ≤ pd ∧ pd < 1073741824 ∧ cy.length ≤ 11000 ∧ (x < y → rowsU cy pd (y - x) ≤ 41000)) ∧ r = .ok ((eQ (eP D.int D.int)) (unrF cy sn pd x y))
theorem r_unrolled {cy : List (Int × Int)} {sn : Int} {pd : Int} {x : Int} {y : Int} (hpre : 1 ≤ pd ∧ pd < 1073741824 ∧ cy.length ≤ 11000 ∧ (x < y → rowsU cy pd (y - x) ≤ 41000)) : R_unrolled [((eQ (eP D.int D.int)) cy), (D.int sn), (D.int pd), (D.int x), (D.int y)] (.ok ((eQ (eP D.int D.int)) (unrF cy sn pd x y))) := ⟨cy, sn, pd, x, y, rfl, hpre, rfl⟩
theorem sc_unrolled : FnScope ["cycle", "since", "period", "start", "stop", "rows", "turn"] ["cycle", "since", "period", "start", "stop"] (defScope s_unrolled) := ⟨rfl, rfl, rfl, by decide +kernel, rfl, by decide +kernel, by decide +kernel⟩
section
variable {P : Program} {w : World} {K : PySem.W.Frag} {mg : Str → Option Value} {base : Heap}
theorem ok_unrolled (T : Txt K mg) {f : Addr} {fd : FuncData} (F : Fun K "unrolled" "unrolled" s_unrolled f fd) : FnOk P w K mg base (L2.CX P w) 2 f fd ["cycle", "since", "period", "start", "stop"] (spR K (R_unrolled )) := by
  refine fnok_of F sc_unrolled (fun ds r h => ?_) (fun cdv A outer s H E B ds r hr h => ?_)
  · obtain ⟨_, _, _, _, _, rfl, _⟩ := h
    rfl
  obtain ⟨cy, sn, pd, x, y, rfl, hpre, rfl⟩ := h
  refine js_cons (js_if (tv_w (wv_or (tv_eqNT hr (PyE.toN (pyE_pair pyE_int pyE_int)) (by decide) (jv_v 0 ((eQ (eP D.int D.int)) cy)) (jv_tup av_nil)) (fun q1 => (wv_or1 (tv_ge (jv_v 3 (D.int x)) (jv_v 4 (D.int y))))))) (fun c1 => ?_) (fun c1 => ?_))
  ·
    refine js_cons (js_ret (JV.to ((eQ (eP D.int D.int)) ([] : List (Int × Int))) (jv_tup av_nil) rfl) ?_)
    refine congrArg (fun z => Except.ok ((eQ (eP D.int D.int)) z)) (show unrF cy sn pd x y = ([] : List (Int × Int)) from ?_)
    rw [unrF, if_pos]; simp at c1; by_cases z : cy = []; exact .inl z; exact .inr (by rcases c1 with c1 | c1; exact absurd c1 z; omega)
  ·
    have hc : cy ≠ [] ∧ x < y := by simp at c1; exact ⟨c1.1, by omega⟩
    refine js_nil ?_
    refine js_cons (js_if (tv_eqE hr (pyE_Q (pyE_pair pyE_int pyE_int)) (by decide) (jv_v 0 ((eQ (eP D.int D.int)) cy)) (JV.to ((eQ (eP D.int D.int)) ([((0 : Int), pd)] : List (Int × Int))) (jv_tup (av_cons (JV.to ((eP D.int D.int) ((0 : Int), pd)) (jv_tup (av_cons jv_int (av_cons (jv_v 2 (D.int pd)) av_nil))) rfl) av_nil)) rfl)) (fun c2 => ?_) (fun c2 => ?_))
    ·
      refine js_cons (js_ret (JV.to ((eQ (eP D.int D.int)) ([(x, y)] : List (Int × Int))) (jv_tup (av_cons (JV.to ((eP D.int D.int) (x, y)) (jv_tup (av_cons (jv_v 3 (D.int x)) (av_cons (jv_v 4 (D.int y)) av_nil))) rfl) av_nil)) rfl) ?_)
      refine congrArg (fun z => Except.ok ((eQ (eP D.int D.int)) z)) (show unrF cy sn pd x y = ([(x, y)] : List (Int × Int)) from ?_)
      rw [unrF, if_neg (by simp; exact ⟨hc.1, by omega⟩), if_pos (by simpa using c2)]
    ·
      have hf : cy ≠ [(0, pd)] := by simpa using c2
      have hR : rowsN cy pd (y - x) ≤ 41000 := by have := hpre.2.2.2 hc.2; unfold rowsU at this; rwa [if_neg hf] at this
      refine js_nil ?_
      refine js_cons (js_setLE 5 (eP D.int D.int) ([] : List (Int × Int)) (FL.to (eP D.int D.int) ([] : List (Int × Int)) (fl_lst av_nil) rfl) (fun rows h_rows => ?_) sc_unrolled.nd)
      refine js_cons (js_setE 6 D.int (sn + (((x - sn) / pd) * pd)) (jv_add (jv_v 1 (D.int sn)) (jv_mul (jv_div (jv_sub (jv_v 3 (D.int x)) (jv_v 1 (D.int sn))) (jv_v 2 (D.int pd)) (by first | (unfold CDiv; omega) | (exact cdiv_nth (by decide) (by omega) (by simp only [List.length_cons, List.length_nil]; omega)) | decide | omega | (simp only [Dy.cutD, List.length_append, List.length_map, List.length_cons, List.length_nil, List.length_take, List.length_drop]; omega) | (simp_all; done) | (simp_all; omega))) (jv_v 2 (D.int pd)) (by first | (unfold CMul; omega) | decide | omega | (simp only [Dy.cutD, List.length_append, List.length_map, List.length_cons, List.length_nil, List.length_take, List.length_drop]; omega) | (simp_all; done) | (simp_all; omega)))) (fun turn h_turn => ?_) sc_unrolled.nd)
      refine js_cons (js_while (fun (z : (List (Int × Int)) × (Int)) => [.val ((eQ (eP D.int D.int)) cy), .val (D.int sn), .val (D.int pd), .val (D.int x), .val (D.int y), .own (z.1.map (eP D.int D.int)), .val (D.int z.2)]) (fun (z : (List (Int × Int)) × (Int)) => ∃ k : Nat, k ≤ turnN sn pd x y ∧ z.1 = turnsF cy (turn0 sn pd x) pd k ∧ z.2 = turn0 sn pd x + k * pd) (fun (z : (List (Int × Int)) × (Int)) => (y - z.2).toNat) (rows, turn) ?h00 ⟨.inr rfl, .inr rfl, .inr rfl, .inr rfl, .inr rfl, .inr rfl, .inr rfl, trivial⟩ ?turn0 (passes_of rfl))
      case h00 =>
        try dsimp only
        exact ⟨0, Nat.zero_le _, by rw [h_rows]; rfl, by rw [h_turn, turn0]; simp⟩
      case turn0 =>
        rintro ⟨rows1, turn1⟩ iv0
        try dsimp only at iv0
        obtain ⟨k, k1, k2, k3⟩ := iv0
        refine ⟨(decide (turn1 < y)), (tv_lt (jv_v 6 (D.int turn1)) (jv_v 4 (D.int y))), fun w0 => ?_, fun w0 => ?_⟩
        ·
          have hw : turn1 < y := by simpa using w0
          have kn : k < turnN sn pd x y := turnN_gt hpre.1 (by omega)
          have kr := rows_le (c := cy) (s := sn) hpre.1 hc.2 k1
          have kl : rows1.length = k * cy.length := by rw [k2, turns_len]
          refine js_cons (js_extE 5 (eP D.int D.int) rows1 (movedF cy turn1) (jv_call (fn_moved T) (hr.mono (by decide)) (av_cons (jv_v 0 ((eQ (eP D.int D.int)) cy)) (av_cons (jv_v 6 (D.int turn1)) av_nil)) (r_moved (by first | decide | omega | (simp only [Dy.cutD, List.length_append, List.length_map, List.length_cons, List.length_nil, List.length_take, List.length_drop]; omega) | (simp_all; done) | (simp_all; omega)))) (by first | decide | omega | (simp only [Dy.cutD, List.length_append, List.length_map, List.length_cons, List.length_nil, List.length_take, List.length_drop]; omega) | (simp_all; done) | (simp_all; omega)) (fun rows2 h_rows2 => ?_))
          refine js_cons (js_setE 6 D.int (turn1 + pd) (jv_add (jv_v 6 (D.int turn1)) (jv_v 2 (D.int pd))) (fun turn2 h_turn2 => ?_) sc_unrolled.nd)
          refine js_nil ⟨(rows2, turn2), ?_, ?_, ⟨.inr rfl, .inr rfl, .inr rfl, .inr rfl, .inr rfl, .inr rfl, .inr rfl, trivial⟩⟩
          · dsimp only; omega
          · try dsimp only
            exact ⟨k + 1, kn, by rw [h_rows2, k2, k3, turnsF], by rw [h_turn2, k3, Int.natCast_add, Int.add_mul]; simp; omega⟩
        ·
          have hw : ¬ turn1 < y := (by simpa using w0); have kr := rows_le (c := cy) (s := sn) hpre.1 hc.2 k1; have kl : rows1.length = k * cy.length := (by rw [k2, turns_len]); have ke : k = turnN sn pd x y := Nat.le_antisymm k1 (turnN_le2 hpre.1 (by omega))
          refine Js.freeze 5 (ds := rows1.map (eP D.int D.int)) rfl ?_
          refine js_cons (js_ret (jv_call (fn_cut T) (hr.mono (by decide)) (av_cons (jv_call (fn_merged T) (hr.mono (by decide)) (av_cons (jv_v 5 ((eL (eP D.int D.int)) rows1)) av_nil) (r_merged (by first | (rw [es, ep, List.length_append]; omega) | (rw [List.length_append]; omega) | decide | omega | (simp only [Dy.cutD, List.length_append, List.length_map, List.length_cons, List.length_nil, List.length_take, List.length_drop]; omega) | (simp_all; done) | (simp_all; omega)))) (av_cons (jv_v 3 (D.int x)) (av_cons (jv_v 4 (D.int y)) av_nil))) (r_cut (by have := merged_len rows1; omega))) ?_)
          refine congrArg (fun z => Except.ok ((eQ (eP D.int D.int)) z)) (show unrF cy sn pd x y = (cutF (mergedF rows1) x y) from ?_)
          rw [unrF, if_neg (by simp; exact ⟨hc.1, by omega⟩), if_neg hf, k2, ke]
theorem fn_unrolled (T : Txt K mg) : Fn P w K mg base 2 "unrolled" (R_unrolled ) := by
  obtain ⟨f, fd, F, gf⟩ := T.unrolled
  exact ⟨f, fd, _, ok_unrolled T F, gf, F.kp, F.binds fun _ _ _ _ _ _ us hl => match us, hl with | [_, _, _, _, _], _ => rfl⟩
end
abbrev s_rises : Stmt := (top 13)
def R_rises : Rl := fun ds r => ∃ (cy : List (Int × Int)) (pd : Int), ds = [((eQ (eP D.int D.int)) cy), (D.int pd)] ∧ (cy ≠ [] ∧ cy.length ≤ 20000) ∧ r = .ok ((eL D.int) (risesF cy pd))
theorem r_rises {cy : List (Int × Int)} {pd : Int} (hpre : cy ≠ [] ∧ cy.length ≤ 20000) : R_rises [((eQ (eP D.int D.int)) cy), (D.int pd)] (.ok ((eL D.int) (risesF cy pd))) := ⟨cy, pd, rfl, hpre, rfl⟩
theorem sc_rises : FnScope ["cycle", "period", "places", "low", "high"] ["cycle", "period"] (defScope s_rises) := ⟨rfl, rfl, rfl, by decide +kernel, rfl, by decide +kernel, by decide +kernel⟩
section
variable {P : Program} {w : World} {K : PySem.W.Frag} {mg : Str → Option Value} {base : Heap}
theorem ok_rises (T : Txt K mg) {f : Addr} {fd : FuncData} (F : Fun K "rises" "rises" s_rises f fd) : FnOk P w K mg base (L2.CX P w) 1 f fd ["cycle", "period"] (spR K (R_rises )) := by
  refine fnok_of F sc_rises (fun ds r h => ?_) (fun cdv A outer s H E B ds r hr h => ?_)
  · obtain ⟨_, _, rfl, _⟩ := h
    rfl
  obtain ⟨cy, pd, rfl, hpre, rfl⟩ := h
  have hl := List.length_pos_iff.mpr hpre.1
  refine js_cons (js_setLc 2 D.int (cy.map (fun (a1 : Int × Int) => a1.1)) (lc_all D.int (fun (a1 : Int × Int) => a1.1) (lc_compT [("low", 3), ("high", 4)] cy (eP D.int D.int) (fun (a1 : Int × Int) Δ => ((Δ.set 3 (.val (D.int a1.1))).set 4 (.val (D.int a1.2)))) (fun (a1 : Int × Int) => true) (fun (a1 : Int × Int) => (D.int a1.1)) (jv_v 0 ((eQ (eP D.int D.int)) cy)) ⟨_, fun s H C cl fp => pg_tup (n := 2) rfl (pgs_cons (pg_name (i := 3) sc_rises.nd rfl (by first | exact Or.inl rfl | exact Or.inr rfl)) (pgs_cons (pg_name (i := 4) sc_rises.nd rfl (by first | exact Or.inl rfl | exact Or.inr rfl)) pgs_nil)), fun a => gd_tup (gds_cons (gd_name 3) (gds_cons (gd_name 4) gds_nil)) rfl⟩ (fun a1 m1 => rfl) (fun a1 m1 c1 B' s H C cl fp => (jv_v 3 (D.int a1.1))) (by first | decide | omega | (simp only [Dy.cutD, List.length_append, List.length_map, List.length_cons, List.length_nil, List.length_take, List.length_drop]; omega) | (simp_all; done) | (simp_all; omega)) rfl sc_rises.nd (ok := (show blkC ["cycle", "period", "places", "low", "high"] (defScope s_rises) _ [("low", 3), ("high", 4)] = true from by decide +kernel)))) (fun places h_places => ?_))
  refine js_mid (fun (places1 : (List (Int))) => [.val ((eQ (eP D.int D.int)) cy), .val (D.int pd), .own (places1.map D.int), .un, .un]) (fun (places1 : (List (Int))) => places1 = risesF cy pd) (js_if (tv_w (wv_and (tv_eq (jv_ixT (d := (D.int ((nth cy (0 : Int)).1))) (jv_ixT (d := ((eP D.int D.int) (nth cy (0 : Int)))) (jv_v 0 ((eQ (eP D.int D.int)) cy)) jv_int (atI_nth (by first | decide | omega | (simp only [Dy.cutD, List.length_append, List.length_map, List.length_cons, List.length_nil, List.length_take, List.length_drop]; omega) | (simp_all; done) | (simp_all; omega)) (by first | decide | omega | (simp only [Dy.cutD, List.length_append, List.length_map, List.length_cons, List.length_nil, List.length_take, List.length_drop]; omega) | (simp_all; done) | (simp_all; omega)))) jv_int rfl) jv_int) (fun q1 => (wv_and1 (tv_eq (jv_ixT (d := (D.int ((nth cy (cy.length + (-(1 : Int)))).2))) (jv_ixT (d := ((eP D.int D.int) (nth cy (cy.length + (-(1 : Int)))))) (jv_v 0 ((eQ (eP D.int D.int)) cy)) (jv_neg jv_int) (atI_last' (by decide) (by first | decide | omega | (simp only [Dy.cutD, List.length_append, List.length_map, List.length_cons, List.length_nil, List.length_take, List.length_drop]; omega) | (simp_all; done) | (simp_all; omega)))) jv_int rfl) (jv_v 1 (D.int pd))))))) (fun c1 => ?_) (fun c1 => ?_)) ?_
  ·
    have hw : wrapP cy pd := by unfold wrapP; simpa using c1
    refine js_cons (js_setLE 2 D.int (cutD places (some (1 : Int)) none) (FL.is (fl_sl (LV.rv (lv_own 2)) (ov_some jv_int) ov_none) map_cutD) (fun places2 h_places2 => ?_) sc_rises.nd)
    refine js_nil ⟨places2, ?_, ⟨.inr rfl, .inr rfl, .inr rfl, .inl rfl, .inl rfl, trivial⟩⟩
    first | (rw [h_places2, h_places, risesF, if_pos hw]; done) | (rw [h_places, risesF, if_neg hw]; done)
  ·
    have hw : ¬ wrapP cy pd := by unfold wrapP; simpa using c1
    refine js_nil ⟨places, ?_, ⟨.inr rfl, .inr rfl, .inr rfl, .inl rfl, .inl rfl, trivial⟩⟩
    first | (rw [h_places2, h_places, risesF, if_pos hw]; done) | (rw [h_places, risesF, if_neg hw]; done)
  ·
    rintro places1 j_places1
    refine Js.freeze 2 (ds := places1.map D.int) rfl ?_
    refine js_cons (js_ret (jv_v 2 ((eL D.int) places1)) ?_)
    refine congrArg (fun z => Except.ok ((eL D.int) z)) (show risesF cy pd = places1 from ?_)
    exact j_places1.symm
theorem fn_rises (T : Txt K mg) : Fn P w K mg base 1 "rises" (R_rises ) := by
  obtain ⟨f, fd, F, gf⟩ := T.rises
  exact ⟨f, fd, _, ok_rises T F, gf, F.kp, F.binds fun _ _ _ _ _ _ us hl => match us, hl with | [_, _], _ => rfl⟩
end
abbrev s_falls : Stmt := (top 14)
def R_falls : Rl := fun ds r => ∃ (cy : List (Int × Int)) (pd : Int), ds = [((eQ (eP D.int D.int)) cy), (D.int pd)] ∧ (cy ≠ [] ∧ cy.length ≤ 20000 ∧ 1 ≤ pd ∧ pd < 1073741824) ∧ r = .ok ((eL D.int) (fallsF cy pd))
theorem r_falls {cy : List (Int × Int)} {pd : Int} (hpre : cy ≠ [] ∧ cy.length ≤ 20000 ∧ 1 ≤ pd ∧ pd < 1073741824) : R_falls [((eQ (eP D.int D.int)) cy), (D.int pd)] (.ok ((eL D.int) (fallsF cy pd))) := ⟨cy, pd, rfl, hpre, rfl⟩
theorem sc_falls : FnScope ["cycle", "period", "places", "low", "high"] ["cycle", "period"] (defScope s_falls) := ⟨rfl, rfl, rfl, by decide +kernel, rfl, by decide +kernel, by decide +kernel⟩
section
variable {P : Program} {w : World} {K : PySem.W.Frag} {mg : Str → Option Value} {base : Heap}
theorem ok_falls (T : Txt K mg) {f : Addr} {fd : FuncData} (F : Fun K "falls" "falls" s_falls f fd) : FnOk P w K mg base (L2.CX P w) 1 f fd ["cycle", "period"] (spR K (R_falls )) := by
  refine fnok_of F sc_falls (fun ds r h => ?_) (fun cdv A outer s H E B ds r hr h => ?_)
  · obtain ⟨_, _, rfl, _⟩ := h
    rfl
  obtain ⟨cy, pd, rfl, hpre, rfl⟩ := h
  have hl := List.length_pos_iff.mpr hpre.1
  refine js_cons (js_setLE 2 D.int (sortI (cy.map (fun (a7 : Int × Int) => (a7.2 % pd)))) (fl_sortI (LV.rv (FL.lv (LcV.fl (lc_all D.int (fun (a7 : Int × Int) => (a7.2 % pd)) (lc_compT [("low", 3), ("high", 4)] cy (eP D.int D.int) (fun (a7 : Int × Int) Δ => ((Δ.set 3 (.val (D.int a7.1))).set 4 (.val (D.int a7.2)))) (fun (a7 : Int × Int) => true) (fun (a7 : Int × Int) => (D.int (a7.2 % pd))) (jv_v 0 ((eQ (eP D.int D.int)) cy)) ⟨_, fun s H C cl fp => pg_tup (n := 2) rfl (pgs_cons (pg_name (i := 3) sc_falls.nd rfl (by first | exact Or.inl rfl | exact Or.inr rfl)) (pgs_cons (pg_name (i := 4) sc_falls.nd rfl (by first | exact Or.inl rfl | exact Or.inr rfl)) pgs_nil)), fun a => gd_tup (gds_cons (gd_name 3) (gds_cons (gd_name 4) gds_nil)) rfl⟩ (fun a7 m7 => rfl) (fun a7 m7 c7 B' s H C cl fp => (jv_mod (jv_v 4 (D.int a7.2)) (jv_v 1 (D.int pd)) (by first | decide | omega | (simp only [Dy.cutD, List.length_append, List.length_map, List.length_cons, List.length_nil, List.length_take, List.length_drop]; omega) | (simp_all; done) | (simp_all; omega)))) (by first | decide | omega | (simp only [Dy.cutD, List.length_append, List.length_map, List.length_cons, List.length_nil, List.length_take, List.length_drop]; omega) | (simp_all; done) | (simp_all; omega)) rfl sc_falls.nd (ok := (show blkC ["cycle", "period", "places", "low", "high"] (defScope s_falls) _ [("low", 3), ("high", 4)] = true from by decide +kernel))))))) T.b_sorted) (fun places h_places => ?_) sc_falls.nd)
  refine js_mid (fun (places1 : (List (Int))) => [.val ((eQ (eP D.int D.int)) cy), .val (D.int pd), .own (places1.map D.int), .un, .un]) (fun (places1 : (List (Int))) => places1 = fallsF cy pd) (js_if (tv_w (wv_and (tv_eq (jv_ixT (d := (D.int ((nth cy (0 : Int)).1))) (jv_ixT (d := ((eP D.int D.int) (nth cy (0 : Int)))) (jv_v 0 ((eQ (eP D.int D.int)) cy)) jv_int (atI_nth (by first | decide | omega | (simp only [Dy.cutD, List.length_append, List.length_map, List.length_cons, List.length_nil, List.length_take, List.length_drop]; omega) | (simp_all; done) | (simp_all; omega)) (by first | decide | omega | (simp only [Dy.cutD, List.length_append, List.length_map, List.length_cons, List.length_nil, List.length_take, List.length_drop]; omega) | (simp_all; done) | (simp_all; omega)))) jv_int rfl) jv_int) (fun q1 => (wv_and1 (tv_eq (jv_ixT (d := (D.int ((nth cy (cy.length + (-(1 : Int)))).2))) (jv_ixT (d := ((eP D.int D.int) (nth cy (cy.length + (-(1 : Int)))))) (jv_v 0 ((eQ (eP D.int D.int)) cy)) (jv_neg jv_int) (atI_last' (by decide) (by first | decide | omega | (simp only [Dy.cutD, List.length_append, List.length_map, List.length_cons, List.length_nil, List.length_take, List.length_drop]; omega) | (simp_all; done) | (simp_all; omega)))) jv_int rfl) (jv_v 1 (D.int pd))))))) (fun c1 => ?_) (fun c1 => ?_)) ?_
  ·
    have hw : wrapP cy pd := by unfold wrapP; simpa using c1
    refine js_cons (js_setLE 2 D.int (cutD places (some (1 : Int)) none) (FL.is (fl_sl (LV.rv (lv_own 2)) (ov_some jv_int) ov_none) map_cutD) (fun places2 h_places2 => ?_) sc_falls.nd)
    refine js_nil ⟨places2, ?_, ⟨.inr rfl, .inr rfl, .inr rfl, .inl rfl, .inl rfl, trivial⟩⟩
    first | (rw [h_places2, h_places, fallsF, if_pos hw]; done) | (rw [h_places, fallsF, if_neg hw]; done)
  ·
    have hw : ¬ wrapP cy pd := by unfold wrapP; simpa using c1
    refine js_nil ⟨places, ?_, ⟨.inr rfl, .inr rfl, .inr rfl, .inl rfl, .inl rfl, trivial⟩⟩
    first | (rw [h_places2, h_places, fallsF, if_pos hw]; done) | (rw [h_places, fallsF, if_neg hw]; done)
  ·
    rintro places1 j_places1
    refine Js.freeze 2 (ds := places1.map D.int) rfl ?_
    refine js_cons (js_ret (jv_v 2 ((eL D.int) places1)) ?_)
    refine congrArg (fun z => Except.ok ((eL D.int) z)) (show fallsF cy pd = places1 from ?_)
    exact j_places1.symm
theorem fn_falls (T : Txt K mg) : Fn P w K mg base 1 "falls" (R_falls ) := by
  obtain ⟨f, fd, F, gf⟩ := T.falls
  exact ⟨f, fd, _, ok_falls T F, gf, F.kp, F.binds fun _ _ _ _ _ _ us hl => match us, hl with | [_, _], _ => rfl⟩
end
abbrev s_repeats_by : Stmt := (top 15)
def R_repeats_by : Rl := fun ds r => ∃ (l : List (Int)) (st : Int) (pd : Int), ds = [((eL D.int) l), (D.int st), (D.int pd)] ∧ (l.length ≤ 20000 ∧ 1 ≤ pd ∧ pd < 1073741824) ∧ r = .ok (D.bl (repF l st pd))
theorem r_repeats_by {l : List (Int)} {st : Int} {pd : Int} (hpre : l.length ≤ 20000 ∧ 1 ≤ pd ∧ pd < 1073741824) : R_repeats_by [((eL D.int) l), (D.int st), (D.int pd)] (.ok (D.bl (repF l st pd))) := ⟨l, st, pd, rfl, hpre, rfl⟩
theorem sc_repeats_by : FnScope ["places", "step", "period", "place"] ["places", "step", "period"] (defScope s_repeats_by) := ⟨rfl, rfl, rfl, by decide +kernel, rfl, by decide +kernel, by decide +kernel⟩
section
variable {P : Program} {w : World} {K : PySem.W.Frag} {mg : Str → Option Value} {base : Heap}
theorem ok_repeats_by (T : Txt K mg) {f : Addr} {fd : FuncData} (F : Fun K "repeats_by" "repeats_by" s_repeats_by f fd) : FnOk P w K mg base (L2.CX P w) 1 f fd ["places", "step", "period"] (spR K (R_repeats_by )) := by
  refine fnok_of F sc_repeats_by (fun ds r h => ?_) (fun cdv A outer s H E B ds r hr h => ?_)
  · obtain ⟨_, _, _, rfl, _⟩ := h
    rfl
  obtain ⟨l, st, pd, rfl, hpre, rfl⟩ := h
  refine js_cons (js_ret (jv_eqLE hr pyE_int (by decide) (FL.lv (fl_sortI (LV.rv (FL.lv (LcV.fl (lc_all D.int (fun (a35 : Int) => ((a35 + st) % pd)) (lc_compL [("place", 3)] l D.int (fun (a35 : Int) Δ => Δ.set 3 (.val (D.int a35))) (fun (a35 : Int) => true) (fun (a35 : Int) => (D.int ((a35 + st) % pd))) (LV.rv (JV.lv (jv_v 0 ((eL D.int) l)))) ⟨_, fun s H C cl fp => pg_name (i := 3) sc_repeats_by.nd rfl (by first | exact Or.inl rfl | exact Or.inr rfl), fun a => gd_name 3⟩ (fun a35 m35 => rfl) (fun a35 m35 c35 B' s H C cl fp => (jv_mod (jv_add (jv_v 3 (D.int a35)) (jv_v 1 (D.int st))) (jv_v 2 (D.int pd)) (by first | decide | omega | (simp only [Dy.cutD, List.length_append, List.length_map, List.length_cons, List.length_nil, List.length_take, List.length_drop]; omega) | (simp_all; done) | (simp_all; omega)))) (by first | decide | omega | (simp only [Dy.cutD, List.length_append, List.length_map, List.length_cons, List.length_nil, List.length_take, List.length_drop]; omega) | (simp_all; done) | (simp_all; omega)) rfl sc_repeats_by.nd (ok := (show blkC ["places", "step", "period", "place"] (defScope s_repeats_by) _ [("place", 3)] = true from by decide +kernel))))))) T.b_sorted)) (JV.lv (jv_v 0 ((eL D.int) l)))) ?_)
  refine congrArg (fun z => Except.ok (D.bl z)) (show repF l st pd = (decide ((sortI (l.map (fun (a35 : Int) => ((a35 + st) % pd)))) = l)) from ?_)
  rfl
theorem fn_repeats_by (T : Txt K mg) : Fn P w K mg base 1 "repeats_by" (R_repeats_by ) := by
  obtain ⟨f, fd, F, gf⟩ := T.repeats_by
  exact ⟨f, fd, _, ok_repeats_by T F, gf, F.kp, F.binds fun _ _ _ _ _ _ us hl => match us, hl with | [_, _, _], _ => rfl⟩
end
abbrev s_lower_period : Stmt := (top 16)
def R_lower_period : Rl := fun ds r => ∃ (cy : List (Int × Int)) (pd : Int), ds = [((eQ (eP D.int D.int)) cy), (D.int pd)] ∧ (tidyF cy 0 pd = true ∧ 1 ≤ pd ∧ pd < 1073741824 ∧ cy.length ≤ 11000) ∧ r = .ok ((eP (eQ (eP D.int D.int)) D.int) (lowerF cy pd))
theorem r_lower_period {cy : List (Int × Int)} {pd : Int} (hpre : tidyF cy 0 pd = true ∧ 1 ≤ pd ∧ pd < 1073741824 ∧ cy.length ≤ 11000) : R_lower_period [((eQ (eP D.int D.int)) cy), (D.int pd)] (.ok ((eP (eQ (eP D.int D.int)) D.int) (lowerF cy pd))) := ⟨cy, pd, rfl, hpre, rfl⟩
theorem sc_lower_period : FnScope ["cycle", "period", "up", "down", "rest", "prime", "least", "step"] ["cycle", "period"] (defScope s_lower_period) := ⟨rfl, rfl, rfl, by decide +kernel, rfl, by decide +kernel, by decide +kernel⟩
section
variable {P : Program} {w : World} {K : PySem.W.Frag} {mg : Str → Option Value} {base : Heap}
theorem ok_lower_period (T : Txt K mg) {f : Addr} {fd : FuncData} (F : Fun K "lower_period" "lower_period" s_lower_period f fd) : FnOk P w K mg base (L2.CX P w) 2 f fd ["cycle", "period"] (spR K (R_lower_period )) := by
  refine fnok_of F sc_lower_period (fun ds r h => ?_) (fun cdv A outer s H E B ds r hr h => ?_)
  · obtain ⟨_, _, rfl, _⟩ := h
    rfl
  obtain ⟨cy, pd, rfl, hpre, rfl⟩ := h
  obtain ⟨ht, p1, p2, hcl⟩ := hpre
  have L := lp_ok cy p1
  have d1 := L.d1
  refine js_cons (js_if (tv_eqNT hr (PyE.toN (pyE_pair pyE_int pyE_int)) (by decide) (jv_v 0 ((eQ (eP D.int D.int)) cy)) (jv_tup av_nil)) (fun c1 => ?_) (fun c1 => ?_))
  ·
    have hn : cy = [] := by simpa using c1
    refine js_cons (js_ret (JV.to ((eP (eQ (eP D.int D.int)) D.int) (([] : List (Int × Int)), (1 : Int))) (jv_tup (av_cons (JV.to ((eQ (eP D.int D.int)) ([] : List (Int × Int))) (jv_tup av_nil) rfl) (av_cons jv_int av_nil))) rfl) ?_)
    refine congrArg (fun z => Except.ok ((eP (eQ (eP D.int D.int)) D.int) z)) (show lowerF cy pd = (([] : List (Int × Int)), (1 : Int)) from ?_)
    rw [hn, lower_nil p1]
  ·
    have hn : cy ≠ [] := by simpa using c1
    refine js_nil ?_
    refine js_cons (js_if (tv_eqE hr (pyE_Q (pyE_pair pyE_int pyE_int)) (by decide) (jv_v 0 ((eQ (eP D.int D.int)) cy)) (JV.to ((eQ (eP D.int D.int)) ([((0 : Int), pd)] : List (Int × Int))) (jv_tup (av_cons (JV.to ((eP D.int D.int) ((0 : Int), pd)) (jv_tup (av_cons jv_int (av_cons (jv_v 1 (D.int pd)) av_nil))) rfl) av_nil)) rfl)) (fun c2 => ?_) (fun c2 => ?_))
    ·
      have hf : cy = [(0, pd)] := by simpa using c2
      refine js_cons (js_ret (JV.to ((eP (eQ (eP D.int D.int)) D.int) (([((0 : Int), (1 : Int))] : List (Int × Int)), (1 : Int))) (jv_tup (av_cons (JV.to ((eQ (eP D.int D.int)) ([((0 : Int), (1 : Int))] : List (Int × Int))) (jv_tup (av_cons (JV.to ((eP D.int D.int) ((0 : Int), (1 : Int))) (jv_tup (av_cons jv_int (av_cons jv_int av_nil))) rfl) av_nil)) rfl) (av_cons jv_int av_nil))) rfl) ?_)
      refine congrArg (fun z => Except.ok ((eP (eQ (eP D.int D.int)) D.int) z)) (show lowerF cy pd = (([((0 : Int), (1 : Int))] : List (Int × Int)), (1 : Int)) from ?_)
      rw [hf, lower_full p1]
    ·
      have hf : cy ≠ [(0, pd)] := by simpa using c2
      refine js_nil ?_
      refine js_cons (js_setE 2 (eL D.int) (risesF cy pd) (jv_call (fn_rises T) (hr.mono (by decide)) (av_cons (jv_v 0 ((eQ (eP D.int D.int)) cy)) (av_cons (jv_v 1 (D.int pd)) av_nil)) (r_rises (by first | (exact ⟨hn, by omega⟩) | decide | omega | (simp only [Dy.cutD, List.length_append, List.length_map, List.length_cons, List.length_nil, List.length_take, List.length_drop]; omega) | (simp_all; done) | (simp_all; omega)))) (fun up h_up => ?_) sc_lower_period.nd)
      have ul : up.length ≤ 20000 := by rw [h_up]; have := (rises_len cy pd).1; omega
      refine js_cons (js_setE 3 (eL D.int) (fallsF cy pd) (jv_call (fn_falls T) (hr.mono (by decide)) (av_cons (jv_v 0 ((eQ (eP D.int D.int)) cy)) (av_cons (jv_v 1 (D.int pd)) av_nil)) (r_falls (by first | (exact ⟨hn, by omega, p1, p2⟩) | decide | omega | (simp only [Dy.cutD, List.length_append, List.length_map, List.length_cons, List.length_nil, List.length_take, List.length_drop]; omega) | (simp_all; done) | (simp_all; omega)))) (fun down h_down => ?_) sc_lower_period.nd)
      have dl : down.length ≤ 20000 := by
        rw [h_down]
        have e : (fallsF cy pd).length ≤ cy.length := by
          unfold fallsF
          split
          · rw [cut_one, List.length_drop, (sortI_perm _).length_eq, List.length_map]; omega
          · rw [(sortI_perm _).length_eq, List.length_map]; exact Nat.le_refl _
        omega
      refine js_cons (js_setE 4 D.int (Int.gcd pd (up.length : Int) : Int) (jv_gcd (jv_v 1 (D.int pd)) (JV.to (.int (up.length : Int)) (jv_len (RV.qv (LV.rv (JV.lv (jv_v 2 ((eL D.int) up))))) T.b_len) (by rw [List.length_map])) T.f_gcd) (fun restv h_restv => ?_) sc_lower_period.nd)
      refine js_cons (js_set 5 jv_int ?_ sc_lower_period.nd)
      refine js_cons (js_set 6 (jv_v 1 (D.int pd)) ?_ sc_lower_period.nd)
      refine js_cons (js_while (fun (z : (Int) × (Int) × (Int)) => [.val ((eQ (eP D.int D.int)) cy), .val (D.int pd), .val ((eL D.int) up), .val ((eL D.int) down), .val (D.int z.1), .val (D.int z.2.1), .val (D.int z.2.2), .un]) (fun (z : (Int) × (Int) × (Int)) => LI (lp cy pd) z.1 z.2.1 z.2.2 ∧ z.1 ≤ pd ∧ z.2.2 ≤ pd) (fun (z : (Int) × (Int) × (Int)) => (2 * z.1 - z.2.1).toNat) (restv, (2 : Int), pd) ?h00 ⟨.inr rfl, .inr rfl, .inr rfl, .inr rfl, .inr rfl, .inr rfl, .inr rfl, .inl rfl, trivial⟩ ?turn0 (passes_of rfl))
      case h00 =>
        try dsimp only
        refine ⟨?_, ?_, Int.le_refl _⟩; rw [h_restv, h_up]; exact li_start p1 ht hn L; rw [h_restv]; exact Int.le_of_dvd (by omega) (Int.gcd_dvd_left ..)
      case turn0 =>
        rintro ⟨restv1, prime, least⟩ iv0
        try dsimp only at iv0
        obtain ⟨iv0, ir, il⟩ := iv0; have hp2 := iv0.p2; have hr1 := iv0.r1
        refine ⟨(decide ((1 : Int) < restv1)), (tv_gt (jv_v 4 (D.int restv1)) jv_int), fun w0 => ?_, fun w0 => ?_⟩
        ·
          have hw : 1 < restv1 := by simpa using w0
          have hpl := iv0.pl hw
          refine js_cons (js_if (tv_eq (jv_mod (jv_v 4 (D.int restv1)) (jv_v 5 (D.int prime)) (by first | decide | omega | (simp only [Dy.cutD, List.length_append, List.length_map, List.length_cons, List.length_nil, List.length_take, List.length_drop]; omega) | (simp_all; done) | (simp_all; omega))) jv_int) (fun c3 => ?_) (fun c3 => ?_))
          ·
            have hd : restv1 % prime = 0 := by simpa using c3
            have LN := li_div d1 iv0 hd
            refine js_cons (js_setE 4 D.int (restv1 / prime) (jv_div (jv_v 4 (D.int restv1)) (jv_v 5 (D.int prime)) (by first | (unfold CDiv; omega) | (exact cdiv_nth (by decide) (by omega) (by simp only [List.length_cons, List.length_nil]; omega)) | decide | omega | (simp only [Dy.cutD, List.length_append, List.length_map, List.length_cons, List.length_nil, List.length_take, List.length_drop]; omega) | (simp_all; done) | (simp_all; omega))) (fun restv2 h_restv2 => ?_) sc_lower_period.nd)
            refine js_cons (js_setE 7 D.int (least / prime) (jv_div (jv_v 6 (D.int least)) (jv_v 5 (D.int prime)) (by first | (unfold CDiv; omega) | (exact cdiv_nth (by decide) (by omega) (by simp only [List.length_cons, List.length_nil]; omega)) | decide | omega | (simp only [Dy.cutD, List.length_append, List.length_map, List.length_cons, List.length_nil, List.length_take, List.length_drop]; omega) | (simp_all; done) | (simp_all; omega))) (fun step h_step => ?_) sc_lower_period.nd)
            have hq := iv0.p2
            refine js_cons (js_if (tv_w (wv_and (tv_of (jv_call (fn_repeats_by T) (hr.mono (by decide)) (av_cons (jv_v 2 ((eL D.int) up)) (av_cons (jv_v 7 (D.int step)) (av_cons (jv_v 1 (D.int pd)) av_nil))) (r_repeats_by (by first | (exact ⟨by omega, p1, p2⟩) | decide | omega | (simp only [Dy.cutD, List.length_append, List.length_map, List.length_cons, List.length_nil, List.length_take, List.length_drop]; omega) | (simp_all; done) | (simp_all; omega))))) (fun q1 => (wv_and1 (tv_of (jv_call (fn_repeats_by T) (hr.mono (by decide)) (av_cons (jv_v 3 ((eL D.int) down)) (av_cons (jv_v 7 (D.int step)) (av_cons (jv_v 1 (D.int pd)) av_nil))) (r_repeats_by (by first | (exact ⟨by omega, p1, p2⟩) | decide | omega | (simp only [Dy.cutD, List.length_append, List.length_map, List.length_cons, List.length_nil, List.length_take, List.length_drop]; omega) | (simp_all; done) | (simp_all; omega))))))))) (fun c4 => ?_) (fun c4 => ?_))
            ·
              have hv : lp cy pd ∣ step := by
                have q : repF (risesF cy pd) step pd = true ∧ repF (fallsF cy pd) step pd = true := by rw [← h_up, ← h_down]; simpa using c4
                exact (test_iff p1 ht hn hf L step).mp q
              refine js_cons (js_set 6 (jv_v 7 (D.int step)) ?_ sc_lower_period.nd)
              refine js_nil ?_
              refine js_nil ?_
              refine js_nil ⟨(restv2, prime, step), ?_, ?_, ⟨.inr rfl, .inr rfl, .inr rfl, .inr rfl, .inr rfl, .inr rfl, .inr rfl, .inl rfl, trivial⟩⟩
              · dsimp only; have a1 := LN.2; have a2 := LN.1.r1; rw [← h_restv2] at a1 a2; omega
              · try dsimp only
                have q := LN.1; rw [if_pos (by rw [← h_step]; exact hv), ← h_step, ← h_restv2] at q; exact ⟨q, by have a1 := LN.2; have a2 := LN.1.r1; rw [← h_restv2] at a1 a2; omega, by rw [h_step]; have := Int.ediv_le_self (b := prime) (a := least) (by have := iv0.l1; omega); omega⟩
            ·
              have hv : ¬ lp cy pd ∣ step := fun z => by
                have q := (test_iff p1 ht hn hf L step).mpr z
                rw [← h_up, ← h_down] at q
                rw [q.1, q.2] at c4
                cases c4
              refine js_nil ?_
              refine js_nil ?_
              refine js_nil ⟨(restv2, prime, least), ?_, ?_, ⟨.inr rfl, .inr rfl, .inr rfl, .inr rfl, .inr rfl, .inr rfl, .inr rfl, .inl rfl, trivial⟩⟩
              · dsimp only; have a1 := LN.2; have a2 := LN.1.r1; rw [← h_restv2] at a1 a2; omega
              · try dsimp only
                have q := LN.1; rw [if_neg (by rw [← h_step]; exact hv), ← h_restv2] at q; exact ⟨q, by have a1 := LN.2; have a2 := LN.1.r1; rw [← h_restv2] at a1 a2; omega, il⟩
          ·
            have hd : restv1 % prime ≠ 0 := by simpa using c3
            refine js_cons (js_setE 5 D.int (prime + (1 : Int)) (jv_add (jv_v 5 (D.int prime)) jv_int) (fun prime1 h_prime1 => ?_) sc_lower_period.nd)
            refine js_nil ?_
            refine js_nil ⟨(restv1, prime1, least), ?_, ?_, ⟨.inr rfl, .inr rfl, .inr rfl, .inr rfl, .inr rfl, .inr rfl, .inr rfl, .inl rfl, trivial⟩⟩
            · dsimp only; omega
            · try dsimp only
              exact ⟨by rw [h_prime1]; exact li_next iv0 hd, ir, il⟩
        ·
          have hw : ¬ 1 < restv1 := (by simpa using w0); have hle := li_end d1 iv0 hw
          refine js_cons (js_ret (JV.to ((eP (eQ (eP D.int D.int)) D.int) ((cutF cy (0 : Int) least), least)) (jv_tup (av_cons (jv_call (fn_cut T) (hr.mono (by decide)) (av_cons (jv_v 0 ((eQ (eP D.int D.int)) cy)) (av_cons jv_int (av_cons (jv_v 6 (D.int least)) av_nil))) (r_cut (by first | decide | omega | (simp only [Dy.cutD, List.length_append, List.length_map, List.length_cons, List.length_nil, List.length_take, List.length_drop]; omega) | (simp_all; done) | (simp_all; omega)))) (av_cons (jv_v 6 (D.int least)) av_nil))) rfl) ?_)
          refine congrArg (fun z => Except.ok ((eP (eQ (eP D.int D.int)) D.int) z)) (show lowerF cy pd = ((cutF cy (0 : Int) least), least) from ?_)
          rw [lowerF, hle]
theorem fn_lower_period (T : Txt K mg) : Fn P w K mg base 2 "lower_period" (R_lower_period ) := by
  obtain ⟨f, fd, F, gf⟩ := T.lower_period
  exact ⟨f, fd, _, ok_lower_period T F, gf, F.kp, F.binds fun _ _ _ _ _ _ us hl => match us, hl with | [_, _], _ => rfl⟩
end
abbrev s_last_difference : Stmt := (top 17)
def R_last_difference : Rl := fun ds r => ∃ (ps : List (Int × Int)) (qs : List (Int × Int)), ds = [((eQ (eP D.int D.int)) ps), ((eQ (eP D.int D.int)) qs)] ∧ (ps.length ≤ 11000 ∧ qs.length ≤ 41000) ∧ r = .ok (D.int (ldF ps qs))
theorem r_last_difference {ps : List (Int × Int)} {qs : List (Int × Int)} (hpre : ps.length ≤ 11000 ∧ qs.length ≤ 41000) : R_last_difference [((eQ (eP D.int D.int)) ps), ((eQ (eP D.int D.int)) qs)] (.ok (D.int (ldF ps qs))) := ⟨ps, qs, rfl, hpre, rfl⟩
theorem sc_last_difference : FnScope ["first", "second", "both", "last", "row", "apart", "rest"] ["first", "second"] (defScope s_last_difference) := ⟨rfl, rfl, rfl, by decide +kernel, rfl, by decide +kernel, by decide +kernel⟩
section
variable {P : Program} {w : World} {K : PySem.W.Frag} {mg : Str → Option Value} {base : Heap}
theorem ok_last_difference (T : Txt K mg) {f : Addr} {fd : FuncData} (F : Fun K "last_difference" "last_difference" s_last_difference f fd) : FnOk P w K mg base (L2.CX P w) 3 f fd ["first", "second"] (spR K (R_last_difference )) := by
  refine fnok_of F sc_last_difference (fun ds r h => ?_) (fun cdv A outer s H E B ds r hr h => ?_)
  · obtain ⟨_, _, rfl, _⟩ := h
    rfl
  obtain ⟨ps, qs, rfl, hpre, rfl⟩ := h
  refine js_cons (js_setE 2 (eQ (eP D.int D.int)) (comF ps qs) (jv_call (fn_common T) (hr.mono (by decide)) (av_cons (jv_v 0 ((eQ (eP D.int D.int)) ps)) (av_cons (jv_v 1 ((eQ (eP D.int D.int)) qs)) av_nil)) (r_common (by first | (rw [es, ep]; omega) | decide | omega | (simp only [Dy.cutD, List.length_append, List.length_map, List.length_cons, List.length_nil, List.length_take, List.length_drop]; omega) | (simp_all; done) | (simp_all; omega)))) (fun both h_both => ?_) sc_last_difference.nd)
  have bl : both.length ≤ ps.length + qs.length := by rw [h_both]; exact com_len _ _ _ (Nat.le_refl _)
  refine js_cons (js_set 3 jv_int ?_ sc_last_difference.nd)
  refine js_cons (js_overT (is := [4]) ([ps, qs] : List (List (Int × Int))) (eQ (eP D.int D.int)) (fun (a : List (Int × Int)) Δ => Δ.set 4 (.val ((eQ (eP D.int D.int)) a))) (fun (pre0 : List (List (Int × Int))) (last : (Int)) => [.val ((eQ (eP D.int D.int)) ps), .val ((eQ (eP D.int D.int)) qs), .val ((eQ (eP D.int D.int)) both), .val (D.int last), .un, .un, .un]) (fun (pre0 : List (List (Int × Int))) (last : (Int)) => last = pre0.foldl (fun l r => ldRow both r l) 0) (0 : Int) (JV.to ((eQ (eQ (eP D.int D.int))) ([ps, qs] : List (List (Int × Int)))) (JV.to ((eP (eQ (eP D.int D.int)) (eQ (eP D.int D.int))) (ps, qs)) (jv_tup (av_cons (jv_v 0 ((eQ (eP D.int D.int)) ps)) (av_cons (jv_v 1 ((eQ (eP D.int D.int)) qs)) av_nil))) rfl) rfl) ?tgt0 ?h00 ⟨.inr rfl, .inr rfl, .inr rfl, .inr rfl, .inl rfl, .inl rfl, .inl rfl, trivial⟩ ?turn0 ?done0 (passes_of rfl) rfl)
  case tgt0 => exact tg_name 4 sc_last_difference.nd
  case h00 =>
    try dsimp only
    rfl
  case turn0 =>
    rintro B pre0 av post0 last e0 iv0
    try dsimp only at iv0
    have hm : av = ps ∨ av = qs := by
      have : av ∈ ([ps, qs] : List (List (Int × Int))) := by rw [e0]; simp
      simpa using this
    have hal : av.length ≤ 41000 := by rcases hm with q | q <;> rw [q] <;> omega
    refine js_cons (js_if (tv_neNT hr (PyE.toN (pyE_pair pyE_int pyE_int)) (by decide) (jv_v 4 ((eQ (eP D.int D.int)) av)) (jv_tup av_nil)) (fun c1 => ?_) (fun c1 => ?_))
    ·
      have hw : av ≠ [] := by simpa using c1
      have hp := List.length_pos_iff.mpr hw
      refine js_cons (js_setE 5 (eQ (eP D.int D.int)) (gapsF both ((nth av (0 : Int)).1) ((nth av (av.length + (-(1 : Int)))).2)) (jv_call (fn_gaps T) (hr.mono (by decide)) (av_cons (jv_v 2 ((eQ (eP D.int D.int)) both)) (av_cons (jv_ixT (d := (D.int ((nth av (0 : Int)).1))) (jv_ixT (d := ((eP D.int D.int) (nth av (0 : Int)))) (jv_v 4 ((eQ (eP D.int D.int)) av)) jv_int (atI_nth (by first | decide | omega | (simp only [Dy.cutD, List.length_append, List.length_map, List.length_cons, List.length_nil, List.length_take, List.length_drop]; omega) | (simp_all; done) | (simp_all; omega)) (by first | decide | omega | (simp only [Dy.cutD, List.length_append, List.length_map, List.length_cons, List.length_nil, List.length_take, List.length_drop]; omega) | (simp_all; done) | (simp_all; omega)))) jv_int rfl) (av_cons (jv_ixT (d := (D.int ((nth av (av.length + (-(1 : Int)))).2))) (jv_ixT (d := ((eP D.int D.int) (nth av (av.length + (-(1 : Int)))))) (jv_v 4 ((eQ (eP D.int D.int)) av)) (jv_neg jv_int) (atI_last' (by decide) (by first | decide | omega | (simp only [Dy.cutD, List.length_append, List.length_map, List.length_cons, List.length_nil, List.length_take, List.length_drop]; omega) | (simp_all; done) | (simp_all; omega)))) jv_int rfl) av_nil))) (r_gaps (by first | (rw [h_stop]; omega) | decide | omega | (simp only [Dy.cutD, List.length_append, List.length_map, List.length_cons, List.length_nil, List.length_take, List.length_drop]; omega) | (simp_all; done) | (simp_all; omega)))) (fun apart h_apart => ?_) sc_last_difference.nd)
      have al : apart.length ≤ both.length + 1 := by rw [h_apart]; exact gapsF_len _ _ _
      refine js_cons (js_setE 6 (eQ (eP D.int D.int)) (comF av apart) (jv_call (fn_common T) (hr.mono (by decide)) (av_cons (jv_v 4 ((eQ (eP D.int D.int)) av)) (av_cons (jv_v 5 ((eQ (eP D.int D.int)) apart)) av_nil)) (r_common (by first | (rw [es, ep]; omega) | decide | omega | (simp only [Dy.cutD, List.length_append, List.length_map, List.length_cons, List.length_nil, List.length_take, List.length_drop]; omega) | (simp_all; done) | (simp_all; omega)))) (fun restv h_restv => ?_) sc_last_difference.nd)
      have er : ldRest both av = restv := by rw [h_restv, h_apart]; rfl
      refine js_cons (js_if (tv_neNT hr (PyE.toN (pyE_pair pyE_int pyE_int)) (by decide) (jv_v 6 ((eQ (eP D.int D.int)) restv)) (jv_tup av_nil)) (fun c2 => ?_) (fun c2 => ?_))
      ·
        have h2 : restv ≠ [] := by simpa using c2
        have hp2 := List.length_pos_iff.mpr h2
        refine js_cons (js_setE 3 D.int (max last ((nth restv (restv.length + (-(1 : Int)))).2)) (JV.to (.int (max last ((nth restv (restv.length + (-(1 : Int)))).2))) (jv_max2 rfl (jv_v 3 (D.int last)) (jv_ixT (d := (D.int ((nth restv (restv.length + (-(1 : Int)))).2))) (jv_ixT (d := ((eP D.int D.int) (nth restv (restv.length + (-(1 : Int)))))) (jv_v 6 ((eQ (eP D.int D.int)) restv)) (jv_neg jv_int) (atI_last' (by decide) (by first | decide | omega | (simp only [Dy.cutD, List.length_append, List.length_map, List.length_cons, List.length_nil, List.length_take, List.length_drop]; omega) | (simp_all; done) | (simp_all; omega)))) jv_int rfl) T.b_max) (by rw [max_py])) (fun last1 h_last1 => ?_) sc_last_difference.nd)
        refine js_nil ?_
        refine js_nil ?_
        refine js_nil ⟨last1, ?_, ⟨.inr rfl, .inr rfl, .inr rfl, .inr rfl, .inl rfl, .inl rfl, .inl rfl, trivial⟩⟩
        try dsimp only
        rw [h_last1, List.foldl_append, ← iv0]; show _ = ldRow both av last; rw [ldRow, if_neg hw, er, if_neg h2]
      ·
        have h2 : restv = [] := by simpa using c2
        refine js_nil ?_
        refine js_nil ?_
        refine js_nil ⟨last, ?_, ⟨.inr rfl, .inr rfl, .inr rfl, .inr rfl, .inl rfl, .inl rfl, .inl rfl, trivial⟩⟩
        try dsimp only
        rw [List.foldl_append, ← iv0]; show _ = ldRow both av last; rw [ldRow, if_neg hw, er, if_pos h2]
    ·
      have hw : av = [] := by simpa using c1
      refine js_nil ?_
      refine js_nil ⟨last, ?_, ⟨.inr rfl, .inr rfl, .inr rfl, .inr rfl, .inl rfl, .inl rfl, .inl rfl, trivial⟩⟩
      try dsimp only
      rw [List.foldl_append, ← iv0]; show _ = ldRow both av last; rw [ldRow, if_pos hw]
  case done0 =>
    rintro last iv0
    try dsimp only at iv0
    refine js_cons (js_ret (jv_v 3 (D.int last)) ?_)
    refine congrArg (fun z => Except.ok (D.int z)) (show ldF ps qs = last from ?_)
    rw [iv0, ldF, h_both]; rfl
theorem fn_last_difference (T : Txt K mg) : Fn P w K mg base 3 "last_difference" (R_last_difference ) := by
  obtain ⟨f, fd, F, gf⟩ := T.last_difference
  exact ⟨f, fd, _, ok_last_difference T F, gf, F.kp, F.binds fun _ _ _ _ _ _ us hl => match us, hl with | [_, _], _ => rfl⟩
end
abbrev s_least_since : Stmt := (top 18)
def R_least_since : Rl := fun ds r => ∃ (hd : List (Int × Int)) (sn : Int) (pd : Int) (cy : List (Int × Int)), ds = [((eQ (eP D.int D.int)) hd), (D.int sn), (D.int pd), ((eQ (eP D.int D.int)) cy)] ∧ (LsP hd sn pd cy) ∧ r = .ok (D.int (ls hd sn pd cy))
theorem r_least_since {hd : List (Int × Int)} {sn : Int} {pd : Int} {cy : List (Int × Int)} (hpre : LsP hd sn pd cy) : R_least_since [((eQ (eP D.int D.int)) hd), (D.int sn), (D.int pd), ((eQ (eP D.int D.int)) cy)] (.ok (D.int (ls hd sn pd cy))) := ⟨hd, sn, pd, cy, rfl, hpre, rfl⟩
theorem sc_least_since : FnScope ["head", "since", "period", "cycle", "high", "step", "low", "least"] ["head", "since", "period", "cycle"] (defScope s_least_since) := ⟨rfl, rfl, rfl, by decide +kernel, rfl, by decide +kernel, by decide +kernel⟩
section
variable {P : Program} {w : World} {K : PySem.W.Frag} {mg : Str → Option Value} {base : Heap}
theorem ok_least_since (T : Txt K mg) {f : Addr} {fd : FuncData} (F : Fun K "least_since" "least_since" s_least_since f fd) : FnOk P w K mg base (L2.CX P w) 4 f fd ["head", "since", "period", "cycle"] (spR K (R_least_since )) := by
  refine fnok_of F sc_least_since (fun ds r h => ?_) (fun cdv A outer s H E B ds r hr h => ?_)
  · obtain ⟨_, _, _, _, rfl, _⟩ := h
    rfl
  obtain ⟨hd, sn, pd, cy, rfl, hpre, rfl⟩ := h
  have p1 := hpre.p1
  have pb := hpre.pb
  have s0 := hpre.s0
  have hl := hpre.hl
  have cl := hpre.cl
  refine js_cons (js_if (tv_eqNT hr (PyE.toN (pyE_pair pyE_int pyE_int)) (by decide) (jv_v 3 ((eQ (eP D.int D.int)) cy)) (jv_tup av_nil)) (fun c1 => ?_) (fun c1 => ?_))
  ·
    have hn : cy = [] := by simpa using c1
    refine js_cons (js_ret (jv_call (fn_last_difference T) (hr.mono (by decide)) (av_cons (jv_v 0 ((eQ (eP D.int D.int)) hd)) (av_cons (JV.to ((eQ (eP D.int D.int)) ([] : List (Int × Int))) (jv_tup av_nil) rfl) av_nil)) (r_last_difference (by first | (exact ⟨by omega, by simp⟩) | (rw [h_low]; exact ⟨W.2.1, W.2.2⟩) | decide | omega | (simp only [Dy.cutD, List.length_append, List.length_map, List.length_cons, List.length_nil, List.length_take, List.length_drop]; omega) | (simp_all; done) | (simp_all; omega)))) ?_)
    refine congrArg (fun z => Except.ok (D.int z)) (show ls hd sn pd cy = (ldF hd ([] : List (Int × Int))) from ?_)
    rw [hn]; exact (ls_nil s0 hpre.th).symm
  ·
    refine js_nil ?_
    refine js_cons (js_set 4 (jv_v 1 (D.int sn)) ?_ sc_least_since.nd)
    refine js_cons (js_set 5 (jv_v 2 (D.int pd)) ?_ sc_least_since.nd)
    refine js_cons (js_while (fun (z : (Int) × (Int)) => [.val ((eQ (eP D.int D.int)) hd), .val (D.int sn), .val (D.int pd), .val ((eQ (eP D.int D.int)) cy), .val (D.int z.1), .val (D.int z.2), .un, .un]) (fun (z : (Int) × (Int)) => 0 ≤ z.1 ∧ z.1 ≤ sn ∧ (∀ t, z.1 ≤ t → t < sn → hitF hd t = cir cy pd (t - sn)) ∧ 1 ≤ z.2 ∧ (z.1 = 0 ∨ z.2 ≤ sn - z.1 + pd)) (fun (z : (Int) × (Int)) => (z.1).toNat) (sn, pd) ?h00 ⟨.inr rfl, .inr rfl, .inr rfl, .inr rfl, .inr rfl, .inr rfl, .inl rfl, .inl rfl, trivial⟩ ?turn0 (passes_of rfl))
    case h00 =>
      try dsimp only
      exact ⟨s0, Int.le_refl _, fun t a b => by omega, p1, .inr (by omega)⟩
    case turn0 =>
      rintro ⟨high, step⟩ iv0
      try dsimp only at iv0
      obtain ⟨i1, i2, i3, i4, i5⟩ := iv0
      refine ⟨(decide ((0 : Int) < high)), (tv_gt (jv_v 4 (D.int high)) jv_int), fun w0 => ?_, fun w0 => ?_⟩
      ·
        have hw : 0 < high := by simpa using w0
        have W := hpre.win hw i2 i3 (by omega) i4
        refine js_cons (js_setE 6 D.int (max (0 : Int) (high - step)) (JV.to (.int (max (0 : Int) (high - step))) (jv_max2 rfl jv_int (jv_sub (jv_v 4 (D.int high)) (jv_v 5 (D.int step))) T.b_max) (by rw [max_py])) (fun low h_low => ?_) sc_least_since.nd)
        have W2 := W
        rw [← h_low] at W2
        refine js_cons (js_setE 7 D.int (ldF (cutF hd low high) (unrF cy sn pd low high)) (jv_call (fn_last_difference T) (hr.mono (by decide)) (av_cons (jv_call (fn_cut T) (hr.mono (by decide)) (av_cons (jv_v 0 ((eQ (eP D.int D.int)) hd)) (av_cons (jv_v 6 (D.int low)) (av_cons (jv_v 4 (D.int high)) av_nil))) (r_cut (by first | decide | omega | (simp only [Dy.cutD, List.length_append, List.length_map, List.length_cons, List.length_nil, List.length_take, List.length_drop]; omega) | (simp_all; done) | (simp_all; omega)))) (av_cons (jv_call (fn_unrolled T) (hr.mono (by decide)) (av_cons (jv_v 3 ((eQ (eP D.int D.int)) cy)) (av_cons (jv_v 1 (D.int sn)) (av_cons (jv_v 2 (D.int pd)) (av_cons (jv_v 6 (D.int low)) (av_cons (jv_v 4 (D.int high)) av_nil))))) (r_unrolled (by first | (exact ⟨p1, pb, cl, rn⟩) | (exact ⟨hb.1, by omega, by omega, fun _ => hRU⟩) | (rw [h_low]; exact ⟨p1, pb, by omega, fun _ => W.1⟩) | decide | omega | (simp only [Dy.cutD, List.length_append, List.length_map, List.length_cons, List.length_nil, List.length_take, List.length_drop]; omega) | (simp_all; done) | (simp_all; omega)))) av_nil)) (r_last_difference (by first | (exact ⟨by omega, by simp⟩) | (rw [h_low]; exact ⟨W.2.1, W.2.2⟩) | decide | omega | (simp only [Dy.cutD, List.length_append, List.length_map, List.length_cons, List.length_nil, List.length_take, List.length_drop]; omega) | (simp_all; done) | (simp_all; omega)))) (fun least h_least => ?_) sc_least_since.nd)
        refine js_cons (js_if (tv_gt (jv_v 7 (D.int least)) jv_int) (fun c2 => ?_) (fun c2 => ?_))
        ·
          refine js_cons (js_ret (jv_v 7 (D.int least)) ?_)
          refine congrArg (fun z => Except.ok (D.int z)) (show ls hd sn pd cy = least from ?_)
          rw [h_least]; exact ((ls_win p1 hpre.th hpre.tc (show 0 ≤ low by omega) i2 i3).1 (by rw [← h_least]; simpa using c2)).symm
        ·
          refine js_nil ?_
          refine js_cons (js_set 4 (jv_v 6 (D.int low)) ?_ sc_least_since.nd)
          refine js_cons (js_setE 5 D.int (step * (2 : Int)) (jv_mul (jv_v 5 (D.int step)) jv_int (.inr ⟨by decide, by decide⟩)) (fun step1 h_step1 => ?_) sc_least_since.nd)
          refine js_nil ⟨(low, step1), ?_, ?_, ⟨.inr rfl, .inr rfl, .inr rfl, .inr rfl, .inr rfl, .inr rfl, .inl rfl, .inl rfl, trivial⟩⟩
          · dsimp only; omega
          · try dsimp only
            refine ⟨by omega, by omega, fun t a b => ?_, by omega, by omega⟩; have q := (ls_win p1 hpre.th hpre.tc (show 0 ≤ low by omega) i2 i3).2 (by rw [← h_least]; simpa using c2) t a b; exact q
      ·
        have hw : ¬ 0 < high := (by simpa using w0)
        refine js_cons (js_ret jv_int ?_)
        refine congrArg (fun z => Except.ok (D.int z)) (show ls hd sn pd cy = (0 : Int) from ?_)
        exact (ls_all s0 fun t a b => i3 t (by omega) b).symm
theorem fn_least_since (T : Txt K mg) : Fn P w K mg base 4 "least_since" (R_least_since ) := by
  obtain ⟨f, fd, F, gf⟩ := T.least_since
  exact ⟨f, fd, _, ok_least_since T F, gf, F.kp, F.binds fun _ _ _ _ _ _ us hl => match us, hl with | [_, _, _, _], _ => rfl⟩
end
abbrev s_normal_form : Stmt := (top 19)
def R_normal_form : Rl := fun ds r => ∃ (hd : List (Int × Int)) (sn : Int) (pd : Int) (cy : List (Int × Int)), ds = [((eQ (eP D.int D.int)) hd), (D.int sn), (D.int pd), ((eQ (eP D.int D.int)) cy)] ∧ (SR ⟨hd, sn, pd, cy⟩ ∧ SN ⟨hd, sn, pd, cy⟩) ∧ r = .ok (dSpT (nfS ⟨hd, sn, pd, cy⟩))
theorem r_normal_form {hd : List (Int × Int)} {sn : Int} {pd : Int} {cy : List (Int × Int)} (hpre : SR ⟨hd, sn, pd, cy⟩ ∧ SN ⟨hd, sn, pd, cy⟩) : R_normal_form [((eQ (eP D.int D.int)) hd), (D.int sn), (D.int pd), ((eQ (eP D.int D.int)) cy)] (.ok (dSpT (nfS ⟨hd, sn, pd, cy⟩))) := ⟨hd, sn, pd, cy, rfl, hpre, rfl⟩
theorem sc_normal_form : FnScope ["head", "since", "period", "cycle", "least", "rows"] ["head", "since", "period", "cycle"] (defScope s_normal_form) := ⟨rfl, rfl, rfl, by decide +kernel, rfl, by decide +kernel, by decide +kernel⟩
section
variable {P : Program} {w : World} {K : PySem.W.Frag} {mg : Str → Option Value} {base : Heap}
theorem ok_normal_form (T : Txt K mg) {f : Addr} {fd : FuncData} (F : Fun K "normal_form" "normal_form" s_normal_form f fd) : FnOk P w K mg base (L2.CX P w) 5 f fd ["head", "since", "period", "cycle"] (spR K (R_normal_form )) := by
  refine fnok_of F sc_normal_form (fun ds r h => ?_) (fun cdv A outer s H E B ds r hr h => ?_)
  · obtain ⟨_, _, _, _, rfl, _⟩ := h
    rfl
  obtain ⟨hd, sn, pd, cy, rfl, hpre, rfl⟩ := h
  obtain ⟨hR, hN⟩ := hpre
  have s0 : 0 ≤ sn := hR.s0
  have p1 : 1 ≤ pd := hR.p1
  have pb : pd < 1073741824 := hN.pb
  have hn : hd.length + cy.length ≤ 10200 := hN.n
  have hL : LsP (mergedF hd) sn (lowP ⟨hd, sn, pd, cy⟩) (lowC ⟨hd, sn, pd, cy⟩) := lsP_of hR hN
  have hl := merged_len hd
  have cl := merged_len cy
  refine js_cons (js_setE 0 (eQ (eP D.int D.int)) (mergedF hd) (jv_call (fn_merged_Q T) (hr.mono (by decide)) (av_cons (jv_v 0 ((eQ (eP D.int D.int)) hd)) av_nil) (r_merged_Q (by first | (rw [es, ep, List.length_append]; omega) | (rw [List.length_append]; omega) | decide | omega | (simp only [Dy.cutD, List.length_append, List.length_map, List.length_cons, List.length_nil, List.length_take, List.length_drop]; omega) | (simp_all; done) | (simp_all; omega)))) (fun head h_head => ?_) sc_normal_form.nd)
  refine js_cons (js_unp (is := [3, 2]) (en := (eP (eQ (eP D.int D.int)) D.int)) (lowerF (mergedF cy) pd) (fun (u : List (Int × Int) × Int) Δ => ((Δ.set 3 (.val ((eQ (eP D.int D.int)) u.1))).set 2 (.val (D.int u.2)))) (jv_call (fn_lower_period T) (hr.mono (by decide)) (av_cons (jv_call (fn_merged_Q T) (hr.mono (by decide)) (av_cons (jv_v 3 ((eQ (eP D.int D.int)) cy)) av_nil) (r_merged_Q (by first | (rw [es, ep, List.length_append]; omega) | (rw [List.length_append]; omega) | decide | omega | (simp only [Dy.cutD, List.length_append, List.length_map, List.length_cons, List.length_nil, List.length_take, List.length_drop]; omega) | (simp_all; done) | (simp_all; omega)))) (av_cons (jv_v 2 (D.int pd)) av_nil)) (r_lower_period (by first | (exact ⟨merged_tidy hR.tc, p1, pb, by omega⟩) | decide | omega | (simp only [Dy.cutD, List.length_append, List.length_map, List.length_cons, List.length_nil, List.length_take, List.length_drop]; omega) | (simp_all; done) | (simp_all; omega)))) ?tgt (fun u h_u => ?_))
  case tgt => exact tg2 3 2 sc_normal_form.nd rfl
  have e1 : u.1 = lowC ⟨hd, sn, pd, cy⟩ := by rw [h_u]; rfl
  have e2 : u.2 = lowP ⟨hd, sn, pd, cy⟩ := by rw [h_u]; rfl
  have hb : 1 ≤ u.2 ∧ u.2 ≤ pd := by rw [e2]; exact lowP_bd hR
  have hul : u.1.length ≤ 10200 := by rw [e1]; exact hL.cl
  refine js_cons (js_setE 4 D.int (ls head sn u.2 u.1) (jv_call (fn_least_since T) (hr.mono (by decide)) (av_cons (jv_v 0 ((eQ (eP D.int D.int)) head)) (av_cons (jv_v 1 (D.int sn)) (av_cons (jv_v 2 (D.int u.2)) (av_cons (jv_v 3 ((eQ (eP D.int D.int)) u.1)) av_nil)))) (r_least_since (by first | (rw [h_head, e1, e2]; exact hL) | decide | omega | (simp only [Dy.cutD, List.length_append, List.length_map, List.length_cons, List.length_nil, List.length_take, List.length_drop]; omega) | (simp_all; done) | (simp_all; omega)))) (fun least h_least => ?_) sc_normal_form.nd)
  have lb : 0 ≤ least ∧ least ≤ sn := by rw [h_least]; exact ls_bd s0
  have hRU : rowsU u.1 u.2 (least + u.2 - least) ≤ 41000 := by rw [e1, e2]; exact hL.rn sn _ s0 (Int.le_refl _) (fun t a b => by omega) (by omega)
  have hrl : (unrF u.1 sn u.2 least (least + u.2)).length ≤ 41000 := by have := unr_lenU (c := u.1) (s := sn) (a := least) (b := least + u.2) hb.1 (by omega); omega
  refine js_cons (js_if (tv_lt (jv_v 4 (D.int least)) (jv_v 1 (D.int sn))) (fun c1 => ?_) (fun c1 => ?_))
  ·
    refine js_cons (js_setE 5 (eQ (eP D.int D.int)) (unrF u.1 sn u.2 least (least + u.2)) (jv_call (fn_unrolled T) (hr.mono (by decide)) (av_cons (jv_v 3 ((eQ (eP D.int D.int)) u.1)) (av_cons (jv_v 1 (D.int sn)) (av_cons (jv_v 2 (D.int u.2)) (av_cons (jv_v 4 (D.int least)) (av_cons (jv_add (jv_v 4 (D.int least)) (jv_v 2 (D.int u.2))) av_nil))))) (r_unrolled (by first | (exact ⟨p1, pb, cl, rn⟩) | (exact ⟨hb.1, by omega, by omega, fun _ => hRU⟩) | (rw [h_low]; exact ⟨p1, pb, by omega, fun _ => W.1⟩) | decide | omega | (simp only [Dy.cutD, List.length_append, List.length_map, List.length_cons, List.length_nil, List.length_take, List.length_drop]; omega) | (simp_all; done) | (simp_all; omega)))) (fun rows h_rows => ?_) sc_normal_form.nd)
    refine js_cons (js_ret (JV.to (dSpT (⟨(cutF head (0 : Int) least), least, u.2, (movedF rows (-least))⟩ : Sp)) (jv_tup (av_cons (jv_call (fn_cut T) (hr.mono (by decide)) (av_cons (jv_v 0 ((eQ (eP D.int D.int)) head)) (av_cons jv_int (av_cons (jv_v 4 (D.int least)) av_nil))) (r_cut (by first | decide | omega | (simp only [Dy.cutD, List.length_append, List.length_map, List.length_cons, List.length_nil, List.length_take, List.length_drop]; omega) | (simp_all; done) | (simp_all; omega)))) (av_cons (jv_v 4 (D.int least)) (av_cons (jv_v 2 (D.int u.2)) (av_cons (jv_call (fn_moved T) (hr.mono (by decide)) (av_cons (jv_v 5 ((eQ (eP D.int D.int)) rows)) (av_cons (jv_neg (jv_v 4 (D.int least))) av_nil)) (r_moved (by first | decide | omega | (simp only [Dy.cutD, List.length_append, List.length_map, List.length_cons, List.length_nil, List.length_take, List.length_drop]; omega) | (simp_all; done) | (simp_all; omega)))) av_nil))))) rfl) ?_)
    refine congrArg (fun z => Except.ok (dSpT z)) (show nfS ⟨hd, sn, pd, cy⟩ = (⟨(cutF head (0 : Int) least), least, u.2, (movedF rows (-least))⟩ : Sp) from ?_)
    have q : least < sn := of_decide_eq_true c1
    subst h_rows h_least h_u h_head
    rw [nfS]
    exact if_pos q
  ·
    refine js_nil ?_
    refine js_cons (js_ret (JV.to (dSpT (⟨head, sn, u.2, u.1⟩ : Sp)) (jv_tup (av_cons (jv_v 0 ((eQ (eP D.int D.int)) head)) (av_cons (jv_v 1 (D.int sn)) (av_cons (jv_v 2 (D.int u.2)) (av_cons (jv_v 3 ((eQ (eP D.int D.int)) u.1)) av_nil))))) rfl) ?_)
    refine congrArg (fun z => Except.ok (dSpT z)) (show nfS ⟨hd, sn, pd, cy⟩ = (⟨head, sn, u.2, u.1⟩ : Sp) from ?_)
    have q : ¬ least < sn := of_decide_eq_false c1
    subst h_least h_u h_head
    rw [nfS]
    exact if_neg q
theorem fn_normal_form (T : Txt K mg) : Fn P w K mg base 5 "normal_form" (R_normal_form ) := by
  obtain ⟨f, fd, F, gf⟩ := T.normal_form
  exact ⟨f, fd, _, ok_normal_form T F, gf, F.kp, F.binds fun _ _ _ _ _ _ us hl => match us, hl with | [_, _, _, _], _ => rfl⟩
end
abbrev s_normal_form_LL : Stmt := (top 19)
def R_normal_form_LL : Rl := fun ds r => ∃ (hd : List (Int × Int)) (sn : Int) (pd : Int) (cy : List (Int × Int)), ds = [((eL (eP D.int D.int)) hd), (D.int sn), (D.int pd), ((eL (eP D.int D.int)) cy)] ∧ (SR ⟨hd, sn, pd, cy⟩ ∧ SN ⟨hd, sn, pd, cy⟩) ∧ r = .ok (dSpT (nfS ⟨hd, sn, pd, cy⟩))
theorem r_normal_form_LL {hd : List (Int × Int)} {sn : Int} {pd : Int} {cy : List (Int × Int)} (hpre : SR ⟨hd, sn, pd, cy⟩ ∧ SN ⟨hd, sn, pd, cy⟩) : R_normal_form_LL [((eL (eP D.int D.int)) hd), (D.int sn), (D.int pd), ((eL (eP D.int D.int)) cy)] (.ok (dSpT (nfS ⟨hd, sn, pd, cy⟩))) := ⟨hd, sn, pd, cy, rfl, hpre, rfl⟩
theorem sc_normal_form_LL : FnScope ["head", "since", "period", "cycle", "least", "rows"] ["head", "since", "period", "cycle"] (defScope s_normal_form_LL) := ⟨rfl, rfl, rfl, by decide +kernel, rfl, by decide +kernel, by decide +kernel⟩
section
variable {P : Program} {w : World} {K : PySem.W.Frag} {mg : Str → Option Value} {base : Heap}
theorem ok_normal_form_LL (T : Txt K mg) {f : Addr} {fd : FuncData} (F : Fun K "normal_form" "normal_form" s_normal_form_LL f fd) : FnOk P w K mg base (L2.CX P w) 5 f fd ["head", "since", "period", "cycle"] (spR K (R_normal_form_LL )) := by
  refine fnok_of F sc_normal_form_LL (fun ds r h => ?_) (fun cdv A outer s H E B ds r hr h => ?_)
  · obtain ⟨_, _, _, _, rfl, _⟩ := h
    rfl
  obtain ⟨hd, sn, pd, cy, rfl, hpre, rfl⟩ := h
  obtain ⟨hR, hN⟩ := hpre
  have s0 : 0 ≤ sn := hR.s0
  have p1 : 1 ≤ pd := hR.p1
  have pb : pd < 1073741824 := hN.pb
  have hn : hd.length + cy.length ≤ 10200 := hN.n
  have hL : LsP (mergedF hd) sn (lowP ⟨hd, sn, pd, cy⟩) (lowC ⟨hd, sn, pd, cy⟩) := lsP_of hR hN
  have hl := merged_len hd
  have cl := merged_len cy
  refine js_cons (js_setE 0 (eQ (eP D.int D.int)) (mergedF hd) (jv_call (fn_merged T) (hr.mono (by decide)) (av_cons (jv_v 0 ((eL (eP D.int D.int)) hd)) av_nil) (r_merged (by first | (rw [es, ep, List.length_append]; omega) | (rw [List.length_append]; omega) | decide | omega | (simp only [Dy.cutD, List.length_append, List.length_map, List.length_cons, List.length_nil, List.length_take, List.length_drop]; omega) | (simp_all; done) | (simp_all; omega)))) (fun head h_head => ?_) sc_normal_form_LL.nd)
  refine js_cons (js_unp (is := [3, 2]) (en := (eP (eQ (eP D.int D.int)) D.int)) (lowerF (mergedF cy) pd) (fun (u : List (Int × Int) × Int) Δ => ((Δ.set 3 (.val ((eQ (eP D.int D.int)) u.1))).set 2 (.val (D.int u.2)))) (jv_call (fn_lower_period T) (hr.mono (by decide)) (av_cons (jv_call (fn_merged T) (hr.mono (by decide)) (av_cons (jv_v 3 ((eL (eP D.int D.int)) cy)) av_nil) (r_merged (by first | (rw [es, ep, List.length_append]; omega) | (rw [List.length_append]; omega) | decide | omega | (simp only [Dy.cutD, List.length_append, List.length_map, List.length_cons, List.length_nil, List.length_take, List.length_drop]; omega) | (simp_all; done) | (simp_all; omega)))) (av_cons (jv_v 2 (D.int pd)) av_nil)) (r_lower_period (by first | (exact ⟨merged_tidy hR.tc, p1, pb, by omega⟩) | decide | omega | (simp only [Dy.cutD, List.length_append, List.length_map, List.length_cons, List.length_nil, List.length_take, List.length_drop]; omega) | (simp_all; done) | (simp_all; omega)))) ?tgt (fun u h_u => ?_))
  case tgt => exact tg2 3 2 sc_normal_form_LL.nd rfl
  have e1 : u.1 = lowC ⟨hd, sn, pd, cy⟩ := by rw [h_u]; rfl
  have e2 : u.2 = lowP ⟨hd, sn, pd, cy⟩ := by rw [h_u]; rfl
  have hb : 1 ≤ u.2 ∧ u.2 ≤ pd := by rw [e2]; exact lowP_bd hR
  have hul : u.1.length ≤ 10200 := by rw [e1]; exact hL.cl
  refine js_cons (js_setE 4 D.int (ls head sn u.2 u.1) (jv_call (fn_least_since T) (hr.mono (by decide)) (av_cons (jv_v 0 ((eQ (eP D.int D.int)) head)) (av_cons (jv_v 1 (D.int sn)) (av_cons (jv_v 2 (D.int u.2)) (av_cons (jv_v 3 ((eQ (eP D.int D.int)) u.1)) av_nil)))) (r_least_since (by first | (rw [h_head, e1, e2]; exact hL) | decide | omega | (simp only [Dy.cutD, List.length_append, List.length_map, List.length_cons, List.length_nil, List.length_take, List.length_drop]; omega) | (simp_all; done) | (simp_all; omega)))) (fun least h_least => ?_) sc_normal_form_LL.nd)
  have lb : 0 ≤ least ∧ least ≤ sn := by rw [h_least]; exact ls_bd s0
  have hRU : rowsU u.1 u.2 (least + u.2 - least) ≤ 41000 := by rw [e1, e2]; exact hL.rn sn _ s0 (Int.le_refl _) (fun t a b => by omega) (by omega)
  have hrl : (unrF u.1 sn u.2 least (least + u.2)).length ≤ 41000 := by have := unr_lenU (c := u.1) (s := sn) (a := least) (b := least + u.2) hb.1 (by omega); omega
  refine js_cons (js_if (tv_lt (jv_v 4 (D.int least)) (jv_v 1 (D.int sn))) (fun c1 => ?_) (fun c1 => ?_))
  ·
    refine js_cons (js_setE 5 (eQ (eP D.int D.int)) (unrF u.1 sn u.2 least (least + u.2)) (jv_call (fn_unrolled T) (hr.mono (by decide)) (av_cons (jv_v 3 ((eQ (eP D.int D.int)) u.1)) (av_cons (jv_v 1 (D.int sn)) (av_cons (jv_v 2 (D.int u.2)) (av_cons (jv_v 4 (D.int least)) (av_cons (jv_add (jv_v 4 (D.int least)) (jv_v 2 (D.int u.2))) av_nil))))) (r_unrolled (by first | (exact ⟨p1, pb, cl, rn⟩) | (exact ⟨hb.1, by omega, by omega, fun _ => hRU⟩) | (rw [h_low]; exact ⟨p1, pb, by omega, fun _ => W.1⟩) | decide | omega | (simp only [Dy.cutD, List.length_append, List.length_map, List.length_cons, List.length_nil, List.length_take, List.length_drop]; omega) | (simp_all; done) | (simp_all; omega)))) (fun rows h_rows => ?_) sc_normal_form_LL.nd)
    refine js_cons (js_ret (JV.to (dSpT (⟨(cutF head (0 : Int) least), least, u.2, (movedF rows (-least))⟩ : Sp)) (jv_tup (av_cons (jv_call (fn_cut T) (hr.mono (by decide)) (av_cons (jv_v 0 ((eQ (eP D.int D.int)) head)) (av_cons jv_int (av_cons (jv_v 4 (D.int least)) av_nil))) (r_cut (by first | decide | omega | (simp only [Dy.cutD, List.length_append, List.length_map, List.length_cons, List.length_nil, List.length_take, List.length_drop]; omega) | (simp_all; done) | (simp_all; omega)))) (av_cons (jv_v 4 (D.int least)) (av_cons (jv_v 2 (D.int u.2)) (av_cons (jv_call (fn_moved T) (hr.mono (by decide)) (av_cons (jv_v 5 ((eQ (eP D.int D.int)) rows)) (av_cons (jv_neg (jv_v 4 (D.int least))) av_nil)) (r_moved (by first | decide | omega | (simp only [Dy.cutD, List.length_append, List.length_map, List.length_cons, List.length_nil, List.length_take, List.length_drop]; omega) | (simp_all; done) | (simp_all; omega)))) av_nil))))) rfl) ?_)
    refine congrArg (fun z => Except.ok (dSpT z)) (show nfS ⟨hd, sn, pd, cy⟩ = (⟨(cutF head (0 : Int) least), least, u.2, (movedF rows (-least))⟩ : Sp) from ?_)
    have q : least < sn := of_decide_eq_true c1
    subst h_rows h_least h_u h_head
    rw [nfS]
    exact if_pos q
  ·
    refine js_nil ?_
    refine js_cons (js_ret (JV.to (dSpT (⟨head, sn, u.2, u.1⟩ : Sp)) (jv_tup (av_cons (jv_v 0 ((eQ (eP D.int D.int)) head)) (av_cons (jv_v 1 (D.int sn)) (av_cons (jv_v 2 (D.int u.2)) (av_cons (jv_v 3 ((eQ (eP D.int D.int)) u.1)) av_nil))))) rfl) ?_)
    refine congrArg (fun z => Except.ok (dSpT z)) (show nfS ⟨hd, sn, pd, cy⟩ = (⟨head, sn, u.2, u.1⟩ : Sp) from ?_)
    have q : ¬ least < sn := of_decide_eq_false c1
    subst h_least h_u h_head
    rw [nfS]
    exact if_neg q
theorem fn_normal_form_LL (T : Txt K mg) : Fn P w K mg base 5 "normal_form" (R_normal_form_LL ) := by
  obtain ⟨f, fd, F, gf⟩ := T.normal_form
  exact ⟨f, fd, _, ok_normal_form_LL T F, gf, F.kp, F.binds fun _ _ _ _ _ _ us hl => match us, hl with | [_, _, _, _], _ => rfl⟩
end
abbrev s_check_spans : Stmt := (top 21)
def R_check_spans (mg : Str → Option Value) : Rl := fun ds r => ∃ (ps : List (Int × Int)) (y : Int), ds = [((eQ (eP D.int D.int)) ps), (D.int y)] ∧ r = exM (fun (_ : Unit) => D.non) (raiseIf mg "InvalidSpans" (okSp ps y))
theorem r_check_spans {mg : Str → Option Value} {ps : List (Int × Int)} {y : Int} : R_check_spans mg [((eQ (eP D.int D.int)) ps), (D.int y)] (exM (fun (_ : Unit) => D.non) (raiseIf mg "InvalidSpans" (okSp ps y))) := ⟨ps, y, rfl, rfl⟩
theorem sc_check_spans : FnScope ["spans", "stop", "low", "high"] ["spans", "stop"] (defScope s_check_spans) := ⟨rfl, rfl, rfl, by decide +kernel, rfl, by decide +kernel, by decide +kernel⟩
section
variable {P : Program} {w : World} {K : PySem.W.Frag} {mg : Str → Option Value} {base : Heap}
theorem ok_check_spans (T : Txt K mg) {f : Addr} {fd : FuncData} (F : Fun K "check_spans" "check_spans" s_check_spans f fd) : FnOk P w K mg base (L2.CX P w) 1 f fd ["spans", "stop"] (spR K (R_check_spans mg )) := by
  refine fnok_of F sc_check_spans (fun ds r h => ?_) (fun cdv A outer s H E B ds r hr h => ?_)
  · obtain ⟨_, _, rfl, _⟩ := h
    rfl
  obtain ⟨ps, y, rfl, rfl⟩ := h
  refine js_cons (js_overT (is := [2, 3]) ps (eP D.int D.int) (fun (a : Int × Int) Δ => ((Δ.set 2 (.val (D.int a.1))).set 3 (.val (D.int a.2)))) (fun (pre0 : List (Int × Int)) (_ : Unit) => [.val ((eQ (eP D.int D.int)) ps), .val (D.int y), .un, .un]) (fun (pre0 : List (Int × Int)) (_ : Unit) => ∀ r ∈ pre0, 0 ≤ r.1 ∧ r.1 < r.2 ∧ r.2 ≤ y) () (jv_v 0 ((eQ (eP D.int D.int)) ps)) ?tgt0 ?h00 ⟨.inr rfl, .inr rfl, .inl rfl, .inl rfl, trivial⟩ ?turn0 ?done0 (passes_of rfl) rfl)
  case tgt0 => exact tg2 2 3 sc_check_spans.nd rfl
  case h00 =>
    try dsimp only
    simp
  case turn0 =>
    rintro B pre0 av post0 _ e0 iv0
    try dsimp only at iv0
    have hm : av ∈ ps := by rw [e0]; simp
    refine js_cons (js_if (tv_not (tv_ch3 ci_le ci_lt ci_le jv_int (jv_v 2 (D.int av.1)) (jv_v 3 (D.int av.2)) (jv_v 1 (D.int y)))) (fun c1 => ?_) (fun c1 => ?_))
    ·
      refine js_cons (js_raise T.x_InvalidSpans ?_ rfl)
      show exM (fun (_ : Unit) => D.non) (raiseIf mg "InvalidSpans" (okSp ps y)) = Except.error (xn (cAd mg "InvalidSpans"))
      refine exM_er ?_
      rw [raiseIf, if_neg]; simp only [okSp, List.all_eq_true, decide_eq_true_eq]; intro h; have := h _ hm; simp at c1; omega
    ·
      refine js_nil ?_
      refine js_nil ⟨(), ?_, ⟨.inr rfl, .inr rfl, .inl rfl, .inl rfl, trivial⟩⟩
      try dsimp only
      intro r hr; rcases List.mem_append.mp hr with h | h; exact iv0 r h; rw [List.mem_singleton.mp h]; simpa using c1
  case done0 =>
    rintro _ iv0
    try dsimp only at iv0
    refine js_nil ?_
    show exM (fun (_ : Unit) => D.non) (raiseIf mg "InvalidSpans" (okSp ps y)) = Except.ok D.non
    refine exM_ok (v := ()) ?_
    show raiseIf mg "InvalidSpans" (okSp ps y) = Except.ok ()
    rw [raiseIf, if_pos]; simp only [okSp, List.all_eq_true, decide_eq_true_eq]; exact iv0
theorem fn_check_spans (T : Txt K mg) : Fn P w K mg base 1 "check_spans" (R_check_spans mg ) := by
  obtain ⟨f, fd, F, gf⟩ := T.check_spans
  exact ⟨f, fd, _, ok_check_spans T F, gf, F.kp, F.binds fun _ _ _ _ _ _ us hl => match us, hl with | [_, _], _ => rfl⟩
end
abbrev s_check_spans_L : Stmt := (top 21)
def R_check_spans_L (mg : Str → Option Value) : Rl := fun ds r => ∃ (ps : List (Int × Int)) (y : Int), ds = [((eL (eP D.int D.int)) ps), (D.int y)] ∧ r = exM (fun (_ : Unit) => D.non) (raiseIf mg "InvalidSpans" (okSp ps y))
theorem r_check_spans_L {mg : Str → Option Value} {ps : List (Int × Int)} {y : Int} : R_check_spans_L mg [((eL (eP D.int D.int)) ps), (D.int y)] (exM (fun (_ : Unit) => D.non) (raiseIf mg "InvalidSpans" (okSp ps y))) := ⟨ps, y, rfl, rfl⟩
theorem sc_check_spans_L : FnScope ["spans", "stop", "low", "high"] ["spans", "stop"] (defScope s_check_spans_L) := ⟨rfl, rfl, rfl, by decide +kernel, rfl, by decide +kernel, by decide +kernel⟩
section
variable {P : Program} {w : World} {K : PySem.W.Frag} {mg : Str → Option Value} {base : Heap}
theorem ok_check_spans_L (T : Txt K mg) {f : Addr} {fd : FuncData} (F : Fun K "check_spans" "check_spans" s_check_spans_L f fd) : FnOk P w K mg base (L2.CX P w) 1 f fd ["spans", "stop"] (spR K (R_check_spans_L mg )) := by
  refine fnok_of F sc_check_spans_L (fun ds r h => ?_) (fun cdv A outer s H E B ds r hr h => ?_)
  · obtain ⟨_, _, rfl, _⟩ := h
    rfl
  obtain ⟨ps, y, rfl, rfl⟩ := h
  refine js_cons (js_overL (is := [2, 3]) ps (eP D.int D.int) (fun (a : Int × Int) Δ => ((Δ.set 2 (.val (D.int a.1))).set 3 (.val (D.int a.2)))) (fun (pre0 : List (Int × Int)) (_ : Unit) => [.val ((eL (eP D.int D.int)) ps), .val (D.int y), .un, .un]) (fun (pre0 : List (Int × Int)) (_ : Unit) => ∀ r ∈ pre0, 0 ≤ r.1 ∧ r.1 < r.2 ∧ r.2 ≤ y) () (jv_v 0 ((eL (eP D.int D.int)) ps)) ?tgt0 ?h00 ⟨.inr rfl, .inr rfl, .inl rfl, .inl rfl, trivial⟩ ?turn0 ?done0 (passes_of rfl) rfl)
  case tgt0 => exact tg2 2 3 sc_check_spans_L.nd rfl
  case h00 =>
    try dsimp only
    simp
  case turn0 =>
    rintro B pre0 av post0 _ e0 iv0
    try dsimp only at iv0
    have hm : av ∈ ps := by rw [e0]; simp
    refine js_cons (js_if (tv_not (tv_ch3 ci_le ci_lt ci_le jv_int (jv_v 2 (D.int av.1)) (jv_v 3 (D.int av.2)) (jv_v 1 (D.int y)))) (fun c1 => ?_) (fun c1 => ?_))
    ·
      refine js_cons (js_raise T.x_InvalidSpans ?_ rfl)
      show exM (fun (_ : Unit) => D.non) (raiseIf mg "InvalidSpans" (okSp ps y)) = Except.error (xn (cAd mg "InvalidSpans"))
      refine exM_er ?_
      rw [raiseIf, if_neg]; simp only [okSp, List.all_eq_true, decide_eq_true_eq]; intro h; have := h _ hm; simp at c1; omega
    ·
      refine js_nil ?_
      refine js_nil ⟨(), ?_, ⟨.inr rfl, .inr rfl, .inl rfl, .inl rfl, trivial⟩⟩
      try dsimp only
      intro r hr; rcases List.mem_append.mp hr with h | h; exact iv0 r h; rw [List.mem_singleton.mp h]; simpa using c1
  case done0 =>
    rintro _ iv0
    try dsimp only at iv0
    refine js_nil ?_
    show exM (fun (_ : Unit) => D.non) (raiseIf mg "InvalidSpans" (okSp ps y)) = Except.ok D.non
    refine exM_ok (v := ()) ?_
    show raiseIf mg "InvalidSpans" (okSp ps y) = Except.ok ()
    rw [raiseIf, if_pos]; simp only [okSp, List.all_eq_true, decide_eq_true_eq]; exact iv0
theorem fn_check_spans_L (T : Txt K mg) : Fn P w K mg base 1 "check_spans" (R_check_spans_L mg ) := by
  obtain ⟨f, fd, F, gf⟩ := T.check_spans
  exact ⟨f, fd, _, ok_check_spans_L T F, gf, F.kp, F.binds fun _ _ _ _ _ _ us hl => match us, hl with | [_, _], _ => rfl⟩
end
abbrev s_Spans___init : Stmt := (inClass (top 23) 0)
def R_Spans___init (mg : Str → Option Value) : RlI := fun ds r => ∃ (hd : List (Int × Int)) (sn : Int) (pd : Int) (cy : List (Int × Int)), ds = [((eQ (eP D.int D.int)) hd), (D.int sn), (D.int pd), ((eQ (eP D.int D.int)) cy)] ∧ (SR ⟨hd, sn, pd, cy⟩ → SN ⟨hd, sn, pd, cy⟩) ∧ r = iniM nmSp flSp (spMk mg ⟨hd, sn, pd, cy⟩)
theorem r_Spans___init {mg : Str → Option Value} {hd : List (Int × Int)} {sn : Int} {pd : Int} {cy : List (Int × Int)} (hpre : SR ⟨hd, sn, pd, cy⟩ → SN ⟨hd, sn, pd, cy⟩) : R_Spans___init mg [((eQ (eP D.int D.int)) hd), (D.int sn), (D.int pd), ((eQ (eP D.int D.int)) cy)] (iniM nmSp flSp (spMk mg ⟨hd, sn, pd, cy⟩)) := ⟨hd, sn, pd, cy, rfl, hpre, rfl⟩
theorem sc_Spans___init : FnScope ["self", "head", "since", "period", "cycle"] ["self", "head", "since", "period", "cycle"] (defScope s_Spans___init) := ⟨rfl, rfl, rfl, by decide +kernel, rfl, by decide +kernel, by decide +kernel⟩
section
variable {P : Program} {w : World} {K : PySem.W.Frag} {mg : Str → Option Value} {base : Heap}
theorem mi_Spans (T : Txt K mg) : Mi P w K mg base (cAd mg "Spans") 6 "__init__" "Spans.__init__" s_Spans___init (kw_Spans K) ["self", "head", "since", "period", "cycle"] (R_Spans___init mg ) := by
  obtain ⟨f, fd, mk, F⟩ := T.mk_Spans
  refine mi_of mk F sc_Spans___init (fun ds r h => ?_) (fun cdv A outer s H E B x dx ds r hr h => ?_)
  · obtain ⟨_, _, _, _, rfl, _⟩ := h
    rfl
  obtain ⟨hd, sn, pd, cy, rfl, hpre, rfl⟩ := h
  refine js_cons (js_if (tv_w (wv_or (tv_lt (jv_v 2 (D.int sn)) jv_int) (fun q1 => (wv_or1 (tv_lt (jv_v 3 (D.int pd)) jv_int))))) (fun c1 => ?_) (fun c1 => ?_))
  ·
    refine js_cons (js_raise T.x_InvalidSpans ?_ rfl)
    refine ⟨?_, _, _, rfl⟩
    show iniM nmSp flSp (spMk mg ⟨hd, sn, pd, cy⟩) = Except.error (xn (cAd mg "InvalidSpans"))
    refine iniM_er ?_
    rw [spMk, if_neg]; intro z; have z := spnOk_iff.mp z; have z1 : 0 ≤ sn := z.s0; have z2 : 1 ≤ pd := z.p1; simp at c1; omega
  ·
    have h01 : 0 ≤ sn ∧ 1 ≤ pd := by simp at c1; omega
    refine js_nil ?_
    refine js_cons (js_exprX (je_callE (fn_check_spans T) (hr.mono (by decide)) (av_cons (jv_v 1 ((eQ (eP D.int D.int)) hd)) (av_cons (jv_v 2 (D.int sn)) av_nil)) (r_check_spans)) (fun d hd => ?_) (fun x1 hx => ?_))
    case refine_2 =>
      replace hx : (raiseIf mg "InvalidSpans" (okSp hd sn)) = Except.error x1 := hx
      refine ⟨?_, _, _, rfl⟩
      show iniM nmSp flSp (spMk mg ⟨hd, sn, pd, cy⟩) = Except.error x1
      refine iniM_er ?_
      obtain ⟨h1, rfl⟩ := raiseIf_er hx; rw [spMk, if_neg]; intro z; have z := spnOk_iff.mp z; rw [(okSp_iff).mpr z.th] at h1; cases h1
    obtain ⟨_, hv1, rfl⟩ := hd
    replace hv1 : (raiseIf mg "InvalidSpans" (okSp hd sn)) = Except.ok _ := hv1
    refine js_cons (js_exprX (je_callE (fn_check_spans T) (hr.mono (by decide)) (av_cons (jv_v 4 ((eQ (eP D.int D.int)) cy)) (av_cons (jv_v 3 (D.int pd)) av_nil)) (r_check_spans)) (fun d hd => ?_) (fun x1 hx => ?_))
    case refine_2 =>
      replace hx : (raiseIf mg "InvalidSpans" (okSp cy pd)) = Except.error x1 := hx
      refine ⟨?_, _, _, rfl⟩
      show iniM nmSp flSp (spMk mg ⟨hd, sn, pd, cy⟩) = Except.error x1
      refine iniM_er ?_
      obtain ⟨h1, rfl⟩ := raiseIf_er hx; rw [spMk, if_neg]; intro z; have z := spnOk_iff.mp z; rw [(okSp_iff).mpr z.tc] at h1; cases h1
    obtain ⟨_, hv2, rfl⟩ := hd
    replace hv2 : (raiseIf mg "InvalidSpans" (okSp cy pd)) = Except.ok _ := hv2
    refine js_cons (js_unp (is := [1, 2, 3, 4]) (en := dSpT) (nfS ⟨hd, sn, pd, cy⟩) (fun (u : Sp) Δ => ((((Δ.set 1 (.val ((eQ (eP D.int D.int)) u.head))).set 2 (.val (D.int u.since))).set 3 (.val (D.int u.period))).set 4 (.val ((eQ (eP D.int D.int)) u.cycle)))) (jv_call (fn_normal_form T) (hr.mono (by decide)) (av_cons (jv_v 1 ((eQ (eP D.int D.int)) hd)) (av_cons (jv_v 2 (D.int sn)) (av_cons (jv_v 3 (D.int pd)) (av_cons (jv_v 4 ((eQ (eP D.int D.int)) cy)) av_nil)))) (r_normal_form (by first | ((have hR : SR ⟨hd, sn, pd, cy⟩ := ⟨h01.1, h01.2, okSp_iff.mp (raiseIf_ok hv1), okSp_iff.mp (raiseIf_ok hv2)⟩; exact ⟨hR, hpre hR⟩)) | decide | omega | (simp only [Dy.cutD, List.length_append, List.length_map, List.length_cons, List.length_nil, List.length_take, List.length_drop]; omega) | (simp_all; done) | (simp_all; omega)))) ?tgt (fun u h_u => ?_))
    case tgt => exact tg4 1 2 3 4 sc_Spans___init.nd rfl
    have hR : SR ⟨hd, sn, pd, cy⟩ := ⟨h01.1, h01.2, okSp_iff.mp (raiseIf_ok hv1), okSp_iff.mp (raiseIf_ok hv2)⟩
    refine js_cons (js_fldS 0 (jv_v 1 ((eQ (eP D.int D.int)) u.head)) T.cl_Spans T.na_Spans_head (by decide) (by decide) ?_ (ns := []) (xs := []))
    refine js_cons (js_fldS 0 (jv_v 2 (D.int u.since)) T.cl_Spans T.na_Spans_since (by decide) (by decide) ?_ (ns := ["head"]) (xs := [((eQ (eP D.int D.int)) u.head)]))
    refine js_cons (js_fldS 0 (jv_v 3 (D.int u.period)) T.cl_Spans T.na_Spans_period (by decide) (by decide) ?_ (ns := ["head", "since"]) (xs := [((eQ (eP D.int D.int)) u.head), (D.int u.since)]))
    refine js_cons (js_fldS 0 (jv_v 4 ((eQ (eP D.int D.int)) u.cycle)) T.cl_Spans T.na_Spans_cycle (by decide) (by decide) ?_ (ns := ["head", "since", "period"]) (xs := [((eQ (eP D.int D.int)) u.head), (D.int u.since), (D.int u.period)]))
    refine js_nil ?_
    refine ⟨(nmSp, flSp (⟨u.head, u.since, u.period, u.cycle⟩ : Sp)), iniM_ok (v := (⟨u.head, u.since, u.period, u.cycle⟩ : Sp)) ?_, rfl⟩
    show spMk mg ⟨hd, sn, pd, cy⟩ = Except.ok (⟨u.head, u.since, u.period, u.cycle⟩ : Sp)
    rw [spMk_of hR, h_u]
end
abbrev s_Spans___init___LL : Stmt := (inClass (top 23) 0)
def R_Spans___init___LL (mg : Str → Option Value) : RlI := fun ds r => ∃ (hd : List (Int × Int)) (sn : Int) (pd : Int) (cy : List (Int × Int)), ds = [((eL (eP D.int D.int)) hd), (D.int sn), (D.int pd), ((eL (eP D.int D.int)) cy)] ∧ (SR ⟨hd, sn, pd, cy⟩ → SN ⟨hd, sn, pd, cy⟩) ∧ r = iniM nmSp flSp (spMk mg ⟨hd, sn, pd, cy⟩)
theorem r_Spans___init___LL {mg : Str → Option Value} {hd : List (Int × Int)} {sn : Int} {pd : Int} {cy : List (Int × Int)} (hpre : SR ⟨hd, sn, pd, cy⟩ → SN ⟨hd, sn, pd, cy⟩) : R_Spans___init___LL mg [((eL (eP D.int D.int)) hd), (D.int sn), (D.int pd), ((eL (eP D.int D.int)) cy)] (iniM nmSp flSp (spMk mg ⟨hd, sn, pd, cy⟩)) := ⟨hd, sn, pd, cy, rfl, hpre, rfl⟩
theorem sc_Spans___init___LL : FnScope ["self", "head", "since", "period", "cycle"] ["self", "head", "since", "period", "cycle"] (defScope s_Spans___init___LL) := ⟨rfl, rfl, rfl, by decide +kernel, rfl, by decide +kernel, by decide +kernel⟩
section
variable {P : Program} {w : World} {K : PySem.W.Frag} {mg : Str → Option Value} {base : Heap}
theorem mi_Spans_LL (T : Txt K mg) : Mi P w K mg base (cAd mg "Spans") 6 "__init__" "Spans.__init__" s_Spans___init___LL (kw_Spans K) ["self", "head", "since", "period", "cycle"] (R_Spans___init___LL mg ) := by
  obtain ⟨f, fd, mk, F⟩ := T.mk_Spans
  refine mi_of mk F sc_Spans___init___LL (fun ds r h => ?_) (fun cdv A outer s H E B x dx ds r hr h => ?_)
  · obtain ⟨_, _, _, _, rfl, _⟩ := h
    rfl
  obtain ⟨hd, sn, pd, cy, rfl, hpre, rfl⟩ := h
  refine js_cons (js_if (tv_w (wv_or (tv_lt (jv_v 2 (D.int sn)) jv_int) (fun q1 => (wv_or1 (tv_lt (jv_v 3 (D.int pd)) jv_int))))) (fun c1 => ?_) (fun c1 => ?_))
  ·
    refine js_cons (js_raise T.x_InvalidSpans ?_ rfl)
    refine ⟨?_, _, _, rfl⟩
    show iniM nmSp flSp (spMk mg ⟨hd, sn, pd, cy⟩) = Except.error (xn (cAd mg "InvalidSpans"))
    refine iniM_er ?_
    rw [spMk, if_neg]; intro z; have z := spnOk_iff.mp z; have z1 : 0 ≤ sn := z.s0; have z2 : 1 ≤ pd := z.p1; simp at c1; omega
  ·
    have h01 : 0 ≤ sn ∧ 1 ≤ pd := by simp at c1; omega
    refine js_nil ?_
    refine js_cons (js_exprX (je_callE (fn_check_spans_L T) (hr.mono (by decide)) (av_cons (jv_v 1 ((eL (eP D.int D.int)) hd)) (av_cons (jv_v 2 (D.int sn)) av_nil)) (r_check_spans_L)) (fun d hd => ?_) (fun x1 hx => ?_))
    case refine_2 =>
      replace hx : (raiseIf mg "InvalidSpans" (okSp hd sn)) = Except.error x1 := hx
      refine ⟨?_, _, _, rfl⟩
      show iniM nmSp flSp (spMk mg ⟨hd, sn, pd, cy⟩) = Except.error x1
      refine iniM_er ?_
      obtain ⟨h1, rfl⟩ := raiseIf_er hx; rw [spMk, if_neg]; intro z; have z := spnOk_iff.mp z; rw [(okSp_iff).mpr z.th] at h1; cases h1
    obtain ⟨_, hv1, rfl⟩ := hd
    replace hv1 : (raiseIf mg "InvalidSpans" (okSp hd sn)) = Except.ok _ := hv1
    refine js_cons (js_exprX (je_callE (fn_check_spans_L T) (hr.mono (by decide)) (av_cons (jv_v 4 ((eL (eP D.int D.int)) cy)) (av_cons (jv_v 3 (D.int pd)) av_nil)) (r_check_spans_L)) (fun d hd => ?_) (fun x1 hx => ?_))
    case refine_2 =>
      replace hx : (raiseIf mg "InvalidSpans" (okSp cy pd)) = Except.error x1 := hx
      refine ⟨?_, _, _, rfl⟩
      show iniM nmSp flSp (spMk mg ⟨hd, sn, pd, cy⟩) = Except.error x1
      refine iniM_er ?_
      obtain ⟨h1, rfl⟩ := raiseIf_er hx; rw [spMk, if_neg]; intro z; have z := spnOk_iff.mp z; rw [(okSp_iff).mpr z.tc] at h1; cases h1
    obtain ⟨_, hv2, rfl⟩ := hd
    replace hv2 : (raiseIf mg "InvalidSpans" (okSp cy pd)) = Except.ok _ := hv2
    refine js_cons (js_unp (is := [1, 2, 3, 4]) (en := dSpT) (nfS ⟨hd, sn, pd, cy⟩) (fun (u : Sp) Δ => ((((Δ.set 1 (.val ((eQ (eP D.int D.int)) u.head))).set 2 (.val (D.int u.since))).set 3 (.val (D.int u.period))).set 4 (.val ((eQ (eP D.int D.int)) u.cycle)))) (jv_call (fn_normal_form_LL T) (hr.mono (by decide)) (av_cons (jv_v 1 ((eL (eP D.int D.int)) hd)) (av_cons (jv_v 2 (D.int sn)) (av_cons (jv_v 3 (D.int pd)) (av_cons (jv_v 4 ((eL (eP D.int D.int)) cy)) av_nil)))) (r_normal_form_LL (by first | ((have hR : SR ⟨hd, sn, pd, cy⟩ := ⟨h01.1, h01.2, okSp_iff.mp (raiseIf_ok hv1), okSp_iff.mp (raiseIf_ok hv2)⟩; exact ⟨hR, hpre hR⟩)) | decide | omega | (simp only [Dy.cutD, List.length_append, List.length_map, List.length_cons, List.length_nil, List.length_take, List.length_drop]; omega) | (simp_all; done) | (simp_all; omega)))) ?tgt (fun u h_u => ?_))
    case tgt => exact tg4 1 2 3 4 sc_Spans___init___LL.nd rfl
    have hR : SR ⟨hd, sn, pd, cy⟩ := ⟨h01.1, h01.2, okSp_iff.mp (raiseIf_ok hv1), okSp_iff.mp (raiseIf_ok hv2)⟩
    refine js_cons (js_fldS 0 (jv_v 1 ((eQ (eP D.int D.int)) u.head)) T.cl_Spans T.na_Spans_head (by decide) (by decide) ?_ (ns := []) (xs := []))
    refine js_cons (js_fldS 0 (jv_v 2 (D.int u.since)) T.cl_Spans T.na_Spans_since (by decide) (by decide) ?_ (ns := ["head"]) (xs := [((eQ (eP D.int D.int)) u.head)]))
    refine js_cons (js_fldS 0 (jv_v 3 (D.int u.period)) T.cl_Spans T.na_Spans_period (by decide) (by decide) ?_ (ns := ["head", "since"]) (xs := [((eQ (eP D.int D.int)) u.head), (D.int u.since)]))
    refine js_cons (js_fldS 0 (jv_v 4 ((eQ (eP D.int D.int)) u.cycle)) T.cl_Spans T.na_Spans_cycle (by decide) (by decide) ?_ (ns := ["head", "since", "period"]) (xs := [((eQ (eP D.int D.int)) u.head), (D.int u.since), (D.int u.period)]))
    refine js_nil ?_
    refine ⟨(nmSp, flSp (⟨u.head, u.since, u.period, u.cycle⟩ : Sp)), iniM_ok (v := (⟨u.head, u.since, u.period, u.cycle⟩ : Sp)) ?_, rfl⟩
    show spMk mg ⟨hd, sn, pd, cy⟩ = Except.ok (⟨u.head, u.since, u.period, u.cycle⟩ : Sp)
    rw [spMk_of hR, h_u]
end
abbrev s_built : Stmt := (top 22)
abbrev s_Spans_parts : Stmt := (inClass (top 23) 7)
abbrev s_Spans___and : Stmt := (inClass (top 23) 4)
abbrev s_Spans___invert : Stmt := (inClass (top 23) 6)
abbrev s_Spans___sub : Stmt := (inClass (top 23) 5)
abbrev s_Spans___contains : Stmt := (inClass (top 23) 1)
def R_Spans___contains (mg : Str → Option Value) : Rl := fun ds r => ∃ (S : Sp) (t : Int), ds = [((dSp mg) S), (D.int t)] ∧ (1 ≤ S.period ∧ S.period < 1073741824) ∧ r = .ok (D.bl (inF S t))
theorem r_Spans___contains {mg : Str → Option Value} {S : Sp} {t : Int} (hpre : 1 ≤ S.period ∧ S.period < 1073741824) : R_Spans___contains mg [((dSp mg) S), (D.int t)] (.ok (D.bl (inF S t))) := ⟨S, t, rfl, hpre, rfl⟩
theorem sc_Spans___contains : FnScope ["self", "instant", "place", "rows", "low", "high"] ["self", "instant"] (defScope s_Spans___contains) := ⟨rfl, rfl, rfl, by decide +kernel, rfl, by decide +kernel, by decide +kernel⟩
section
variable {P : Program} {w : World} {K : PySem.W.Frag} {mg : Str → Option Value} {base : Heap}
theorem ok_Spans___contains (T : Txt K mg) {f : Addr} {fd : FuncData} (F : Fun K "__contains__" "Spans.__contains__" s_Spans___contains f fd) : FnOk P w K mg base (L2.CX P w) 1 f fd ["self", "instant"] (spR K (R_Spans___contains mg )) := by
  refine fnok_of F sc_Spans___contains (fun ds r h => ?_) (fun cdv A outer s H E B ds r hr h => ?_)
  · obtain ⟨_, _, rfl, _⟩ := h
    rfl
  obtain ⟨S, t, rfl, hpre, rfl⟩ := h
  refine js_cons (js_if (tv_lt (jv_v 1 (D.int t)) jv_int) (fun c1 => ?_) (fun c1 => ?_))
  ·
    refine js_cons (js_ret jv_bl ?_)
    refine congrArg (fun z => Except.ok (D.bl z)) (show inF S t = false from ?_)
    rw [inF, decide_eq_false (by simp at c1; omega)]; rfl
  ·
    refine js_nil ?_
    refine js_cons (js_set 2 (jv_v 1 (D.int t)) ?_ sc_Spans___contains.nd)
    refine js_cons (js_set 3 (jv_fld (d := ((eQ (eP D.int D.int)) S.head)) 0 (jv_v 0 ((dSp mg) S)) T.cl_Spans T.na_Spans_head nd_Spans) ?_ sc_Spans___contains.nd)
    refine js_mid (fun (z : (Int) × (List (Int × Int))) => [.val ((dSp mg) S), .val (D.int t), .val (D.int z.1), .val ((eQ (eP D.int D.int)) z.2), .un, .un]) (fun (z : (Int) × (List (Int × Int))) => hitF z.2 z.1 = genF S t) (js_if (tv_ge (jv_v 1 (D.int t)) (jv_fld (d := (D.int S.since)) 1 (jv_v 0 ((dSp mg) S)) T.cl_Spans T.na_Spans_since nd_Spans)) (fun c2 => ?_) (fun c2 => ?_)) ?_
    ·
      have hs : ¬ t < S.since := by simp at c2; omega
      refine js_cons (js_setE 2 D.int ((t - S.since) % S.period) (jv_mod (jv_sub (jv_v 1 (D.int t)) (jv_fld (d := (D.int S.since)) 1 (jv_v 0 ((dSp mg) S)) T.cl_Spans T.na_Spans_since nd_Spans)) (jv_fld (d := (D.int S.period)) 2 (jv_v 0 ((dSp mg) S)) T.cl_Spans T.na_Spans_period nd_Spans) (by first | decide | omega | (simp only [Dy.cutD, List.length_append, List.length_map, List.length_cons, List.length_nil, List.length_take, List.length_drop]; omega) | (simp_all; done) | (simp_all; omega))) (fun place1 h_place1 => ?_) sc_Spans___contains.nd)
      refine js_cons (js_set 3 (jv_fld (d := ((eQ (eP D.int D.int)) S.cycle)) 3 (jv_v 0 ((dSp mg) S)) T.cl_Spans T.na_Spans_cycle nd_Spans) ?_ sc_Spans___contains.nd)
      refine js_nil ⟨(place1, S.cycle), ?_, ⟨.inr rfl, .inr rfl, .inr rfl, .inr rfl, .inl rfl, .inl rfl, trivial⟩⟩
      first | (show hitF S.cycle place1 = genF S t; rw [genF, if_neg hs, h_place1]; done) | (show hitF S.cycle place1 = genF S t; rw [genF, if_neg hs, h_place1]; rfl) | (show hitF S.head t = genF S t; rw [genF, if_pos hs])
    ·
      have hs : t < S.since := by simp at c2; omega
      refine js_nil ⟨(t, S.head), ?_, ⟨.inr rfl, .inr rfl, .inr rfl, .inr rfl, .inl rfl, .inl rfl, trivial⟩⟩
      first | (show hitF S.cycle place1 = genF S t; rw [genF, if_neg hs, h_place1]; done) | (show hitF S.cycle place1 = genF S t; rw [genF, if_neg hs, h_place1]; rfl) | (show hitF S.head t = genF S t; rw [genF, if_pos hs])
    ·
      rintro ⟨place, rows⟩ j_place
      try dsimp only at j_place
      refine js_cons (js_overT (is := [4, 5]) rows (eP D.int D.int) (fun (a : Int × Int) Δ => ((Δ.set 4 (.val (D.int a.1))).set 5 (.val (D.int a.2)))) (fun (pre0 : List (Int × Int)) (_ : Unit) => [.val ((dSp mg) S), .val (D.int t), .val (D.int place), .val ((eQ (eP D.int D.int)) rows), .un, .un]) (fun (pre0 : List (Int × Int)) (_ : Unit) => ∀ post, rows = pre0 ++ post → genF S t = hitF post place) () (jv_v 3 ((eQ (eP D.int D.int)) rows)) ?tgt0 ?h00 ⟨.inr rfl, .inr rfl, .inr rfl, .inr rfl, .inl rfl, .inl rfl, trivial⟩ ?turn0 ?done0 (passes_of rfl) rfl)
      case tgt0 => exact tg2 4 5 sc_Spans___contains.nd rfl
      case h00 =>
        try dsimp only
        intro post e; rw [List.nil_append] at e; rw [← e]; exact j_place.symm
      case turn0 =>
        rintro B pre0 av post0 _ e0 iv0
        try dsimp only at iv0
        have hp := iv0 _ e0
        refine js_cons (js_if (tv_ch2 ci_le ci_lt (jv_v 4 (D.int av.1)) (jv_v 2 (D.int place)) (jv_v 5 (D.int av.2))) (fun c3 => ?_) (fun c3 => ?_))
        ·
          refine js_cons (js_ret jv_bl ?_)
          refine congrArg (fun z => Except.ok (D.bl z)) (show inF S t = true from ?_)
          rw [inF, decide_eq_true (by simp at c1; omega), hp, hit_cons, c3]; rfl
        ·
          refine js_nil ?_
          refine js_nil ⟨(), ?_, ⟨.inr rfl, .inr rfl, .inr rfl, .inr rfl, .inl rfl, .inl rfl, trivial⟩⟩
          try dsimp only
          intro post1 e1; rw [e0, List.append_assoc] at e1; have := List.append_cancel_left e1; simp at this; subst this; rw [hp, hit_cons, c3, Bool.false_or]
      case done0 =>
        rintro _ iv0
        try dsimp only at iv0
        refine js_cons (js_ret jv_bl ?_)
        refine congrArg (fun z => Except.ok (D.bl z)) (show inF S t = false from ?_)
        rw [inF, decide_eq_true (by simp at c1; omega), iv0 [] (by simp)]; rfl
theorem mt_Spans___contains (T : Txt K mg) : Mt P w K mg base (cAd mg "Spans") 1 "__contains__" (R_Spans___contains mg ) := by
  obtain ⟨f, fd, F, hm⟩ := T.Spans___contains
  exact mt_of (ok_Spans___contains T F) F hm fun _ _ _ _ _ _ us hl => match us, hl with | [_, _], _ => rfl
end
abbrev s_Spans___eq : Stmt := (inClass (top 23) 2)
abbrev s_Spans___or : Stmt := (inClass (top 23) 3)
abbrev s_Spans_next_from : Stmt := (inClass (top 23) 11)
abbrev s_Spans_first : Stmt := (inClass (top 23) 10)
abbrev s_Spans_shifted : Stmt := (inClass (top 23) 14)
abbrev s_law_cell : Stmt := (top 25)
def R_law_cell : Rl := fun ds r => ∃ (ns : List Int) (k : Int), ds = [(D.scr ns), (D.int k)] ∧ (0 ≤ k) ∧ r = .ok (D.int (cell ns k))
theorem r_law_cell {ns : List Int} {k : Int} (hpre : 0 ≤ k) : R_law_cell [(D.scr ns), (D.int k)] (.ok (D.int (cell ns k))) := ⟨ns, k, rfl, hpre, rfl⟩
theorem sc_law_cell : FnScope ["_law_script", "_law_k"] ["_law_script", "_law_k"] (defScope s_law_cell) := ⟨rfl, rfl, rfl, by decide +kernel, rfl, by decide +kernel, by decide +kernel⟩
section
variable {P : Program} {w : World} {K : PySem.W.Frag} {mg : Str → Option Value} {base : Heap}
theorem ok_law_cell (T : Txt K mg) {f : Addr} {fd : FuncData} (F : Fun K "_law_cell" "_law_cell" s_law_cell f fd) : FnOk P w K mg base (L2.CX P w) 1 f fd ["_law_script", "_law_k"] (spR K (R_law_cell )) := by
  refine fnok_of F sc_law_cell (fun ds r h => ?_) (fun cdv A outer s H E B ds r hr h => ?_)
  · obtain ⟨_, _, rfl, _⟩ := h
    rfl
  obtain ⟨ns, k, rfl, hpre, rfl⟩ := h
  refine js_cons (js_if (tv_lt (jv_v 1 (D.int k)) (JV.to (.int (ns.length : Int)) (jv_len (RV.qv (JV.sv (jv_v 0 (D.scr ns)))) T.b_len) (by rw [List.length_map]))) (fun c1 => ?_) (fun c1 => ?_))
  ·
    refine js_cons (js_ret (jv_ixS (jv_v 0 (D.scr ns)) (jv_v 1 (D.int k)) (by first | decide | omega | (simp only [Dy.cutD, List.length_append, List.length_map, List.length_cons, List.length_nil, List.length_take, List.length_drop]; omega) | (simp_all; done) | (simp_all; omega)) (by first | decide | omega | (simp only [Dy.cutD, List.length_append, List.length_map, List.length_cons, List.length_nil, List.length_take, List.length_drop]; omega) | (simp_all; done) | (simp_all; omega))) ?_)
    refine congrArg (fun z => Except.ok (D.int z)) (show cell ns k = (nth ns k) from ?_)
    rw [cell, if_pos]; simpa using c1
  ·
    refine js_nil ?_
    refine js_cons (js_ret jv_int ?_)
    refine congrArg (fun z => Except.ok (D.int z)) (show cell ns k = (0 : Int) from ?_)
    rw [cell, if_neg]; simpa using c1
theorem fn_law_cell (T : Txt K mg) : Fn P w K mg base 1 "_law_cell" (R_law_cell ) := by
  obtain ⟨f, fd, F, gf⟩ := T.law_cell
  exact ⟨f, fd, _, ok_law_cell T F, gf, F.kp, F.binds fun _ _ _ _ _ _ us hl => match us, hl with | [_, _], _ => rfl⟩
end
abbrev s_law_digits : Stmt := (top 26)
def R_law_digits : Rl := fun ds r => ∃ (c : Int) (szs : List (Int)), ds = [(D.int c), ((eL D.int) szs)] ∧ ((∀ s ∈ szs, 0 < s ∧ s < 1073741824) ∧ szs.length ≤ 1000) ∧ r = .ok ((eL D.int) (digits c szs))
theorem r_law_digits {c : Int} {szs : List (Int)} (hpre : (∀ s ∈ szs, 0 < s ∧ s < 1073741824) ∧ szs.length ≤ 1000) : R_law_digits [(D.int c), ((eL D.int) szs)] (.ok ((eL D.int) (digits c szs))) := ⟨c, szs, rfl, hpre, rfl⟩
theorem sc_law_digits : FnScope ["_law_cell_here", "_law_sizes", "_law_row_here", "_law_size"] ["_law_cell_here", "_law_sizes"] (defScope s_law_digits) := ⟨rfl, rfl, rfl, by decide +kernel, rfl, by decide +kernel, by decide +kernel⟩
section
variable {P : Program} {w : World} {K : PySem.W.Frag} {mg : Str → Option Value} {base : Heap}
theorem ok_law_digits (T : Txt K mg) {f : Addr} {fd : FuncData} (F : Fun K "_law_digits" "_law_digits" s_law_digits f fd) : FnOk P w K mg base (L2.CX P w) 1 f fd ["_law_cell_here", "_law_sizes"] (spR K (R_law_digits )) := by
  refine fnok_of F sc_law_digits (fun ds r h => ?_) (fun cdv A outer s H E B ds r hr h => ?_)
  · obtain ⟨_, _, rfl, _⟩ := h
    rfl
  obtain ⟨c, szs, rfl, hpre, rfl⟩ := h
  refine js_cons (js_setLE 2 D.int ([] : List (Int)) (FL.to D.int ([] : List (Int)) (fl_lst av_nil) rfl) (fun rowhere h_rowhere => ?_) sc_law_digits.nd)
  refine js_cons (js_overL (is := [3]) szs D.int (fun (a : Int) Δ => Δ.set 3 (.val (D.int a))) (fun (pre0 : List (Int)) (z : (List (Int)) × (Int)) => [.val (D.int z.2), .val ((eL D.int) szs), .own (z.1.map D.int), .un]) (fun (pre0 : List (Int)) (z : (List (Int)) × (Int)) => z.1.length = pre0.length ∧ ∀ post, szs = pre0 ++ post → digits c szs = z.1 ++ digits z.2 post) (rowhere, c) (jv_v 1 ((eL D.int) szs)) ?tgt0 ?h00 ⟨.inr rfl, .inr rfl, .inr rfl, .inl rfl, trivial⟩ ?turn0 ?done0 (passes_of rfl) rfl)
  case tgt0 => exact tg_name 3 sc_law_digits.nd
  case h00 =>
    try dsimp only
    simp [h_rowhere]
  case turn0 =>
    rintro B pre0 av post0 ⟨rowhere1, cellhere⟩ e0 iv0
    try dsimp only at iv0
    have hp := iv0.2 _ e0; have hz := hpre.1 av (by rw [e0]; simp); have hl : pre0.length < 1000 := by have := hpre.2; rw [e0] at this; simp at this; omega
    refine js_cons (js_appE 2 D.int rowhere1 (cellhere % av) (jv_mod (jv_callInt (jv_v 0 (D.int cellhere)) T.b_int) (jv_v 3 (D.int av)) (by exact hz.1)) (by rw [iv0.1]; omega) (fun rowhere2 h_rowhere2 => ?_))
    refine js_cons (js_setE 0 D.int (cellhere / av) (jv_div (jv_v 0 (D.int cellhere)) (jv_v 3 (D.int av)) (by exact hz)) (fun cellhere1 h_cellhere1 => ?_) sc_law_digits.nd)
    refine js_nil ⟨(rowhere2, cellhere1), ?_, ⟨.inr rfl, .inr rfl, .inr rfl, .inl rfl, trivial⟩⟩
    try dsimp only
    refine ⟨by rw [h_rowhere2]; simp [iv0.1], ?_⟩; intro post1 e1; rw [e0, List.append_assoc] at e1; have := List.append_cancel_left e1; simp at this; subst this; rw [hp, digits, h_rowhere2, h_cellhere1]; simp
  case done0 =>
    rintro ⟨rowhere1, cellhere⟩ iv0
    try dsimp only at iv0
    refine Js.freeze 2 (ds := rowhere1.map D.int) rfl ?_
    refine js_cons (js_ret (jv_v 2 ((eL D.int) rowhere1)) ?_)
    refine congrArg (fun z => Except.ok ((eL D.int) z)) (show digits c szs = rowhere1 from ?_)
    rw [iv0.2 [] (by simp)]; simp [digits]
theorem fn_law_digits (T : Txt K mg) : Fn P w K mg base 1 "_law_digits" (R_law_digits ) := by
  obtain ⟨f, fd, F, gf⟩ := T.law_digits
  exact ⟨f, fd, _, ok_law_digits T F, gf, F.kp, F.binds fun _ _ _ _ _ _ us hl => match us, hl with | [_, _], _ => rfl⟩
end
abbrev s_law_rich : Stmt := (top 27)
def R_law_rich : Rl := fun ds r => ∃ (c : Int), ds = [(D.int c)] ∧ r = .ok (D.int (rich c))
theorem r_law_rich {c : Int} : R_law_rich [(D.int c)] (.ok (D.int (rich c))) := ⟨c, rfl, rfl⟩
theorem sc_law_rich : FnScope ["_law_cell_here", "_law_low", "_law_high"] ["_law_cell_here"] (defScope s_law_rich) := ⟨rfl, rfl, rfl, by decide +kernel, rfl, by decide +kernel, by decide +kernel⟩
section
variable {P : Program} {w : World} {K : PySem.W.Frag} {mg : Str → Option Value} {base : Heap}
theorem ok_law_rich (T : Txt K mg) {f : Addr} {fd : FuncData} (F : Fun K "_law_rich" "_law_rich" s_law_rich f fd) : FnOk P w K mg base (L2.CX P w) 1 f fd ["_law_cell_here"] (spR K (R_law_rich )) := by
  refine fnok_of F sc_law_rich (fun ds r h => ?_) (fun cdv A outer s H E B ds r hr h => ?_)
  · obtain ⟨_, rfl, _⟩ := h
    rfl
  obtain ⟨c, rfl, rfl⟩ := h
  refine js_cons (js_if (tv_ge (jv_v 0 (D.int c)) (jv_pow jv_int jv_int (by unfold CPow; decide))) (fun c1 => ?_) (fun c1 => ?_))
  ·
    refine js_cons (js_ret (jv_v 0 (D.int c)) ?_)
    refine congrArg (fun z => Except.ok (D.int z)) (show rich c = c from ?_)
    rw [rich, if_pos]; simpa using c1
  ·
    refine js_nil ?_
    refine js_cons (js_setE 1 D.int (((c * (48271 : Int)) + (11 : Int)) % (2147483647 : Int)) (jv_mod (jv_callInt (jv_add (jv_mul (jv_v 0 (D.int c)) jv_int (.inr ⟨by decide, by decide⟩)) jv_int) T.b_int) jv_int (by decide)) (fun low h_low => ?_) sc_law_rich.nd)
    refine js_cons (js_setE 2 D.int ((((low * (69621 : Int)) + (c / (7 : Int))) + (5 : Int)) % (2147483629 : Int)) (jv_mod (jv_callInt (jv_add (jv_add (jv_mul (jv_v 1 (D.int low)) jv_int (.inr ⟨by decide, by decide⟩)) (jv_div (jv_v 0 (D.int c)) jv_int ⟨by decide, by decide⟩)) jv_int) T.b_int) jv_int (by decide)) (fun high h_high => ?_) sc_law_rich.nd)
    refine js_cons (js_ret (jv_add (jv_mul (jv_v 1 (D.int low)) jv_int (.inr ⟨by decide, by decide⟩)) (jv_v 2 (D.int high))) ?_)
    refine congrArg (fun z => Except.ok (D.int z)) (show rich c = ((low * (2147483629 : Int)) + high) from ?_)
    rw [rich, if_neg (by simpa using c1), h_low, h_high, h_low]
theorem fn_law_rich (T : Txt K mg) : Fn P w K mg base 1 "_law_rich" (R_law_rich ) := by
  obtain ⟨f, fd, F, gf⟩ := T.law_rich
  exact ⟨f, fd, _, ok_law_rich T F, gf, F.kp, F.binds fun _ _ _ _ _ _ us hl => match us, hl with | [_], _ => rfl⟩
end
abbrev s_law_row : Stmt := (top 28)
def R_law_row : Rl := fun ds r => ∃ (c : Int) (bound : Int), ds = [(D.int c), (D.int bound)] ∧ r = .ok ((eL (eP D.int D.int)) (rowF c bound))
theorem r_law_row {c : Int} {bound : Int} : R_law_row [(D.int c), (D.int bound)] (.ok ((eL (eP D.int D.int)) (rowF c bound))) := ⟨c, bound, rfl, rfl⟩
theorem sc_law_row : FnScope ["_law_cell_here", "_law_bound", "_law_d", "_law_rows", "_law_place", "_law_k", "_law_begin", "_law_row_here"] ["_law_cell_here", "_law_bound"] (defScope s_law_row) := ⟨rfl, rfl, rfl, by decide +kernel, rfl, by decide +kernel, by decide +kernel⟩
section
variable {P : Program} {w : World} {K : PySem.W.Frag} {mg : Str → Option Value} {base : Heap}
theorem ok_law_row (T : Txt K mg) {f : Addr} {fd : FuncData} (F : Fun K "_law_row" "_law_row" s_law_row f fd) : FnOk P w K mg base (L2.CX P w) 2 f fd ["_law_cell_here", "_law_bound"] (spR K (R_law_row )) := by
  refine fnok_of F sc_law_row (fun ds r h => ?_) (fun cdv A outer s H E B ds r hr h => ?_)
  · obtain ⟨_, _, rfl, _⟩ := h
    rfl
  obtain ⟨c, bound, rfl, rfl⟩ := h
  refine js_cons (js_setE 2 (eL D.int) (digits (rich c) ([(5 : Int), (12 : Int), (7 : Int), (12 : Int), (7 : Int), (12 : Int), (7 : Int), (12 : Int), (7 : Int), (4 : Int)] : List (Int))) (jv_call (fn_law_digits T) (hr.mono (by decide)) (av_cons (jv_call (fn_law_rich T) (hr.mono (by decide)) (av_cons (jv_v 0 (D.int c)) av_nil) (r_law_rich)) (av_cons (FL.jv (FL.to D.int ([(5 : Int), (12 : Int), (7 : Int), (12 : Int), (7 : Int), (12 : Int), (7 : Int), (12 : Int), (7 : Int), (4 : Int)] : List (Int)) (fl_lst (av_cons jv_int (av_cons jv_int (av_cons jv_int (av_cons jv_int (av_cons jv_int (av_cons jv_int (av_cons jv_int (av_cons jv_int (av_cons jv_int (av_cons jv_int av_nil))))))))))) rfl)) av_nil)) (r_law_digits (by first | decide | omega | (simp only [Dy.cutD, List.length_append, List.length_map, List.length_cons, List.length_nil, List.length_take, List.length_drop]; omega) | (simp_all; done) | (simp_all; omega)))) (fun dv h_dv => ?_) sc_law_row.nd)
  have hdl : dv.length = 10 := by rw [h_dv, digits_len]; rfl
  have hdr := row_dig c
  rw [← h_dv] at hdr
  obtain ⟨hd1, hd2, hd3⟩ := hdr
  refine js_cons (js_setLE 3 (eP D.int D.int) ([] : List (Int × Int)) (FL.to (eP D.int D.int) ([] : List (Int × Int)) (fl_lst av_nil) rfl) (fun rows h_rows => ?_) sc_law_row.nd)
  refine js_cons (js_setE 4 D.int (((nth dv (9 : Int)) % (3 : Int)) - (1 : Int)) (jv_sub (jv_mod (jv_callInt (jv_ixL (d := (D.int (nth dv (9 : Int)))) (LV.rv (JV.lv (jv_v 2 ((eL D.int) dv)))) jv_int (atI_nth (by first | decide | omega | (simp only [Dy.cutD, List.length_append, List.length_map, List.length_cons, List.length_nil, List.length_take, List.length_drop]; omega) | (simp_all; done) | (simp_all; omega)) (by first | decide | omega | (simp only [Dy.cutD, List.length_append, List.length_map, List.length_cons, List.length_nil, List.length_take, List.length_drop]; omega) | (simp_all; done) | (simp_all; omega)))) T.b_int) jv_int (by decide)) jv_int) (fun place h_place => ?_) sc_law_row.nd)
  refine js_cons (js_overR1 (is := [5]) (n := (nth dv (0 : Int))) (fun (a : Int) Δ => Δ.set 5 (.val (D.int a))) (fun (i0 : Nat) (z : (List (Int × Int)) × (Int)) => [.val (D.int c), .val (D.int bound), .val ((eL D.int) dv), .own (z.1.map (eP D.int D.int)), .val (D.int z.2), .un, .un, .un]) (fun (i0 : Nat) (z : (List (Int × Int)) × (Int)) => (z.1, z.2) = rowSt dv i0 ∧ z.1.length = i0) (rows, place) (jv_ixL (d := (D.int (nth dv (0 : Int)))) (LV.rv (JV.lv (jv_v 2 ((eL D.int) dv)))) jv_int (atI_nth (by first | decide | omega | (simp only [Dy.cutD, List.length_append, List.length_map, List.length_cons, List.length_nil, List.length_take, List.length_drop]; omega) | (simp_all; done) | (simp_all; omega)) (by first | decide | omega | (simp only [Dy.cutD, List.length_append, List.length_map, List.length_cons, List.length_nil, List.length_take, List.length_drop]; omega) | (simp_all; done) | (simp_all; omega)))) ?tgt0 ?h00 ⟨.inr rfl, .inr rfl, .inr rfl, .inr rfl, .inr rfl, .inl rfl, .inl rfl, .inl rfl, trivial⟩ ?turn0 ?done0 (passes_of rfl) rfl T.b_range)
  case tgt0 => exact tg_name 5 sc_law_row.nd
  case h00 =>
    try dsimp only
    exact ⟨by rw [h_rows, h_place, rowSt], by rw [h_rows]; rfl⟩
  case turn0 =>
    rintro B i0 ⟨rows1, place1⟩ hi0 iv0
    try dsimp only at iv0
    have hx := hd3 i0 (by omega)
    refine js_cons (js_setE 6 D.int (place1 + ((nth dv ((1 : Int) + ((2 : Int) * (i0 : Int)))) * ((1 : Int) + ((nth dv ((2 : Int) + ((2 : Int) * (i0 : Int)))) / (3 : Int))))) (jv_add (jv_v 4 (D.int place1)) (jv_mul (jv_ixL (d := (D.int (nth dv ((1 : Int) + ((2 : Int) * (i0 : Int)))))) (LV.rv (JV.lv (jv_v 2 ((eL D.int) dv)))) (jv_add jv_int (jv_mul jv_int (jv_v 5 (D.int (i0 : Int))) (.inl ⟨by decide, by decide⟩))) (atI_nth (by first | decide | omega | (simp only [Dy.cutD, List.length_append, List.length_map, List.length_cons, List.length_nil, List.length_take, List.length_drop]; omega) | (simp_all; done) | (simp_all; omega)) (by first | decide | omega | (simp only [Dy.cutD, List.length_append, List.length_map, List.length_cons, List.length_nil, List.length_take, List.length_drop]; omega) | (simp_all; done) | (simp_all; omega)))) (jv_callInt (jv_add jv_int (jv_div (jv_ixL (d := (D.int (nth dv ((2 : Int) + ((2 : Int) * (i0 : Int)))))) (LV.rv (JV.lv (jv_v 2 ((eL D.int) dv)))) (jv_add jv_int (jv_mul jv_int (jv_v 5 (D.int (i0 : Int))) (.inl ⟨by decide, by decide⟩))) (atI_nth (by first | decide | omega | (simp only [Dy.cutD, List.length_append, List.length_map, List.length_cons, List.length_nil, List.length_take, List.length_drop]; omega) | (simp_all; done) | (simp_all; omega)) (by first | decide | omega | (simp only [Dy.cutD, List.length_append, List.length_map, List.length_cons, List.length_nil, List.length_take, List.length_drop]; omega) | (simp_all; done) | (simp_all; omega)))) jv_int ⟨by decide, by decide⟩)) T.b_int) (by first | (unfold CMul; omega) | decide | omega | (simp only [Dy.cutD, List.length_append, List.length_map, List.length_cons, List.length_nil, List.length_take, List.length_drop]; omega) | (simp_all; done) | (simp_all; omega)))) (fun begin h_begin => ?_) sc_law_row.nd)
    refine js_cons (js_appE 3 (eP D.int D.int) rows1 ((max (0 : Int) begin), (((max (0 : Int) begin) + (1 : Int)) + (nth dv ((2 : Int) + ((2 : Int) * (i0 : Int)))))) (JV.to ((eP D.int D.int) ((max (0 : Int) begin), (((max (0 : Int) begin) + (1 : Int)) + (nth dv ((2 : Int) + ((2 : Int) * (i0 : Int))))))) (jv_tup (av_cons (JV.to (.int (max (0 : Int) begin)) (jv_max2 rfl jv_int (jv_v 6 (D.int begin)) T.b_max) (by rw [max_py])) (av_cons (jv_add (jv_add (JV.to (.int (max (0 : Int) begin)) (jv_max2 rfl jv_int (jv_v 6 (D.int begin)) T.b_max) (by rw [max_py])) jv_int) (jv_ixL (d := (D.int (nth dv ((2 : Int) + ((2 : Int) * (i0 : Int)))))) (LV.rv (JV.lv (jv_v 2 ((eL D.int) dv)))) (jv_add jv_int (jv_mul jv_int (jv_v 5 (D.int (i0 : Int))) (.inl ⟨by decide, by decide⟩))) (atI_nth (by first | decide | omega | (simp only [Dy.cutD, List.length_append, List.length_map, List.length_cons, List.length_nil, List.length_take, List.length_drop]; omega) | (simp_all; done) | (simp_all; omega)) (by first | decide | omega | (simp only [Dy.cutD, List.length_append, List.length_map, List.length_cons, List.length_nil, List.length_take, List.length_drop]; omega) | (simp_all; done) | (simp_all; omega))))) av_nil))) rfl) (by first | decide | omega | (simp only [Dy.cutD, List.length_append, List.length_map, List.length_cons, List.length_nil, List.length_take, List.length_drop]; omega) | (simp_all; done) | (simp_all; omega)) (fun rows2 h_rows2 => ?_))
    refine js_cons (js_setE 4 D.int (begin + (nth dv ((2 : Int) + ((2 : Int) * (i0 : Int))))) (jv_add (jv_v 6 (D.int begin)) (jv_ixL (d := (D.int (nth dv ((2 : Int) + ((2 : Int) * (i0 : Int)))))) (LV.rv (JV.lv (jv_v 2 ((eL D.int) dv)))) (jv_add jv_int (jv_mul jv_int (jv_v 5 (D.int (i0 : Int))) (.inl ⟨by decide, by decide⟩))) (atI_nth (by first | decide | omega | (simp only [Dy.cutD, List.length_append, List.length_map, List.length_cons, List.length_nil, List.length_take, List.length_drop]; omega) | (simp_all; done) | (simp_all; omega)) (by first | decide | omega | (simp only [Dy.cutD, List.length_append, List.length_map, List.length_cons, List.length_nil, List.length_take, List.length_drop]; omega) | (simp_all; done) | (simp_all; omega))))) (fun place2 h_place2 => ?_) sc_law_row.nd)
    refine js_nil ⟨(rows2, place2), ?_, ⟨.inr rfl, .inr rfl, .inr rfl, .inr rfl, .inr rfl, .inl rfl, .inl rfl, .inl rfl, trivial⟩⟩
    try dsimp only
    obtain ⟨e1, e2⟩ := iv0; refine ⟨?_, by rw [h_rows2]; simp [e2]⟩; simp only [rowSt, ← e1, h_rows2, h_place2, h_begin]
  case done0 =>
    rintro ⟨rows1, place1⟩ iv0
    try dsimp only at iv0
    refine js_cons (js_ret (FL.jv (LcV.fl (lc_some (eP D.int D.int) (fun (a1 : Int × Int) => a1) (lc_compL [("_law_row_here", 7)] rows1 (eP D.int D.int) (fun (a1 : Int × Int) Δ => Δ.set 7 (.val ((eP D.int D.int) a1))) (fun (a1 : Int × Int) => (decide (a1.2 ≤ bound))) (fun (a1 : Int × Int) => ((eP D.int D.int) a1)) (LV.rv (lv_own 3)) ⟨_, fun s H C cl fp => pg_name (i := 7) sc_law_row.nd rfl (by first | exact Or.inl rfl | exact Or.inr rfl), fun a => gd_name 7⟩ (fun a1 m1 B' s H C cl fp => (tv_le (jv_ixT (d := (D.int a1.2)) (jv_v 7 ((eP D.int D.int) a1)) jv_int rfl) (jv_v 1 (D.int bound)))) (fun a1 m1 c1 B' s H C cl fp => (jv_v 7 ((eP D.int D.int) a1))) (by first | decide | omega | (simp only [Dy.cutD, List.length_append, List.length_map, List.length_cons, List.length_nil, List.length_take, List.length_drop]; omega) | (simp_all; done) | (simp_all; omega)) rfl sc_law_row.nd (ok := (show blkC ["_law_cell_here", "_law_bound", "_law_d", "_law_rows", "_law_place", "_law_k", "_law_begin", "_law_row_here"] (defScope s_law_row) _ [("_law_row_here", 7)] = true from by decide +kernel)))))) ?_)
    refine congrArg (fun z => Except.ok ((eL (eP D.int D.int)) z)) (show rowF c bound = ((rows1.filter (fun (a1 : Int × Int) => (decide (a1.2 ≤ bound)))).map (fun (a1 : Int × Int) => a1)) from ?_)
    simp only [rowF, ← h_dv, ← iv0.1, List.map_id_fun', id_eq]
theorem fn_law_row (T : Txt K mg) : Fn P w K mg base 2 "_law_row" (R_law_row ) := by
  obtain ⟨f, fd, F, gf⟩ := T.law_row
  exact ⟨f, fd, _, ok_law_row T F, gf, F.kp, F.binds fun _ _ _ _ _ _ us hl => match us, hl with | [_, _], _ => rfl⟩
end
abbrev s_law_description : Stmt := (top 29)
def R_law_description : Rl := fun ds r => ∃ (cl : Int), ds = [(D.int cl)] ∧ r = .ok (dSpT (descF cl))
theorem r_law_description {cl : Int} : R_law_description [(D.int cl)] (.ok (dSpT (descF cl))) := ⟨cl, rfl, rfl⟩
theorem sc_law_description : FnScope ["_law_cell_here", "_law_d", "_law_since", "_law_period", "_law_head", "_law_turn", "_law_low", "_law_high"] ["_law_cell_here"] (defScope s_law_description) := ⟨rfl, rfl, rfl, by decide +kernel, rfl, by decide +kernel, by decide +kernel⟩
section
variable {P : Program} {w : World} {K : PySem.W.Frag} {mg : Str → Option Value} {base : Heap}
theorem ok_law_description (T : Txt K mg) {f : Addr} {fd : FuncData} (F : Fun K "_law_description" "_law_description" s_law_description f fd) : FnOk P w K mg base (L2.CX P w) 3 f fd ["_law_cell_here"] (spR K (R_law_description )) := by
  refine fnok_of F sc_law_description (fun ds r h => ?_) (fun cdv A outer s H E B ds r hr h => ?_)
  · obtain ⟨_, rfl, _⟩ := h
    rfl
  obtain ⟨cl, rfl, rfl⟩ := h
  refine js_cons (js_setE 1 (eL D.int) (digits (rich (cl / (3 : Int))) ([(40 : Int), (36 : Int), (4 : Int)] : List (Int))) (jv_call (fn_law_digits T) (hr.mono (by decide)) (av_cons (jv_call (fn_law_rich T) (hr.mono (by decide)) (av_cons (jv_div (jv_v 0 (D.int cl)) jv_int ⟨by decide, by decide⟩) av_nil) (r_law_rich)) (av_cons (FL.jv (FL.to D.int ([(40 : Int), (36 : Int), (4 : Int)] : List (Int)) (fl_lst (av_cons jv_int (av_cons jv_int (av_cons jv_int av_nil)))) rfl)) av_nil)) (r_law_digits (by first | decide | omega | (simp only [Dy.cutD, List.length_append, List.length_map, List.length_cons, List.length_nil, List.length_take, List.length_drop]; omega) | (simp_all; done) | (simp_all; omega)))) (fun dv h_dv => ?_) sc_law_description.nd)
  have hh := desc_dig cl
  rw [show digits (rich (cl / 3)) [40, 36, 4] = dv from h_dv.symm] at hh
  dsimp only at hh
  have hdl : dv.length = 3 := by rw [h_dv, digits_len]; rfl
  refine js_cons (js_setE 2 D.int (nth dv (0 : Int)) (jv_ixL (d := (D.int (nth dv (0 : Int)))) (LV.rv (JV.lv (jv_v 1 ((eL D.int) dv)))) jv_int (atI_nth (by first | decide | omega | (simp only [Dy.cutD, List.length_append, List.length_map, List.length_cons, List.length_nil, List.length_take, List.length_drop]; omega) | (simp_all; done) | (simp_all; omega)) (by first | decide | omega | (simp only [Dy.cutD, List.length_append, List.length_map, List.length_cons, List.length_nil, List.length_take, List.length_drop]; omega) | (simp_all; done) | (simp_all; omega)))) (fun since h_since => ?_) sc_law_description.nd)
  refine js_cons (js_setE 3 D.int ((1 : Int) + (nth dv (1 : Int))) (jv_add jv_int (jv_ixL (d := (D.int (nth dv (1 : Int)))) (LV.rv (JV.lv (jv_v 1 ((eL D.int) dv)))) jv_int (atI_nth (by first | decide | omega | (simp only [Dy.cutD, List.length_append, List.length_map, List.length_cons, List.length_nil, List.length_take, List.length_drop]; omega) | (simp_all; done) | (simp_all; omega)) (by first | decide | omega | (simp only [Dy.cutD, List.length_append, List.length_map, List.length_cons, List.length_nil, List.length_take, List.length_drop]; omega) | (simp_all; done) | (simp_all; omega))))) (fun period h_period => ?_) sc_law_description.nd)
  refine js_cons (js_setLE 4 (eP D.int D.int) (rowF (cl + (5 : Int)) since) (fl_callF (fn_law_row T) (hr.mono (by decide)) (am_int (jv_add (jv_v 0 (D.int cl)) jv_int) (am_int (jv_v 2 (D.int since)) am_nil)) (r_law_row) (noLs_map (fun _ => rfl) _)) (fun head h_head => ?_) sc_law_description.nd)
  have rh := (rowF_wf (cl + 5) since).2
  rw [← h_head] at rh
  refine js_cons (js_setLE 5 (eP D.int D.int) (rowF ((cl / (2 : Int)) + (9 : Int)) period) (fl_callF (fn_law_row T) (hr.mono (by decide)) (am_int (jv_add (jv_div (jv_v 0 (D.int cl)) jv_int ⟨by decide, by decide⟩) jv_int) (am_int (jv_v 3 (D.int period)) am_nil)) (r_law_row) (noLs_map (fun _ => rfl) _)) (fun turn h_turn => ?_) sc_law_description.nd)
  have rt := (rowF_wf (cl / 2 + 9) period).2
  rw [← h_turn] at rt
  refine js_mid (fun (z : (Int) × (List (Int × Int))) => [.val (D.int cl), .val ((eL D.int) dv), .val (D.int since), .val (D.int z.1), .own (head.map (eP D.int D.int)), .own (z.2.map (eP D.int D.int)), .un, .un]) (fun (z : (Int) × (List (Int × Int))) => z.1 = (if ((decide ((nth dv (2 : Int)) = (1 : Int))) && (decide (period < (19 : Int)))) = true then ((2 : Int) * period) else period) ∧ z.2 = (if ((decide ((nth dv (2 : Int)) = (1 : Int))) && (decide (period < (19 : Int)))) = true then (turn ++ (turn.map (fun (a2 : Int × Int) => ((a2.1 + period), (a2.2 + period))))) else turn)) (js_if (tv_w (wv_and (tv_eq (jv_ixL (d := (D.int (nth dv (2 : Int)))) (LV.rv (JV.lv (jv_v 1 ((eL D.int) dv)))) jv_int (atI_nth (by first | decide | omega | (simp only [Dy.cutD, List.length_append, List.length_map, List.length_cons, List.length_nil, List.length_take, List.length_drop]; omega) | (simp_all; done) | (simp_all; omega)) (by first | decide | omega | (simp only [Dy.cutD, List.length_append, List.length_map, List.length_cons, List.length_nil, List.length_take, List.length_drop]; omega) | (simp_all; done) | (simp_all; omega)))) jv_int) (fun q1 => (wv_and1 (tv_lt (jv_v 3 (D.int period)) jv_int))))) (fun c1 => ?_) (fun c1 => ?_)) ?_
  ·
    refine js_cons (js_setLE 5 (eP D.int D.int) (turn ++ (turn.map (fun (a4 : Int × Int) => ((a4.1 + period), (a4.2 + period))))) (FL.to (eP D.int D.int) (turn ++ (turn.map (fun (a4 : Int × Int) => ((a4.1 + period), (a4.2 + period))))) (fl_cat (lv_own 5) (FL.lv (LcV.fl (lc_all (eP D.int D.int) (fun (a4 : Int × Int) => ((a4.1 + period), (a4.2 + period))) (lc_compL [("_law_low", 6), ("_law_high", 7)] turn (eP D.int D.int) (fun (a4 : Int × Int) Δ => ((Δ.set 6 (.val (D.int a4.1))).set 7 (.val (D.int a4.2)))) (fun (a4 : Int × Int) => true) (fun (a4 : Int × Int) => ((eP D.int D.int) ((a4.1 + period), (a4.2 + period)))) (LV.rv (lv_own 5)) ⟨_, fun s H C cl fp => pg_tup (n := 2) rfl (pgs_cons (pg_name (i := 6) sc_law_description.nd rfl (by first | exact Or.inl rfl | exact Or.inr rfl)) (pgs_cons (pg_name (i := 7) sc_law_description.nd rfl (by first | exact Or.inl rfl | exact Or.inr rfl)) pgs_nil)), fun a => gd_tup (gds_cons (gd_name 6) (gds_cons (gd_name 7) gds_nil)) rfl⟩ (fun a4 m4 => rfl) (fun a4 m4 c4 B' s H C cl fp => (JV.to ((eP D.int D.int) ((a4.1 + period), (a4.2 + period))) (jv_tup (av_cons (jv_add (jv_v 6 (D.int a4.1)) (jv_v 3 (D.int period))) (av_cons (jv_add (jv_v 7 (D.int a4.2)) (jv_v 3 (D.int period))) av_nil))) rfl)) (by first | decide | omega | (simp only [Dy.cutD, List.length_append, List.length_map, List.length_cons, List.length_nil, List.length_take, List.length_drop]; omega) | (simp_all; done) | (simp_all; omega)) rfl sc_law_description.nd (ok := (show blkC ["_law_cell_here", "_law_d", "_law_since", "_law_period", "_law_head", "_law_turn", "_law_low", "_law_high"] (defScope s_law_description) _ [("_law_low", 6), ("_law_high", 7)] = true from by decide +kernel)))))) (by first | ((simp [iota]; done)) | ((simp [iota]; omega)) | decide | omega | (simp only [Dy.cutD, List.length_append, List.length_map, List.length_cons, List.length_nil, List.length_take, List.length_drop]; omega) | (simp_all; done) | (simp_all; omega))) (by simp only [List.map_append])) (fun turn2 h_turn2 => ?_) sc_law_description.nd)
    refine js_cons (js_setE 3 D.int ((2 : Int) * period) (jv_mul jv_int (jv_v 3 (D.int period)) (.inl ⟨by decide, by decide⟩)) (fun period2 h_period2 => ?_) sc_law_description.nd)
    refine js_nil ⟨(period2, turn2), ?_, ⟨.inr rfl, .inr rfl, .inr rfl, .inr rfl, .inr rfl, .inr rfl, .inl rfl, .inl rfl, trivial⟩⟩
    refine ⟨?_, ?_⟩ <;> (rw [if_pos c1]; first | done | rfl | assumption | (subst_vars; rfl) | simp_all)
  ·
    refine js_nil ⟨(period, turn), ?_, ⟨.inr rfl, .inr rfl, .inr rfl, .inr rfl, .inr rfl, .inr rfl, .inl rfl, .inl rfl, trivial⟩⟩
    refine ⟨?_, ?_⟩ <;> (rw [if_neg (by rw [c1]; exact Bool.false_ne_true)]; first | done | rfl | assumption | (subst_vars; rfl) | simp_all)
  ·
    rintro ⟨period1, turn1⟩ ⟨j_period1, j_turn1⟩
    try dsimp only at j_period1 j_turn1
    have e1 : descT (descR cl) (nth dv 2) = ⟨head, since, period1, turn1⟩ := by
      have e0 : descR cl = ⟨head, since, period, turn⟩ := by rw [descR, h_head, h_turn, h_since, h_period, h_dv]
      rw [e0, descT]
      by_cases z : nth dv 2 = 1 ∧ period < 19
      · rw [if_pos z]
        have z2 : (decide (nth dv 2 = 1) && decide (period < 19)) = true := by simpa using z
        rw [z2] at j_period1 j_turn1
        rw [j_period1, j_turn1]
        rfl
      · rw [if_neg z]
        have z2 : (decide (nth dv 2 = 1) && decide (period < 19)) = false := by rw [← Bool.decide_and, decide_eq_false z]
        rw [z2] at j_period1 j_turn1
        rw [j_period1, j_turn1]
        rfl
    refine js_mid (fun (z : (List (Int × Int)) × (List (Int × Int))) => [.val (D.int cl), .val ((eL D.int) dv), .val (D.int since), .val (D.int period1), .own (z.1.map (eP D.int D.int)), .own (z.2.map (eP D.int D.int)), .un, .un]) (fun (z : (List (Int × Int)) × (List (Int × Int))) => z.1 = (if (decide ((nth dv (2 : Int)) = (2 : Int))) = true then (head.reverse) else head) ∧ z.2 = (if (decide ((nth dv (2 : Int)) = (2 : Int))) = true then (turn1.reverse) else turn1)) (js_if (tv_eq (jv_ixL (d := (D.int (nth dv (2 : Int)))) (LV.rv (JV.lv (jv_v 1 ((eL D.int) dv)))) jv_int (atI_nth (by first | decide | omega | (simp only [Dy.cutD, List.length_append, List.length_map, List.length_cons, List.length_nil, List.length_take, List.length_drop]; omega) | (simp_all; done) | (simp_all; omega)) (by first | decide | omega | (simp only [Dy.cutD, List.length_append, List.length_map, List.length_cons, List.length_nil, List.length_take, List.length_drop]; omega) | (simp_all; done) | (simp_all; omega)))) jv_int) (fun c2 => ?_) (fun c2 => ?_)) ?_
    ·
      refine js_cons (js_revE 4 (eP D.int D.int) head (fun head2 h_head2 => ?_))
      refine js_cons (js_revE 5 (eP D.int D.int) turn1 (fun turn4 h_turn4 => ?_))
      refine js_nil ⟨(head2, turn4), ?_, ⟨.inr rfl, .inr rfl, .inr rfl, .inr rfl, .inr rfl, .inr rfl, .inl rfl, .inl rfl, trivial⟩⟩
      refine ⟨?_, ?_⟩ <;> (rw [if_pos c2]; first | done | rfl | assumption | (subst_vars; rfl) | simp_all)
    ·
      refine js_nil ⟨(head, turn1), ?_, ⟨.inr rfl, .inr rfl, .inr rfl, .inr rfl, .inr rfl, .inr rfl, .inl rfl, .inl rfl, trivial⟩⟩
      refine ⟨?_, ?_⟩ <;> (rw [if_neg (by rw [c2]; exact Bool.false_ne_true)]; first | done | rfl | assumption | (subst_vars; rfl) | simp_all)
    ·
      rintro ⟨head1, turn3⟩ ⟨j_head1, j_turn3⟩
      try dsimp only at j_head1 j_turn3
      refine js_cons (js_ret (JV.to (dSpT (⟨head1, since, period1, turn3⟩ : Sp)) (jv_tup (av_cons (jv_tupL (LV.rv (lv_own 4)) T.b_tuple) (av_cons (jv_v 2 (D.int since)) (av_cons (jv_v 3 (D.int period1)) (av_cons (jv_tupL (LV.rv (lv_own 5)) T.b_tuple) av_nil))))) rfl) ?_)
      refine congrArg (fun z => Except.ok (dSpT z)) (show descF cl = (⟨head1, since, period1, turn3⟩ : Sp) from ?_)
      rw [descF, ← h_dv, e1, descV, j_head1, j_turn3]; by_cases z : nth dv 2 = 2 <;> simp [z]
theorem fn_law_description (T : Txt K mg) : Fn P w K mg base 3 "_law_description" (R_law_description ) := by
  obtain ⟨f, fd, F, gf⟩ := T.law_description
  exact ⟨f, fd, _, ok_law_description T F, gf, F.kp, F.binds fun _ _ _ _ _ _ us hl => match us, hl with | [_], _ => rfl⟩
end
abbrev s_law_in : Stmt := (top 30)
def R_law_in : Rl := fun ds r => ∃ (S : Sp) (t : Int), ds = [(dSpT S), (D.int t)] ∧ (1 ≤ S.period ∧ S.period < 1073741824) ∧ r = .ok (D.bl (inF S t))
theorem r_law_in {S : Sp} {t : Int} (hpre : 1 ≤ S.period ∧ S.period < 1073741824) : R_law_in [(dSpT S), (D.int t)] (.ok (D.bl (inF S t))) := ⟨S, t, rfl, hpre, rfl⟩
theorem sc_law_in : FnScope ["_law_row_here", "_law_instant", "_law_place", "_law_spans", "_law_span"] ["_law_row_here", "_law_instant"] (defScope s_law_in) := ⟨rfl, rfl, rfl, by decide +kernel, rfl, by decide +kernel, by decide +kernel⟩
section
variable {P : Program} {w : World} {K : PySem.W.Frag} {mg : Str → Option Value} {base : Heap}
theorem ok_law_in (T : Txt K mg) {f : Addr} {fd : FuncData} (F : Fun K "_law_in" "_law_in" s_law_in f fd) : FnOk P w K mg base (L2.CX P w) 1 f fd ["_law_row_here", "_law_instant"] (spR K (R_law_in )) := by
  refine fnok_of F sc_law_in (fun ds r h => ?_) (fun cdv A outer s H E B ds r hr h => ?_)
  · obtain ⟨_, _, rfl, _⟩ := h
    rfl
  obtain ⟨S, t, rfl, hpre, rfl⟩ := h
  refine js_cons (js_if (tv_lt (jv_v 1 (D.int t)) jv_int) (fun c1 => ?_) (fun c1 => ?_))
  ·
    refine js_cons (js_ret jv_bl ?_)
    refine congrArg (fun z => Except.ok (D.bl z)) (show inF S t = false from ?_)
    rw [inF, decide_eq_false (by simp at c1; omega)]; rfl
  ·
    refine js_nil ?_
    refine js_cons (js_set 2 (jv_v 1 (D.int t)) ?_ sc_law_in.nd)
    refine js_cons (js_set 3 (jv_ixT (d := ((eQ (eP D.int D.int)) S.head)) (jv_v 0 (dSpT S)) jv_int rfl) ?_ sc_law_in.nd)
    refine js_mid (fun (z : (Int) × (List (Int × Int))) => [.val (dSpT S), .val (D.int t), .val (D.int z.1), .val ((eQ (eP D.int D.int)) z.2), .un]) (fun (z : (Int) × (List (Int × Int))) => hitF z.2 z.1 = genF S t) (js_if (tv_ge (jv_v 1 (D.int t)) (jv_ixT (d := (D.int S.since)) (jv_v 0 (dSpT S)) jv_int rfl)) (fun c2 => ?_) (fun c2 => ?_)) ?_
    ·
      have hs : ¬ t < S.since := by simp at c2; omega
      refine js_cons (js_setE 2 D.int ((t - S.since) % S.period) (jv_mod (jv_callInt (jv_sub (jv_v 1 (D.int t)) (jv_ixT (d := (D.int S.since)) (jv_v 0 (dSpT S)) jv_int rfl)) T.b_int) (jv_ixT (d := (D.int S.period)) (jv_v 0 (dSpT S)) jv_int rfl) (by first | decide | omega | (simp only [Dy.cutD, List.length_append, List.length_map, List.length_cons, List.length_nil, List.length_take, List.length_drop]; omega) | (simp_all; done) | (simp_all; omega))) (fun place1 h_place1 => ?_) sc_law_in.nd)
      refine js_cons (js_set 3 (jv_ixT (d := ((eQ (eP D.int D.int)) S.cycle)) (jv_v 0 (dSpT S)) jv_int rfl) ?_ sc_law_in.nd)
      refine js_nil ⟨(place1, S.cycle), ?_, ⟨.inr rfl, .inr rfl, .inr rfl, .inr rfl, .inl rfl, trivial⟩⟩
      first | (show hitF S.cycle place1 = genF S t; rw [genF, if_neg hs, h_place1]; done) | (show hitF S.cycle place1 = genF S t; rw [genF, if_neg hs, h_place1]; rfl) | (show hitF S.head t = genF S t; rw [genF, if_pos hs])
    ·
      have hs : t < S.since := by simp at c2; omega
      refine js_nil ⟨(t, S.head), ?_, ⟨.inr rfl, .inr rfl, .inr rfl, .inr rfl, .inl rfl, trivial⟩⟩
      first | (show hitF S.cycle place1 = genF S t; rw [genF, if_neg hs, h_place1]; done) | (show hitF S.cycle place1 = genF S t; rw [genF, if_neg hs, h_place1]; rfl) | (show hitF S.head t = genF S t; rw [genF, if_pos hs])
    ·
      rintro ⟨place, spans⟩ j_place
      try dsimp only at j_place
      refine js_cons (js_overT (is := [4]) spans (eP D.int D.int) (fun (a : Int × Int) Δ => Δ.set 4 (.val ((eP D.int D.int) a))) (fun (pre0 : List (Int × Int)) (_ : Unit) => [.val (dSpT S), .val (D.int t), .val (D.int place), .val ((eQ (eP D.int D.int)) spans), .un]) (fun (pre0 : List (Int × Int)) (_ : Unit) => ∀ post, spans = pre0 ++ post → genF S t = hitF post place) () (jv_v 3 ((eQ (eP D.int D.int)) spans)) ?tgt0 ?h00 ⟨.inr rfl, .inr rfl, .inr rfl, .inr rfl, .inl rfl, trivial⟩ ?turn0 ?done0 (passes_of rfl) rfl)
      case tgt0 => exact tg_name 4 sc_law_in.nd
      case h00 =>
        try dsimp only
        intro post e; rw [List.nil_append] at e; rw [← e]; exact j_place.symm
      case turn0 =>
        rintro B pre0 av post0 _ e0 iv0
        try dsimp only at iv0
        have hp := iv0 _ e0
        refine js_cons (js_if (tv_w (wv_and (tv_le (jv_ixT (d := (D.int av.1)) (jv_v 4 ((eP D.int D.int) av)) jv_int rfl) (jv_v 2 (D.int place))) (fun q1 => (wv_and1 (tv_lt (jv_v 2 (D.int place)) (jv_ixT (d := (D.int av.2)) (jv_v 4 ((eP D.int D.int) av)) jv_int rfl)))))) (fun c3 => ?_) (fun c3 => ?_))
        ·
          refine js_cons (js_ret jv_bl ?_)
          refine congrArg (fun z => Except.ok (D.bl z)) (show inF S t = true from ?_)
          rw [inF, decide_eq_true (by simp at c1; omega), hp, hit_cons, c3]; rfl
        ·
          refine js_nil ?_
          refine js_nil ⟨(), ?_, ⟨.inr rfl, .inr rfl, .inr rfl, .inr rfl, .inl rfl, trivial⟩⟩
          try dsimp only
          intro post1 e1; rw [e0, List.append_assoc] at e1; have := List.append_cancel_left e1; simp at this; subst this; rw [hp, hit_cons, c3, Bool.false_or]
      case done0 =>
        rintro _ iv0
        try dsimp only at iv0
        refine js_cons (js_ret jv_bl ?_)
        refine congrArg (fun z => Except.ok (D.bl z)) (show inF S t = false from ?_)
        rw [inF, decide_eq_true (by simp at c1; omega), iv0 [] (by simp)]; rfl
theorem fn_law_in (T : Txt K mg) : Fn P w K mg base 1 "_law_in" (R_law_in ) := by
  obtain ⟨f, fd, F, gf⟩ := T.law_in
  exact ⟨f, fd, _, ok_law_in T F, gf, F.kp, F.binds fun _ _ _ _ _ _ us hl => match us, hl with | [_, _], _ => rfl⟩
end
end My
set_option synthInstance.maxSize 4000
namespace My
open PySem PySem.Spec PyProof.Rows L2 Dy
abbrev s_law : Stmt := (top 31)
def R_law : Rl := fun ds r => ∃ (ns : List Int), ds = [(D.scr ns)] ∧ (ns.length ≤ 63) ∧ r = .ok (D.bl true)
theorem r_law {ns : List Int} (hpre : ns.length ≤ 63) : R_law [(D.scr ns)] (.ok (D.bl true)) := ⟨ns, rfl, hpre, rfl⟩
theorem sc_law : FnScope ["_law_script", "_law_row_here", "_law_made", "_law_probe", "_law_instant", "_law_given", "_law_listed", "_law_rows", "_law_t", "$_law_given0", "$_law_given1", "$_law_given2"] ["_law_script"] (defScope s_law) := ⟨rfl, rfl, rfl, by decide +kernel, rfl, by decide +kernel, by decide +kernel⟩
section
variable {P : Program} {w : World} {K : PySem.W.Frag} {mg : Str → Option Value} {base : Heap}
theorem ok_law (T : Txt K mg) {f : Addr} {fd : FuncData} (F : Fun K "law" "law" s_law f fd) : FnOk P w K mg base (L2.CX P w) 8 f fd ["_law_script"] (spR K (R_law )) := by
  refine fnok_of F sc_law (fun ds r h => ?_) (fun cdv A outer s H E B ds r hr h => ?_)
  · obtain ⟨_, rfl, _⟩ := h
    rfl
  obtain ⟨ns, rfl, hpre, rfl⟩ := h
  refine Js.eq (Δ2 := (([Sl.val (D.scr ns), Sl.un, Sl.un, Sl.un, Sl.un, Sl.un, Sl.un, Sl.un, Sl.un] : List Sl) ++ (unS 3))) rfl ?_
  refine js_cons (js_setE 1 dSpT (descF (cell ns (0 : Int))) (jv_call (fn_law_description T) (hr.mono (by decide)) (av_cons (jv_call (fn_law_cell T) (hr.mono (by decide)) (av_cons (jv_v 0 (D.scr ns)) (av_cons jv_int av_nil)) (r_law_cell (by first | decide | omega | (simp only [Dy.cutD, List.length_append, List.length_map, List.length_cons, List.length_nil, List.length_take, List.length_drop]; omega) | (simp_all; done) | (simp_all; omega)))) av_nil) (r_law_description)) (fun rowhere h_rowhere => ?_) sc_law.nd)
  have d0 := descF_ok (cell ns 0)
  rw [← h_rowhere] at d0
  have p1_rowhere := d0.r.p1
  have p2_rowhere := d0.p
  have s0_rowhere := d0.r.s0
  have s1_rowhere := d0.s
  have n0 := d0.n
  refine js_cons (js_setE 2 (dSp mg) (nfS ⟨rowhere.head, rowhere.since, rowhere.period, rowhere.cycle⟩) (jv_makeE (nfS ⟨rowhere.head, rowhere.since, rowhere.period, rowhere.cycle⟩) (mi_Spans T) T.gl_Spans (hr.mono (by decide)) kb_Spans_4_all (av_cons (jv_ixT (d := ((eQ (eP D.int D.int)) rowhere.head)) (jv_v 1 (dSpT rowhere)) jv_int rfl) (av_cons (jv_ixT (d := (D.int rowhere.since)) (jv_v 1 (dSpT rowhere)) jv_int rfl) (av_cons (jv_ixT (d := (D.int rowhere.period)) (jv_v 1 (dSpT rowhere)) jv_int rfl) (av_cons (jv_ixT (d := ((eQ (eP D.int D.int)) rowhere.cycle)) (jv_v 1 (dSpT rowhere)) jv_int rfl) av_nil)))) kv_nil rfl rfl bnd_all (r_Spans___init (hd := rowhere.head) (sn := rowhere.since) (pd := rowhere.period) (cy := rowhere.cycle) (by first | (exact fun _ => d0.sn) | ((rw [ga, gb]; exact fun _ => d0.sn)) | (rw [h_cycle]; exact fun _ => hpre.sn) | (intro _; exact ⟨pb, by rw [List.length_map]; omega⟩) | decide | omega | (simp only [Dy.cutD, List.length_append, List.length_map, List.length_cons, List.length_nil, List.length_take, List.length_drop]; omega) | (simp_all; done) | (simp_all; omega))) (by first | (exact spMk_of d0.r) | ((rw [ga, gb]; exact spMk_of d0.r)) | (rw [h_cycle]; exact spMk_of hpre.sr) | (exact spMk_of (shiftD_ok w hk).1) | decide | omega | (simp only [Dy.cutD, List.length_append, List.length_map, List.length_cons, List.length_nil, List.length_take, List.length_drop]; omega) | (simp_all; done) | (simp_all; omega))) (fun made h_made => ?_) sc_law.nd)
  have hin : ∀ t, inF made t = inF rowhere t := fun t => by rw [h_made, in_gen (nf_ok d0.r).1.w.r, in_gen d0.r, (nf_ok d0.r).2]
  have mp := nf_per d0.r
  rw [show nfS rowhere = made from h_made.symm] at mp
  refine js_cons (js_setE 3 D.int ((if (cell ns (1 : Int)) < 0 then -(cell ns (1 : Int)) else (cell ns (1 : Int))) % ((10 : Int) ^ ((60 : Int)).toNat)) (jv_mod (jv_callInt (jv_abs (jv_call (fn_law_cell T) (hr.mono (by decide)) (av_cons (jv_v 0 (D.scr ns)) (av_cons jv_int av_nil)) (r_law_cell (by first | decide | omega | (simp only [Dy.cutD, List.length_append, List.length_map, List.length_cons, List.length_nil, List.length_take, List.length_drop]; omega) | (simp_all; done) | (simp_all; omega)))) T.b_abs) T.b_int) (jv_pow jv_int jv_int (by unfold CPow; decide)) (by decide +kernel)) (fun probe h_probe => ?_) sc_law.nd)
  have hp0 : 0 ≤ probe := by rw [h_probe]; exact Int.emod_nonneg _ (by decide)
  refine js_cons (js_overL (is := [4]) (([probe] : List (Int)) ++ ((iota 0 ((120 : Int)).toNat).map (fun (a2 : Int) => a2))) D.int (fun (a : Int) Δ => Δ.set 4 (.val (D.int a))) (fun (pre0 : List (Int)) (_ : Unit) => (([Sl.val (D.scr ns), Sl.val (dSpT rowhere), Sl.val ((dSp mg) made), Sl.val (D.int probe), Sl.un, Sl.un, Sl.un, Sl.un, Sl.un] : List Sl) ++ (unS 3))) (fun (pre0 : List (Int)) (_ : Unit) => True) () (FL.jv (FL.to D.int (([probe] : List (Int)) ++ ((iota 0 ((120 : Int)).toNat).map (fun (a2 : Int) => a2))) (fl_cat (FL.lv (FL.to D.int ([probe] : List (Int)) (fl_lst (av_cons (jv_v 3 (D.int probe)) av_nil)) rfl)) (FL.lv (LcV.fl (lc_all D.int (fun (a2 : Int) => a2) (lc_compR1 [("_law_t", 8)] (fun (a2 : Int) Δ => Δ.set 8 (.val (D.int a2))) (fun (a2 : Int) => true) (fun (a2 : Int) => (D.int a2)) jv_int (by first | decide | omega | (simp only [Dy.cutD, List.length_append, List.length_map, List.length_cons, List.length_nil, List.length_take, List.length_drop]; omega) | (simp_all; done) | (simp_all; omega)) ⟨_, fun s H C cl fp => pg_name (i := 8) sc_law.nd rfl (by first | exact Or.inl rfl | exact Or.inr rfl), fun a => gd_name 8⟩ (fun a2 m2 m2b => rfl) (fun a2 m2 m2b c2 B' s H C cl fp => (jv_v 8 (D.int a2))) rfl sc_law.nd T.b_range (ok := (show blkC ["_law_script", "_law_row_here", "_law_made", "_law_probe", "_law_instant", "_law_given", "_law_listed", "_law_rows", "_law_t", "$_law_given0", "$_law_given1", "$_law_given2"] (defScope s_law) _ [("_law_t", 8)] = true from by decide +kernel)))))) (by first | ((simp [iota]; done)) | ((simp [iota]; omega)) | decide | omega | (simp only [Dy.cutD, List.length_append, List.length_map, List.length_cons, List.length_nil, List.length_take, List.length_drop]; omega) | (simp_all; done) | (simp_all; omega))) (by simp only [List.map_append]))) ?tgt0 ?h00 ⟨.inr rfl, .inr rfl, .inr rfl, .inr rfl, .inl rfl, .inl rfl, .inl rfl, .inl rfl, .inl rfl, .inl rfl, .inl rfl, .inl rfl, trivial⟩ ?turn0 ?done0 (passes_of rfl) rfl)
  case tgt0 => exact tg_name 4 sc_law.nd
  case h00 =>
    try dsimp only
    all_goals trivial
  case turn0 =>
    rintro B pre0 av post0 _ e0 iv0
    try dsimp only at iv0
    refine js_cons (js_if (tv_ne (jv_inO (mt_Spans___contains T) (hr.mono (by decide)) (jv_v 4 (D.int av)) (jv_v 2 ((dSp mg) made)) (r_Spans___contains (by first | decide | omega | (simp only [Dy.cutD, List.length_append, List.length_map, List.length_cons, List.length_nil, List.length_take, List.length_drop]; omega) | (simp_all; done) | (simp_all; omega)))) (jv_call (fn_law_in T) (hr.mono (by decide)) (av_cons (jv_v 1 (dSpT rowhere)) (av_cons (jv_v 4 (D.int av)) av_nil)) (r_law_in (by first | decide | omega | (simp only [Dy.cutD, List.length_append, List.length_map, List.length_cons, List.length_nil, List.length_take, List.length_drop]; omega) | (simp_all; done) | (simp_all; omega))))) (fun c1 => ?_) (fun c1 => ?_))
    ·
      refine js_cons (js_ret jv_bl ?_)
      refine congrArg (fun z => Except.ok (D.bl z)) (show true = false from ?_)
      first | rfl | (simp_all [true]; done) | (simp_all [true]; omega) | omega
    ·
      refine js_nil ?_
      refine js_nil ⟨(), ?_, ⟨.inr rfl, .inr rfl, .inr rfl, .inr rfl, .inl rfl, .inl rfl, .inl rfl, .inl rfl, .inl rfl, .inl rfl, .inl rfl, .inl rfl, trivial⟩⟩
      try dsimp only
      all_goals trivial
  case done0 =>
    rintro _ iv0
    try dsimp only at iv0
    refine js_cons (js_setJ 5 (jx_lst (R := (fun Δ d => ∃ zA : Nat → Addr, d = D.adr (zA 0) ∧ Δ = ([.val (D.scr ns), .val (dSpT rowhere), .val ((dSp mg) made), .val (D.int probe), .un, .un, .un, .un, .un] ++ (celS (cGiv mg zA (⟨rowhere.head, rowhere.cycle⟩ : GivM)))))) 9 (ax_cons (FL.jx (ds := (rowhere.head.map (eP D.int D.int))) 10 (fl_list (JV.qv (jv_ixT (d := ((eQ (eP D.int D.int)) rowhere.head)) (jv_v 1 (dSpT rowhere)) jv_int rfl)) T.b_list)) (fun _ _ hp => by obtain ⟨p1_0, rfl, rfl⟩ := hp; exact ax_cons (FL.jx (ds := (rowhere.cycle.map (eP D.int D.int))) 11 (fl_list (JV.qv (jv_ixT (d := ((eQ (eP D.int D.int)) rowhere.cycle)) (jv_v 1 (dSpT rowhere)) jv_int rfl)) T.b_list)) (fun _ _ hp => by obtain ⟨p1_1, rfl, rfl⟩ := hp; exact ax_nil ⟨Nat.le_of_ble_eq_true rfl, fun q => ⟨adF (q :: [p1_0, p1_1]), rfl, rfl⟩⟩)))) (fun Δ1 d1 hd => ?_) (fun _ _ z => z.elim) sc_law.nd)
    obtain ⟨givenA, rfl, rfl⟩ := hd
    obtain ⟨given, h_given⟩ : ∃ z : GivM, z = (⟨rowhere.head, rowhere.cycle⟩ : GivM) := ⟨_, rfl⟩
    have hg0 : given.a.length + given.b.length ≤ 100 := by rw [h_given]; show rowhere.head.length + rowhere.cycle.length ≤ 100; omega
    have ga : given.a = rowhere.head := by rw [h_given]
    have gb : given.b = rowhere.cycle := by rw [h_given]
    refine Js.eq (Δ2 := (([Sl.val (D.scr ns), Sl.val (dSpT rowhere), Sl.val ((dSp mg) made), Sl.val (D.int probe), Sl.un, Sl.val (D.adr (givenA 0)), Sl.un, Sl.un, Sl.un] : List Sl) ++ (celS (cGiv mg givenA given)))) (by rw [h_given]; rfl) ?_
    refine js_cons (js_setE 6 (dSp mg) (nfS ⟨given.a, rowhere.since, rowhere.period, given.b⟩) (jv_frz (is := [9, 10, 11]) (cs := (cGiv mg givenA given)) (Δv := (([Sl.val (D.scr ns), Sl.val (dSpT rowhere), Sl.val ((dSp mg) made), Sl.val (D.int probe), Sl.un, Sl.val ((dGiv mg) given), Sl.un, Sl.un, Sl.un] : List Sl) ++ (unS 3))) ⟨rfl, rfl, rfl, trivial⟩ ⟨.refl _, .refl _, .refl _, .refl _, trivial, vw_Giv (fun _ h => h), trivial, trivial, trivial, trivial, trivial, trivial, trivial⟩ (jv_makeE (nfS ⟨given.a, rowhere.since, rowhere.period, given.b⟩) (mi_Spans_LL T) T.gl_Spans (hr.mono (by decide)) kb_Spans_4_all (av_cons (jv_ixLD (d := eL (eP D.int D.int) given.a) (jv_v 5 ((dGiv mg) given)) jv_int ⟨_, rfl, rfl⟩) (av_cons (jv_ixT (d := (D.int rowhere.since)) (jv_v 1 (dSpT rowhere)) jv_int rfl) (av_cons (jv_ixT (d := (D.int rowhere.period)) (jv_v 1 (dSpT rowhere)) jv_int rfl) (av_cons (jv_ixLD (d := eL (eP D.int D.int) given.b) (jv_v 5 ((dGiv mg) given)) jv_int ⟨_, rfl, rfl⟩) av_nil)))) kv_nil rfl rfl bnd_all (r_Spans___init___LL (hd := given.a) (sn := rowhere.since) (pd := rowhere.period) (cy := given.b) (by first | (exact fun _ => d0.sn) | ((rw [ga, gb]; exact fun _ => d0.sn)) | (rw [h_cycle]; exact fun _ => hpre.sn) | (intro _; exact ⟨pb, by rw [List.length_map]; omega⟩) | decide | omega | (simp only [Dy.cutD, List.length_append, List.length_map, List.length_cons, List.length_nil, List.length_take, List.length_drop]; omega) | (simp_all; done) | (simp_all; omega))) (by first | (exact spMk_of d0.r) | ((rw [ga, gb]; exact spMk_of d0.r)) | (rw [h_cycle]; exact spMk_of hpre.sr) | (exact spMk_of (shiftD_ok w hk).1) | decide | omega | (simp only [Dy.cutD, List.length_append, List.length_map, List.length_cons, List.length_nil, List.length_take, List.length_drop]; omega) | (simp_all; done) | (simp_all; omega))) ((fre_sp (by show _ ∉ ([] : List (List Str)); decide)) _)) (fun listed h_listed => ?_) sc_law.nd)
    have hl0 : listed = made := by rw [h_listed, h_made, ga, gb]
    refine js_cons (js_if (tv_frz (is := [9, 10, 11]) (cs := (cGiv mg givenA given)) (Δv := (([Sl.val (D.scr ns), Sl.val (dSpT rowhere), Sl.val ((dSp mg) made), Sl.val (D.int probe), Sl.un, Sl.val ((dGiv mg) given), Sl.val ((dSp mg) listed), Sl.un, Sl.un] : List Sl) ++ (unS 3))) ⟨rfl, rfl, rfl, trivial⟩ ⟨.refl _, .refl _, .refl _, .refl _, trivial, vw_Giv (fun _ h => h), .refl _, trivial, trivial, trivial, trivial, trivial, trivial⟩ (tv_neLE hr (pyE_L pyE_pr) (by decide) (JV.lv (JV.to (.lst (([given.a, given.b] : List (List Pr)).map (eL ePr))) (jv_v 5 ((dGiv mg) given)) rfl)) (FL.lv (FL.to (eL ePr) ([rowhere.head, rowhere.cycle] : List (List Pr)) (fl_lst (av_cons (FL.jv (fl_list (JV.qv (jv_ixT (d := ((eQ (eP D.int D.int)) rowhere.head)) (jv_v 1 (dSpT rowhere)) jv_int rfl)) T.b_list)) (av_cons (FL.jv (fl_list (JV.qv (jv_ixT (d := ((eQ (eP D.int D.int)) rowhere.cycle)) (jv_v 1 (dSpT rowhere)) jv_int rfl)) T.b_list)) av_nil))) rfl)))) (fun c2 => ?_) (fun c2 => ?_))
    ·
      refine js_cons (js_ret jv_bl ?_)
      refine congrArg (fun z => Except.ok (D.bl z)) (show true = false from ?_)
      first | rfl | (simp_all [true]; done) | (simp_all [true]; omega) | omega
    ·
      refine js_nil ?_
      refine js_cons (js_overA2 (is := [7]) (givenA 1) (givenA 2) 9 (fun a Δ => Δ.set 7 (.val (D.adr a))) (fun (_ : Nat) (z : GivM) => (([Sl.val (D.scr ns), Sl.val (dSpT rowhere), Sl.val ((dSp mg) made), Sl.val (D.int probe), Sl.un, Sl.val (D.adr (givenA 0)), Sl.val ((dSp mg) listed), Sl.un, Sl.un] : List Sl) ++ (celS (cGiv mg givenA z)))) (fun n z => z.a.length + z.b.length ≤ 100 + n) given (jv_v 5 (D.adr (givenA 0))) ?tgA ?hjA ?h0A ⟨.inr rfl, .inr rfl, .inr rfl, .inr rfl, .inl rfl, .inr rfl, .inr rfl, .inl rfl, .inl rfl, .inr rfl, .inr rfl, .inr rfl, trivial⟩ ?t1A ?t2A ?doneA (passes_of rfl) rfl)
      case tgA => exact tg_name 7 sc_law.nd
      case hjA => intro _ _; rfl
      case h0A => exact hg0
      case t1A =>
        rintro B given1 hz
        refine js_cons (js_exprJ (jx_appC (ds := given1.a.map (eP D.int D.int)) (d := ((eP D.int D.int) ((0 : Int), (1 : Int)))) 10 (jv_v 7 (D.adr (givenA 1))) (JV.to ((eP D.int D.int) ((0 : Int), (1 : Int))) (jv_tup (av_cons jv_int (av_cons jv_int av_nil))) rfl) (by rw [List.length_map]; exact (by first | decide | omega | (simp only [Dy.cutD, List.length_append, List.length_map, List.length_cons, List.length_nil, List.length_take, List.length_drop]; omega) | (simp_all; done) | (simp_all; omega)))) (fun _ _ hd => ?_) (fun _ _ hz => hz.elim))
        obtain ⟨rfl, rfl⟩ := hd
        obtain ⟨given2, h_given2⟩ : ∃ z : GivM, z = { given1 with a := (given1.a ++ [((0 : Int), (1 : Int))]) } := ⟨_, rfl⟩
        refine Js.eq (Δ2 := (([Sl.val (D.scr ns), Sl.val (dSpT rowhere), Sl.val ((dSp mg) made), Sl.val (D.int probe), Sl.un, Sl.val (D.adr (givenA 0)), Sl.val ((dSp mg) listed), Sl.val (D.adr (givenA 1)), Sl.un] : List Sl) ++ (celS (cGiv mg givenA given2)))) (by rw [h_given2]; exact congrArg (fun z => List.set _ 10 (Sl.cel _ (Cel.lst z))) (List.map_append (l₁ := given1.a) (l₂ := [((0 : Int), (1 : Int))]) (f := (eP D.int D.int))).symm) ?_
        refine js_nil ⟨given2, ?_, ⟨.inr rfl, .inr rfl, .inr rfl, .inr rfl, .inl rfl, .inr rfl, .inr rfl, .inl rfl, .inl rfl, .inr rfl, .inr rfl, .inr rfl, trivial⟩⟩
        rw [h_given2]; simp only [List.length_append, List.length_singleton]; omega
      case t2A =>
        rintro B given3 hz
        refine js_cons (js_exprJ (jx_appC (ds := given3.b.map (eP D.int D.int)) (d := ((eP D.int D.int) ((0 : Int), (1 : Int)))) 11 (jv_v 7 (D.adr (givenA 2))) (JV.to ((eP D.int D.int) ((0 : Int), (1 : Int))) (jv_tup (av_cons jv_int (av_cons jv_int av_nil))) rfl) (by rw [List.length_map]; exact (by first | decide | omega | (simp only [Dy.cutD, List.length_append, List.length_map, List.length_cons, List.length_nil, List.length_take, List.length_drop]; omega) | (simp_all; done) | (simp_all; omega)))) (fun _ _ hd => ?_) (fun _ _ hz => hz.elim))
        obtain ⟨rfl, rfl⟩ := hd
        obtain ⟨given4, h_given4⟩ : ∃ z : GivM, z = { given3 with b := (given3.b ++ [((0 : Int), (1 : Int))]) } := ⟨_, rfl⟩
        refine Js.eq (Δ2 := (([Sl.val (D.scr ns), Sl.val (dSpT rowhere), Sl.val ((dSp mg) made), Sl.val (D.int probe), Sl.un, Sl.val (D.adr (givenA 0)), Sl.val ((dSp mg) listed), Sl.val (D.adr (givenA 2)), Sl.un] : List Sl) ++ (celS (cGiv mg givenA given4)))) (by rw [h_given4]; exact congrArg (fun z => List.set _ 11 (Sl.cel _ (Cel.lst z))) (List.map_append (l₁ := given3.b) (l₂ := [((0 : Int), (1 : Int))]) (f := (eP D.int D.int))).symm) ?_
        refine js_nil ⟨given4, ?_, ⟨.inr rfl, .inr rfl, .inr rfl, .inr rfl, .inl rfl, .inr rfl, .inr rfl, .inl rfl, .inl rfl, .inr rfl, .inr rfl, .inr rfl, trivial⟩⟩
        rw [h_given4]; simp only [List.length_append, List.length_singleton]; omega
      case doneA =>
        rintro given5 hz
        refine js_cons (js_overL (is := [4]) (([probe] : List (Int)) ++ ((iota 0 ((120 : Int)).toNat).map (fun (a4 : Int) => a4))) D.int (fun (a : Int) Δ => Δ.set 4 (.val (D.int a))) (fun (pre1 : List (Int)) (_ : Unit) => (([Sl.val (D.scr ns), Sl.val (dSpT rowhere), Sl.val ((dSp mg) made), Sl.val (D.int probe), Sl.un, Sl.val (D.adr (givenA 0)), Sl.val ((dSp mg) listed), Sl.un, Sl.un] : List Sl) ++ (celS (cGiv mg givenA given5)))) (fun (pre1 : List (Int)) (_ : Unit) => True) () (FL.jv (FL.to D.int (([probe] : List (Int)) ++ ((iota 0 ((120 : Int)).toNat).map (fun (a4 : Int) => a4))) (fl_cat (FL.lv (FL.to D.int ([probe] : List (Int)) (fl_lst (av_cons (jv_v 3 (D.int probe)) av_nil)) rfl)) (FL.lv (LcV.fl (lc_all D.int (fun (a4 : Int) => a4) (lc_compR1 [("_law_t", 8)] (fun (a4 : Int) Δ => Δ.set 8 (.val (D.int a4))) (fun (a4 : Int) => true) (fun (a4 : Int) => (D.int a4)) jv_int (by first | decide | omega | (simp only [Dy.cutD, List.length_append, List.length_map, List.length_cons, List.length_nil, List.length_take, List.length_drop]; omega) | (simp_all; done) | (simp_all; omega)) ⟨_, fun s H C cl fp => pg_name (i := 8) sc_law.nd rfl (by first | exact Or.inl rfl | exact Or.inr rfl), fun a => gd_name 8⟩ (fun a4 m4 m4b => rfl) (fun a4 m4 m4b c4 B' s H C cl fp => (jv_v 8 (D.int a4))) rfl sc_law.nd T.b_range (ok := (show blkC ["_law_script", "_law_row_here", "_law_made", "_law_probe", "_law_instant", "_law_given", "_law_listed", "_law_rows", "_law_t", "$_law_given0", "$_law_given1", "$_law_given2"] (defScope s_law) _ [("_law_t", 8)] = true from by decide +kernel)))))) (by first | ((simp [iota]; done)) | ((simp [iota]; omega)) | decide | omega | (simp only [Dy.cutD, List.length_append, List.length_map, List.length_cons, List.length_nil, List.length_take, List.length_drop]; omega) | (simp_all; done) | (simp_all; omega))) (by simp only [List.map_append]))) ?tgt1 ?h01 ⟨.inr rfl, .inr rfl, .inr rfl, .inr rfl, .inl rfl, .inr rfl, .inr rfl, .inl rfl, .inl rfl, .inr rfl, .inr rfl, .inr rfl, trivial⟩ ?turn1 ?done1 (passes_of rfl) rfl)
        case tgt1 => exact tg_name 4 sc_law.nd
        case h01 =>
          try dsimp only
          all_goals trivial
        case turn1 =>
          rintro B pre1 av1 post1 _ e1 iv1
          try dsimp only at iv1
          refine js_cons (js_if (tv_ne (jv_inO (mt_Spans___contains T) (hr.mono (by decide)) (jv_v 4 (D.int av1)) (jv_v 6 ((dSp mg) listed)) (r_Spans___contains (by first | decide | omega | (simp only [Dy.cutD, List.length_append, List.length_map, List.length_cons, List.length_nil, List.length_take, List.length_drop]; omega) | (simp_all; done) | (simp_all; omega)))) (jv_call (fn_law_in T) (hr.mono (by decide)) (av_cons (jv_v 1 (dSpT rowhere)) (av_cons (jv_v 4 (D.int av1)) av_nil)) (r_law_in (by first | decide | omega | (simp only [Dy.cutD, List.length_append, List.length_map, List.length_cons, List.length_nil, List.length_take, List.length_drop]; omega) | (simp_all; done) | (simp_all; omega))))) (fun c3 => ?_) (fun c3 => ?_))
          ·
            refine js_cons (js_ret jv_bl ?_)
            refine congrArg (fun z => Except.ok (D.bl z)) (show true = false from ?_)
            first | rfl | (simp_all [true]; done) | (simp_all [true]; omega) | omega
          ·
            refine js_nil ?_
            refine js_nil ⟨(), ?_, ⟨.inr rfl, .inr rfl, .inr rfl, .inr rfl, .inl rfl, .inr rfl, .inr rfl, .inl rfl, .inl rfl, .inr rfl, .inr rfl, .inr rfl, trivial⟩⟩
            try dsimp only
            all_goals trivial
        case done1 =>
          rintro _ iv1
          try dsimp only at iv1
          refine js_cons (js_ret jv_bl ?_)
          refine congrArg (fun z => Except.ok (D.bl z)) (show true = true from ?_)
          first | rfl | (simp_all [true]; done) | (simp_all [true]; omega) | omega
end
def D_merged : He.DefD := ⟨("merged", none), "merged", "merged", defArgs s_merged, defBody s_merged, defScope s_merged, [], []⟩
def D_cut : He.DefD := ⟨("cut", none), "cut", "cut", defArgs s_cut, defBody s_cut, defScope s_cut, [], []⟩
def D_gaps : He.DefD := ⟨("gaps", none), "gaps", "gaps", defArgs s_gaps, defBody s_gaps, defScope s_gaps, [], []⟩
def D_common : He.DefD := ⟨("common", none), "common", "common", defArgs s_common, defBody s_common, defScope s_common, [], []⟩
def D_moved : He.DefD := ⟨("moved", none), "moved", "moved", defArgs s_moved, defBody s_moved, defScope s_moved, [], []⟩
def D_unrolled : He.DefD := ⟨("unrolled", none), "unrolled", "unrolled", defArgs s_unrolled, defBody s_unrolled, defScope s_unrolled, [], []⟩
def D_rises : He.DefD := ⟨("rises", none), "rises", "rises", defArgs s_rises, defBody s_rises, defScope s_rises, [], []⟩
def D_falls : He.DefD := ⟨("falls", none), "falls", "falls", defArgs s_falls, defBody s_falls, defScope s_falls, [], []⟩
def D_repeats_by : He.DefD := ⟨("repeats_by", none), "repeats_by", "repeats_by", defArgs s_repeats_by, defBody s_repeats_by, defScope s_repeats_by, [], []⟩
def D_lower_period : He.DefD := ⟨("lower_period", none), "lower_period", "lower_period", defArgs s_lower_period, defBody s_lower_period, defScope s_lower_period, [], []⟩
def D_last_difference : He.DefD := ⟨("last_difference", none), "last_difference", "last_difference", defArgs s_last_difference, defBody s_last_difference, defScope s_last_difference, [], []⟩
def D_least_since : He.DefD := ⟨("least_since", none), "least_since", "least_since", defArgs s_least_since, defBody s_least_since, defScope s_least_since, [], []⟩
def D_normal_form : He.DefD := ⟨("normal_form", none), "normal_form", "normal_form", defArgs s_normal_form, defBody s_normal_form, defScope s_normal_form, [], []⟩
def D_check_spans : He.DefD := ⟨("check_spans", none), "check_spans", "check_spans", defArgs s_check_spans, defBody s_check_spans, defScope s_check_spans, [], []⟩
def D_Spans___init : He.DefD := ⟨("Spans", some "__init__"), "__init__", "Spans.__init__", defArgs s_Spans___init, defBody s_Spans___init, defScope s_Spans___init, [], []⟩
def D_built : He.DefD := ⟨("built", none), "built", "built", defArgs s_built, defBody s_built, defScope s_built, [], []⟩
def D_Spans_parts : He.DefD := ⟨("Spans", some "parts"), "parts", "Spans.parts", defArgs s_Spans_parts, defBody s_Spans_parts, defScope s_Spans_parts, [], []⟩
def D_Spans___and : He.DefD := ⟨("Spans", some "__and__"), "__and__", "Spans.__and__", defArgs s_Spans___and, defBody s_Spans___and, defScope s_Spans___and, [], []⟩
def D_Spans___invert : He.DefD := ⟨("Spans", some "__invert__"), "__invert__", "Spans.__invert__", defArgs s_Spans___invert, defBody s_Spans___invert, defScope s_Spans___invert, [], []⟩
def D_Spans___sub : He.DefD := ⟨("Spans", some "__sub__"), "__sub__", "Spans.__sub__", defArgs s_Spans___sub, defBody s_Spans___sub, defScope s_Spans___sub, [], []⟩
def D_Spans___contains : He.DefD := ⟨("Spans", some "__contains__"), "__contains__", "Spans.__contains__", defArgs s_Spans___contains, defBody s_Spans___contains, defScope s_Spans___contains, [], []⟩
def D_Spans___eq : He.DefD := ⟨("Spans", some "__eq__"), "__eq__", "Spans.__eq__", defArgs s_Spans___eq, defBody s_Spans___eq, defScope s_Spans___eq, [], []⟩
def D_Spans___or : He.DefD := ⟨("Spans", some "__or__"), "__or__", "Spans.__or__", defArgs s_Spans___or, defBody s_Spans___or, defScope s_Spans___or, [], []⟩
def D_Spans_next_from : He.DefD := ⟨("Spans", some "next_from"), "next_from", "Spans.next_from", defArgs s_Spans_next_from, defBody s_Spans_next_from, defScope s_Spans_next_from, [], []⟩
def D_Spans_first : He.DefD := ⟨("Spans", some "first"), "first", "Spans.first", defArgs s_Spans_first, defBody s_Spans_first, defScope s_Spans_first, [], []⟩
def D_Spans_shifted : He.DefD := ⟨("Spans", some "shifted"), "shifted", "Spans.shifted", defArgs s_Spans_shifted, defBody s_Spans_shifted, defScope s_Spans_shifted, [], []⟩
def D_law_cell : He.DefD := ⟨("_law_cell", none), "_law_cell", "_law_cell", defArgs s_law_cell, defBody s_law_cell, defScope s_law_cell, [], []⟩
def D_law_digits : He.DefD := ⟨("_law_digits", none), "_law_digits", "_law_digits", defArgs s_law_digits, defBody s_law_digits, defScope s_law_digits, [], []⟩
def D_law_rich : He.DefD := ⟨("_law_rich", none), "_law_rich", "_law_rich", defArgs s_law_rich, defBody s_law_rich, defScope s_law_rich, [], []⟩
def D_law_row : He.DefD := ⟨("_law_row", none), "_law_row", "_law_row", defArgs s_law_row, defBody s_law_row, defScope s_law_row, [], []⟩
def D_law_description : He.DefD := ⟨("_law_description", none), "_law_description", "_law_description", defArgs s_law_description, defBody s_law_description, defScope s_law_description, [], []⟩
def D_law_in : He.DefD := ⟨("_law_in", none), "_law_in", "_law_in", defArgs s_law_in, defBody s_law_in, defScope s_law_in, [], []⟩
def D_law : He.DefD := ⟨("law", none), "law", "law", defArgs s_law, defBody s_law, defScope s_law, [], []⟩
def fnL : List He.DefD := [D_merged, D_cut, D_gaps, D_common, D_moved, D_unrolled, D_rises, D_falls, D_repeats_by, D_lower_period, D_last_difference, D_least_since, D_normal_form, D_check_spans, D_Spans___init, D_built, D_Spans_parts, D_Spans___and, D_Spans___invert, D_Spans___sub, D_Spans___contains, D_Spans___eq, D_Spans___or, D_Spans_next_from, D_Spans_first, D_Spans_shifted, D_law_cell, D_law_digits, D_law_rich, D_law_row, D_law_description, D_law_in, D_law]
def faL : List He.Fa := [.glo "merged", .glo "cut", .glo "gaps", .glo "common", .glo "moved", .glo "unrolled", .glo "rises", .glo "falls", .glo "repeats_by", .glo "lower_period", .glo "last_difference", .glo "least_since", .glo "normal_form", .glo "check_spans", .glo "Spans", .mkr "Spans", .glo "built", .meth "Spans" "parts", .meth "Spans" "__and__", .meth "Spans" "__invert__", .meth "Spans" "__sub__", .meth "Spans" "__contains__", .meth "Spans" "__eq__", .meth "Spans" "__or__", .meth "Spans" "next_from", .meth "Spans" "first", .meth "Spans" "shifted", .glo "_law_cell", .glo "_law_digits", .glo "_law_rich", .glo "_law_row", .glo "_law_description", .glo "_law_in", .glo "law", .cls "Spans", .noat "Spans" "head", .noat "Spans" "since", .noat "Spans" "period", .noat "Spans" "cycle", .glo "InvalidSpans", .exc "InvalidSpans", .free "abs", .free "int", .free "isinstance", .free "len", .free "list", .free "max", .free "min", .free "range", .free "sorted", .free "tuple"]
abbrev RwX : PySem.W.OpenRow := PySem.W.OpenLaw.row PySem.Challenge.rw_dayspread_k23_instants_of_a_span_set
def exL (K : PySem.W.Frag) : Bool := kitB K (He.ga K "Spans") (.ref (He.ga K "Spans")) true && (PySem.W.selfFirst K (He.ga K "Spans") && (isiB K (He.ga K "Spans") && (bfnB K "gcd" "math.gcd" && (bfnB K "lcm" "math.lcm" && (true)))))
abbrev hkX : PySem.W.Hook := He.hookX 5 faL fnL [] [] exL
def obX (s : PySem.W.SharedT) : He.AlX := He.obsX 5 faL fnL [] [] exL (HandSHeadRun.getT s)
theorem obX_eq (s : PySem.W.SharedT) : obX s = hkX.obs s.abs := He.obsX_eq (HandSHeadRun.getT_eq s)
def othersX : List Str := (["_wall", "__name__", "DayspreadError", "InvalidSpans", "merged", "cut", "gaps", "common", "moved", "unrolled", "rises", "falls", "repeats_by", "lower_period", "last_difference", "least_since", "normal_form", "check_spans", "built", "Spans"] : List Str) ++ (["_law_cell", "_law_digits", "_law_rich", "_law_row", "_law_description", "_law_in"] : List Str)
theorem runX (w : World) : HandSHeadRun.RunEqI RwX (PySem.W.view RwX.prog [0, 31]) hkX obX 20000 othersX w := by
  unfold HandSHeadRun.RunEqI
  kernel_rfl
theorem txtX {K : PySem.W.Frag} {h : Heap} {mg : Str → Option Value} (X : K.In h) (G : h.Ns mainGlobals mg) (c : He.SaysD faL fnL K) (hx : exL K = true) : Txt K mg where
  merged := by
    obtain ⟨fd, F⟩ := c.def_ 0 (d := D_merged) rfl
    exact ⟨_, fd, fun_ofD F, He.glo_ok X G (c.fact 0 (f := .glo "merged") rfl)⟩
  cut := by
    obtain ⟨fd, F⟩ := c.def_ 1 (d := D_cut) rfl
    exact ⟨_, fd, fun_ofD F, He.glo_ok X G (c.fact 1 (f := .glo "cut") rfl)⟩
  gaps := by
    obtain ⟨fd, F⟩ := c.def_ 2 (d := D_gaps) rfl
    exact ⟨_, fd, fun_ofD F, He.glo_ok X G (c.fact 2 (f := .glo "gaps") rfl)⟩
  common := by
    obtain ⟨fd, F⟩ := c.def_ 3 (d := D_common) rfl
    exact ⟨_, fd, fun_ofD F, He.glo_ok X G (c.fact 3 (f := .glo "common") rfl)⟩
  moved := by
    obtain ⟨fd, F⟩ := c.def_ 4 (d := D_moved) rfl
    exact ⟨_, fd, fun_ofD F, He.glo_ok X G (c.fact 4 (f := .glo "moved") rfl)⟩
  unrolled := by
    obtain ⟨fd, F⟩ := c.def_ 5 (d := D_unrolled) rfl
    exact ⟨_, fd, fun_ofD F, He.glo_ok X G (c.fact 5 (f := .glo "unrolled") rfl)⟩
  rises := by
    obtain ⟨fd, F⟩ := c.def_ 6 (d := D_rises) rfl
    exact ⟨_, fd, fun_ofD F, He.glo_ok X G (c.fact 6 (f := .glo "rises") rfl)⟩
  falls := by
    obtain ⟨fd, F⟩ := c.def_ 7 (d := D_falls) rfl
    exact ⟨_, fd, fun_ofD F, He.glo_ok X G (c.fact 7 (f := .glo "falls") rfl)⟩
  repeats_by := by
    obtain ⟨fd, F⟩ := c.def_ 8 (d := D_repeats_by) rfl
    exact ⟨_, fd, fun_ofD F, He.glo_ok X G (c.fact 8 (f := .glo "repeats_by") rfl)⟩
  lower_period := by
    obtain ⟨fd, F⟩ := c.def_ 9 (d := D_lower_period) rfl
    exact ⟨_, fd, fun_ofD F, He.glo_ok X G (c.fact 9 (f := .glo "lower_period") rfl)⟩
  last_difference := by
    obtain ⟨fd, F⟩ := c.def_ 10 (d := D_last_difference) rfl
    exact ⟨_, fd, fun_ofD F, He.glo_ok X G (c.fact 10 (f := .glo "last_difference") rfl)⟩
  least_since := by
    obtain ⟨fd, F⟩ := c.def_ 11 (d := D_least_since) rfl
    exact ⟨_, fd, fun_ofD F, He.glo_ok X G (c.fact 11 (f := .glo "least_since") rfl)⟩
  normal_form := by
    obtain ⟨fd, F⟩ := c.def_ 12 (d := D_normal_form) rfl
    exact ⟨_, fd, fun_ofD F, He.glo_ok X G (c.fact 12 (f := .glo "normal_form") rfl)⟩
  check_spans := by
    obtain ⟨fd, F⟩ := c.def_ 13 (d := D_check_spans) rfl
    exact ⟨_, fd, fun_ofD F, He.glo_ok X G (c.fact 13 (f := .glo "check_spans") rfl)⟩
  mk_Spans := by
    obtain ⟨fd, F⟩ := c.def_ 14 (d := D_Spans___init) rfl
    rw [(cAd_of (He.glo_ok X G (c.fact 14 (f := .glo "Spans") rfl)))]
    exact ⟨_, fd, He.mkr_ok (c.fact 15 (f := .mkr "Spans") rfl), F⟩
  built := by
    obtain ⟨fd, F⟩ := c.def_ 15 (d := D_built) rfl
    exact ⟨_, fd, fun_ofD F, He.glo_ok X G (c.fact 16 (f := .glo "built") rfl)⟩
  Spans_parts := by
    obtain ⟨fd, F⟩ := c.def_ 16 (d := D_Spans_parts) rfl
    rw [(cAd_of (He.glo_ok X G (c.fact 14 (f := .glo "Spans") rfl)))]
    exact ⟨_, fd, fun_ofD F, He.meth_ok (c.fact 17 (f := .meth "Spans" "parts") rfl)⟩
  Spans___and := by
    obtain ⟨fd, F⟩ := c.def_ 17 (d := D_Spans___and) rfl
    rw [(cAd_of (He.glo_ok X G (c.fact 14 (f := .glo "Spans") rfl)))]
    exact ⟨_, fd, fun_ofD F, He.meth_ok (c.fact 18 (f := .meth "Spans" "__and__") rfl)⟩
  Spans___invert := by
    obtain ⟨fd, F⟩ := c.def_ 18 (d := D_Spans___invert) rfl
    rw [(cAd_of (He.glo_ok X G (c.fact 14 (f := .glo "Spans") rfl)))]
    exact ⟨_, fd, fun_ofD F, He.meth_ok (c.fact 19 (f := .meth "Spans" "__invert__") rfl)⟩
  Spans___sub := by
    obtain ⟨fd, F⟩ := c.def_ 19 (d := D_Spans___sub) rfl
    rw [(cAd_of (He.glo_ok X G (c.fact 14 (f := .glo "Spans") rfl)))]
    exact ⟨_, fd, fun_ofD F, He.meth_ok (c.fact 20 (f := .meth "Spans" "__sub__") rfl)⟩
  Spans___contains := by
    obtain ⟨fd, F⟩ := c.def_ 20 (d := D_Spans___contains) rfl
    rw [(cAd_of (He.glo_ok X G (c.fact 14 (f := .glo "Spans") rfl)))]
    exact ⟨_, fd, fun_ofD F, He.meth_ok (c.fact 21 (f := .meth "Spans" "__contains__") rfl)⟩
  Spans___eq := by
    obtain ⟨fd, F⟩ := c.def_ 21 (d := D_Spans___eq) rfl
    rw [(cAd_of (He.glo_ok X G (c.fact 14 (f := .glo "Spans") rfl)))]
    exact ⟨_, fd, fun_ofD F, He.meth_ok (c.fact 22 (f := .meth "Spans" "__eq__") rfl)⟩
  Spans___or := by
    obtain ⟨fd, F⟩ := c.def_ 22 (d := D_Spans___or) rfl
    rw [(cAd_of (He.glo_ok X G (c.fact 14 (f := .glo "Spans") rfl)))]
    exact ⟨_, fd, fun_ofD F, He.meth_ok (c.fact 23 (f := .meth "Spans" "__or__") rfl)⟩
  Spans_next_from := by
    obtain ⟨fd, F⟩ := c.def_ 23 (d := D_Spans_next_from) rfl
    rw [(cAd_of (He.glo_ok X G (c.fact 14 (f := .glo "Spans") rfl)))]
    exact ⟨_, fd, fun_ofD F, He.meth_ok (c.fact 24 (f := .meth "Spans" "next_from") rfl)⟩
  Spans_first := by
    obtain ⟨fd, F⟩ := c.def_ 24 (d := D_Spans_first) rfl
    rw [(cAd_of (He.glo_ok X G (c.fact 14 (f := .glo "Spans") rfl)))]
    exact ⟨_, fd, fun_ofD F, He.meth_ok (c.fact 25 (f := .meth "Spans" "first") rfl)⟩
  Spans_shifted := by
    obtain ⟨fd, F⟩ := c.def_ 25 (d := D_Spans_shifted) rfl
    rw [(cAd_of (He.glo_ok X G (c.fact 14 (f := .glo "Spans") rfl)))]
    exact ⟨_, fd, fun_ofD F, He.meth_ok (c.fact 26 (f := .meth "Spans" "shifted") rfl)⟩
  law_cell := by
    obtain ⟨fd, F⟩ := c.def_ 26 (d := D_law_cell) rfl
    exact ⟨_, fd, fun_ofD F, He.glo_ok X G (c.fact 27 (f := .glo "_law_cell") rfl)⟩
  law_digits := by
    obtain ⟨fd, F⟩ := c.def_ 27 (d := D_law_digits) rfl
    exact ⟨_, fd, fun_ofD F, He.glo_ok X G (c.fact 28 (f := .glo "_law_digits") rfl)⟩
  law_rich := by
    obtain ⟨fd, F⟩ := c.def_ 28 (d := D_law_rich) rfl
    exact ⟨_, fd, fun_ofD F, He.glo_ok X G (c.fact 29 (f := .glo "_law_rich") rfl)⟩
  law_row := by
    obtain ⟨fd, F⟩ := c.def_ 29 (d := D_law_row) rfl
    exact ⟨_, fd, fun_ofD F, He.glo_ok X G (c.fact 30 (f := .glo "_law_row") rfl)⟩
  law_description := by
    obtain ⟨fd, F⟩ := c.def_ 30 (d := D_law_description) rfl
    exact ⟨_, fd, fun_ofD F, He.glo_ok X G (c.fact 31 (f := .glo "_law_description") rfl)⟩
  law_in := by
    obtain ⟨fd, F⟩ := c.def_ 31 (d := D_law_in) rfl
    exact ⟨_, fd, fun_ofD F, He.glo_ok X G (c.fact 32 (f := .glo "_law_in") rfl)⟩
  law := by
    obtain ⟨fd, F⟩ := c.def_ 32 (d := D_law) rfl
    exact ⟨_, fd, fun_ofD F, He.glo_ok X G (c.fact 33 (f := .glo "law") rfl)⟩
  gl_Spans := by rw [(cAd_of (He.glo_ok X G (c.fact 14 (f := .glo "Spans") rfl)))]; exact He.glo_ok X G (c.fact 14 (f := .glo "Spans") rfl)
  cl_Spans := by rw [(cAd_of (He.glo_ok X G (c.fact 14 (f := .glo "Spans") rfl)))]; exact He.cls_ok (c.fact 34 (f := .cls "Spans") rfl)
  na_Spans_head := by rw [(cAd_of (He.glo_ok X G (c.fact 14 (f := .glo "Spans") rfl)))]; exact He.noat_ok (c.fact 35 (f := .noat "Spans" "head") rfl)
  na_Spans_since := by rw [(cAd_of (He.glo_ok X G (c.fact 14 (f := .glo "Spans") rfl)))]; exact He.noat_ok (c.fact 36 (f := .noat "Spans" "since") rfl)
  na_Spans_period := by rw [(cAd_of (He.glo_ok X G (c.fact 14 (f := .glo "Spans") rfl)))]; exact He.noat_ok (c.fact 37 (f := .noat "Spans" "period") rfl)
  na_Spans_cycle := by rw [(cAd_of (He.glo_ok X G (c.fact 14 (f := .glo "Spans") rfl)))]; exact He.noat_ok (c.fact 38 (f := .noat "Spans" "cycle") rfl)
  x_InvalidSpans := by
    rw [(cAd_of (He.glo_ok X G (c.fact 39 (f := .glo "InvalidSpans") rfl)))]
    obtain ⟨e1, e2, e3, e4⟩ := He.exc_ok (c.fact 40 (f := .exc "InvalidSpans") rfl)
    exact ⟨e1, He.glo_ok X G (c.fact 39 (f := .glo "InvalidSpans") rfl), e2, e3, e4⟩
  ki_Spans_Spans := by rw [(cAd_of (He.glo_ok X G (c.fact 14 (f := .glo "Spans") rfl)))]; exact kitB_ok ((Bool.and_eq_true_iff.mp hx).1)
  sf_Spans := by rw [(cAd_of (He.glo_ok X G (c.fact 14 (f := .glo "Spans") rfl)))]; exact (Bool.and_eq_true_iff.mp (Bool.and_eq_true_iff.mp hx).2).1
  is_Spans := by rw [(cAd_of (He.glo_ok X G (c.fact 14 (f := .glo "Spans") rfl)))]; exact isiB_ok (He.cls_ok (c.fact 34 (f := .cls "Spans") rfl)) (Bool.and_eq_true_iff.mp (Bool.and_eq_true_iff.mp (Bool.and_eq_true_iff.mp hx).2).2).1
  f_gcd := bfn_ok X G (Bool.and_eq_true_iff.mp (Bool.and_eq_true_iff.mp (Bool.and_eq_true_iff.mp (Bool.and_eq_true_iff.mp hx).2).2).2).1
  f_lcm := bfn_ok X G (Bool.and_eq_true_iff.mp (Bool.and_eq_true_iff.mp (Bool.and_eq_true_iff.mp (Bool.and_eq_true_iff.mp (Bool.and_eq_true_iff.mp hx).2).2).2).2).1
  b_abs := He.free_ok X G (c.fact 41 (f := .free "abs") rfl)
  b_int := He.free_ok X G (c.fact 42 (f := .free "int") rfl)
  b_isinstance := He.free_ok X G (c.fact 43 (f := .free "isinstance") rfl)
  b_len := He.free_ok X G (c.fact 44 (f := .free "len") rfl)
  b_list := He.free_ok X G (c.fact 45 (f := .free "list") rfl)
  b_max := He.free_ok X G (c.fact 46 (f := .free "max") rfl)
  b_min := He.free_ok X G (c.fact 47 (f := .free "min") rfl)
  b_range := He.free_ok X G (c.fact 48 (f := .free "range") rfl)
  b_sorted := He.free_ok X G (c.fact 49 (f := .free "sorted") rfl)
  b_tuple := He.free_ok X G (c.fact 50 (f := .free "tuple") rfl)
theorem atX {P : Program} {w : World} {K : PySem.W.Frag} {h : Heap} {mg : Str → Option Value} {f : Addr} (X : K.In h) (G : h.Ns mainGlobals mg) (hfa : mg ("law" : Str) = some (.ref f)) (c : He.SaysD faL fnL K) (hx : exL K = true) :
    ∃ fd : FuncData, (∀ (s : Shared) (v : Value), BindsTo s fd ⟨[v], []⟩ [("_law_script", v)]) ∧ ∀ base : Heap, K.In base → base.Ns mainGlobals mg → FnOk P w K mg base (L2.CX P w) 8 f fd ["_law_script"] (spR K R_law) := by
  obtain ⟨fd, F⟩ := c.def_ 32 (d := D_law) rfl
  have e := hfa.symm.trans (He.glo_ok X G (c.fact 33 (f := .glo "law") rfl))
  cases e
  have b := FunD.bindsA (ps := ["_law_script"]) F fun _ _ _ _ _ _ us hl => match us, hl with | [_], _ => rfl
  exact ⟨fd, fun s v => b s [v] rfl, fun base _ _ => ok_law (txtX X G c hx) (fun_ofD F)⟩
end My
open PySem PySem.W PySem.Calls PyProof.Rows
set_option maxHeartbeats 0 in
theorem PySem.Challenge.cw_dayspread_k23_instants_of_a_span_set_holds : PySem.Challenge.rw_dayspread_k23_instants_of_a_span_set.Holds := by
  w_on; o_law
  refine HandSHeadRun.head_imp (r := OpenLaw.row PySem.Challenge.rw_dayspread_k23_instants_of_a_span_set) (q := view (OpenLaw.row PySem.Challenge.rw_dayspread_k23_instants_of_a_span_set).prog [0, 31]) (H := My.hkX) (ob := My.obX) (M := 20000) (loose := My.othersX) (d := HandSHeadRun.topDef (OpenLaw.row PySem.Challenge.rw_dayspread_k23_instants_of_a_span_set).prog 31) (kwd := []) My.obX_eq
    My.runX (by kernel_rfl) (by kernel_rfl) (by kernel_rfl) (by rfl) (by first | assumption | decide +kernel) (by decide +kernel) ⟨rfl, rfl, rfl, rfl, rfl, by decide +kernel⟩ ?hw ?hc
  case hw => w_witness2
  case hc =>
    refine Dy.law_end (l := PySem.Challenge.rw_dayspread_k23_instants_of_a_span_set) (k := 8) (x := "_law_script") (R := fun _ => My.R_law) rfl (by kernel_rfl) ⟨rfl, by decide, by decide⟩ ?F
    intro w mg fa h Y G hmg0
    obtain ⟨K, KX, c⟩ := Y
    have hmg : mg ("law" : PySem.Str) = some (.ref fa) := by
      have e : (HandSHeadRun.topDef (OpenLaw.row PySem.Challenge.rw_dayspread_k23_instants_of_a_span_set).prog 31).name = ("law" : PySem.Str) := by kernel_rfl
      rw [← e]
      exact hmg0
    obtain ⟨fd, hb, hF⟩ := My.atX (P := (PySem.Challenge.rw_dayspread_k23_instants_of_a_span_set).prog) (w := w) KX G hmg c.t.d c.more
    exact ⟨K, fd, KX, hb, fun ns hl => My.r_law hl, hF⟩
