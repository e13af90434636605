/- The law FnExactDrainChain of this seat holds for every input, by a small machine whose steps are proved against the model, and by plain functions printed for it. No condition. -/
import Derived.Test.YtcjakndaogdbiaaMA
import Derived.Test.YtcjakndaogdbiaaMB
import Derived.Test.YtcjakndaogdbiaaMC
import Derived.Test.YtcjakndaogdbiaaMD
import Derived.Test.YtcjakndaogdbiaaRows
import Derived.WalkKit
import Derived.ProofKit
import Derived.OpenShut
import Derived.ShutString
import Derived.ChangeOld
import Derived.Carry
import Derived.SizedLaws
set_option linter.unusedVariables false
set_option linter.unusedSimpArgs false
section
/- Draining a chain: both sides do the same. -/
namespace Go.Vm
theorem getD_lt {α : Type} {xs : List α} {i : Nat} {d : α} (h : i < xs.length) : xs.getD i d = xs[i] := by simp [h]
theorem nth_set (ls : List implLink) (i j : Nat) (x : implLink) : nth (ls.set i x) j = if i = j ∧ i < ls.length then x else nth ls j := by
  unfold nth
  simp only [List.getD_eq_getElem?_getD, List.getElem?_set]
  by_cases h : i = j
  · subst h
    by_cases h2 : i < ls.length
    · simp [h2]
    · simp [h2]
  · simp [h]
theorem set_nth {ls : List implLink} {k : Nat} : ls.set k (nth ls k) = ls := by
  apply List.ext_getElem? ; intro j
  rw [List.getElem?_set]
  by_cases h : k = j
  · subst h
    by_cases h2 : k < ls.length
    · simp [h2, nth]
    · simp [h2]
  · simp [h]
def LOK (l : implLink) : Prop := l.Log.length ≤ 40 ∧ short20 l.Log
structure Inv (n : Nat) (ls : List implLink) : Prop where
  len : ls.length = n
  ok : ∀ k, k < n → LOK (nth ls k)
  sent : (nth ls (n - 1)).Sent = 0
  sure : (nth ls (n - 1)).Sure = ((nth ls (n - 1)).Log.length : Int)
theorem Good.inv {ls : List implLink} (h : Good ls) : Inv ls.length ls := by
  have h3 := (h.2.2 (ls.length - 1) (by have := h.1; omega)).2.2.1 (by have := h.1; omega)
  exact ⟨rfl, fun k hk => ⟨(h.2.2 k hk).1, (h.2.2 k hk).2.1⟩, h3.1, h3.2⟩
/-! Owned copies. -/
theorem own_i_l1 : ∀ (ys : List implLink) (D : List implLink) (k : Nat), D.length + ys.length ≤ 1048576 → (∀ l ∈ ys, l.Log.length ≤ 1048576) → i_ownChain.l1 ys k D = some (D ++ ys)
  | [], D, k, h, hl => by simp [i_ownChain.l1]
  | y :: ys, D, k, h, hl => by
    simp only [List.length_cons] at h
    have h0 := hl y (by simp)
    rw [i_ownChain.l1]
    unfold slices_Clone_string
    rw [bind_eq (appB_eq (by simp; omega)), bind_eq (appB_eq (by simp; omega))]
    have := own_i_l1 ys (D ++ [y]) (k + 1) (by simp; omega) (fun l hl' => hl l (by simp [hl']))
    simpa using this
theorem own_i (c : implChain) (h : c.Links.length ≤ 1048576) (hl : ∀ l ∈ c.Links, l.Log.length ≤ 1048576) : i_ownChain c = some c := by
  unfold i_ownChain
  rw [bind_eq (guard_true (by omega)), bind_eq (own_i_l1 c.Links [] 0 (by simpa using h) hl)]; rfl
theorem own_s_l1 : ∀ (ys : List implLink) (D : List implLink) (k : Nat), D.length + ys.length ≤ 1048576 → (∀ l ∈ ys, l.Log.length ≤ 1048576) → s_l15Own.l1 ys k D = some (D ++ ys)
  | [], D, k, h, hl => by simp [s_l15Own.l1]
  | y :: ys, D, k, h, hl => by
    simp only [List.length_cons] at h
    have h0 := hl y (by simp)
    rw [s_l15Own.l1]
    rw [bind_eq (appB_eq (by simp; omega)), bind_eq (appB_eq (by simp; omega))]
    have := own_s_l1 ys (D ++ [y]) (k + 1) (by simp; omega) (fun l hl' => hl l (by simp [hl']))
    simpa using this
theorem own_s (c : implChain) (h : c.Links.length ≤ 1048576) (hl : ∀ l ∈ c.Links, l.Log.length ≤ 1048576) : s_l15Own c = some c := by
  unfold s_l15Own
  rw [bind_eq (guard_true (by omega)), bind_eq (own_s_l1 c.Links [] 0 (by simpa using h) hl)]; rfl
/-! The tail. -/
def tailFix (ls : List implLink) : List implLink := ls.set (ls.length - 1) ⟨(nth ls (ls.length - 1)).Log, 0, ((nth ls (ls.length - 1)).Log.length : Int)⟩
theorem ck_last {n : Nat} (h1 : 1 ≤ n) (h : n ≤ 1048576) : ckK .i64 ((n : Int) - 1) = some ((n - 1 : Nat) : Int) := by
  rw [ck64 (by omega) (by omega)]; congr 1; omega
theorem tail_i (ls : List implLink) (h1 : 1 ≤ ls.length) (h : ls.length ≤ 1048576) : i_Chain_sureTail ⟨ls⟩ = some (tailFix ls) := by
  unfold i_Chain_sureTail
  rw [bind_eq (ck_last h1 h), bind_eq (ix_nth (by show _ < ls.length; omega))]
  simp [setN, tailFix]
theorem tail_s (ls : List implLink) (h1 : 1 ≤ ls.length) (h : ls.length ≤ 1048576) : s_l15Tail_al ⟨ls⟩ = some ⟨tailFix ls⟩ := by
  unfold s_l15Tail_al
  rw [bind_eq (ck_last h1 h), bind_eq (ix_nth (by show _ < ls.length; omega))]
  rw [show setN ls ((ls.length - 1 : Nat) : Int).toNat (implLink.mk (nth ls (ls.length - 1)).Log 0 (nth ls (ls.length - 1)).Sure) = some (ls.set (ls.length - 1) (implLink.mk (nth ls (ls.length - 1)).Log 0 (nth ls (ls.length - 1)).Sure)) from rfl]
  rw [Option.bind_some, bind_eq (ix_nth (by simp; omega)), nth_set, if_pos ⟨rfl, by omega⟩]
  simp [setN, tailFix]
theorem tailFix_id {ls : List implLink} (h : Inv ls.length ls) : tailFix ls = ls := by
  unfold tailFix
  have e : (⟨(nth ls (ls.length - 1)).Log, 0, ((nth ls (ls.length - 1)).Log.length : Int)⟩ : implLink) = nth ls (ls.length - 1) := by
    have h1 := h.sent; have h2 := h.sure
    cases hx : nth ls (ls.length - 1); rw [hx] at h1 h2; simp only at h1 h2; subst h1; subst h2; rfl
  rw [e, set_nth]
theorem tailFix_len (ls : List implLink) : (tailFix ls).length = ls.length := by unfold tailFix; simp
theorem tailFix_log (ls : List implLink) (j : Nat) : (nth (tailFix ls) j).Log = (nth ls j).Log := by
  unfold tailFix; rw [nth_set]; split
  · rename_i h; rw [← h.1]
  · rfl
theorem tailFix_inv {n : Nat} {ls : List implLink} (h1 : 1 ≤ n) (hn : ls.length = n) (h : ∀ k, k < n → LOK (nth ls k)) : Inv n (tailFix ls) := by
  subst hn
  have e : nth (tailFix ls) (ls.length - 1) = ⟨(nth ls (ls.length - 1)).Log, 0, ((nth ls (ls.length - 1)).Log.length : Int)⟩ := by
    unfold tailFix; rw [nth_set, if_pos ⟨rfl, by omega⟩]
  exact ⟨tailFix_len ls, fun k hk => by unfold LOK; rw [tailFix_log]; exact h k hk, by rw [e], by rw [e]⟩
/-! One entry passed on. -/
def midLs (ls : List implLink) (k : Nat) : List implLink :=
  (ls.set (k + 1) ⟨(nth ls (k + 1)).Log ++ [(nth ls k).Log.getD (nth ls (k + 1)).Log.length []], (nth ls (k + 1)).Sent, (nth ls (k + 1)).Sure⟩).set k
    ⟨(nth ls k).Log, ((nth ls (k + 1)).Log.length : Int) + 1, (nth ls k).Sure⟩
def passLs (ls : List implLink) (k : Nat) : List implLink := tailFix (midLs ls k)
theorem midLs_len (ls : List implLink) (k : Nat) : (midLs ls k).length = ls.length := by unfold midLs; simp
theorem midLs_nth {ls : List implLink} {k : Nat} (hk : k + 1 < ls.length) (j : Nat) : nth (midLs ls k) j =
    if k = j then ⟨(nth ls k).Log, ((nth ls (k + 1)).Log.length : Int) + 1, (nth ls k).Sure⟩ else
    if k + 1 = j then ⟨(nth ls (k + 1)).Log ++ [(nth ls k).Log.getD (nth ls (k + 1)).Log.length []], (nth ls (k + 1)).Sent, (nth ls (k + 1)).Sure⟩ else nth ls j := by
  unfold midLs
  rw [nth_set, nth_set]
  simp only [List.length_set]
  simp only [show k < ls.length by omega, hk, and_true]
theorem pass_inv {n : Nat} {ls : List implLink} (h : Inv n ls) {k : Nat} (hk : k + 1 < n) (hlt : (nth ls (k + 1)).Log.length < (nth ls k).Log.length) : Inv n (passLs ls k) := by
  have hl := h.len
  refine tailFix_inv (by omega) (by rw [midLs_len]; exact hl) fun j hj => ?_
  rw [midLs_nth (by omega)]
  have h1 := h.ok k (by omega)
  split
  · exact h1
  · split
    · rename_i e1 e2
      subst e2
      have h2 := h.ok (k + 1) hk
      refine ⟨?_, fun t ht => ?_⟩
      · simp only [List.length_append, List.length_cons, List.length_nil]; have := h1.1; omega
      · simp only [List.mem_append, List.mem_singleton] at ht
        rcases ht with ht | ht
        · exact h2.2 t ht
        · rw [ht, getD_lt hlt]; exact h1.2 _ (List.getElem_mem _)
    · exact h.ok j hj
theorem pass_i {n : Nat} {ls : List implLink} (h : Inv n ls) (h6 : n ≤ 6) {k : Nat} (hk : k < n) :
    i_Chain_pass ⟨ls⟩ (k : Int) = some (if k + 1 < n ∧ (nth ls (k + 1)).Log.length < (nth ls k).Log.length then (true, passLs ls k) else (false, ls)) := by
  have hl := h.len
  unfold i_Chain_pass
  simp only []
  rw [bind_eq (ck64 (by omega) (by omega))]
  obtain ⟨r, e1, e2⟩ := within_eq (k : Int) 0 ((ls.length : Int) - 2)
  rw [bind_eq e1]
  by_cases hc : k + 1 < n
  case neg => rw [if_neg (fun h => by have := e2.mp h; omega), if_neg (fun h => hc h.1)]
  rw [if_pos (e2.mpr ⟨by omega, by omega⟩), bind_eq (ix_nth (by omega)), bind_eq (ck_succ (by omega)), bind_eq (ix_nth (by omega))]
  by_cases hlt : (nth ls (k + 1)).Log.length < (nth ls k).Log.length
  case neg => rw [if_pos (by omega), if_neg (fun h => hlt h.2)]
  have h40 := (h.ok k hk).1
  rw [if_neg (by omega), if_pos ⟨hc, hlt⟩]
  have hx : ix (nth ls k).Log ((nth ls (k + 1)).Log.length : Int) = some ((nth ls k).Log.getD (nth ls (k + 1)).Log.length []) := by
    rw [ix_get hlt, getD_lt hlt]
  rw [bind_eq hx, bind_eq (appB_eq (by simp; omega))]
  simp only [setN, Option.bind_some, Int.toNat_natCast]
  have hs : ∀ y : implLink, (ls.set (k + 1) y)[k]? = some (nth ls k) := fun y => by
    rw [List.getElem?_set, if_neg (by omega), List.getElem?_eq_getElem (by omega), nth_get]
  rw [hs, Option.bind_some]
  have e3 : (((nth ls (k + 1)).Log ++ [(nth ls k).Log.getD (nth ls (k + 1)).Log.length []]).length : Int) = ((nth ls (k + 1)).Log.length : Int) + 1 := by simp
  rw [e3]
  have e4 : ((ls.set (k + 1) ⟨(nth ls (k + 1)).Log ++ [(nth ls k).Log.getD (nth ls (k + 1)).Log.length []], (nth ls (k + 1)).Sent, (nth ls (k + 1)).Sure⟩).set k
    ⟨(nth ls k).Log, ((nth ls (k + 1)).Log.length : Int) + 1, (nth ls k).Sure⟩) = midLs ls k := rfl
  rw [e4, midLs_len, bind_eq (ck_last (by omega) (by omega))]
  by_cases hq : k + 1 = n - 1
  · rw [if_pos (by omega), bind_eq (tail_i _ (by rw [midLs_len]; omega) (by rw [midLs_len]; omega))]; rfl
  · rw [if_neg (by omega)]
    unfold passLs
    have hm : Inv (midLs ls k).length (midLs ls k) := by
      have hp := pass_inv h hc hlt
      rw [midLs_len, hl]
      have e : nth (midLs ls k) (n - 1) = nth ls (n - 1) := by rw [midLs_nth (by omega), if_neg (by omega), if_neg (by omega)]
      refine ⟨by rw [midLs_len, hl], fun j hj => ?_, by rw [e]; exact h.sent, by rw [e]; exact h.sure⟩
      have := hp.ok j hj
      unfold LOK passLs at this
      rw [tailFix_log] at this; exact this
    rw [tailFix_id hm]
theorem setN_nat {α : Type} (xs : List α) (k : Nat) (x : α) : setN xs ((k : Int).toNat) x = some (xs.set k x) := by rw [Int.toNat_natCast]; rfl
theorem pass_s {n : Nat} {ls : List implLink} (h : Inv n ls) (h6 : n ≤ 6) {k : Nat} (hk : k + 1 < n) :
    s_l15Step_al ⟨ls⟩ ⟨2, (k : Int), []⟩ = some (if k + 1 < n ∧ (nth ls (k + 1)).Log.length < (nth ls k).Log.length then (⟨passLs ls k⟩, true) else (⟨ls⟩, false)) := by
  have hl := h.len
  unfold s_l15Step_al
  dsimp only
  rw [if_neg (show ¬ (2 : Int) = 1 by decide), if_neg (show ¬ (2 : Int) = 5 by decide), bind_eq (ck_last (by omega) (by omega))]
  obtain ⟨r, e1, e2⟩ := l1In_eq (k : Int) 0 ((ls.length - 1 : Nat) : Int)
  rw [bind_eq e1, if_pos (e2.mpr ⟨by omega, by omega⟩), if_pos rfl, if_neg (by omega), bind_eq (ck_succ (by omega)), bind_eq (ix_nth (by omega)), bind_eq (ix_nth (by omega))]
  unfold s_l15Step_al.j2
  by_cases hlt : (nth ls (k + 1)).Log.length < (nth ls k).Log.length
  case neg => rw [if_pos (by simp; omega), if_neg (fun h => hlt h.2)]
  have h40 := (h.ok k (by omega)).1
  rw [if_neg (by simp; omega), if_pos ⟨hk, hlt⟩]
  have hx : ix (nth ls k).Log ((nth ls (k + 1)).Log.length : Int) = some ((nth ls k).Log.getD (nth ls (k + 1)).Log.length []) := by
    rw [ix_get hlt, getD_lt hlt]
  simp only []
  rw [bind_eq (ck_succ (by omega)), bind_eq (ix_nth (by omega)), bind_eq (ix_nth (by omega)), bind_eq hx, bind_eq (appB_eq (by simp; omega))]
  rw [bind_eq (setN_nat ls (k + 1) _), bind_eq (ck64 (by omega) (by omega)), bind_eq (ix_nth (by simp; omega)), nth_set, if_neg (by omega), bind_eq (setN_nat _ k _)]
  have e4 : ((ls.set (k + 1) ⟨(nth ls (k + 1)).Log ++ [(nth ls k).Log.getD (nth ls (k + 1)).Log.length []], (nth ls (k + 1)).Sent, (nth ls (k + 1)).Sure⟩).set k
    ⟨(nth ls k).Log, ((nth ls (k + 1)).Log.length : Int) + 1, (nth ls k).Sure⟩) = midLs ls k := rfl
  rw [e4, bind_eq (tail_s _ (by rw [midLs_len]; omega) (by rw [midLs_len]; omega))]; rfl
end Go.Vm
end
section
/- Marks: what is written into a chain, and read again. -/
set_option maxRecDepth 20000
namespace Go.Vm
theorem wrap_u8 {n : Int} (h0 : 0 ≤ n) (h1 : n < 256) : IntKind.wrap .u8 n = n := by
  simp only [IntKind.wrap, IntKind.signed, IntKind.bits]
  simp
  omega
theorem b2s_one {n : Int} (h0 : 0 ≤ n) (h1 : n < 256) : b2sI [n] = some [UInt8.ofNat n.toNat] := by
  unfold b2sI; rw [if_pos (by simp; omega)]; rfl
theorem markText_l1 : ∀ (n : Nat) (k : Nat) (acc : List UInt8), n < k → (acc.length : Int) + n ≤ 1000000000 → ∃ s, l_markText.l1 k (n : Int) acc = some s ∧ s.length ≤ acc.length + n := by
  intro n
  induction n using Nat.strongRecOn with
  | _ n ih =>
    intro k acc hk hl
    obtain ⟨k, rfl⟩ : ∃ j, k = j + 1 := ⟨k - 1, by omega⟩
    rw [l_markText.l1]
    by_cases hn : 0 < (n : Int)
    · rw [if_pos hn]
      have h1 : remK (n : Int) 10 = some ((n : Int) % 10) := by unfold remK; rw [if_pos ⟨by omega, by omega⟩]
      have h2 : ckK .i64 (48 + (n : Int) % 10) = some (48 + (n : Int) % 10) := ck64 (by omega) (by omega)
      have h3 : quoK .i64 (n : Int) 10 = some (((n / 10 : Nat)) : Int) := by
        unfold quoK; rw [if_pos ⟨by omega, by omega⟩, ck64 (by omega) (by omega)]; rfl
      rw [bind_eq h1, bind_eq h2, wrap_u8 (by omega) (by omega), bind_eq (b2s_one (by omega) (by omega))]
      have h4 : catS [UInt8.ofNat (48 + (n : Int) % 10).toNat] acc = some ([UInt8.ofNat (48 + (n : Int) % 10).toNat] ++ acc) := by
        unfold catS; rw [if_pos (by simp; omega)]
      rw [bind_eq h4, bind_eq h3]
      obtain ⟨s, e1, e2⟩ := ih (n / 10) (by omega) k ([UInt8.ofNat (48 + (n : Int) % 10).toNat] ++ acc) (by omega) (by simp; omega)
      refine ⟨s, e1, ?_⟩
      simp at e2; omega
    · rw [if_neg hn]
      exact ⟨acc, rfl, by omega⟩
theorem markText (n : Int) (h1 : n ≤ 100000000) : ∃ s, l_markText n = some s := by
  unfold l_markText
  by_cases h : n ≤ 0
  · rw [if_pos h]; exact ⟨_, rfl⟩
  · rw [if_neg h]
    obtain ⟨s, e1, e2⟩ := markText_l1 n.toNat big [] (by unfold big; omega) (by simp; omega)
    rw [show ((n.toNat : Nat) : Int) = n by omega] at e1
    rw [bind_eq e1]
    have h4 : catS [109] s = some ([109] ++ s) := by
      unfold catS; rw [if_pos (by simp at e2 ⊢; omega)]
    rw [bind_eq h4]; exact ⟨_, rfl⟩
/-- The text of a mark. -/
def mt (n : Int) : List UInt8 := (l_markText n).getD []
theorem mt_eq {n : Int} (h1 : n ≤ 100000000) : l_markText n = some (mt n) := by
  obtain ⟨s, e⟩ := markText n h1
  unfold mt; rw [e]; rfl
def markS : Nat → Int → List (List UInt8)
  | 0, _ => []
  | n + 1, x => mt x :: markS n (x + 1)
theorem markS_length : ∀ (n : Nat) (x : Int), (markS n x).length = n
  | 0, _ => rfl
  | n + 1, x => by simp [markS, markS_length n]
theorem ck_add {x : Int} (h0 : -1 ≤ x) (h1 : x ≤ 100000000) : ckK .i64 (x + 1) = some (x + 1) := ck64 (by omega) (by omega)
theorem markStringS_l1 (R : List (List UInt8)) : ∀ (D : List (List UInt8)) (x : Int) (k : Nat), (D.length : Int) + R.length ≤ 10000000 → 0 ≤ x → x + R.length ≤ 100000000 → R.length < k →
    l_markStringS.l1 k (D ++ R) x (D.length : Int) = some (D ++ markS R.length x, x + R.length) := by
  induction R with
  | nil =>
    intro D x k hl h0 h1 hk
    obtain ⟨k, rfl⟩ : ∃ j, k = j + 1 := ⟨k - 1, by omega⟩
    rw [l_markStringS.l1, if_neg (by simp)]; simp [markS]
  | cons r R ih =>
    intro D x k hl h0 h1 hk
    simp only [List.length_cons] at hl h1 hk
    obtain ⟨k, rfl⟩ : ∃ j, k = j + 1 := ⟨k - 1, by omega⟩
    rw [l_markStringS.l1, if_pos (by simp; omega), bind_eq (mt_eq (by omega)), bind_eq (ix_mid D R r), bind_eq (setN_mid D R r (mt x)), bind_eq (ck_add (by omega) (by omega)), bind_eq (ck_succ (by omega))]
    have := ih (D ++ [mt x]) (x + 1) k (by simp; omega) (by omega) (by omega) (by omega)
    rw [show ((D ++ [mt x]).length : Int) = ((D.length + 1 : Nat) : Int) by simp, List.append_assoc] at this
    refine Eq.trans this ?_
    simp only [List.append_assoc, List.length_cons, markS, Option.some.injEq, Prod.mk.injEq]
    exact ⟨rfl, by omega⟩
theorem markStringS (R : List (List UInt8)) (x : Int) (hl : R.length ≤ 10000000) (h0 : 0 ≤ x) (h1 : x + R.length ≤ 100000000) : l_markStringS R x = some (x + R.length, markS R.length x) := by
  unfold l_markStringS
  have := markStringS_l1 R [] x big (by simp; omega) h0 h1 (by unfold big; omega)
  rw [bind_eq (show l_markStringS.l1 big R x 0 = some _ from this)]
  rfl
theorem heldStringS_l1 (xs : List (List UInt8)) (hx : xs.length ≤ 10000000) : ∀ (n : Nat) (D : List (List UInt8)) (x : Int) (k : Nat), xs = D ++ markS n x → 0 ≤ x → x + n ≤ 100000000 → n < k →
    l_heldStringS.l1 xs k x (D.length : Int) = some (.inr (x + n))
  | 0, D, x, k, e, h0, h1, hk => by
    obtain ⟨k, rfl⟩ : ∃ j, k = j + 1 := ⟨k - 1, by omega⟩
    rw [l_heldStringS.l1, if_neg (by rw [e]; simp [markS])]; simp
  | n + 1, D, x, k, e, h0, h1, hk => by
    obtain ⟨k, rfl⟩ : ∃ j, k = j + 1 := ⟨k - 1, by omega⟩
    have hl : xs.length = D.length + (n + 1) := by rw [e]; simp [markS_length]
    rw [l_heldStringS.l1, if_pos (by omega)]
    have h3 : ix xs (D.length : Int) = some (mt x) := by rw [e]; exact ix_mid D _ (mt x)
    rw [bind_eq h3, bind_eq (mt_eq (by omega)), if_pos rfl, bind_eq (ck_add (by omega) (by omega)), bind_eq (ck_succ (by omega))]
    have := heldStringS_l1 xs hx n (D ++ [mt x]) (x + 1) k (by rw [e]; simp [markS]) (by omega) (by omega) (by omega)
    rw [show ((D ++ [mt x]).length : Int) = ((D.length + 1 : Nat) : Int) by simp] at this
    rw [this]
    simp only [Option.some.injEq, Sum.inr.injEq]; omega
theorem heldStringS (n : Nat) (x : Int) (hn : n ≤ 10000000) (h0 : 0 ≤ x) (h1 : x + n ≤ 100000000) : l_heldStringS (markS n x) x = some (x + n) := by
  unfold l_heldStringS
  have := heldStringS_l1 (markS n x) (by rw [markS_length]; exact hn) n [] x big rfl h0 h1 (by unfold big; omega)
  rw [bind_eq (show l_heldStringS.l1 (markS n x) big x 0 = some _ from this)]
  rfl
def markL : List implLink → Int → List implLink
  | [], _ => []
  | l :: ls, x => ⟨markS l.Log.length x, x + l.Log.length, x + l.Log.length + 1⟩ :: markL ls (x + l.Log.length + 2)
def cntL : List implLink → Int
  | [] => 0
  | l :: ls => l.Log.length + 2 + cntL ls
theorem cntL_nonneg : ∀ ls : List implLink, 0 ≤ cntL ls
  | [] => Int.le_refl 0
  | l :: ls => by have := cntL_nonneg ls; simp only [cntL]; omega
theorem markL_length : ∀ (ls : List implLink) (x : Int), (markL ls x).length = ls.length
  | [], _ => rfl
  | l :: ls, x => by simp [markL, markL_length ls]
theorem markLinkS_l1 (R : List implLink) : ∀ (D : List implLink) (x : Int) (k : Nat), (D.length : Int) + R.length ≤ 10000000 → (∀ l ∈ R, l.Log.length ≤ 10000000) → 0 ≤ x → x + cntL R ≤ 90000000 → R.length < k →
    l_markLinkS.l1 k (D ++ R) x (D.length : Int) = some (D ++ markL R x, x + cntL R) := by
  induction R with
  | nil =>
    intro D x k hl hs h0 h1 hk
    obtain ⟨k, rfl⟩ : ∃ j, k = j + 1 := ⟨k - 1, by omega⟩
    rw [l_markLinkS.l1, if_neg (by simp)]; simp [markL, cntL]
  | cons r R ih =>
    intro D x k hl hs h0 h1 hk
    simp only [List.length_cons] at hl hk
    simp only [cntL] at h1
    have hr := hs r (by simp)
    have hc := cntL_nonneg R
    obtain ⟨k, rfl⟩ : ∃ j, k = j + 1 := ⟨k - 1, by omega⟩
    have m1 := markStringS r.Log x hr h0 (by omega)
    rw [l_markLinkS.l1, if_pos (by simp; omega), bind_eq (ix_mid D R r), bind_eq m1, bind_eq (setN_mid D R r _), bind_eq (ix_mid D R _), bind_eq (setN_mid D R _ _), bind_eq (ck_add (by omega) (by omega)),
      bind_eq (ix_mid D R _), bind_eq (setN_mid D R _ _), bind_eq (ck_add (by omega) (by omega)), bind_eq (ck_succ (by omega))]
    have := ih (D ++ [⟨markS r.Log.length x, x + r.Log.length, x + r.Log.length + 1⟩]) (x + r.Log.length + 1 + 1) k (by simp; omega) (fun l h => hs l (List.mem_cons_of_mem _ h)) (by omega) (by omega) (by omega)
    rw [show ((D ++ [(⟨markS r.Log.length x, x + r.Log.length, x + r.Log.length + 1⟩ : implLink)]).length : Int) = ((D.length + 1 : Nat) : Int) by simp, List.append_assoc] at this
    have e : x + (r.Log.length : Int) + 1 + 1 = x + r.Log.length + 2 := by omega
    rw [e] at this ⊢
    refine Eq.trans this ?_
    simp only [markL, cntL, List.append_assoc, Option.some.injEq, Prod.mk.injEq]
    exact ⟨rfl, by omega⟩
theorem markChain (c : implChain) (x : Int) (hl : c.Links.length ≤ 10000000) (hs : ∀ l ∈ c.Links, l.Log.length ≤ 10000000) (h0 : 0 ≤ x) (h1 : x + cntL c.Links ≤ 90000000) :
    l_markChain c x = some (x + cntL c.Links, markL c.Links x) := by
  have key : l_markLinkS c.Links x = some (x + cntL c.Links, markL c.Links x) := by
    unfold l_markLinkS
    have := markLinkS_l1 c.Links [] x big (by simp; omega) hs h0 h1 (by unfold big; omega)
    rw [bind_eq (show l_markLinkS.l1 big c.Links x 0 = some _ from this)]
    rfl
  unfold l_markChain
  rw [bind_eq key]
theorem heldLinkS_l1 (xs : List implLink) (hx : xs.length ≤ 10000000) : ∀ (R D : List implLink) (x : Int) (k : Nat), xs = D ++ markL R x → (∀ l ∈ R, l.Log.length ≤ 10000000) → 0 ≤ x → x + cntL R ≤ 90000000 → R.length < k →
    l_heldLinkS.l1 xs k x (D.length : Int) = some (.inr (x + cntL R))
  | [], D, x, k, e, hs, h0, h1, hk => by
    obtain ⟨k, rfl⟩ : ∃ j, k = j + 1 := ⟨k - 1, by omega⟩
    rw [l_heldLinkS.l1, if_neg (by rw [e]; simp [markL])]; simp [cntL]
  | r :: R, D, x, k, e, hs, h0, h1, hk => by
    simp only [List.length_cons] at hk
    simp only [cntL] at h1
    have hr := hs r (by simp)
    have hc := cntL_nonneg R
    obtain ⟨k, rfl⟩ : ∃ j, k = j + 1 := ⟨k - 1, by omega⟩
    have hl : xs.length = D.length + (R.length + 1) := by rw [e]; simp [markL_length]
    rw [l_heldLinkS.l1, if_pos (by omega)]
    have h3 : ix xs (D.length : Int) = some ⟨markS r.Log.length x, x + r.Log.length, x + r.Log.length + 1⟩ := by rw [e]; exact ix_mid D _ _
    rw [bind_eq h3, bind_eq (heldStringS _ _ hr h0 (by omega)), if_neg (by omega), if_pos rfl, bind_eq (ck_add (by omega) (by omega)), if_pos rfl, bind_eq (ck_add (by omega) (by omega)), bind_eq (ck_succ (by omega))]
    have e2 : x + (r.Log.length : Int) + 1 + 1 = x + r.Log.length + 2 := by omega
    have := heldLinkS_l1 xs hx R (D ++ [⟨markS r.Log.length x, x + r.Log.length, x + r.Log.length + 1⟩]) (x + r.Log.length + 2) k (by rw [e]; simp [markL]) (fun l h => hs l (List.mem_cons_of_mem _ h)) (by omega) (by omega) (by omega)
    rw [show ((D ++ [(⟨markS r.Log.length x, x + r.Log.length, x + r.Log.length + 1⟩ : implLink)]).length : Int) = ((D.length + 1 : Nat) : Int) by simp] at this
    rw [e2, this]
    simp only [cntL, Option.some.injEq, Sum.inr.injEq]; omega
theorem heldChain (ls : List implLink) (x : Int) (hl : ls.length ≤ 10000000) (hs : ∀ l ∈ ls, l.Log.length ≤ 10000000) (h0 : 0 ≤ x) (h1 : x + cntL ls ≤ 90000000) :
    l_heldChain ⟨markL ls x⟩ x = some (x + cntL ls) := by
  have key : l_heldLinkS (markL ls x) x = some (x + cntL ls) := by
    unfold l_heldLinkS
    have := heldLinkS_l1 (markL ls x) (by rw [markL_length]; exact hl) ls [] x big rfl hs h0 h1 (by unfold big; omega)
    rw [bind_eq (show l_heldLinkS.l1 (markL ls x) big x 0 = some _ from this)]
    rfl
  have := cntL_nonneg ls
  unfold l_heldChain
  rw [bind_eq key, if_neg (by omega)]
end Go.Vm
end
section
set_option maxRecDepth 4000
set_option maxHeartbeats 1000000
namespace Go.Vm
open Go.Proofs
/- loop.example/g00300/laws.FnExactDrainChain -/
def l_FnExactDrainChain.code : MC :=
 (.seq
  (.keep [1] (.reg [⟨(some 1), none, .box (.t 0)⟩, ⟨(some 2), none, .mov (.v (.d (.bool false)))⟩]))
  (.norm (.seq
   (.keep [1, 3] (.reg [⟨(some 3), none, .mov (.v (.d (.int .i64 1048576)))⟩]))
   (.norm (.seq
    (.keep [1, 3] (.reg [⟨(some 17), none, .load true 1 (.t 1)⟩, ⟨(some 18), none, .mov (.t 3)⟩, ⟨(some 19), none, .call (.v (.clos 27 [])) [.t 17, .t 18] [] []⟩, ⟨(some 3), none, .mov (.t 19)⟩]))
    (.norm (.seq
     (.seq
      (.keep [1, 21] (.reg [⟨(some 20), none, .mov (.t 3)⟩, ⟨(some 21), none, .bin true .lss (.t 20) (.v (.d (.int .i64 0)))⟩]))
      (.norm (.cond (.t 21)
       (.seq
        (.keep [2] (.reg [⟨(some 2), none, .mov (.v (.d (.bool true)))⟩]))
        .ret)
       .skip)))
     (.norm (.seq
      (.keep [1, 4, 5, 6] (.reg [⟨(some 23), none, .load true 1 (.t 1)⟩, ⟨(some 24), none, .call (.v (.clos 28 [])) [.t 23] [] [24]⟩, ⟨(some 25), none, .call (.v (.clos 10 [])) [.t 24] [] [25]⟩, ⟨none, none, .nrm⟩, ⟨(some 22), none, .mov (.t 25)⟩, ⟨(some 26), none, .ext (.t 22) 0⟩, ⟨(some 27), none, .ext (.t 22) 1⟩, ⟨(some 28), none, .ext (.t 22) 2⟩, ⟨(some 4), none, .box (.v (.agg [.nilsl]))⟩, ⟨none, none, .store 1 (.t 4) (.t 26)⟩, ⟨(some 5), none, .mov (.t 27)⟩, ⟨(some 6), none, .mov (.t 28)⟩]))
      (.norm (.seq
       (.keep [1, 4, 5, 6, 7] (.reg [⟨(some 29), none, .load true 1 (.t 1)⟩, ⟨(some 30), none, .call (.v (.clos 28 [])) [.t 29] [] [30]⟩, ⟨(some 7), none, .box (.v (.agg [.nilsl]))⟩, ⟨none, none, .store 1 (.t 7) (.t 30)⟩]))
       (.norm (.seq
        (.keep [1, 4, 5, 6, 7, 8, 9, 10] (.reg [⟨(some 32), none, .load true 1 (.t 7)⟩, ⟨(some 33), none, .call (.v (.clos 9 [])) [.t 32] [] [33]⟩, ⟨(some 31), none, .mov (.t 33)⟩, ⟨(some 34), none, .ext (.t 31) 0⟩, ⟨(some 35), none, .ext (.t 31) 1⟩, ⟨(some 36), none, .ext (.t 31) 2⟩, ⟨(some 8), none, .box (.v (.agg [.nilsl]))⟩, ⟨none, none, .nrm⟩, ⟨none, none, .store 1 (.t 8) (.t 34)⟩, ⟨(some 9), none, .mov (.t 35)⟩, ⟨(some 10), none, .mov (.t 36)⟩]))
        (.norm (.seq
         (.cut
          (.keep [1, 4, 5, 6, 7, 8, 9, 10, 50] (.reg [⟨(some 37), none, .load true 1 (.t 8)⟩, ⟨(some 38), none, .load true 1 (.t 4)⟩, ⟨(some 39), none, .call (.v (.clos 19 [])) [.t 37, .t 38] [] []⟩, ⟨(some 40), none, .un .not (.t 39)⟩, ⟨(some 41), none, .mov (.t 40)⟩, ⟨(some 42), (some (41, false)), .mov (.t 9)⟩, ⟨none, none, .nrm⟩, ⟨(some 43), (some (41, false)), .mov (.t 5)⟩, ⟨(some 44), (some (41, false)), .bin true .neq (.t 42) (.t 43)⟩, ⟨(some 45), none, .pick (.t 41) (.v (.d (.bool true))) (.t 44)⟩, ⟨(some 46), none, .mov (.t 45)⟩, ⟨(some 47), (some (46, false)), .mov (.t 10)⟩, ⟨(some 48), (some (46, false)), .mov (.t 6)⟩, ⟨(some 49), (some (46, false)), .beq true (.t 47) (.t 48)⟩, ⟨(some 50), none, .pick (.t 46) (.v (.d (.bool true))) (.t 49)⟩]))
          (.cond (.t 50)
           (.seq
            (.keep [2] (.reg [⟨(some 2), none, .mov (.v (.d (.bool false)))⟩]))
            .ret)
           .skip))
         (.norm (.seq
          (.seq
           (.keep [1, 4, 5, 6, 7, 8, 9, 10, 55] (.draw (.hold 0 7 ⟨(some 51), none, .load true 1 (.t 7)⟩ (.take 1 ⟨(some 52), none, .load true 1 (.t 1)⟩ (.fork 2 ⟨(some 53), none, .call (.v (.clos 28 [])) [.t 52] [] [53]⟩ [7] (.fork 3 ⟨(some 54), none, .call (.v (.clos 19 [])) [.t 51, .t 53] [] []⟩ [] (.take 4 ⟨(some 55), none, .un .not (.t 54)⟩ .done) .nofork) .nofork)))))
           (.norm (.cond (.t 55)
            (.seq
             (.keep [2] (.reg [⟨(some 2), none, .mov (.v (.d (.bool false)))⟩]))
             .ret)
            .skip)))
          (.norm (.seq
           (.keep [1, 4, 5, 6, 7, 8, 9, 10, 11] (.reg [⟨(some 11), none, .mov (.v (.d (.int .i64 1)))⟩]))
           (.norm (.seq
            (.keep [1, 4, 5, 6, 8, 9, 10, 11] (.reg [⟨(some 56), none, .load true 1 (.t 7)⟩, ⟨(some 57), none, .mov (.t 11)⟩, ⟨(some 58), none, .call (.v (.clos 23 [])) [.t 56, .t 57] [true] []⟩, ⟨(some 11), none, .mov (.t 58)⟩]))
            (.norm (.seq
             (.cut
              (.keep [1, 4, 5, 6, 8, 76] (.reg [⟨(some 59), none, .mov (.t 11)⟩, ⟨(some 60), none, .bin true .lss (.t 59) (.v (.d (.int .i64 0)))⟩, ⟨(some 61), none, .mov (.t 60)⟩, ⟨(some 62), (some (61, false)), .load true 1 (.t 8)⟩, ⟨(some 63), (some (61, false)), .load true 1 (.t 4)⟩, ⟨(some 64), (some (61, false)), .call (.v (.clos 19 [])) [.t 62, .t 63] [] []⟩, ⟨none, none, .nrm⟩, ⟨(some 65), (some (61, false)), .un .not (.t 64)⟩, ⟨(some 66), none, .pick (.t 61) (.v (.d (.bool true))) (.t 65)⟩, ⟨(some 67), none, .mov (.t 66)⟩, ⟨(some 68), (some (67, false)), .mov (.t 9)⟩, ⟨(some 69), (some (67, false)), .mov (.t 5)⟩, ⟨(some 70), (some (67, false)), .bin true .neq (.t 68) (.t 69)⟩, ⟨(some 71), none, .pick (.t 67) (.v (.d (.bool true))) (.t 70)⟩, ⟨(some 72), none, .mov (.t 71)⟩, ⟨(some 73), (some (72, false)), .mov (.t 10)⟩, ⟨(some 74), (some (72, false)), .mov (.t 6)⟩, ⟨(some 75), (some (72, false)), .beq true (.t 73) (.t 74)⟩, ⟨(some 76), none, .pick (.t 72) (.v (.d (.bool true))) (.t 75)⟩]))
              (.cond (.t 76)
               (.seq
                (.keep [2] (.reg [⟨(some 2), none, .mov (.v (.d (.bool false)))⟩]))
                .ret)
               .skip))
             (.norm (.seq
              (.keep [1, 4, 5, 6, 8, 12] (.reg [⟨(some 12), none, .mov (.v (.d (.int .i64 1)))⟩]))
              (.norm (.seq
               (.keep [1, 4, 5, 6, 8, 12] (.reg [⟨(some 77), none, .load true 1 (.t 8)⟩, ⟨(some 78), none, .mov (.t 12)⟩, ⟨(some 79), none, .call (.v (.clos 23 [])) [.t 77, .t 78] [true] []⟩, ⟨(some 12), none, .mov (.t 79)⟩]))
               (.norm (.seq
                (.keep [1, 4, 5, 6, 8, 12, 13] (.reg [⟨(some 13), none, .mov (.v (.d (.int .i64 1)))⟩]))
                (.norm (.seq
                 (.keep [1, 4, 5, 6, 8, 12, 13] (.reg [⟨(some 80), none, .load true 1 (.t 8)⟩, ⟨(some 81), none, .mov (.t 13)⟩, ⟨(some 82), none, .call (.v (.clos 25 [])) [.t 80, .t 81] [] []⟩, ⟨(some 13), none, .mov (.t 82)⟩]))
                 (.norm (.seq
                  (.seq
                   (.keep [1, 4, 5, 6, 8, 12, 13, 84] (.reg [⟨(some 83), none, .mov (.t 13)⟩, ⟨(some 84), none, .bin true .lss (.t 83) (.v (.d (.int .i64 0)))⟩]))
                   (.norm (.cond (.t 84)
                    (.seq
                     (.keep [2] (.reg [⟨(some 2), none, .mov (.v (.d (.bool false)))⟩]))
                     .ret)
                    .skip)))
                  (.norm (.seq
                   (.seq
                    (.keep [1, 4, 5, 6, 8, 12, 87] (.reg [⟨(some 85), none, .mov (.t 13)⟩, ⟨(some 86), none, .mov (.t 12)⟩, ⟨(some 87), none, .bin true .neq (.t 85) (.t 86)⟩]))
                    (.norm (.cond (.t 87)
                     (.seq
                      (.keep [2] (.reg [⟨(some 2), none, .mov (.v (.d (.bool false)))⟩]))
                      .ret)
                     .skip)))
                   (.norm (.seq
                    (.keep [4, 5, 6, 8, 12, 14, 15, 16] (.reg [⟨(some 89), none, .load true 1 (.t 1)⟩, ⟨(some 90), none, .call (.v (.clos 28 [])) [.t 89] [] [90]⟩, ⟨(some 91), none, .call (.v (.clos 9 [])) [.t 90] [] [91]⟩, ⟨none, none, .nrm⟩, ⟨(some 88), none, .mov (.t 91)⟩, ⟨(some 92), none, .ext (.t 88) 0⟩, ⟨(some 93), none, .ext (.t 88) 1⟩, ⟨(some 94), none, .ext (.t 88) 2⟩, ⟨(some 14), none, .box (.v (.agg [.nilsl]))⟩, ⟨none, none, .store 1 (.t 14) (.t 92)⟩, ⟨(some 15), none, .mov (.t 93)⟩, ⟨(some 16), none, .mov (.t 94)⟩]))
                    (.norm (.seq
                     (.cut
                      (.keep [8, 12, 108] (.reg [⟨(some 95), none, .load true 1 (.t 14)⟩, ⟨(some 96), none, .load true 1 (.t 4)⟩, ⟨(some 97), none, .call (.v (.clos 19 [])) [.t 95, .t 96] [] []⟩, ⟨(some 98), none, .un .not (.t 97)⟩, ⟨(some 99), none, .mov (.t 98)⟩, ⟨(some 100), (some (99, false)), .mov (.t 15)⟩, ⟨none, none, .nrm⟩, ⟨(some 101), (some (99, false)), .mov (.t 5)⟩, ⟨(some 102), (some (99, false)), .bin true .neq (.t 100) (.t 101)⟩, ⟨(some 103), none, .pick (.t 99) (.v (.d (.bool true))) (.t 102)⟩, ⟨(some 104), none, .mov (.t 103)⟩, ⟨(some 105), (some (104, false)), .mov (.t 16)⟩, ⟨(some 106), (some (104, false)), .mov (.t 6)⟩, ⟨(some 107), (some (104, false)), .beq true (.t 105) (.t 106)⟩, ⟨(some 108), none, .pick (.t 104) (.v (.d (.bool true))) (.t 107)⟩]))
                      (.cond (.t 108)
                       (.seq
                        (.keep [2] (.reg [⟨(some 2), none, .mov (.v (.d (.bool false)))⟩]))
                        .ret)
                       .skip))
                     (.norm (.seq
                      (.keep [8, 12, 13] (.reg [⟨(some 13), none, .mov (.v (.d (.int .i64 1)))⟩]))
                      (.norm (.seq
                       (.keep [12, 13] (.reg [⟨(some 109), none, .load true 1 (.t 8)⟩, ⟨(some 110), none, .mov (.t 13)⟩, ⟨(some 111), none, .call (.v (.clos 25 [])) [.t 109, .t 110] [] []⟩, ⟨(some 13), none, .mov (.t 111)⟩]))
                       (.norm (.seq
                        (.seq
                         (.keep [12, 13, 113] (.reg [⟨(some 112), none, .mov (.t 13)⟩, ⟨(some 113), none, .bin true .lss (.t 112) (.v (.d (.int .i64 0)))⟩]))
                         (.norm (.cond (.t 113)
                          (.seq
                           (.keep [2] (.reg [⟨(some 2), none, .mov (.v (.d (.bool false)))⟩]))
                           .ret)
                          .skip)))
                        (.norm (.seq
                         (.seq
                          (.keep [116] (.reg [⟨(some 114), none, .mov (.t 13)⟩, ⟨(some 115), none, .mov (.t 12)⟩, ⟨(some 116), none, .bin true .neq (.t 114) (.t 115)⟩]))
                          (.norm (.cond (.t 116)
                           (.seq
                            (.keep [2] (.reg [⟨(some 2), none, .mov (.v (.d (.bool false)))⟩]))
                            .ret)
                           .skip)))
                         (.seq
                          (.keep [2] (.reg [⟨(some 2), none, .mov (.v (.d (.bool true)))⟩]))
                          .ret))))))))))))))))))))))))))))))))))))))))))))))))
theorem l_FnExactDrainChain.chk : chkFn Try.prog 5 1 l_FnExactDrainChain.code [.tmp 2] = true := by kernel_rfl
def l_FnExactDrainChain.j3 (v79 : Int × (List implLink)) (x108_3 : Bool) : Option Bool :=
  if x108_3 = true then (some false) else ((l_heldChain (implChain.mk v79.2) 1).bind fun v111 => if v111 < 0 then (some false) else (if v111 = v79.1 then (some true) else (some false)))
def l_FnExactDrainChain.J3 (v79 : Int × (List implLink)) (x108_3 : Bool) : St :=
  lit [(8, .bptr 8 0), (12, .d (.int .i64 v79.1)), (108, .d (.bool x108_3))] [(8, [.ref 33 [] 0 v79.2.length])] [(33, v79.2.map implLink.enc)]
def l_FnExactDrainChain.j2 (p0 : lawsChain) (v25 : implChain × Int × Bool) (v33 : implChain × Int × Bool) (x76_2 : Bool) : Option Bool :=
  if x76_2 = true then (some false) else ((l_markChain v33.1 1).bind fun v79 => (l_heldChain (implChain.mk v79.2) 1).bind fun v82 => if v82 < 0 then (some false) else (if v82 = v79.1 then ((l_toChain p0).bind fun v90 => (i_DrainChain v90).bind fun v91 => (l_eqChain v91.1 v25.1).bind fun v97 => if v97 = true then (if v91.2.1 = v25.2.1 then (l_FnExactDrainChain.j3 v79 ((v91.2.2 == v25.2.2) != true)) else (l_FnExactDrainChain.j3 v79 true)) else (l_FnExactDrainChain.j3 v79 true)) else (some false)))
def l_FnExactDrainChain.J2 (p0 : lawsChain) (v25 : implChain × Int × Bool) (v33 : implChain × Int × Bool) (x76_2 : Bool) : St :=
  lit [(1, .bptr 1 0), (4, .bptr 4 0), (5, .d (.int .i64 v25.2.1)), (6, .d (.bool v25.2.2)), (8, .bptr 8 0), (76, .d (.bool x76_2))] [(1, [.d (.sl (p0.Links.map lawsLink.enc))]), (4, [.ref 25 [] 0 v25.1.Links.length]), (8, [.ref 33 [] 0 v33.1.Links.length])] [(25, v25.1.Links.map implLink.enc), (33, v33.1.Links.map implLink.enc)]
def l_FnExactDrainChain.j1 (p0 : lawsChain) (v25 : implChain × Int × Bool) (v30 : implChain) (v33 : implChain × Int × Bool) (x50_1 : Bool) : Option Bool :=
  if x50_1 = true then (some false) else ((l_toChain p0).bind fun v53 => (l_eqChain v30 v53).bind fun v54 => if v54 = true then ((l_markChain v30 1).bind fun v58 => if v58.1 < 0 then (l_FnExactDrainChain.j2 p0 v25 v33 true) else ((l_eqChain v33.1 v25.1).bind fun v64 => if v64 = true then (if v33.2.1 = v25.2.1 then (l_FnExactDrainChain.j2 p0 v25 v33 ((v33.2.2 == v25.2.2) != true)) else (l_FnExactDrainChain.j2 p0 v25 v33 true)) else (l_FnExactDrainChain.j2 p0 v25 v33 true))) else (some false))
def l_FnExactDrainChain.J1 (p0 : lawsChain) (v25 : implChain × Int × Bool) (v30 : implChain) (v33 : implChain × Int × Bool) (x50_1 : Bool) : St :=
  lit [(1, .bptr 1 0), (4, .bptr 4 0), (5, .d (.int .i64 v25.2.1)), (6, .d (.bool v25.2.2)), (7, .bptr 7 0), (8, .bptr 8 0), (9, .d (.int .i64 v33.2.1)), (10, .d (.bool v33.2.2)), (50, .d (.bool x50_1))] [(1, [.d (.sl (p0.Links.map lawsLink.enc))]), (4, [.ref 25 [] 0 v25.1.Links.length]), (7, [.ref 30 [] 0 v30.Links.length]), (8, [.ref 33 [] 0 v33.1.Links.length])] [(25, v25.1.Links.map implLink.enc), (30, v30.Links.map implLink.enc), (33, v33.1.Links.map implLink.enc)]
def l_FnExactDrainChain (p0 : lawsChain) : Option (Bool) :=
  (l_szChain p0 1048576).bind fun v19 => if v19 < 0 then (some true) else ((l_toChain p0).bind fun v24 => (s_DrainChain v24).bind fun v25 => (l_toChain p0).bind fun v30 => (i_DrainChain v30).bind fun v33 => (l_eqChain v33.1 v25.1).bind fun v39 => if v39 = true then (if v33.2.1 = v25.2.1 then (l_FnExactDrainChain.j1 p0 v25 v30 v33 ((v33.2.2 == v25.2.2) != true)) else (l_FnExactDrainChain.j1 p0 v25 v30 v33 true)) else (l_FnExactDrainChain.j1 p0 v25 v30 v33 true))
theorem l_FnExactDrainChain.ok (p0 : lawsChain) (r : Bool) (h0 : l_FnExactDrainChain p0 = some r) : ACall Try.prog 5 [.agg [.d (.sl (p0.Links.map lawsLink.enc))]] [] [] (fun v ob oa na => v = .d (.bool r) ∧ ob = [] ∧ oa = [] ∧ na = []) := by
  refine wFn_ok l_FnExactDrainChain.chk rfl ?_
  unfold l_FnExactDrainChain at h0
  refine And.intro rfl ?_
  refine ⟨lit [(1, .bptr 1 0)] [(1, [.d (.sl (p0.Links.map lawsLink.enc))])] [], (le_lit (And.intro (ve rfl) trivial) (And.intro ⟨_, rfl, (vel rfl)⟩ trivial) trivial), ?_⟩
  refine ⟨lit [(1, .bptr 1 0), (3, .d (.int .i64 1048576))] [(1, [.d (.sl (p0.Links.map lawsLink.enc))])] [], (le_lit (And.intro (ve rfl) (And.intro (ve rfl) trivial)) (And.intro ⟨_, rfl, (vel rfl)⟩ trivial) trivial), ?_⟩
  obtain ⟨v19, ev19, h1⟩ := bind_some h0
  clear h0
  refine ⟨rfl, nod rfl, rfl, rfl, _, rfl, rfl, ?_⟩
  refine (l_szChain.ok p0 1048576 _ ev19).mono ?_
  rintro _ _ _ _ ⟨rfl, rfl, rfl, rfl⟩
  refine ⟨rfl, rfl, rfl, rfl, trivial, trivial, ?_⟩
  refine ⟨lit [(1, .bptr 1 0), (3, .d (.int .i64 v19))] [(1, [.d (.sl (p0.Links.map lawsLink.enc))])] [], (le_lit (And.intro (ve rfl) (And.intro (ve rfl) trivial)) (And.intro ⟨_, rfl, (vel rfl)⟩ trivial) trivial), ?_⟩
  refine And.intro rfl ?_
  refine ⟨lit [(1, .bptr 1 0), (21, .d (.bool (decide (v19 < 0))))] [(1, [.d (.sl (p0.Links.map lawsLink.enc))])] [], (le_lit (And.intro (ve rfl) (And.intro (ve rfl) trivial)) (And.intro ⟨_, rfl, (vel rfl)⟩ trivial) trivial), ?_⟩
  by_cases c1 : v19 < 0
  · have h2 := if_t c1 h1
    clear h1
    refine and_t (decide_eq_true c1) ?_
    cases h2
    exact ⟨[], nod rfl, all_lt rfl, blt_lt rfl, _, _, rfl, rfl, rfl, rfl, rfl, rfl⟩
  · have h3 := if_f c1 h1
    clear h1
    refine and_f (decide_eq_false c1) ?_
    refine ⟨lit [(1, .bptr 1 0)] [(1, [.d (.sl (p0.Links.map lawsLink.enc))])] [], (le_lit (And.intro (ve rfl) trivial) (And.intro ⟨_, rfl, (vel rfl)⟩ trivial) trivial), ?_⟩
    obtain ⟨v24, ev24, h4⟩ := bind_some h3
    clear h3
    refine ⟨rfl, nod rfl, rfl, rfl, _, rfl, rfl, ?_⟩
    refine (l_toChain.ok p0 _ ev24).mono ?_
    rintro _ _ _ _ ⟨rfl, rfl, rfl, rfl⟩
    refine ⟨rfl, rfl, rfl, rfl, trivial, trivial, ?_⟩
    obtain ⟨v25, ev25, h5⟩ := bind_some h4
    clear h4
    refine ⟨_, v24.Links.map implLink.enc, rfl, (whole _), ?_⟩
    refine ⟨rfl, nod rfl, rfl, rfl, _, rfl, rfl, ?_⟩
    refine (s_DrainChain.ok v24 _ ev25).mono ?_
    rintro _ _ _ _ ⟨rfl, rfl, rfl, rfl⟩
    refine ⟨rfl, rfl, rfl, rfl, rfl, trivial, ?_⟩
    refine ⟨lit [(1, .bptr 1 0), (25, .tup [.agg [.ref 25 [] 0 v25.1.Links.length], .d (.int .i64 v25.2.1), .d (.bool v25.2.2)])] [(1, [.d (.sl (p0.Links.map lawsLink.enc))])] [(25, v25.1.Links.map implLink.enc)], (le_lit (And.intro (ve rfl) (And.intro (ve rfl) trivial)) (And.intro ⟨_, rfl, (vel rfl)⟩ trivial) (And.intro rfl trivial)), ?_⟩
    refine And.intro rfl ?_
    refine And.intro rfl (And.intro rfl (And.intro (nle rfl) ?_))
    refine ⟨lit [(1, .bptr 1 0), (4, .bptr 4 0), (5, .d (.int .i64 v25.2.1)), (6, .d (.bool v25.2.2))] [(1, [.d (.sl (p0.Links.map lawsLink.enc))]), (4, [.ref 25 [] 0 v25.1.Links.length])] [(25, v25.1.Links.map implLink.enc)], (le_lit (And.intro (ve rfl) (And.intro (ve rfl) (And.intro (ve rfl) (And.intro (ve rfl) trivial)))) (And.intro ⟨_, rfl, (vel rfl)⟩ (And.intro ⟨_, rfl, (vel rfl)⟩ trivial)) (And.intro rfl trivial)), ?_⟩
    obtain ⟨v30, ev30, h6⟩ := bind_some h5
    clear h5
    refine ⟨rfl, nod rfl, rfl, rfl, _, rfl, rfl, ?_⟩
    refine (l_toChain.ok p0 _ ev30).mono ?_
    rintro _ _ _ _ ⟨rfl, rfl, rfl, rfl⟩
    refine ⟨rfl, rfl, rfl, rfl, trivial, trivial, ?_⟩
    refine And.intro rfl ?_
    refine And.intro rfl (And.intro rfl (And.intro (nle rfl) ?_))
    refine ⟨lit [(1, .bptr 1 0), (4, .bptr 4 0), (5, .d (.int .i64 v25.2.1)), (6, .d (.bool v25.2.2)), (7, .bptr 7 0)] [(1, [.d (.sl (p0.Links.map lawsLink.enc))]), (4, [.ref 25 [] 0 v25.1.Links.length]), (7, [.ref 30 [] 0 v30.Links.length])] [(25, v25.1.Links.map implLink.enc), (30, v30.Links.map implLink.enc)], (le_lit (And.intro (ve rfl) (And.intro (ve rfl) (And.intro (ve rfl) (And.intro (ve rfl) (And.intro (ve rfl) trivial))))) (And.intro ⟨_, rfl, (vel rfl)⟩ (And.intro ⟨_, rfl, (vel rfl)⟩ (And.intro ⟨_, rfl, (vel rfl)⟩ trivial))) (And.intro rfl (And.intro rfl trivial))), ?_⟩
    obtain ⟨v33, ev33, h7⟩ := bind_some h6
    clear h6
    refine ⟨_, v30.Links.map implLink.enc, rfl, (whole _), ?_⟩
    refine ⟨rfl, nod rfl, rfl, rfl, _, rfl, rfl, ?_⟩
    refine (i_DrainChain.ok v30 _ ev33).mono ?_
    rintro _ _ _ _ ⟨rfl, rfl, rfl, rfl⟩
    refine ⟨rfl, rfl, rfl, rfl, rfl, trivial, ?_⟩
    refine And.intro rfl ?_
    refine ⟨lit [(1, .bptr 1 0), (4, .bptr 4 0), (5, .d (.int .i64 v25.2.1)), (6, .d (.bool v25.2.2)), (7, .bptr 7 0), (8, .bptr 8 0), (34, .agg [.ref 33 [] 0 v33.1.Links.length]), (35, .d (.int .i64 v33.2.1)), (36, .d (.bool v33.2.2))] [(1, [.d (.sl (p0.Links.map lawsLink.enc))]), (4, [.ref 25 [] 0 v25.1.Links.length]), (7, [.ref 30 [] 0 v30.Links.length]), (8, [.nilsl])] [(25, v25.1.Links.map implLink.enc), (30, v30.Links.map implLink.enc), (33, v33.1.Links.map implLink.enc)], (le_lit (And.intro (ve rfl) (And.intro (ve rfl) (And.intro (ve rfl) (And.intro (ve rfl) (And.intro (ve rfl) (And.intro (ve rfl) (And.intro (ve rfl) (And.intro (ve rfl) (And.intro (ve rfl) trivial))))))))) (And.intro ⟨_, rfl, (vel rfl)⟩ (And.intro ⟨_, rfl, (vel rfl)⟩ (And.intro ⟨_, rfl, (vel rfl)⟩ (And.intro ⟨_, rfl, (vel rfl)⟩ trivial)))) (And.intro rfl (And.intro rfl (And.intro rfl trivial)))), ?_⟩
    refine And.intro rfl (And.intro rfl (And.intro (nle rfl) ?_))
    refine ⟨lit [(1, .bptr 1 0), (4, .bptr 4 0), (5, .d (.int .i64 v25.2.1)), (6, .d (.bool v25.2.2)), (7, .bptr 7 0), (8, .bptr 8 0), (9, .d (.int .i64 v33.2.1)), (10, .d (.bool v33.2.2))] [(1, [.d (.sl (p0.Links.map lawsLink.enc))]), (4, [.ref 25 [] 0 v25.1.Links.length]), (7, [.ref 30 [] 0 v30.Links.length]), (8, [.ref 33 [] 0 v33.1.Links.length])] [(25, v25.1.Links.map implLink.enc), (30, v30.Links.map implLink.enc), (33, v33.1.Links.map implLink.enc)], (le_lit (And.intro (ve rfl) (And.intro (ve rfl) (And.intro (ve rfl) (And.intro (ve rfl) (And.intro (ve rfl) (And.intro (ve rfl) (And.intro (ve rfl) (And.intro (ve rfl) trivial)))))))) (And.intro ⟨_, rfl, (vel rfl)⟩ (And.intro ⟨_, rfl, (vel rfl)⟩ (And.intro ⟨_, rfl, (vel rfl)⟩ (And.intro ⟨_, rfl, (vel rfl)⟩ trivial)))) (And.intro rfl (And.intro rfl (And.intro rfl trivial)))), ?_⟩
    refine ⟨{ g : Bool // l_FnExactDrainChain.j1 p0 v25 v30 v33 g = some r }, fun g => l_FnExactDrainChain.J1 p0 v25 v30 v33 g.1, ?_, ?_⟩
    · skip
      obtain ⟨v39, ev39, h8⟩ := bind_some h7
      clear h7
      refine ⟨_, v33.1.Links.map implLink.enc, rfl, (whole _), ?_⟩
      refine ⟨_, v25.1.Links.map implLink.enc, rfl, (whole _), ?_⟩
      refine ⟨rfl, nod rfl, rfl, rfl, _, rfl, rfl, ?_⟩
      refine (l_eqChain.ok v33.1 v25.1 _ ev39).mono ?_
      rintro _ _ _ _ ⟨rfl, rfl, rfl, rfl⟩
      refine ⟨rfl, rfl, rfl, rfl, rfl, trivial, ?_⟩
      by_cases c5 : v39 = true
      · have h9 := if_t c5 h8
        clear h8
        refine and_f' (not_f c5) ?_
        refine ⟨lit [(1, .bptr 1 0), (4, .bptr 4 0), (5, .d (.int .i64 v25.2.1)), (6, .d (.bool v25.2.2)), (7, .bptr 7 0), (8, .bptr 8 0), (9, .d (.int .i64 v33.2.1)), (10, .d (.bool v33.2.2)), (41, .d (.bool (!v39))), (42, .d (.int .i64 v33.2.1))] [(1, [.d (.sl (p0.Links.map lawsLink.enc))]), (4, [.ref 25 [] 0 v25.1.Links.length]), (7, [.ref 30 [] 0 v30.Links.length]), (8, [.ref 33 [] 0 v33.1.Links.length])] [(25, v25.1.Links.map implLink.enc), (30, v30.Links.map implLink.enc), (33, v33.1.Links.map implLink.enc)], (le_lit (And.intro (ve rfl) (And.intro (ve rfl) (And.intro (ve rfl) (And.intro (ve rfl) (And.intro (ve rfl) (And.intro (ve rfl) (And.intro (ve rfl) (And.intro (ve rfl) (And.intro (ve rfl) (And.intro (ve rfl) trivial)))))))))) (And.intro ⟨_, rfl, (vel rfl)⟩ (And.intro ⟨_, rfl, (vel rfl)⟩ (And.intro ⟨_, rfl, (vel rfl)⟩ (And.intro ⟨_, rfl, (vel rfl)⟩ trivial)))) (And.intro rfl (And.intro rfl (And.intro rfl trivial)))), ?_⟩
        refine and_f' (not_f c5) ?_
        refine and_f' (not_f c5) ?_
        refine And.intro rfl ?_
        refine and_f (not_f c5) ?_
        by_cases c6 : v33.2.1 = v25.2.1
        · have h10 := if_t c6 h9
          clear h9
          refine and_f' (not_f (decide_eq_true c6)) ?_
          refine and_f' (not_f (decide_eq_true c6)) ?_
          refine and_f' (not_f (decide_eq_true c6)) ?_
          refine and_f (not_f (decide_eq_true c6)) ?_
          exact ⟨⟨_, h10⟩, (le_lit (And.intro (ve rfl) (And.intro (ve rfl) (And.intro (ve rfl) (And.intro (ve rfl) (And.intro (ve rfl) (And.intro (ve rfl) (And.intro (ve rfl) (And.intro (ve rfl) (And.intro (ve rfl) trivial))))))))) (And.intro ⟨_, rfl, (vel rfl)⟩ (And.intro ⟨_, rfl, (vel rfl)⟩ (And.intro ⟨_, rfl, (vel rfl)⟩ (And.intro ⟨_, rfl, (vel rfl)⟩ trivial)))) (And.intro rfl (And.intro rfl (And.intro rfl trivial))))⟩
        · have h11 := if_f c6 h9
          clear h9
          refine and_t' (not_t (decide_eq_false c6)) ?_
          refine and_t' (not_t (decide_eq_false c6)) ?_
          refine and_t' (not_t (decide_eq_false c6)) ?_
          refine and_t (not_t (decide_eq_false c6)) ?_
          exact ⟨⟨_, h11⟩, (le_lit (And.intro (ve rfl) (And.intro (ve rfl) (And.intro (ve rfl) (And.intro (ve rfl) (And.intro (ve rfl) (And.intro (ve rfl) (And.intro (ve rfl) (And.intro (ve rfl) (And.intro (ve rfl) trivial))))))))) (And.intro ⟨_, rfl, (vel rfl)⟩ (And.intro ⟨_, rfl, (vel rfl)⟩ (And.intro ⟨_, rfl, (vel rfl)⟩ (And.intro ⟨_, rfl, (vel rfl)⟩ trivial)))) (And.intro rfl (And.intro rfl (And.intro rfl trivial))))⟩
      · have h12 := if_f c5 h8
        clear h8
        refine and_t' (not_t (ne_t c5)) ?_
        refine ⟨lit [(1, .bptr 1 0), (4, .bptr 4 0), (5, .d (.int .i64 v25.2.1)), (6, .d (.bool v25.2.2)), (7, .bptr 7 0), (8, .bptr 8 0), (9, .d (.int .i64 v33.2.1)), (10, .d (.bool v33.2.2)), (41, .d (.bool (!v39))), (42, .tup [])] [(1, [.d (.sl (p0.Links.map lawsLink.enc))]), (4, [.ref 25 [] 0 v25.1.Links.length]), (7, [.ref 30 [] 0 v30.Links.length]), (8, [.ref 33 [] 0 v33.1.Links.length])] [(25, v25.1.Links.map implLink.enc), (30, v30.Links.map implLink.enc), (33, v33.1.Links.map implLink.enc)], (le_lit (And.intro (ve rfl) (And.intro (ve rfl) (And.intro (ve rfl) (And.intro (ve rfl) (And.intro (ve rfl) (And.intro (ve rfl) (And.intro (ve rfl) (And.intro (ve rfl) (And.intro (ve rfl) (And.intro (ve rfl) trivial)))))))))) (And.intro ⟨_, rfl, (vel rfl)⟩ (And.intro ⟨_, rfl, (vel rfl)⟩ (And.intro ⟨_, rfl, (vel rfl)⟩ (And.intro ⟨_, rfl, (vel rfl)⟩ trivial)))) (And.intro rfl (And.intro rfl (And.intro rfl trivial)))), ?_⟩
        refine and_t' (not_t (ne_t c5)) ?_
        refine and_t' (not_t (ne_t c5)) ?_
        refine and_t (not_t (ne_t c5)) ?_
        refine and_t' rfl ?_
        refine and_t' rfl ?_
        refine and_t' rfl ?_
        refine and_t rfl ?_
        exact ⟨⟨_, h12⟩, (le_lit (And.intro (ve rfl) (And.intro (ve rfl) (And.intro (ve rfl) (And.intro (ve rfl) (And.intro (ve rfl) (And.intro (ve rfl) (And.intro (ve rfl) (And.intro (ve rfl) (And.intro (ve rfl) trivial))))))))) (And.intro ⟨_, rfl, (vel rfl)⟩ (And.intro ⟨_, rfl, (vel rfl)⟩ (And.intro ⟨_, rfl, (vel rfl)⟩ (And.intro ⟨_, rfl, (vel rfl)⟩ trivial)))) (And.intro rfl (And.intro rfl (And.intro rfl trivial))))⟩
    · rintro ⟨x50_1, h13⟩
      change l_FnExactDrainChain.j1 p0 v25 v30 v33 x50_1 = some r at h13
      change wMC _ _ _ (l_FnExactDrainChain.J1 p0 v25 v30 v33 x50_1)
      unfold l_FnExactDrainChain.j1 at h13
      clear h7
      by_cases c7 : x50_1 = true
      · have h14 := if_t c7 h13
        clear h13
        refine and_t c7 ?_
        cases h14
        exact ⟨[], nod rfl, all_lt rfl, blt_lt rfl, _, _, rfl, rfl, rfl, rfl, rfl, rfl⟩
      · have h15 := if_f c7 h13
        clear h13
        refine and_f (ne_t c7) ?_
        refine ⟨lit [(1, .bptr 1 0), (4, .bptr 4 0), (5, .d (.int .i64 v25.2.1)), (6, .d (.bool v25.2.2)), (7, .bptr 7 0), (8, .bptr 8 0), (9, .d (.int .i64 v33.2.1)), (10, .d (.bool v33.2.2))] [(1, [.d (.sl (p0.Links.map lawsLink.enc))]), (4, [.ref 25 [] 0 v25.1.Links.length]), (7, [.ref 30 [] 0 v30.Links.length]), (8, [.ref 33 [] 0 v33.1.Links.length])] [(25, v25.1.Links.map implLink.enc), (30, v30.Links.map implLink.enc), (33, v33.1.Links.map implLink.enc)], (le_lit (And.intro (ve rfl) (And.intro (ve rfl) (And.intro (ve rfl) (And.intro (ve rfl) (And.intro (ve rfl) (And.intro (ve rfl) (And.intro (ve rfl) (And.intro (ve rfl) trivial)))))))) (And.intro ⟨_, rfl, (vel rfl)⟩ (And.intro ⟨_, rfl, (vel rfl)⟩ (And.intro ⟨_, rfl, (vel rfl)⟩ (And.intro ⟨_, rfl, (vel rfl)⟩ trivial)))) (And.intro rfl (And.intro rfl (And.intro rfl trivial)))), ?_⟩
        refine And.intro (And.intro (And.intro (And.intro rfl rfl) trivial) ?_) trivial
        obtain ⟨v53, ev53, h16⟩ := bind_some h15
        clear h15
        refine ⟨rfl, nod rfl, rfl, rfl, _, rfl, rfl, ?_⟩
        refine (l_toChain.ok p0 _ ev53).mono ?_
        rintro _ _ _ _ ⟨rfl, rfl, rfl, rfl⟩
        refine ⟨rfl, rfl, rfl, rfl, trivial, trivial, ?_⟩
        refine And.intro (And.intro trivial ?_) trivial
        obtain ⟨v54, ev54, h17⟩ := bind_some h16
        clear h16
        refine ⟨_, v30.Links.map implLink.enc, rfl, (whole _), ?_⟩
        refine ⟨_, v53.Links.map implLink.enc, rfl, (whole _), ?_⟩
        refine ⟨rfl, nod rfl, rfl, rfl, _, rfl, rfl, ?_⟩
        refine (l_eqChain.ok v30 v53 _ ev54).mono ?_
        rintro _ _ _ _ ⟨rfl, rfl, rfl, rfl⟩
        refine ⟨rfl, rfl, rfl, rfl, rfl, trivial, ?_⟩
        refine ⟨lit [(1, .bptr 1 0), (4, .bptr 4 0), (5, .d (.int .i64 v25.2.1)), (6, .d (.bool v25.2.2)), (7, .bptr 7 0), (8, .bptr 8 0), (9, .d (.int .i64 v33.2.1)), (10, .d (.bool v33.2.2)), (55, .d (.bool (!v54)))] [(1, [.d (.sl (p0.Links.map lawsLink.enc))]), (4, [.ref 25 [] 0 v25.1.Links.length]), (7, [.ref 30 [] 0 v30.Links.length]), (8, [.ref 33 [] 0 v33.1.Links.length])] [(25, v25.1.Links.map implLink.enc), (30, v30.Links.map implLink.enc), (33, v33.1.Links.map implLink.enc)], (le_lit (And.intro (ve rfl) (And.intro (ve rfl) (And.intro (ve rfl) (And.intro (ve rfl) (And.intro (ve rfl) (And.intro (ve rfl) (And.intro (ve rfl) (And.intro (ve rfl) (And.intro (ve rfl) trivial))))))))) (And.intro ⟨_, rfl, (vel rfl)⟩ (And.intro ⟨_, rfl, (vel rfl)⟩ (And.intro ⟨_, rfl, (vel rfl)⟩ (And.intro ⟨_, rfl, (vel rfl)⟩ trivial)))) (And.intro rfl (And.intro rfl (And.intro rfl trivial)))), ?_⟩
        by_cases c8 : v54 = true
        · have h18 := if_t c8 h17
          clear h17
          refine and_f (not_f c8) ?_
          refine ⟨lit [(1, .bptr 1 0), (4, .bptr 4 0), (5, .d (.int .i64 v25.2.1)), (6, .d (.bool v25.2.2)), (7, .bptr 7 0), (8, .bptr 8 0), (9, .d (.int .i64 v33.2.1)), (10, .d (.bool v33.2.2))] [(1, [.d (.sl (p0.Links.map lawsLink.enc))]), (4, [.ref 25 [] 0 v25.1.Links.length]), (7, [.ref 30 [] 0 v30.Links.length]), (8, [.ref 33 [] 0 v33.1.Links.length])] [(25, v25.1.Links.map implLink.enc), (30, v30.Links.map implLink.enc), (33, v33.1.Links.map implLink.enc)], (le_lit (And.intro (ve rfl) (And.intro (ve rfl) (And.intro (ve rfl) (And.intro (ve rfl) (And.intro (ve rfl) (And.intro (ve rfl) (And.intro (ve rfl) (And.intro (ve rfl) trivial)))))))) (And.intro ⟨_, rfl, (vel rfl)⟩ (And.intro ⟨_, rfl, (vel rfl)⟩ (And.intro ⟨_, rfl, (vel rfl)⟩ (And.intro ⟨_, rfl, (vel rfl)⟩ trivial)))) (And.intro rfl (And.intro rfl (And.intro rfl trivial)))), ?_⟩
          refine ⟨lit [(1, .bptr 1 0), (4, .bptr 4 0), (5, .d (.int .i64 v25.2.1)), (6, .d (.bool v25.2.2)), (7, .bptr 7 0), (8, .bptr 8 0), (9, .d (.int .i64 v33.2.1)), (10, .d (.bool v33.2.2)), (11, .d (.int .i64 1))] [(1, [.d (.sl (p0.Links.map lawsLink.enc))]), (4, [.ref 25 [] 0 v25.1.Links.length]), (7, [.ref 30 [] 0 v30.Links.length]), (8, [.ref 33 [] 0 v33.1.Links.length])] [(25, v25.1.Links.map implLink.enc), (30, v30.Links.map implLink.enc), (33, v33.1.Links.map implLink.enc)], (le_lit (And.intro (ve rfl) (And.intro (ve rfl) (And.intro (ve rfl) (And.intro (ve rfl) (And.intro (ve rfl) (And.intro (ve rfl) (And.intro (ve rfl) (And.intro (ve rfl) (And.intro (ve rfl) trivial))))))))) (And.intro ⟨_, rfl, (vel rfl)⟩ (And.intro ⟨_, rfl, (vel rfl)⟩ (And.intro ⟨_, rfl, (vel rfl)⟩ (And.intro ⟨_, rfl, (vel rfl)⟩ trivial)))) (And.intro rfl (And.intro rfl (And.intro rfl trivial)))), ?_⟩
          obtain ⟨v58, ev58, h19⟩ := bind_some h18
          clear h18
          refine ⟨rfl, nod rfl, rfl, rfl, _, rfl, rfl, ?_⟩
          refine ⟨_, rfl, ?_⟩
          refine (l_markChain.ok v30 1 _ ev58).mono ?_
          rintro _ _ _ _ ⟨rfl, rfl, rfl, rfl⟩
          refine ⟨rfl, rfl, rfl, rfl, trivial, (map_len_map (l_markChain.len v30 1 _ ev58)), ?_⟩
          refine ⟨lit [(1, .bptr 1 0), (4, .bptr 4 0), (5, .d (.int .i64 v25.2.1)), (6, .d (.bool v25.2.2)), (8, .bptr 8 0), (9, .d (.int .i64 v33.2.1)), (10, .d (.bool v33.2.2)), (11, .d (.int .i64 v58.1))] [(1, [.d (.sl (p0.Links.map lawsLink.enc))]), (4, [.ref 25 [] 0 v25.1.Links.length]), (8, [.ref 33 [] 0 v33.1.Links.length])] [(25, v25.1.Links.map implLink.enc), (33, v33.1.Links.map implLink.enc)], (le_lit (And.intro (ve rfl) (And.intro (ve rfl) (And.intro (ve rfl) (And.intro (ve rfl) (And.intro (ve rfl) (And.intro (ve rfl) (And.intro (ve rfl) (And.intro (ve rfl) trivial)))))))) (And.intro ⟨_, rfl, (vel rfl)⟩ (And.intro ⟨_, rfl, (vel rfl)⟩ (And.intro ⟨_, rfl, (vel rfl)⟩ trivial))) (And.intro rfl (And.intro rfl trivial))), ?_⟩
          refine ⟨{ g : Bool // l_FnExactDrainChain.j2 p0 v25 v33 g = some r }, fun g => l_FnExactDrainChain.J2 p0 v25 v33 g.1, ?_, ?_⟩
          · skip
            refine And.intro rfl ?_
            by_cases c9 : v58.1 < 0
            · have h20 := if_t c9 h19
              clear h19
              refine and_t' (decide_eq_true c9) ?_
              refine and_t' (decide_eq_true c9) ?_
              refine and_t' (decide_eq_true c9) ?_
              refine ⟨lit [(1, .bptr 1 0), (4, .bptr 4 0), (5, .d (.int .i64 v25.2.1)), (6, .d (.bool v25.2.2)), (8, .bptr 8 0), (9, .d (.int .i64 v33.2.1)), (10, .d (.bool v33.2.2)), (61, .d (.bool (decide (v58.1 < 0)))), (64, .tup [])] [(1, [.d (.sl (p0.Links.map lawsLink.enc))]), (4, [.ref 25 [] 0 v25.1.Links.length]), (8, [.ref 33 [] 0 v33.1.Links.length])] [(25, v25.1.Links.map implLink.enc), (33, v33.1.Links.map implLink.enc)], (le_lit (And.intro (ve rfl) (And.intro (ve rfl) (And.intro (ve rfl) (And.intro (ve rfl) (And.intro (ve rfl) (And.intro (ve rfl) (And.intro (ve rfl) (And.intro (ve rfl) (And.intro (ve rfl) trivial))))))))) (And.intro ⟨_, rfl, (vel rfl)⟩ (And.intro ⟨_, rfl, (vel rfl)⟩ (And.intro ⟨_, rfl, (vel rfl)⟩ trivial))) (And.intro rfl (And.intro rfl trivial))), ?_⟩
              refine and_t' (decide_eq_true c9) ?_
              refine and_t (decide_eq_true c9) ?_
              refine and_t' rfl ?_
              refine and_t' rfl ?_
              refine and_t' rfl ?_
              refine and_t rfl ?_
              refine and_t' rfl ?_
              refine and_t' rfl ?_
              refine and_t' rfl ?_
              refine and_t rfl ?_
              exact ⟨⟨_, h20⟩, (le_lit (And.intro (ve rfl) (And.intro (ve rfl) (And.intro (ve rfl) (And.intro (ve rfl) (And.intro (ve rfl) (And.intro (ve rfl) trivial)))))) (And.intro ⟨_, rfl, (vel rfl)⟩ (And.intro ⟨_, rfl, (vel rfl)⟩ (And.intro ⟨_, rfl, (vel rfl)⟩ trivial))) (And.intro rfl (And.intro rfl trivial)))⟩
            · have h21 := if_f c9 h19
              clear h19
              refine and_f' (decide_eq_false c9) ?_
              refine and_f' (decide_eq_false c9) ?_
              obtain ⟨v64, ev64, h22⟩ := bind_some h21
              clear h21
              refine and_f' (decide_eq_false c9) ?_
              refine ⟨_, v33.1.Links.map implLink.enc, rfl, (whole _), ?_⟩
              refine ⟨_, v25.1.Links.map implLink.enc, rfl, (whole _), ?_⟩
              refine ⟨rfl, nod rfl, rfl, rfl, _, rfl, rfl, ?_⟩
              refine (l_eqChain.ok v33.1 v25.1 _ ev64).mono ?_
              rintro _ _ _ _ ⟨rfl, rfl, rfl, rfl⟩
              refine ⟨rfl, rfl, rfl, rfl, rfl, trivial, ?_⟩
              refine ⟨lit [(1, .bptr 1 0), (4, .bptr 4 0), (5, .d (.int .i64 v25.2.1)), (6, .d (.bool v25.2.2)), (8, .bptr 8 0), (9, .d (.int .i64 v33.2.1)), (10, .d (.bool v33.2.2)), (61, .d (.bool (decide (v58.1 < 0)))), (64, .d (.bool v64))] [(1, [.d (.sl (p0.Links.map lawsLink.enc))]), (4, [.ref 25 [] 0 v25.1.Links.length]), (8, [.ref 33 [] 0 v33.1.Links.length])] [(25, v25.1.Links.map implLink.enc), (33, v33.1.Links.map implLink.enc)], (le_lit (And.intro (ve rfl) (And.intro (ve rfl) (And.intro (ve rfl) (And.intro (ve rfl) (And.intro (ve rfl) (And.intro (ve rfl) (And.intro (ve rfl) (And.intro (ve rfl) (And.intro (ve rfl) trivial))))))))) (And.intro ⟨_, rfl, (vel rfl)⟩ (And.intro ⟨_, rfl, (vel rfl)⟩ (And.intro ⟨_, rfl, (vel rfl)⟩ trivial))) (And.intro rfl (And.intro rfl trivial))), ?_⟩
              refine and_f' (decide_eq_false c9) ?_
              refine and_f (decide_eq_false c9) ?_
              by_cases c10 : v64 = true
              · have h23 := if_t c10 h22
                clear h22
                refine and_f' (not_f c10) ?_
                refine and_f' (not_f c10) ?_
                refine and_f' (not_f c10) ?_
                refine And.intro rfl ?_
                refine and_f (not_f c10) ?_
                by_cases c11 : v33.2.1 = v25.2.1
                · have h24 := if_t c11 h23
                  clear h23
                  refine and_f' (not_f (decide_eq_true c11)) ?_
                  refine and_f' (not_f (decide_eq_true c11)) ?_
                  refine and_f' (not_f (decide_eq_true c11)) ?_
                  refine and_f (not_f (decide_eq_true c11)) ?_
                  exact ⟨⟨_, h24⟩, (le_lit (And.intro (ve rfl) (And.intro (ve rfl) (And.intro (ve rfl) (And.intro (ve rfl) (And.intro (ve rfl) (And.intro (ve rfl) trivial)))))) (And.intro ⟨_, rfl, (vel rfl)⟩ (And.intro ⟨_, rfl, (vel rfl)⟩ (And.intro ⟨_, rfl, (vel rfl)⟩ trivial))) (And.intro rfl (And.intro rfl trivial)))⟩
                · have h25 := if_f c11 h23
                  clear h23
                  refine and_t' (not_t (decide_eq_false c11)) ?_
                  refine and_t' (not_t (decide_eq_false c11)) ?_
                  refine and_t' (not_t (decide_eq_false c11)) ?_
                  refine and_t (not_t (decide_eq_false c11)) ?_
                  exact ⟨⟨_, h25⟩, (le_lit (And.intro (ve rfl) (And.intro (ve rfl) (And.intro (ve rfl) (And.intro (ve rfl) (And.intro (ve rfl) (And.intro (ve rfl) trivial)))))) (And.intro ⟨_, rfl, (vel rfl)⟩ (And.intro ⟨_, rfl, (vel rfl)⟩ (And.intro ⟨_, rfl, (vel rfl)⟩ trivial))) (And.intro rfl (And.intro rfl trivial)))⟩
              · have h26 := if_f c10 h22
                clear h22
                refine and_t' (not_t (ne_t c10)) ?_
                refine and_t' (not_t (ne_t c10)) ?_
                refine and_t' (not_t (ne_t c10)) ?_
                refine and_t (not_t (ne_t c10)) ?_
                refine and_t' rfl ?_
                refine and_t' rfl ?_
                refine and_t' rfl ?_
                refine and_t rfl ?_
                exact ⟨⟨_, h26⟩, (le_lit (And.intro (ve rfl) (And.intro (ve rfl) (And.intro (ve rfl) (And.intro (ve rfl) (And.intro (ve rfl) (And.intro (ve rfl) trivial)))))) (And.intro ⟨_, rfl, (vel rfl)⟩ (And.intro ⟨_, rfl, (vel rfl)⟩ (And.intro ⟨_, rfl, (vel rfl)⟩ trivial))) (And.intro rfl (And.intro rfl trivial)))⟩
          · rintro ⟨x76_2, h27⟩
            change l_FnExactDrainChain.j2 p0 v25 v33 x76_2 = some r at h27
            change wMC _ _ _ (l_FnExactDrainChain.J2 p0 v25 v33 x76_2)
            unfold l_FnExactDrainChain.j2 at h27
            clear h19
            by_cases c12 : x76_2 = true
            · have h28 := if_t c12 h27
              clear h27
              refine and_t c12 ?_
              cases h28
              exact ⟨[], nod rfl, all_lt rfl, blt_lt rfl, _, _, rfl, rfl, rfl, rfl, rfl, rfl⟩
            · have h29 := if_f c12 h27
              clear h27
              refine and_f (ne_t c12) ?_
              refine ⟨lit [(1, .bptr 1 0), (4, .bptr 4 0), (5, .d (.int .i64 v25.2.1)), (6, .d (.bool v25.2.2)), (8, .bptr 8 0)] [(1, [.d (.sl (p0.Links.map lawsLink.enc))]), (4, [.ref 25 [] 0 v25.1.Links.length]), (8, [.ref 33 [] 0 v33.1.Links.length])] [(25, v25.1.Links.map implLink.enc), (33, v33.1.Links.map implLink.enc)], (le_lit (And.intro (ve rfl) (And.intro (ve rfl) (And.intro (ve rfl) (And.intro (ve rfl) (And.intro (ve rfl) trivial))))) (And.intro ⟨_, rfl, (vel rfl)⟩ (And.intro ⟨_, rfl, (vel rfl)⟩ (And.intro ⟨_, rfl, (vel rfl)⟩ trivial))) (And.intro rfl (And.intro rfl trivial))), ?_⟩
              refine ⟨lit [(1, .bptr 1 0), (4, .bptr 4 0), (5, .d (.int .i64 v25.2.1)), (6, .d (.bool v25.2.2)), (8, .bptr 8 0), (12, .d (.int .i64 1))] [(1, [.d (.sl (p0.Links.map lawsLink.enc))]), (4, [.ref 25 [] 0 v25.1.Links.length]), (8, [.ref 33 [] 0 v33.1.Links.length])] [(25, v25.1.Links.map implLink.enc), (33, v33.1.Links.map implLink.enc)], (le_lit (And.intro (ve rfl) (And.intro (ve rfl) (And.intro (ve rfl) (And.intro (ve rfl) (And.intro (ve rfl) (And.intro (ve rfl) trivial)))))) (And.intro ⟨_, rfl, (vel rfl)⟩ (And.intro ⟨_, rfl, (vel rfl)⟩ (And.intro ⟨_, rfl, (vel rfl)⟩ trivial))) (And.intro rfl (And.intro rfl trivial))), ?_⟩
              obtain ⟨v79, ev79, h30⟩ := bind_some h29
              clear h29
              refine ⟨rfl, nod rfl, rfl, rfl, _, rfl, rfl, ?_⟩
              refine ⟨_, rfl, ?_⟩
              refine (l_markChain.ok v33.1 1 _ ev79).mono ?_
              rintro _ _ _ _ ⟨rfl, rfl, rfl, rfl⟩
              refine ⟨rfl, rfl, rfl, rfl, trivial, (map_len_map (l_markChain.len v33.1 1 _ ev79)), ?_⟩
              refine ⟨lit [(1, .bptr 1 0), (4, .bptr 4 0), (5, .d (.int .i64 v25.2.1)), (6, .d (.bool v25.2.2)), (8, .bptr 8 0), (12, .d (.int .i64 v79.1))] [(1, [.d (.sl (p0.Links.map lawsLink.enc))]), (4, [.ref 25 [] 0 v25.1.Links.length]), (8, [.ref 33 [] 0 v79.2.length])] [(25, v25.1.Links.map implLink.enc), (33, v79.2.map implLink.enc)], (le_lit (And.intro (ve rfl) (And.intro (ve rfl) (And.intro (ve rfl) (And.intro (ve rfl) (And.intro (ve rfl) (And.intro (ve rfl) trivial)))))) (And.intro ⟨_, rfl, (vel rfl)⟩ (And.intro ⟨_, rfl, (vel rfl)⟩ (And.intro ⟨_, rfl, (And.intro (ve (congrArg (V.ref 33 [] 0) (l_markChain.len v33.1 1 _ ev79).symm)) trivial)⟩ trivial))) (And.intro rfl (And.intro rfl trivial))), ?_⟩
              refine ⟨lit [(1, .bptr 1 0), (4, .bptr 4 0), (5, .d (.int .i64 v25.2.1)), (6, .d (.bool v25.2.2)), (8, .bptr 8 0), (12, .d (.int .i64 v79.1)), (13, .d (.int .i64 1))] [(1, [.d (.sl (p0.Links.map lawsLink.enc))]), (4, [.ref 25 [] 0 v25.1.Links.length]), (8, [.ref 33 [] 0 v79.2.length])] [(25, v25.1.Links.map implLink.enc), (33, v79.2.map implLink.enc)], (le_lit (And.intro (ve rfl) (And.intro (ve rfl) (And.intro (ve rfl) (And.intro (ve rfl) (And.intro (ve rfl) (And.intro (ve rfl) (And.intro (ve rfl) trivial))))))) (And.intro ⟨_, rfl, (vel rfl)⟩ (And.intro ⟨_, rfl, (vel rfl)⟩ (And.intro ⟨_, rfl, (vel rfl)⟩ trivial))) (And.intro rfl (And.intro rfl trivial))), ?_⟩
              obtain ⟨v82, ev82, h31⟩ := bind_some h30
              clear h30
              refine ⟨_, v79.2.map implLink.enc, rfl, (whole _), ?_⟩
              refine ⟨rfl, nod rfl, rfl, rfl, _, rfl, rfl, ?_⟩
              refine (l_heldChain.ok (implChain.mk v79.2) 1 _ ev82).mono ?_
              rintro _ _ _ _ ⟨rfl, rfl, rfl, rfl⟩
              refine ⟨rfl, rfl, rfl, rfl, rfl, trivial, ?_⟩
              refine ⟨lit [(1, .bptr 1 0), (4, .bptr 4 0), (5, .d (.int .i64 v25.2.1)), (6, .d (.bool v25.2.2)), (8, .bptr 8 0), (12, .d (.int .i64 v79.1)), (13, .d (.int .i64 v82))] [(1, [.d (.sl (p0.Links.map lawsLink.enc))]), (4, [.ref 25 [] 0 v25.1.Links.length]), (8, [.ref 33 [] 0 v79.2.length])] [(25, v25.1.Links.map implLink.enc), (33, v79.2.map implLink.enc)], (le_lit (And.intro (ve rfl) (And.intro (ve rfl) (And.intro (ve rfl) (And.intro (ve rfl) (And.intro (ve rfl) (And.intro (ve rfl) (And.intro (ve rfl) trivial))))))) (And.intro ⟨_, rfl, (vel rfl)⟩ (And.intro ⟨_, rfl, (vel rfl)⟩ (And.intro ⟨_, rfl, (vel rfl)⟩ trivial))) (And.intro rfl (And.intro rfl trivial))), ?_⟩
              refine And.intro rfl ?_
              refine ⟨lit [(1, .bptr 1 0), (4, .bptr 4 0), (5, .d (.int .i64 v25.2.1)), (6, .d (.bool v25.2.2)), (8, .bptr 8 0), (12, .d (.int .i64 v79.1)), (13, .d (.int .i64 v82)), (84, .d (.bool (decide (v82 < 0))))] [(1, [.d (.sl (p0.Links.map lawsLink.enc))]), (4, [.ref 25 [] 0 v25.1.Links.length]), (8, [.ref 33 [] 0 v79.2.length])] [(25, v25.1.Links.map implLink.enc), (33, v79.2.map implLink.enc)], (le_lit (And.intro (ve rfl) (And.intro (ve rfl) (And.intro (ve rfl) (And.intro (ve rfl) (And.intro (ve rfl) (And.intro (ve rfl) (And.intro (ve rfl) (And.intro (ve rfl) trivial)))))))) (And.intro ⟨_, rfl, (vel rfl)⟩ (And.intro ⟨_, rfl, (vel rfl)⟩ (And.intro ⟨_, rfl, (vel rfl)⟩ trivial))) (And.intro rfl (And.intro rfl trivial))), ?_⟩
              by_cases c13 : v82 < 0
              · have h32 := if_t c13 h31
                clear h31
                refine and_t (decide_eq_true c13) ?_
                cases h32
                exact ⟨[], nod rfl, all_lt rfl, blt_lt rfl, _, _, rfl, rfl, rfl, rfl, rfl, rfl⟩
              · have h33 := if_f c13 h31
                clear h31
                refine and_f (decide_eq_false c13) ?_
                refine ⟨lit [(1, .bptr 1 0), (4, .bptr 4 0), (5, .d (.int .i64 v25.2.1)), (6, .d (.bool v25.2.2)), (8, .bptr 8 0), (12, .d (.int .i64 v79.1)), (13, .d (.int .i64 v82))] [(1, [.d (.sl (p0.Links.map lawsLink.enc))]), (4, [.ref 25 [] 0 v25.1.Links.length]), (8, [.ref 33 [] 0 v79.2.length])] [(25, v25.1.Links.map implLink.enc), (33, v79.2.map implLink.enc)], (le_lit (And.intro (ve rfl) (And.intro (ve rfl) (And.intro (ve rfl) (And.intro (ve rfl) (And.intro (ve rfl) (And.intro (ve rfl) (And.intro (ve rfl) trivial))))))) (And.intro ⟨_, rfl, (vel rfl)⟩ (And.intro ⟨_, rfl, (vel rfl)⟩ (And.intro ⟨_, rfl, (vel rfl)⟩ trivial))) (And.intro rfl (And.intro rfl trivial))), ?_⟩
                refine And.intro rfl ?_
                refine ⟨lit [(1, .bptr 1 0), (4, .bptr 4 0), (5, .d (.int .i64 v25.2.1)), (6, .d (.bool v25.2.2)), (8, .bptr 8 0), (12, .d (.int .i64 v79.1)), (87, .d (.bool (!(decide (v82 = v79.1)))))] [(1, [.d (.sl (p0.Links.map lawsLink.enc))]), (4, [.ref 25 [] 0 v25.1.Links.length]), (8, [.ref 33 [] 0 v79.2.length])] [(25, v25.1.Links.map implLink.enc), (33, v79.2.map implLink.enc)], (le_lit (And.intro (ve rfl) (And.intro (ve rfl) (And.intro (ve rfl) (And.intro (ve rfl) (And.intro (ve rfl) (And.intro (ve rfl) (And.intro (ve rfl) trivial))))))) (And.intro ⟨_, rfl, (vel rfl)⟩ (And.intro ⟨_, rfl, (vel rfl)⟩ (And.intro ⟨_, rfl, (vel rfl)⟩ trivial))) (And.intro rfl (And.intro rfl trivial))), ?_⟩
                by_cases c14 : v82 = v79.1
                · have h34 := if_t c14 h33
                  clear h33
                  refine and_f (not_f (decide_eq_true c14)) ?_
                  refine ⟨lit [(1, .bptr 1 0), (4, .bptr 4 0), (5, .d (.int .i64 v25.2.1)), (6, .d (.bool v25.2.2)), (8, .bptr 8 0), (12, .d (.int .i64 v79.1))] [(1, [.d (.sl (p0.Links.map lawsLink.enc))]), (4, [.ref 25 [] 0 v25.1.Links.length]), (8, [.ref 33 [] 0 v79.2.length])] [(25, v25.1.Links.map implLink.enc), (33, v79.2.map implLink.enc)], (le_lit (And.intro (ve rfl) (And.intro (ve rfl) (And.intro (ve rfl) (And.intro (ve rfl) (And.intro (ve rfl) (And.intro (ve rfl) trivial)))))) (And.intro ⟨_, rfl, (vel rfl)⟩ (And.intro ⟨_, rfl, (vel rfl)⟩ (And.intro ⟨_, rfl, (vel rfl)⟩ trivial))) (And.intro rfl (And.intro rfl trivial))), ?_⟩
                  obtain ⟨v90, ev90, h35⟩ := bind_some h34
                  clear h34
                  refine ⟨rfl, nod rfl, rfl, rfl, _, rfl, rfl, ?_⟩
                  refine (l_toChain.ok p0 _ ev90).mono ?_
                  rintro _ _ _ _ ⟨rfl, rfl, rfl, rfl⟩
                  refine ⟨rfl, rfl, rfl, rfl, trivial, trivial, ?_⟩
                  obtain ⟨v91, ev91, h36⟩ := bind_some h35
                  clear h35
                  refine ⟨_, v90.Links.map implLink.enc, rfl, (whole _), ?_⟩
                  refine ⟨rfl, nod rfl, rfl, rfl, _, rfl, rfl, ?_⟩
                  refine (i_DrainChain.ok v90 _ ev91).mono ?_
                  rintro _ _ _ _ ⟨rfl, rfl, rfl, rfl⟩
                  refine ⟨rfl, rfl, rfl, rfl, rfl, trivial, ?_⟩
                  refine ⟨lit [(4, .bptr 4 0), (5, .d (.int .i64 v25.2.1)), (6, .d (.bool v25.2.2)), (8, .bptr 8 0), (12, .d (.int .i64 v79.1)), (91, .tup [.agg [.ref 91 [] 0 v91.1.Links.length], .d (.int .i64 v91.2.1), .d (.bool v91.2.2)])] [(4, [.ref 25 [] 0 v25.1.Links.length]), (8, [.ref 33 [] 0 v79.2.length])] [(25, v25.1.Links.map implLink.enc), (33, v79.2.map implLink.enc), (91, v91.1.Links.map implLink.enc)], (le_lit (And.intro (ve rfl) (And.intro (ve rfl) (And.intro (ve rfl) (And.intro (ve rfl) (And.intro (ve rfl) (And.intro (ve rfl) trivial)))))) (And.intro ⟨_, rfl, (vel rfl)⟩ (And.intro ⟨_, rfl, (vel rfl)⟩ trivial)) (And.intro rfl (And.intro rfl (And.intro rfl trivial)))), ?_⟩
                  refine And.intro rfl ?_
                  refine And.intro rfl (And.intro rfl (And.intro (nle rfl) ?_))
                  refine ⟨lit [(4, .bptr 4 0), (5, .d (.int .i64 v25.2.1)), (6, .d (.bool v25.2.2)), (8, .bptr 8 0), (12, .d (.int .i64 v79.1)), (14, .bptr 14 0), (15, .d (.int .i64 v91.2.1)), (16, .d (.bool v91.2.2))] [(4, [.ref 25 [] 0 v25.1.Links.length]), (8, [.ref 33 [] 0 v79.2.length]), (14, [.ref 91 [] 0 v91.1.Links.length])] [(25, v25.1.Links.map implLink.enc), (33, v79.2.map implLink.enc), (91, v91.1.Links.map implLink.enc)], (le_lit (And.intro (ve rfl) (And.intro (ve rfl) (And.intro (ve rfl) (And.intro (ve rfl) (And.intro (ve rfl) (And.intro (ve rfl) (And.intro (ve rfl) (And.intro (ve rfl) trivial)))))))) (And.intro ⟨_, rfl, (vel rfl)⟩ (And.intro ⟨_, rfl, (vel rfl)⟩ (And.intro ⟨_, rfl, (vel rfl)⟩ trivial))) (And.intro rfl (And.intro rfl (And.intro rfl trivial)))), ?_⟩
                  refine ⟨{ g : Bool // l_FnExactDrainChain.j3 v79 g = some r }, fun g => l_FnExactDrainChain.J3 v79 g.1, ?_, ?_⟩
                  · skip
                    obtain ⟨v97, ev97, h37⟩ := bind_some h36
                    clear h36
                    refine ⟨_, v91.1.Links.map implLink.enc, rfl, (whole _), ?_⟩
                    refine ⟨_, v25.1.Links.map implLink.enc, rfl, (whole _), ?_⟩
                    refine ⟨rfl, nod rfl, rfl, rfl, _, rfl, rfl, ?_⟩
                    refine (l_eqChain.ok v91.1 v25.1 _ ev97).mono ?_
                    rintro _ _ _ _ ⟨rfl, rfl, rfl, rfl⟩
                    refine ⟨rfl, rfl, rfl, rfl, rfl, trivial, ?_⟩
                    by_cases c16 : v97 = true
                    · have h38 := if_t c16 h37
                      clear h37
                      refine and_f' (not_f c16) ?_
                      refine ⟨lit [(5, .d (.int .i64 v25.2.1)), (6, .d (.bool v25.2.2)), (8, .bptr 8 0), (12, .d (.int .i64 v79.1)), (16, .d (.bool v91.2.2)), (99, .d (.bool (!v97))), (100, .d (.int .i64 v91.2.1))] [(8, [.ref 33 [] 0 v79.2.length])] [(33, v79.2.map implLink.enc)], (le_lit (And.intro (ve rfl) (And.intro (ve rfl) (And.intro (ve rfl) (And.intro (ve rfl) (And.intro (ve rfl) (And.intro (ve rfl) (And.intro (ve rfl) trivial))))))) (And.intro ⟨_, rfl, (vel rfl)⟩ trivial) (And.intro rfl trivial)), ?_⟩
                      refine and_f' (not_f c16) ?_
                      refine and_f' (not_f c16) ?_
                      refine And.intro rfl ?_
                      refine and_f (not_f c16) ?_
                      by_cases c17 : v91.2.1 = v25.2.1
                      · have h39 := if_t c17 h38
                        clear h38
                        refine and_f' (not_f (decide_eq_true c17)) ?_
                        refine and_f' (not_f (decide_eq_true c17)) ?_
                        refine and_f' (not_f (decide_eq_true c17)) ?_
                        refine and_f (not_f (decide_eq_true c17)) ?_
                        exact ⟨⟨_, h39⟩, (le_lit (And.intro (ve rfl) (And.intro (ve rfl) (And.intro (ve rfl) trivial))) (And.intro ⟨_, rfl, (vel rfl)⟩ trivial) (And.intro rfl trivial))⟩
                      · have h40 := if_f c17 h38
                        clear h38
                        refine and_t' (not_t (decide_eq_false c17)) ?_
                        refine and_t' (not_t (decide_eq_false c17)) ?_
                        refine and_t' (not_t (decide_eq_false c17)) ?_
                        refine and_t (not_t (decide_eq_false c17)) ?_
                        exact ⟨⟨_, h40⟩, (le_lit (And.intro (ve rfl) (And.intro (ve rfl) (And.intro (ve rfl) trivial))) (And.intro ⟨_, rfl, (vel rfl)⟩ trivial) (And.intro rfl trivial))⟩
                    · have h41 := if_f c16 h37
                      clear h37
                      refine and_t' (not_t (ne_t c16)) ?_
                      refine ⟨lit [(5, .d (.int .i64 v25.2.1)), (6, .d (.bool v25.2.2)), (8, .bptr 8 0), (12, .d (.int .i64 v79.1)), (16, .d (.bool v91.2.2)), (99, .d (.bool (!v97))), (100, .tup [])] [(8, [.ref 33 [] 0 v79.2.length])] [(33, v79.2.map implLink.enc)], (le_lit (And.intro (ve rfl) (And.intro (ve rfl) (And.intro (ve rfl) (And.intro (ve rfl) (And.intro (ve rfl) (And.intro (ve rfl) (And.intro (ve rfl) trivial))))))) (And.intro ⟨_, rfl, (vel rfl)⟩ trivial) (And.intro rfl trivial)), ?_⟩
                      refine and_t' (not_t (ne_t c16)) ?_
                      refine and_t' (not_t (ne_t c16)) ?_
                      refine and_t (not_t (ne_t c16)) ?_
                      refine and_t' rfl ?_
                      refine and_t' rfl ?_
                      refine and_t' rfl ?_
                      refine and_t rfl ?_
                      exact ⟨⟨_, h41⟩, (le_lit (And.intro (ve rfl) (And.intro (ve rfl) (And.intro (ve rfl) trivial))) (And.intro ⟨_, rfl, (vel rfl)⟩ trivial) (And.intro rfl trivial))⟩
                  · rintro ⟨x108_3, h42⟩
                    change l_FnExactDrainChain.j3 v79 x108_3 = some r at h42
                    change wMC _ _ _ (l_FnExactDrainChain.J3 v79 x108_3)
                    unfold l_FnExactDrainChain.j3 at h42
                    clear h36
                    by_cases c18 : x108_3 = true
                    · have h43 := if_t c18 h42
                      clear h42
                      refine and_t c18 ?_
                      cases h43
                      exact ⟨[], nod rfl, all_lt rfl, blt_lt rfl, _, _, rfl, rfl, rfl, rfl, rfl, rfl⟩
                    · have h44 := if_f c18 h42
                      clear h42
                      refine and_f (ne_t c18) ?_
                      refine ⟨lit [(8, .bptr 8 0), (12, .d (.int .i64 v79.1))] [(8, [.ref 33 [] 0 v79.2.length])] [(33, v79.2.map implLink.enc)], (le_lit (And.intro (ve rfl) (And.intro (ve rfl) trivial)) (And.intro ⟨_, rfl, (vel rfl)⟩ trivial) (And.intro rfl trivial)), ?_⟩
                      refine ⟨lit [(8, .bptr 8 0), (12, .d (.int .i64 v79.1)), (13, .d (.int .i64 1))] [(8, [.ref 33 [] 0 v79.2.length])] [(33, v79.2.map implLink.enc)], (le_lit (And.intro (ve rfl) (And.intro (ve rfl) (And.intro (ve rfl) trivial))) (And.intro ⟨_, rfl, (vel rfl)⟩ trivial) (And.intro rfl trivial)), ?_⟩
                      obtain ⟨v111, ev111, h45⟩ := bind_some h44
                      clear h44
                      refine ⟨_, v79.2.map implLink.enc, rfl, (whole _), ?_⟩
                      refine ⟨rfl, nod rfl, rfl, rfl, _, rfl, rfl, ?_⟩
                      refine (l_heldChain.ok (implChain.mk v79.2) 1 _ ev111).mono ?_
                      rintro _ _ _ _ ⟨rfl, rfl, rfl, rfl⟩
                      refine ⟨rfl, rfl, rfl, rfl, rfl, trivial, ?_⟩
                      refine ⟨lit [(12, .d (.int .i64 v79.1)), (13, .d (.int .i64 v111))] [] [], (le_lit (And.intro (ve rfl) (And.intro (ve rfl) trivial)) trivial trivial), ?_⟩
                      refine And.intro rfl ?_
                      refine ⟨lit [(12, .d (.int .i64 v79.1)), (13, .d (.int .i64 v111)), (113, .d (.bool (decide (v111 < 0))))] [] [], (le_lit (And.intro (ve rfl) (And.intro (ve rfl) (And.intro (ve rfl) trivial))) trivial trivial), ?_⟩
                      by_cases c19 : v111 < 0
                      · have h46 := if_t c19 h45
                        clear h45
                        refine and_t (decide_eq_true c19) ?_
                        cases h46
                        exact ⟨[], nod rfl, all_lt rfl, blt_lt rfl, _, _, rfl, rfl, rfl, rfl, rfl, rfl⟩
                      · have h47 := if_f c19 h45
                        clear h45
                        refine and_f (decide_eq_false c19) ?_
                        refine ⟨lit [(12, .d (.int .i64 v79.1)), (13, .d (.int .i64 v111))] [] [], (le_lit (And.intro (ve rfl) (And.intro (ve rfl) trivial)) trivial trivial), ?_⟩
                        refine And.intro rfl ?_
                        refine ⟨lit [(116, .d (.bool (!(decide (v111 = v79.1)))))] [] [], (le_lit (And.intro (ve rfl) trivial) trivial trivial), ?_⟩
                        by_cases c20 : v111 = v79.1
                        · have h48 := if_t c20 h47
                          clear h47
                          refine and_f (not_f (decide_eq_true c20)) ?_
                          cases h48
                          exact ⟨[], nod rfl, all_lt rfl, blt_lt rfl, _, _, rfl, rfl, rfl, rfl, rfl, rfl⟩
                        · have h49 := if_f c20 h47
                          clear h47
                          refine and_t (not_t (decide_eq_false c20)) ?_
                          cases h49
                          exact ⟨[], nod rfl, all_lt rfl, blt_lt rfl, _, _, rfl, rfl, rfl, rfl, rfl, rfl⟩
                · have h50 := if_f c14 h33
                  clear h33
                  refine and_t (not_t (decide_eq_false c14)) ?_
                  cases h50
                  exact ⟨[], nod rfl, all_lt rfl, blt_lt rfl, _, _, rfl, rfl, rfl, rfl, rfl, rfl⟩
        · have h51 := if_f c8 h17
          clear h17
          refine and_t (not_t (ne_t c8)) ?_
          cases h51
          exact ⟨[], nod rfl, all_lt rfl, blt_lt rfl, _, _, rfl, rfl, rfl, rfl, rfl, rfl⟩
end Go.Vm
end
section
/- The draining loops, and the law of the drains. -/
namespace Go.Vm
theorem passLs_log {n : Nat} {ls : List implLink} (h : Inv n ls) {k : Nat} (hk : k + 1 < n) (j : Nat) : (nth (passLs ls k) j).Log =
    if k = j then (nth ls k).Log else if k + 1 = j then (nth ls (k + 1)).Log ++ [(nth ls k).Log.getD (nth ls (k + 1)).Log.length []] else (nth ls j).Log := by
  unfold passLs
  rw [tailFix_log, midLs_nth (by rw [h.len]; exact hk)]
  split
  · rfl
  · split <;> rfl
theorem drInner {n : Nat} (h6 : n ≤ 6) {k : Nat} (hk : k < n) : ∀ (d : Nat) (ls : List implLink) (x : Int) (f : Nat), Inv n ls → (nth ls k).Log.length ≤ (nth ls (k + 1)).Log.length + d → d < f → 0 ≤ x → x + d ≤ 1000000 →
    ∃ ls' x', i_DrainChain.l3 k f ls x = some (ls', x') ∧ (k + 1 < n → s_DrainChain.l4 (k : Int) f ls x = some (ls', x')) ∧ Inv n ls' ∧ 0 ≤ x' ∧ x' ≤ x + d ∧ (k + 1 = n → ls' = ls ∧ x' = x)
  | d, ls, x, 0, h, hd, hf, h0, h1 => by omega
  | d, ls, x, f + 1, h, hd, hf, h0, h1 => by
    rw [i_DrainChain.l3, s_DrainChain.l4, bind_eq (pass_i h h6 hk)]
    by_cases hc : k + 1 < n ∧ (nth ls (k + 1)).Log.length < (nth ls k).Log.length
    · rw [if_pos hc, if_pos rfl, bind_eq (ck64 (by omega) (by omega))]
      obtain ⟨d, rfl⟩ : ∃ e, d = e + 1 := ⟨d - 1, by omega⟩
      have hl1 : (nth (passLs ls k) k).Log = (nth ls k).Log := by rw [passLs_log h hc.1, if_pos rfl]
      have hl2 : (nth (passLs ls k) (k + 1)).Log.length = (nth ls (k + 1)).Log.length + 1 := by rw [passLs_log h hc.1, if_neg (by omega), if_pos rfl]; simp
      obtain ⟨ls', x', e1, e2, e3, e4, e5, e6⟩ := drInner h6 hk d (passLs ls k) (x + 1) f (pass_inv h hc.1 hc.2) (by rw [hl1, hl2]; omega) (by omega) (by omega) (by omega)
      refine ⟨ls', x', e1, fun hk1 => ?_, e3, e4, by omega, fun hk1 => by omega⟩
      rw [bind_eq (pass_s h h6 hk1), if_pos hc, if_pos rfl, bind_eq (ck64 (by omega) (by omega))]
      exact e2 hk1
    · rw [if_neg hc, if_neg (by simp)]
      refine ⟨ls, x, rfl, fun hk1 => ?_, h, h0, by omega, fun _ => ⟨rfl, rfl⟩⟩
      rw [bind_eq (pass_s h h6 hk1), if_neg hc, if_neg (by simp)]
theorem drOuter {n : Nat} (h6 : n ≤ 6) : ∀ (ys : List implLink) (k : Nat) (ls : List implLink) (x : Int) (f : Nat), ys ≠ [] → k + ys.length = n → Inv n ls → ys.length < f → 0 ≤ x → x + 40 * ys.length ≤ 1000000 →
    ∃ ls' x', i_DrainChain.l1 ys k ls x = some (ls', x') ∧ s_DrainChain.l1 f ls x (k : Int) = some (ls', x') ∧ Inv n ls' ∧ 0 ≤ x' ∧ x' ≤ x + 40 * ys.length
  | [], k, ls, x, f, hne, hk, h, hf, h0, h1 => absurd rfl hne
  | y :: ys, k, ls, x, 0, hne, hk, h, hf, h0, h1 => by omega
  | y :: ys, k, ls, x, f + 1, hne, hk, h, hf, h0, h1 => by
    simp only [List.length_cons] at hk hf h1
    have hl := h.len
    rw [i_DrainChain.l1, s_DrainChain.l1, bind_eq (ck_last (by omega) (by omega))]
    have h40 := (h.ok k (by omega)).1
    obtain ⟨ls', x', e1, e2, e3, e4, e5, e6⟩ := drInner h6 (show k < n by omega) 40 ls x big h (by omega) (by unfold big; omega) h0 (by omega)
    rw [bind_eq e1]
    by_cases hz : ys = []
    · subst hz
      simp only [List.length_nil] at hk
      have := e6 (by omega)
      rw [if_neg (by omega)]
      refine ⟨ls', x', rfl, by rw [this.1, this.2], e3, e4, by simp only [List.length_cons, List.length_nil]; omega⟩
    · have hp : 0 < ys.length := List.length_pos_iff.mpr hz
      rw [if_pos (by omega), bind_eq (e2 (by omega))]
      unfold s_DrainChain.j5
      rw [bind_eq (ck_succ (by omega))]
      obtain ⟨ls2, x2, f1, f2, f3, f4, f5⟩ := drOuter h6 ys (k + 1) ls' x' f hz (by omega) e3 (by omega) e4 (by omega)
      exact ⟨ls2, x2, f1, f2, f3, f4, by simp only [List.length_cons]; omega⟩
def backLs (ls : List implLink) (k : Nat) : List implLink := ls.set k ⟨(nth ls k).Log, (nth ls k).Sent, (nth ls (k + 1)).Sure⟩
theorem back_inv {n : Nat} {ls : List implLink} (h : Inv n ls) {k : Nat} (hk : k + 1 < n) : Inv n (backLs ls k) := by
  have hl := h.len
  unfold backLs
  refine ⟨by simpa using hl, fun j hj => ?_, ?_, ?_⟩
  · rw [nth_set]; split
    · exact h.ok k (by omega)
    · exact h.ok j hj
  · rw [nth_set, if_neg (by omega)]; exact h.sent
  · rw [nth_set, if_neg (by omega)]; exact h.sure
theorem back_i {n : Nat} {ls : List implLink} (h : Inv n ls) (h6 : n ≤ 6) {k : Nat} (hk : k + 1 < n) :
    i_Chain_back ⟨ls⟩ (k : Int) = some (if (nth ls (k + 1)).Sure ≤ (nth ls k).Sure then (false, ls) else (true, backLs ls k)) := by
  have hl := h.len
  unfold i_Chain_back
  dsimp only
  rw [bind_eq (ck64 (by omega) (by omega))]
  obtain ⟨r, e1, e2⟩ := within_eq (k : Int) 0 ((ls.length : Int) - 2)
  rw [bind_eq e1, if_pos (e2.mpr ⟨by omega, by omega⟩), bind_eq (ck_succ (by omega)), bind_eq (ix_nth (by omega)), bind_eq (ix_nth (by omega))]
  unfold i_Chain_back.j1
  by_cases hc : (nth ls (k + 1)).Sure ≤ (nth ls k).Sure
  · rw [if_pos (by simpa using hc), if_pos hc]
  · rw [if_neg (by simpa using hc), if_neg hc]
    dsimp only
    rw [bind_eq (ck_succ (by omega)), bind_eq (ix_nth (by omega)), bind_eq (ix_nth (by omega)), bind_eq (setN_nat ls k _)]; rfl
theorem back_s {n : Nat} {ls : List implLink} (h : Inv n ls) (h6 : n ≤ 6) {k : Nat} (hk : k + 1 < n) :
    s_l15Step_al ⟨ls⟩ ⟨3, (k : Int), []⟩ = some (if (nth ls (k + 1)).Sure ≤ (nth ls k).Sure then (⟨ls⟩, false) else (⟨backLs ls k⟩, true)) := by
  have hl := h.len
  unfold s_l15Step_al
  dsimp only
  rw [if_neg (show ¬ (3 : Int) = 1 by decide), if_neg (show ¬ (3 : Int) = 5 by decide), bind_eq (ck_last (by omega) (by omega))]
  obtain ⟨r, e1, e2⟩ := l1In_eq (k : Int) 0 ((ls.length - 1 : Nat) : Int)
  rw [bind_eq e1, if_pos (e2.mpr ⟨by omega, by omega⟩), if_neg (show ¬ (3 : Int) = 2 by decide), if_pos rfl, if_neg (by omega), bind_eq (ck_succ (by omega)), bind_eq (ix_nth (by omega)), bind_eq (ix_nth (by omega))]
  unfold s_l15Step_al.j3
  by_cases hc : (nth ls (k + 1)).Sure ≤ (nth ls k).Sure
  · rw [if_pos (by simpa using hc), if_pos hc]
  · rw [if_neg (by simpa using hc), if_neg hc]
    dsimp only
    rw [bind_eq (ck_succ (by omega)), bind_eq (ix_nth (by omega)), bind_eq (ix_nth (by omega)), bind_eq (setN_nat ls k _)]; rfl
theorem drBacks {n : Nat} (h6 : n ≤ 6) : ∀ (m : Nat) (ls : List implLink) (x : Int) (f : Nat), m + 1 ≤ n → Inv n ls → m < f → 0 ≤ x → x + m ≤ 1000000 →
    ∃ ls' x', i_DrainChain.l5 f ls x ((m : Int) - 1) = some (ls', x') ∧ s_DrainChain.l7 f ls x ((m : Int) - 1) = some (ls', x') ∧ Inv n ls' ∧ 0 ≤ x' ∧ x' ≤ x + m
  | m, ls, x, 0, hm, h, hf, h0, h1 => by omega
  | 0, ls, x, f + 1, hm, h, hf, h0, h1 => by
    rw [i_DrainChain.l5, s_DrainChain.l7, if_neg (by omega), if_neg (by omega)]
    exact ⟨ls, x, rfl, rfl, h, h0, by omega⟩
  | m + 1, ls, x, f + 1, hm, h, hf, h0, h1 => by
    rw [show ((m + 1 : Nat) : Int) - 1 = (m : Int) by omega]
    rw [i_DrainChain.l5, s_DrainChain.l7, if_pos (by omega), if_pos (by omega), bind_eq (back_i h h6 (show m + 1 < n by omega)), bind_eq (back_s h h6 (show m + 1 < n by omega))]
    unfold i_DrainChain.j7 s_DrainChain.j9
    by_cases hc : (nth ls (m + 1)).Sure ≤ (nth ls m).Sure
    · rw [if_pos hc, if_pos hc, if_neg (by simp), if_neg (by simp), bind_eq (ck64 (by omega) (by omega)), bind_eq (ck64 (by omega) (by omega))]
      obtain ⟨ls', x', e1, e2, e3, e4, e5⟩ := drBacks h6 m ls x f (by omega) h (by omega) h0 (by omega)
      exact ⟨ls', x', e1, e2, e3, e4, by omega⟩
    · rw [if_neg hc, if_neg hc, if_pos rfl, if_pos rfl, bind_eq (ck64 (by omega) (by omega)), bind_eq (ck64 (n := x + 1) (by omega) (by omega))]
      rw [bind_eq (ck64 (by omega) (by omega)), bind_eq (ck64 (by omega) (by omega))]
      obtain ⟨ls', x', e1, e2, e3, e4, e5⟩ := drBacks h6 m (backLs ls m) (x + 1) f (by omega) (back_inv h (by omega)) (by omega) (by omega) (by omega)
      exact ⟨ls', x', e1, e2, e3, e4, by omega⟩
end Go.Vm
end
section
/- The law of the drains. -/
namespace Go.Vm
theorem drains (ls : List implLink) (hn : ls.length ≤ 1048576) (hl : ∀ l ∈ ls, l.Log.length ≤ 1048576) :
    ∃ ls' x b, i_DrainChain ⟨ls⟩ = some (⟨ls'⟩, x, b) ∧ s_DrainChain ⟨ls⟩ = some (⟨ls'⟩, x, b) ∧ ls'.length ≤ 6 ∧ ∀ l ∈ ls', l.Log.length ≤ 40 := by
  obtain ⟨r1, e1, e2⟩ := impGood ⟨ls⟩ hn hl
  obtain ⟨r2, f1, f2⟩ := specGood ⟨ls⟩ hn hl
  unfold i_DrainChain s_DrainChain
  rw [bind_eq e1, bind_eq f1]
  by_cases hc : r1 = true
  · have hg := e2.mp hc
    rw [if_pos hc, if_pos (f2.mpr hg), bind_eq (own_i ⟨ls⟩ hn hl), bind_eq (own_s ⟨ls⟩ hn hl), bind_eq (guard_true (by show (ls.length : Int) < _; omega))]
    have hi : Inv ls.length ls := hg.inv
    have h1 : 1 ≤ ls.length := hg.1
    have h6 : ls.length ≤ 6 := hg.2.1
    obtain ⟨l1, x1, g1, g2, g3, g4, g5⟩ := drOuter h6 ls 0 ls 0 big (by intro h; rw [h] at h1; simp at h1) (by omega) hi (by unfold big; omega) (Int.le_refl 0) (by omega)
    rw [bind_eq (show i_DrainChain.l1 ls 0 ls 0 = some _ from g1), bind_eq (show s_DrainChain.l1 big ls 0 0 = some _ from g2)]
    unfold i_DrainChain.j4 s_DrainChain.j6
    have hl1 := g3.len
    dsimp only
    have e3 : ckK .i64 ((l1.length : Int) - 2) = some (((ls.length - 1 : Nat) : Int) - 1) := by rw [ck64 (by omega) (by omega)]; congr 1; omega
    obtain ⟨l2, x2, k1, k2, k3, k4, k5⟩ := drBacks h6 (ls.length - 1) l1 x1 big (by omega) g3 (by unfold big; omega) g4 (by omega)
    rw [bind_eq e3, bind_eq e3, bind_eq k1, bind_eq k2]
    refine ⟨l2, x2, true, rfl, rfl, by rw [k3.len]; exact h6, fun l hl => ?_⟩
    obtain ⟨j, hj, ej⟩ := List.getElem_of_mem hl
    have := (k3.ok j (by rw [← k3.len]; exact hj)).1
    rw [nth_get hj, ej] at this; exact this
  · have hc2 : ¬ r2 = true := fun h => hc (e2.mpr (f2.mp h))
    rw [if_neg hc, if_neg hc2]
    exact ⟨[], 0, false, rfl, rfl, by simp, fun l h => by cases h⟩
theorem cntL_le : ∀ (ls : List implLink), (∀ l ∈ ls, l.Log.length ≤ 40) → cntL ls ≤ 42 * ls.length
  | [], h => by simp [cntL]
  | l :: ls, h => by
    have h1 := h l (by simp)
    have h2 := cntL_le ls (fun l h' => h l (by simp [h']))
    simp only [cntL, List.length_cons]; omega
theorem cntL_map : ∀ (ls : List lawsLink), cntL (ls.map linkOf) = sumLog ls + 2 * ls.length
  | [] => rfl
  | l :: ls => by
    have := cntL_map ls
    simp only [List.map_cons, cntL, sumLog, List.length_cons, this, linkOf]; omega
theorem drainLaw (p0 : lawsChain) (hm : modestL p0.Links) : l_FnExactDrainChain p0 = some true := by
  unfold l_FnExactDrainChain
  obtain ⟨r, e1, e2⟩ := szChain p0 hm 1048576 (by omega) (by omega)
  rw [bind_eq e1]
  rcases e2 with e2 | ⟨e2, e3, e4⟩
  · rw [if_pos (by omega)]
  rw [if_neg (by omega)]
  have hn : p0.Links.length ≤ 1048576 := by have := e4.1; omega
  have hl : ∀ l ∈ p0.Links, l.Log.length ≤ 1048576 := fun l h => by have := (e4.2 l h).1; omega
  have ht := toChain p0 hn hl
  have hn2 : (chainOf p0).Links.length ≤ 1048576 := by simp [chainOf]; exact hn
  have hl2 : ∀ l ∈ (chainOf p0).Links, l.Log.length ≤ 1048576 := fun l h => by
    simp only [chainOf, List.mem_map] at h
    obtain ⟨a, h1, h2⟩ := h
    subst h2; exact hl a h1
  obtain ⟨ls', x, b, d1, d2, d3, d4⟩ := drains (chainOf p0).Links hn2 hl2
  have d1' : i_DrainChain (chainOf p0) = some (⟨ls'⟩, x, b) := d1
  have d2' : s_DrainChain (chainOf p0) = some (⟨ls'⟩, x, b) := d2
  have hq : l_eqChain ⟨ls'⟩ ⟨ls'⟩ = some true := by
    rw [eqChain ⟨ls'⟩ ⟨ls'⟩ (show ls'.length ≤ _ by omega) (fun l h => by have := d4 l h; omega)]; simp
  have hq2 : l_eqChain (chainOf p0) (chainOf p0) = some true := by rw [eqChain _ _ hn2 hl2]; simp
  rw [bind_eq ht, bind_eq d2', bind_eq ht, bind_eq d1']
  dsimp only
  rw [bind_eq hq, if_pos rfl, if_pos rfl]
  have hb : ((b == b) != true) = false := by cases b <;> rfl
  rw [hb]
  unfold l_FnExactDrainChain.j1
  rw [if_neg (by simp), bind_eq ht, bind_eq hq2, if_pos rfl]
  have hc := cntL_map p0.Links
  have hcl : cntL (chainOf p0).Links ≤ 3145728 := by
    show cntL (p0.Links.map linkOf) ≤ _
    rw [hc]; omega
  have hcn := cntL_nonneg (chainOf p0).Links
  rw [bind_eq (markChain (chainOf p0) 1 (by omega) (fun l h => by have := hl2 l h; omega) (by omega) (by omega))]
  dsimp only
  rw [if_neg (by omega), bind_eq hq, if_pos rfl, if_pos rfl, hb]
  unfold l_FnExactDrainChain.j2
  rw [if_neg (by simp)]
  have hcs := cntL_le ls' d4
  have hcn2 := cntL_nonneg ls'
  dsimp only
  rw [bind_eq (markChain ⟨ls'⟩ 1 (show ls'.length ≤ _ by omega) (fun l h => by have := d4 l h; omega) (by omega) (show 1 + cntL ls' ≤ _ by omega))]
  have hh := heldChain ls' 1 (by omega) (fun l h => by have := d4 l h; omega) (by omega) (by omega)
  dsimp only
  rw [bind_eq hh, if_neg (by omega), if_pos rfl, bind_eq ht, bind_eq d1']
  dsimp only
  rw [bind_eq hq, if_pos rfl, if_pos rfl, hb]
  unfold l_FnExactDrainChain.j3
  rw [if_neg (by simp)]
  dsimp only
  rw [bind_eq hh, if_neg (by omega), if_pos rfl]
end Go.Vm
end
section
/- The row of FnExactDrainChain. -/
namespace Go.Proofs.Ytcjakndaogdbiaa.drain
open Go.Vm Go.ChangeShapes Go.WideShapes Go.ChangeAt Go.RowKit
theorem own : ownKnob Try.prog.godebug = none := by kernel_rfl
theorem laidOut : laidOutB Try.prog = true := by kernel_rfl
theorem okWide_struct {P : Program} {W : World} {r : Reach} {base : Nat} {t : TypeId} {fs : Array Field} {v : Value} (ht : P.underlying t = some (.struct fs)) (h : Value.okWide P W r base t v) : ∃ cs, v = .agg cs := by
  unfold Value.okWide at h
  rw [ht] at h
  obtain ⟨cs, h1, _⟩ := h
  exact ⟨cs, h1⟩
set_option maxRecDepth 100000 in
theorem lifted (os : Os) (started : os.Started) (H : Type) (enc : TypeId × Value → H) :
    ReturnsInHanded {} Try.checked os 5 .any (Rows.fnExactDrainChainSpec.pre6 enc Try.prog Try.f5 Rows.fnExactDrainChainRow.domain false) (Rows.fnExactDrainChainSpec.post enc Try.prog Try.f5 false true false false) := by
  refine returnsInHanded_of_change_sized (C := Try.checked) own started (by kernel_rfl) Try.func5
    (ChangeSpec.witness6 (enc := enc) (C := Try.checked) false ⟨#[], #[.agg #[.slice none 0 0]], []⟩ 8 (by kernel_rfl) (by kernel_rfl) (by kernel_rfl) (by kernel_rfl)) ?_
  intro W base args ds gs before hval0 hW hcnd hsz0 _
  have hval : ∀ (j : Nat) t v, Try.f5.params[j]? = some t → args[j]? = some v → Value.okWide Try.prog W .any base t v := hval0
  have hW' := hW
  obtain ⟨p, q, hA0, hV, rfl, hfz, hnd⟩ := hW
  have hA : DataW.TrodAll enc Try.prog W 0 (fun _ => true) true Try.f5.params.toList args.toList ds p := hA0
  rw [Try.params5] at hA hval
  obtain ⟨v0, vs0, d0, ds0, p0, q0, hargs, rfl, rfl, h0, r0⟩ := trodAll_cons hA
  obtain ⟨rfl, rfl, rfl⟩ := trodAll_nil r0
  obtain rfl : args = #[v0] := by cases args; simp_all
  obtain ⟨rfl, rfl⟩ := trodVars_none hV
  obtain ⟨cs0, rfl⟩ := okWide_struct Try.underlying52 (hval 0 52 v0 rfl rfl)
  have lt0 : ∀ x ∈ p0, x.block < W.heap.size := by obtain ⟨m, hm⟩ := h0; exact DataW.trod_lt m _ _ _ hm
  have k0 := h0
  obtain ⟨fuel, hf⟩ := h0
  have hf' : DataW.trod enc Try.prog W 0 (fun _ => true) true fuel 52 cs0.toList = some (d0, p0) := hf
  obtain ⟨ds, ⟨c, hm, rfl⟩, _, hlen, hcell⟩ := rd_chain fuel _ _ hf'
  clear hA0 hval0 hsz0
  refine (first_call (l_FnExactDrainChain.ok c true (drainLaw c hm)) W #[.agg cs0] ?_).mono fun e W' ⟨he, bel⟩ => ?_
  · obtain ⟨c0, e1, e2⟩ := hcell 0 _ rfl
    simp only [VRelL, VRel, and_true]
    refine ⟨cs0, rfl, ?_⟩
    match hcs : cs0.toList, hlen, e1 with
    | [y], _, e1 =>
      simp only [List.getElem?_cons_zero, Option.some.injEq] at e1
      subst e1
      simp only [VRelL, VRel, and_true]
      exact e2
  · subst he
    exact ⟨_, rfl, _, _, _, [], _, [], hW', trodAll_mk1 (shut_bool Try.underlying4 _), (trodAll_cons_mk (Below.trod laidOut (by kernel_rfl) (of_decide_eq_true (by kernel_rfl)) k0 bel lt0) trodAll_mk0), rfl, bel.frame _, fun h => by cases h⟩
theorem over : Rows.fnExactDrainChainRow.holds Try.pinned (OpenSpec.ofChange Rows.fnExactDrainChainSpec) :=
  OpenClaim.holds_of_wide 5 Try.f5 rfl rfl rfl rfl rfl rfl rfl ⟨rfl, rfl, rfl, rfl, rfl⟩ rfl rfl rfl rfl rfl (by kernel_rfl) Try.func5 (by kernel_rfl)
    (of_decide_eq_true (by kernel_rfl)) (by unfold Func.isWrapper; first | (rw [if_pos (by decide +kernel)]; kernel_rfl) | (rw [if_neg (by decide +kernel)]; exact ⟨rfl, rfl⟩))
    (fun os started H enc _ => lifted os started H enc)
end Go.Proofs.Ytcjakndaogdbiaa.drain
namespace Go.Proofs.Ytcjakndaogdbiaa
theorem fnExactDrainChain_holds : Rows.FnExactDrainChainSaid := drain.over
end Go.Proofs.Ytcjakndaogdbiaa
end
