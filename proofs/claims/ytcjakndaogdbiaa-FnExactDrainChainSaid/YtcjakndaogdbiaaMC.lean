/- The law FnExactDrainChain of this seat holds for every input, by a small machine whose steps are proved against the model, and by plain functions printed for it. No condition. -/
import Derived.Test.YtcjakndaogdbiaaMA
import Derived.Test.YtcjakndaogdbiaaMB
import Derived.ChangeOld
import Derived.ChangeArms
import Derived.Test.YtcjakndaogdbiaaProg
import Derived.KernelRfl
import Derived.Below
set_option linter.unusedVariables false
set_option linter.unusedSimpArgs false
section
/- What is handed in, as it is read, is content that is never written. -/
namespace Go.Vm
open Go
section
variable {H : Type} {enc : TypeId × Value → H} {P : Program} {W : World}
def Rd (H : Type) (enc : TypeId × Value → H) (P : Program) (W : World) (t : TypeId) (n : Nat) (dec : List D → Prop) : Prop :=
  ∀ (fuel : Nat) (cs : List Value) (x : DataW H × List MemPlace), DataW.trod enc P W 0 (fun _ => true) true fuel t cs = some x →
    ∃ ds, dec ds ∧ ds.length = n ∧ cs.length = n ∧ ∀ (j : Nat) (d : D), ds[j]? = some d → ∃ c, cs[j]? = some c ∧ Imm W (fun b => b < W.heap.size) c d
def i64ok (n : Int) : Prop := -9223372036854775808 ≤ n ∧ n ≤ 9223372036854775807
theorem one_of {p : D → Prop} {d : D} (h : p d) : ∀ (j : Nat) (e : D), [d][j]? = some e → j = 0 ∧ e = d
  | 0, e, h => by simpa [eq_comm] using h
  | j + 1, e, h => by simp at h
theorem wf_i64 {n : Int} (h : (Lit.int .i64 n).wf = true) : i64ok n := by
  simp only [Lit.wf, Bool.and_eq_true, decide_eq_true_eq] at h
  rw [show IntKind.min .i64 = -9223372036854775808 by decide, show IntKind.max .i64 = 9223372036854775807 by decide] at h
  exact h
theorem rd_int {t : TypeId} (ht : P.underlying t = some (.int .i64)) : Rd H enc P W t 1 (fun ds => ∃ n, i64ok n ∧ ds = [.int .i64 n]) := by
  intro fuel cs x h
  obtain ⟨n, rfl, _, hw⟩ := DataW.trod_int ht h
  refine ⟨[.int .i64 n], ⟨n, wf_i64 hw, rfl⟩, rfl, rfl, fun j d hd => ?_⟩
  obtain ⟨rfl, rfl⟩ := one_of (p := fun _ => True) trivial j d hd
  exact ⟨_, rfl, by simp only [Imm]⟩
theorem rd_bool {t : TypeId} (ht : P.underlying t = some .bool) : Rd H enc P W t 1 (fun ds => ∃ b, ds = [.bool b]) := by
  intro fuel cs x h
  obtain ⟨n, rfl, _⟩ := DataW.trod_bool ht h
  refine ⟨[.bool n], ⟨n, rfl⟩, rfl, rfl, fun j d hd => ?_⟩
  obtain ⟨rfl, rfl⟩ := one_of (p := fun _ => True) trivial j d hd
  exact ⟨_, rfl, by simp only [Imm]⟩
theorem rd_str {t : TypeId} (ht : P.underlying t = some .string) : Rd H enc P W t 1 (fun ds => ∃ s : List UInt8, s.length ≤ 9223372036854775807 ∧ ds = [.str s]) := by
  intro fuel cs x h
  obtain ⟨s, rfl, _, hs⟩ := DataW.trod_string ht h
  refine ⟨[.str s.data.toList], ⟨_, by
    have : s.data.toList.length = s.size := by rw [Array.length_toList]; rfl
    rw [this]; exact hs, rfl⟩, rfl, rfl, fun j d hd => ?_⟩
  obtain ⟨rfl, rfl⟩ := one_of (p := fun _ => True) trivial j d hd
  exact ⟨_, rfl, by simp only [Imm, bytesVal]⟩
theorem one_of' {α : Type} {a : α} : ∀ (j : Nat) (e : α), [a][j]? = some e → j = 0 ∧ e = a
  | 0, e, h => by simpa [eq_comm] using h
  | j + 1, e, h => by simp at h
theorem exists_list {α : Type} (p : Nat → α → Prop) : ∀ n : Nat, (∀ i, i < n → ∃ a, p i a) → ∃ l : List α, l.length = n ∧ ∀ i a, l[i]? = some a → p i a
  | 0, _ => ⟨[], rfl, fun i a h => by simp at h⟩
  | n + 1, h => by
    obtain ⟨l, h1, h2⟩ := exists_list p n fun i hi => h i (by omega)
    obtain ⟨a, ha⟩ := h n (by omega)
    refine ⟨l ++ [a], by simp [h1], fun i b hb => ?_⟩
    by_cases hi : i < n
    · rw [List.getElem?_append_left (by omega)] at hb; exact h2 i b hb
    · rw [List.getElem?_append_right (by omega)] at hb
      obtain ⟨e1, rfl⟩ := one_of' _ _ hb
      rw [show i = n by omega]; exact ha
theorem immCells_of {I : Nat → Prop} {b : Nat} : ∀ (ds : List D) (o : Nat), (∀ j d, ds[j]? = some d → ∃ c, W.cell? ⟨b, o + j, none⟩ = some c ∧ Imm W I c d) → ImmCells W I b o ds
  | [], o, h => by simp only [ImmCells]
  | d :: ds, o, h => by
    simp only [ImmCells]
    exact ⟨by simpa using h 0 d rfl, immCells_of ds (o + 1) fun j e he => by have := h (j + 1) e (by simpa using he); rwa [show o + (j + 1) = o + 1 + j by omega] at this⟩
theorem immRows_of {I : Nat → Prop} {b sz : Nat} : ∀ (rows : List (List D)) (o : Nat), (∀ i row, rows[i]? = some row → row.length = sz ∧ ∀ j d, row[j]? = some d → ∃ c, W.cell? ⟨b, o + i * sz + j, none⟩ = some c ∧ Imm W I c d) → ImmRows W I b o sz rows
  | [], o, h => by simp only [ImmRows]
  | r :: rows, o, h => by
    simp only [ImmRows]
    have h0 := h 0 r rfl
    refine ⟨h0.1, immCells_of r o fun j d hd => by simpa using h0.2 j d hd, immRows_of rows (o + sz) fun i row hr => ?_⟩
    have := h (i + 1) row (by simpa using hr)
    refine ⟨this.1, fun j d hd => ?_⟩
    have h2 := this.2 j d hd
    rwa [show o + (i + 1) * sz + j = o + sz + i * sz + j by rw [Nat.succ_mul]; omega] at h2
theorem cell_spot {a : Addr} {c : Value} (h : W.cell? a = some c) : a.spot = none ∧ a.block < W.heap.size := by
  unfold World.cell? at h
  split at h
  · rename_i hb
    split at h
    · cases h
    · rename_i hs
      refine ⟨by cases hx : a.spot <;> simp_all, ?_⟩
      exact (Array.getElem?_eq_some_iff.1 hb).1
  · cases h
theorem cells_get {a : Addr} {n : Nat} {cs : List Value} (h : W.cells? 0 a n = some cs) : cs.length = n ∧ ∀ i c, cs[i]? = some c → W.cell? (a.add i) = some c := by
  unfold World.cells? at h
  rw [if_pos (Nat.zero_le _)] at h
  have hl : cs.length = n := by simpa using mapM_some_length h
  refine ⟨hl, fun i c hc => ?_⟩
  have hi : i < n := by have := (List.getElem?_eq_some_iff.1 hc).1; omega
  have := mapM_some_get h i i (by simp [hi])
  rw [this, hc]
theorem add_add {a : Addr} {n m : Nat} (h : (a.add (n + m)).spot = none) : (a.add n).add m = a.add (n + m) := by
  unfold Addr.add at h ⊢
  by_cases hn : n = 0
  · subst hn; simp
  · by_cases hm : m = 0
    · subst hm; simp
    · simp [hn, hm, Nat.add_assoc]
theorem rd_slice {t e : TypeId} {n : Nat} {dec : List D → Prop} (ht : P.underlying t = some (.slice e)) (hn : P.cellsOf e = n) (h0 : 0 < n) (he : Rd H enc P W e n dec) :
    Rd H enc P W t 1 (fun ds => ∃ rows : List (List D), rows.length ≤ 9223372036854775807 ∧ (∀ r ∈ rows, dec r) ∧ ds = [.sl rows]) := by
  intro fuel cs x h
  rcases DataW.trod_slice ht h with ⟨rfl, _⟩ | ⟨a, len, cap, elems, rest, m, _, rfl, _, _, hl, hm, hlen, hel, _, _⟩
  · refine ⟨[.sl []], ⟨[], Nat.zero_le _, fun r hr => (List.not_mem_nil hr).elim, rfl⟩, rfl, rfl, fun j d hd => ?_⟩
    obtain ⟨rfl, rfl⟩ := one_of (p := fun _ => True) trivial j d hd
    exact ⟨_, rfl, by simp only [Imm]; exact ⟨none, 0, rfl, Nat.le_refl _, .inl rfl⟩⟩
  · obtain ⟨rows, hr1, hr2⟩ := exists_list (fun i (row : List D) => dec row ∧ row.length = n ∧ ∀ j d, row[j]? = some d → ∃ c, W.cell? ((a.add (i * n)).add j) = some c ∧ Imm W (fun b => b < W.heap.size) c d) len (by
      intro i hi
      have h1 := hel i hi
      rw [hn, List.getElem?_eq_getElem (by omega), Option.bind_eq_some_iff] at h1
      obtain ⟨cs', h2, h3⟩ := h1
      obtain ⟨ds, k1, k2, k3, k4⟩ := he _ _ _ h3
      refine ⟨ds, k1, k2, fun j d hd => ?_⟩
      obtain ⟨c, k5, k6⟩ := k4 j d hd
      exact ⟨c, (cells_get h2).2 j c k5, k6⟩)
    refine ⟨[.sl rows], ⟨rows, by rw [hr1]; exact Nat.le_trans hl hm, fun r hr => by
      obtain ⟨i, hi⟩ := List.getElem?_of_mem hr
      exact (hr2 i r hi).1, rfl⟩, rfl, rfl, fun j d hd => ?_⟩
    obtain ⟨rfl, rfl⟩ := one_of (p := fun _ => True) trivial j d hd
    refine ⟨_, rfl, ?_⟩
    simp only [Imm]
    refine ⟨some a, cap, by rw [hr1], by rw [hr1]; exact hl, ?_⟩
    by_cases hz : len = 0
    · left; omega
    right
    obtain ⟨r0, e0⟩ : ∃ r0, rows[0]? = some r0 := ⟨rows[0], List.getElem?_eq_getElem (by omega)⟩
    have g0 := hr2 0 r0 e0
    obtain ⟨c0, f1, f2⟩ := g0.2.2 0 (r0[0]'(by omega)) (List.getElem?_eq_getElem (by omega))
    have fa : W.cell? a = some c0 := by simpa [Addr.add] using f1
    obtain ⟨s1, s2⟩ := cell_spot fa
    obtain ⟨b, o, sp⟩ := a
    simp only at s1 s2
    subst s1
    refine ⟨b, o, n, rfl, s2, immRows_of rows o fun i row hi => ?_⟩
    obtain ⟨_, q1, q2⟩ := hr2 i row hi
    refine ⟨q1, fun j d hd => ?_⟩
    obtain ⟨c, q3, q4⟩ := q2 j d hd
    refine ⟨c, ?_, q4⟩
    have e1 : ((⟨b, o, none⟩ : Addr).add (i * n)).add j = ⟨b, o + i * n + j, none⟩ := by
      unfold Addr.add
      by_cases z1 : i * n = 0 <;> by_cases z2 : j = 0 <;> simp [z1, z2]
    rw [← e1]; exact q3
end
end Go.Vm
end
section
/- Plain laws of the printed functions' words. -/
namespace Go.Vm
theorem i64min : IntKind.min .i64 = -9223372036854775808 := by decide
theorem i64max : IntKind.max .i64 = 9223372036854775807 := by decide
theorem ck64 {n : Int} (h1 : -9223372036854775808 ≤ n) (h2 : n ≤ 9223372036854775807) : ckK .i64 n = some n := by
  unfold ckK; rw [i64min, i64max, if_pos ⟨h1, h2⟩]
theorem ix_nat {α : Type} (xs : List α) (i : Nat) : ix xs (i : Int) = xs[i]? := by unfold ix; rw [if_pos (by omega)]; rfl
theorem ix_int {α : Type} {xs : List α} {i : Int} (h : 0 ≤ i) : ix xs i = xs[i.toNat]? := by unfold ix; rw [if_pos h]
theorem ix_get {α : Type} {xs : List α} {i : Nat} (h : i < xs.length) : ix xs (i : Int) = some xs[i] := by rw [ix_nat]; exact List.getElem?_eq_getElem h
theorem guard_true {p : Prop} [Decidable p] (h : p) : guardP p = some () := by unfold guardP; rw [if_pos h]
theorem appB_eq {α : Type} {b : Nat} {xs ys : List α} (h : (xs.length + ys.length) * b ≤ 2 ^ 45) : appB b xs ys = some (xs ++ ys) := by unfold appB; rw [if_pos h]
theorem mkN_eq {α : Type} {z : α} {n : Nat} (h : n ≤ 4294967296) : mkN z (n : Int) = some (List.replicate n z) := by
  unfold mkN; rw [if_pos ⟨by omega, by omega⟩]; rfl
theorem subL_eq {α : Type} {xs : List α} {lo hi : Nat} (h1 : lo ≤ hi) (h2 : hi ≤ xs.length) : subL xs (lo : Int) (hi : Int) = some ((xs.take hi).drop lo) := by
  unfold subL; rw [if_pos ⟨by omega, by omega, by omega⟩]; rfl
theorem big_pos {n : Nat} (h : n < 4611686018427387904) : ∃ k, big = n + 1 + k := ⟨big - (n + 1), by unfold big; omega⟩
theorem bind_eq {α β : Type} {o : Option α} {a : α} {f : α → Option β} (h : o = some a) : o.bind f = f a := by rw [h]; rfl
theorem bbeq (a b : Bool) : ((a == b) != true) = !decide (a = b) := by cases a <;> cases b <;> rfl
end Go.Vm
end
section
set_option maxRecDepth 4000
set_option maxHeartbeats 1000000
namespace Go.Vm
open Go.Proofs
structure specL1Cur where
  code : (List Int)
  at_ : Int
  seed : Int
  deriving DecidableEq, Inhabited
def specL1Cur.enc (x : specL1Cur) : List D := [.sl (x.code.map (encI .u8)), .int .i64 x.at_, .int .u64 x.seed]

structure implChainStep where
  Kind : Int
  K : Int
  Text : (List UInt8)
  deriving DecidableEq, Inhabited
def implChainStep.enc (x : implChainStep) : List D := [.int .i64 x.Kind, .int .i64 x.K, .str x.Text]
theorem implChainStep.flat (x : implChainStep) : (implChainStep.enc x).all D.flat = true := rfl

structure implLink where
  Log : (List (List UInt8))
  Sent : Int
  Sure : Int
  deriving DecidableEq, Inhabited
def implLink.enc (x : implLink) : List D := [.sl (x.Log.map encS), .int .i64 x.Sent, .int .i64 x.Sure]

structure implChain where
  Links : (List implLink)
  deriving DecidableEq, Inhabited
def implChain.enc (x : implChain) : List D := [.sl (x.Links.map implLink.enc)]

structure lawsChainStep where
  Kind : Int
  K : Int
  Text : (List UInt8)
  deriving DecidableEq, Inhabited
def lawsChainStep.enc (x : lawsChainStep) : List D := [.int .i64 x.Kind, .int .i64 x.K, .str x.Text]
theorem lawsChainStep.flat (x : lawsChainStep) : (lawsChainStep.enc x).all D.flat = true := rfl

structure lawsLink where
  Log : (List (List UInt8))
  Sent : Int
  Sure : Int
  deriving DecidableEq, Inhabited
def lawsLink.enc (x : lawsLink) : List D := [.sl (x.Log.map encS), .int .i64 x.Sent, .int .i64 x.Sure]

structure lawsChain where
  Links : (List lawsLink)
  deriving DecidableEq, Inhabited
def lawsChain.enc (x : lawsChain) : List D := [.sl (x.Links.map lawsLink.enc)]

end Go.Vm
end
section
set_option maxRecDepth 4000
set_option maxHeartbeats 1000000
namespace Go.Vm
open Go.Proofs
/- loop.example/g00300/laws.szStringS -/
def l_szStringS.code : MC :=
 (.seq
  (.keep [0, 1] (.reg [⟨(some 4), none, .mov (.v (.d (.int .i64 0)))⟩]))
  (.norm (.seq
   (.keep [0, 1] (.reg [⟨(some 6), none, .mov (.t 1)⟩, ⟨(some 7), none, .mov (.t 0)⟩, ⟨(some 8), none, .len (.t 7)⟩, ⟨(some 9), none, .bin true .sub (.t 6) (.t 8)⟩, ⟨(some 1), none, .mov (.t 9)⟩]))
   (.norm (.seq
    (.seq
     (.keep [0, 1, 11] (.reg [⟨(some 10), none, .mov (.t 1)⟩, ⟨(some 11), none, .bin true .lss (.t 10) (.v (.d (.int .i64 0)))⟩]))
     (.norm (.cond (.t 11)
      (.seq
       (.keep [4] (.reg [⟨(some 4), none, .mov (.v (.d (.int .i64 (-1))))⟩]))
       .ret)
      .skip)))
    (.norm (.cut
     (.seq
      (.keep [0, 1, 5] (.reg [⟨(some 5), none, .mov (.v (.d (.int .i64 0)))⟩]))
      (.norm (.block 0
       (.loop
        (.seq
         (.seq
          (.keep [0, 1, 5, 15] (.reg [⟨(some 12), none, .mov (.t 5)⟩, ⟨(some 13), none, .mov (.t 0)⟩, ⟨(some 14), none, .len (.t 13)⟩, ⟨(some 15), none, .bin true .lss (.t 12) (.t 14)⟩]))
          (.norm (.cond (.t 15)
           .skip
           (.exit 0))))
         (.norm (.seq
          (.block 1
           (.seq
            (.keep [0, 1, 5] (.reg [⟨(some 18), none, .mov (.t 1)⟩, ⟨(some 19), none, .mov (.t 0)⟩, ⟨(some 20), none, .mov (.t 5)⟩, ⟨(some 21), none, .idx 1 (.t 19) (.t 20)⟩, ⟨(some 22), none, .load false 1 (.t 21)⟩, ⟨(some 23), none, .lens (.t 22)⟩, ⟨(some 24), none, .bin true .sub (.t 18) (.t 23)⟩, ⟨(some 1), none, .mov (.t 24)⟩]))
            (.norm (.seq
             (.keep [0, 1, 5, 26] (.reg [⟨(some 25), none, .mov (.t 1)⟩, ⟨(some 26), none, .bin true .lss (.t 25) (.v (.d (.int .i64 0)))⟩]))
             (.norm (.cond (.t 26)
              (.seq
               (.keep [4] (.reg [⟨(some 4), none, .mov (.v (.d (.int .i64 (-1))))⟩]))
               .ret)
              .skip))))))
          (.norm (.keep [0, 1, 5] (.reg [⟨(some 16), none, .mov (.t 5)⟩, ⟨(some 17), none, .bin true .add (.t 16) (.v (.d (.int .i64 1)))⟩, ⟨(some 5), none, .mov (.t 17)⟩]))))))))))
     (.seq
      (.keep [4] (.reg [⟨(some 27), none, .mov (.t 1)⟩, ⟨(some 4), none, .mov (.t 27)⟩]))
      .ret))))))))
theorem l_szStringS.chk : chkFn Try.prog 78 2 l_szStringS.code [.tmp 4] = true := by kernel_rfl
def l_szStringS.j2 (x1_2 : Int) : Option Int :=
  some x1_2
def l_szStringS.J2 (x1_2 : Int) : St :=
  lit [(1, .d (.int .i64 x1_2))] [] []
def l_szStringS.l1 (p0 : (List (List UInt8))) : Nat → Int → Int → Option (Sum Int Int)
  | 0, _, _ => none
  | k + 1, x1_l1, x5_l1 => if x5_l1 < (p0.length : Int) then ((ix p0 x5_l1).bind fun xv21 => (ckK .i64 (x1_l1 - (xv21.length : Int))).bind fun v24 => if v24 < 0 then (some (.inl (-1))) else ((ckK .i64 (x5_l1 + 1)).bind fun v17 => (l_szStringS.l1 p0 k) v24 v17)) else (some (.inr x1_l1))
def l_szStringS.S1 (p0 : (List (List UInt8))) (x1_l1 : Int) (x5_l1 : Int) : St :=
  lit [(0, .d (.sl (p0.map encS))), (1, .d (.int .i64 x1_l1)), (5, .d (.int .i64 x5_l1))] [] []
def l_szStringS.O1 (o1 : Int) : St :=
  lit [(1, .d (.int .i64 o1))] [] []
def l_szStringS (p0 : (List (List UInt8))) (p1 : Int) : Option (Int) :=
  (ckK .i64 (p1 - (p0.length : Int))).bind fun v9 => if v9 < 0 then (some (-1)) else ((l_szStringS.l1 p0 big v9 0).bind fun w1 => aft w1 fun o1 => l_szStringS.j2 o1)
theorem l_szStringS.ok (p0 : (List (List UInt8))) (p1 : Int) (r : Int) (h0 : l_szStringS p0 p1 = some r) : ACall Try.prog 78 [.d (.sl (p0.map encS)), .d (.int .i64 p1)] [] [] (fun v ob oa na => v = .d (.int .i64 r) ∧ ob = [] ∧ oa = [] ∧ na = []) := by
  refine wFn_ok l_szStringS.chk rfl ?_
  unfold l_szStringS at h0
  refine ⟨lit [(0, .d (.sl (p0.map encS))), (1, .d (.int .i64 p1))] [] [], (le_lit (And.intro (ve rfl) (And.intro (ve rfl) trivial)) trivial trivial), ?_⟩
  refine ⟨_, map_len _, ?_⟩
  obtain ⟨v9, ev9, h1⟩ := bind_some h0
  clear h0
  obtain ⟨ev9, rv9⟩ := ckK_some ev9
  refine And.intro rfl ?_
  refine ⟨v9, ev9, fun _ => rv9, ?_⟩
  refine ⟨lit [(0, .d (.sl (p0.map encS))), (1, .d (.int .i64 v9))] [] [], (le_lit (And.intro (ve rfl) (And.intro (ve rfl) trivial)) trivial trivial), ?_⟩
  refine And.intro rfl ?_
  refine ⟨lit [(0, .d (.sl (p0.map encS))), (1, .d (.int .i64 v9)), (11, .d (.bool (decide (v9 < 0))))] [] [], (le_lit (And.intro (ve rfl) (And.intro (ve rfl) (And.intro (ve rfl) trivial))) trivial trivial), ?_⟩
  by_cases c1 : v9 < 0
  · have h2 := if_t c1 h1
    clear h1
    refine and_t (decide_eq_true c1) ?_
    cases h2
    exact ⟨[], nod rfl, all_lt rfl, blt_lt rfl, _, _, rfl, rfl, rfl, rfl, rfl, rfl⟩
  · have h3 := if_f c1 h1
    clear h1
    refine and_f (decide_eq_false c1) ?_
    refine ⟨lit [(0, .d (.sl (p0.map encS))), (1, .d (.int .i64 v9))] [] [], (le_lit (And.intro (ve rfl) (And.intro (ve rfl) trivial)) trivial trivial), ?_⟩
    refine ⟨{ g : Int // l_szStringS.j2 g = some r }, fun g => l_szStringS.J2 g.1, ?_, ?_⟩
    · skip
      refine ⟨lit [(0, .d (.sl (p0.map encS))), (1, .d (.int .i64 v9)), (5, .d (.int .i64 0))] [] [], (le_lit (And.intro (ve rfl) (And.intro (ve rfl) (And.intro (ve rfl) trivial))) trivial trivial), ?_⟩
      obtain ⟨w1, e1, h4⟩ := bind_some h3
      clear h3
      refine ⟨{ g : Nat × Int × Int // l_szStringS.l1 p0 g.1 g.2.1 g.2.2 = some w1 }, fun g => l_szStringS.S1 p0 g.1.2.1 g.1.2.2, fun g => g.1.1, ⟨(big, v9, 0), e1⟩, (le_lit (And.intro (ve rfl) (And.intro (ve rfl) (And.intro (ve rfl) trivial))) trivial trivial), ?_⟩
      rintro ⟨⟨k1, x1_l1, x5_l1⟩, h5⟩
      change l_szStringS.l1 p0 k1 x1_l1 x5_l1 = some w1 at h5
      change wMC _ _ _ (l_szStringS.S1 p0 x1_l1 x5_l1)
      cases k1 with
      | zero => rw [l_szStringS.l1] at h5; cases h5
      | succ k1 =>
        rw [l_szStringS.l1] at h5
        refine ⟨_, map_len _, ?_⟩
        refine And.intro rfl ?_
        refine ⟨lit [(0, .d (.sl (p0.map encS))), (1, .d (.int .i64 x1_l1)), (5, .d (.int .i64 x5_l1)), (15, .d (.bool (decide (x5_l1 < (p0.length : Int)))))] [] [], (le_lit (And.intro (ve rfl) (And.intro (ve rfl) (And.intro (ve rfl) (And.intro (ve rfl) trivial)))) trivial trivial), ?_⟩
        by_cases c4 : x5_l1 < (p0.length : Int)
        · have h6 := if_t c4 h5
          clear h5
          refine and_t (decide_eq_true c4) ?_
          refine ⟨lit [(0, .d (.sl (p0.map encS))), (1, .d (.int .i64 x1_l1)), (5, .d (.int .i64 x5_l1))] [] [], (le_lit (And.intro (ve rfl) (And.intro (ve rfl) (And.intro (ve rfl) trivial))) trivial trivial), ?_⟩
          obtain ⟨xv21, exv21, h7⟩ := bind_some h6
          clear h6
          obtain ⟨av21, exv21⟩ := ix_some exv21
          refine And.intro av21 ⟨_, map_get exv21, rfl, ?_⟩
          obtain ⟨v24, ev24, h8⟩ := bind_some h7
          clear h7
          obtain ⟨ev24, rv24⟩ := ckK_some ev24
          refine And.intro rfl ?_
          refine ⟨v24, ev24, fun _ => rv24, ?_⟩
          refine ⟨lit [(0, .d (.sl (p0.map encS))), (1, .d (.int .i64 v24)), (5, .d (.int .i64 x5_l1))] [] [], (le_lit (And.intro (ve rfl) (And.intro (ve rfl) (And.intro (ve rfl) trivial))) trivial trivial), ?_⟩
          refine And.intro rfl ?_
          refine ⟨lit [(0, .d (.sl (p0.map encS))), (1, .d (.int .i64 v24)), (5, .d (.int .i64 x5_l1)), (26, .d (.bool (decide (v24 < 0))))] [] [], (le_lit (And.intro (ve rfl) (And.intro (ve rfl) (And.intro (ve rfl) (And.intro (ve rfl) trivial)))) trivial trivial), ?_⟩
          by_cases c5 : v24 < 0
          · have h9 := if_t c5 h8
            clear h8
            refine and_t (decide_eq_true c5) ?_
            cases h9
            obtain rfl := aft_inl h4
            exact ⟨[], nod rfl, all_lt rfl, blt_lt rfl, _, _, rfl, rfl, rfl, rfl, rfl, rfl⟩
          · have h10 := if_f c5 h8
            clear h8
            refine and_f (decide_eq_false c5) ?_
            refine ⟨lit [(0, .d (.sl (p0.map encS))), (1, .d (.int .i64 v24)), (5, .d (.int .i64 x5_l1))] [] [], (le_lit (And.intro (ve rfl) (And.intro (ve rfl) (And.intro (ve rfl) trivial))) trivial trivial), ?_⟩
            obtain ⟨v17, ev17, h11⟩ := bind_some h10
            clear h10
            obtain ⟨ev17, rv17⟩ := ckK_some ev17
            refine And.intro rfl ?_
            refine ⟨v17, ev17, fun _ => rv17, ?_⟩
            exact ⟨⟨(k1, _, _), h11⟩, (le_lit (And.intro (ve rfl) (And.intro (ve rfl) (And.intro (ve rfl) trivial))) trivial trivial), Nat.lt_succ_self _⟩
        · have h12 := if_f c4 h5
          clear h5
          refine and_f (decide_eq_false c4) ?_
          cases h12
          have h13 := aft_inr h4
          exact ⟨⟨_, h13⟩, (le_lit (And.intro (ve rfl) trivial) trivial trivial)⟩
    · rintro ⟨x1_2, h14⟩
      change l_szStringS.j2 x1_2 = some r at h14
      change wMC _ _ _ (l_szStringS.J2 x1_2)
      unfold l_szStringS.j2 at h14
      clear h3
      cases h14
      exact ⟨[], nod rfl, all_lt rfl, blt_lt rfl, _, _, rfl, rfl, rfl, rfl, rfl, rfl⟩
end Go.Vm
end
section
set_option maxRecDepth 4000
set_option maxHeartbeats 1000000
namespace Go.Vm
open Go.Proofs
/- loop.example/g00300/laws.szLink -/
def l_szLink.code : MC :=
 (.seq
  (.keep [1, 2] (.reg [⟨(some 2), none, .box (.t 0)⟩, ⟨(some 4), none, .mov (.v (.d (.int .i64 0)))⟩]))
  (.norm (.seq
   (.keep [1] (.reg [⟨(some 5), none, .fld 0 (.t 2)⟩, ⟨(some 6), none, .load false 1 (.t 5)⟩, ⟨(some 7), none, .mov (.t 1)⟩, ⟨(some 8), none, .call (.v (.clos 78 [])) [.t 6, .t 7] [] []⟩, ⟨(some 1), none, .mov (.t 8)⟩]))
   (.norm (.seq
    (.seq
     (.keep [1, 10] (.reg [⟨(some 9), none, .mov (.t 1)⟩, ⟨(some 10), none, .bin true .lss (.t 9) (.v (.d (.int .i64 0)))⟩]))
     (.norm (.cond (.t 10)
      (.seq
       (.keep [4] (.reg [⟨(some 4), none, .mov (.v (.d (.int .i64 (-1))))⟩]))
       .ret)
      .skip)))
    (.seq
     (.keep [4] (.reg [⟨(some 11), none, .mov (.t 1)⟩, ⟨(some 4), none, .mov (.t 11)⟩]))
     .ret))))))
theorem l_szLink.chk : chkFn Try.prog 69 2 l_szLink.code [.tmp 4] = true := by kernel_rfl
def l_szLink (p0 : lawsLink) (p1 : Int) : Option (Int) :=
  (l_szStringS p0.Log p1).bind fun v8 => if v8 < 0 then (some (-1)) else (some v8)
theorem l_szLink.ok (p0 : lawsLink) (p1 : Int) (r : Int) (h0 : l_szLink p0 p1 = some r) : ACall Try.prog 69 [.agg [.d (.sl (p0.Log.map encS)), .d (.int .i64 p0.Sent), .d (.int .i64 p0.Sure)], .d (.int .i64 p1)] [] [] (fun v ob oa na => v = .d (.int .i64 r) ∧ ob = [] ∧ oa = [] ∧ na = []) := by
  refine wFn_ok l_szLink.chk rfl ?_
  unfold l_szLink at h0
  refine And.intro rfl ?_
  refine ⟨lit [(1, .d (.int .i64 p1)), (2, .bptr 2 0)] [(2, [.d (.sl (p0.Log.map encS)), .d (.int .i64 p0.Sent), .d (.int .i64 p0.Sure)])] [], (le_lit (And.intro (ve rfl) (And.intro (ve rfl) trivial)) (And.intro ⟨_, rfl, (vel rfl)⟩ trivial) trivial), ?_⟩
  obtain ⟨v8, ev8, h1⟩ := bind_some h0
  clear h0
  refine ⟨rfl, nod rfl, rfl, rfl, _, rfl, rfl, ?_⟩
  refine (l_szStringS.ok p0.Log p1 _ ev8).mono ?_
  rintro _ _ _ _ ⟨rfl, rfl, rfl, rfl⟩
  refine ⟨rfl, rfl, rfl, rfl, trivial, trivial, ?_⟩
  refine ⟨lit [(1, .d (.int .i64 v8))] [] [], (le_lit (And.intro (ve rfl) trivial) trivial trivial), ?_⟩
  refine And.intro rfl ?_
  refine ⟨lit [(1, .d (.int .i64 v8)), (10, .d (.bool (decide (v8 < 0))))] [] [], (le_lit (And.intro (ve rfl) (And.intro (ve rfl) trivial)) trivial trivial), ?_⟩
  by_cases c1 : v8 < 0
  · have h2 := if_t c1 h1
    clear h1
    refine and_t (decide_eq_true c1) ?_
    cases h2
    exact ⟨[], nod rfl, all_lt rfl, blt_lt rfl, _, _, rfl, rfl, rfl, rfl, rfl, rfl⟩
  · have h3 := if_f c1 h1
    clear h1
    refine and_f (decide_eq_false c1) ?_
    cases h3
    exact ⟨[], nod rfl, all_lt rfl, blt_lt rfl, _, _, rfl, rfl, rfl, rfl, rfl, rfl⟩
end Go.Vm
end
section
set_option maxRecDepth 4000
set_option maxHeartbeats 1000000
namespace Go.Vm
open Go.Proofs
/- loop.example/g00300/laws.szLinkS -/
def l_szLinkS.code : MC :=
 (.seq
  (.keep [0, 1] (.reg [⟨(some 4), none, .mov (.v (.d (.int .i64 0)))⟩]))
  (.norm (.seq
   (.keep [0, 1] (.reg [⟨(some 6), none, .mov (.t 1)⟩, ⟨(some 7), none, .mov (.t 0)⟩, ⟨(some 8), none, .len (.t 7)⟩, ⟨(some 9), none, .bin true .sub (.t 6) (.t 8)⟩, ⟨(some 1), none, .mov (.t 9)⟩]))
   (.norm (.seq
    (.seq
     (.keep [0, 1, 11] (.reg [⟨(some 10), none, .mov (.t 1)⟩, ⟨(some 11), none, .bin true .lss (.t 10) (.v (.d (.int .i64 0)))⟩]))
     (.norm (.cond (.t 11)
      (.seq
       (.keep [4] (.reg [⟨(some 4), none, .mov (.v (.d (.int .i64 (-1))))⟩]))
       .ret)
      .skip)))
    (.norm (.cut
     (.seq
      (.keep [0, 1, 5] (.reg [⟨(some 5), none, .mov (.v (.d (.int .i64 0)))⟩]))
      (.norm (.block 0
       (.loop
        (.seq
         (.seq
          (.keep [0, 1, 5, 15] (.reg [⟨(some 12), none, .mov (.t 5)⟩, ⟨(some 13), none, .mov (.t 0)⟩, ⟨(some 14), none, .len (.t 13)⟩, ⟨(some 15), none, .bin true .lss (.t 12) (.t 14)⟩]))
          (.norm (.cond (.t 15)
           .skip
           (.exit 0))))
         (.norm (.seq
          (.block 1
           (.seq
            (.keep [0, 1, 5] (.reg [⟨(some 18), none, .mov (.t 0)⟩, ⟨(some 19), none, .mov (.t 5)⟩, ⟨(some 20), none, .idx 3 (.t 18) (.t 19)⟩, ⟨(some 21), none, .load true 3 (.t 20)⟩, ⟨(some 22), none, .mov (.t 1)⟩, ⟨(some 23), none, .call (.v (.clos 69 [])) [.t 21, .t 22] [] []⟩, ⟨(some 1), none, .mov (.t 23)⟩]))
            (.norm (.seq
             (.keep [0, 1, 5, 25] (.reg [⟨(some 24), none, .mov (.t 1)⟩, ⟨(some 25), none, .bin true .lss (.t 24) (.v (.d (.int .i64 0)))⟩]))
             (.norm (.cond (.t 25)
              (.seq
               (.keep [4] (.reg [⟨(some 4), none, .mov (.v (.d (.int .i64 (-1))))⟩]))
               .ret)
              .skip))))))
          (.norm (.keep [0, 1, 5] (.reg [⟨(some 16), none, .mov (.t 5)⟩, ⟨(some 17), none, .bin true .add (.t 16) (.v (.d (.int .i64 1)))⟩, ⟨(some 5), none, .mov (.t 17)⟩]))))))))))
     (.seq
      (.keep [4] (.reg [⟨(some 26), none, .mov (.t 1)⟩, ⟨(some 4), none, .mov (.t 26)⟩]))
      .ret))))))))
theorem l_szLinkS.chk : chkFn Try.prog 53 2 l_szLinkS.code [.tmp 4] = true := by kernel_rfl
def l_szLinkS.j2 (x1_2 : Int) : Option Int :=
  some x1_2
def l_szLinkS.J2 (x1_2 : Int) : St :=
  lit [(1, .d (.int .i64 x1_2))] [] []
def l_szLinkS.l1 (p0 : (List lawsLink)) : Nat → Int → Int → Option (Sum Int Int)
  | 0, _, _ => none
  | k + 1, x1_l1, x5_l1 => if x5_l1 < (p0.length : Int) then ((ix p0 x5_l1).bind fun xv20 => (l_szLink xv20 x1_l1).bind fun v23 => if v23 < 0 then (some (.inl (-1))) else ((ckK .i64 (x5_l1 + 1)).bind fun v17 => (l_szLinkS.l1 p0 k) v23 v17)) else (some (.inr x1_l1))
def l_szLinkS.S1 (p0 : (List lawsLink)) (x1_l1 : Int) (x5_l1 : Int) : St :=
  lit [(0, .d (.sl (p0.map lawsLink.enc))), (1, .d (.int .i64 x1_l1)), (5, .d (.int .i64 x5_l1))] [] []
def l_szLinkS.O1 (o1 : Int) : St :=
  lit [(1, .d (.int .i64 o1))] [] []
def l_szLinkS (p0 : (List lawsLink)) (p1 : Int) : Option (Int) :=
  (ckK .i64 (p1 - (p0.length : Int))).bind fun v9 => if v9 < 0 then (some (-1)) else ((l_szLinkS.l1 p0 big v9 0).bind fun w1 => aft w1 fun o1 => l_szLinkS.j2 o1)
theorem l_szLinkS.ok (p0 : (List lawsLink)) (p1 : Int) (r : Int) (h0 : l_szLinkS p0 p1 = some r) : ACall Try.prog 53 [.d (.sl (p0.map lawsLink.enc)), .d (.int .i64 p1)] [] [] (fun v ob oa na => v = .d (.int .i64 r) ∧ ob = [] ∧ oa = [] ∧ na = []) := by
  refine wFn_ok l_szLinkS.chk rfl ?_
  unfold l_szLinkS at h0
  refine ⟨lit [(0, .d (.sl (p0.map lawsLink.enc))), (1, .d (.int .i64 p1))] [] [], (le_lit (And.intro (ve rfl) (And.intro (ve rfl) trivial)) trivial trivial), ?_⟩
  refine ⟨_, map_len _, ?_⟩
  obtain ⟨v9, ev9, h1⟩ := bind_some h0
  clear h0
  obtain ⟨ev9, rv9⟩ := ckK_some ev9
  refine And.intro rfl ?_
  refine ⟨v9, ev9, fun _ => rv9, ?_⟩
  refine ⟨lit [(0, .d (.sl (p0.map lawsLink.enc))), (1, .d (.int .i64 v9))] [] [], (le_lit (And.intro (ve rfl) (And.intro (ve rfl) trivial)) trivial trivial), ?_⟩
  refine And.intro rfl ?_
  refine ⟨lit [(0, .d (.sl (p0.map lawsLink.enc))), (1, .d (.int .i64 v9)), (11, .d (.bool (decide (v9 < 0))))] [] [], (le_lit (And.intro (ve rfl) (And.intro (ve rfl) (And.intro (ve rfl) trivial))) trivial trivial), ?_⟩
  by_cases c1 : v9 < 0
  · have h2 := if_t c1 h1
    clear h1
    refine and_t (decide_eq_true c1) ?_
    cases h2
    exact ⟨[], nod rfl, all_lt rfl, blt_lt rfl, _, _, rfl, rfl, rfl, rfl, rfl, rfl⟩
  · have h3 := if_f c1 h1
    clear h1
    refine and_f (decide_eq_false c1) ?_
    refine ⟨lit [(0, .d (.sl (p0.map lawsLink.enc))), (1, .d (.int .i64 v9))] [] [], (le_lit (And.intro (ve rfl) (And.intro (ve rfl) trivial)) trivial trivial), ?_⟩
    refine ⟨{ g : Int // l_szLinkS.j2 g = some r }, fun g => l_szLinkS.J2 g.1, ?_, ?_⟩
    · skip
      refine ⟨lit [(0, .d (.sl (p0.map lawsLink.enc))), (1, .d (.int .i64 v9)), (5, .d (.int .i64 0))] [] [], (le_lit (And.intro (ve rfl) (And.intro (ve rfl) (And.intro (ve rfl) trivial))) trivial trivial), ?_⟩
      obtain ⟨w1, e1, h4⟩ := bind_some h3
      clear h3
      refine ⟨{ g : Nat × Int × Int // l_szLinkS.l1 p0 g.1 g.2.1 g.2.2 = some w1 }, fun g => l_szLinkS.S1 p0 g.1.2.1 g.1.2.2, fun g => g.1.1, ⟨(big, v9, 0), e1⟩, (le_lit (And.intro (ve rfl) (And.intro (ve rfl) (And.intro (ve rfl) trivial))) trivial trivial), ?_⟩
      rintro ⟨⟨k1, x1_l1, x5_l1⟩, h5⟩
      change l_szLinkS.l1 p0 k1 x1_l1 x5_l1 = some w1 at h5
      change wMC _ _ _ (l_szLinkS.S1 p0 x1_l1 x5_l1)
      cases k1 with
      | zero => rw [l_szLinkS.l1] at h5; cases h5
      | succ k1 =>
        rw [l_szLinkS.l1] at h5
        refine ⟨_, map_len _, ?_⟩
        refine And.intro rfl ?_
        refine ⟨lit [(0, .d (.sl (p0.map lawsLink.enc))), (1, .d (.int .i64 x1_l1)), (5, .d (.int .i64 x5_l1)), (15, .d (.bool (decide (x5_l1 < (p0.length : Int)))))] [] [], (le_lit (And.intro (ve rfl) (And.intro (ve rfl) (And.intro (ve rfl) (And.intro (ve rfl) trivial)))) trivial trivial), ?_⟩
        by_cases c4 : x5_l1 < (p0.length : Int)
        · have h6 := if_t c4 h5
          clear h5
          refine and_t (decide_eq_true c4) ?_
          refine ⟨lit [(0, .d (.sl (p0.map lawsLink.enc))), (1, .d (.int .i64 x1_l1)), (5, .d (.int .i64 x5_l1))] [] [], (le_lit (And.intro (ve rfl) (And.intro (ve rfl) (And.intro (ve rfl) trivial))) trivial trivial), ?_⟩
          obtain ⟨xv20, exv20, h7⟩ := bind_some h6
          clear h6
          obtain ⟨av20, exv20⟩ := ix_some exv20
          refine And.intro av20 ⟨_, map_get exv20, rfl, ?_⟩
          obtain ⟨v23, ev23, h8⟩ := bind_some h7
          clear h7
          refine ⟨rfl, nod rfl, rfl, rfl, _, rfl, rfl, ?_⟩
          refine (l_szLink.ok xv20 x1_l1 _ ev23).mono ?_
          rintro _ _ _ _ ⟨rfl, rfl, rfl, rfl⟩
          refine ⟨rfl, rfl, rfl, rfl, trivial, trivial, ?_⟩
          refine ⟨lit [(0, .d (.sl (p0.map lawsLink.enc))), (1, .d (.int .i64 v23)), (5, .d (.int .i64 x5_l1))] [] [], (le_lit (And.intro (ve rfl) (And.intro (ve rfl) (And.intro (ve rfl) trivial))) trivial trivial), ?_⟩
          refine And.intro rfl ?_
          refine ⟨lit [(0, .d (.sl (p0.map lawsLink.enc))), (1, .d (.int .i64 v23)), (5, .d (.int .i64 x5_l1)), (25, .d (.bool (decide (v23 < 0))))] [] [], (le_lit (And.intro (ve rfl) (And.intro (ve rfl) (And.intro (ve rfl) (And.intro (ve rfl) trivial)))) trivial trivial), ?_⟩
          by_cases c5 : v23 < 0
          · have h9 := if_t c5 h8
            clear h8
            refine and_t (decide_eq_true c5) ?_
            cases h9
            obtain rfl := aft_inl h4
            exact ⟨[], nod rfl, all_lt rfl, blt_lt rfl, _, _, rfl, rfl, rfl, rfl, rfl, rfl⟩
          · have h10 := if_f c5 h8
            clear h8
            refine and_f (decide_eq_false c5) ?_
            refine ⟨lit [(0, .d (.sl (p0.map lawsLink.enc))), (1, .d (.int .i64 v23)), (5, .d (.int .i64 x5_l1))] [] [], (le_lit (And.intro (ve rfl) (And.intro (ve rfl) (And.intro (ve rfl) trivial))) trivial trivial), ?_⟩
            obtain ⟨v17, ev17, h11⟩ := bind_some h10
            clear h10
            obtain ⟨ev17, rv17⟩ := ckK_some ev17
            refine And.intro rfl ?_
            refine ⟨v17, ev17, fun _ => rv17, ?_⟩
            exact ⟨⟨(k1, _, _), h11⟩, (le_lit (And.intro (ve rfl) (And.intro (ve rfl) (And.intro (ve rfl) trivial))) trivial trivial), Nat.lt_succ_self _⟩
        · have h12 := if_f c4 h5
          clear h5
          refine and_f (decide_eq_false c4) ?_
          cases h12
          have h13 := aft_inr h4
          exact ⟨⟨_, h13⟩, (le_lit (And.intro (ve rfl) trivial) trivial trivial)⟩
    · rintro ⟨x1_2, h14⟩
      change l_szLinkS.j2 x1_2 = some r at h14
      change wMC _ _ _ (l_szLinkS.J2 x1_2)
      unfold l_szLinkS.j2 at h14
      clear h3
      cases h14
      exact ⟨[], nod rfl, all_lt rfl, blt_lt rfl, _, _, rfl, rfl, rfl, rfl, rfl, rfl⟩
end Go.Vm
end
section
set_option maxRecDepth 4000
set_option maxHeartbeats 1000000
namespace Go.Vm
open Go.Proofs
/- loop.example/g00300/laws.szChain -/
def l_szChain.code : MC :=
 (.seq
  (.keep [1, 2] (.reg [⟨(some 2), none, .box (.t 0)⟩, ⟨(some 4), none, .mov (.v (.d (.int .i64 0)))⟩]))
  (.norm (.seq
   (.keep [1] (.reg [⟨(some 5), none, .fld 0 (.t 2)⟩, ⟨(some 6), none, .load false 1 (.t 5)⟩, ⟨(some 7), none, .mov (.t 1)⟩, ⟨(some 8), none, .call (.v (.clos 53 [])) [.t 6, .t 7] [] []⟩, ⟨(some 1), none, .mov (.t 8)⟩]))
   (.norm (.seq
    (.seq
     (.keep [1, 10] (.reg [⟨(some 9), none, .mov (.t 1)⟩, ⟨(some 10), none, .bin true .lss (.t 9) (.v (.d (.int .i64 0)))⟩]))
     (.norm (.cond (.t 10)
      (.seq
       (.keep [4] (.reg [⟨(some 4), none, .mov (.v (.d (.int .i64 (-1))))⟩]))
       .ret)
      .skip)))
    (.seq
     (.keep [4] (.reg [⟨(some 11), none, .mov (.t 1)⟩, ⟨(some 4), none, .mov (.t 11)⟩]))
     .ret))))))
theorem l_szChain.chk : chkFn Try.prog 27 2 l_szChain.code [.tmp 4] = true := by kernel_rfl
def l_szChain (p0 : lawsChain) (p1 : Int) : Option (Int) :=
  (l_szLinkS p0.Links p1).bind fun v8 => if v8 < 0 then (some (-1)) else (some v8)
theorem l_szChain.ok (p0 : lawsChain) (p1 : Int) (r : Int) (h0 : l_szChain p0 p1 = some r) : ACall Try.prog 27 [.agg [.d (.sl (p0.Links.map lawsLink.enc))], .d (.int .i64 p1)] [] [] (fun v ob oa na => v = .d (.int .i64 r) ∧ ob = [] ∧ oa = [] ∧ na = []) := by
  refine wFn_ok l_szChain.chk rfl ?_
  unfold l_szChain at h0
  refine And.intro rfl ?_
  refine ⟨lit [(1, .d (.int .i64 p1)), (2, .bptr 2 0)] [(2, [.d (.sl (p0.Links.map lawsLink.enc))])] [], (le_lit (And.intro (ve rfl) (And.intro (ve rfl) trivial)) (And.intro ⟨_, rfl, (vel rfl)⟩ trivial) trivial), ?_⟩
  obtain ⟨v8, ev8, h1⟩ := bind_some h0
  clear h0
  refine ⟨rfl, nod rfl, rfl, rfl, _, rfl, rfl, ?_⟩
  refine (l_szLinkS.ok p0.Links p1 _ ev8).mono ?_
  rintro _ _ _ _ ⟨rfl, rfl, rfl, rfl⟩
  refine ⟨rfl, rfl, rfl, rfl, trivial, trivial, ?_⟩
  refine ⟨lit [(1, .d (.int .i64 v8))] [] [], (le_lit (And.intro (ve rfl) trivial) trivial trivial), ?_⟩
  refine And.intro rfl ?_
  refine ⟨lit [(1, .d (.int .i64 v8)), (10, .d (.bool (decide (v8 < 0))))] [] [], (le_lit (And.intro (ve rfl) (And.intro (ve rfl) trivial)) trivial trivial), ?_⟩
  by_cases c1 : v8 < 0
  · have h2 := if_t c1 h1
    clear h1
    refine and_t (decide_eq_true c1) ?_
    cases h2
    exact ⟨[], nod rfl, all_lt rfl, blt_lt rfl, _, _, rfl, rfl, rfl, rfl, rfl, rfl⟩
  · have h3 := if_f c1 h1
    clear h1
    refine and_f (decide_eq_false c1) ?_
    cases h3
    exact ⟨[], nod rfl, all_lt rfl, blt_lt rfl, _, _, rfl, rfl, rfl, rfl, rfl, rfl⟩
end Go.Vm
end
section
set_option maxRecDepth 4000
set_option maxHeartbeats 1000000
namespace Go.Vm
open Go.Proofs
/- loop.example/g00300/laws.toStringS -/
def l_toStringS.code : MC :=
 (.seq
  (.keep [0] (.reg [⟨(some 2), none, .mov (.v (.nilsl))⟩]))
  (.norm (.seq
   (.keep [0, 3] (.reg [⟨(some 5), none, .mov (.t 0)⟩, ⟨(some 6), none, .len (.t 5)⟩, ⟨(some 7), none, .make 7 [(.str [])] (.t 6) (.t 6)⟩, ⟨(some 3), none, .mov (.t 7)⟩]))
   (.norm (.cut
    (.seq
     (.keep [0, 3, 4] (.reg [⟨(some 4), none, .mov (.v (.d (.int .i64 0)))⟩]))
     (.norm (.block 0
      (.loop
       (.seq
        (.seq
         (.keep [0, 3, 4, 11] (.reg [⟨(some 8), none, .mov (.t 4)⟩, ⟨(some 9), none, .mov (.t 0)⟩, ⟨(some 10), none, .len (.t 9)⟩, ⟨(some 11), none, .bin true .lss (.t 8) (.t 10)⟩]))
         (.norm (.cond (.t 11)
          .skip
          (.exit 0))))
        (.norm (.seq
         (.block 1
          (.keep [0, 3, 4] (.reg [⟨(some 14), none, .mov (.t 3)⟩, ⟨(some 15), none, .mov (.t 4)⟩, ⟨(some 16), none, .mov (.t 0)⟩, ⟨(some 17), none, .mov (.t 4)⟩, ⟨(some 18), none, .idx 1 (.t 16) (.t 17)⟩, ⟨(some 19), none, .load false 1 (.t 18)⟩, ⟨(some 20), none, .idx 1 (.t 14) (.t 15)⟩, ⟨none, none, .store 1 (.t 20) (.t 19)⟩])))
         (.norm (.keep [0, 3, 4] (.reg [⟨(some 12), none, .mov (.t 4)⟩, ⟨(some 13), none, .bin true .add (.t 12) (.v (.d (.int .i64 1)))⟩, ⟨(some 4), none, .mov (.t 13)⟩]))))))))))
    (.seq
     (.keep [2] (.reg [⟨(some 21), none, .mov (.t 3)⟩, ⟨(some 2), none, .mov (.t 21)⟩]))
     (.adoptT 2 9000 .ret)))))))
theorem l_toStringS.chk : chkFn Try.prog 79 1 l_toStringS.code [.tmp 2] = true := by kernel_rfl
def l_toStringS.j2 (a7_2 : (List (List UInt8))) : Option (List (List UInt8)) :=
  some a7_2
def l_toStringS.J2 (a7_2 : (List (List UInt8))) : St :=
  lit [(3, .ref 7 [] 0 a7_2.length)] [] [(7, a7_2.map encS)]
def l_toStringS.l1 (p0 : (List (List UInt8))) : Nat → (List (List UInt8)) → Int → Option (List (List UInt8))
  | 0, _, _ => none
  | k + 1, a7_l1, x4_l1 => if x4_l1 < (p0.length : Int) then ((ix p0 x4_l1).bind fun xv18 => (ix a7_l1 x4_l1).bind fun xv20 => (setN a7_l1 x4_l1.toNat xv18).bind fun s6 => (ckK .i64 (x4_l1 + 1)).bind fun v13 => (l_toStringS.l1 p0 k) s6 v13) else (some a7_l1)
def l_toStringS.S1 (p0 : (List (List UInt8))) (a7_l1 : (List (List UInt8))) (x4_l1 : Int) : St :=
  lit [(0, .d (.sl (p0.map encS))), (3, .ref 7 [] 0 a7_l1.length), (4, .d (.int .i64 x4_l1))] [] [(7, a7_l1.map encS)]
def l_toStringS.O1 (o1 : (List (List UInt8))) : St :=
  lit [(3, .ref 7 [] 0 o1.length)] [] [(7, o1.map encS)]
def l_toStringS (p0 : (List (List UInt8))) : Option ((List (List UInt8))) :=
  (mkN [] (p0.length : Int)).bind fun v7 => (l_toStringS.l1 p0 big v7 0).bind fun o1 => l_toStringS.j2 o1
theorem l_toStringS.ok (p0 : (List (List UInt8))) (r : (List (List UInt8))) (h0 : l_toStringS p0 = some r) : ACall Try.prog 79 [.d (.sl (p0.map encS))] [] [] (fun v ob oa na => v = .ref 0 [] 0 r.length ∧ ob = [] ∧ oa = [] ∧ na = [r.map encS]) := by
  refine wFn_ok l_toStringS.chk rfl ?_
  unfold l_toStringS at h0
  refine ⟨lit [(0, .d (.sl (p0.map encS)))] [] [], (le_lit (And.intro (ve rfl) trivial) trivial trivial), ?_⟩
  refine ⟨_, map_len _, ?_⟩
  obtain ⟨v7, ev7, h1⟩ := bind_some h0
  clear h0
  obtain ⟨av7, bv7, ev7, lv7⟩ := mkN_some ev7
  refine And.intro av7 (And.intro av7 (And.intro rfl (And.intro bv7 ⟨_, _, map_rep (f := encS) ev7 rfl, lv7, ?_⟩)))
  refine ⟨lit [(0, .d (.sl (p0.map encS))), (3, .ref 7 [] 0 v7.length)] [] [(7, v7.map encS)], (le_lit (And.intro (ve rfl) (And.intro (ve rfl) trivial)) trivial (And.intro rfl trivial)), ?_⟩
  refine ⟨{ g : (List (List UInt8)) // l_toStringS.j2 g = some r }, fun g => l_toStringS.J2 g.1, ?_, ?_⟩
  · skip
    refine ⟨lit [(0, .d (.sl (p0.map encS))), (3, .ref 7 [] 0 v7.length), (4, .d (.int .i64 0))] [] [(7, v7.map encS)], (le_lit (And.intro (ve rfl) (And.intro (ve rfl) (And.intro (ve rfl) trivial))) trivial (And.intro rfl trivial)), ?_⟩
    obtain ⟨o1, e1, h2⟩ := bind_some h1
    clear h1
    refine ⟨{ g : Nat × (List (List UInt8)) × Int // l_toStringS.l1 p0 g.1 g.2.1 g.2.2 = some o1 }, fun g => l_toStringS.S1 p0 g.1.2.1 g.1.2.2, fun g => g.1.1, ⟨(big, v7, 0), e1⟩, (le_lit (And.intro (ve rfl) (And.intro (ve rfl) (And.intro (ve rfl) trivial))) trivial (And.intro rfl trivial)), ?_⟩
    rintro ⟨⟨k1, a7_l1, x4_l1⟩, h3⟩
    change l_toStringS.l1 p0 k1 a7_l1 x4_l1 = some o1 at h3
    change wMC _ _ _ (l_toStringS.S1 p0 a7_l1 x4_l1)
    cases k1 with
    | zero => rw [l_toStringS.l1] at h3; cases h3
    | succ k1 =>
      rw [l_toStringS.l1] at h3
      refine ⟨_, map_len _, ?_⟩
      refine And.intro rfl ?_
      refine ⟨lit [(0, .d (.sl (p0.map encS))), (3, .ref 7 [] 0 a7_l1.length), (4, .d (.int .i64 x4_l1)), (11, .d (.bool (decide (x4_l1 < (p0.length : Int)))))] [] [(7, a7_l1.map encS)], (le_lit (And.intro (ve rfl) (And.intro (ve rfl) (And.intro (ve rfl) (And.intro (ve rfl) trivial)))) trivial (And.intro rfl trivial)), ?_⟩
      by_cases c4 : x4_l1 < (p0.length : Int)
      · have h4 := if_t c4 h3
        clear h3
        refine and_t (decide_eq_true c4) ?_
        refine ⟨lit [(0, .d (.sl (p0.map encS))), (3, .ref 7 [] 0 a7_l1.length), (4, .d (.int .i64 x4_l1))] [] [(7, a7_l1.map encS)], (le_lit (And.intro (ve rfl) (And.intro (ve rfl) (And.intro (ve rfl) trivial))) trivial (And.intro rfl trivial)), ?_⟩
        obtain ⟨xv18, exv18, h5⟩ := bind_some h4
        clear h4
        obtain ⟨av18, exv18⟩ := ix_some exv18
        refine And.intro av18 ⟨_, map_get exv18, rfl, ?_⟩
        obtain ⟨xv20, exv20, h6⟩ := bind_some h5
        clear h5
        obtain ⟨av20, exv20⟩ := ix_some exv20
        refine And.intro av20 ⟨_, _, rfl, (get_lt exv20), map_get exv20, rfl, ?_⟩
        obtain ⟨s6, es6, h7⟩ := bind_some h6
        clear h6
        obtain ⟨es6, ls6⟩ := setN_some es6
        refine ⟨_, _, rfl, map_get exv20, ?_⟩
        refine And.intro rfl ?_
        refine And.intro rfl (And.intro (nod rfl) (And.intro (nle rfl) (And.intro rfl ⟨_, (map_set (f := encS) es6 rfl), ?_⟩)))
        refine ⟨lit [(0, .d (.sl (p0.map encS))), (3, .ref 7 [] 0 s6.length), (4, .d (.int .i64 x4_l1))] [] [(7, s6.map encS)], (le_lit (And.intro (ve rfl) (And.intro (ve (congrArg (V.ref 7 [] 0) ls6)) (And.intro (ve rfl) trivial))) trivial (And.intro rfl trivial)), ?_⟩
        obtain ⟨v13, ev13, h8⟩ := bind_some h7
        clear h7
        obtain ⟨ev13, rv13⟩ := ckK_some ev13
        refine And.intro rfl ?_
        refine ⟨v13, ev13, fun _ => rv13, ?_⟩
        exact ⟨⟨(k1, _, _), h8⟩, (le_lit (And.intro (ve rfl) (And.intro (ve rfl) (And.intro (ve rfl) trivial))) trivial (And.intro rfl trivial)), Nat.lt_succ_self _⟩
      · have h9 := if_f c4 h3
        clear h3
        refine and_f (decide_eq_false c4) ?_
        cases h9
        exact ⟨⟨_, h2⟩, (le_lit (And.intro (ve rfl) trivial) trivial (And.intro rfl trivial))⟩
  · rintro ⟨a7_2, h10⟩
    change l_toStringS.j2 a7_2 = some r at h10
    change wMC _ _ _ (l_toStringS.J2 a7_2)
    unfold l_toStringS.j2 at h10
    clear h1
    refine And.intro rfl ?_
    cases h10
    exact ⟨[7], nod rfl, all_lt rfl, blt_lt rfl, _, _, rfl, rfl, rfl, rfl, rfl, rfl⟩
end Go.Vm
end
section
set_option maxRecDepth 4000
set_option maxHeartbeats 1000000
namespace Go.Vm
open Go.Proofs
/- loop.example/g00300/laws.toLink -/
def l_toLink.code : MC :=
 (.seq
  (.keep [1, 2] (.reg [⟨(some 1), none, .box (.t 0)⟩, ⟨(some 2), none, .box (.v (.agg [.nilsl, .d (.int .i64 0), .d (.int .i64 0)]))⟩]))
  (.norm (.seq
   (.keep [1, 2, 3] (.reg [⟨(some 3), none, .box (.v (.agg [.nilsl, .d (.int .i64 0), .d (.int .i64 0)]))⟩]))
   (.norm (.seq
    (.keep [1, 2, 3] (.reg [⟨(some 4), none, .fld 0 (.t 1)⟩, ⟨(some 5), none, .load false 1 (.t 4)⟩, ⟨(some 6), none, .call (.v (.clos 79 [])) [.t 5] [] [6]⟩, ⟨(some 7), none, .fld 0 (.t 3)⟩, ⟨none, none, .store 1 (.t 7) (.t 6)⟩]))
    (.norm (.seq
     (.keep [1, 2, 3] (.reg [⟨(some 8), none, .fld 1 (.t 1)⟩, ⟨(some 9), none, .load false 1 (.t 8)⟩, ⟨(some 10), none, .fld 1 (.t 3)⟩, ⟨none, none, .store 1 (.t 10) (.t 9)⟩]))
     (.norm (.seq
      (.keep [2, 3] (.reg [⟨(some 11), none, .fld 2 (.t 1)⟩, ⟨(some 12), none, .load false 1 (.t 11)⟩, ⟨(some 13), none, .fld 2 (.t 3)⟩, ⟨none, none, .store 1 (.t 13) (.t 12)⟩]))
      (.seq
       (.keep [2] (.reg [⟨(some 14), none, .load true 3 (.t 3)⟩, ⟨none, none, .store 3 (.t 2) (.t 14)⟩]))
       (.adopt 2 0 9000 .ret)))))))))))
theorem l_toLink.chk : chkFn Try.prog 70 1 l_toLink.code [.cell true 3 2] = true := by kernel_rfl
def l_toLink (p0 : lawsLink) : Option (implLink) :=
  (l_toStringS p0.Log).bind fun v6 => some (implLink.mk v6 p0.Sent p0.Sure)
theorem l_toLink.ok (p0 : lawsLink) (r : implLink) (h0 : l_toLink p0 = some r) : ACall Try.prog 70 [.agg [.d (.sl (p0.Log.map encS)), .d (.int .i64 p0.Sent), .d (.int .i64 p0.Sure)]] [] [] (fun v ob oa na => v = .agg [.ref 0 [] 0 r.Log.length, .d (.int .i64 r.Sent), .d (.int .i64 r.Sure)] ∧ ob = [] ∧ oa = [] ∧ na = [r.Log.map encS]) := by
  refine wFn_ok l_toLink.chk rfl ?_
  unfold l_toLink at h0
  refine And.intro rfl ?_
  refine And.intro rfl ?_
  refine ⟨lit [(1, .bptr 1 0), (2, .bptr 2 0)] [(1, [.d (.sl (p0.Log.map encS)), .d (.int .i64 p0.Sent), .d (.int .i64 p0.Sure)]), (2, [.nilsl, .d (.int .i64 0), .d (.int .i64 0)])] [], (le_lit (And.intro (ve rfl) (And.intro (ve rfl) trivial)) (And.intro ⟨_, rfl, (vel rfl)⟩ (And.intro ⟨_, rfl, (vel rfl)⟩ trivial)) trivial), ?_⟩
  refine And.intro rfl ?_
  refine ⟨lit [(1, .bptr 1 0), (2, .bptr 2 0), (3, .bptr 3 0)] [(1, [.d (.sl (p0.Log.map encS)), .d (.int .i64 p0.Sent), .d (.int .i64 p0.Sure)]), (2, [.nilsl, .d (.int .i64 0), .d (.int .i64 0)]), (3, [.nilsl, .d (.int .i64 0), .d (.int .i64 0)])] [], (le_lit (And.intro (ve rfl) (And.intro (ve rfl) (And.intro (ve rfl) trivial))) (And.intro ⟨_, rfl, (vel rfl)⟩ (And.intro ⟨_, rfl, (vel rfl)⟩ (And.intro ⟨_, rfl, (vel rfl)⟩ trivial))) trivial), ?_⟩
  obtain ⟨v6, ev6, h1⟩ := bind_some h0
  clear h0
  refine ⟨rfl, nod rfl, rfl, rfl, _, rfl, rfl, ?_⟩
  refine (l_toStringS.ok p0.Log _ ev6).mono ?_
  rintro _ _ _ _ ⟨rfl, rfl, rfl, rfl⟩
  refine ⟨rfl, rfl, rfl, rfl, trivial, trivial, ?_⟩
  refine And.intro rfl (And.intro rfl (And.intro (nle rfl) ?_))
  refine ⟨lit [(1, .bptr 1 0), (2, .bptr 2 0), (3, .bptr 3 0)] [(1, [.d (.sl (p0.Log.map encS)), .d (.int .i64 p0.Sent), .d (.int .i64 p0.Sure)]), (2, [.nilsl, .d (.int .i64 0), .d (.int .i64 0)]), (3, [.ref 6 [] 0 v6.length, .d (.int .i64 0), .d (.int .i64 0)])] [(6, v6.map encS)], (le_lit (And.intro (ve rfl) (And.intro (ve rfl) (And.intro (ve rfl) trivial))) (And.intro ⟨_, rfl, (vel rfl)⟩ (And.intro ⟨_, rfl, (vel rfl)⟩ (And.intro ⟨_, rfl, (vel rfl)⟩ trivial))) (And.intro rfl trivial)), ?_⟩
  refine And.intro rfl (And.intro rfl (And.intro (nle rfl) ?_))
  refine ⟨lit [(1, .bptr 1 0), (2, .bptr 2 0), (3, .bptr 3 0)] [(1, [.d (.sl (p0.Log.map encS)), .d (.int .i64 p0.Sent), .d (.int .i64 p0.Sure)]), (2, [.nilsl, .d (.int .i64 0), .d (.int .i64 0)]), (3, [.ref 6 [] 0 v6.length, .d (.int .i64 p0.Sent), .d (.int .i64 0)])] [(6, v6.map encS)], (le_lit (And.intro (ve rfl) (And.intro (ve rfl) (And.intro (ve rfl) trivial))) (And.intro ⟨_, rfl, (vel rfl)⟩ (And.intro ⟨_, rfl, (vel rfl)⟩ (And.intro ⟨_, rfl, (vel rfl)⟩ trivial))) (And.intro rfl trivial)), ?_⟩
  refine And.intro rfl (And.intro rfl (And.intro (nle rfl) ?_))
  refine And.intro rfl (And.intro rfl (And.intro (nle rfl) ?_))
  refine And.intro rfl ?_
  cases h1
  exact ⟨[6], nod rfl, all_lt rfl, blt_lt rfl, _, _, rfl, rfl, rfl, rfl, rfl, rfl⟩
end Go.Vm
end
section
set_option maxRecDepth 4000
set_option maxHeartbeats 1000000
namespace Go.Vm
open Go.Proofs
/- loop.example/g00300/laws.toLinkS -/
def l_toLinkS.code : MC :=
 (.seq
  (.keep [0] (.reg [⟨(some 2), none, .mov (.v (.nilsl))⟩]))
  (.norm (.seq
   (.keep [0, 3] (.reg [⟨(some 5), none, .mov (.t 0)⟩, ⟨(some 6), none, .len (.t 5)⟩, ⟨(some 7), none, .make 7 [.sl [], (.int .i64 0), (.int .i64 0)] (.t 6) (.t 6)⟩, ⟨(some 3), none, .mov (.t 7)⟩]))
   (.norm (.cut
    (.seq
     (.keep [0, 3, 4] (.reg [⟨(some 4), none, .mov (.v (.d (.int .i64 0)))⟩]))
     (.norm (.block 0
      (.loop
       (.seq
        (.seq
         (.keep [0, 3, 4, 11] (.reg [⟨(some 8), none, .mov (.t 4)⟩, ⟨(some 9), none, .mov (.t 0)⟩, ⟨(some 10), none, .len (.t 9)⟩, ⟨(some 11), none, .bin true .lss (.t 8) (.t 10)⟩]))
         (.norm (.cond (.t 11)
          .skip
          (.exit 0))))
        (.norm (.seq
         (.block 1
          (.keep [0, 3, 4] (.reg [⟨(some 14), none, .mov (.t 3)⟩, ⟨(some 15), none, .mov (.t 4)⟩, ⟨(some 16), none, .mov (.t 0)⟩, ⟨(some 17), none, .mov (.t 4)⟩, ⟨(some 18), none, .idx 3 (.t 16) (.t 17)⟩, ⟨(some 19), none, .load true 3 (.t 18)⟩, ⟨(some 20), none, .call (.v (.clos 70 [])) [.t 19] [] [20]⟩, ⟨(some 21), none, .idx 3 (.t 14) (.t 15)⟩, ⟨none, none, .store 3 (.t 21) (.t 20)⟩])))
         (.norm (.keep [0, 3, 4] (.reg [⟨(some 12), none, .mov (.t 4)⟩, ⟨(some 13), none, .bin true .add (.t 12) (.v (.d (.int .i64 1)))⟩, ⟨(some 4), none, .mov (.t 13)⟩]))))))))))
    (.seq
     (.keep [2] (.reg [⟨(some 22), none, .mov (.t 3)⟩, ⟨(some 2), none, .mov (.t 22)⟩]))
     (.adoptT 2 9000 .ret)))))))
theorem l_toLinkS.chk : chkFn Try.prog 54 1 l_toLinkS.code [.tmp 2] = true := by kernel_rfl
def l_toLinkS.j2 (a7_2 : (List implLink)) : Option (List implLink) :=
  some a7_2
def l_toLinkS.J2 (a7_2 : (List implLink)) : St :=
  lit [(3, .ref 7 [] 0 a7_2.length)] [] [(7, a7_2.map implLink.enc)]
def l_toLinkS.l1 (p0 : (List lawsLink)) : Nat → (List implLink) → Int → Option (List implLink)
  | 0, _, _ => none
  | k + 1, a7_l1, x4_l1 => if x4_l1 < (p0.length : Int) then ((ix p0 x4_l1).bind fun xv18 => (l_toLink xv18).bind fun v20 => (ix a7_l1 x4_l1).bind fun xv21 => (setN a7_l1 x4_l1.toNat v20).bind fun s6 => (ckK .i64 (x4_l1 + 1)).bind fun v13 => (l_toLinkS.l1 p0 k) s6 v13) else (some a7_l1)
def l_toLinkS.S1 (p0 : (List lawsLink)) (a7_l1 : (List implLink)) (x4_l1 : Int) : St :=
  lit [(0, .d (.sl (p0.map lawsLink.enc))), (3, .ref 7 [] 0 a7_l1.length), (4, .d (.int .i64 x4_l1))] [] [(7, a7_l1.map implLink.enc)]
def l_toLinkS.O1 (o1 : (List implLink)) : St :=
  lit [(3, .ref 7 [] 0 o1.length)] [] [(7, o1.map implLink.enc)]
def l_toLinkS (p0 : (List lawsLink)) : Option ((List implLink)) :=
  (mkN (implLink.mk [] 0 0) (p0.length : Int)).bind fun v7 => (l_toLinkS.l1 p0 big v7 0).bind fun o1 => l_toLinkS.j2 o1
theorem l_toLinkS.ok (p0 : (List lawsLink)) (r : (List implLink)) (h0 : l_toLinkS p0 = some r) : ACall Try.prog 54 [.d (.sl (p0.map lawsLink.enc))] [] [] (fun v ob oa na => v = .ref 0 [] 0 r.length ∧ ob = [] ∧ oa = [] ∧ na = [r.map implLink.enc]) := by
  refine wFn_ok l_toLinkS.chk rfl ?_
  unfold l_toLinkS at h0
  refine ⟨lit [(0, .d (.sl (p0.map lawsLink.enc)))] [] [], (le_lit (And.intro (ve rfl) trivial) trivial trivial), ?_⟩
  refine ⟨_, map_len _, ?_⟩
  obtain ⟨v7, ev7, h1⟩ := bind_some h0
  clear h0
  obtain ⟨av7, bv7, ev7, lv7⟩ := mkN_some ev7
  refine And.intro av7 (And.intro av7 (And.intro rfl (And.intro bv7 ⟨_, _, map_rep (f := implLink.enc) ev7 rfl, lv7, ?_⟩)))
  refine ⟨lit [(0, .d (.sl (p0.map lawsLink.enc))), (3, .ref 7 [] 0 v7.length)] [] [(7, v7.map implLink.enc)], (le_lit (And.intro (ve rfl) (And.intro (ve rfl) trivial)) trivial (And.intro rfl trivial)), ?_⟩
  refine ⟨{ g : (List implLink) // l_toLinkS.j2 g = some r }, fun g => l_toLinkS.J2 g.1, ?_, ?_⟩
  · skip
    refine ⟨lit [(0, .d (.sl (p0.map lawsLink.enc))), (3, .ref 7 [] 0 v7.length), (4, .d (.int .i64 0))] [] [(7, v7.map implLink.enc)], (le_lit (And.intro (ve rfl) (And.intro (ve rfl) (And.intro (ve rfl) trivial))) trivial (And.intro rfl trivial)), ?_⟩
    obtain ⟨o1, e1, h2⟩ := bind_some h1
    clear h1
    refine ⟨{ g : Nat × (List implLink) × Int // l_toLinkS.l1 p0 g.1 g.2.1 g.2.2 = some o1 }, fun g => l_toLinkS.S1 p0 g.1.2.1 g.1.2.2, fun g => g.1.1, ⟨(big, v7, 0), e1⟩, (le_lit (And.intro (ve rfl) (And.intro (ve rfl) (And.intro (ve rfl) trivial))) trivial (And.intro rfl trivial)), ?_⟩
    rintro ⟨⟨k1, a7_l1, x4_l1⟩, h3⟩
    change l_toLinkS.l1 p0 k1 a7_l1 x4_l1 = some o1 at h3
    change wMC _ _ _ (l_toLinkS.S1 p0 a7_l1 x4_l1)
    cases k1 with
    | zero => rw [l_toLinkS.l1] at h3; cases h3
    | succ k1 =>
      rw [l_toLinkS.l1] at h3
      refine ⟨_, map_len _, ?_⟩
      refine And.intro rfl ?_
      refine ⟨lit [(0, .d (.sl (p0.map lawsLink.enc))), (3, .ref 7 [] 0 a7_l1.length), (4, .d (.int .i64 x4_l1)), (11, .d (.bool (decide (x4_l1 < (p0.length : Int)))))] [] [(7, a7_l1.map implLink.enc)], (le_lit (And.intro (ve rfl) (And.intro (ve rfl) (And.intro (ve rfl) (And.intro (ve rfl) trivial)))) trivial (And.intro rfl trivial)), ?_⟩
      by_cases c4 : x4_l1 < (p0.length : Int)
      · have h4 := if_t c4 h3
        clear h3
        refine and_t (decide_eq_true c4) ?_
        refine ⟨lit [(0, .d (.sl (p0.map lawsLink.enc))), (3, .ref 7 [] 0 a7_l1.length), (4, .d (.int .i64 x4_l1))] [] [(7, a7_l1.map implLink.enc)], (le_lit (And.intro (ve rfl) (And.intro (ve rfl) (And.intro (ve rfl) trivial))) trivial (And.intro rfl trivial)), ?_⟩
        obtain ⟨xv18, exv18, h5⟩ := bind_some h4
        clear h4
        obtain ⟨av18, exv18⟩ := ix_some exv18
        refine And.intro av18 ⟨_, map_get exv18, rfl, ?_⟩
        obtain ⟨v20, ev20, h6⟩ := bind_some h5
        clear h5
        refine ⟨rfl, nod rfl, rfl, rfl, _, rfl, rfl, ?_⟩
        refine (l_toLink.ok xv18 _ ev20).mono ?_
        rintro _ _ _ _ ⟨rfl, rfl, rfl, rfl⟩
        refine ⟨rfl, rfl, rfl, rfl, trivial, trivial, ?_⟩
        obtain ⟨xv21, exv21, h7⟩ := bind_some h6
        clear h6
        obtain ⟨av21, exv21⟩ := ix_some exv21
        refine And.intro av21 ⟨_, _, rfl, (get_lt exv21), map_get exv21, rfl, ?_⟩
        obtain ⟨s6, es6, h8⟩ := bind_some h7
        clear h7
        obtain ⟨es6, ls6⟩ := setN_some es6
        refine ⟨_, _, rfl, map_get exv21, ?_⟩
        refine And.intro (map_len _) ?_
        refine And.intro rfl ?_
        refine And.intro rfl ?_
        refine And.intro rfl (And.intro (nod rfl) (And.intro (nle rfl) (And.intro rfl ⟨_, (map_set (f := implLink.enc) es6 rfl), ?_⟩)))
        refine ⟨lit [(0, .d (.sl (p0.map lawsLink.enc))), (3, .ref 7 [] 0 s6.length), (4, .d (.int .i64 x4_l1))] [] [(7, s6.map implLink.enc)], (le_lit (And.intro (ve rfl) (And.intro (ve (congrArg (V.ref 7 [] 0) ls6)) (And.intro (ve rfl) trivial))) trivial (And.intro rfl trivial)), ?_⟩
        obtain ⟨v13, ev13, h9⟩ := bind_some h8
        clear h8
        obtain ⟨ev13, rv13⟩ := ckK_some ev13
        refine And.intro rfl ?_
        refine ⟨v13, ev13, fun _ => rv13, ?_⟩
        exact ⟨⟨(k1, _, _), h9⟩, (le_lit (And.intro (ve rfl) (And.intro (ve rfl) (And.intro (ve rfl) trivial))) trivial (And.intro rfl trivial)), Nat.lt_succ_self _⟩
      · have h10 := if_f c4 h3
        clear h3
        refine and_f (decide_eq_false c4) ?_
        cases h10
        exact ⟨⟨_, h2⟩, (le_lit (And.intro (ve rfl) trivial) trivial (And.intro rfl trivial))⟩
  · rintro ⟨a7_2, h11⟩
    change l_toLinkS.j2 a7_2 = some r at h11
    change wMC _ _ _ (l_toLinkS.J2 a7_2)
    unfold l_toLinkS.j2 at h11
    clear h1
    refine And.intro rfl ?_
    cases h11
    exact ⟨[7], nod rfl, all_lt rfl, blt_lt rfl, _, _, rfl, rfl, rfl, rfl, rfl, rfl⟩
end Go.Vm
end
section
set_option maxRecDepth 4000
set_option maxHeartbeats 1000000
namespace Go.Vm
open Go.Proofs
/- loop.example/g00300/laws.toChain -/
def l_toChain.code : MC :=
 (.seq
  (.keep [1, 2] (.reg [⟨(some 1), none, .box (.t 0)⟩, ⟨(some 2), none, .box (.v (.agg [.nilsl]))⟩]))
  (.norm (.seq
   (.keep [1, 2, 3] (.reg [⟨(some 3), none, .box (.v (.agg [.nilsl]))⟩]))
   (.norm (.seq
    (.keep [2, 3] (.reg [⟨(some 4), none, .fld 0 (.t 1)⟩, ⟨(some 5), none, .load false 1 (.t 4)⟩, ⟨(some 6), none, .call (.v (.clos 54 [])) [.t 5] [] [6]⟩, ⟨(some 7), none, .fld 0 (.t 3)⟩, ⟨none, none, .store 1 (.t 7) (.t 6)⟩]))
    (.seq
     (.keep [2] (.reg [⟨(some 8), none, .load true 1 (.t 3)⟩, ⟨none, none, .store 1 (.t 2) (.t 8)⟩]))
     (.adopt 2 0 9000 .ret)))))))
theorem l_toChain.chk : chkFn Try.prog 28 1 l_toChain.code [.cell true 1 2] = true := by kernel_rfl
def l_toChain (p0 : lawsChain) : Option (implChain) :=
  (l_toLinkS p0.Links).bind fun v6 => some (implChain.mk v6)
theorem l_toChain.ok (p0 : lawsChain) (r : implChain) (h0 : l_toChain p0 = some r) : ACall Try.prog 28 [.agg [.d (.sl (p0.Links.map lawsLink.enc))]] [] [] (fun v ob oa na => v = .agg [.ref 0 [] 0 r.Links.length] ∧ ob = [] ∧ oa = [] ∧ na = [r.Links.map implLink.enc]) := by
  refine wFn_ok l_toChain.chk rfl ?_
  unfold l_toChain at h0
  refine And.intro rfl ?_
  refine And.intro rfl ?_
  refine ⟨lit [(1, .bptr 1 0), (2, .bptr 2 0)] [(1, [.d (.sl (p0.Links.map lawsLink.enc))]), (2, [.nilsl])] [], (le_lit (And.intro (ve rfl) (And.intro (ve rfl) trivial)) (And.intro ⟨_, rfl, (vel rfl)⟩ (And.intro ⟨_, rfl, (vel rfl)⟩ trivial)) trivial), ?_⟩
  refine And.intro rfl ?_
  refine ⟨lit [(1, .bptr 1 0), (2, .bptr 2 0), (3, .bptr 3 0)] [(1, [.d (.sl (p0.Links.map lawsLink.enc))]), (2, [.nilsl]), (3, [.nilsl])] [], (le_lit (And.intro (ve rfl) (And.intro (ve rfl) (And.intro (ve rfl) trivial))) (And.intro ⟨_, rfl, (vel rfl)⟩ (And.intro ⟨_, rfl, (vel rfl)⟩ (And.intro ⟨_, rfl, (vel rfl)⟩ trivial))) trivial), ?_⟩
  obtain ⟨v6, ev6, h1⟩ := bind_some h0
  clear h0
  refine ⟨rfl, nod rfl, rfl, rfl, _, rfl, rfl, ?_⟩
  refine (l_toLinkS.ok p0.Links _ ev6).mono ?_
  rintro _ _ _ _ ⟨rfl, rfl, rfl, rfl⟩
  refine ⟨rfl, rfl, rfl, rfl, trivial, trivial, ?_⟩
  refine And.intro rfl (And.intro rfl (And.intro (nle rfl) ?_))
  refine And.intro rfl (And.intro rfl (And.intro (nle rfl) ?_))
  refine And.intro rfl ?_
  cases h1
  exact ⟨[6], nod rfl, all_lt rfl, blt_lt rfl, _, _, rfl, rfl, rfl, rfl, rfl, rfl⟩
end Go.Vm
end
section
set_option maxRecDepth 4000
set_option maxHeartbeats 1000000
namespace Go.Vm
open Go.Proofs
/- loop.example/g00300/laws.eqStringS -/
def l_eqStringS.code : MC :=
 (.seq
  (.keep [0, 1] (.reg [⟨(some 4), none, .mov (.v (.d (.bool false)))⟩]))
  (.norm (.seq
   (.seq
    (.keep [0, 1, 10] (.reg [⟨(some 6), none, .mov (.t 0)⟩, ⟨(some 7), none, .len (.t 6)⟩, ⟨(some 8), none, .mov (.t 1)⟩, ⟨(some 9), none, .len (.t 8)⟩, ⟨(some 10), none, .bin true .neq (.t 7) (.t 9)⟩]))
    (.norm (.cond (.t 10)
     (.seq
      (.keep [4] (.reg [⟨(some 4), none, .mov (.v (.d (.bool false)))⟩]))
      .ret)
     .skip)))
   (.norm (.cut
    (.seq
     (.keep [0, 1, 5] (.reg [⟨(some 5), none, .mov (.v (.d (.int .i64 0)))⟩]))
     (.norm (.block 0
      (.loop
       (.seq
        (.seq
         (.keep [0, 1, 5, 14] (.reg [⟨(some 11), none, .mov (.t 5)⟩, ⟨(some 12), none, .mov (.t 0)⟩, ⟨(some 13), none, .len (.t 12)⟩, ⟨(some 14), none, .bin true .lss (.t 11) (.t 13)⟩]))
         (.norm (.cond (.t 14)
          .skip
          (.exit 0))))
        (.norm (.seq
         (.block 1
          (.seq
           (.keep [0, 1, 5, 25] (.draw (.take 0 ⟨(some 17), none, .mov (.t 0)⟩ (.take 1 ⟨(some 18), none, .mov (.t 5)⟩ (.take 2 ⟨(some 19), none, .idx 1 (.t 17) (.t 18)⟩ (.take 3 ⟨(some 20), none, .load false 1 (.t 19)⟩ (.take 4 ⟨(some 21), none, .mov (.t 1)⟩ (.take 5 ⟨(some 22), none, .mov (.t 5)⟩ (.take 6 ⟨(some 23), none, .idx 1 (.t 21) (.t 22)⟩ (.take 7 ⟨(some 24), none, .load false 1 (.t 23)⟩ (.take 8 ⟨(some 25), none, .bin false .neq (.t 20) (.t 24)⟩ .done)))))))))))
           (.norm (.cond (.t 25)
            (.seq
             (.keep [4] (.reg [⟨(some 4), none, .mov (.v (.d (.bool false)))⟩]))
             .ret)
            .skip))))
         (.norm (.keep [0, 1, 5] (.reg [⟨(some 15), none, .mov (.t 5)⟩, ⟨(some 16), none, .bin true .add (.t 15) (.v (.d (.int .i64 1)))⟩, ⟨(some 5), none, .mov (.t 16)⟩]))))))))))
    (.seq
     (.keep [4] (.reg [⟨(some 4), none, .mov (.v (.d (.bool true)))⟩]))
     .ret))))))
theorem l_eqStringS.chk : chkFn Try.prog 77 2 l_eqStringS.code [.tmp 4] = true := by kernel_rfl
def l_eqStringS.j2 : Option Bool :=
  some true
def l_eqStringS.J2 : St :=
  lit [] [] []
def l_eqStringS.l1 (p0 : (List (List UInt8))) (p1 : (List (List UInt8))) : Nat → Int → Option (Sum Bool Unit)
  | 0, _ => none
  | k + 1, x5_l1 => if x5_l1 < (p0.length : Int) then ((ix p0 x5_l1).bind fun xv19 => (ix p1 x5_l1).bind fun xv23 => if xv19 = xv23 then ((ckK .i64 (x5_l1 + 1)).bind fun v16 => (l_eqStringS.l1 p0 p1 k) v16) else (some (.inl false))) else (some (.inr ()))
def l_eqStringS.S1 (p0 : (List (List UInt8))) (p1 : (List (List UInt8))) (x5_l1 : Int) : St :=
  lit [(0, .d (.sl (p0.map encS))), (1, .d (.sl (p1.map encS))), (5, .d (.int .i64 x5_l1))] [] []
def l_eqStringS.O1 (o1 : Unit) : St :=
  lit [] [] []
def l_eqStringS (p0 : (List (List UInt8))) (p1 : (List (List UInt8))) : Option (Bool) :=
  if (p0.length : Int) = (p1.length : Int) then ((l_eqStringS.l1 p0 p1 big 0).bind fun w1 => aft w1 fun o1 => l_eqStringS.j2) else (some false)
theorem l_eqStringS.ok (p0 : (List (List UInt8))) (p1 : (List (List UInt8))) (r : Bool) (h0 : l_eqStringS p0 p1 = some r) : ACall Try.prog 77 [.d (.sl (p0.map encS)), .d (.sl (p1.map encS))] [] [] (fun v ob oa na => v = .d (.bool r) ∧ ob = [] ∧ oa = [] ∧ na = []) := by
  refine wFn_ok l_eqStringS.chk rfl ?_
  unfold l_eqStringS at h0
  refine ⟨lit [(0, .d (.sl (p0.map encS))), (1, .d (.sl (p1.map encS)))] [] [], (le_lit (And.intro (ve rfl) (And.intro (ve rfl) trivial)) trivial trivial), ?_⟩
  refine ⟨_, map_len _, ?_⟩
  refine ⟨_, map_len _, ?_⟩
  refine And.intro rfl ?_
  refine ⟨lit [(0, .d (.sl (p0.map encS))), (1, .d (.sl (p1.map encS))), (10, .d (.bool (!(decide ((p0.length : Int) = (p1.length : Int))))))] [] [], (le_lit (And.intro (ve rfl) (And.intro (ve rfl) (And.intro (ve rfl) trivial))) trivial trivial), ?_⟩
  by_cases c1 : (p0.length : Int) = (p1.length : Int)
  · have h1 := if_t c1 h0
    clear h0
    refine and_f (not_f (decide_eq_true c1)) ?_
    refine ⟨lit [(0, .d (.sl (p0.map encS))), (1, .d (.sl (p1.map encS)))] [] [], (le_lit (And.intro (ve rfl) (And.intro (ve rfl) trivial)) trivial trivial), ?_⟩
    refine ⟨{ g : Unit // l_eqStringS.j2 = some r }, fun g => l_eqStringS.J2, ?_, ?_⟩
    · skip
      refine ⟨lit [(0, .d (.sl (p0.map encS))), (1, .d (.sl (p1.map encS))), (5, .d (.int .i64 0))] [] [], (le_lit (And.intro (ve rfl) (And.intro (ve rfl) (And.intro (ve rfl) trivial))) trivial trivial), ?_⟩
      obtain ⟨w1, e1, h2⟩ := bind_some h1
      clear h1
      refine ⟨{ g : Nat × Int // l_eqStringS.l1 p0 p1 g.1 g.2 = some w1 }, fun g => l_eqStringS.S1 p0 p1 g.1.2, fun g => g.1.1, ⟨(big, 0), e1⟩, (le_lit (And.intro (ve rfl) (And.intro (ve rfl) (And.intro (ve rfl) trivial))) trivial trivial), ?_⟩
      rintro ⟨⟨k1, x5_l1⟩, h3⟩
      change l_eqStringS.l1 p0 p1 k1 x5_l1 = some w1 at h3
      change wMC _ _ _ (l_eqStringS.S1 p0 p1 x5_l1)
      cases k1 with
      | zero => rw [l_eqStringS.l1] at h3; cases h3
      | succ k1 =>
        rw [l_eqStringS.l1] at h3
        refine ⟨_, map_len _, ?_⟩
        refine And.intro rfl ?_
        refine ⟨lit [(0, .d (.sl (p0.map encS))), (1, .d (.sl (p1.map encS))), (5, .d (.int .i64 x5_l1)), (14, .d (.bool (decide (x5_l1 < (p0.length : Int)))))] [] [], (le_lit (And.intro (ve rfl) (And.intro (ve rfl) (And.intro (ve rfl) (And.intro (ve rfl) trivial)))) trivial trivial), ?_⟩
        by_cases c4 : x5_l1 < (p0.length : Int)
        · have h4 := if_t c4 h3
          clear h3
          refine and_t (decide_eq_true c4) ?_
          refine ⟨lit [(0, .d (.sl (p0.map encS))), (1, .d (.sl (p1.map encS))), (5, .d (.int .i64 x5_l1))] [] [], (le_lit (And.intro (ve rfl) (And.intro (ve rfl) (And.intro (ve rfl) trivial))) trivial trivial), ?_⟩
          obtain ⟨xv19, exv19, h5⟩ := bind_some h4
          clear h4
          obtain ⟨av19, exv19⟩ := ix_some exv19
          refine And.intro av19 ⟨_, map_get exv19, rfl, ?_⟩
          obtain ⟨xv23, exv23, h6⟩ := bind_some h5
          clear h5
          obtain ⟨av23, exv23⟩ := ix_some exv23
          refine And.intro av23 ⟨_, map_get exv23, rfl, ?_⟩
          refine ⟨lit [(0, .d (.sl (p0.map encS))), (1, .d (.sl (p1.map encS))), (5, .d (.int .i64 x5_l1)), (25, .d (.bool (!(decide (xv19 = xv23)))))] [] [], (le_lit (And.intro (ve rfl) (And.intro (ve rfl) (And.intro (ve rfl) (And.intro (ve rfl) trivial)))) trivial trivial), ?_⟩
          by_cases c5 : xv19 = xv23
          · have h7 := if_t c5 h6
            clear h6
            refine and_f (not_f (decide_eq_true c5)) ?_
            refine ⟨lit [(0, .d (.sl (p0.map encS))), (1, .d (.sl (p1.map encS))), (5, .d (.int .i64 x5_l1))] [] [], (le_lit (And.intro (ve rfl) (And.intro (ve rfl) (And.intro (ve rfl) trivial))) trivial trivial), ?_⟩
            obtain ⟨v16, ev16, h8⟩ := bind_some h7
            clear h7
            obtain ⟨ev16, rv16⟩ := ckK_some ev16
            refine And.intro rfl ?_
            refine ⟨v16, ev16, fun _ => rv16, ?_⟩
            exact ⟨⟨(k1, _), h8⟩, (le_lit (And.intro (ve rfl) (And.intro (ve rfl) (And.intro (ve rfl) trivial))) trivial trivial), Nat.lt_succ_self _⟩
          · have h9 := if_f c5 h6
            clear h6
            refine and_t (not_t (decide_eq_false c5)) ?_
            cases h9
            obtain rfl := aft_inl h2
            exact ⟨[], nod rfl, all_lt rfl, blt_lt rfl, _, _, rfl, rfl, rfl, rfl, rfl, rfl⟩
        · have h10 := if_f c4 h3
          clear h3
          refine and_f (decide_eq_false c4) ?_
          cases h10
          have h11 := aft_inr h2
          exact ⟨⟨(), h11⟩, (le_lit trivial trivial trivial)⟩
    · rintro ⟨⟨⟩, h12⟩
      change l_eqStringS.j2 = some r at h12
      change wMC _ _ _ (l_eqStringS.J2)
      unfold l_eqStringS.j2 at h12
      clear h1
      cases h12
      exact ⟨[], nod rfl, all_lt rfl, blt_lt rfl, _, _, rfl, rfl, rfl, rfl, rfl, rfl⟩
  · have h13 := if_f c1 h0
    clear h0
    refine and_t (not_t (decide_eq_false c1)) ?_
    cases h13
    exact ⟨[], nod rfl, all_lt rfl, blt_lt rfl, _, _, rfl, rfl, rfl, rfl, rfl, rfl⟩
end Go.Vm
end
section
set_option maxRecDepth 4000
set_option maxHeartbeats 1000000
namespace Go.Vm
open Go.Proofs
/- loop.example/g00300/laws.eqLink -/
def l_eqLink.code : MC :=
 (.seq
  (.keep [2, 3] (.reg [⟨(some 2), none, .box (.t 0)⟩, ⟨(some 3), none, .box (.t 1)⟩, ⟨(some 4), none, .mov (.v (.d (.bool false)))⟩]))
  (.norm (.seq
   (.seq
    (.keep [2, 3, 10] (.reg [⟨(some 5), none, .fld 0 (.t 2)⟩, ⟨(some 6), none, .load false 1 (.t 5)⟩, ⟨(some 7), none, .fld 0 (.t 3)⟩, ⟨(some 8), none, .load false 1 (.t 7)⟩, ⟨(some 9), none, .call (.v (.clos 77 [])) [.t 6, .t 8] [] []⟩, ⟨(some 10), none, .un .not (.t 9)⟩]))
    (.norm (.cond (.t 10)
     (.seq
      (.keep [4] (.reg [⟨(some 4), none, .mov (.v (.d (.bool false)))⟩]))
      .ret)
     .skip)))
   (.norm (.seq
    (.seq
     (.keep [2, 3, 15] (.reg [⟨(some 11), none, .fld 1 (.t 2)⟩, ⟨(some 12), none, .load false 1 (.t 11)⟩, ⟨(some 13), none, .fld 1 (.t 3)⟩, ⟨(some 14), none, .load false 1 (.t 13)⟩, ⟨(some 15), none, .bin true .neq (.t 12) (.t 14)⟩]))
     (.norm (.cond (.t 15)
      (.seq
       (.keep [4] (.reg [⟨(some 4), none, .mov (.v (.d (.bool false)))⟩]))
       .ret)
      .skip)))
    (.norm (.seq
     (.seq
      (.keep [20] (.reg [⟨(some 16), none, .fld 2 (.t 2)⟩, ⟨(some 17), none, .load false 1 (.t 16)⟩, ⟨(some 18), none, .fld 2 (.t 3)⟩, ⟨(some 19), none, .load false 1 (.t 18)⟩, ⟨(some 20), none, .bin true .neq (.t 17) (.t 19)⟩]))
      (.norm (.cond (.t 20)
       (.seq
        (.keep [4] (.reg [⟨(some 4), none, .mov (.v (.d (.bool false)))⟩]))
        .ret)
       .skip)))
     (.seq
      (.keep [4] (.reg [⟨(some 4), none, .mov (.v (.d (.bool true)))⟩]))
      .ret))))))))
theorem l_eqLink.chk : chkFn Try.prog 66 2 l_eqLink.code [.tmp 4] = true := by kernel_rfl
def l_eqLink (p0 : implLink) (p1 : implLink) : Option (Bool) :=
  (l_eqStringS p0.Log p1.Log).bind fun v9 => if v9 = true then (if p0.Sent = p1.Sent then (if p0.Sure = p1.Sure then (some true) else (some false)) else (some false)) else (some false)
theorem l_eqLink.ok (p0 : implLink) (p1 : implLink) (r : Bool) (h0 : l_eqLink p0 p1 = some r) : ACall Try.prog 66 [.agg [.d (.sl (p0.Log.map encS)), .d (.int .i64 p0.Sent), .d (.int .i64 p0.Sure)], .agg [.d (.sl (p1.Log.map encS)), .d (.int .i64 p1.Sent), .d (.int .i64 p1.Sure)]] [] [] (fun v ob oa na => v = .d (.bool r) ∧ ob = [] ∧ oa = [] ∧ na = []) := by
  refine wFn_ok l_eqLink.chk rfl ?_
  unfold l_eqLink at h0
  refine And.intro rfl ?_
  refine And.intro rfl ?_
  refine ⟨lit [(2, .bptr 2 0), (3, .bptr 3 0)] [(2, [.d (.sl (p0.Log.map encS)), .d (.int .i64 p0.Sent), .d (.int .i64 p0.Sure)]), (3, [.d (.sl (p1.Log.map encS)), .d (.int .i64 p1.Sent), .d (.int .i64 p1.Sure)])] [], (le_lit (And.intro (ve rfl) (And.intro (ve rfl) trivial)) (And.intro ⟨_, rfl, (vel rfl)⟩ (And.intro ⟨_, rfl, (vel rfl)⟩ trivial)) trivial), ?_⟩
  obtain ⟨v9, ev9, h1⟩ := bind_some h0
  clear h0
  refine ⟨rfl, nod rfl, rfl, rfl, _, rfl, rfl, ?_⟩
  refine (l_eqStringS.ok p0.Log p1.Log _ ev9).mono ?_
  rintro _ _ _ _ ⟨rfl, rfl, rfl, rfl⟩
  refine ⟨rfl, rfl, rfl, rfl, trivial, trivial, ?_⟩
  refine ⟨lit [(2, .bptr 2 0), (3, .bptr 3 0), (10, .d (.bool (!v9)))] [(2, [.d (.sl (p0.Log.map encS)), .d (.int .i64 p0.Sent), .d (.int .i64 p0.Sure)]), (3, [.d (.sl (p1.Log.map encS)), .d (.int .i64 p1.Sent), .d (.int .i64 p1.Sure)])] [], (le_lit (And.intro (ve rfl) (And.intro (ve rfl) (And.intro (ve rfl) trivial))) (And.intro ⟨_, rfl, (vel rfl)⟩ (And.intro ⟨_, rfl, (vel rfl)⟩ trivial)) trivial), ?_⟩
  by_cases c1 : v9 = true
  · have h2 := if_t c1 h1
    clear h1
    refine and_f (not_f c1) ?_
    refine ⟨lit [(2, .bptr 2 0), (3, .bptr 3 0)] [(2, [.d (.sl (p0.Log.map encS)), .d (.int .i64 p0.Sent), .d (.int .i64 p0.Sure)]), (3, [.d (.sl (p1.Log.map encS)), .d (.int .i64 p1.Sent), .d (.int .i64 p1.Sure)])] [], (le_lit (And.intro (ve rfl) (And.intro (ve rfl) trivial)) (And.intro ⟨_, rfl, (vel rfl)⟩ (And.intro ⟨_, rfl, (vel rfl)⟩ trivial)) trivial), ?_⟩
    refine And.intro rfl ?_
    refine ⟨lit [(2, .bptr 2 0), (3, .bptr 3 0), (15, .d (.bool (!(decide (p0.Sent = p1.Sent)))))] [(2, [.d (.sl (p0.Log.map encS)), .d (.int .i64 p0.Sent), .d (.int .i64 p0.Sure)]), (3, [.d (.sl (p1.Log.map encS)), .d (.int .i64 p1.Sent), .d (.int .i64 p1.Sure)])] [], (le_lit (And.intro (ve rfl) (And.intro (ve rfl) (And.intro (ve rfl) trivial))) (And.intro ⟨_, rfl, (vel rfl)⟩ (And.intro ⟨_, rfl, (vel rfl)⟩ trivial)) trivial), ?_⟩
    by_cases c2 : p0.Sent = p1.Sent
    · have h3 := if_t c2 h2
      clear h2
      refine and_f (not_f (decide_eq_true c2)) ?_
      refine ⟨lit [(2, .bptr 2 0), (3, .bptr 3 0)] [(2, [.d (.sl (p0.Log.map encS)), .d (.int .i64 p0.Sent), .d (.int .i64 p0.Sure)]), (3, [.d (.sl (p1.Log.map encS)), .d (.int .i64 p1.Sent), .d (.int .i64 p1.Sure)])] [], (le_lit (And.intro (ve rfl) (And.intro (ve rfl) trivial)) (And.intro ⟨_, rfl, (vel rfl)⟩ (And.intro ⟨_, rfl, (vel rfl)⟩ trivial)) trivial), ?_⟩
      refine And.intro rfl ?_
      refine ⟨lit [(20, .d (.bool (!(decide (p0.Sure = p1.Sure)))))] [] [], (le_lit (And.intro (ve rfl) trivial) trivial trivial), ?_⟩
      by_cases c3 : p0.Sure = p1.Sure
      · have h4 := if_t c3 h3
        clear h3
        refine and_f (not_f (decide_eq_true c3)) ?_
        cases h4
        exact ⟨[], nod rfl, all_lt rfl, blt_lt rfl, _, _, rfl, rfl, rfl, rfl, rfl, rfl⟩
      · have h5 := if_f c3 h3
        clear h3
        refine and_t (not_t (decide_eq_false c3)) ?_
        cases h5
        exact ⟨[], nod rfl, all_lt rfl, blt_lt rfl, _, _, rfl, rfl, rfl, rfl, rfl, rfl⟩
    · have h6 := if_f c2 h2
      clear h2
      refine and_t (not_t (decide_eq_false c2)) ?_
      cases h6
      exact ⟨[], nod rfl, all_lt rfl, blt_lt rfl, _, _, rfl, rfl, rfl, rfl, rfl, rfl⟩
  · have h7 := if_f c1 h1
    clear h1
    refine and_t (not_t (ne_t c1)) ?_
    cases h7
    exact ⟨[], nod rfl, all_lt rfl, blt_lt rfl, _, _, rfl, rfl, rfl, rfl, rfl, rfl⟩
end Go.Vm
end
section
set_option maxRecDepth 4000
set_option maxHeartbeats 1000000
namespace Go.Vm
open Go.Proofs
/- loop.example/g00300/laws.eqLinkS -/
def l_eqLinkS.code : MC :=
 (.seq
  (.keep [0, 1] (.reg [⟨(some 4), none, .mov (.v (.d (.bool false)))⟩]))
  (.norm (.seq
   (.seq
    (.keep [0, 1, 10] (.reg [⟨(some 6), none, .mov (.t 0)⟩, ⟨(some 7), none, .len (.t 6)⟩, ⟨(some 8), none, .mov (.t 1)⟩, ⟨(some 9), none, .len (.t 8)⟩, ⟨(some 10), none, .bin true .neq (.t 7) (.t 9)⟩]))
    (.norm (.cond (.t 10)
     (.seq
      (.keep [4] (.reg [⟨(some 4), none, .mov (.v (.d (.bool false)))⟩]))
      .ret)
     .skip)))
   (.norm (.cut
    (.seq
     (.keep [0, 1, 5] (.reg [⟨(some 5), none, .mov (.v (.d (.int .i64 0)))⟩]))
     (.norm (.block 0
      (.loop
       (.seq
        (.seq
         (.keep [0, 1, 5, 14] (.reg [⟨(some 11), none, .mov (.t 5)⟩, ⟨(some 12), none, .mov (.t 0)⟩, ⟨(some 13), none, .len (.t 12)⟩, ⟨(some 14), none, .bin true .lss (.t 11) (.t 13)⟩]))
         (.norm (.cond (.t 14)
          .skip
          (.exit 0))))
        (.norm (.seq
         (.block 1
          (.seq
           (.keep [0, 1, 5, 26] (.draw (.take 0 ⟨(some 17), none, .mov (.t 0)⟩ (.take 1 ⟨(some 18), none, .mov (.t 5)⟩ (.take 2 ⟨(some 19), none, .idx 3 (.t 17) (.t 18)⟩ (.take 3 ⟨(some 20), none, .load true 3 (.t 19)⟩ (.take 4 ⟨(some 21), none, .mov (.t 1)⟩ (.take 5 ⟨(some 22), none, .mov (.t 5)⟩ (.take 6 ⟨(some 23), none, .idx 3 (.t 21) (.t 22)⟩ (.take 7 ⟨(some 24), none, .load true 3 (.t 23)⟩ (.fork 8 ⟨(some 25), none, .call (.v (.clos 66 [])) [.t 20, .t 24] [] []⟩ [] (.take 9 ⟨(some 26), none, .un .not (.t 25)⟩ .done) .nofork)))))))))))
           (.norm (.cond (.t 26)
            (.seq
             (.keep [4] (.reg [⟨(some 4), none, .mov (.v (.d (.bool false)))⟩]))
             .ret)
            .skip))))
         (.norm (.keep [0, 1, 5] (.reg [⟨(some 15), none, .mov (.t 5)⟩, ⟨(some 16), none, .bin true .add (.t 15) (.v (.d (.int .i64 1)))⟩, ⟨(some 5), none, .mov (.t 16)⟩]))))))))))
    (.seq
     (.keep [4] (.reg [⟨(some 4), none, .mov (.v (.d (.bool true)))⟩]))
     .ret))))))
theorem l_eqLinkS.chk : chkFn Try.prog 48 2 l_eqLinkS.code [.tmp 4] = true := by kernel_rfl
def l_eqLinkS.j2 : Option Bool :=
  some true
def l_eqLinkS.J2 : St :=
  lit [] [] []
def l_eqLinkS.l1 (p0 : (List implLink)) (p1 : (List implLink)) : Nat → Int → Option (Sum Bool Unit)
  | 0, _ => none
  | k + 1, x5_l1 => if x5_l1 < (p0.length : Int) then ((ix p0 x5_l1).bind fun xv19 => (ix p1 x5_l1).bind fun xv23 => (l_eqLink xv19 xv23).bind fun v25 => if v25 = true then ((ckK .i64 (x5_l1 + 1)).bind fun v16 => (l_eqLinkS.l1 p0 p1 k) v16) else (some (.inl false))) else (some (.inr ()))
def l_eqLinkS.S1 (p0 : (List implLink)) (p1 : (List implLink)) (x5_l1 : Int) : St :=
  lit [(0, .d (.sl (p0.map implLink.enc))), (1, .d (.sl (p1.map implLink.enc))), (5, .d (.int .i64 x5_l1))] [] []
def l_eqLinkS.O1 (o1 : Unit) : St :=
  lit [] [] []
def l_eqLinkS (p0 : (List implLink)) (p1 : (List implLink)) : Option (Bool) :=
  if (p0.length : Int) = (p1.length : Int) then ((l_eqLinkS.l1 p0 p1 big 0).bind fun w1 => aft w1 fun o1 => l_eqLinkS.j2) else (some false)
theorem l_eqLinkS.ok (p0 : (List implLink)) (p1 : (List implLink)) (r : Bool) (h0 : l_eqLinkS p0 p1 = some r) : ACall Try.prog 48 [.d (.sl (p0.map implLink.enc)), .d (.sl (p1.map implLink.enc))] [] [] (fun v ob oa na => v = .d (.bool r) ∧ ob = [] ∧ oa = [] ∧ na = []) := by
  refine wFn_ok l_eqLinkS.chk rfl ?_
  unfold l_eqLinkS at h0
  refine ⟨lit [(0, .d (.sl (p0.map implLink.enc))), (1, .d (.sl (p1.map implLink.enc)))] [] [], (le_lit (And.intro (ve rfl) (And.intro (ve rfl) trivial)) trivial trivial), ?_⟩
  refine ⟨_, map_len _, ?_⟩
  refine ⟨_, map_len _, ?_⟩
  refine And.intro rfl ?_
  refine ⟨lit [(0, .d (.sl (p0.map implLink.enc))), (1, .d (.sl (p1.map implLink.enc))), (10, .d (.bool (!(decide ((p0.length : Int) = (p1.length : Int))))))] [] [], (le_lit (And.intro (ve rfl) (And.intro (ve rfl) (And.intro (ve rfl) trivial))) trivial trivial), ?_⟩
  by_cases c1 : (p0.length : Int) = (p1.length : Int)
  · have h1 := if_t c1 h0
    clear h0
    refine and_f (not_f (decide_eq_true c1)) ?_
    refine ⟨lit [(0, .d (.sl (p0.map implLink.enc))), (1, .d (.sl (p1.map implLink.enc)))] [] [], (le_lit (And.intro (ve rfl) (And.intro (ve rfl) trivial)) trivial trivial), ?_⟩
    refine ⟨{ g : Unit // l_eqLinkS.j2 = some r }, fun g => l_eqLinkS.J2, ?_, ?_⟩
    · skip
      refine ⟨lit [(0, .d (.sl (p0.map implLink.enc))), (1, .d (.sl (p1.map implLink.enc))), (5, .d (.int .i64 0))] [] [], (le_lit (And.intro (ve rfl) (And.intro (ve rfl) (And.intro (ve rfl) trivial))) trivial trivial), ?_⟩
      obtain ⟨w1, e1, h2⟩ := bind_some h1
      clear h1
      refine ⟨{ g : Nat × Int // l_eqLinkS.l1 p0 p1 g.1 g.2 = some w1 }, fun g => l_eqLinkS.S1 p0 p1 g.1.2, fun g => g.1.1, ⟨(big, 0), e1⟩, (le_lit (And.intro (ve rfl) (And.intro (ve rfl) (And.intro (ve rfl) trivial))) trivial trivial), ?_⟩
      rintro ⟨⟨k1, x5_l1⟩, h3⟩
      change l_eqLinkS.l1 p0 p1 k1 x5_l1 = some w1 at h3
      change wMC _ _ _ (l_eqLinkS.S1 p0 p1 x5_l1)
      cases k1 with
      | zero => rw [l_eqLinkS.l1] at h3; cases h3
      | succ k1 =>
        rw [l_eqLinkS.l1] at h3
        refine ⟨_, map_len _, ?_⟩
        refine And.intro rfl ?_
        refine ⟨lit [(0, .d (.sl (p0.map implLink.enc))), (1, .d (.sl (p1.map implLink.enc))), (5, .d (.int .i64 x5_l1)), (14, .d (.bool (decide (x5_l1 < (p0.length : Int)))))] [] [], (le_lit (And.intro (ve rfl) (And.intro (ve rfl) (And.intro (ve rfl) (And.intro (ve rfl) trivial)))) trivial trivial), ?_⟩
        by_cases c4 : x5_l1 < (p0.length : Int)
        · have h4 := if_t c4 h3
          clear h3
          refine and_t (decide_eq_true c4) ?_
          refine ⟨lit [(0, .d (.sl (p0.map implLink.enc))), (1, .d (.sl (p1.map implLink.enc))), (5, .d (.int .i64 x5_l1))] [] [], (le_lit (And.intro (ve rfl) (And.intro (ve rfl) (And.intro (ve rfl) trivial))) trivial trivial), ?_⟩
          obtain ⟨xv19, exv19, h5⟩ := bind_some h4
          clear h4
          obtain ⟨av19, exv19⟩ := ix_some exv19
          refine And.intro av19 ⟨_, map_get exv19, rfl, ?_⟩
          obtain ⟨xv23, exv23, h6⟩ := bind_some h5
          clear h5
          obtain ⟨av23, exv23⟩ := ix_some exv23
          refine And.intro av23 ⟨_, map_get exv23, rfl, ?_⟩
          refine And.intro (And.intro trivial ?_) trivial
          obtain ⟨v25, ev25, h7⟩ := bind_some h6
          clear h6
          refine ⟨rfl, nod rfl, rfl, rfl, _, rfl, rfl, ?_⟩
          refine (l_eqLink.ok xv19 xv23 _ ev25).mono ?_
          rintro _ _ _ _ ⟨rfl, rfl, rfl, rfl⟩
          refine ⟨rfl, rfl, rfl, rfl, trivial, trivial, ?_⟩
          refine ⟨lit [(0, .d (.sl (p0.map implLink.enc))), (1, .d (.sl (p1.map implLink.enc))), (5, .d (.int .i64 x5_l1)), (26, .d (.bool (!v25)))] [] [], (le_lit (And.intro (ve rfl) (And.intro (ve rfl) (And.intro (ve rfl) (And.intro (ve rfl) trivial)))) trivial trivial), ?_⟩
          by_cases c5 : v25 = true
          · have h8 := if_t c5 h7
            clear h7
            refine and_f (not_f c5) ?_
            refine ⟨lit [(0, .d (.sl (p0.map implLink.enc))), (1, .d (.sl (p1.map implLink.enc))), (5, .d (.int .i64 x5_l1))] [] [], (le_lit (And.intro (ve rfl) (And.intro (ve rfl) (And.intro (ve rfl) trivial))) trivial trivial), ?_⟩
            obtain ⟨v16, ev16, h9⟩ := bind_some h8
            clear h8
            obtain ⟨ev16, rv16⟩ := ckK_some ev16
            refine And.intro rfl ?_
            refine ⟨v16, ev16, fun _ => rv16, ?_⟩
            exact ⟨⟨(k1, _), h9⟩, (le_lit (And.intro (ve rfl) (And.intro (ve rfl) (And.intro (ve rfl) trivial))) trivial trivial), Nat.lt_succ_self _⟩
          · have h10 := if_f c5 h7
            clear h7
            refine and_t (not_t (ne_t c5)) ?_
            cases h10
            obtain rfl := aft_inl h2
            exact ⟨[], nod rfl, all_lt rfl, blt_lt rfl, _, _, rfl, rfl, rfl, rfl, rfl, rfl⟩
        · have h11 := if_f c4 h3
          clear h3
          refine and_f (decide_eq_false c4) ?_
          cases h11
          have h12 := aft_inr h2
          exact ⟨⟨(), h12⟩, (le_lit trivial trivial trivial)⟩
    · rintro ⟨⟨⟩, h13⟩
      change l_eqLinkS.j2 = some r at h13
      change wMC _ _ _ (l_eqLinkS.J2)
      unfold l_eqLinkS.j2 at h13
      clear h1
      cases h13
      exact ⟨[], nod rfl, all_lt rfl, blt_lt rfl, _, _, rfl, rfl, rfl, rfl, rfl, rfl⟩
  · have h14 := if_f c1 h0
    clear h0
    refine and_t (not_t (decide_eq_false c1)) ?_
    cases h14
    exact ⟨[], nod rfl, all_lt rfl, blt_lt rfl, _, _, rfl, rfl, rfl, rfl, rfl, rfl⟩
end Go.Vm
end
section
set_option maxRecDepth 4000
set_option maxHeartbeats 1000000
namespace Go.Vm
open Go.Proofs
/- loop.example/g00300/laws.eqChain -/
def l_eqChain.code : MC :=
 (.seq
  (.keep [2, 3] (.reg [⟨(some 2), none, .box (.t 0)⟩, ⟨(some 3), none, .box (.t 1)⟩, ⟨(some 4), none, .mov (.v (.d (.bool false)))⟩]))
  (.norm (.seq
   (.seq
    (.keep [10] (.reg [⟨(some 5), none, .fld 0 (.t 2)⟩, ⟨(some 6), none, .load false 1 (.t 5)⟩, ⟨(some 7), none, .fld 0 (.t 3)⟩, ⟨(some 8), none, .load false 1 (.t 7)⟩, ⟨(some 9), none, .call (.v (.clos 48 [])) [.t 6, .t 8] [] []⟩, ⟨(some 10), none, .un .not (.t 9)⟩]))
    (.norm (.cond (.t 10)
     (.seq
      (.keep [4] (.reg [⟨(some 4), none, .mov (.v (.d (.bool false)))⟩]))
      .ret)
     .skip)))
   (.seq
    (.keep [4] (.reg [⟨(some 4), none, .mov (.v (.d (.bool true)))⟩]))
    .ret))))
theorem l_eqChain.chk : chkFn Try.prog 19 2 l_eqChain.code [.tmp 4] = true := by kernel_rfl
def l_eqChain (p0 : implChain) (p1 : implChain) : Option (Bool) :=
  (l_eqLinkS p0.Links p1.Links).bind fun v9 => if v9 = true then (some true) else (some false)
theorem l_eqChain.ok (p0 : implChain) (p1 : implChain) (r : Bool) (h0 : l_eqChain p0 p1 = some r) : ACall Try.prog 19 [.agg [.d (.sl (p0.Links.map implLink.enc))], .agg [.d (.sl (p1.Links.map implLink.enc))]] [] [] (fun v ob oa na => v = .d (.bool r) ∧ ob = [] ∧ oa = [] ∧ na = []) := by
  refine wFn_ok l_eqChain.chk rfl ?_
  unfold l_eqChain at h0
  refine And.intro rfl ?_
  refine And.intro rfl ?_
  refine ⟨lit [(2, .bptr 2 0), (3, .bptr 3 0)] [(2, [.d (.sl (p0.Links.map implLink.enc))]), (3, [.d (.sl (p1.Links.map implLink.enc))])] [], (le_lit (And.intro (ve rfl) (And.intro (ve rfl) trivial)) (And.intro ⟨_, rfl, (vel rfl)⟩ (And.intro ⟨_, rfl, (vel rfl)⟩ trivial)) trivial), ?_⟩
  obtain ⟨v9, ev9, h1⟩ := bind_some h0
  clear h0
  refine ⟨rfl, nod rfl, rfl, rfl, _, rfl, rfl, ?_⟩
  refine (l_eqLinkS.ok p0.Links p1.Links _ ev9).mono ?_
  rintro _ _ _ _ ⟨rfl, rfl, rfl, rfl⟩
  refine ⟨rfl, rfl, rfl, rfl, trivial, trivial, ?_⟩
  refine ⟨lit [(10, .d (.bool (!v9)))] [] [], (le_lit (And.intro (ve rfl) trivial) trivial trivial), ?_⟩
  by_cases c1 : v9 = true
  · have h2 := if_t c1 h1
    clear h1
    refine and_f (not_f c1) ?_
    cases h2
    exact ⟨[], nod rfl, all_lt rfl, blt_lt rfl, _, _, rfl, rfl, rfl, rfl, rfl, rfl⟩
  · have h3 := if_f c1 h1
    clear h1
    refine and_t (not_t (ne_t c1)) ?_
    cases h3
    exact ⟨[], nod rfl, all_lt rfl, blt_lt rfl, _, _, rfl, rfl, rfl, rfl, rfl, rfl⟩
end Go.Vm
end
section
set_option maxRecDepth 4000
set_option maxHeartbeats 1000000
namespace Go.Vm
open Go.Proofs
/- loop.example/g00300/laws.markText -/
def l_markText.code : MC :=
 (.seq
  (.keep [0] (.reg [⟨(some 2), none, .mov (.v (.d (.str [])))⟩]))
  (.norm (.seq
   (.seq
    (.keep [0, 5] (.reg [⟨(some 4), none, .mov (.t 0)⟩, ⟨(some 5), none, .bin true .leq (.t 4) (.v (.d (.int .i64 0)))⟩]))
    (.norm (.cond (.t 5)
     (.seq
      (.keep [2] (.reg [⟨(some 2), none, .mov (.v (.d (.str [109, 48])))⟩]))
      .ret)
     .skip)))
   (.norm (.seq
    (.keep [0, 3] (.reg [⟨(some 3), none, .mov (.v (.d (.str [])))⟩]))
    (.norm (.cut
     (.block 0
      (.loop
       (.seq
        (.seq
         (.keep [0, 3, 7] (.reg [⟨(some 6), none, .mov (.t 0)⟩, ⟨(some 7), none, .bin true .gtr (.t 6) (.v (.d (.int .i64 0)))⟩]))
         (.norm (.cond (.t 7)
          .skip
          (.exit 0))))
        (.norm (.block 1
         (.seq
          (.keep [0, 3] (.reg [⟨(some 8), none, .mov (.t 0)⟩, ⟨(some 9), none, .bin true .rem (.t 8) (.v (.d (.int .i64 10)))⟩, ⟨(some 10), none, .bin true .add (.v (.d (.int .i64 48))) (.t 9)⟩, ⟨(some 11), none, .toInt .u8 (.t 10)⟩, ⟨(some 12), none, .mkrow 12 1 [.t 11]⟩, ⟨(some 13), none, .b2s (.t 12)⟩, ⟨(some 14), none, .mov (.t 3)⟩, ⟨(some 15), none, .bin false .add (.t 13) (.t 14)⟩, ⟨(some 3), none, .mov (.t 15)⟩]))
          (.norm (.keep [0, 3] (.reg [⟨(some 16), none, .mov (.t 0)⟩, ⟨(some 17), none, .bin true .quo (.t 16) (.v (.d (.int .i64 10)))⟩, ⟨(some 0), none, .mov (.t 17)⟩])))))))))
     (.seq
      (.keep [2] (.reg [⟨(some 18), none, .mov (.t 3)⟩, ⟨(some 19), none, .bin false .add (.v (.d (.str [109]))) (.t 18)⟩, ⟨(some 2), none, .mov (.t 19)⟩]))
      .ret))))))))
theorem l_markText.chk : chkFn Try.prog 50 1 l_markText.code [.tmp 2] = true := by kernel_rfl
def l_markText.l1 : Nat → Int → (List UInt8) → Option (List UInt8)
  | 0, _, _ => none
  | k + 1, x0_l1, x3_l1 => if 0 < x0_l1 then ((remK x0_l1 10).bind fun v9 => (ckK .i64 (48 + v9)).bind fun v10 => (b2sI [(IntKind.wrap .u8 v10)]).bind fun v13 => (catS v13 x3_l1).bind fun v15 => (quoK .i64 x0_l1 10).bind fun v17 => (l_markText.l1 k) v17 v15) else (some x3_l1)
def l_markText.S1 (x0_l1 : Int) (x3_l1 : List UInt8) : St :=
  lit [(0, .d (.int .i64 x0_l1)), (3, .d (.str x3_l1))] [] []
def l_markText.O1 (o1 : List UInt8) : St :=
  lit [(3, .d (.str o1))] [] []
def l_markText (p0 : Int) : Option ((List UInt8)) :=
  if p0 ≤ 0 then (some [109, 48]) else ((l_markText.l1 big p0 []).bind fun o1 => (catS [109] o1).bind fun v19 => some v19)
theorem l_markText.ok (p0 : Int) (r : (List UInt8)) (h0 : l_markText p0 = some r) : ACall Try.prog 50 [.d (.int .i64 p0)] [] [] (fun v ob oa na => v = .d (.str r) ∧ ob = [] ∧ oa = [] ∧ na = []) := by
  refine wFn_ok l_markText.chk rfl ?_
  unfold l_markText at h0
  refine ⟨lit [(0, .d (.int .i64 p0))] [] [], (le_lit (And.intro (ve rfl) trivial) trivial trivial), ?_⟩
  refine And.intro rfl ?_
  refine ⟨lit [(0, .d (.int .i64 p0)), (5, .d (.bool (decide (p0 ≤ 0))))] [] [], (le_lit (And.intro (ve rfl) (And.intro (ve rfl) trivial)) trivial trivial), ?_⟩
  by_cases c1 : p0 ≤ 0
  · have h1 := if_t c1 h0
    clear h0
    refine and_t (decide_eq_true c1) ?_
    cases h1
    exact ⟨[], nod rfl, all_lt rfl, blt_lt rfl, _, _, rfl, rfl, rfl, rfl, rfl, rfl⟩
  · have h2 := if_f c1 h0
    clear h0
    refine and_f (decide_eq_false c1) ?_
    refine ⟨lit [(0, .d (.int .i64 p0))] [] [], (le_lit (And.intro (ve rfl) trivial) trivial trivial), ?_⟩
    refine ⟨lit [(0, .d (.int .i64 p0)), (3, .d (.str []))] [] [], (le_lit (And.intro (ve rfl) (And.intro (ve rfl) trivial)) trivial trivial), ?_⟩
    obtain ⟨o1, e1, h3⟩ := bind_some h2
    clear h2
    refine ⟨Unit, fun _ => l_markText.O1 o1, ?_, fun _ => ?_⟩
    · skip
      refine ⟨{ g : Nat × Int × List UInt8 // l_markText.l1 g.1 g.2.1 g.2.2 = some o1 }, fun g => l_markText.S1 g.1.2.1 g.1.2.2, fun g => g.1.1, ⟨(big, p0, []), e1⟩, (le_lit (And.intro (ve rfl) (And.intro (ve rfl) trivial)) trivial trivial), ?_⟩
      rintro ⟨⟨k1, x0_l1, x3_l1⟩, h4⟩
      change l_markText.l1 k1 x0_l1 x3_l1 = some o1 at h4
      change wMC _ _ _ (l_markText.S1 x0_l1 x3_l1)
      cases k1 with
      | zero => rw [l_markText.l1] at h4; cases h4
      | succ k1 =>
        rw [l_markText.l1] at h4
        refine And.intro rfl ?_
        refine ⟨lit [(0, .d (.int .i64 x0_l1)), (3, .d (.str x3_l1)), (7, .d (.bool (decide (0 < x0_l1))))] [] [], (le_lit (And.intro (ve rfl) (And.intro (ve rfl) (And.intro (ve rfl) trivial))) trivial trivial), ?_⟩
        by_cases c3 : 0 < x0_l1
        · have h5 := if_t c3 h4
          clear h4
          refine and_t (decide_eq_true c3) ?_
          refine ⟨lit [(0, .d (.int .i64 x0_l1)), (3, .d (.str x3_l1))] [] [], (le_lit (And.intro (ve rfl) (And.intro (ve rfl) trivial)) trivial trivial), ?_⟩
          obtain ⟨v9, ev9, h6⟩ := bind_some h5
          clear h5
          obtain ⟨av9, bv9, ev9⟩ := remK_some ev9
          refine And.intro rfl ?_
          refine And.intro av9 (And.intro bv9 ⟨v9, ev9, ?_⟩)
          obtain ⟨v10, ev10, h7⟩ := bind_some h6
          clear h6
          obtain ⟨ev10, rv10⟩ := ckK_some ev10
          refine And.intro rfl ?_
          refine ⟨v10, ev10, fun _ => rv10, ?_⟩
          refine ⟨(IntKind.wrap .u8 v10), rfl, ?_⟩
          refine And.intro rfl ?_
          refine And.intro rfl ?_
          refine And.intro (nod rfl) (And.intro rfl ?_)
          obtain ⟨v13, ev13, h8⟩ := bind_some h7
          clear h7
          obtain ⟨ev13, lv13⟩ := b2sI_some ev13
          refine ⟨_, v13, rfl, rfl.trans ev13, lv13, ?_⟩
          obtain ⟨v15, ev15, h9⟩ := bind_some h8
          clear h8
          obtain ⟨ev15, rv15⟩ := catS_some ev15
          refine ⟨v15, ev15, rv15, ?_⟩
          refine ⟨lit [(0, .d (.int .i64 x0_l1)), (3, .d (.str v15))] [] [], (le_lit (And.intro (ve rfl) (And.intro (ve rfl) trivial)) trivial trivial), ?_⟩
          obtain ⟨v17, ev17, h10⟩ := bind_some h9
          clear h9
          obtain ⟨av17, bv17, ev17, rv17⟩ := quoK_some ev17
          refine And.intro rfl ?_
          refine And.intro av17 (And.intro bv17 ⟨v17, ev17, rv17, ?_⟩)
          exact ⟨⟨(k1, _, _), h10⟩, (le_lit (And.intro (ve rfl) (And.intro (ve rfl) trivial)) trivial trivial), Nat.lt_succ_self _⟩
        · have h11 := if_f c3 h4
          clear h4
          refine and_f (decide_eq_false c3) ?_
          cases h11
          exact ⟨(), (le_lit (And.intro (ve rfl) trivial) trivial trivial)⟩
    · show wMC _ _ _ (l_markText.O1 o1)
      obtain ⟨v19, ev19, h12⟩ := bind_some h3
      clear h3
      obtain ⟨ev19, rv19⟩ := catS_some ev19
      refine ⟨v19, ev19, rv19, ?_⟩
      cases h12
      exact ⟨[], nod rfl, all_lt rfl, blt_lt rfl, _, _, rfl, rfl, rfl, rfl, rfl, rfl⟩
end Go.Vm
end
section
set_option maxRecDepth 4000
set_option maxHeartbeats 1000000
namespace Go.Vm
open Go.Proofs
/- loop.example/g00300/laws.markStringS -/
def l_markStringS.code : MC :=
 (.seq
  (.keep [0, 1] (.reg [⟨(some 4), none, .mov (.v (.d (.int .i64 0)))⟩]))
  (.norm (.cut
   (.seq
    (.keep [0, 1, 5] (.reg [⟨(some 5), none, .mov (.v (.d (.int .i64 0)))⟩]))
    (.norm (.block 0
     (.loop
      (.seq
       (.seq
        (.keep [0, 1, 5, 9] (.reg [⟨(some 6), none, .mov (.t 5)⟩, ⟨(some 7), none, .mov (.t 0)⟩, ⟨(some 8), none, .len (.t 7)⟩, ⟨(some 9), none, .bin true .lss (.t 6) (.t 8)⟩]))
        (.norm (.cond (.t 9)
         .skip
         (.exit 0))))
       (.norm (.seq
        (.block 1
         (.seq
          (.keep [0, 1, 5] (.reg [⟨(some 12), none, .mov (.t 0)⟩, ⟨(some 13), none, .mov (.t 5)⟩, ⟨(some 14), none, .mov (.t 1)⟩, ⟨(some 15), none, .call (.v (.clos 50 [])) [.t 14] [] []⟩, ⟨(some 16), none, .idx 1 (.t 12) (.t 13)⟩, ⟨none, none, .store 1 (.t 16) (.t 15)⟩]))
          (.norm (.keep [0, 1, 5] (.reg [⟨(some 17), none, .mov (.t 1)⟩, ⟨(some 18), none, .bin true .add (.t 17) (.v (.d (.int .i64 1)))⟩, ⟨(some 1), none, .mov (.t 18)⟩])))))
        (.norm (.keep [0, 1, 5] (.reg [⟨(some 10), none, .mov (.t 5)⟩, ⟨(some 11), none, .bin true .add (.t 10) (.v (.d (.int .i64 1)))⟩, ⟨(some 5), none, .mov (.t 11)⟩]))))))))))
   (.seq
    (.keep [4] (.reg [⟨(some 19), none, .mov (.t 1)⟩, ⟨(some 4), none, .mov (.t 19)⟩]))
    .ret))))
theorem l_markStringS.chk : chkFn Try.prog 67 2 l_markStringS.code [.tmp 4] = true := by kernel_rfl
def l_markStringS.j2 (a10000_2 : (List (List UInt8))) (x1_2 : Int) : Option (Int × (List (List UInt8))) :=
  some (x1_2, a10000_2)
def l_markStringS.J2 (a10000_2 : (List (List UInt8))) (x1_2 : Int) : St :=
  lit [(1, .d (.int .i64 x1_2))] [] [(10000, a10000_2.map encS)]
def l_markStringS.l1 : Nat → (List (List UInt8)) → Int → Int → Option ((List (List UInt8)) × Int)
  | 0, _, _, _ => none
  | k + 1, a10000_l1, x1_l1, x5_l1 => if x5_l1 < (a10000_l1.length : Int) then ((l_markText x1_l1).bind fun v15 => (ix a10000_l1 x5_l1).bind fun xv16 => (setN a10000_l1 x5_l1.toNat v15).bind fun s6 => (ckK .i64 (x1_l1 + 1)).bind fun v18 => (ckK .i64 (x5_l1 + 1)).bind fun v11 => (l_markStringS.l1 k) s6 v18 v11) else (some (a10000_l1, x1_l1))
def l_markStringS.S1 (a10000_l1 : (List (List UInt8))) (x1_l1 : Int) (x5_l1 : Int) : St :=
  lit [(0, .ref 10000 [] 0 a10000_l1.length), (1, .d (.int .i64 x1_l1)), (5, .d (.int .i64 x5_l1))] [] [(10000, a10000_l1.map encS)]
def l_markStringS.O1 (o1 : (List (List UInt8)) × Int) : St :=
  lit [(1, .d (.int .i64 o1.2))] [] [(10000, o1.1.map encS)]
def l_markStringS (p0 : (List (List UInt8))) (p1 : Int) : Option (Int × (List (List UInt8))) :=
  (l_markStringS.l1 big p0 p1 0).bind fun o1 => l_markStringS.j2 o1.1 o1.2
theorem l_markStringS.l1_len : ∀ (k : Nat) (a : List (List UInt8)) (x y : Int) (o : List (List UInt8) × Int), l_markStringS.l1 k a x y = some o → o.1.length = a.length
  | 0, a, x, y, o, h => by rw [l_markStringS.l1] at h; cases h
  | k + 1, a, x, y, o, h => by
    rw [l_markStringS.l1] at h
    by_cases c : y < (a.length : Int)
    · have h := if_t c h
      obtain ⟨v1, e1, h⟩ := bind_some h
      obtain ⟨v2, e2, h⟩ := bind_some h
      obtain ⟨v3, e3, h⟩ := bind_some h
      obtain ⟨v4, e4, h⟩ := bind_some h
      obtain ⟨v5, e5, h⟩ := bind_some h
      rw [l1_len k _ _ _ _ h, ← (setN_some e3).2]
    · cases if_f c h; rfl
theorem l_markStringS.len (p0 : List (List UInt8)) (p1 : Int) (r : Int × List (List UInt8)) (h : l_markStringS p0 p1 = some r) : r.2.length = p0.length := by
  unfold l_markStringS at h
  obtain ⟨o, e, h⟩ := bind_some h
  cases h
  exact l_markStringS.l1_len _ _ _ _ _ e
theorem l_markStringS.ok (p0 : (List (List UInt8))) (p1 : Int) (r : Int × (List (List UInt8))) (h0 : l_markStringS p0 p1 = some r) : ACall Try.prog 67 [.ref 10000 [] 0 p0.length, .d (.int .i64 p1)] [] [p0.map encS] (fun v ob oa na => v = .d (.int .i64 r.1) ∧ ob = [] ∧ oa = [some (r.2.map encS)] ∧ na = []) := by
  refine wFn_ok l_markStringS.chk rfl ?_
  unfold l_markStringS at h0
  refine ⟨lit [(0, .ref 10000 [] 0 p0.length), (1, .d (.int .i64 p1))] [] [(10000, p0.map encS)], (le_lit (And.intro (ve rfl) (And.intro (ve rfl) trivial)) trivial (And.intro rfl trivial)), ?_⟩
  refine ⟨{ g : (List (List UInt8)) × Int // l_markStringS.j2 g.1 g.2 = some r }, fun g => l_markStringS.J2 g.1.1 g.1.2, ?_, ?_⟩
  · skip
    refine ⟨lit [(0, .ref 10000 [] 0 p0.length), (1, .d (.int .i64 p1)), (5, .d (.int .i64 0))] [] [(10000, p0.map encS)], (le_lit (And.intro (ve rfl) (And.intro (ve rfl) (And.intro (ve rfl) trivial))) trivial (And.intro rfl trivial)), ?_⟩
    obtain ⟨o1, e1, h1⟩ := bind_some h0
    clear h0
    refine ⟨{ g : Nat × (List (List UInt8)) × Int × Int // l_markStringS.l1 g.1 g.2.1 g.2.2.1 g.2.2.2 = some o1 }, fun g => l_markStringS.S1 g.1.2.1 g.1.2.2.1 g.1.2.2.2, fun g => g.1.1, ⟨(big, p0, p1, 0), e1⟩, (le_lit (And.intro (ve rfl) (And.intro (ve rfl) (And.intro (ve rfl) trivial))) trivial (And.intro rfl trivial)), ?_⟩
    rintro ⟨⟨k1, a10000_l1, x1_l1, x5_l1⟩, h2⟩
    change l_markStringS.l1 k1 a10000_l1 x1_l1 x5_l1 = some o1 at h2
    change wMC _ _ _ (l_markStringS.S1 a10000_l1 x1_l1 x5_l1)
    cases k1 with
    | zero => rw [l_markStringS.l1] at h2; cases h2
    | succ k1 =>
      rw [l_markStringS.l1] at h2
      refine And.intro rfl ?_
      refine ⟨lit [(0, .ref 10000 [] 0 a10000_l1.length), (1, .d (.int .i64 x1_l1)), (5, .d (.int .i64 x5_l1)), (9, .d (.bool (decide (x5_l1 < (a10000_l1.length : Int)))))] [] [(10000, a10000_l1.map encS)], (le_lit (And.intro (ve rfl) (And.intro (ve rfl) (And.intro (ve rfl) (And.intro (ve rfl) trivial)))) trivial (And.intro rfl trivial)), ?_⟩
      by_cases c4 : x5_l1 < (a10000_l1.length : Int)
      · have h3 := if_t c4 h2
        clear h2
        refine and_t (decide_eq_true c4) ?_
        refine ⟨lit [(0, .ref 10000 [] 0 a10000_l1.length), (1, .d (.int .i64 x1_l1)), (5, .d (.int .i64 x5_l1))] [] [(10000, a10000_l1.map encS)], (le_lit (And.intro (ve rfl) (And.intro (ve rfl) (And.intro (ve rfl) trivial))) trivial (And.intro rfl trivial)), ?_⟩
        obtain ⟨v15, ev15, h4⟩ := bind_some h3
        clear h3
        refine ⟨rfl, nod rfl, rfl, rfl, _, rfl, rfl, ?_⟩
        refine (l_markText.ok x1_l1 _ ev15).mono ?_
        rintro _ _ _ _ ⟨rfl, rfl, rfl, rfl⟩
        refine ⟨rfl, rfl, rfl, rfl, trivial, trivial, ?_⟩
        obtain ⟨xv16, exv16, h5⟩ := bind_some h4
        clear h4
        obtain ⟨av16, exv16⟩ := ix_some exv16
        refine And.intro av16 ⟨_, _, rfl, (get_lt exv16), map_get exv16, rfl, ?_⟩
        obtain ⟨s6, es6, h6⟩ := bind_some h5
        clear h5
        obtain ⟨es6, ls6⟩ := setN_some es6
        refine ⟨_, _, rfl, map_get exv16, ?_⟩
        refine And.intro rfl ?_
        refine And.intro rfl (And.intro (nod rfl) (And.intro (nle rfl) (And.intro rfl ⟨_, (map_set (f := encS) es6 rfl), ?_⟩)))
        refine ⟨lit [(0, .ref 10000 [] 0 s6.length), (1, .d (.int .i64 x1_l1)), (5, .d (.int .i64 x5_l1))] [] [(10000, s6.map encS)], (le_lit (And.intro (ve (congrArg (V.ref 10000 [] 0) ls6)) (And.intro (ve rfl) (And.intro (ve rfl) trivial))) trivial (And.intro rfl trivial)), ?_⟩
        obtain ⟨v18, ev18, h7⟩ := bind_some h6
        clear h6
        obtain ⟨ev18, rv18⟩ := ckK_some ev18
        refine And.intro rfl ?_
        refine ⟨v18, ev18, fun _ => rv18, ?_⟩
        refine ⟨lit [(0, .ref 10000 [] 0 s6.length), (1, .d (.int .i64 v18)), (5, .d (.int .i64 x5_l1))] [] [(10000, s6.map encS)], (le_lit (And.intro (ve rfl) (And.intro (ve rfl) (And.intro (ve rfl) trivial))) trivial (And.intro rfl trivial)), ?_⟩
        obtain ⟨v11, ev11, h8⟩ := bind_some h7
        clear h7
        obtain ⟨ev11, rv11⟩ := ckK_some ev11
        refine And.intro rfl ?_
        refine ⟨v11, ev11, fun _ => rv11, ?_⟩
        exact ⟨⟨(k1, _, _, _), h8⟩, (le_lit (And.intro (ve rfl) (And.intro (ve rfl) (And.intro (ve rfl) trivial))) trivial (And.intro rfl trivial)), Nat.lt_succ_self _⟩
      · have h9 := if_f c4 h2
        clear h2
        refine and_f (decide_eq_false c4) ?_
        cases h9
        exact ⟨⟨(_, _), h1⟩, (le_lit (And.intro (ve rfl) trivial) trivial (And.intro rfl trivial))⟩
  · rintro ⟨⟨a10000_2, x1_2⟩, h10⟩
    change l_markStringS.j2 a10000_2 x1_2 = some r at h10
    change wMC _ _ _ (l_markStringS.J2 a10000_2 x1_2)
    unfold l_markStringS.j2 at h10
    clear h0
    cases h10
    exact ⟨[], nod rfl, all_lt rfl, blt_lt rfl, _, _, rfl, rfl, rfl, rfl, rfl, rfl⟩
end Go.Vm
end
section
set_option maxRecDepth 4000
set_option maxHeartbeats 1000000
namespace Go.Vm
open Go.Proofs
/- loop.example/g00300/laws.markLinkS -/
def l_markLinkS.code : MC :=
 (.seq
  (.keep [0, 1] (.reg [⟨(some 4), none, .mov (.v (.d (.int .i64 0)))⟩]))
  (.norm (.cut
   (.seq
    (.keep [0, 1, 5] (.reg [⟨(some 5), none, .mov (.v (.d (.int .i64 0)))⟩]))
    (.norm (.block 0
     (.loop
      (.seq
       (.seq
        (.keep [0, 1, 5, 9] (.reg [⟨(some 6), none, .mov (.t 5)⟩, ⟨(some 7), none, .mov (.t 0)⟩, ⟨(some 8), none, .len (.t 7)⟩, ⟨(some 9), none, .bin true .lss (.t 6) (.t 8)⟩]))
        (.norm (.cond (.t 9)
         .skip
         (.exit 0))))
       (.norm (.seq
        (.block 1
         (.seq
          (.keep [0, 1, 5] (.reg [⟨(some 12), none, .mov (.t 0)⟩, ⟨(some 13), none, .mov (.t 5)⟩, ⟨(some 14), none, .idx 3 (.t 12) (.t 13)⟩, ⟨(some 15), none, .fld 0 (.t 14)⟩, ⟨(some 16), none, .load false 1 (.t 15)⟩, ⟨(some 17), none, .mov (.t 1)⟩, ⟨(some 18), none, .call (.v (.clos 67 [])) [.t 16, .t 17] [true] []⟩, ⟨(some 1), none, .mov (.t 18)⟩]))
          (.norm (.seq
           (.keep [0, 1, 5] (.reg [⟨(some 19), none, .mov (.t 0)⟩, ⟨(some 20), none, .mov (.t 5)⟩, ⟨(some 21), none, .mov (.t 1)⟩, ⟨(some 22), none, .idx 3 (.t 19) (.t 20)⟩, ⟨(some 23), none, .fld 1 (.t 22)⟩, ⟨none, none, .store 1 (.t 23) (.t 21)⟩]))
           (.norm (.seq
            (.keep [0, 1, 5] (.reg [⟨(some 24), none, .mov (.t 1)⟩, ⟨(some 25), none, .bin true .add (.t 24) (.v (.d (.int .i64 1)))⟩, ⟨(some 1), none, .mov (.t 25)⟩]))
            (.norm (.seq
             (.keep [0, 1, 5] (.reg [⟨(some 26), none, .mov (.t 0)⟩, ⟨(some 27), none, .mov (.t 5)⟩, ⟨(some 28), none, .mov (.t 1)⟩, ⟨(some 29), none, .idx 3 (.t 26) (.t 27)⟩, ⟨(some 30), none, .fld 2 (.t 29)⟩, ⟨none, none, .store 1 (.t 30) (.t 28)⟩]))
             (.norm (.keep [0, 1, 5] (.reg [⟨(some 31), none, .mov (.t 1)⟩, ⟨(some 32), none, .bin true .add (.t 31) (.v (.d (.int .i64 1)))⟩, ⟨(some 1), none, .mov (.t 32)⟩])))))))))))
        (.norm (.keep [0, 1, 5] (.reg [⟨(some 10), none, .mov (.t 5)⟩, ⟨(some 11), none, .bin true .add (.t 10) (.v (.d (.int .i64 1)))⟩, ⟨(some 5), none, .mov (.t 11)⟩]))))))))))
   (.seq
    (.keep [4] (.reg [⟨(some 33), none, .mov (.t 1)⟩, ⟨(some 4), none, .mov (.t 33)⟩]))
    .ret))))
theorem l_markLinkS.chk : chkFn Try.prog 51 2 l_markLinkS.code [.tmp 4] = true := by kernel_rfl
def l_markLinkS.j2 (a10000_2 : (List implLink)) (x1_2 : Int) : Option (Int × (List implLink)) :=
  some (x1_2, a10000_2)
def l_markLinkS.J2 (a10000_2 : (List implLink)) (x1_2 : Int) : St :=
  lit [(1, .d (.int .i64 x1_2))] [] [(10000, a10000_2.map implLink.enc)]
def l_markLinkS.l1 : Nat → (List implLink) → Int → Int → Option ((List implLink) × Int)
  | 0, _, _, _ => none
  | k + 1, a10000_l1, x1_l1, x5_l1 => if x5_l1 < (a10000_l1.length : Int) then ((ix a10000_l1 x5_l1).bind fun xv14 => (l_markStringS xv14.Log x1_l1).bind fun v18 => (setN a10000_l1 x5_l1.toNat (implLink.mk v18.2 xv14.Sent xv14.Sure)).bind fun s8 => (ix s8 x5_l1).bind fun xv22 => (setN s8 x5_l1.toNat (implLink.mk xv22.Log v18.1 xv22.Sure)).bind fun s10 => (ckK .i64 (v18.1 + 1)).bind fun v25 => (ix s10 x5_l1).bind fun xv29 => (setN s10 x5_l1.toNat (implLink.mk xv29.Log xv29.Sent v25)).bind fun s12 => (ckK .i64 (v25 + 1)).bind fun v32 => (ckK .i64 (x5_l1 + 1)).bind fun v11 => (l_markLinkS.l1 k) s12 v32 v11) else (some (a10000_l1, x1_l1))
def l_markLinkS.S1 (a10000_l1 : (List implLink)) (x1_l1 : Int) (x5_l1 : Int) : St :=
  lit [(0, .ref 10000 [] 0 a10000_l1.length), (1, .d (.int .i64 x1_l1)), (5, .d (.int .i64 x5_l1))] [] [(10000, a10000_l1.map implLink.enc)]
def l_markLinkS.O1 (o1 : (List implLink) × Int) : St :=
  lit [(1, .d (.int .i64 o1.2))] [] [(10000, o1.1.map implLink.enc)]
def l_markLinkS (p0 : (List implLink)) (p1 : Int) : Option (Int × (List implLink)) :=
  (l_markLinkS.l1 big p0 p1 0).bind fun o1 => l_markLinkS.j2 o1.1 o1.2
theorem l_markLinkS.l1_len : ∀ (k : Nat) (a : List implLink) (x y : Int) (o : List implLink × Int), l_markLinkS.l1 k a x y = some o → o.1.length = a.length
  | 0, a, x, y, o, h => by rw [l_markLinkS.l1] at h; cases h
  | k + 1, a, x, y, o, h => by
    rw [l_markLinkS.l1] at h
    by_cases c : y < (a.length : Int)
    · have h := if_t c h
      obtain ⟨v1, e1, h⟩ := bind_some h
      obtain ⟨v2, e2, h⟩ := bind_some h
      obtain ⟨v3, e3, h⟩ := bind_some h
      obtain ⟨v4, e4, h⟩ := bind_some h
      obtain ⟨v5, e5, h⟩ := bind_some h
      obtain ⟨v6, e6, h⟩ := bind_some h
      obtain ⟨v7, e7, h⟩ := bind_some h
      obtain ⟨v8, e8, h⟩ := bind_some h
      obtain ⟨v9, e9, h⟩ := bind_some h
      obtain ⟨v10, e10, h⟩ := bind_some h
      rw [l1_len k _ _ _ _ h, ← (setN_some e8).2, ← (setN_some e5).2, ← (setN_some e3).2]
    · cases if_f c h; rfl
theorem l_markLinkS.len (p0 : List implLink) (p1 : Int) (r : Int × List implLink) (h : l_markLinkS p0 p1 = some r) : r.2.length = p0.length := by
  unfold l_markLinkS at h
  obtain ⟨o, e, h⟩ := bind_some h
  cases h
  exact l_markLinkS.l1_len _ _ _ _ _ e
theorem l_markLinkS.ok (p0 : (List implLink)) (p1 : Int) (r : Int × (List implLink)) (h0 : l_markLinkS p0 p1 = some r) : ACall Try.prog 51 [.ref 10000 [] 0 p0.length, .d (.int .i64 p1)] [] [p0.map implLink.enc] (fun v ob oa na => v = .d (.int .i64 r.1) ∧ ob = [] ∧ oa = [some (r.2.map implLink.enc)] ∧ na = []) := by
  refine wFn_ok l_markLinkS.chk rfl ?_
  unfold l_markLinkS at h0
  refine ⟨lit [(0, .ref 10000 [] 0 p0.length), (1, .d (.int .i64 p1))] [] [(10000, p0.map implLink.enc)], (le_lit (And.intro (ve rfl) (And.intro (ve rfl) trivial)) trivial (And.intro rfl trivial)), ?_⟩
  refine ⟨{ g : (List implLink) × Int // l_markLinkS.j2 g.1 g.2 = some r }, fun g => l_markLinkS.J2 g.1.1 g.1.2, ?_, ?_⟩
  · skip
    refine ⟨lit [(0, .ref 10000 [] 0 p0.length), (1, .d (.int .i64 p1)), (5, .d (.int .i64 0))] [] [(10000, p0.map implLink.enc)], (le_lit (And.intro (ve rfl) (And.intro (ve rfl) (And.intro (ve rfl) trivial))) trivial (And.intro rfl trivial)), ?_⟩
    obtain ⟨o1, e1, h1⟩ := bind_some h0
    clear h0
    refine ⟨{ g : Nat × (List implLink) × Int × Int // l_markLinkS.l1 g.1 g.2.1 g.2.2.1 g.2.2.2 = some o1 }, fun g => l_markLinkS.S1 g.1.2.1 g.1.2.2.1 g.1.2.2.2, fun g => g.1.1, ⟨(big, p0, p1, 0), e1⟩, (le_lit (And.intro (ve rfl) (And.intro (ve rfl) (And.intro (ve rfl) trivial))) trivial (And.intro rfl trivial)), ?_⟩
    rintro ⟨⟨k1, a10000_l1, x1_l1, x5_l1⟩, h2⟩
    change l_markLinkS.l1 k1 a10000_l1 x1_l1 x5_l1 = some o1 at h2
    change wMC _ _ _ (l_markLinkS.S1 a10000_l1 x1_l1 x5_l1)
    cases k1 with
    | zero => rw [l_markLinkS.l1] at h2; cases h2
    | succ k1 =>
      rw [l_markLinkS.l1] at h2
      refine And.intro rfl ?_
      refine ⟨lit [(0, .ref 10000 [] 0 a10000_l1.length), (1, .d (.int .i64 x1_l1)), (5, .d (.int .i64 x5_l1)), (9, .d (.bool (decide (x5_l1 < (a10000_l1.length : Int)))))] [] [(10000, a10000_l1.map implLink.enc)], (le_lit (And.intro (ve rfl) (And.intro (ve rfl) (And.intro (ve rfl) (And.intro (ve rfl) trivial)))) trivial (And.intro rfl trivial)), ?_⟩
      by_cases c7 : x5_l1 < (a10000_l1.length : Int)
      · have h3 := if_t c7 h2
        clear h2
        refine and_t (decide_eq_true c7) ?_
        refine ⟨lit [(0, .ref 10000 [] 0 a10000_l1.length), (1, .d (.int .i64 x1_l1)), (5, .d (.int .i64 x5_l1))] [] [(10000, a10000_l1.map implLink.enc)], (le_lit (And.intro (ve rfl) (And.intro (ve rfl) (And.intro (ve rfl) trivial))) trivial (And.intro rfl trivial)), ?_⟩
        obtain ⟨xv14, exv14, h4⟩ := bind_some h3
        clear h3
        obtain ⟨av14, exv14⟩ := ix_some exv14
        refine And.intro av14 ⟨_, _, rfl, (get_lt exv14), map_get exv14, rfl, ?_⟩
        refine ⟨_, _, .ref 10000 [(x5_l1.toNat, 0)] 0 xv14.Log.length, rfl, map_get exv14, (by simp [cellsV, packD, implLink.enc]), ?_⟩
        obtain ⟨v18, ev18, h5⟩ := bind_some h4
        clear h4
        obtain ⟨s8, es8, h6⟩ := bind_some h5
        clear h5
        obtain ⟨es8, ls8⟩ := setN_some es8
        refine ⟨rfl, nod rfl, rfl, rfl, _, rfl, rfl, ?_⟩
        refine ⟨_, (rowAt1 rfl (map_get exv14) rfl), ?_⟩
        refine (l_markStringS.ok xv14.Log x1_l1 _ ev18).mono ?_
        rintro _ _ _ _ ⟨rfl, rfl, rfl, rfl⟩
        refine ⟨rfl, rfl, rfl, rfl, trivial, (map_len_map (l_markStringS.len xv14.Log x1_l1 _ ev18)), ?_⟩
        refine ⟨_, _, rfl, (setRow1 (map_get exv14) rfl).trans (map_set (f := implLink.enc) es8 rfl), ?_⟩
        refine ⟨lit [(0, .ref 10000 [] 0 s8.length), (1, .d (.int .i64 v18.1)), (5, .d (.int .i64 x5_l1))] [] [(10000, s8.map implLink.enc)], (le_lit (And.intro (ve (congrArg (V.ref 10000 [] 0) ls8)) (And.intro (ve rfl) (And.intro (ve rfl) trivial))) trivial (And.intro rfl trivial)), ?_⟩
        obtain ⟨xv22, exv22, h7⟩ := bind_some h6
        clear h6
        obtain ⟨av22, exv22⟩ := ix_some exv22
        refine And.intro av22 ⟨_, _, rfl, (get_lt exv22), map_get exv22, rfl, ?_⟩
        obtain ⟨s10, es10, h8⟩ := bind_some h7
        clear h7
        obtain ⟨es10, ls10⟩ := setN_some es10
        refine ⟨_, _, rfl, map_get exv22, ?_⟩
        refine And.intro rfl ?_
        refine And.intro rfl (And.intro (nod rfl) (And.intro (nle rfl) (And.intro rfl ⟨_, (map_set (f := implLink.enc) es10 rfl), ?_⟩)))
        refine ⟨lit [(0, .ref 10000 [] 0 s10.length), (1, .d (.int .i64 v18.1)), (5, .d (.int .i64 x5_l1))] [] [(10000, s10.map implLink.enc)], (le_lit (And.intro (ve (congrArg (V.ref 10000 [] 0) ls10)) (And.intro (ve rfl) (And.intro (ve rfl) trivial))) trivial (And.intro rfl trivial)), ?_⟩
        obtain ⟨v25, ev25, h9⟩ := bind_some h8
        clear h8
        obtain ⟨ev25, rv25⟩ := ckK_some ev25
        refine And.intro rfl ?_
        refine ⟨v25, ev25, fun _ => rv25, ?_⟩
        refine ⟨lit [(0, .ref 10000 [] 0 s10.length), (1, .d (.int .i64 v25)), (5, .d (.int .i64 x5_l1))] [] [(10000, s10.map implLink.enc)], (le_lit (And.intro (ve rfl) (And.intro (ve rfl) (And.intro (ve rfl) trivial))) trivial (And.intro rfl trivial)), ?_⟩
        obtain ⟨xv29, exv29, h10⟩ := bind_some h9
        clear h9
        obtain ⟨av29, exv29⟩ := ix_some exv29
        refine And.intro av29 ⟨_, _, rfl, (get_lt exv29), map_get exv29, rfl, ?_⟩
        obtain ⟨s12, es12, h11⟩ := bind_some h10
        clear h10
        obtain ⟨es12, ls12⟩ := setN_some es12
        refine ⟨_, _, rfl, map_get exv29, ?_⟩
        refine And.intro rfl ?_
        refine And.intro rfl (And.intro (nod rfl) (And.intro (nle rfl) (And.intro rfl ⟨_, (map_set (f := implLink.enc) es12 rfl), ?_⟩)))
        refine ⟨lit [(0, .ref 10000 [] 0 s12.length), (1, .d (.int .i64 v25)), (5, .d (.int .i64 x5_l1))] [] [(10000, s12.map implLink.enc)], (le_lit (And.intro (ve (congrArg (V.ref 10000 [] 0) ls12)) (And.intro (ve rfl) (And.intro (ve rfl) trivial))) trivial (And.intro rfl trivial)), ?_⟩
        obtain ⟨v32, ev32, h12⟩ := bind_some h11
        clear h11
        obtain ⟨ev32, rv32⟩ := ckK_some ev32
        refine And.intro rfl ?_
        refine ⟨v32, ev32, fun _ => rv32, ?_⟩
        refine ⟨lit [(0, .ref 10000 [] 0 s12.length), (1, .d (.int .i64 v32)), (5, .d (.int .i64 x5_l1))] [] [(10000, s12.map implLink.enc)], (le_lit (And.intro (ve rfl) (And.intro (ve rfl) (And.intro (ve rfl) trivial))) trivial (And.intro rfl trivial)), ?_⟩
        obtain ⟨v11, ev11, h13⟩ := bind_some h12
        clear h12
        obtain ⟨ev11, rv11⟩ := ckK_some ev11
        refine And.intro rfl ?_
        refine ⟨v11, ev11, fun _ => rv11, ?_⟩
        exact ⟨⟨(k1, _, _, _), h13⟩, (le_lit (And.intro (ve rfl) (And.intro (ve rfl) (And.intro (ve rfl) trivial))) trivial (And.intro rfl trivial)), Nat.lt_succ_self _⟩
      · have h14 := if_f c7 h2
        clear h2
        refine and_f (decide_eq_false c7) ?_
        cases h14
        exact ⟨⟨(_, _), h1⟩, (le_lit (And.intro (ve rfl) trivial) trivial (And.intro rfl trivial))⟩
  · rintro ⟨⟨a10000_2, x1_2⟩, h15⟩
    change l_markLinkS.j2 a10000_2 x1_2 = some r at h15
    change wMC _ _ _ (l_markLinkS.J2 a10000_2 x1_2)
    unfold l_markLinkS.j2 at h15
    clear h0
    cases h15
    exact ⟨[], nod rfl, all_lt rfl, blt_lt rfl, _, _, rfl, rfl, rfl, rfl, rfl, rfl⟩
end Go.Vm
end
section
set_option maxRecDepth 4000
set_option maxHeartbeats 1000000
namespace Go.Vm
open Go.Proofs
/- loop.example/g00300/laws.markChain -/
def l_markChain.code : MC :=
 (.seq
  (.keep [1, 2] (.reg [⟨(some 2), none, .box (.t 0)⟩, ⟨(some 4), none, .mov (.v (.d (.int .i64 0)))⟩]))
  (.norm (.seq
   (.keep [1] (.reg [⟨(some 5), none, .fld 0 (.t 2)⟩, ⟨(some 6), none, .load false 1 (.t 5)⟩, ⟨(some 7), none, .mov (.t 1)⟩, ⟨(some 8), none, .call (.v (.clos 51 [])) [.t 6, .t 7] [true] []⟩, ⟨(some 1), none, .mov (.t 8)⟩]))
   (.norm (.seq
    (.keep [4] (.reg [⟨(some 9), none, .mov (.t 1)⟩, ⟨(some 4), none, .mov (.t 9)⟩]))
    .ret)))))
theorem l_markChain.chk : chkFn Try.prog 23 2 l_markChain.code [.tmp 4] = true := by kernel_rfl
def l_markChain (p0 : implChain) (p1 : Int) : Option (Int × (List implLink)) :=
  (l_markLinkS p0.Links p1).bind fun v8 => some (v8.1, v8.2)
theorem l_markChain.len (p0 : implChain) (p1 : Int) (r : Int × List implLink) (h : l_markChain p0 p1 = some r) : r.2.length = p0.Links.length := by
  unfold l_markChain at h
  obtain ⟨v, e, h⟩ := bind_some h
  cases h
  exact l_markLinkS.len _ _ _ e
theorem l_markChain.ok (p0 : implChain) (p1 : Int) (r : Int × (List implLink)) (h0 : l_markChain p0 p1 = some r) : ACall Try.prog 23 [.agg [.ref 10000 [] 0 p0.Links.length], .d (.int .i64 p1)] [] [p0.Links.map implLink.enc] (fun v ob oa na => v = .d (.int .i64 r.1) ∧ ob = [] ∧ oa = [some (r.2.map implLink.enc)] ∧ na = []) := by
  refine wFn_ok l_markChain.chk rfl ?_
  unfold l_markChain at h0
  refine And.intro rfl ?_
  refine ⟨lit [(1, .d (.int .i64 p1)), (2, .bptr 2 0)] [(2, [.ref 10000 [] 0 p0.Links.length])] [(10000, p0.Links.map implLink.enc)], (le_lit (And.intro (ve rfl) (And.intro (ve rfl) trivial)) (And.intro ⟨_, rfl, (vel rfl)⟩ trivial) (And.intro rfl trivial)), ?_⟩
  obtain ⟨v8, ev8, h1⟩ := bind_some h0
  clear h0
  refine ⟨rfl, nod rfl, rfl, rfl, _, rfl, rfl, ?_⟩
  refine ⟨_, rfl, ?_⟩
  refine (l_markLinkS.ok p0.Links p1 _ ev8).mono ?_
  rintro _ _ _ _ ⟨rfl, rfl, rfl, rfl⟩
  refine ⟨rfl, rfl, rfl, rfl, trivial, (map_len_map (l_markLinkS.len p0.Links p1 _ ev8)), ?_⟩
  refine ⟨lit [(1, .d (.int .i64 v8.1))] [] [(10000, v8.2.map implLink.enc)], (le_lit (And.intro (ve rfl) trivial) trivial (And.intro rfl trivial)), ?_⟩
  cases h1
  exact ⟨[], nod rfl, all_lt rfl, blt_lt rfl, _, _, rfl, rfl, rfl, rfl, rfl, rfl⟩
end Go.Vm
end
section
set_option maxRecDepth 4000
set_option maxHeartbeats 1000000
namespace Go.Vm
open Go.Proofs
/- loop.example/g00300/laws.heldStringS -/
def l_heldStringS.code : MC :=
 (.seq
  (.keep [0, 1] (.reg [⟨(some 4), none, .mov (.v (.d (.int .i64 0)))⟩]))
  (.norm (.cut
   (.seq
    (.keep [0, 1, 5] (.reg [⟨(some 5), none, .mov (.v (.d (.int .i64 0)))⟩]))
    (.norm (.block 0
     (.loop
      (.seq
       (.seq
        (.keep [0, 1, 5, 9] (.reg [⟨(some 6), none, .mov (.t 5)⟩, ⟨(some 7), none, .mov (.t 0)⟩, ⟨(some 8), none, .len (.t 7)⟩, ⟨(some 9), none, .bin true .lss (.t 6) (.t 8)⟩]))
        (.norm (.cond (.t 9)
         .skip
         (.exit 0))))
       (.norm (.seq
        (.block 1
         (.seq
          (.seq
           (.keep [0, 1, 5, 18] (.draw (.take 0 ⟨(some 12), none, .mov (.t 0)⟩ (.take 1 ⟨(some 13), none, .mov (.t 5)⟩ (.take 2 ⟨(some 14), none, .idx 1 (.t 12) (.t 13)⟩ (.hold 3 14 ⟨(some 15), none, .load false 1 (.t 14)⟩ (.take 4 ⟨(some 16), none, .mov (.t 1)⟩ (.fork 5 ⟨(some 17), none, .call (.v (.clos 50 [])) [.t 16] [] []⟩ [14] (.take 6 ⟨(some 18), none, .bin false .neq (.t 15) (.t 17)⟩ .done) .nofork))))))))
           (.norm (.cond (.t 18)
            (.seq
             (.keep [4] (.reg [⟨(some 4), none, .mov (.v (.d (.int .i64 (-1))))⟩]))
             .ret)
            .skip)))
          (.norm (.keep [0, 1, 5] (.reg [⟨(some 19), none, .mov (.t 1)⟩, ⟨(some 20), none, .bin true .add (.t 19) (.v (.d (.int .i64 1)))⟩, ⟨(some 1), none, .mov (.t 20)⟩])))))
        (.norm (.keep [0, 1, 5] (.reg [⟨(some 10), none, .mov (.t 5)⟩, ⟨(some 11), none, .bin true .add (.t 10) (.v (.d (.int .i64 1)))⟩, ⟨(some 5), none, .mov (.t 11)⟩]))))))))))
   (.seq
    (.keep [4] (.reg [⟨(some 21), none, .mov (.t 1)⟩, ⟨(some 4), none, .mov (.t 21)⟩]))
    .ret))))
theorem l_heldStringS.chk : chkFn Try.prog 68 2 l_heldStringS.code [.tmp 4] = true := by kernel_rfl
def l_heldStringS.j2 (x1_2 : Int) : Option Int :=
  some x1_2
def l_heldStringS.J2 (x1_2 : Int) : St :=
  lit [(1, .d (.int .i64 x1_2))] [] []
def l_heldStringS.l1 (p0 : (List (List UInt8))) : Nat → Int → Int → Option (Sum Int Int)
  | 0, _, _ => none
  | k + 1, x1_l1, x5_l1 => if x5_l1 < (p0.length : Int) then ((ix p0 x5_l1).bind fun xv14 => (l_markText x1_l1).bind fun v17 => if xv14 = v17 then ((ckK .i64 (x1_l1 + 1)).bind fun v20 => (ckK .i64 (x5_l1 + 1)).bind fun v11 => (l_heldStringS.l1 p0 k) v20 v11) else (some (.inl (-1)))) else (some (.inr x1_l1))
def l_heldStringS.S1 (p0 : (List (List UInt8))) (x1_l1 : Int) (x5_l1 : Int) : St :=
  lit [(0, .d (.sl (p0.map encS))), (1, .d (.int .i64 x1_l1)), (5, .d (.int .i64 x5_l1))] [] []
def l_heldStringS.O1 (o1 : Int) : St :=
  lit [(1, .d (.int .i64 o1))] [] []
def l_heldStringS (p0 : (List (List UInt8))) (p1 : Int) : Option (Int) :=
  (l_heldStringS.l1 p0 big p1 0).bind fun w1 => aft w1 fun o1 => l_heldStringS.j2 o1
theorem l_heldStringS.ok (p0 : (List (List UInt8))) (p1 : Int) (r : Int) (h0 : l_heldStringS p0 p1 = some r) : ACall Try.prog 68 [.d (.sl (p0.map encS)), .d (.int .i64 p1)] [] [] (fun v ob oa na => v = .d (.int .i64 r) ∧ ob = [] ∧ oa = [] ∧ na = []) := by
  refine wFn_ok l_heldStringS.chk rfl ?_
  unfold l_heldStringS at h0
  refine ⟨lit [(0, .d (.sl (p0.map encS))), (1, .d (.int .i64 p1))] [] [], (le_lit (And.intro (ve rfl) (And.intro (ve rfl) trivial)) trivial trivial), ?_⟩
  refine ⟨{ g : Int // l_heldStringS.j2 g = some r }, fun g => l_heldStringS.J2 g.1, ?_, ?_⟩
  · skip
    refine ⟨lit [(0, .d (.sl (p0.map encS))), (1, .d (.int .i64 p1)), (5, .d (.int .i64 0))] [] [], (le_lit (And.intro (ve rfl) (And.intro (ve rfl) (And.intro (ve rfl) trivial))) trivial trivial), ?_⟩
    obtain ⟨w1, e1, h1⟩ := bind_some h0
    clear h0
    refine ⟨{ g : Nat × Int × Int // l_heldStringS.l1 p0 g.1 g.2.1 g.2.2 = some w1 }, fun g => l_heldStringS.S1 p0 g.1.2.1 g.1.2.2, fun g => g.1.1, ⟨(big, p1, 0), e1⟩, (le_lit (And.intro (ve rfl) (And.intro (ve rfl) (And.intro (ve rfl) trivial))) trivial trivial), ?_⟩
    rintro ⟨⟨k1, x1_l1, x5_l1⟩, h2⟩
    change l_heldStringS.l1 p0 k1 x1_l1 x5_l1 = some w1 at h2
    change wMC _ _ _ (l_heldStringS.S1 p0 x1_l1 x5_l1)
    cases k1 with
    | zero => rw [l_heldStringS.l1] at h2; cases h2
    | succ k1 =>
      rw [l_heldStringS.l1] at h2
      refine ⟨_, map_len _, ?_⟩
      refine And.intro rfl ?_
      refine ⟨lit [(0, .d (.sl (p0.map encS))), (1, .d (.int .i64 x1_l1)), (5, .d (.int .i64 x5_l1)), (9, .d (.bool (decide (x5_l1 < (p0.length : Int)))))] [] [], (le_lit (And.intro (ve rfl) (And.intro (ve rfl) (And.intro (ve rfl) (And.intro (ve rfl) trivial)))) trivial trivial), ?_⟩
      by_cases c3 : x5_l1 < (p0.length : Int)
      · have h3 := if_t c3 h2
        clear h2
        refine and_t (decide_eq_true c3) ?_
        refine ⟨lit [(0, .d (.sl (p0.map encS))), (1, .d (.int .i64 x1_l1)), (5, .d (.int .i64 x5_l1))] [] [], (le_lit (And.intro (ve rfl) (And.intro (ve rfl) (And.intro (ve rfl) trivial))) trivial trivial), ?_⟩
        obtain ⟨xv14, exv14, h4⟩ := bind_some h3
        clear h3
        obtain ⟨av14, exv14⟩ := ix_some exv14
        refine And.intro av14 ⟨_, map_get exv14, rfl, ?_⟩
        refine And.intro (And.intro (And.intro trivial trivial) ?_) trivial
        obtain ⟨v17, ev17, h5⟩ := bind_some h4
        clear h4
        refine ⟨rfl, nod rfl, rfl, rfl, _, rfl, rfl, ?_⟩
        refine (l_markText.ok x1_l1 _ ev17).mono ?_
        rintro _ _ _ _ ⟨rfl, rfl, rfl, rfl⟩
        refine ⟨rfl, rfl, rfl, rfl, trivial, trivial, ?_⟩
        refine ⟨lit [(0, .d (.sl (p0.map encS))), (1, .d (.int .i64 x1_l1)), (5, .d (.int .i64 x5_l1)), (18, .d (.bool (!(decide (xv14 = v17)))))] [] [], (le_lit (And.intro (ve rfl) (And.intro (ve rfl) (And.intro (ve rfl) (And.intro (ve rfl) trivial)))) trivial trivial), ?_⟩
        by_cases c4 : xv14 = v17
        · have h6 := if_t c4 h5
          clear h5
          refine and_f (not_f (decide_eq_true c4)) ?_
          refine ⟨lit [(0, .d (.sl (p0.map encS))), (1, .d (.int .i64 x1_l1)), (5, .d (.int .i64 x5_l1))] [] [], (le_lit (And.intro (ve rfl) (And.intro (ve rfl) (And.intro (ve rfl) trivial))) trivial trivial), ?_⟩
          obtain ⟨v20, ev20, h7⟩ := bind_some h6
          clear h6
          obtain ⟨ev20, rv20⟩ := ckK_some ev20
          refine And.intro rfl ?_
          refine ⟨v20, ev20, fun _ => rv20, ?_⟩
          refine ⟨lit [(0, .d (.sl (p0.map encS))), (1, .d (.int .i64 v20)), (5, .d (.int .i64 x5_l1))] [] [], (le_lit (And.intro (ve rfl) (And.intro (ve rfl) (And.intro (ve rfl) trivial))) trivial trivial), ?_⟩
          obtain ⟨v11, ev11, h8⟩ := bind_some h7
          clear h7
          obtain ⟨ev11, rv11⟩ := ckK_some ev11
          refine And.intro rfl ?_
          refine ⟨v11, ev11, fun _ => rv11, ?_⟩
          exact ⟨⟨(k1, _, _), h8⟩, (le_lit (And.intro (ve rfl) (And.intro (ve rfl) (And.intro (ve rfl) trivial))) trivial trivial), Nat.lt_succ_self _⟩
        · have h9 := if_f c4 h5
          clear h5
          refine and_t (not_t (decide_eq_false c4)) ?_
          cases h9
          obtain rfl := aft_inl h1
          exact ⟨[], nod rfl, all_lt rfl, blt_lt rfl, _, _, rfl, rfl, rfl, rfl, rfl, rfl⟩
      · have h10 := if_f c3 h2
        clear h2
        refine and_f (decide_eq_false c3) ?_
        cases h10
        have h11 := aft_inr h1
        exact ⟨⟨_, h11⟩, (le_lit (And.intro (ve rfl) trivial) trivial trivial)⟩
  · rintro ⟨x1_2, h12⟩
    change l_heldStringS.j2 x1_2 = some r at h12
    change wMC _ _ _ (l_heldStringS.J2 x1_2)
    unfold l_heldStringS.j2 at h12
    clear h0
    cases h12
    exact ⟨[], nod rfl, all_lt rfl, blt_lt rfl, _, _, rfl, rfl, rfl, rfl, rfl, rfl⟩
end Go.Vm
end
section
set_option maxRecDepth 4000
set_option maxHeartbeats 1000000
namespace Go.Vm
open Go.Proofs
/- loop.example/g00300/laws.heldLinkS -/
def l_heldLinkS.code : MC :=
 (.seq
  (.keep [0, 1] (.reg [⟨(some 4), none, .mov (.v (.d (.int .i64 0)))⟩]))
  (.norm (.cut
   (.seq
    (.keep [0, 1, 5] (.reg [⟨(some 5), none, .mov (.v (.d (.int .i64 0)))⟩]))
    (.norm (.block 0
     (.loop
      (.seq
       (.seq
        (.keep [0, 1, 5, 9] (.reg [⟨(some 6), none, .mov (.t 5)⟩, ⟨(some 7), none, .mov (.t 0)⟩, ⟨(some 8), none, .len (.t 7)⟩, ⟨(some 9), none, .bin true .lss (.t 6) (.t 8)⟩]))
        (.norm (.cond (.t 9)
         .skip
         (.exit 0))))
       (.norm (.seq
        (.block 1
         (.seq
          (.keep [0, 1, 5] (.reg [⟨(some 12), none, .mov (.t 0)⟩, ⟨(some 13), none, .mov (.t 5)⟩, ⟨(some 14), none, .idx 3 (.t 12) (.t 13)⟩, ⟨(some 15), none, .fld 0 (.t 14)⟩, ⟨(some 16), none, .load false 1 (.t 15)⟩, ⟨(some 17), none, .mov (.t 1)⟩, ⟨(some 18), none, .call (.v (.clos 68 [])) [.t 16, .t 17] [] []⟩, ⟨(some 1), none, .mov (.t 18)⟩]))
          (.norm (.seq
           (.seq
            (.keep [0, 1, 5, 20] (.reg [⟨(some 19), none, .mov (.t 1)⟩, ⟨(some 20), none, .bin true .lss (.t 19) (.v (.d (.int .i64 0)))⟩]))
            (.norm (.cond (.t 20)
             (.seq
              (.keep [4] (.reg [⟨(some 4), none, .mov (.v (.d (.int .i64 (-1))))⟩]))
              .ret)
             .skip)))
           (.norm (.seq
            (.seq
             (.keep [0, 1, 5, 27] (.reg [⟨(some 21), none, .mov (.t 0)⟩, ⟨(some 22), none, .mov (.t 5)⟩, ⟨(some 23), none, .idx 3 (.t 21) (.t 22)⟩, ⟨(some 24), none, .fld 1 (.t 23)⟩, ⟨(some 25), none, .load false 1 (.t 24)⟩, ⟨(some 26), none, .mov (.t 1)⟩, ⟨(some 27), none, .bin true .neq (.t 25) (.t 26)⟩]))
             (.norm (.cond (.t 27)
              (.seq
               (.keep [4] (.reg [⟨(some 4), none, .mov (.v (.d (.int .i64 (-1))))⟩]))
               .ret)
              .skip)))
            (.norm (.seq
             (.keep [0, 1, 5] (.reg [⟨(some 28), none, .mov (.t 1)⟩, ⟨(some 29), none, .bin true .add (.t 28) (.v (.d (.int .i64 1)))⟩, ⟨(some 1), none, .mov (.t 29)⟩]))
             (.norm (.seq
              (.seq
               (.keep [0, 1, 5, 36] (.reg [⟨(some 30), none, .mov (.t 0)⟩, ⟨(some 31), none, .mov (.t 5)⟩, ⟨(some 32), none, .idx 3 (.t 30) (.t 31)⟩, ⟨(some 33), none, .fld 2 (.t 32)⟩, ⟨(some 34), none, .load false 1 (.t 33)⟩, ⟨(some 35), none, .mov (.t 1)⟩, ⟨(some 36), none, .bin true .neq (.t 34) (.t 35)⟩]))
               (.norm (.cond (.t 36)
                (.seq
                 (.keep [4] (.reg [⟨(some 4), none, .mov (.v (.d (.int .i64 (-1))))⟩]))
                 .ret)
                .skip)))
              (.norm (.keep [0, 1, 5] (.reg [⟨(some 37), none, .mov (.t 1)⟩, ⟨(some 38), none, .bin true .add (.t 37) (.v (.d (.int .i64 1)))⟩, ⟨(some 1), none, .mov (.t 38)⟩])))))))))))))
        (.norm (.keep [0, 1, 5] (.reg [⟨(some 10), none, .mov (.t 5)⟩, ⟨(some 11), none, .bin true .add (.t 10) (.v (.d (.int .i64 1)))⟩, ⟨(some 5), none, .mov (.t 11)⟩]))))))))))
   (.seq
    (.keep [4] (.reg [⟨(some 39), none, .mov (.t 1)⟩, ⟨(some 4), none, .mov (.t 39)⟩]))
    .ret))))
theorem l_heldLinkS.chk : chkFn Try.prog 52 2 l_heldLinkS.code [.tmp 4] = true := by kernel_rfl
def l_heldLinkS.j2 (x1_2 : Int) : Option Int :=
  some x1_2
def l_heldLinkS.J2 (x1_2 : Int) : St :=
  lit [(1, .d (.int .i64 x1_2))] [] []
def l_heldLinkS.l1 (p0 : (List implLink)) : Nat → Int → Int → Option (Sum Int Int)
  | 0, _, _ => none
  | k + 1, x1_l1, x5_l1 => if x5_l1 < (p0.length : Int) then ((ix p0 x5_l1).bind fun xv14 => (l_heldStringS xv14.Log x1_l1).bind fun v18 => if v18 < 0 then (some (.inl (-1))) else (if xv14.Sent = v18 then ((ckK .i64 (v18 + 1)).bind fun v29 => if xv14.Sure = v29 then ((ckK .i64 (v29 + 1)).bind fun v38 => (ckK .i64 (x5_l1 + 1)).bind fun v11 => (l_heldLinkS.l1 p0 k) v38 v11) else (some (.inl (-1)))) else (some (.inl (-1))))) else (some (.inr x1_l1))
def l_heldLinkS.S1 (p0 : (List implLink)) (x1_l1 : Int) (x5_l1 : Int) : St :=
  lit [(0, .d (.sl (p0.map implLink.enc))), (1, .d (.int .i64 x1_l1)), (5, .d (.int .i64 x5_l1))] [] []
def l_heldLinkS.O1 (o1 : Int) : St :=
  lit [(1, .d (.int .i64 o1))] [] []
def l_heldLinkS (p0 : (List implLink)) (p1 : Int) : Option (Int) :=
  (l_heldLinkS.l1 p0 big p1 0).bind fun w1 => aft w1 fun o1 => l_heldLinkS.j2 o1
theorem l_heldLinkS.ok (p0 : (List implLink)) (p1 : Int) (r : Int) (h0 : l_heldLinkS p0 p1 = some r) : ACall Try.prog 52 [.d (.sl (p0.map implLink.enc)), .d (.int .i64 p1)] [] [] (fun v ob oa na => v = .d (.int .i64 r) ∧ ob = [] ∧ oa = [] ∧ na = []) := by
  refine wFn_ok l_heldLinkS.chk rfl ?_
  unfold l_heldLinkS at h0
  refine ⟨lit [(0, .d (.sl (p0.map implLink.enc))), (1, .d (.int .i64 p1))] [] [], (le_lit (And.intro (ve rfl) (And.intro (ve rfl) trivial)) trivial trivial), ?_⟩
  refine ⟨{ g : Int // l_heldLinkS.j2 g = some r }, fun g => l_heldLinkS.J2 g.1, ?_, ?_⟩
  · skip
    refine ⟨lit [(0, .d (.sl (p0.map implLink.enc))), (1, .d (.int .i64 p1)), (5, .d (.int .i64 0))] [] [], (le_lit (And.intro (ve rfl) (And.intro (ve rfl) (And.intro (ve rfl) trivial))) trivial trivial), ?_⟩
    obtain ⟨w1, e1, h1⟩ := bind_some h0
    clear h0
    refine ⟨{ g : Nat × Int × Int // l_heldLinkS.l1 p0 g.1 g.2.1 g.2.2 = some w1 }, fun g => l_heldLinkS.S1 p0 g.1.2.1 g.1.2.2, fun g => g.1.1, ⟨(big, p1, 0), e1⟩, (le_lit (And.intro (ve rfl) (And.intro (ve rfl) (And.intro (ve rfl) trivial))) trivial trivial), ?_⟩
    rintro ⟨⟨k1, x1_l1, x5_l1⟩, h2⟩
    change l_heldLinkS.l1 p0 k1 x1_l1 x5_l1 = some w1 at h2
    change wMC _ _ _ (l_heldLinkS.S1 p0 x1_l1 x5_l1)
    cases k1 with
    | zero => rw [l_heldLinkS.l1] at h2; cases h2
    | succ k1 =>
      rw [l_heldLinkS.l1] at h2
      refine ⟨_, map_len _, ?_⟩
      refine And.intro rfl ?_
      refine ⟨lit [(0, .d (.sl (p0.map implLink.enc))), (1, .d (.int .i64 x1_l1)), (5, .d (.int .i64 x5_l1)), (9, .d (.bool (decide (x5_l1 < (p0.length : Int)))))] [] [], (le_lit (And.intro (ve rfl) (And.intro (ve rfl) (And.intro (ve rfl) (And.intro (ve rfl) trivial)))) trivial trivial), ?_⟩
      by_cases c5 : x5_l1 < (p0.length : Int)
      · have h3 := if_t c5 h2
        clear h2
        refine and_t (decide_eq_true c5) ?_
        refine ⟨lit [(0, .d (.sl (p0.map implLink.enc))), (1, .d (.int .i64 x1_l1)), (5, .d (.int .i64 x5_l1))] [] [], (le_lit (And.intro (ve rfl) (And.intro (ve rfl) (And.intro (ve rfl) trivial))) trivial trivial), ?_⟩
        obtain ⟨xv14, exv14, h4⟩ := bind_some h3
        clear h3
        obtain ⟨av14, exv14⟩ := ix_some exv14
        refine And.intro av14 ⟨_, map_get exv14, rfl, ?_⟩
        obtain ⟨v18, ev18, h5⟩ := bind_some h4
        clear h4
        refine ⟨rfl, nod rfl, rfl, rfl, _, rfl, rfl, ?_⟩
        refine (l_heldStringS.ok xv14.Log x1_l1 _ ev18).mono ?_
        rintro _ _ _ _ ⟨rfl, rfl, rfl, rfl⟩
        refine ⟨rfl, rfl, rfl, rfl, trivial, trivial, ?_⟩
        refine ⟨lit [(0, .d (.sl (p0.map implLink.enc))), (1, .d (.int .i64 v18)), (5, .d (.int .i64 x5_l1))] [] [], (le_lit (And.intro (ve rfl) (And.intro (ve rfl) (And.intro (ve rfl) trivial))) trivial trivial), ?_⟩
        refine And.intro rfl ?_
        refine ⟨lit [(0, .d (.sl (p0.map implLink.enc))), (1, .d (.int .i64 v18)), (5, .d (.int .i64 x5_l1)), (20, .d (.bool (decide (v18 < 0))))] [] [], (le_lit (And.intro (ve rfl) (And.intro (ve rfl) (And.intro (ve rfl) (And.intro (ve rfl) trivial)))) trivial trivial), ?_⟩
        by_cases c6 : v18 < 0
        · have h6 := if_t c6 h5
          clear h5
          refine and_t (decide_eq_true c6) ?_
          cases h6
          obtain rfl := aft_inl h1
          exact ⟨[], nod rfl, all_lt rfl, blt_lt rfl, _, _, rfl, rfl, rfl, rfl, rfl, rfl⟩
        · have h7 := if_f c6 h5
          clear h5
          refine and_f (decide_eq_false c6) ?_
          refine ⟨lit [(0, .d (.sl (p0.map implLink.enc))), (1, .d (.int .i64 v18)), (5, .d (.int .i64 x5_l1))] [] [], (le_lit (And.intro (ve rfl) (And.intro (ve rfl) (And.intro (ve rfl) trivial))) trivial trivial), ?_⟩
          refine And.intro av14 ⟨_, map_get exv14, rfl, ?_⟩
          refine And.intro rfl ?_
          refine ⟨lit [(0, .d (.sl (p0.map implLink.enc))), (1, .d (.int .i64 v18)), (5, .d (.int .i64 x5_l1)), (27, .d (.bool (!(decide (xv14.Sent = v18)))))] [] [], (le_lit (And.intro (ve rfl) (And.intro (ve rfl) (And.intro (ve rfl) (And.intro (ve rfl) trivial)))) trivial trivial), ?_⟩
          by_cases c7 : xv14.Sent = v18
          · have h8 := if_t c7 h7
            clear h7
            refine and_f (not_f (decide_eq_true c7)) ?_
            refine ⟨lit [(0, .d (.sl (p0.map implLink.enc))), (1, .d (.int .i64 v18)), (5, .d (.int .i64 x5_l1))] [] [], (le_lit (And.intro (ve rfl) (And.intro (ve rfl) (And.intro (ve rfl) trivial))) trivial trivial), ?_⟩
            obtain ⟨v29, ev29, h9⟩ := bind_some h8
            clear h8
            obtain ⟨ev29, rv29⟩ := ckK_some ev29
            refine And.intro rfl ?_
            refine ⟨v29, ev29, fun _ => rv29, ?_⟩
            refine ⟨lit [(0, .d (.sl (p0.map implLink.enc))), (1, .d (.int .i64 v29)), (5, .d (.int .i64 x5_l1))] [] [], (le_lit (And.intro (ve rfl) (And.intro (ve rfl) (And.intro (ve rfl) trivial))) trivial trivial), ?_⟩
            refine And.intro av14 ⟨_, map_get exv14, rfl, ?_⟩
            refine And.intro rfl ?_
            refine ⟨lit [(0, .d (.sl (p0.map implLink.enc))), (1, .d (.int .i64 v29)), (5, .d (.int .i64 x5_l1)), (36, .d (.bool (!(decide (xv14.Sure = v29)))))] [] [], (le_lit (And.intro (ve rfl) (And.intro (ve rfl) (And.intro (ve rfl) (And.intro (ve rfl) trivial)))) trivial trivial), ?_⟩
            by_cases c8 : xv14.Sure = v29
            · have h10 := if_t c8 h9
              clear h9
              refine and_f (not_f (decide_eq_true c8)) ?_
              refine ⟨lit [(0, .d (.sl (p0.map implLink.enc))), (1, .d (.int .i64 v29)), (5, .d (.int .i64 x5_l1))] [] [], (le_lit (And.intro (ve rfl) (And.intro (ve rfl) (And.intro (ve rfl) trivial))) trivial trivial), ?_⟩
              obtain ⟨v38, ev38, h11⟩ := bind_some h10
              clear h10
              obtain ⟨ev38, rv38⟩ := ckK_some ev38
              refine And.intro rfl ?_
              refine ⟨v38, ev38, fun _ => rv38, ?_⟩
              refine ⟨lit [(0, .d (.sl (p0.map implLink.enc))), (1, .d (.int .i64 v38)), (5, .d (.int .i64 x5_l1))] [] [], (le_lit (And.intro (ve rfl) (And.intro (ve rfl) (And.intro (ve rfl) trivial))) trivial trivial), ?_⟩
              obtain ⟨v11, ev11, h12⟩ := bind_some h11
              clear h11
              obtain ⟨ev11, rv11⟩ := ckK_some ev11
              refine And.intro rfl ?_
              refine ⟨v11, ev11, fun _ => rv11, ?_⟩
              exact ⟨⟨(k1, _, _), h12⟩, (le_lit (And.intro (ve rfl) (And.intro (ve rfl) (And.intro (ve rfl) trivial))) trivial trivial), Nat.lt_succ_self _⟩
            · have h13 := if_f c8 h9
              clear h9
              refine and_t (not_t (decide_eq_false c8)) ?_
              cases h13
              obtain rfl := aft_inl h1
              exact ⟨[], nod rfl, all_lt rfl, blt_lt rfl, _, _, rfl, rfl, rfl, rfl, rfl, rfl⟩
          · have h14 := if_f c7 h7
            clear h7
            refine and_t (not_t (decide_eq_false c7)) ?_
            cases h14
            obtain rfl := aft_inl h1
            exact ⟨[], nod rfl, all_lt rfl, blt_lt rfl, _, _, rfl, rfl, rfl, rfl, rfl, rfl⟩
      · have h15 := if_f c5 h2
        clear h2
        refine and_f (decide_eq_false c5) ?_
        cases h15
        have h16 := aft_inr h1
        exact ⟨⟨_, h16⟩, (le_lit (And.intro (ve rfl) trivial) trivial trivial)⟩
  · rintro ⟨x1_2, h17⟩
    change l_heldLinkS.j2 x1_2 = some r at h17
    change wMC _ _ _ (l_heldLinkS.J2 x1_2)
    unfold l_heldLinkS.j2 at h17
    clear h0
    cases h17
    exact ⟨[], nod rfl, all_lt rfl, blt_lt rfl, _, _, rfl, rfl, rfl, rfl, rfl, rfl⟩
end Go.Vm
end
section
set_option maxRecDepth 4000
set_option maxHeartbeats 1000000
namespace Go.Vm
open Go.Proofs
/- loop.example/g00300/laws.heldChain -/
def l_heldChain.code : MC :=
 (.seq
  (.keep [1, 2] (.reg [⟨(some 2), none, .box (.t 0)⟩, ⟨(some 4), none, .mov (.v (.d (.int .i64 0)))⟩]))
  (.norm (.seq
   (.keep [1] (.reg [⟨(some 5), none, .fld 0 (.t 2)⟩, ⟨(some 6), none, .load false 1 (.t 5)⟩, ⟨(some 7), none, .mov (.t 1)⟩, ⟨(some 8), none, .call (.v (.clos 52 [])) [.t 6, .t 7] [] []⟩, ⟨(some 1), none, .mov (.t 8)⟩]))
   (.norm (.seq
    (.seq
     (.keep [1, 10] (.reg [⟨(some 9), none, .mov (.t 1)⟩, ⟨(some 10), none, .bin true .lss (.t 9) (.v (.d (.int .i64 0)))⟩]))
     (.norm (.cond (.t 10)
      (.seq
       (.keep [4] (.reg [⟨(some 4), none, .mov (.v (.d (.int .i64 (-1))))⟩]))
       .ret)
      .skip)))
    (.seq
     (.keep [4] (.reg [⟨(some 11), none, .mov (.t 1)⟩, ⟨(some 4), none, .mov (.t 11)⟩]))
     .ret))))))
theorem l_heldChain.chk : chkFn Try.prog 25 2 l_heldChain.code [.tmp 4] = true := by kernel_rfl
def l_heldChain (p0 : implChain) (p1 : Int) : Option (Int) :=
  (l_heldLinkS p0.Links p1).bind fun v8 => if v8 < 0 then (some (-1)) else (some v8)
theorem l_heldChain.ok (p0 : implChain) (p1 : Int) (r : Int) (h0 : l_heldChain p0 p1 = some r) : ACall Try.prog 25 [.agg [.d (.sl (p0.Links.map implLink.enc))], .d (.int .i64 p1)] [] [] (fun v ob oa na => v = .d (.int .i64 r) ∧ ob = [] ∧ oa = [] ∧ na = []) := by
  refine wFn_ok l_heldChain.chk rfl ?_
  unfold l_heldChain at h0
  refine And.intro rfl ?_
  refine ⟨lit [(1, .d (.int .i64 p1)), (2, .bptr 2 0)] [(2, [.d (.sl (p0.Links.map implLink.enc))])] [], (le_lit (And.intro (ve rfl) (And.intro (ve rfl) trivial)) (And.intro ⟨_, rfl, (vel rfl)⟩ trivial) trivial), ?_⟩
  obtain ⟨v8, ev8, h1⟩ := bind_some h0
  clear h0
  refine ⟨rfl, nod rfl, rfl, rfl, _, rfl, rfl, ?_⟩
  refine (l_heldLinkS.ok p0.Links p1 _ ev8).mono ?_
  rintro _ _ _ _ ⟨rfl, rfl, rfl, rfl⟩
  refine ⟨rfl, rfl, rfl, rfl, trivial, trivial, ?_⟩
  refine ⟨lit [(1, .d (.int .i64 v8))] [] [], (le_lit (And.intro (ve rfl) trivial) trivial trivial), ?_⟩
  refine And.intro rfl ?_
  refine ⟨lit [(1, .d (.int .i64 v8)), (10, .d (.bool (decide (v8 < 0))))] [] [], (le_lit (And.intro (ve rfl) (And.intro (ve rfl) trivial)) trivial trivial), ?_⟩
  by_cases c1 : v8 < 0
  · have h2 := if_t c1 h1
    clear h1
    refine and_t (decide_eq_true c1) ?_
    cases h2
    exact ⟨[], nod rfl, all_lt rfl, blt_lt rfl, _, _, rfl, rfl, rfl, rfl, rfl, rfl⟩
  · have h3 := if_f c1 h1
    clear h1
    refine and_f (decide_eq_false c1) ?_
    cases h3
    exact ⟨[], nod rfl, all_lt rfl, blt_lt rfl, _, _, rfl, rfl, rfl, rfl, rfl, rfl⟩
end Go.Vm
end
section
/- The law's own functions over chains: sizes, copies, comparisons, marks. -/
namespace Go.Vm
section words
variable {α : Type}
theorem ix_mid (D R : List α) (r : α) : ix (D ++ r :: R) (D.length : Int) = some r := by rw [ix_nat]; simp
theorem setN_mid (D R : List α) (r y : α) : setN (D ++ r :: R) ((D.length : Int).toNat) y = some (D ++ y :: R) := by
  unfold setN; rw [Int.toNat_natCast]; simp
theorem ck_succ {n : Nat} (h : n < 4611686018427387904) : ckK .i64 ((n : Int) + 1) = some ((n + 1 : Nat) : Int) := by
  rw [ck64 (by omega) (by omega)]; rfl
end words
/-! Sizes. -/
def shortS (n : Int) (xs : List (List UInt8)) : Prop := (xs.length : Int) ≤ n ∧ ∀ s ∈ xs, (s.length : Int) ≤ n
def modestS (xs : List (List UInt8)) : Prop := xs.length ≤ 9223372036854775807 ∧ ∀ s ∈ xs, s.length ≤ 9223372036854775807
theorem szStringS_l1 (xs : List (List UInt8)) (hm : modestS xs) (hb : xs.length ≤ 1048576) : ∀ (R D : List (List UInt8)), xs = D ++ R → ∀ (k : Nat) (n : Int), R.length < k → 0 ≤ n → n ≤ 1048576 →
    ∃ o, l_szStringS.l1 xs k n (D.length : Int) = some o ∧ (o = .inl (-1) ∨ ∃ m, o = .inr m ∧ 0 ≤ m ∧ m ≤ n ∧ ∀ s ∈ R, (s.length : Int) ≤ n)
  | [], D, e, k, n, hk, h0, h1 => by
    obtain ⟨k, rfl⟩ : ∃ j, k = j + 1 := ⟨k - 1, by omega⟩
    refine ⟨.inr n, ?_, .inr ⟨n, rfl, h0, Int.le_refl _, fun s hs => by cases hs⟩⟩
    rw [l_szStringS.l1, if_neg (by rw [e]; simp)]
  | s :: R, D, e, k, n, hk, h0, h1 => by
    simp only [List.length_cons] at hk
    obtain ⟨k, rfl⟩ : ∃ j, k = j + 1 := ⟨k - 1, by omega⟩
    have hl : xs.length = D.length + (R.length + 1) := by rw [e]; simp
    have hs : s.length ≤ 9223372036854775807 := hm.2 s (by rw [e]; simp)
    have hx := hm.1
    rw [l_szStringS.l1, if_pos (by omega)]
    have h3 : ix xs (D.length : Int) = some s := by rw [e]; exact ix_mid D R s
    rw [bind_eq h3, bind_eq (ck64 (by omega) (by omega))]
    by_cases hc : n - (s.length : Int) < 0
    · rw [if_pos hc]; exact ⟨_, rfl, .inl rfl⟩
    · rw [if_neg hc, bind_eq (ck_succ (by omega))]
      obtain ⟨o, e1, e2⟩ := szStringS_l1 xs hm hb R (D ++ [s]) (by rw [e]; simp) k (n - s.length) (by omega) (by omega) (by omega)
      rw [show ((D ++ [s]).length : Int) = ((D.length + 1 : Nat) : Int) by simp] at e1
      refine ⟨o, e1, ?_⟩
      rcases e2 with e2 | ⟨m, e2, e3, e4, e5⟩
      · exact .inl e2
      · refine .inr ⟨m, e2, e3, by omega, fun t ht => ?_⟩
        rcases List.mem_cons.mp ht with h | h
        · subst h; omega
        · have := e5 t h; omega
theorem szStringS (xs : List (List UInt8)) (hm : modestS xs) (n : Int) (h0 : 0 ≤ n) (h1 : n ≤ 1048576) :
    ∃ r, l_szStringS xs n = some r ∧ (r = -1 ∨ (0 ≤ r ∧ r + xs.length ≤ n ∧ shortS n xs)) := by
  have hx := hm.1
  unfold l_szStringS
  rw [bind_eq (ck64 (by omega) (by omega))]
  by_cases hc : n - (xs.length : Int) < 0
  · rw [if_pos hc]; exact ⟨_, rfl, .inl rfl⟩
  · rw [if_neg hc]
    obtain ⟨o, e1, e2⟩ := szStringS_l1 xs hm (by omega) xs [] rfl big (n - xs.length) (by unfold big; omega) (by omega) (by omega)
    rw [bind_eq (show l_szStringS.l1 xs big (n - (xs.length : Int)) 0 = some o from e1)]
    rcases e2 with e2 | ⟨m, e2, e3, e4, e5⟩
    · subst e2; exact ⟨-1, rfl, .inl rfl⟩
    · subst e2
      exact ⟨m, rfl, .inr ⟨e3, by omega, by omega, fun s hs => by have := e5 s hs; omega⟩⟩
def modestL (ls : List lawsLink) : Prop := ls.length ≤ 9223372036854775807 ∧ ∀ l ∈ ls, modestS l.Log
theorem szLink (l : lawsLink) (hm : modestS l.Log) (n : Int) (h0 : 0 ≤ n) (h1 : n ≤ 1048576) :
    ∃ r, l_szLink l n = some r ∧ (r = -1 ∨ (0 ≤ r ∧ r + l.Log.length ≤ n ∧ shortS n l.Log)) := by
  obtain ⟨r, e1, e2⟩ := szStringS l.Log hm n h0 h1
  unfold l_szLink
  rw [bind_eq e1]
  rcases e2 with e2 | ⟨e2, e3, e4⟩
  · subst e2; exact ⟨-1, rfl, .inl rfl⟩
  · rw [if_neg (by omega)]; exact ⟨r, rfl, .inr ⟨e2, e3, e4⟩⟩
def sumLog : List lawsLink → Nat
  | [] => 0
  | l :: ls => l.Log.length + sumLog ls
theorem szLinkS_l1 (xs : List lawsLink) (hm : modestL xs) (hb : xs.length ≤ 1048576) : ∀ (R D : List lawsLink), xs = D ++ R → ∀ (k : Nat) (n : Int), R.length < k → 0 ≤ n → n ≤ 1048576 →
    ∃ o, l_szLinkS.l1 xs k n (D.length : Int) = some o ∧ (o = .inl (-1) ∨ ∃ m, o = .inr m ∧ 0 ≤ m ∧ m + sumLog R ≤ n ∧ ∀ s ∈ R, shortS n s.Log)
  | [], D, e, k, n, hk, h0, h1 => by
    obtain ⟨k, rfl⟩ : ∃ j, k = j + 1 := ⟨k - 1, by omega⟩
    refine ⟨.inr n, ?_, .inr ⟨n, rfl, h0, by simp [sumLog], fun s hs => by cases hs⟩⟩
    rw [l_szLinkS.l1, if_neg (by rw [e]; simp)]
  | s :: R, D, e, k, n, hk, h0, h1 => by
    simp only [List.length_cons] at hk
    obtain ⟨k, rfl⟩ : ∃ j, k = j + 1 := ⟨k - 1, by omega⟩
    have hl : xs.length = D.length + (R.length + 1) := by rw [e]; simp
    have hs := hm.2 s (by rw [e]; simp)
    have hx := hm.1
    rw [l_szLinkS.l1, if_pos (by omega)]
    have h3 : ix xs (D.length : Int) = some s := by rw [e]; exact ix_mid D R s
    obtain ⟨r, f1, f2⟩ := szLink s hs n (by omega) h1
    rw [bind_eq h3, bind_eq f1]
    rcases f2 with f2 | ⟨f2, f3, f4⟩
    · subst f2; exact ⟨_, rfl, .inl rfl⟩
    · rw [if_neg (by omega), bind_eq (ck_succ (by omega))]
      obtain ⟨o, e1, e2⟩ := szLinkS_l1 xs hm hb R (D ++ [s]) (by rw [e]; simp) k r (by omega) (by omega) (by omega)
      rw [show ((D ++ [s]).length : Int) = ((D.length + 1 : Nat) : Int) by simp] at e1
      refine ⟨o, e1, ?_⟩
      rcases e2 with e2 | ⟨m, e2, e3, e4, e5⟩
      · exact .inl e2
      · refine .inr ⟨m, e2, e3, by simp only [sumLog]; omega, fun t ht => ?_⟩
        rcases List.mem_cons.mp ht with h | h
        · subst h; exact f4
        · have := e5 t h; exact ⟨by have := this.1; omega, fun u hu => by have := this.2 u hu; omega⟩
def shortL (n : Int) (ls : List lawsLink) : Prop := (ls.length : Int) ≤ n ∧ ∀ l ∈ ls, shortS n l.Log
theorem szChain (c : lawsChain) (hm : modestL c.Links) (n : Int) (h0 : 0 ≤ n) (h1 : n ≤ 1048576) :
    ∃ r, l_szChain c n = some r ∧ (r = -1 ∨ (0 ≤ r ∧ r + sumLog c.Links ≤ n ∧ shortL n c.Links)) := by
  have hx := hm.1
  have key : ∃ r, l_szLinkS c.Links n = some r ∧ (r = -1 ∨ (0 ≤ r ∧ r + sumLog c.Links ≤ n ∧ shortL n c.Links)) := by
    unfold l_szLinkS
    rw [bind_eq (ck64 (by omega) (by omega))]
    by_cases hc : n - (c.Links.length : Int) < 0
    · rw [if_pos hc]; exact ⟨_, rfl, .inl rfl⟩
    · rw [if_neg hc]
      obtain ⟨o, e1, e2⟩ := szLinkS_l1 c.Links hm (by omega) c.Links [] rfl big (n - c.Links.length) (by unfold big; omega) (by omega) (by omega)
      rw [bind_eq (show l_szLinkS.l1 c.Links big (n - (c.Links.length : Int)) 0 = some o from e1)]
      rcases e2 with e2 | ⟨m, e2, e3, e4, e5⟩
      · subst e2; exact ⟨-1, rfl, .inl rfl⟩
      · subst e2
        exact ⟨m, rfl, .inr ⟨e3, by omega, by omega, fun s hs => by
          have := e5 s hs; exact ⟨by have := this.1; omega, fun u hu => by have := this.2 u hu; omega⟩⟩⟩
  obtain ⟨r, e1, e2⟩ := key
  unfold l_szChain
  rw [bind_eq e1]
  rcases e2 with e2 | ⟨e2, e3, e4⟩
  · subst e2; exact ⟨-1, rfl, .inl rfl⟩
  · rw [if_neg (by omega)]; exact ⟨r, rfl, .inr ⟨e2, e3, e4⟩⟩
/-! Copies. -/
theorem toStringS_l1 (xs : List (List UInt8)) (hx : xs.length ≤ 1048576) : ∀ (R D Z : List (List UInt8)), xs = D ++ R → Z.length = R.length → ∀ k : Nat, R.length < k →
    l_toStringS.l1 xs k (D ++ Z) (D.length : Int) = some xs
  | [], D, Z, e, hz, k, hk => by
    obtain ⟨k, rfl⟩ : ∃ j, k = j + 1 := ⟨k - 1, by omega⟩
    have : Z = [] := List.length_eq_zero_iff.mp hz
    subst this
    rw [l_toStringS.l1, if_neg (by rw [e]; simp), e]
  | s :: R, D, [], e, hz, k, hk => by simp at hz
  | s :: R, D, z :: Z, e, hz, k, hk => by
    simp only [List.length_cons] at hk hz
    obtain ⟨k, rfl⟩ : ∃ j, k = j + 1 := ⟨k - 1, by omega⟩
    have hl : xs.length = D.length + (R.length + 1) := by rw [e]; simp
    rw [l_toStringS.l1, if_pos (by omega)]
    have h3 : ix xs (D.length : Int) = some s := by rw [e]; exact ix_mid D R s
    rw [bind_eq h3, bind_eq (ix_mid D Z z), bind_eq (setN_mid D Z z s), bind_eq (ck_succ (by omega))]
    have := toStringS_l1 xs hx R (D ++ [s]) Z (by rw [e]; simp) (by omega) k (by omega)
    rw [show ((D ++ [s]).length : Int) = ((D.length + 1 : Nat) : Int) by simp, List.append_assoc] at this
    exact this
theorem toStringS (xs : List (List UInt8)) (hx : xs.length ≤ 1048576) : l_toStringS xs = some xs := by
  unfold l_toStringS
  rw [bind_eq (mkN_eq (by omega))]
  have := toStringS_l1 xs hx xs [] (List.replicate xs.length []) rfl (by simp) big (by unfold big; omega)
  rw [bind_eq (show l_toStringS.l1 xs big (List.replicate xs.length []) 0 = some xs from this)]
  rfl
def linkOf (l : lawsLink) : implLink := ⟨l.Log, l.Sent, l.Sure⟩
def chainOf (c : lawsChain) : implChain := ⟨c.Links.map linkOf⟩
theorem toLinkS_l1 (xs : List lawsLink) (hx : xs.length ≤ 1048576) (hs : ∀ l ∈ xs, l.Log.length ≤ 1048576) : ∀ (R D : List lawsLink) (Z : List implLink), xs = D ++ R → Z.length = R.length → ∀ k : Nat, R.length < k →
    l_toLinkS.l1 xs k (D.map linkOf ++ Z) (D.length : Int) = some (xs.map linkOf)
  | [], D, Z, e, hz, k, hk => by
    obtain ⟨k, rfl⟩ : ∃ j, k = j + 1 := ⟨k - 1, by omega⟩
    have : Z = [] := List.length_eq_zero_iff.mp hz
    subst this
    rw [l_toLinkS.l1, if_neg (by rw [e]; simp), e]; simp
  | s :: R, D, [], e, hz, k, hk => by simp at hz
  | s :: R, D, z :: Z, e, hz, k, hk => by
    simp only [List.length_cons] at hk hz
    obtain ⟨k, rfl⟩ : ∃ j, k = j + 1 := ⟨k - 1, by omega⟩
    have hl : xs.length = D.length + (R.length + 1) := by rw [e]; simp
    rw [l_toLinkS.l1, if_pos (by omega)]
    have h3 : ix xs (D.length : Int) = some s := by rw [e]; exact ix_mid D R s
    have h4 : l_toLink s = some (linkOf s) := by
      unfold l_toLink; rw [bind_eq (toStringS s.Log (hs s (by rw [e]; simp)))]; rfl
    have h5 : ix (D.map linkOf ++ z :: Z) (D.length : Int) = some z := by
      have := ix_mid (D.map linkOf) Z z; rwa [List.length_map] at this
    have h6 : setN (D.map linkOf ++ z :: Z) ((D.length : Int).toNat) (linkOf s) = some (D.map linkOf ++ linkOf s :: Z) := by
      have := setN_mid (D.map linkOf) Z z (linkOf s); rwa [List.length_map] at this
    rw [bind_eq h3, bind_eq h4, bind_eq h5, bind_eq h6, bind_eq (ck_succ (by omega))]
    have := toLinkS_l1 xs hx hs R (D ++ [s]) Z (by rw [e]; simp) (by omega) k (by omega)
    rw [show ((D ++ [s]).length : Int) = ((D.length + 1 : Nat) : Int) by simp, List.map_append, List.append_assoc] at this
    exact this
theorem toChain (c : lawsChain) (hx : c.Links.length ≤ 1048576) (hs : ∀ l ∈ c.Links, l.Log.length ≤ 1048576) : l_toChain c = some (chainOf c) := by
  unfold l_toChain
  have h1 : l_toLinkS c.Links = some (c.Links.map linkOf) := by
    unfold l_toLinkS
    rw [bind_eq (mkN_eq (by omega))]
    have := toLinkS_l1 c.Links hx hs c.Links [] (List.replicate c.Links.length (implLink.mk [] 0 0)) rfl (by simp) big (by unfold big; omega)
    rw [bind_eq (show l_toLinkS.l1 c.Links big (List.replicate c.Links.length (implLink.mk [] 0 0)) 0 = some _ from this)]
    rfl
  rw [bind_eq h1]; rfl
/-! Comparisons. -/
theorem eqStringS_l1 (xs ys : List (List UInt8)) (hl : xs.length = ys.length) (hx : xs.length ≤ 1048576) : ∀ (d i k : Nat), i + d = xs.length → d < k →
    ∃ o, l_eqStringS.l1 xs ys k (i : Int) = some o ∧ ((o = .inr () ∧ xs.drop i = ys.drop i) ∨ (o = .inl false ∧ xs.drop i ≠ ys.drop i))
  | 0, i, k, hi, hk => by
    obtain ⟨k, rfl⟩ : ∃ j, k = j + 1 := ⟨k - 1, by omega⟩
    rw [l_eqStringS.l1, if_neg (by omega)]
    exact ⟨_, rfl, .inl ⟨rfl, by rw [List.drop_eq_nil_of_le (by omega), List.drop_eq_nil_of_le (by omega)]⟩⟩
  | d + 1, i, k, hi, hk => by
    obtain ⟨k, rfl⟩ : ∃ j, k = j + 1 := ⟨k - 1, by omega⟩
    have h1 : i < xs.length := by omega
    have h2 : i < ys.length := by omega
    rw [l_eqStringS.l1, if_pos (by omega), bind_eq (ix_get h1), bind_eq (ix_get h2), List.drop_eq_getElem_cons h1, List.drop_eq_getElem_cons h2]
    by_cases hc : xs[i] = ys[i]
    · rw [if_pos hc, bind_eq (ck_succ (by omega))]
      obtain ⟨o, e1, e2⟩ := eqStringS_l1 xs ys hl hx d (i + 1) k (by omega) (by omega)
      refine ⟨o, e1, ?_⟩
      rcases e2 with ⟨e2, e3⟩ | ⟨e2, e3⟩
      · exact .inl ⟨e2, by rw [hc, e3]⟩
      · exact .inr ⟨e2, fun e => e3 (by injection e)⟩
    · rw [if_neg hc]
      exact ⟨_, rfl, .inr ⟨rfl, fun e => hc (by injection e)⟩⟩
theorem eqStringS (xs ys : List (List UInt8)) (hx : xs.length ≤ 1048576) : l_eqStringS xs ys = some (decide (xs = ys)) := by
  unfold l_eqStringS
  by_cases hl : xs.length = ys.length
  · rw [if_pos (by omega)]
    obtain ⟨o, e1, e2⟩ := eqStringS_l1 xs ys hl hx xs.length 0 big (by omega) (by unfold big; omega)
    rw [bind_eq (show l_eqStringS.l1 xs ys big 0 = some o from e1)]
    rcases e2 with ⟨e2, e3⟩ | ⟨e2, e3⟩
    · subst e2
      have : xs = ys := by simpa using e3
      rw [decide_eq_true this]; rfl
    · subst e2
      have : xs ≠ ys := by simpa using e3
      rw [decide_eq_false this]; rfl
  · rw [if_neg (by omega), decide_eq_false (fun e => hl (by rw [e]))]
theorem eqLink (x y : implLink) (hx : x.Log.length ≤ 1048576) : l_eqLink x y = some (decide (x = y)) := by
  unfold l_eqLink
  rw [bind_eq (eqStringS _ _ hx)]
  obtain ⟨a, b, c⟩ := x
  obtain ⟨a', b', c'⟩ := y
  simp only [implLink.mk.injEq]
  by_cases h1 : a = a'
  · by_cases h2 : b = b'
    · by_cases h3 : c = c' <;> simp [h1, h2, h3]
    · simp [h1, h2]
  · simp [h1]
theorem eqLinkS_l1 (xs ys : List implLink) (hl : xs.length = ys.length) (hx : xs.length ≤ 1048576) (hs : ∀ l ∈ xs, l.Log.length ≤ 1048576) : ∀ (d i k : Nat), i + d = xs.length → d < k →
    ∃ o, l_eqLinkS.l1 xs ys k (i : Int) = some o ∧ ((o = .inr () ∧ xs.drop i = ys.drop i) ∨ (o = .inl false ∧ xs.drop i ≠ ys.drop i))
  | 0, i, k, hi, hk => by
    obtain ⟨k, rfl⟩ : ∃ j, k = j + 1 := ⟨k - 1, by omega⟩
    rw [l_eqLinkS.l1, if_neg (by omega)]
    exact ⟨_, rfl, .inl ⟨rfl, by rw [List.drop_eq_nil_of_le (by omega), List.drop_eq_nil_of_le (by omega)]⟩⟩
  | d + 1, i, k, hi, hk => by
    obtain ⟨k, rfl⟩ : ∃ j, k = j + 1 := ⟨k - 1, by omega⟩
    have h1 : i < xs.length := by omega
    have h2 : i < ys.length := by omega
    rw [l_eqLinkS.l1, if_pos (by omega), bind_eq (ix_get h1), bind_eq (ix_get h2), bind_eq (eqLink _ _ (hs _ (List.getElem_mem h1))), List.drop_eq_getElem_cons h1, List.drop_eq_getElem_cons h2]
    by_cases hc : xs[i] = ys[i]
    · rw [decide_eq_true hc, if_pos rfl, bind_eq (ck_succ (by omega))]
      obtain ⟨o, e1, e2⟩ := eqLinkS_l1 xs ys hl hx hs d (i + 1) k (by omega) (by omega)
      refine ⟨o, e1, ?_⟩
      rcases e2 with ⟨e2, e3⟩ | ⟨e2, e3⟩
      · exact .inl ⟨e2, by rw [hc, e3]⟩
      · exact .inr ⟨e2, fun e => e3 (by injection e)⟩
    · rw [decide_eq_false hc, if_neg (by simp)]
      exact ⟨_, rfl, .inr ⟨rfl, fun e => hc (by injection e)⟩⟩
theorem eqChain (x y : implChain) (hx : x.Links.length ≤ 1048576) (hs : ∀ l ∈ x.Links, l.Log.length ≤ 1048576) : l_eqChain x y = some (decide (x = y)) := by
  have key : l_eqLinkS x.Links y.Links = some (decide (x.Links = y.Links)) := by
    unfold l_eqLinkS
    by_cases hl : x.Links.length = y.Links.length
    · rw [if_pos (by omega)]
      obtain ⟨o, e1, e2⟩ := eqLinkS_l1 x.Links y.Links hl hx hs x.Links.length 0 big (by omega) (by unfold big; omega)
      rw [bind_eq (show l_eqLinkS.l1 x.Links y.Links big 0 = some o from e1)]
      rcases e2 with ⟨e2, e3⟩ | ⟨e2, e3⟩
      · subst e2
        have : x.Links = y.Links := by simpa using e3
        rw [decide_eq_true this]; rfl
      · subst e2
        have : x.Links ≠ y.Links := by simpa using e3
        rw [decide_eq_false this]; rfl
    · rw [if_neg (by omega), decide_eq_false (fun e => hl (by rw [e]))]
  unfold l_eqChain
  rw [bind_eq key]
  obtain ⟨a⟩ := x
  obtain ⟨b⟩ := y
  simp only [implChain.mk.injEq]
  by_cases h : a = b <;> simp [h]
end Go.Vm
end
section
/- The first call of a row: what is handed in, and what comes back. -/
namespace Go.Vm
open Go Go.Proofs
section
variable {H : Type} {enc : TypeId × Value → H} {W : World}
theorem list_of {α : Type} {ok : α → Prop} {f : α → List D} : ∀ (rows : List (List D)), (∀ r ∈ rows, ∃ a, ok a ∧ r = f a) → ∃ xs : List α, xs.length = rows.length ∧ (∀ a ∈ xs, ok a) ∧ rows = xs.map f
  | [], _ => ⟨[], rfl, fun a h => (List.not_mem_nil h).elim, rfl⟩
  | r :: rows, h => by
    obtain ⟨a, h1, h2⟩ := h r (by simp)
    obtain ⟨xs, h3, h4, h5⟩ := list_of rows fun r' hr => h r' (by simp [hr])
    exact ⟨a :: xs, by simp [h3], fun b hb => by rcases List.mem_cons.mp hb with e | e; (rw [e]; exact h1); exact h4 b e, by rw [List.map_cons, ← h5, ← h2]⟩
theorem rd_texts {P : Program} {t e : TypeId} (ht : P.underlying t = some (.slice e)) (he : P.underlying e = some .string) (hc : P.cellsOf e = 1) :
    Rd H enc P W t 1 (fun ds => ∃ xs : List (List UInt8), modestS xs ∧ ds = [.sl (xs.map encS)]) := by
  intro fuel cs x h
  obtain ⟨ds, ⟨rows, h1, h2, rfl⟩, h3⟩ := rd_slice ht hc (by decide) (rd_str he) fuel cs x h
  obtain ⟨xs, h4, h5, h6⟩ := list_of (f := encS) rows (fun r hr => by obtain ⟨s, k1, k2⟩ := h2 r hr; exact ⟨s, k1, k2⟩)
  exact ⟨_, ⟨xs, ⟨by omega, h5⟩, by rw [h6]⟩, h3⟩
/-- A field of a struct, read. -/
theorem rd_field {P : Program} {fuel : Nat} {cs : List Value} {o n : Nat} {t : TypeId} {dec : List D → Prop} {x : DataW H × List MemPlace} (hr : Rd H enc P W t n dec) (h : DataW.trod enc P W 0 (fun _ => true) true fuel t ((cs.drop o).take n) = some x) :
    ∃ ds, dec ds ∧ ds.length = n ∧ ∀ (j : Nat) (d : D), ds[j]? = some d → ∃ c, cs[o + j]? = some c ∧ Imm W (fun b => b < W.heap.size) c d := by
  obtain ⟨ds, h1, h2, h3, h4⟩ := hr _ _ _ h
  refine ⟨ds, h1, h2, fun j d hd => ?_⟩
  obtain ⟨c, h5, h6⟩ := h4 j d hd
  refine ⟨c, ?_, h6⟩
  have hj : j < n := by have := (List.getElem?_eq_some_iff.1 hd).1; omega
  rw [List.getElem?_take, if_pos hj, List.getElem?_drop] at h5
  exact h5
theorem rd_link : Rd H enc Try.prog W 96 3 (fun ds => ∃ l : lawsLink, modestS l.Log ∧ ds = lawsLink.enc l) := by
  intro fuel cs x h
  obtain ⟨xs, n, _, _, h1, h2, h3⟩ := DataW.trod_struct Try.underlying96 h
  have hc3 : Try.prog.cellsOf 96 = 3 := by kernel_rfl
  have c30 : Try.prog.cellsOf 30 = 1 := by kernel_rfl
  have c3 : Try.prog.cellsOf 3 = 1 := by kernel_rfl
  have c9 : Try.prog.cellsOf 9 = 1 := by kernel_rfl
  rw [hc3] at h1
  have h2' : xs.length = 3 := h2
  have f0 : DataW.trod enc Try.prog W 0 (fun _ => true) true n 30 ((cs.drop 0).take (Try.prog.cellsOf 30)) = xs[0]? := h3 0 _ rfl
  have f1 : DataW.trod enc Try.prog W 0 (fun _ => true) true n 3 ((cs.drop 1).take (Try.prog.cellsOf 3)) = xs[1]? := h3 1 _ rfl
  have f2 : DataW.trod enc Try.prog W 0 (fun _ => true) true n 3 ((cs.drop 2).take (Try.prog.cellsOf 3)) = xs[2]? := h3 2 _ rfl
  rw [List.getElem?_eq_getElem (by omega)] at f0 f1 f2
  rw [c30] at f0
  rw [c3] at f1 f2
  obtain ⟨d0, ⟨lg, g1, rfl⟩, _, g2⟩ := rd_field (rd_texts Try.underlying30 Try.underlying9 c9) f0
  obtain ⟨d1, ⟨n1, k1, rfl⟩, _, k2⟩ := rd_field (rd_int Try.underlying3) f1
  obtain ⟨d2, ⟨n2, m1, rfl⟩, _, m2⟩ := rd_field (rd_int Try.underlying3) f2
  refine ⟨lawsLink.enc ⟨lg, n1, n2⟩, ⟨⟨lg, n1, n2⟩, g1, rfl⟩, rfl, h1, fun j d hd => ?_⟩
  match j, hd with
  | 0, hd => exact g2 0 d hd
  | 1, hd => exact k2 0 d hd
  | 2, hd => exact m2 0 d hd
  | j + 3, hd => simp [lawsLink.enc] at hd
theorem rd_chain : Rd H enc Try.prog W 52 1 (fun ds => ∃ p : lawsChain, modestL p.Links ∧ ds = lawsChain.enc p) := by
  intro fuel cs x h
  obtain ⟨xs, n, _, _, h1, h2, h3⟩ := DataW.trod_struct Try.underlying52 h
  have hc1 : Try.prog.cellsOf 52 = 1 := by kernel_rfl
  have c50 : Try.prog.cellsOf 50 = 1 := by kernel_rfl
  have c96 : Try.prog.cellsOf 96 = 3 := by kernel_rfl
  rw [hc1] at h1
  have h2' : xs.length = 1 := h2
  have f0 : DataW.trod enc Try.prog W 0 (fun _ => true) true n 50 ((cs.drop 0).take (Try.prog.cellsOf 50)) = xs[0]? := h3 0 _ rfl
  rw [List.getElem?_eq_getElem (by omega)] at f0
  rw [c50] at f0
  obtain ⟨d0, ⟨rows, g1, g3, rfl⟩, _, g2⟩ := rd_field (rd_slice Try.underlying50 c96 (by decide) rd_link) f0
  obtain ⟨ls, e1, e2, e3⟩ := list_of (f := lawsLink.enc) rows (fun r hr => by obtain ⟨s, k1, k2⟩ := g3 r hr; exact ⟨s, k1, k2⟩)
  subst e3
  refine ⟨lawsChain.enc ⟨ls⟩, ⟨⟨ls⟩, ⟨by rw [e1]; exact g1, e2⟩, rfl⟩, rfl, h1, fun j d hd => ?_⟩
  match j, hd with
  | 0, hd => exact g2 0 d hd
  | j + 1, hd => simp [lawsChain.enc] at hd
end
/-- The layout at the first call: all that is there is never written. -/
def lay0 (W : World) : Lay := ⟨fun b => b < W.heap.size, fun _ => 0, fun _ _ => none⟩
theorem bs0 (k : Nat) : (entrySt [] []).bs k = none := by unfold entrySt; dsimp only; cases Nat.ble outer k <;> simp
theorem as0 (k : Nat) : (entrySt [] []).as k = none := by unfold entrySt; dsimp only; cases Nat.ble outer k <;> simp
theorem rowAt0 (k : Nat) (p : Path) : (entrySt [] []).rowAt k p = none := by unfold St.rowAt; rw [as0]; rfl
theorem owns0 (L : Lay) (b : Nat) : ¬ Owns L (entrySt [] []) b := by
  rintro (⟨k, vs, h, _⟩ | ⟨a, p, r, s, h, _⟩)
  · rw [bs0] at h; cases h
  · rw [rowAt0] at h; cases h
theorem mem0 (W : World) : Mem ⟨W, Owns (lay0 W) (entrySt [] []), (lay0 W).I, (lay0 W).bl, fun k => (lay0 W).al k []⟩ W (lay0 W) (entrySt [] []) where
  box := fun b vs h => by rw [bs0] at h; cases h
  row := fun a p r h => by rw [rowAt0] at h; cases h
  bb := fun b b' vs vs' h => by rw [bs0] at h; cases h
  ba := fun b vs a p r s h => by rw [bs0] at h; cases h
  aa := fun a p r s a' p' r' s' h => by rw [rowAt0] at h; cases h
  iown := fun b _ => owns0 _ b
  ilt := fun b h => h
  own0 := fun b h => (owns0 _ b h).elim
  i0 := fun b h => .inl h
  frame := fun b _ _ => rfl
  size := Nat.le_refl _
  os := rfl
  tape := rfl
  output := rfl
open Go.RowKit in
/-- A contract whose answer is a bool, at the first call. -/
theorem first_call {P : Program} {f : Nat} {args : List V} {b : Bool} (h : ACall P f args [] [] (fun v ob oa na => v = .d (.bool b) ∧ ob = [] ∧ oa = [] ∧ na = [])) (W : World) (cargs : Array Value)
    (ha : VRelL (envOf W (lay0 W) (entrySt [] [])) cargs.toList args) : Calls P f cargs W fun e w' => e = .returned (.bool b) ∧ Below W.heap.size W w' := by
  refine (h.2 W (lay0 W) cargs (mem0 W) ha).mono ?_
  rintro e w' ⟨c, r, ob', oa', na, L', rfl, ⟨rfl, rfl, rfl, rfl⟩, hm, hv, _⟩
  simp only [VRel, Imm] at hv
  subst hv
  exact ⟨rfl, ⟨hm.os, hm.tape, hm.output, hm.size, fun k hk => hm.frame k hk (owns0 _ k)⟩⟩
end Go.Vm
end
section
set_option maxRecDepth 4000
set_option maxHeartbeats 1000000
namespace Go.Vm
open Go.Proofs
/- loop.example/g00300/impl.within -/
def i_within.code : MC :=
 (.seq
  (.keep [0, 1, 2] (.reg [⟨(some 6), none, .mov (.v (.d (.bool false)))⟩]))
  (.norm (.seq
   (.keep [6] (.reg [⟨(some 7), none, .mov (.t 0)⟩, ⟨(some 8), none, .mov (.t 1)⟩, ⟨(some 9), none, .bin true .geq (.t 7) (.t 8)⟩, ⟨(some 10), none, .mov (.t 9)⟩, ⟨(some 11), (some (10, true)), .mov (.t 0)⟩, ⟨(some 12), (some (10, true)), .mov (.t 2)⟩, ⟨(some 13), (some (10, true)), .bin true .leq (.t 11) (.t 12)⟩, ⟨(some 14), none, .pick (.t 10) (.t 13) (.v (.d (.bool false)))⟩, ⟨(some 6), none, .mov (.t 14)⟩]))
   .ret)))
theorem i_within.chk : chkFn Try.prog 57 3 i_within.code [.tmp 6] = true := by kernel_rfl
def i_within (p0 : Int) (p1 : Int) (p2 : Int) : Option (Bool) :=
  if p1 ≤ p0 then (some (decide (p0 ≤ p2))) else (some false)
theorem i_within.ok (p0 : Int) (p1 : Int) (p2 : Int) (r : Bool) (h0 : i_within p0 p1 p2 = some r) : ACall Try.prog 57 [.d (.int .i64 p0), .d (.int .i64 p1), .d (.int .i64 p2)] [] [] (fun v ob oa na => v = .d (.bool r) ∧ ob = [] ∧ oa = [] ∧ na = []) := by
  refine wFn_ok i_within.chk rfl ?_
  unfold i_within at h0
  refine ⟨lit [(0, .d (.int .i64 p0)), (1, .d (.int .i64 p1)), (2, .d (.int .i64 p2))] [] [], (le_lit (And.intro (ve rfl) (And.intro (ve rfl) (And.intro (ve rfl) trivial))) trivial trivial), ?_⟩
  refine And.intro rfl ?_
  by_cases c1 : p1 ≤ p0
  · have h1 := if_t c1 h0
    clear h0
    refine and_t (decide_eq_true c1) ?_
    refine and_t (decide_eq_true c1) ?_
    refine and_t (decide_eq_true c1) ?_
    refine And.intro rfl ?_
    refine and_t (decide_eq_true c1) ?_
    cases h1
    exact ⟨[], nod rfl, all_lt rfl, blt_lt rfl, _, _, rfl, rfl, rfl, rfl, rfl, rfl⟩
  · have h2 := if_f c1 h0
    clear h0
    refine and_f (decide_eq_false c1) ?_
    refine and_f (decide_eq_false c1) ?_
    refine and_f (decide_eq_false c1) ?_
    refine and_f (decide_eq_false c1) ?_
    cases h2
    exact ⟨[], nod rfl, all_lt rfl, blt_lt rfl, _, _, rfl, rfl, rfl, rfl, rfl, rfl⟩
end Go.Vm
end
section
set_option maxRecDepth 4000
set_option maxHeartbeats 1000000
namespace Go.Vm
open Go.Proofs
/- loop.example/g00300/impl.isLink$1 -/
def i_isLink_1.code : MC :=
 (.seq
  (.keep [0] (.reg [⟨(some 2), none, .mov (.v (.d (.bool false)))⟩]))
  (.norm (.seq
   (.keep [2] (.reg [⟨(some 3), none, .mov (.t 0)⟩, ⟨(some 4), none, .lens (.t 3)⟩, ⟨(some 5), none, .bin true .gtr (.t 4) (.v (.d (.int .i64 20)))⟩, ⟨(some 2), none, .mov (.t 5)⟩]))
   .ret)))
theorem i_isLink_1.chk : chkFn Try.prog 75 1 i_isLink_1.code [.tmp 2] = true := by kernel_rfl
def i_isLink_1 (p0 : (List UInt8)) : Option (Bool) :=
  some (decide (20 < (p0.length : Int)))
theorem i_isLink_1.ok (p0 : (List UInt8)) (r : Bool) (h0 : i_isLink_1 p0 = some r) : ACall Try.prog 75 [.d (.str p0)] [] [] (fun v ob oa na => v = .d (.bool r) ∧ ob = [] ∧ oa = [] ∧ na = []) := by
  refine wFn_ok i_isLink_1.chk rfl ?_
  unfold i_isLink_1 at h0
  refine ⟨lit [(0, .d (.str p0))] [] [], (le_lit (And.intro (ve rfl) trivial) trivial trivial), ?_⟩
  refine And.intro rfl ?_
  cases h0
  exact ⟨[], nod rfl, all_lt rfl, blt_lt rfl, _, _, rfl, rfl, rfl, rfl, rfl, rfl⟩
end Go.Vm
end
section
set_option maxRecDepth 4000
set_option maxHeartbeats 1000000
namespace Go.Vm
open Go.Proofs
/- slices.Equal[[]string,string] -/
def slices_Equal_string.code : MC :=
 (.seq
  (.keep [0, 1] (.reg [⟨(some 4), none, .mov (.v (.d (.bool false)))⟩]))
  (.norm (.seq
   (.seq
    (.keep [0, 1, 10] (.reg [⟨(some 6), none, .mov (.t 0)⟩, ⟨(some 7), none, .len (.t 6)⟩, ⟨(some 8), none, .mov (.t 1)⟩, ⟨(some 9), none, .len (.t 8)⟩, ⟨(some 10), none, .bin true .neq (.t 7) (.t 9)⟩]))
    (.norm (.cond (.t 10)
     (.seq
      (.keep [4] (.reg [⟨(some 4), none, .mov (.v (.d (.bool false)))⟩]))
      .ret)
     .skip)))
   (.norm (.cut
    (.seq
     (.keep [0, 1, 12, 13] (.reg [⟨(some 11), none, .mov (.t 0)⟩, ⟨(some 12), none, .len (.t 11)⟩, ⟨(some 13), none, .mov (.v (.d (.int .i64 0)))⟩]))
     (.norm (.block 0
      (.loop
       (.seq
        (.keep [0, 1, 12, 13, 14] (.reg [⟨(some 14), none, .bin true .lss (.t 13) (.t 12)⟩]))
        (.seq
         (.cond (.t 14)
          .skip
          (.exit 0))
         (.seq
          (.block 1
           (.seq
            (.keep [0, 1, 5, 12, 13] (.reg [⟨(some 15), none, .mov (.t 13)⟩, ⟨(some 5), none, .mov (.t 15)⟩]))
            (.norm (.seq
             (.keep [0, 1, 12, 13, 24] (.draw (.take 0 ⟨(some 16), none, .mov (.t 0)⟩ (.take 1 ⟨(some 17), none, .mov (.t 5)⟩ (.take 2 ⟨(some 18), none, .idx 1 (.t 16) (.t 17)⟩ (.take 3 ⟨(some 19), none, .load false 1 (.t 18)⟩ (.take 4 ⟨(some 20), none, .mov (.t 1)⟩ (.take 5 ⟨(some 21), none, .mov (.t 5)⟩ (.take 6 ⟨(some 22), none, .idx 1 (.t 20) (.t 21)⟩ (.take 7 ⟨(some 23), none, .load false 1 (.t 22)⟩ (.take 8 ⟨(some 24), none, .bin false .neq (.t 19) (.t 23)⟩ .done)))))))))))
             (.norm (.cond (.t 24)
              (.seq
               (.keep [4] (.reg [⟨(some 4), none, .mov (.v (.d (.bool false)))⟩]))
               .ret)
              .skip))))))
          (.keep [0, 1, 12, 13] (.reg [⟨(some 25), none, .bin true .add (.t 13) (.v (.d (.int .i64 1)))⟩, ⟨(some 13), none, .mov (.t 25)⟩])))))))))
    (.seq
     (.keep [4] (.reg [⟨(some 4), none, .mov (.v (.d (.bool true)))⟩]))
     .ret))))))
theorem slices_Equal_string.chk : chkFn Try.prog 81 2 slices_Equal_string.code [.tmp 4] = true := by kernel_rfl
def slices_Equal_string.j2 : Option Bool :=
  some true
def slices_Equal_string.J2 : St :=
  lit [] [] []
def slices_Equal_string.l1 (p1 : (List (List UInt8))) : List (List UInt8) → Nat → Option (Sum Bool Unit)
  | [], i1 => some (.inr ())
  | y1 :: ys, i1 => (ix p1 (i1 : Int)).bind fun xv22 => if y1 = xv22 then ((slices_Equal_string.l1 p1 ys) (i1 + 1)) else (some (.inl false))
def slices_Equal_string.S1 (p0 : (List (List UInt8))) (p1 : (List (List UInt8))) (i1 : Nat) : St :=
  lit [(0, .d (.sl (p0.map encS))), (1, .d (.sl (p1.map encS))), (12, .d (.int .i64 (p0.length : Int))), (13, .d (.int .i64 (i1 : Int)))] [] []
def slices_Equal_string.O1 (o1 : Unit) : St :=
  lit [] [] []
def slices_Equal_string (p0 : (List (List UInt8))) (p1 : (List (List UInt8))) : Option (Bool) :=
  if (p0.length : Int) = (p1.length : Int) then ((guardP ((p0.length : Int) < 4611686018427387904)).bind fun _ => (slices_Equal_string.l1 p1 p0 0).bind fun w1 => aft w1 fun o1 => slices_Equal_string.j2) else (some false)
theorem slices_Equal_string.ok (p0 : (List (List UInt8))) (p1 : (List (List UInt8))) (r : Bool) (h0 : slices_Equal_string p0 p1 = some r) : ACall Try.prog 81 [.d (.sl (p0.map encS)), .d (.sl (p1.map encS))] [] [] (fun v ob oa na => v = .d (.bool r) ∧ ob = [] ∧ oa = [] ∧ na = []) := by
  refine wFn_ok slices_Equal_string.chk rfl ?_
  unfold slices_Equal_string at h0
  refine ⟨lit [(0, .d (.sl (p0.map encS))), (1, .d (.sl (p1.map encS)))] [] [], (le_lit (And.intro (ve rfl) (And.intro (ve rfl) trivial)) trivial trivial), ?_⟩
  refine ⟨_, map_len _, ?_⟩
  refine ⟨_, map_len _, ?_⟩
  refine And.intro rfl ?_
  refine ⟨lit [(0, .d (.sl (p0.map encS))), (1, .d (.sl (p1.map encS))), (10, .d (.bool (!(decide ((p0.length : Int) = (p1.length : Int))))))] [] [], (le_lit (And.intro (ve rfl) (And.intro (ve rfl) (And.intro (ve rfl) trivial))) trivial trivial), ?_⟩
  by_cases c1 : (p0.length : Int) = (p1.length : Int)
  · have h1 := if_t c1 h0
    clear h0
    refine and_f (not_f (decide_eq_true c1)) ?_
    refine ⟨lit [(0, .d (.sl (p0.map encS))), (1, .d (.sl (p1.map encS)))] [] [], (le_lit (And.intro (ve rfl) (And.intro (ve rfl) trivial)) trivial trivial), ?_⟩
    refine ⟨{ g : Unit // slices_Equal_string.j2 = some r }, fun g => slices_Equal_string.J2, ?_, ?_⟩
    · skip
      refine ⟨_, map_len _, ?_⟩
      refine ⟨lit [(0, .d (.sl (p0.map encS))), (1, .d (.sl (p1.map encS))), (12, .d (.int .i64 (p0.length : Int))), (13, .d (.int .i64 0))] [] [], (le_lit (And.intro (ve rfl) (And.intro (ve rfl) (And.intro (ve rfl) (And.intro (ve rfl) trivial)))) trivial trivial), ?_⟩
      obtain ⟨_, g1, h2⟩ := bind_some h1
      have q1 := guardP_some g1
      clear h1 g1
      obtain ⟨w1, e1, h3⟩ := bind_some h2
      clear h2
      refine ⟨{ g : Nat // g ≤ p0.length ∧ slices_Equal_string.l1 p1 (p0.drop g) g = some w1 }, fun g => slices_Equal_string.S1 p0 p1 g.1, fun g => p0.length - g.1, ⟨0, Nat.zero_le _, e1⟩, (le_lit (And.intro (ve rfl) (And.intro (ve rfl) (And.intro (ve rfl) (And.intro (ve rfl) trivial)))) trivial trivial), ?_⟩
      rintro ⟨i1, le1, h4⟩
      change slices_Equal_string.l1 p1 (p0.drop i1) i1 = some w1 at h4
      change wMC _ _ _ (slices_Equal_string.S1 p0 p1 i1)
      by_cases ci1 : i1 < p0.length
      · obtain ⟨y1, ey1, di1⟩ := drop_cons ci1
        rw [di1, slices_Equal_string.l1] at h4
        have ri1 := range_inR (Int.ofNat_lt.mpr ci1) q1
        refine And.intro rfl ?_
        refine and_t (decide_eq_true (Int.ofNat_lt.mpr ci1)) ?_
        refine ⟨lit [(0, .d (.sl (p0.map encS))), (1, .d (.sl (p1.map encS))), (5, .d (.int .i64 (i1 : Int))), (12, .d (.int .i64 (p0.length : Int))), (13, .d (.int .i64 (i1 : Int)))] [] [], (le_lit (And.intro (ve rfl) (And.intro (ve rfl) (And.intro (ve rfl) (And.intro (ve rfl) (And.intro (ve rfl) trivial))))) trivial trivial), ?_⟩
        refine And.intro (Int.natCast_nonneg _) ⟨_, map_get ey1, rfl, ?_⟩
        obtain ⟨xv22, exv22, h5⟩ := bind_some h4
        clear h4
        obtain ⟨av22, exv22⟩ := ix_some exv22
        refine And.intro av22 ⟨_, map_get exv22, rfl, ?_⟩
        refine ⟨lit [(0, .d (.sl (p0.map encS))), (1, .d (.sl (p1.map encS))), (12, .d (.int .i64 (p0.length : Int))), (13, .d (.int .i64 (i1 : Int))), (24, .d (.bool (!(decide (y1 = xv22)))))] [] [], (le_lit (And.intro (ve rfl) (And.intro (ve rfl) (And.intro (ve rfl) (And.intro (ve rfl) (And.intro (ve rfl) trivial))))) trivial trivial), ?_⟩
        by_cases c2 : y1 = xv22
        · have h6 := if_t c2 h5
          clear h5
          refine and_f (not_f (decide_eq_true c2)) ?_
          refine And.intro rfl ?_
          refine ⟨((i1 + 1 : Nat) : Int), rfl, fun _ => ri1, ?_⟩
          exact ⟨⟨i1 + 1, ci1, h6⟩, (le_lit (And.intro (ve rfl) (And.intro (ve rfl) (And.intro (ve rfl) (And.intro (ve rfl) trivial)))) trivial trivial), Nat.sub_lt_sub_left ci1 (Nat.lt_succ_self _)⟩
        · have h7 := if_f c2 h5
          clear h5
          refine and_t (not_t (decide_eq_false c2)) ?_
          cases h7
          obtain rfl := aft_inl h3
          exact ⟨[], nod rfl, all_lt rfl, blt_lt rfl, _, _, rfl, rfl, rfl, rfl, rfl, rfl⟩
      · rw [drop_nil ci1, slices_Equal_string.l1] at h4
        refine And.intro rfl ?_
        refine and_f (decide_eq_false (fun hh => ci1 (Int.ofNat_lt.mp hh))) ?_
        cases h4
        have h8 := aft_inr h3
        exact ⟨⟨(), h8⟩, (le_lit trivial trivial trivial)⟩
    · rintro ⟨⟨⟩, h9⟩
      change slices_Equal_string.j2 = some r at h9
      change wMC _ _ _ (slices_Equal_string.J2)
      unfold slices_Equal_string.j2 at h9
      clear h1
      cases h9
      exact ⟨[], nod rfl, all_lt rfl, blt_lt rfl, _, _, rfl, rfl, rfl, rfl, rfl, rfl⟩
  · have h10 := if_f c1 h0
    clear h0
    refine and_t (not_t (decide_eq_false c1)) ?_
    cases h10
    exact ⟨[], nod rfl, all_lt rfl, blt_lt rfl, _, _, rfl, rfl, rfl, rfl, rfl, rfl⟩
end Go.Vm
end
section
set_option maxRecDepth 4000
set_option maxHeartbeats 1000000
namespace Go.Vm
open Go.Proofs
/- loop.example/g00300/impl.isBeginning -/
def i_isBeginning.code : MC :=
 (.seq
  (.keep [0, 1] (.reg [⟨(some 4), none, .mov (.v (.d (.bool false)))⟩]))
  (.norm (.seq
   (.keep [4] (.reg [⟨(some 5), none, .mov (.t 0)⟩, ⟨(some 6), none, .len (.t 5)⟩, ⟨(some 7), none, .mov (.t 1)⟩, ⟨(some 8), none, .len (.t 7)⟩, ⟨(some 9), none, .bin true .leq (.t 6) (.t 8)⟩, ⟨(some 10), none, .mov (.t 9)⟩, ⟨(some 11), (some (10, true)), .mov (.t 0)⟩, ⟨(some 12), (some (10, true)), .mov (.t 1)⟩, ⟨(some 13), (some (10, true)), .mov (.t 0)⟩, ⟨(some 14), (some (10, true)), .len (.t 13)⟩, ⟨(some 15), (some (10, true)), .sub 1 (.t 12) none (some (.t 14))⟩, ⟨(some 16), (some (10, true)), .call (.v (.clos 81 [])) [.t 11, .t 15] [] []⟩, ⟨(some 17), none, .pick (.t 10) (.t 16) (.v (.d (.bool false)))⟩, ⟨(some 4), none, .mov (.t 17)⟩]))
   .ret)))
theorem i_isBeginning.chk : chkFn Try.prog 76 2 i_isBeginning.code [.tmp 4] = true := by kernel_rfl
def i_isBeginning (p0 : (List (List UInt8))) (p1 : (List (List UInt8))) : Option (Bool) :=
  if (p0.length : Int) ≤ (p1.length : Int) then ((subL p1 0 (p0.length : Int)).bind fun v15 => (slices_Equal_string p0 v15).bind fun v16 => some v16) else (some false)
theorem i_isBeginning.ok (p0 : (List (List UInt8))) (p1 : (List (List UInt8))) (r : Bool) (h0 : i_isBeginning p0 p1 = some r) : ACall Try.prog 76 [.d (.sl (p0.map encS)), .d (.sl (p1.map encS))] [] [] (fun v ob oa na => v = .d (.bool r) ∧ ob = [] ∧ oa = [] ∧ na = []) := by
  refine wFn_ok i_isBeginning.chk rfl ?_
  unfold i_isBeginning at h0
  refine ⟨lit [(0, .d (.sl (p0.map encS))), (1, .d (.sl (p1.map encS)))] [] [], (le_lit (And.intro (ve rfl) (And.intro (ve rfl) trivial)) trivial trivial), ?_⟩
  refine ⟨_, map_len _, ?_⟩
  refine ⟨_, map_len _, ?_⟩
  refine And.intro rfl ?_
  by_cases c1 : (p0.length : Int) ≤ (p1.length : Int)
  · have h1 := if_t c1 h0
    clear h0
    refine and_t (decide_eq_true c1) ?_
    refine and_t (decide_eq_true c1) ?_
    refine and_t (decide_eq_true c1) ?_
    refine and_t (decide_eq_true c1) ?_
    refine ⟨_, map_len _, ?_⟩
    obtain ⟨v15, ev15, h2⟩ := bind_some h1
    clear h1
    obtain ⟨av15, bv15, cv15, dv15, ev15, lv15⟩ := subL_some ev15
    refine and_t (decide_eq_true c1) ?_
    refine ⟨p1.length, v15.map encS, map_len _, ?_⟩
    refine And.intro bv15 <| And.intro cv15 (And.intro dv15 (And.intro (all_len (f := encS) (fun _ => rfl) _) (And.intro (map_sub ev15) ?_)))
    obtain ⟨v16, ev16, h3⟩ := bind_some h2
    clear h2
    refine and_t (decide_eq_true c1) ?_
    refine ⟨rfl, nod rfl, rfl, rfl, _, rfl, rfl, ?_⟩
    refine (slices_Equal_string.ok p0 v15 _ ev16).mono ?_
    rintro _ _ _ _ ⟨rfl, rfl, rfl, rfl⟩
    refine ⟨rfl, rfl, rfl, rfl, trivial, trivial, ?_⟩
    refine and_t (decide_eq_true c1) ?_
    cases h3
    exact ⟨[], nod rfl, all_lt rfl, blt_lt rfl, _, _, rfl, rfl, rfl, rfl, rfl, rfl⟩
  · have h4 := if_f c1 h0
    clear h0
    refine and_f (decide_eq_false c1) ?_
    refine and_f (decide_eq_false c1) ?_
    refine and_f (decide_eq_false c1) ?_
    refine and_f (decide_eq_false c1) ?_
    refine and_f (decide_eq_false c1) ?_
    refine and_f (decide_eq_false c1) ?_
    refine and_f (decide_eq_false c1) ?_
    cases h4
    exact ⟨[], nod rfl, all_lt rfl, blt_lt rfl, _, _, rfl, rfl, rfl, rfl, rfl, rfl⟩
end Go.Vm
end
section
set_option maxRecDepth 4000
set_option maxHeartbeats 1000000
namespace Go.Vm
open Go.Proofs
/- slices.IndexFunc[[]string,string] -/
def slices_IndexFunc_string_c0.code : MC :=
 (.seq
  (.keep [0, 1] (.reg [⟨(some 4), none, .mov (.v (.d (.int .i64 0)))⟩]))
  (.norm (.cut
   (.seq
    (.keep [0, 1, 7, 8] (.reg [⟨(some 6), none, .mov (.t 0)⟩, ⟨(some 7), none, .len (.t 6)⟩, ⟨(some 8), none, .mov (.v (.d (.int .i64 0)))⟩]))
    (.norm (.block 0
     (.loop
      (.seq
       (.keep [0, 1, 7, 8, 9] (.reg [⟨(some 9), none, .bin true .lss (.t 8) (.t 7)⟩]))
       (.seq
        (.cond (.t 9)
         .skip
         (.exit 0))
        (.seq
         (.block 1
          (.seq
           (.keep [0, 1, 5, 7, 8] (.reg [⟨(some 10), none, .mov (.t 8)⟩, ⟨(some 5), none, .mov (.t 10)⟩]))
           (.norm (.seq
            (.keep [0, 1, 5, 7, 8, 16] (.reg [⟨(some 11), none, .mov (.t 1)⟩, ⟨(some 12), none, .mov (.t 0)⟩, ⟨(some 13), none, .mov (.t 5)⟩, ⟨(some 14), none, .idx 1 (.t 12) (.t 13)⟩, ⟨(some 15), none, .load false 1 (.t 14)⟩, ⟨(some 16), none, .call (.t 11) [.t 15] [] []⟩]))
            (.norm (.cond (.t 16)
             (.seq
              (.keep [4] (.reg [⟨(some 17), none, .mov (.t 5)⟩, ⟨(some 4), none, .mov (.t 17)⟩]))
              .ret)
             .skip))))))
         (.keep [0, 1, 7, 8] (.reg [⟨(some 18), none, .bin true .add (.t 8) (.v (.d (.int .i64 1)))⟩, ⟨(some 8), none, .mov (.t 18)⟩])))))))))
   (.seq
    (.keep [4] (.reg [⟨(some 4), none, .mov (.v (.d (.int .i64 (-1))))⟩]))
    .ret))))
theorem slices_IndexFunc_string_c0.chk : chkFn Try.prog 80 2 slices_IndexFunc_string_c0.code [.tmp 4] = true := by kernel_rfl
def slices_IndexFunc_string.j2 : Option Int :=
  some (-1)
def slices_IndexFunc_string.J2 : St :=
  lit [] [] []
def slices_IndexFunc_string.l1 (p1 : (List UInt8) → Option Bool) : List (List UInt8) → Nat → Option (Sum Int Unit)
  | [], i1 => some (.inr ())
  | y1 :: ys, i1 => (p1 y1).bind fun v16 => if v16 = true then (some (.inl (i1 : Int))) else ((slices_IndexFunc_string.l1 p1 ys) (i1 + 1))
def slices_IndexFunc_string.S1 (p0 : (List (List UInt8))) (fc : Nat) (i1 : Nat) : St :=
  lit [(0, .d (.sl (p0.map encS))), (1, .clos fc []), (7, .d (.int .i64 (p0.length : Int))), (8, .d (.int .i64 (i1 : Int)))] [] []
def slices_IndexFunc_string.O1 (o1 : Unit) : St :=
  lit [] [] []
def slices_IndexFunc_string_c0 (p0 : (List (List UInt8))) (p1 : (List UInt8) → Option Bool) : Option (Int) :=
  (guardP ((p0.length : Int) < 4611686018427387904)).bind fun _ => (slices_IndexFunc_string.l1 p1 p0 0).bind fun w1 => aft w1 fun o1 => slices_IndexFunc_string.j2
theorem slices_IndexFunc_string_c0.ok (p0 : (List (List UInt8))) (p1 : (List UInt8) → Option Bool) (r : Int) (fc : Nat) (hg : ∀ (z0 : (List UInt8)) (r : Bool), p1 z0 = some r → ACall Try.prog fc [.d (.str z0)] [] [] (fun v ob oa na => v = .d (.bool r) ∧ ob = [] ∧ oa = [] ∧ na = [])) (h0 : slices_IndexFunc_string_c0 p0 p1 = some r) : ACall Try.prog 80 [.d (.sl (p0.map encS)), .clos fc []] [] [] (fun v ob oa na => v = .d (.int .i64 r) ∧ ob = [] ∧ oa = [] ∧ na = []) := by
  refine wFn_ok slices_IndexFunc_string_c0.chk rfl ?_
  unfold slices_IndexFunc_string_c0 at h0
  refine ⟨lit [(0, .d (.sl (p0.map encS))), (1, .clos fc [])] [] [], (le_lit (And.intro (ve rfl) (And.intro (ve rfl) trivial)) trivial trivial), ?_⟩
  refine ⟨{ g : Unit // slices_IndexFunc_string.j2 = some r }, fun g => slices_IndexFunc_string.J2, ?_, ?_⟩
  · skip
    refine ⟨_, map_len _, ?_⟩
    refine ⟨lit [(0, .d (.sl (p0.map encS))), (1, .clos fc []), (7, .d (.int .i64 (p0.length : Int))), (8, .d (.int .i64 0))] [] [], (le_lit (And.intro (ve rfl) (And.intro (ve rfl) (And.intro (ve rfl) (And.intro (ve rfl) trivial)))) trivial trivial), ?_⟩
    obtain ⟨_, g1, h1⟩ := bind_some h0
    have q1 := guardP_some g1
    clear h0 g1
    obtain ⟨w1, e1, h2⟩ := bind_some h1
    clear h1
    refine ⟨{ g : Nat // g ≤ p0.length ∧ slices_IndexFunc_string.l1 p1 (p0.drop g) g = some w1 }, fun g => slices_IndexFunc_string.S1 p0 fc g.1, fun g => p0.length - g.1, ⟨0, Nat.zero_le _, e1⟩, (le_lit (And.intro (ve rfl) (And.intro (ve rfl) (And.intro (ve rfl) (And.intro (ve rfl) trivial)))) trivial trivial), ?_⟩
    rintro ⟨i1, le1, h3⟩
    change slices_IndexFunc_string.l1 p1 (p0.drop i1) i1 = some w1 at h3
    change wMC _ _ _ (slices_IndexFunc_string.S1 p0 fc i1)
    by_cases ci1 : i1 < p0.length
    · obtain ⟨y1, ey1, di1⟩ := drop_cons ci1
      rw [di1, slices_IndexFunc_string.l1] at h3
      have ri1 := range_inR (Int.ofNat_lt.mpr ci1) q1
      refine And.intro rfl ?_
      refine and_t (decide_eq_true (Int.ofNat_lt.mpr ci1)) ?_
      refine ⟨lit [(0, .d (.sl (p0.map encS))), (1, .clos fc []), (5, .d (.int .i64 (i1 : Int))), (7, .d (.int .i64 (p0.length : Int))), (8, .d (.int .i64 (i1 : Int)))] [] [], (le_lit (And.intro (ve rfl) (And.intro (ve rfl) (And.intro (ve rfl) (And.intro (ve rfl) (And.intro (ve rfl) trivial))))) trivial trivial), ?_⟩
      refine And.intro (Int.natCast_nonneg _) ⟨_, map_get ey1, rfl, ?_⟩
      obtain ⟨v16, ev16, h4⟩ := bind_some h3
      clear h3
      refine ⟨rfl, nod rfl, rfl, rfl, _, rfl, rfl, ?_⟩
      refine (hg y1 _ ev16).mono ?_
      rintro _ _ _ _ ⟨rfl, rfl, rfl, rfl⟩
      refine ⟨rfl, rfl, rfl, rfl, trivial, trivial, ?_⟩
      refine ⟨lit [(0, .d (.sl (p0.map encS))), (1, .clos fc []), (5, .d (.int .i64 (i1 : Int))), (7, .d (.int .i64 (p0.length : Int))), (8, .d (.int .i64 (i1 : Int))), (16, .d (.bool v16))] [] [], (le_lit (And.intro (ve rfl) (And.intro (ve rfl) (And.intro (ve rfl) (And.intro (ve rfl) (And.intro (ve rfl) (And.intro (ve rfl) trivial)))))) trivial trivial), ?_⟩
      by_cases c1 : v16 = true
      · have h5 := if_t c1 h4
        clear h4
        refine and_t c1 ?_
        cases h5
        obtain rfl := aft_inl h2
        exact ⟨[], nod rfl, all_lt rfl, blt_lt rfl, _, _, rfl, rfl, rfl, rfl, rfl, rfl⟩
      · have h6 := if_f c1 h4
        clear h4
        refine and_f (ne_t c1) ?_
        refine And.intro rfl ?_
        refine ⟨((i1 + 1 : Nat) : Int), rfl, fun _ => ri1, ?_⟩
        exact ⟨⟨i1 + 1, ci1, h6⟩, (le_lit (And.intro (ve rfl) (And.intro (ve rfl) (And.intro (ve rfl) (And.intro (ve rfl) trivial)))) trivial trivial), Nat.sub_lt_sub_left ci1 (Nat.lt_succ_self _)⟩
    · rw [drop_nil ci1, slices_IndexFunc_string.l1] at h3
      refine And.intro rfl ?_
      refine and_f (decide_eq_false (fun hh => ci1 (Int.ofNat_lt.mp hh))) ?_
      cases h3
      have h7 := aft_inr h2
      exact ⟨⟨(), h7⟩, (le_lit trivial trivial trivial)⟩
  · rintro ⟨⟨⟩, h8⟩
    change slices_IndexFunc_string.j2 = some r at h8
    change wMC _ _ _ (slices_IndexFunc_string.J2)
    unfold slices_IndexFunc_string.j2 at h8
    clear h0
    cases h8
    exact ⟨[], nod rfl, all_lt rfl, blt_lt rfl, _, _, rfl, rfl, rfl, rfl, rfl, rfl⟩
end Go.Vm
end
section
set_option maxRecDepth 4000
set_option maxHeartbeats 1000000
namespace Go.Vm
open Go.Proofs
/- slices.ContainsFunc[[]string,string] -/
def slices_ContainsFunc_string_c0.code : MC :=
 (.seq
  (.keep [0, 1] (.reg [⟨(some 4), none, .mov (.v (.d (.bool false)))⟩]))
  (.norm (.seq
   (.keep [4] (.reg [⟨(some 5), none, .mov (.t 0)⟩, ⟨(some 6), none, .mov (.t 1)⟩, ⟨(some 7), none, .call (.v (.clos 80 [])) [.t 5, .t 6] [] []⟩, ⟨(some 8), none, .bin true .geq (.t 7) (.v (.d (.int .i64 0)))⟩, ⟨(some 4), none, .mov (.t 8)⟩]))
   .ret)))
theorem slices_ContainsFunc_string_c0.chk : chkFn Try.prog 74 2 slices_ContainsFunc_string_c0.code [.tmp 4] = true := by kernel_rfl
def slices_ContainsFunc_string_c0 (p0 : (List (List UInt8))) (p1 : (List UInt8) → Option Bool) : Option (Bool) :=
  (slices_IndexFunc_string_c0 p0 p1).bind fun v7 => some (decide (0 ≤ v7))
theorem slices_ContainsFunc_string_c0.ok (p0 : (List (List UInt8))) (p1 : (List UInt8) → Option Bool) (r : Bool) (fc : Nat) (hg : ∀ (z0 : (List UInt8)) (r : Bool), p1 z0 = some r → ACall Try.prog fc [.d (.str z0)] [] [] (fun v ob oa na => v = .d (.bool r) ∧ ob = [] ∧ oa = [] ∧ na = [])) (h0 : slices_ContainsFunc_string_c0 p0 p1 = some r) : ACall Try.prog 74 [.d (.sl (p0.map encS)), .clos fc []] [] [] (fun v ob oa na => v = .d (.bool r) ∧ ob = [] ∧ oa = [] ∧ na = []) := by
  refine wFn_ok slices_ContainsFunc_string_c0.chk rfl ?_
  unfold slices_ContainsFunc_string_c0 at h0
  refine ⟨lit [(0, .d (.sl (p0.map encS))), (1, .clos fc [])] [] [], (le_lit (And.intro (ve rfl) (And.intro (ve rfl) trivial)) trivial trivial), ?_⟩
  obtain ⟨v7, ev7, h1⟩ := bind_some h0
  clear h0
  refine ⟨rfl, nod rfl, rfl, rfl, _, rfl, rfl, ?_⟩
  refine (slices_IndexFunc_string_c0.ok p0 p1 _ fc hg ev7).mono ?_
  rintro _ _ _ _ ⟨rfl, rfl, rfl, rfl⟩
  refine ⟨rfl, rfl, rfl, rfl, trivial, trivial, ?_⟩
  refine And.intro rfl ?_
  cases h1
  exact ⟨[], nod rfl, all_lt rfl, blt_lt rfl, _, _, rfl, rfl, rfl, rfl, rfl, rfl⟩
end Go.Vm
end
section
set_option maxRecDepth 4000
set_option maxHeartbeats 1000000
namespace Go.Vm
open Go.Proofs
/- loop.example/g00300/impl.isLink -/
def i_isLink.code : MC :=
 (.seq
  (.keep [1, 2] (.reg [⟨(some 2), none, .box (.t 0)⟩, ⟨(some 4), none, .mov (.v (.d (.bool false)))⟩]))
  (.norm (.seq
   (.keep [1, 2, 5] (.reg [⟨(some 8), none, .fld 0 (.t 2)⟩, ⟨(some 9), none, .load false 1 (.t 8)⟩, ⟨(some 10), none, .mov (.t 1)⟩, ⟨(some 11), none, .idx 3 (.t 9) (.t 10)⟩, ⟨(some 12), none, .load true 3 (.t 11)⟩, ⟨(some 5), none, .box (.v (.agg [.nilsl, .d (.int .i64 0), .d (.int .i64 0)]))⟩, ⟨none, none, .store 3 (.t 5) (.t 12)⟩]))
   (.norm (.seq
    (.keep [1, 2, 5, 6] (.reg [⟨(some 13), none, .fld 0 (.t 2)⟩, ⟨(some 14), none, .load false 1 (.t 13)⟩, ⟨(some 15), none, .len (.t 14)⟩, ⟨(some 16), none, .bin true .sub (.t 15) (.v (.d (.int .i64 1)))⟩, ⟨(some 6), none, .mov (.t 16)⟩]))
    (.norm (.seq
     (.cut
      (.keep [1, 2, 5, 6, 25] (.reg [⟨(some 17), none, .fld 0 (.t 5)⟩, ⟨(some 18), none, .load false 1 (.t 17)⟩, ⟨(some 19), none, .len (.t 18)⟩, ⟨(some 20), none, .bin true .gtr (.t 19) (.v (.d (.int .i64 40)))⟩, ⟨(some 21), none, .mov (.t 20)⟩, ⟨(some 22), (some (21, false)), .fld 0 (.t 5)⟩, ⟨(some 23), (some (21, false)), .load false 1 (.t 22)⟩, ⟨(some 24), (some (21, false)), .call (.v (.clos 74 [])) [.t 23, .v (.clos 75 [])] [] []⟩, ⟨(some 25), none, .pick (.t 21) (.v (.d (.bool true))) (.t 24)⟩]))
      (.cond (.t 25)
       (.seq
        (.keep [4] (.reg [⟨(some 4), none, .mov (.v (.d (.bool false)))⟩]))
        .ret)
       .skip))
     (.norm (.seq
      (.seq
       (.keep [1, 2, 5, 6, 28] (.reg [⟨(some 26), none, .mov (.t 1)⟩, ⟨(some 27), none, .mov (.t 6)⟩, ⟨(some 28), none, .bin true .eql (.t 26) (.t 27)⟩]))
       (.norm (.cond (.t 28)
        (.seq
         (.keep [4] (.reg [⟨(some 29), none, .fld 1 (.t 5)⟩, ⟨(some 30), none, .load false 1 (.t 29)⟩, ⟨(some 31), none, .bin true .eql (.t 30) (.v (.d (.int .i64 0)))⟩, ⟨(some 32), none, .mov (.t 31)⟩, ⟨(some 33), (some (32, true)), .fld 2 (.t 5)⟩, ⟨(some 34), (some (32, true)), .load false 1 (.t 33)⟩, ⟨(some 35), (some (32, true)), .fld 0 (.t 5)⟩, ⟨(some 36), (some (32, true)), .load false 1 (.t 35)⟩, ⟨(some 37), (some (32, true)), .len (.t 36)⟩, ⟨none, none, .nrm⟩, ⟨(some 38), (some (32, true)), .bin true .eql (.t 34) (.t 37)⟩, ⟨(some 39), none, .pick (.t 32) (.t 38) (.v (.d (.bool false)))⟩, ⟨(some 4), none, .mov (.t 39)⟩]))
         .ret)
        .skip)))
      (.norm (.seq
       (.keep [2, 5, 6, 7] (.reg [⟨(some 40), none, .fld 0 (.t 2)⟩, ⟨(some 41), none, .load false 1 (.t 40)⟩, ⟨(some 42), none, .mov (.t 1)⟩, ⟨(some 43), none, .bin true .add (.t 42) (.v (.d (.int .i64 1)))⟩, ⟨(some 44), none, .idx 3 (.t 41) (.t 43)⟩, ⟨(some 45), none, .load true 3 (.t 44)⟩, ⟨(some 7), none, .box (.v (.agg [.nilsl, .d (.int .i64 0), .d (.int .i64 0)]))⟩, ⟨none, none, .store 3 (.t 7) (.t 45)⟩]))
       (.norm (.seq
        (.keep [4] (.draw (.take 0 ⟨(some 46), none, .fld 0 (.t 7)⟩ (.take 1 ⟨(some 47), none, .load false 1 (.t 46)⟩ (.take 2 ⟨(some 48), none, .fld 0 (.t 5)⟩ (.take 3 ⟨(some 49), none, .load false 1 (.t 48)⟩ (.fork 4 ⟨(some 50), none, .call (.v (.clos 76 [])) [.t 47, .t 49] [] []⟩ [] (.take 5 ⟨(some 51), none, .mov (.t 50)⟩ (.nrm (.take 6 ⟨(some 52), (some (51, true)), .fld 1 (.t 5)⟩ (.take 7 ⟨(some 53), (some (51, true)), .load false 1 (.t 52)⟩ (.take 8 ⟨(some 54), (some (51, true)), .fld 0 (.t 7)⟩ (.take 9 ⟨(some 55), (some (51, true)), .load false 1 (.t 54)⟩ (.take 10 ⟨(some 56), (some (51, true)), .len (.t 55)⟩ (.fork 11 ⟨(some 57), (some (51, true)), .call (.v (.clos 57 [])) [.t 53, .v (.d (.int .i64 0)), .t 56] [] []⟩ [] (.nrm (.take 12 ⟨(some 58), none, .pick (.t 51) (.t 57) (.v (.d (.bool false)))⟩ (.take 13 ⟨(some 59), none, .mov (.t 58)⟩ (.take 14 ⟨(some 60), (some (59, true)), .fld 2 (.t 5)⟩ (.take 15 ⟨(some 61), (some (59, true)), .load false 1 (.t 60)⟩ (.take 16 ⟨(some 62), (some (59, true)), .fld 0 (.t 2)⟩ (.take 17 ⟨(some 63), (some (59, true)), .load false 1 (.t 62)⟩ (.take 18 ⟨(some 64), (some (59, true)), .mov (.t 6)⟩ (.take 19 ⟨(some 65), (some (59, true)), .idx 3 (.t 63) (.t 64)⟩ (.take 20 ⟨(some 66), (some (59, true)), .fld 0 (.t 65)⟩ (.nrm (.take 21 ⟨(some 67), (some (59, true)), .load false 1 (.t 66)⟩ (.take 22 ⟨(some 68), (some (59, true)), .len (.t 67)⟩ (.take 23 ⟨(some 69), (some (59, true)), .fld 0 (.t 5)⟩ (.take 24 ⟨(some 70), (some (59, true)), .load false 1 (.t 69)⟩ (.take 25 ⟨(some 71), (some (59, true)), .len (.t 70)⟩ (.take 26 ⟨(some 72), (some (59, true)), .fld 2 (.t 7)⟩ (.take 27 ⟨(some 73), (some (59, true)), .load false 1 (.t 72)⟩ (.take 28 ⟨(some 74), (some (59, true)), .mm false [.t 68, .t 71, .t 73]⟩ (.fork 29 ⟨(some 75), (some (59, true)), .call (.v (.clos 57 [])) [.t 61, .v (.d (.int .i64 0)), .t 74] [] []⟩ [] (.take 30 ⟨(some 76), none, .pick (.t 59) (.t 75) (.v (.d (.bool false)))⟩ (.take 31 ⟨(some 4), none, .mov (.t 76)⟩ .done)) .nofork)))))))))))))))))))) .nofork)))))))) .nofork)))))))
        .ret)))))))))))))
theorem i_isLink.chk : chkFn Try.prog 58 2 i_isLink.code [.tmp 4] = true := by kernel_rfl
def i_isLink.j1 (p0 : implChain) (p1 : Int) (xv11 : implLink) (v16 : Int) (x25_1 : Bool) : Option Bool :=
  if x25_1 = true then (some false) else (if p1 = v16 then (if xv11.Sent = 0 then (some (decide (xv11.Sure = (xv11.Log.length : Int)))) else (some false)) else ((ckK .i64 (p1 + 1)).bind fun v43 => (ix p0.Links v43).bind fun xv44 => (i_isBeginning xv44.Log xv11.Log).bind fun v50 => if v50 = true then ((i_within xv11.Sent 0 (xv44.Log.length : Int)).bind fun v57 => if v57 = true then ((ix p0.Links v16).bind fun xv65 => (i_within xv11.Sure 0 (min (min (xv65.Log.length : Int) (xv11.Log.length : Int)) xv44.Sure)).bind fun v75 => some v75) else (some false)) else (some false)))
def i_isLink.J1 (p0 : implChain) (p1 : Int) (xv11 : implLink) (v16 : Int) (x25_1 : Bool) : St :=
  lit [(1, .d (.int .i64 p1)), (2, .bptr 2 0), (5, .bptr 5 0), (6, .d (.int .i64 v16)), (25, .d (.bool x25_1))] [(2, [.d (.sl (p0.Links.map implLink.enc))]), (5, [.d (.sl (xv11.Log.map encS)), .d (.int .i64 xv11.Sent), .d (.int .i64 xv11.Sure)])] []
def i_isLink (p0 : implChain) (p1 : Int) : Option (Bool) :=
  (ix p0.Links p1).bind fun xv11 => (ckK .i64 ((p0.Links.length : Int) - 1)).bind fun v16 => if 40 < (xv11.Log.length : Int) then (i_isLink.j1 p0 p1 xv11 v16 true) else ((slices_ContainsFunc_string_c0 xv11.Log i_isLink_1).bind fun v24 => i_isLink.j1 p0 p1 xv11 v16 v24)
theorem i_isLink.ok (p0 : implChain) (p1 : Int) (r : Bool) (h0 : i_isLink p0 p1 = some r) : ACall Try.prog 58 [.agg [.d (.sl (p0.Links.map implLink.enc))], .d (.int .i64 p1)] [] [] (fun v ob oa na => v = .d (.bool r) ∧ ob = [] ∧ oa = [] ∧ na = []) := by
  refine wFn_ok i_isLink.chk rfl ?_
  unfold i_isLink at h0
  refine And.intro rfl ?_
  refine ⟨lit [(1, .d (.int .i64 p1)), (2, .bptr 2 0)] [(2, [.d (.sl (p0.Links.map implLink.enc))])] [], (le_lit (And.intro (ve rfl) (And.intro (ve rfl) trivial)) (And.intro ⟨_, rfl, (vel rfl)⟩ trivial) trivial), ?_⟩
  obtain ⟨xv11, exv11, h1⟩ := bind_some h0
  clear h0
  obtain ⟨av11, exv11⟩ := ix_some exv11
  refine And.intro av11 ⟨_, map_get exv11, rfl, ?_⟩
  refine And.intro rfl ?_
  refine And.intro rfl (And.intro rfl (And.intro (nle rfl) ?_))
  refine ⟨lit [(1, .d (.int .i64 p1)), (2, .bptr 2 0), (5, .bptr 5 0)] [(2, [.d (.sl (p0.Links.map implLink.enc))]), (5, [.d (.sl (xv11.Log.map encS)), .d (.int .i64 xv11.Sent), .d (.int .i64 xv11.Sure)])] [], (le_lit (And.intro (ve rfl) (And.intro (ve rfl) (And.intro (ve rfl) trivial))) (And.intro ⟨_, rfl, (vel rfl)⟩ (And.intro ⟨_, rfl, (vel rfl)⟩ trivial)) trivial), ?_⟩
  refine ⟨_, map_len _, ?_⟩
  obtain ⟨v16, ev16, h2⟩ := bind_some h1
  clear h1
  obtain ⟨ev16, rv16⟩ := ckK_some ev16
  refine And.intro rfl ?_
  refine ⟨v16, ev16, fun _ => rv16, ?_⟩
  refine ⟨lit [(1, .d (.int .i64 p1)), (2, .bptr 2 0), (5, .bptr 5 0), (6, .d (.int .i64 v16))] [(2, [.d (.sl (p0.Links.map implLink.enc))]), (5, [.d (.sl (xv11.Log.map encS)), .d (.int .i64 xv11.Sent), .d (.int .i64 xv11.Sure)])] [], (le_lit (And.intro (ve rfl) (And.intro (ve rfl) (And.intro (ve rfl) (And.intro (ve rfl) trivial)))) (And.intro ⟨_, rfl, (vel rfl)⟩ (And.intro ⟨_, rfl, (vel rfl)⟩ trivial)) trivial), ?_⟩
  refine ⟨{ g : Bool // i_isLink.j1 p0 p1 xv11 v16 g = some r }, fun g => i_isLink.J1 p0 p1 xv11 v16 g.1, ?_, ?_⟩
  · skip
    refine ⟨_, map_len _, ?_⟩
    refine And.intro rfl ?_
    by_cases c2 : 40 < (xv11.Log.length : Int)
    · have h3 := if_t c2 h2
      clear h2
      refine and_t' (decide_eq_true c2) ?_
      refine and_t' (decide_eq_true c2) ?_
      refine and_t' (decide_eq_true c2) ?_
      refine and_t (decide_eq_true c2) ?_
      exact ⟨⟨_, h3⟩, (le_lit (And.intro (ve rfl) (And.intro (ve rfl) (And.intro (ve rfl) (And.intro (ve rfl) (And.intro (ve rfl) trivial))))) (And.intro ⟨_, rfl, (vel rfl)⟩ (And.intro ⟨_, rfl, (vel rfl)⟩ trivial)) trivial)⟩
    · have h4 := if_f c2 h2
      clear h2
      refine and_f' (decide_eq_false c2) ?_
      refine and_f' (decide_eq_false c2) ?_
      obtain ⟨v24, ev24, h5⟩ := bind_some h4
      clear h4
      refine and_f' (decide_eq_false c2) ?_
      refine ⟨rfl, nod rfl, rfl, rfl, _, rfl, rfl, ?_⟩
      refine (slices_ContainsFunc_string_c0.ok xv11.Log i_isLink_1 _ 75 (fun z0 r hh => i_isLink_1.ok z0 r hh) ev24).mono ?_
      rintro _ _ _ _ ⟨rfl, rfl, rfl, rfl⟩
      refine ⟨rfl, rfl, rfl, rfl, trivial, trivial, ?_⟩
      refine and_f (decide_eq_false c2) ?_
      exact ⟨⟨_, h5⟩, (le_lit (And.intro (ve rfl) (And.intro (ve rfl) (And.intro (ve rfl) (And.intro (ve rfl) (And.intro (ve rfl) trivial))))) (And.intro ⟨_, rfl, (vel rfl)⟩ (And.intro ⟨_, rfl, (vel rfl)⟩ trivial)) trivial)⟩
  · rintro ⟨x25_1, h6⟩
    change i_isLink.j1 p0 p1 xv11 v16 x25_1 = some r at h6
    change wMC _ _ _ (i_isLink.J1 p0 p1 xv11 v16 x25_1)
    unfold i_isLink.j1 at h6
    clear h2
    by_cases c3 : x25_1 = true
    · have h7 := if_t c3 h6
      clear h6
      refine and_t c3 ?_
      cases h7
      exact ⟨[], nod rfl, all_lt rfl, blt_lt rfl, _, _, rfl, rfl, rfl, rfl, rfl, rfl⟩
    · have h8 := if_f c3 h6
      clear h6
      refine and_f (ne_t c3) ?_
      refine ⟨lit [(1, .d (.int .i64 p1)), (2, .bptr 2 0), (5, .bptr 5 0), (6, .d (.int .i64 v16))] [(2, [.d (.sl (p0.Links.map implLink.enc))]), (5, [.d (.sl (xv11.Log.map encS)), .d (.int .i64 xv11.Sent), .d (.int .i64 xv11.Sure)])] [], (le_lit (And.intro (ve rfl) (And.intro (ve rfl) (And.intro (ve rfl) (And.intro (ve rfl) trivial)))) (And.intro ⟨_, rfl, (vel rfl)⟩ (And.intro ⟨_, rfl, (vel rfl)⟩ trivial)) trivial), ?_⟩
      refine And.intro rfl ?_
      refine ⟨lit [(1, .d (.int .i64 p1)), (2, .bptr 2 0), (5, .bptr 5 0), (6, .d (.int .i64 v16)), (28, .d (.bool (decide (p1 = v16))))] [(2, [.d (.sl (p0.Links.map implLink.enc))]), (5, [.d (.sl (xv11.Log.map encS)), .d (.int .i64 xv11.Sent), .d (.int .i64 xv11.Sure)])] [], (le_lit (And.intro (ve rfl) (And.intro (ve rfl) (And.intro (ve rfl) (And.intro (ve rfl) (And.intro (ve rfl) trivial))))) (And.intro ⟨_, rfl, (vel rfl)⟩ (And.intro ⟨_, rfl, (vel rfl)⟩ trivial)) trivial), ?_⟩
      by_cases c4 : p1 = v16
      · have h9 := if_t c4 h8
        clear h8
        refine and_t (decide_eq_true c4) ?_
        refine And.intro rfl ?_
        by_cases c5 : xv11.Sent = 0
        · have h10 := if_t c5 h9
          clear h9
          refine and_t (decide_eq_true c5) ?_
          refine and_t (decide_eq_true c5) ?_
          refine and_t (decide_eq_true c5) ?_
          refine and_t (decide_eq_true c5) ?_
          refine and_t (decide_eq_true c5) ?_
          refine ⟨_, map_len _, ?_⟩
          refine ⟨lit [(32, .d (.bool (decide (xv11.Sent = 0)))), (34, .d (.int .i64 xv11.Sure)), (37, .d (.int .i64 (xv11.Log.length : Int)))] [] [], (le_lit (And.intro (ve rfl) (And.intro (ve rfl) (And.intro (ve rfl) trivial))) trivial trivial), ?_⟩
          refine and_t (decide_eq_true c5) ?_
          refine And.intro rfl ?_
          refine and_t (decide_eq_true c5) ?_
          cases h10
          exact ⟨[], nod rfl, all_lt rfl, blt_lt rfl, _, _, rfl, rfl, rfl, rfl, rfl, rfl⟩
        · have h11 := if_f c5 h9
          clear h9
          refine and_f (decide_eq_false c5) ?_
          refine and_f (decide_eq_false c5) ?_
          refine and_f (decide_eq_false c5) ?_
          refine and_f (decide_eq_false c5) ?_
          refine and_f (decide_eq_false c5) ?_
          refine ⟨lit [(32, .d (.bool (decide (xv11.Sent = 0)))), (34, .tup []), (37, .tup [])] [] [], (le_lit (And.intro (ve rfl) (And.intro (ve rfl) (And.intro (ve rfl) trivial))) trivial trivial), ?_⟩
          refine and_f (decide_eq_false c5) ?_
          refine and_f (decide_eq_false c5) ?_
          cases h11
          exact ⟨[], nod rfl, all_lt rfl, blt_lt rfl, _, _, rfl, rfl, rfl, rfl, rfl, rfl⟩
      · have h12 := if_f c4 h8
        clear h8
        refine and_f (decide_eq_false c4) ?_
        refine ⟨lit [(1, .d (.int .i64 p1)), (2, .bptr 2 0), (5, .bptr 5 0), (6, .d (.int .i64 v16))] [(2, [.d (.sl (p0.Links.map implLink.enc))]), (5, [.d (.sl (xv11.Log.map encS)), .d (.int .i64 xv11.Sent), .d (.int .i64 xv11.Sure)])] [], (le_lit (And.intro (ve rfl) (And.intro (ve rfl) (And.intro (ve rfl) (And.intro (ve rfl) trivial)))) (And.intro ⟨_, rfl, (vel rfl)⟩ (And.intro ⟨_, rfl, (vel rfl)⟩ trivial)) trivial), ?_⟩
        obtain ⟨v43, ev43, h13⟩ := bind_some h12
        clear h12
        obtain ⟨ev43, rv43⟩ := ckK_some ev43
        refine And.intro rfl ?_
        refine ⟨v43, ev43, fun _ => rv43, ?_⟩
        obtain ⟨xv44, exv44, h14⟩ := bind_some h13
        clear h13
        obtain ⟨av44, exv44⟩ := ix_some exv44
        refine And.intro av44 ⟨_, map_get exv44, rfl, ?_⟩
        refine And.intro rfl ?_
        refine And.intro rfl (And.intro rfl (And.intro (nle rfl) ?_))
        refine ⟨lit [(2, .bptr 2 0), (5, .bptr 5 0), (6, .d (.int .i64 v16)), (7, .bptr 7 0)] [(2, [.d (.sl (p0.Links.map implLink.enc))]), (5, [.d (.sl (xv11.Log.map encS)), .d (.int .i64 xv11.Sent), .d (.int .i64 xv11.Sure)]), (7, [.d (.sl (xv44.Log.map encS)), .d (.int .i64 xv44.Sent), .d (.int .i64 xv44.Sure)])] [], (le_lit (And.intro (ve rfl) (And.intro (ve rfl) (And.intro (ve rfl) (And.intro (ve rfl) trivial)))) (And.intro ⟨_, rfl, (vel rfl)⟩ (And.intro ⟨_, rfl, (vel rfl)⟩ (And.intro ⟨_, rfl, (vel rfl)⟩ trivial))) trivial), ?_⟩
        refine And.intro (And.intro trivial ?_) trivial
        obtain ⟨v50, ev50, h15⟩ := bind_some h14
        clear h14
        refine ⟨rfl, nod rfl, rfl, rfl, _, rfl, rfl, ?_⟩
        refine (i_isBeginning.ok xv44.Log xv11.Log _ ev50).mono ?_
        rintro _ _ _ _ ⟨rfl, rfl, rfl, rfl⟩
        refine ⟨rfl, rfl, rfl, rfl, trivial, trivial, ?_⟩
        refine ⟨lit [(2, .bptr 2 0), (5, .bptr 5 0), (6, .d (.int .i64 v16)), (7, .bptr 7 0), (51, .d (.bool v50))] [(2, [.d (.sl (p0.Links.map implLink.enc))]), (5, [.d (.sl (xv11.Log.map encS)), .d (.int .i64 xv11.Sent), .d (.int .i64 xv11.Sure)]), (7, [.d (.sl (xv44.Log.map encS)), .d (.int .i64 xv44.Sent), .d (.int .i64 xv44.Sure)])] [], (le_lit (And.intro (ve rfl) (And.intro (ve rfl) (And.intro (ve rfl) (And.intro (ve rfl) (And.intro (ve rfl) trivial))))) (And.intro ⟨_, rfl, (vel rfl)⟩ (And.intro ⟨_, rfl, (vel rfl)⟩ (And.intro ⟨_, rfl, (vel rfl)⟩ trivial))) trivial), ?_⟩
        by_cases c7 : v50 = true
        · have h16 := if_t c7 h15
          clear h15
          refine and_t c7 ?_
          refine and_t c7 ?_
          refine and_t c7 ?_
          refine and_t c7 ?_
          refine and_t c7 ?_
          refine ⟨_, map_len _, ?_⟩
          refine And.intro (And.intro trivial ?_) trivial
          obtain ⟨v57, ev57, h17⟩ := bind_some h16
          clear h16
          refine and_t c7 ?_
          refine ⟨rfl, nod rfl, rfl, rfl, _, rfl, rfl, ?_⟩
          refine (i_within.ok xv11.Sent 0 (xv44.Log.length : Int) _ ev57).mono ?_
          rintro _ _ _ _ ⟨rfl, rfl, rfl, rfl⟩
          refine ⟨rfl, rfl, rfl, rfl, trivial, trivial, ?_⟩
          refine ⟨lit [(2, .bptr 2 0), (5, .bptr 5 0), (6, .d (.int .i64 v16)), (7, .bptr 7 0), (51, .d (.bool v50)), (57, .d (.bool v57))] [(2, [.d (.sl (p0.Links.map implLink.enc))]), (5, [.d (.sl (xv11.Log.map encS)), .d (.int .i64 xv11.Sent), .d (.int .i64 xv11.Sure)]), (7, [.d (.sl (xv44.Log.map encS)), .d (.int .i64 xv44.Sent), .d (.int .i64 xv44.Sure)])] [], (le_lit (And.intro (ve rfl) (And.intro (ve rfl) (And.intro (ve rfl) (And.intro (ve rfl) (And.intro (ve rfl) (And.intro (ve rfl) trivial)))))) (And.intro ⟨_, rfl, (vel rfl)⟩ (And.intro ⟨_, rfl, (vel rfl)⟩ (And.intro ⟨_, rfl, (vel rfl)⟩ trivial))) trivial), ?_⟩
          refine and_t c7 ?_
          by_cases c8 : v57 = true
          · have h18 := if_t c8 h17
            clear h17
            refine and_t c8 ?_
            refine and_t c8 ?_
            refine and_t c8 ?_
            refine and_t c8 ?_
            refine and_t c8 ?_
            obtain ⟨xv65, exv65, h19⟩ := bind_some h18
            clear h18
            obtain ⟨av65, exv65⟩ := ix_some exv65
            refine and_t c8 ?_
            refine And.intro av65 ⟨_, map_get exv65, rfl, ?_⟩
            refine and_t c8 ?_
            refine ⟨lit [(5, .bptr 5 0), (7, .bptr 7 0), (59, .d (.bool v57)), (61, .d (.int .i64 xv11.Sure)), (66, .iptr ((implLink.enc xv65).drop 0))] [(5, [.d (.sl (xv11.Log.map encS)), .d (.int .i64 xv11.Sent), .d (.int .i64 xv11.Sure)]), (7, [.d (.sl (xv44.Log.map encS)), .d (.int .i64 xv44.Sent), .d (.int .i64 xv44.Sure)])] [], (le_lit (And.intro (ve rfl) (And.intro (ve rfl) (And.intro (ve rfl) (And.intro (ve rfl) (And.intro (ve rfl) trivial))))) (And.intro ⟨_, rfl, (vel rfl)⟩ (And.intro ⟨_, rfl, (vel rfl)⟩ trivial)) trivial), ?_⟩
            refine and_t c8 ?_
            refine and_t c8 ?_
            refine ⟨_, map_len _, ?_⟩
            refine and_t c8 ?_
            refine and_t c8 ?_
            refine and_t c8 ?_
            refine ⟨_, map_len _, ?_⟩
            refine and_t c8 ?_
            refine and_t c8 ?_
            refine and_t c8 ?_
            refine And.intro rfl (And.intro rfl ?_)
            refine And.intro (And.intro trivial ?_) trivial
            obtain ⟨v75, ev75, h20⟩ := bind_some h19
            clear h19
            refine and_t c8 ?_
            refine ⟨rfl, nod rfl, rfl, rfl, _, rfl, rfl, ?_⟩
            refine (i_within.ok xv11.Sure 0 (min (min (xv65.Log.length : Int) (xv11.Log.length : Int)) xv44.Sure) _ ev75).mono ?_
            rintro _ _ _ _ ⟨rfl, rfl, rfl, rfl⟩
            refine ⟨rfl, rfl, rfl, rfl, trivial, trivial, ?_⟩
            refine and_t c8 ?_
            cases h20
            exact ⟨[], nod rfl, all_lt rfl, blt_lt rfl, _, _, rfl, rfl, rfl, rfl, rfl, rfl⟩
          · have h21 := if_f c8 h17
            clear h17
            refine and_f (ne_t c8) ?_
            refine and_f (ne_t c8) ?_
            refine and_f (ne_t c8) ?_
            refine and_f (ne_t c8) ?_
            refine and_f (ne_t c8) ?_
            refine and_f (ne_t c8) ?_
            refine and_f (ne_t c8) ?_
            refine ⟨lit [(5, .bptr 5 0), (7, .bptr 7 0), (59, .d (.bool v57)), (61, .tup []), (66, .tup [])] [(5, [.d (.sl (xv11.Log.map encS)), .d (.int .i64 xv11.Sent), .d (.int .i64 xv11.Sure)]), (7, [.d (.sl (xv44.Log.map encS)), .d (.int .i64 xv44.Sent), .d (.int .i64 xv44.Sure)])] [], (le_lit (And.intro (ve rfl) (And.intro (ve rfl) (And.intro (ve rfl) (And.intro (ve rfl) (And.intro (ve rfl) trivial))))) (And.intro ⟨_, rfl, (vel rfl)⟩ (And.intro ⟨_, rfl, (vel rfl)⟩ trivial)) trivial), ?_⟩
            refine and_f (ne_t c8) ?_
            refine and_f (ne_t c8) ?_
            refine and_f (ne_t c8) ?_
            refine and_f (ne_t c8) ?_
            refine and_f (ne_t c8) ?_
            refine and_f (ne_t c8) ?_
            refine and_f (ne_t c8) ?_
            refine and_f (ne_t c8) ?_
            refine And.intro (And.intro trivial ?_) trivial
            refine and_f (ne_t c8) ?_
            refine and_f (ne_t c8) ?_
            cases h21
            exact ⟨[], nod rfl, all_lt rfl, blt_lt rfl, _, _, rfl, rfl, rfl, rfl, rfl, rfl⟩
        · have h22 := if_f c7 h15
          clear h15
          refine and_f (ne_t c7) ?_
          refine and_f (ne_t c7) ?_
          refine and_f (ne_t c7) ?_
          refine and_f (ne_t c7) ?_
          refine and_f (ne_t c7) ?_
          refine And.intro (And.intro trivial ?_) trivial
          refine and_f (ne_t c7) ?_
          refine ⟨lit [(2, .bptr 2 0), (5, .bptr 5 0), (6, .d (.int .i64 v16)), (7, .bptr 7 0), (51, .d (.bool v50)), (57, .tup [])] [(2, [.d (.sl (p0.Links.map implLink.enc))]), (5, [.d (.sl (xv11.Log.map encS)), .d (.int .i64 xv11.Sent), .d (.int .i64 xv11.Sure)]), (7, [.d (.sl (xv44.Log.map encS)), .d (.int .i64 xv44.Sent), .d (.int .i64 xv44.Sure)])] [], (le_lit (And.intro (ve rfl) (And.intro (ve rfl) (And.intro (ve rfl) (And.intro (ve rfl) (And.intro (ve rfl) (And.intro (ve rfl) trivial)))))) (And.intro ⟨_, rfl, (vel rfl)⟩ (And.intro ⟨_, rfl, (vel rfl)⟩ (And.intro ⟨_, rfl, (vel rfl)⟩ trivial))) trivial), ?_⟩
          refine and_f (ne_t c7) ?_
          refine and_f rfl ?_
          refine and_f rfl ?_
          refine and_f rfl ?_
          refine and_f rfl ?_
          refine and_f rfl ?_
          refine and_f rfl ?_
          refine and_f rfl ?_
          refine ⟨lit [(5, .bptr 5 0), (7, .bptr 7 0), (59, .d (.bool false)), (61, .tup []), (66, .tup [])] [(5, [.d (.sl (xv11.Log.map encS)), .d (.int .i64 xv11.Sent), .d (.int .i64 xv11.Sure)]), (7, [.d (.sl (xv44.Log.map encS)), .d (.int .i64 xv44.Sent), .d (.int .i64 xv44.Sure)])] [], (le_lit (And.intro (ve rfl) (And.intro (ve rfl) (And.intro (ve rfl) (And.intro (ve rfl) (And.intro (ve rfl) trivial))))) (And.intro ⟨_, rfl, (vel rfl)⟩ (And.intro ⟨_, rfl, (vel rfl)⟩ trivial)) trivial), ?_⟩
          refine and_f rfl ?_
          refine and_f rfl ?_
          refine and_f rfl ?_
          refine and_f rfl ?_
          refine and_f rfl ?_
          refine and_f rfl ?_
          refine and_f rfl ?_
          refine and_f rfl ?_
          refine And.intro (And.intro trivial ?_) trivial
          refine and_f rfl ?_
          refine and_f rfl ?_
          cases h22
          exact ⟨[], nod rfl, all_lt rfl, blt_lt rfl, _, _, rfl, rfl, rfl, rfl, rfl, rfl⟩
end Go.Vm
end
section
set_option maxRecDepth 4000
set_option maxHeartbeats 1000000
namespace Go.Vm
open Go.Proofs
/- loop.example/g00300/impl.GoodChain -/
def i_GoodChain.code : MC :=
 (.seq
  (.keep [1] (.reg [⟨(some 1), none, .box (.t 0)⟩, ⟨(some 2), none, .mov (.v (.d (.bool false)))⟩]))
  (.norm (.seq
   (.seq
    (.keep [1, 8] (.reg [⟨(some 4), none, .fld 0 (.t 1)⟩, ⟨(some 5), none, .load false 1 (.t 4)⟩, ⟨(some 6), none, .len (.t 5)⟩, ⟨(some 7), none, .call (.v (.clos 57 [])) [.t 6, .v (.d (.int .i64 1)), .v (.d (.int .i64 6))] [] []⟩, ⟨(some 8), none, .un .not (.t 7)⟩]))
    (.norm (.cond (.t 8)
     (.seq
      (.keep [2] (.reg [⟨(some 2), none, .mov (.v (.d (.bool false)))⟩]))
      .ret)
     .skip)))
   (.norm (.cut
    (.seq
     (.keep [1, 11, 12] (.reg [⟨(some 9), none, .fld 0 (.t 1)⟩, ⟨(some 10), none, .load false 1 (.t 9)⟩, ⟨(some 11), none, .len (.t 10)⟩, ⟨(some 12), none, .mov (.v (.d (.int .i64 0)))⟩]))
     (.norm (.block 0
      (.loop
       (.seq
        (.keep [1, 11, 12, 13] (.reg [⟨(some 13), none, .bin true .lss (.t 12) (.t 11)⟩]))
        (.seq
         (.cond (.t 13)
          .skip
          (.exit 0))
         (.seq
          (.block 1
           (.seq
            (.keep [1, 3, 11, 12] (.reg [⟨(some 14), none, .mov (.t 12)⟩, ⟨(some 3), none, .mov (.t 14)⟩]))
            (.norm (.seq
             (.keep [1, 11, 12, 18] (.reg [⟨(some 15), none, .load true 1 (.t 1)⟩, ⟨(some 16), none, .mov (.t 3)⟩, ⟨(some 17), none, .call (.v (.clos 58 [])) [.t 15, .t 16] [] []⟩, ⟨(some 18), none, .un .not (.t 17)⟩]))
             (.norm (.cond (.t 18)
              (.seq
               (.keep [2] (.reg [⟨(some 2), none, .mov (.v (.d (.bool false)))⟩]))
               .ret)
              .skip))))))
          (.keep [1, 11, 12] (.reg [⟨(some 19), none, .bin true .add (.t 12) (.v (.d (.int .i64 1)))⟩, ⟨(some 12), none, .mov (.t 19)⟩])))))))))
    (.seq
     (.keep [2] (.reg [⟨(some 2), none, .mov (.v (.d (.bool true)))⟩]))
     .ret))))))
theorem i_GoodChain.chk : chkFn Try.prog 31 1 i_GoodChain.code [.tmp 2] = true := by kernel_rfl
def i_GoodChain.j2 : Option Bool :=
  some true
def i_GoodChain.J2 : St :=
  lit [] [] []
def i_GoodChain.l1 (p0 : implChain) : List implLink → Nat → Option (Sum Bool Unit)
  | [], i1 => some (.inr ())
  | y1 :: ys, i1 => (i_isLink p0 (i1 : Int)).bind fun v17 => if v17 = true then ((i_GoodChain.l1 p0 ys) (i1 + 1)) else (some (.inl false))
def i_GoodChain.S1 (p0 : implChain) (i1 : Nat) : St :=
  lit [(1, .bptr 1 0), (11, .d (.int .i64 (p0.Links.length : Int))), (12, .d (.int .i64 (i1 : Int)))] [(1, [.d (.sl (p0.Links.map implLink.enc))])] []
def i_GoodChain.O1 (o1 : Unit) : St :=
  lit [] [] []
def i_GoodChain (p0 : implChain) : Option (Bool) :=
  (i_within (p0.Links.length : Int) 1 6).bind fun v7 => if v7 = true then ((guardP ((p0.Links.length : Int) < 4611686018427387904)).bind fun _ => (i_GoodChain.l1 p0 p0.Links 0).bind fun w1 => aft w1 fun o1 => i_GoodChain.j2) else (some false)
theorem i_GoodChain.ok (p0 : implChain) (r : Bool) (h0 : i_GoodChain p0 = some r) : ACall Try.prog 31 [.agg [.d (.sl (p0.Links.map implLink.enc))]] [] [] (fun v ob oa na => v = .d (.bool r) ∧ ob = [] ∧ oa = [] ∧ na = []) := by
  refine wFn_ok i_GoodChain.chk rfl ?_
  unfold i_GoodChain at h0
  refine And.intro rfl ?_
  refine ⟨lit [(1, .bptr 1 0)] [(1, [.d (.sl (p0.Links.map implLink.enc))])] [], (le_lit (And.intro (ve rfl) trivial) (And.intro ⟨_, rfl, (vel rfl)⟩ trivial) trivial), ?_⟩
  refine ⟨_, map_len _, ?_⟩
  obtain ⟨v7, ev7, h1⟩ := bind_some h0
  clear h0
  refine ⟨rfl, nod rfl, rfl, rfl, _, rfl, rfl, ?_⟩
  refine (i_within.ok (p0.Links.length : Int) 1 6 _ ev7).mono ?_
  rintro _ _ _ _ ⟨rfl, rfl, rfl, rfl⟩
  refine ⟨rfl, rfl, rfl, rfl, trivial, trivial, ?_⟩
  refine ⟨lit [(1, .bptr 1 0), (8, .d (.bool (!v7)))] [(1, [.d (.sl (p0.Links.map implLink.enc))])] [], (le_lit (And.intro (ve rfl) (And.intro (ve rfl) trivial)) (And.intro ⟨_, rfl, (vel rfl)⟩ trivial) trivial), ?_⟩
  by_cases c1 : v7 = true
  · have h2 := if_t c1 h1
    clear h1
    refine and_f (not_f c1) ?_
    refine ⟨lit [(1, .bptr 1 0)] [(1, [.d (.sl (p0.Links.map implLink.enc))])] [], (le_lit (And.intro (ve rfl) trivial) (And.intro ⟨_, rfl, (vel rfl)⟩ trivial) trivial), ?_⟩
    refine ⟨{ g : Unit // i_GoodChain.j2 = some r }, fun g => i_GoodChain.J2, ?_, ?_⟩
    · skip
      refine ⟨_, map_len _, ?_⟩
      refine ⟨lit [(1, .bptr 1 0), (11, .d (.int .i64 (p0.Links.length : Int))), (12, .d (.int .i64 0))] [(1, [.d (.sl (p0.Links.map implLink.enc))])] [], (le_lit (And.intro (ve rfl) (And.intro (ve rfl) (And.intro (ve rfl) trivial))) (And.intro ⟨_, rfl, (vel rfl)⟩ trivial) trivial), ?_⟩
      obtain ⟨_, g1, h3⟩ := bind_some h2
      have q1 := guardP_some g1
      clear h2 g1
      obtain ⟨w1, e1, h4⟩ := bind_some h3
      clear h3
      refine ⟨{ g : Nat // g ≤ p0.Links.length ∧ i_GoodChain.l1 p0 (p0.Links.drop g) g = some w1 }, fun g => i_GoodChain.S1 p0 g.1, fun g => p0.Links.length - g.1, ⟨0, Nat.zero_le _, e1⟩, (le_lit (And.intro (ve rfl) (And.intro (ve rfl) (And.intro (ve rfl) trivial))) (And.intro ⟨_, rfl, (vel rfl)⟩ trivial) trivial), ?_⟩
      rintro ⟨i1, le1, h5⟩
      change i_GoodChain.l1 p0 (p0.Links.drop i1) i1 = some w1 at h5
      change wMC _ _ _ (i_GoodChain.S1 p0 i1)
      by_cases ci1 : i1 < p0.Links.length
      · obtain ⟨y1, ey1, di1⟩ := drop_cons ci1
        rw [di1, i_GoodChain.l1] at h5
        have ri1 := range_inR (Int.ofNat_lt.mpr ci1) q1
        refine And.intro rfl ?_
        refine and_t (decide_eq_true (Int.ofNat_lt.mpr ci1)) ?_
        refine ⟨lit [(1, .bptr 1 0), (3, .d (.int .i64 (i1 : Int))), (11, .d (.int .i64 (p0.Links.length : Int))), (12, .d (.int .i64 (i1 : Int)))] [(1, [.d (.sl (p0.Links.map implLink.enc))])] [], (le_lit (And.intro (ve rfl) (And.intro (ve rfl) (And.intro (ve rfl) (And.intro (ve rfl) trivial)))) (And.intro ⟨_, rfl, (vel rfl)⟩ trivial) trivial), ?_⟩
        obtain ⟨v17, ev17, h6⟩ := bind_some h5
        clear h5
        refine ⟨rfl, nod rfl, rfl, rfl, _, rfl, rfl, ?_⟩
        refine (i_isLink.ok p0 (i1 : Int) _ ev17).mono ?_
        rintro _ _ _ _ ⟨rfl, rfl, rfl, rfl⟩
        refine ⟨rfl, rfl, rfl, rfl, trivial, trivial, ?_⟩
        refine ⟨lit [(1, .bptr 1 0), (11, .d (.int .i64 (p0.Links.length : Int))), (12, .d (.int .i64 (i1 : Int))), (18, .d (.bool (!v17)))] [(1, [.d (.sl (p0.Links.map implLink.enc))])] [], (le_lit (And.intro (ve rfl) (And.intro (ve rfl) (And.intro (ve rfl) (And.intro (ve rfl) trivial)))) (And.intro ⟨_, rfl, (vel rfl)⟩ trivial) trivial), ?_⟩
        by_cases c2 : v17 = true
        · have h7 := if_t c2 h6
          clear h6
          refine and_f (not_f c2) ?_
          refine And.intro rfl ?_
          refine ⟨((i1 + 1 : Nat) : Int), rfl, fun _ => ri1, ?_⟩
          exact ⟨⟨i1 + 1, ci1, h7⟩, (le_lit (And.intro (ve rfl) (And.intro (ve rfl) (And.intro (ve rfl) trivial))) (And.intro ⟨_, rfl, (vel rfl)⟩ trivial) trivial), Nat.sub_lt_sub_left ci1 (Nat.lt_succ_self _)⟩
        · have h8 := if_f c2 h6
          clear h6
          refine and_t (not_t (ne_t c2)) ?_
          cases h8
          obtain rfl := aft_inl h4
          exact ⟨[], nod rfl, all_lt rfl, blt_lt rfl, _, _, rfl, rfl, rfl, rfl, rfl, rfl⟩
      · rw [drop_nil ci1, i_GoodChain.l1] at h5
        refine And.intro rfl ?_
        refine and_f (decide_eq_false (fun hh => ci1 (Int.ofNat_lt.mp hh))) ?_
        cases h5
        have h9 := aft_inr h4
        exact ⟨⟨(), h9⟩, (le_lit trivial trivial trivial)⟩
    · rintro ⟨⟨⟩, h10⟩
      change i_GoodChain.j2 = some r at h10
      change wMC _ _ _ (i_GoodChain.J2)
      unfold i_GoodChain.j2 at h10
      clear h2
      cases h10
      exact ⟨[], nod rfl, all_lt rfl, blt_lt rfl, _, _, rfl, rfl, rfl, rfl, rfl, rfl⟩
  · have h11 := if_f c1 h1
    clear h1
    refine and_t (not_t (ne_t c1)) ?_
    cases h11
    exact ⟨[], nod rfl, all_lt rfl, blt_lt rfl, _, _, rfl, rfl, rfl, rfl, rfl, rfl⟩
end Go.Vm
end
section
set_option maxRecDepth 4000
set_option maxHeartbeats 1000000
namespace Go.Vm
open Go.Proofs
/- loop.example/g00300/spec.l1In -/
def s_l1In.code : MC :=
 (.seq
  (.keep [0, 1, 2] (.reg [⟨(some 6), none, .mov (.v (.d (.bool false)))⟩]))
  (.norm (.seq
   (.keep [6] (.reg [⟨(some 7), none, .mov (.t 0)⟩, ⟨(some 8), none, .mov (.t 1)⟩, ⟨(some 9), none, .bin true .geq (.t 7) (.t 8)⟩, ⟨(some 10), none, .mov (.t 9)⟩, ⟨(some 11), (some (10, true)), .mov (.t 0)⟩, ⟨(some 12), (some (10, true)), .mov (.t 2)⟩, ⟨(some 13), (some (10, true)), .bin true .leq (.t 11) (.t 12)⟩, ⟨(some 14), none, .pick (.t 10) (.t 13) (.v (.d (.bool false)))⟩, ⟨(some 6), none, .mov (.t 14)⟩]))
   .ret)))
theorem s_l1In.chk : chkFn Try.prog 61 3 s_l1In.code [.tmp 6] = true := by kernel_rfl
def s_l1In (p0 : Int) (p1 : Int) (p2 : Int) : Option (Bool) :=
  if p1 ≤ p0 then (some (decide (p0 ≤ p2))) else (some false)
theorem s_l1In.ok (p0 : Int) (p1 : Int) (p2 : Int) (r : Bool) (h0 : s_l1In p0 p1 p2 = some r) : ACall Try.prog 61 [.d (.int .i64 p0), .d (.int .i64 p1), .d (.int .i64 p2)] [] [] (fun v ob oa na => v = .d (.bool r) ∧ ob = [] ∧ oa = [] ∧ na = []) := by
  refine wFn_ok s_l1In.chk rfl ?_
  unfold s_l1In at h0
  refine ⟨lit [(0, .d (.int .i64 p0)), (1, .d (.int .i64 p1)), (2, .d (.int .i64 p2))] [] [], (le_lit (And.intro (ve rfl) (And.intro (ve rfl) (And.intro (ve rfl) trivial))) trivial trivial), ?_⟩
  refine And.intro rfl ?_
  by_cases c1 : p1 ≤ p0
  · have h1 := if_t c1 h0
    clear h0
    refine and_t (decide_eq_true c1) ?_
    refine and_t (decide_eq_true c1) ?_
    refine and_t (decide_eq_true c1) ?_
    refine And.intro rfl ?_
    refine and_t (decide_eq_true c1) ?_
    cases h1
    exact ⟨[], nod rfl, all_lt rfl, blt_lt rfl, _, _, rfl, rfl, rfl, rfl, rfl, rfl⟩
  · have h2 := if_f c1 h0
    clear h0
    refine and_f (decide_eq_false c1) ?_
    refine and_f (decide_eq_false c1) ?_
    refine and_f (decide_eq_false c1) ?_
    refine and_f (decide_eq_false c1) ?_
    cases h2
    exact ⟨[], nod rfl, all_lt rfl, blt_lt rfl, _, _, rfl, rfl, rfl, rfl, rfl, rfl⟩
end Go.Vm
end
section
set_option maxRecDepth 4000
set_option maxHeartbeats 1000000
namespace Go.Vm
open Go.Proofs
/- loop.example/g00300/spec.l15Begins -/
def s_l15Begins.code : MC :=
 (.seq
  (.keep [0, 1] (.reg [⟨(some 4), none, .mov (.v (.d (.bool false)))⟩]))
  (.norm (.cut
   (.seq
    (.keep [0, 1, 7, 8] (.reg [⟨(some 6), none, .mov (.t 0)⟩, ⟨(some 7), none, .len (.t 6)⟩, ⟨(some 8), none, .mov (.v (.d (.int .i64 0)))⟩]))
    (.norm (.block 0
     (.loop
      (.seq
       (.keep [0, 1, 7, 8, 9] (.reg [⟨(some 9), none, .bin true .lss (.t 8) (.t 7)⟩]))
       (.seq
        (.cond (.t 9)
         .skip
         (.exit 0))
        (.seq
         (.block 1
          (.seq
           (.keep [0, 1, 5, 7, 8] (.reg [⟨(some 10), none, .mov (.t 8)⟩, ⟨(some 5), none, .mov (.t 10)⟩]))
           (.norm (.cut
            (.keep [0, 1, 7, 8, 25] (.draw (.take 0 ⟨(some 11), none, .mov (.t 5)⟩ (.take 1 ⟨(some 12), none, .mov (.t 1)⟩ (.take 2 ⟨(some 13), none, .len (.t 12)⟩ (.take 3 ⟨(some 14), none, .bin true .geq (.t 11) (.t 13)⟩ (.take 4 ⟨(some 15), none, .mov (.t 14)⟩ (.take 5 ⟨(some 16), (some (15, false)), .mov (.t 0)⟩ (.take 6 ⟨(some 17), (some (15, false)), .mov (.t 5)⟩ (.take 7 ⟨(some 18), (some (15, false)), .idx 1 (.t 16) (.t 17)⟩ (.take 8 ⟨(some 19), (some (15, false)), .load false 1 (.t 18)⟩ (.take 9 ⟨(some 20), (some (15, false)), .mov (.t 1)⟩ (.nrm (.take 10 ⟨(some 21), (some (15, false)), .mov (.t 5)⟩ (.take 11 ⟨(some 22), (some (15, false)), .idx 1 (.t 20) (.t 21)⟩ (.take 12 ⟨(some 23), (some (15, false)), .load false 1 (.t 22)⟩ (.take 13 ⟨(some 24), (some (15, false)), .bin false .neq (.t 19) (.t 23)⟩ (.take 14 ⟨(some 25), none, .pick (.t 15) (.v (.d (.bool true))) (.t 24)⟩ .done))))))))))))))))))
            (.cond (.t 25)
             (.seq
              (.keep [4] (.reg [⟨(some 4), none, .mov (.v (.d (.bool false)))⟩]))
              .ret)
             .skip)))))
         (.keep [0, 1, 7, 8] (.reg [⟨(some 26), none, .bin true .add (.t 8) (.v (.d (.int .i64 1)))⟩, ⟨(some 8), none, .mov (.t 26)⟩])))))))))
   (.seq
    (.keep [4] (.reg [⟨(some 4), none, .mov (.v (.d (.bool true)))⟩]))
    .ret))))
theorem s_l15Begins.chk : chkFn Try.prog 62 2 s_l15Begins.code [.tmp 4] = true := by kernel_rfl
def s_l15Begins.j3 : Option Bool :=
  some true
def s_l15Begins.J3 : St :=
  lit [] [] []
def s_l15Begins.j2 (i1 : Nat) (nx1 : Nat → Option (Sum Bool Unit)) (x25_2 : Bool) : Option (Sum Bool Unit) :=
  if x25_2 = true then (some (.inl false)) else (nx1 (i1 + 1))
def s_l15Begins.J2 (p0 : (List (List UInt8))) (p1 : (List (List UInt8))) (i1 : Nat) (x25_2 : Bool) : St :=
  lit [(0, .d (.sl (p0.map encS))), (1, .d (.sl (p1.map encS))), (7, .d (.int .i64 (p0.length : Int))), (8, .d (.int .i64 (i1 : Int))), (25, .d (.bool x25_2))] [] []
def s_l15Begins.l1 (p1 : (List (List UInt8))) : List (List UInt8) → Nat → Option (Sum Bool Unit)
  | [], i1 => some (.inr ())
  | y1 :: ys, i1 => if (p1.length : Int) ≤ (i1 : Int) then (s_l15Begins.j2 i1 (s_l15Begins.l1 p1 ys) true) else ((ix p1 (i1 : Int)).bind fun xv22 => s_l15Begins.j2 i1 (s_l15Begins.l1 p1 ys) (!(decide (y1 = xv22))))
def s_l15Begins.S1 (p0 : (List (List UInt8))) (p1 : (List (List UInt8))) (i1 : Nat) : St :=
  lit [(0, .d (.sl (p0.map encS))), (1, .d (.sl (p1.map encS))), (7, .d (.int .i64 (p0.length : Int))), (8, .d (.int .i64 (i1 : Int)))] [] []
def s_l15Begins.O1 (o1 : Unit) : St :=
  lit [] [] []
def s_l15Begins (p0 : (List (List UInt8))) (p1 : (List (List UInt8))) : Option (Bool) :=
  (guardP ((p0.length : Int) < 4611686018427387904)).bind fun _ => (s_l15Begins.l1 p1 p0 0).bind fun w1 => aft w1 fun o1 => s_l15Begins.j3
theorem s_l15Begins.ok (p0 : (List (List UInt8))) (p1 : (List (List UInt8))) (r : Bool) (h0 : s_l15Begins p0 p1 = some r) : ACall Try.prog 62 [.d (.sl (p0.map encS)), .d (.sl (p1.map encS))] [] [] (fun v ob oa na => v = .d (.bool r) ∧ ob = [] ∧ oa = [] ∧ na = []) := by
  refine wFn_ok s_l15Begins.chk rfl ?_
  unfold s_l15Begins at h0
  refine ⟨lit [(0, .d (.sl (p0.map encS))), (1, .d (.sl (p1.map encS)))] [] [], (le_lit (And.intro (ve rfl) (And.intro (ve rfl) trivial)) trivial trivial), ?_⟩
  refine ⟨{ g : Unit // s_l15Begins.j3 = some r }, fun g => s_l15Begins.J3, ?_, ?_⟩
  · skip
    refine ⟨_, map_len _, ?_⟩
    refine ⟨lit [(0, .d (.sl (p0.map encS))), (1, .d (.sl (p1.map encS))), (7, .d (.int .i64 (p0.length : Int))), (8, .d (.int .i64 0))] [] [], (le_lit (And.intro (ve rfl) (And.intro (ve rfl) (And.intro (ve rfl) (And.intro (ve rfl) trivial)))) trivial trivial), ?_⟩
    obtain ⟨_, g1, h1⟩ := bind_some h0
    have q1 := guardP_some g1
    clear h0 g1
    obtain ⟨w1, e1, h2⟩ := bind_some h1
    clear h1
    refine ⟨{ g : Nat // g ≤ p0.length ∧ s_l15Begins.l1 p1 (p0.drop g) g = some w1 }, fun g => s_l15Begins.S1 p0 p1 g.1, fun g => p0.length - g.1, ⟨0, Nat.zero_le _, e1⟩, (le_lit (And.intro (ve rfl) (And.intro (ve rfl) (And.intro (ve rfl) (And.intro (ve rfl) trivial)))) trivial trivial), ?_⟩
    rintro ⟨i1, le1, h3⟩
    change s_l15Begins.l1 p1 (p0.drop i1) i1 = some w1 at h3
    change wMC _ _ _ (s_l15Begins.S1 p0 p1 i1)
    by_cases ci1 : i1 < p0.length
    · obtain ⟨y1, ey1, di1⟩ := drop_cons ci1
      rw [di1, s_l15Begins.l1] at h3
      have ri1 := range_inR (Int.ofNat_lt.mpr ci1) q1
      refine And.intro rfl ?_
      refine and_t (decide_eq_true (Int.ofNat_lt.mpr ci1)) ?_
      refine ⟨lit [(0, .d (.sl (p0.map encS))), (1, .d (.sl (p1.map encS))), (5, .d (.int .i64 (i1 : Int))), (7, .d (.int .i64 (p0.length : Int))), (8, .d (.int .i64 (i1 : Int)))] [] [], (le_lit (And.intro (ve rfl) (And.intro (ve rfl) (And.intro (ve rfl) (And.intro (ve rfl) (And.intro (ve rfl) trivial))))) trivial trivial), ?_⟩
      refine ⟨{ g : Bool // s_l15Begins.j2 i1 (s_l15Begins.l1 p1 (p0.drop (i1 + 1))) g = some w1 }, fun g => s_l15Begins.J2 p0 p1 i1 g.1, ?_, ?_⟩
      · skip
        refine ⟨_, map_len _, ?_⟩
        refine And.intro rfl ?_
        by_cases c1 : (p1.length : Int) ≤ (i1 : Int)
        · have h4 := if_t c1 h3
          clear h3
          refine and_t' (decide_eq_true c1) ?_
          refine and_t' (decide_eq_true c1) ?_
          refine and_t' (decide_eq_true c1) ?_
          refine and_t' (decide_eq_true c1) ?_
          refine and_t' (decide_eq_true c1) ?_
          refine ⟨lit [(0, .d (.sl (p0.map encS))), (1, .d (.sl (p1.map encS))), (5, .d (.int .i64 (i1 : Int))), (7, .d (.int .i64 (p0.length : Int))), (8, .d (.int .i64 (i1 : Int))), (15, .d (.bool (decide ((p1.length : Int) ≤ (i1 : Int))))), (19, .tup []), (20, .tup [])] [] [], (le_lit (And.intro (ve rfl) (And.intro (ve rfl) (And.intro (ve rfl) (And.intro (ve rfl) (And.intro (ve rfl) (And.intro (ve rfl) (And.intro (ve rfl) (And.intro (ve rfl) trivial)))))))) trivial trivial), ?_⟩
          refine and_t' (decide_eq_true c1) ?_
          refine and_t' (decide_eq_true c1) ?_
          refine and_t' (decide_eq_true c1) ?_
          refine and_t' (decide_eq_true c1) ?_
          refine and_t (decide_eq_true c1) ?_
          exact ⟨⟨_, h4⟩, (le_lit (And.intro (ve rfl) (And.intro (ve rfl) (And.intro (ve rfl) (And.intro (ve rfl) (And.intro (ve rfl) trivial))))) trivial trivial)⟩
        · have h5 := if_f c1 h3
          clear h3
          refine and_f' (decide_eq_false c1) ?_
          refine and_f' (decide_eq_false c1) ?_
          refine and_f' (decide_eq_false c1) ?_
          refine And.intro (Int.natCast_nonneg _) ⟨_, map_get ey1, rfl, ?_⟩
          refine and_f' (decide_eq_false c1) ?_
          refine and_f' (decide_eq_false c1) ?_
          refine ⟨lit [(0, .d (.sl (p0.map encS))), (1, .d (.sl (p1.map encS))), (5, .d (.int .i64 (i1 : Int))), (7, .d (.int .i64 (p0.length : Int))), (8, .d (.int .i64 (i1 : Int))), (15, .d (.bool (decide ((p1.length : Int) ≤ (i1 : Int))))), (19, .d (.str y1)), (20, .d (.sl (p1.map encS)))] [] [], (le_lit (And.intro (ve rfl) (And.intro (ve rfl) (And.intro (ve rfl) (And.intro (ve rfl) (And.intro (ve rfl) (And.intro (ve rfl) (And.intro (ve rfl) (And.intro (ve rfl) trivial)))))))) trivial trivial), ?_⟩
          refine and_f' (decide_eq_false c1) ?_
          obtain ⟨xv22, exv22, h6⟩ := bind_some h5
          clear h5
          obtain ⟨av22, exv22⟩ := ix_some exv22
          refine and_f' (decide_eq_false c1) ?_
          refine And.intro av22 ⟨_, map_get exv22, rfl, ?_⟩
          refine and_f' (decide_eq_false c1) ?_
          refine and_f' (decide_eq_false c1) ?_
          refine and_f (decide_eq_false c1) ?_
          exact ⟨⟨_, h6⟩, (le_lit (And.intro (ve rfl) (And.intro (ve rfl) (And.intro (ve rfl) (And.intro (ve rfl) (And.intro (ve rfl) trivial))))) trivial trivial)⟩
      · rintro ⟨x25_2, h7⟩
        change s_l15Begins.j2 i1 (s_l15Begins.l1 p1 (p0.drop (i1 + 1))) x25_2 = some w1 at h7
        change wMC _ _ _ (s_l15Begins.J2 p0 p1 i1 x25_2)
        unfold s_l15Begins.j2 at h7
        clear h3
        by_cases c2 : x25_2 = true
        · have h8 := if_t c2 h7
          clear h7
          refine and_t c2 ?_
          cases h8
          obtain rfl := aft_inl h2
          exact ⟨[], nod rfl, all_lt rfl, blt_lt rfl, _, _, rfl, rfl, rfl, rfl, rfl, rfl⟩
        · have h9 := if_f c2 h7
          clear h7
          refine and_f (ne_t c2) ?_
          refine And.intro rfl ?_
          refine ⟨((i1 + 1 : Nat) : Int), rfl, fun _ => ri1, ?_⟩
          exact ⟨⟨i1 + 1, ci1, h9⟩, (le_lit (And.intro (ve rfl) (And.intro (ve rfl) (And.intro (ve rfl) (And.intro (ve rfl) trivial)))) trivial trivial), Nat.sub_lt_sub_left ci1 (Nat.lt_succ_self _)⟩
    · rw [drop_nil ci1, s_l15Begins.l1] at h3
      refine And.intro rfl ?_
      refine and_f (decide_eq_false (fun hh => ci1 (Int.ofNat_lt.mp hh))) ?_
      cases h3
      have h10 := aft_inr h2
      exact ⟨⟨(), h10⟩, (le_lit trivial trivial trivial)⟩
  · rintro ⟨⟨⟩, h11⟩
    change s_l15Begins.j3 = some r at h11
    change wMC _ _ _ (s_l15Begins.J3)
    unfold s_l15Begins.j3 at h11
    clear h0
    cases h11
    exact ⟨[], nod rfl, all_lt rfl, blt_lt rfl, _, _, rfl, rfl, rfl, rfl, rfl, rfl⟩
end Go.Vm
end
