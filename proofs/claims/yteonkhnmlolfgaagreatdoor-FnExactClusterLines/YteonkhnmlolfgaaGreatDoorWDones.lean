/- Texts for the law FnExactClusterLines: WDones. No conditions. -/
import Derived.Test.YteonkhnmlolfgaaGreatDoorWIn
import Derived.Shelf.Strings.OnBuilder
import Derived.Lib.Walk

set_option maxRecDepth 100000
namespace Go.Proofs.YteonkhnmlolfgaaGreatDoor
open Go.Sx
def lays156_ren : Go.Shelf.Ren := ⟨fun | 156 => 98 | 165 => 112 | 166 => 113 | 169 => 114 | 240 => 123 | 241 => 124 | 276 => 132 | 277 => 133 | n => n, fun | 31 => 32 | 9 => 9 | 3 => 3 | 4 => 4 | 0 => 0 | 20 => 20 | 72 => 170 | 76 => 174 | 70 => 168 | 37 => 119 | 75 => 173 | 127 => 183 | 164 => 191 | 5 => 5 | 80 => 176 | n => n, fun | n => n⟩
theorem lays156 : Go.Proofs.Lays.n156 Tryz.prog lays156_ren := {
  mixed := by kernel_rfl,
  f156 := Tryz.func98.trans (congrArg some (by kernel_rfl)),
  f165 := Tryz.func112.trans (congrArg some (by kernel_rfl)),
  f166 := Tryz.func113.trans (congrArg some (by kernel_rfl)),
  f169 := Tryz.func114.trans (congrArg some (by kernel_rfl)),
  f240 := Tryz.func123.trans (congrArg some (by kernel_rfl)),
  f241 := Tryz.func124.trans (congrArg some (by kernel_rfl)),
  f276 := Tryz.func132.trans (congrArg some (by kernel_rfl)),
  f277 := Tryz.func133.trans (congrArg some (by kernel_rfl)),
  t0 := Tryz.underlying0,
  a0 := Tryz.isAgg0,
  z0 := Tryz.sizeOf0,
  v0 := Tryz.zeroValue0,
  t3 := Tryz.underlying3,
  a3 := Tryz.isAgg3,
  z3 := Tryz.sizeOf3,
  v3 := Tryz.zeroValue3,
  t4 := Tryz.underlying4,
  a4 := Tryz.isAgg4,
  z4 := Tryz.sizeOf4,
  v4 := Tryz.zeroValue4,
  t9 := Tryz.underlying9,
  a9 := Tryz.isAgg9,
  z9 := Tryz.sizeOf9,
  v9 := Tryz.zeroValue9,
  t20 := Tryz.underlying20,
  a20 := Tryz.isAgg20,
  z20 := Tryz.sizeOf20,
  v20 := Tryz.zeroValue20,
  t31 := Tryz.underlying32,
  a31 := Tryz.isAgg32,
  z31 := Tryz.sizeOf32,
  v31 := Tryz.zeroValue32,
  t37 := Tryz.underlying119,
  a37 := Tryz.isAgg119,
  z37 := Tryz.sizeOf119,
  v37 := Tryz.zeroValue119,
  t70 := Tryz.underlying168,
  a70 := Tryz.isAgg168,
  z70 := Tryz.sizeOf168,
  v70 := Tryz.zeroValue168,
  t72 := Tryz.underlying170,
  a72 := Tryz.isAgg170,
  z72 := Tryz.sizeOf170,
  v72 := Tryz.zeroValue170,
  t75 := Tryz.underlying173,
  a75 := Tryz.isAgg173,
  z75 := Tryz.sizeOf173,
  v75 := Tryz.zeroValue173,
  t76 := Tryz.underlying174,
  a76 := Tryz.isAgg174,
  z76 := Tryz.sizeOf174,
  v76 := Tryz.zeroValue174,
  t127 := Tryz.underlying183,
  a127 := Tryz.isAgg183,
  z127 := Tryz.sizeOf183,
  v127 := Tryz.zeroValue183,
  t164 := Tryz.underlying191,
  a164 := Tryz.isAgg191,
  z164 := Tryz.sizeOf191,
  v164 := Tryz.zeroValue191 }

def laysB_ren : Go.Shelf.Ren := ⟨fun | 156 => 98 | 165 => 112 | 166 => 113 | 169 => 114 | 240 => 123 | 241 => 124 | 276 => 132 | 277 => 133 | n => n, fun | 31 => 32 | 9 => 9 | 3 => 3 | 4 => 4 | 0 => 0 | 20 => 20 | 72 => 170 | 76 => 174 | 70 => 168 | 37 => 119 | 75 => 173 | 127 => 183 | 164 => 191 | 5 => 5 | 80 => 176 | n => n, fun | n => n⟩
theorem laysB : Go.Proofs.Builder.Extra Tryz.prog laysB_ren := {
  sizeBuilder := by kernel_rfl,
  liesBuilder := by kernel_rfl,
  t5 := Tryz.underlying5,
  a5 := Tryz.isAgg5,
  z5 := Tryz.sizeOf5,
  v5 := Tryz.zeroValue5,
  infoByte := by kernel_rfl,
  cellsByte := by kernel_rfl,
  sizeByte := by kernel_rfl,
  neB5 := by decide }

theorem dones_le_w (x : GWorker) : x.dones.length ≤ x.w := by simp only [GWorker.w]; omega
theorem three_le_w (x : GWorker) : x.queue.length + x.staged.length + x.inputs.length ≤ x.w := by simp only [GWorker.w]; omega
def doneT (d : GDone) : ByteArray := if d.capped then dec d.epoch ++ (⟨#[33]⟩ : ByteArray) else dec d.epoch
theorem doneT_size {d : GDone} (o : d.ok) : (doneT d).size ≤ 22 := by
  have h := dec_size (show inR .i64 d.epoch from o)
  unfold doneT
  split
  · rw [ByteArray.size_append]; have : ((⟨#[33]⟩ : ByteArray)).size = 1 := rfl; omega
  · omega
def doneTs (l : List GDone) : List ByteArray := l.map doneT
theorem doneTs_snoc (l : List GDone) (k : Nat) (h : k < l.length) : doneTs (l.take (k + 1)) = doneTs (l.take k) ++ [doneT (l.getD k default)] := map_take _ _ _ h
theorem joinD_succ (l : List GDone) (k : Nat) (h : k < l.length) : joinB (doneTs (l.take (k + 1))) = if k = 0 then doneT (l.getD k default) else joinB (doneTs (l.take k)) ++ (⟨#[32]⟩ : ByteArray) ++ doneT (l.getD k default) := by
  rw [doneTs_snoc l k h]
  split
  · rename_i e; subst e; exact joinB_one _
  · rename_i e
    exact joinB_snoc _ _ (by
      intro h0
      have := congrArg List.length h0
      rw [doneTs, List.length_map, List.length_take] at this
      simp only [List.length_nil] at this
      omega)
theorem joinD_next (l : List GDone) (k : Nat) (h : k < l.length) : joinB (doneTs (l.take (k + 1))) = (if 0 < k then joinB (doneTs (l.take k)) ++ (⟨#[32]⟩ : ByteArray) else joinB (doneTs (l.take k))) ++ doneT (l.getD k default) := by
  rw [joinD_succ l k h]
  by_cases e : k = 0
  · subst e
    rw [if_pos rfl, if_neg (by omega)]
    exact (ByteArray.empty_append).symm
  · rw [if_neg e, if_pos (by omega)]
theorem joinD_size (l : List GDone) (ho : ∀ d ∈ l, d.ok) (k : Nat) (hk : k ≤ l.length) : (joinB (doneTs (l.take k))).size ≤ 23 * k := by
  induction k with
  | zero => exact Nat.le_refl _
  | succ k ih =>
    have hd := doneT_size (ho _ (getD_mem (d := default) (show k < l.length by omega)))
    have := ih (by omega)
    rw [joinD_succ l k (by omega)]
    split
    · omega
    · rw [ByteArray.size_append, ByteArray.size_append]
      have h1 : ((⟨#[32]⟩ : ByteArray)).size = 1 := rfl
      omega
theorem lt_cell {w : World} {a : Addr} {v : Value} (h : w.cell? a = some v) : a.block < w.heap.size := by
  by_cases hl : a.block < w.heap.size
  · exact hl
  · exfalso
    unfold World.cell? at h
    rw [Array.getElem?_eq_none (by omega)] at h
    simp at h
theorem joinT (xs : List ByteArray) (hx : xs.length ≤ 1048576) (hs : (joinB xs).size ≤ 140737488355328) : Meets Tryz.prog 98 [.one (sStr xs), .one (vs (⟨#[32]⟩ : ByteArray))] [.one (vs (joinB xs))] := by
  refine ⟨⟨_, Tryz.func98, by decide, rfl⟩, fun w vals hl hv => ?_⟩
  match vals, hl with
  | [v, u], _ =>
    have h1 : u = .string (⟨#[32]⟩ : ByteArray) := rep_val (A := fun _ => False) (hv 1 _ rfl)
    have h0 : Rep w (fun _ => False) (sStr xs) v := hv 0 _ rfl
    subst h1
    rcases rep_str h0 with ⟨a, c, rfl, rfl⟩ | ⟨b, o, c, rfl, hc, hcells⟩
    · refine (Any.strings_Join_none lays156 laysB a c (⟨#[32]⟩ : ByteArray) w).mono ?_
      rintro e w' ⟨rfl, rfl⟩
      exact gives_one (Go.RowKit.Below.refl _ _) rfl
    · by_cases hn : xs = []
      · subst hn
        refine (Any.strings_Join_none lays156 laysB _ c (⟨#[32]⟩ : ByteArray) w).mono ?_
        rintro e w' ⟨rfl, rfl⟩
        exact gives_one (Go.RowKit.Below.refl _ _) rfl
      · have hb : b < w.heap.size := by
          obtain ⟨x, r, rfl⟩ := List.exists_cons_of_ne_nil hn
          exact lt_cell (hcells 0 x rfl)
        refine (Any.strings_Join lays156 laysB b o c xs (⟨#[32]⟩ : ByteArray) w hcells hb (by omega) hc (by rw [joinB, bsz, List.size_toArray] at hs; exact hs)).mono ?_
        rintro e w' ⟨rfl, hw⟩
        exact gives_one hw rfl

theorem specDonesText (x : GWorker) (ox : x.ok) (hx : x.w ≤ 1048576) : Meets Tryz.prog 71 [.agg x.c] [.one (vs (joinB (doneTs x.dones)))] := by
  have hl : x.dones.length ≤ 1048576 := Nat.le_trans (dones_le_w x) hx
  have ho : ∀ d ∈ x.dones, d.ok := ox.2.2.2.2.2.2.2.2
  refine enterW tbl_ok false Tryz.func71 rfl (by decide) fun W => ?_
  conv => whnf
  refine loopW tbl_ok false [] (fun k : Nat => [(3, .c (vs (joinB (doneTs (x.dones.take k))))), (4, .c (vi k))]) (fun k => [⟨0, [.c (sGRecord x.queue), .c (sGRecord x.staged), .c (sGRecord x.inputs), .c (sGCell x.cells), .c (sInt x.sums), .c (sBool x.black), .c (sBool x.caps), .c (sGDone x.dones)]⟩]) (fun k => [])
    (fun k => k ≤ x.dones.length) (fun k => x.dones.length - k) 0 (Nat.zero_le _) ⟨by first | rfl | simp [nth, ren2, ren1, ren0], by first | rfl | simp [nth, ren2, ren1, ren0], trivial⟩ (by repeat' (first | exact trivial | exact rfl | refine ⟨?_, ?_⟩)) trivial (by first | exact trivial | exact ⟨rfl, trivial⟩ | repeat' (first | exact trivial | exact rfl | refine ⟨?_, ?_⟩)) (by kernel_rfl) (fun k hk => ?_)
  conv => whnf
  refine ⟨fun h' => have h' := of_decide_eq_true h'; ?_, fun h' => have h' := of_decide_eq_false h'; ?_⟩ <;> conv => whnf
  · have h' : k < x.dones.length := by omega
    have hs := joinD_size x.dones ho k (by omega)
    have od : inR .i64 (x.dones.getD k default).epoch := ho _ (getD_mem (d := default) h')
    have hd := dec_size od
    have hj := joinD_next x.dones k h'
    repeat' (first | (refine auf ?_; conv => whnf) | (refine aut ?_; conv => whnf) | (refine ⟨fun h => ?_, fun h => ?_⟩ <;> conv => whnf) | (refine callR (specDecimal _ od) rfl (go tbl_ok false ?_); conv => whnf) | (refine needF ?_; conv => whnf) | fail)
    all_goals
      refine loopE [] (k + 1) (by omega) (by omega) ⟨congrArg (fun z => AV.c (vs z)) (by rw [hj, doneT]; clear hj hs; simp_all [ByteArray.append_assoc]), rfl, trivial⟩ trivial (by repeat' (first | exact trivial | exact rfl | refine ⟨?_, ?_⟩)) (by kernel_rfl) (by first | exact trivial | exact ⟨rfl, trivial⟩ | repeat' (first | exact trivial | exact rfl | refine ⟨?_, ?_⟩)) (by kernel_rfl)
  · have e : k = x.dones.length := by omega
    exact retW tbl_ok rfl rfl ⟨congrArg vs (by rw [e, List.take_length]), trivial⟩
theorem joinD_full (x : GWorker) (ox : x.ok) (hx : x.w ≤ 1048576) : (joinB (doneTs x.dones)).size ≤ 24117248 := by
  have hl : x.dones.length ≤ 1048576 := Nat.le_trans (dones_le_w x) hx
  have h := joinD_size x.dones ox.2.2.2.2.2.2.2.2 x.dones.length (Nat.le_refl _)
  rw [List.take_length] at h
  omega
theorem implDonesText (x : GWorker) (ox : x.ok) (hx : x.w ≤ 1048576) : MeetsT Tryz.prog Tab 73 [.agg x.c] [.one (vs (joinB (doneTs x.dones)))] := by
  have hl : x.dones.length ≤ 1048576 := Nat.le_trans (dones_le_w x) hx
  have ho : ∀ d ∈ x.dones, d.ok := ox.2.2.2.2.2.2.2.2
  have hf := joinD_full x ox hx
  refine enterT tbl_ok false Tryz.func73 rfl (by decide) fun W hW => ?_
  conv => whnf
  refine nilW 3 1 (fun i => (fun b => [vs b]) (([] : List ByteArray).getD i default)) rfl ?_
  refine loopW tbl_ok false [] (fun k : Nat => [(10, .c (vi k))]) (fun k => [⟨0, [.c (sGRecord x.queue), .c (sGRecord x.staged), .c (sGRecord x.inputs), .c (sGCell x.cells), .c (sInt x.sums), .c (sBool x.black), .c (sBool x.caps), .c (sGDone x.dones)]⟩]) (fun k => [⟨1, sStr (doneTs (x.dones.take k))⟩])
    (fun k => k ≤ x.dones.length) (fun k => x.dones.length - k) 0 (Nat.zero_le _) ⟨by first | rfl | simp [nth, ren2, ren1, ren0], trivial⟩ (by repeat' (first | exact trivial | exact rfl | refine ⟨?_, ?_⟩)) ⟨by first | rfl | exact (congrArg (fun l => slC _ _ l) (List.append_nil _)).symm | (show (_ : Cell) = _; simp) | simp, trivial⟩ (by first | exact trivial | exact ⟨rfl, trivial⟩ | repeat' (first | exact trivial | exact rfl | refine ⟨?_, ?_⟩)) (by kernel_rfl) (fun k hk => ?_)
  conv => whnf
  refine ⟨fun h' => have h' := of_decide_eq_true h'; ?_, fun h' => have h' := of_decide_eq_false h'; ?_⟩ <;> conv => whnf
  · have h' : k < x.dones.length := by omega
    have od : inR .i64 (x.dones.getD k default).epoch := ho _ (getD_mem (d := default) h')
    have hd := dec_size od
    have hj := doneTs_snoc x.dones k h'
    have hlen : (doneTs (x.dones.take k)).length ≤ k := by simp [doneTs]; omega
    (repeat (refine need1 ?_; conv => whnf))
    refine callRT (implDecimal _ od) tabStays hW rfl (go tbl_ok false ?_)
    conv => whnf
    refine ⟨fun hc => ?_, fun hc => ?_⟩ <;> conv => whnf
    · have hc : (x.dones.getD k default).capped = true := hc
      (repeat (refine need1 ?_; conv => whnf))
      refine appW tbl_ok rfl rfl rfl rfl rfl rfl rfl rfl rfl rfl rfl (sStr (doneTs (x.dones.take k) ++ [dec (x.dones.getD k default).epoch ++ (⟨#[33]⟩ : ByteArray)])) (slC_snoc rfl) (by intro h; cases h) (by omega) (go tbl_ok false ?_)
      conv => whnf
      (repeat (refine need1 ?_; conv => whnf))
      refine loopE [(1, 4)] (k + 1) (by omega) (by omega) ⟨rfl, trivial⟩ ⟨congrArg sStr (by rw [hj, doneT, if_pos hc]), trivial⟩ (by repeat' (first | exact trivial | exact rfl | refine ⟨?_, ?_⟩)) (by kernel_rfl) (by first | exact trivial | exact ⟨rfl, trivial⟩ | repeat' (first | exact trivial | exact rfl | refine ⟨?_, ?_⟩)) (by kernel_rfl)
    · have hc : (x.dones.getD k default).capped = false := hc
      (repeat (refine need1 ?_; conv => whnf))
      refine appW tbl_ok rfl rfl rfl rfl rfl rfl rfl rfl rfl rfl rfl (sStr (doneTs (x.dones.take k) ++ [dec (x.dones.getD k default).epoch])) (slC_snoc rfl) (by intro h; cases h) (by omega) (go tbl_ok false ?_)
      conv => whnf
      (repeat (refine need1 ?_; conv => whnf))
      refine loopE [(1, 4)] (k + 1) (by omega) (by omega) ⟨rfl, trivial⟩ ⟨congrArg sStr (by rw [hj, doneT, if_neg (by rw [hc]; decide)]), trivial⟩ (by repeat' (first | exact trivial | exact rfl | refine ⟨?_, ?_⟩)) (by kernel_rfl) (by first | exact trivial | exact ⟨rfl, trivial⟩ | repeat' (first | exact trivial | exact rfl | refine ⟨?_, ?_⟩)) (by kernel_rfl)
  · have e : k = x.dones.length := by omega
    have e2 : x.dones.take k = x.dones := by rw [e, List.take_length]
    rw [e2]
    refine callR (joinT (doneTs x.dones) (by simp [doneTs]; omega) (by omega)) rfl (go tbl_ok false ?_)
    conv => whnf
    exact retW tbl_ok rfl rfl ⟨rfl, trivial⟩

end Go.Proofs.YteonkhnmlolfgaaGreatDoor
