/- WHAT IS PROVED: BookApart answers true whatever its input. No condition. -/
import Derived.Test.YtjcoeokmoibppaaWakes03
import Derived.Test.YtjcoeokmoibppaaClone
import Derived.Lib.Hide
import Derived.Deep.DeepCutAuto
namespace Go.Proofs.Ytjcoeokmoibppaa
open Go.RowKit

def newT : List UInt8 := [110, 101, 119, 44, 32, 97, 110, 100, 32, 108, 111, 110, 103, 101, 114, 32, 116, 104, 97, 110, 32, 97, 110, 121, 32, 111, 102, 32, 116, 104, 101, 32, 111, 116, 104, 101, 114, 115, 32, 119, 97, 115]
def othT : List UInt8 := [97, 110, 111, 116, 104, 101, 114, 32, 110, 101, 119, 32, 111, 110, 101, 44, 32, 108, 111, 110, 103, 101, 114, 32, 116, 104, 97, 110, 32, 97, 110, 121, 32, 111, 102, 32, 116, 104, 101, 32, 111, 116, 104, 101, 114, 115]
theorem newT_ne : newT ≠ othT := by decide
def newV : Array Value := #[.int .u8 110, .int .u8 101, .int .u8 119, .int .u8 44, .int .u8 32, .int .u8 97, .int .u8 110, .int .u8 100, .int .u8 32, .int .u8 108, .int .u8 111, .int .u8 110, .int .u8 103, .int .u8 101, .int .u8 114, .int .u8 32, .int .u8 116, .int .u8 104, .int .u8 97, .int .u8 110, .int .u8 32, .int .u8 97, .int .u8 110, .int .u8 121, .int .u8 32, .int .u8 111, .int .u8 102, .int .u8 32, .int .u8 116, .int .u8 104, .int .u8 101, .int .u8 32, .int .u8 111, .int .u8 116, .int .u8 104, .int .u8 101, .int .u8 114, .int .u8 115, .int .u8 32, .int .u8 119, .int .u8 97, .int .u8 115]
def othV : Array Value := #[.int .u8 97, .int .u8 110, .int .u8 111, .int .u8 116, .int .u8 104, .int .u8 101, .int .u8 114, .int .u8 32, .int .u8 110, .int .u8 101, .int .u8 119, .int .u8 32, .int .u8 111, .int .u8 110, .int .u8 101, .int .u8 44, .int .u8 32, .int .u8 108, .int .u8 111, .int .u8 110, .int .u8 103, .int .u8 101, .int .u8 114, .int .u8 32, .int .u8 116, .int .u8 104, .int .u8 97, .int .u8 110, .int .u8 32, .int .u8 97, .int .u8 110, .int .u8 121, .int .u8 32, .int .u8 111, .int .u8 102, .int .u8 32, .int .u8 116, .int .u8 104, .int .u8 101, .int .u8 32, .int .u8 111, .int .u8 116, .int .u8 104, .int .u8 101, .int .u8 114, .int .u8 115]
theorem newV_eq : newV.toList = newT.map byteV := by kernel_rfl
theorem othV_eq : othV.toList = othT.map byteV := by kernel_rfl
/-- the i-th signed text of BookApart -/
def apAt (p : Int) (ts : List (List UInt8)) (i : Nat) : Signed := ⟨p, (ts.getD i []).take 20 ++ [UInt8.ofNat i]⟩
def apL (p : Int) (ts : List (List UInt8)) (k : Nat) : List Signed := (List.range k).map (apAt p ts)
theorem apL_succ (p : Int) (ts : List (List UInt8)) (k : Nat) : apL p ts (k + 1) = apL p ts k ++ [apAt p ts k] := by simp [apL, List.range_succ]
theorem apL_len (p : Int) (ts : List (List UInt8)) (k : Nat) : (apL p ts k).length = k := by simp [apL]
theorem apAt_inj {p : Int} {ts : List (List UInt8)} {i j : Nat} (hi : i < 256) (hj : j < 256) (h : apAt p ts i = apAt p ts j) : i = j := by
  unfold apAt at h
  injection h with _ h
  have h1 := congrArg List.getLast? h
  simp at h1
  have h2 := congrArg UInt8.toNat h1
  simp at h2
  omega
theorem apAt_len (p : Int) (ts : List (List UInt8)) (i : Nat) : 1 ≤ (apAt p ts i).s.length ∧ (apAt p ts i).s.length ≤ 21 := by
  simp [apAt, List.length_take]; omega
theorem apL_new {p : Int} {ts : List (List UInt8)} {k : Nat} (hk : k < 256) : apAt p ts k ∉ apL p ts k := by
  intro h
  obtain ⟨i, hi, e⟩ := List.mem_map.1 h
  have hi' := List.mem_range.1 hi
  have := apAt_inj (by omega) hk e
  omega
theorem apL_short {p : Int} {ts : List (List UInt8)} {k : Nat} {s : List UInt8} (hs : s.length = 0 ∨ 21 < s.length) : (⟨p, s⟩ : Signed) ∉ apL p ts k := by
  intro h
  obtain ⟨i, _, e⟩ := List.mem_map.1 h
  have h1 := apAt_len p ts i
  have h2 := congrArg (fun x : Signed => x.s.length) e
  simp only at h2
  omega
theorem apL_mark {p : Int} {ts : List (List UInt8)} {i k : Nat} (hi : i < k) (hk : k < 256) : apAt p ts i ∈ apL p ts k ∧ markOf (apL p ts k) (apAt p ts i) = i + 1 := by
  have hmem : apAt p ts i ∈ apL p ts k := List.mem_map.2 ⟨i, List.mem_range.2 hi, rfl⟩
  refine ⟨hmem, ?_⟩
  have : (apL p ts k).idxOf? (apAt p ts i) = some i := by
    rw [List.idxOf?_eq_some_iff]
    refine ⟨by rw [apL_len]; exact hi, by simp [apL], fun j hj => ?_⟩
    simp only [apL, List.getElem_map, List.getElem_range]
    intro e
    have := apAt_inj (by omega) (by omega) e
    omega
  simp [markOf, this]
theorem rightB_none {l : List Signed} {p mk : Int} {s : List UInt8} (h : (⟨p, s⟩ : Signed) ∉ l) : rightB l p mk s = false := by
  unfold rightB
  rw [markOf_none h]
  simp

theorem infoBytes : (Try.prog.info? 27).map (fun i => (i.zero, i.size, i.bytes)) = some (some (.slice none 0 0), 1, 24) := by kernel_rfl

theorem apL_right {p : Int} {ts : List (List UInt8)} {i k : Nat} (hi : i < k) (hk : k < 256) (x : Signed) : rightB (apL p ts k ++ [x]) p ((i : Int) + 1) (apAt p ts i).s = true := by
  obtain ⟨h1, h2⟩ := apL_mark (p := p) (ts := ts) hi hk
  have h3 := markOf_app h1 [x]
  unfold rightB
  rw [show (⟨p, (apAt p ts i).s⟩ : Signed) = apAt p ts i from rfl, h3, h2]
  simp
/-- what the first loop keeps -/
structure ApRel (w1 : World) (pb mb : Nat) (p : Int) (ts : List (List UInt8)) (K k : Nat) (wr : World) (s8 : Value) (vs : List Value) : Prop where
  le : k ≤ K
  book : BookAt wr pb mb (apL p ts k)
  upd : Upd [mb] w1 wr
  txts : wr.ownsRow w1.heap.size 27 1 s8 k vs
  each : ∀ j, j < k → BytesAt wr (vs.getD j undef) (apAt p ts j).s ∧ ∀ b, (vs.getD j undef).ownBlock = some b → w1.heap.size ≤ b ∧ b < wr.heap.size ∧ s8.ownBlock ≠ some b

set_option maxRecDepth 100000 in
set_option maxHeartbeats 8000000 in
theorem apart_walk (w : World) (ta : Option Addr) (tc : Nat) (ts : List (List UInt8)) (p n : Int) (hts : TextsAt w (.slice ta ts.length tc) ts) (htl : ts.length ≤ 9223372036854775807)
    (hp : -9223372036854775808 ≤ p ∧ p ≤ 9223372036854775807) (hn : -9223372036854775808 ≤ n ∧ n ≤ 9223372036854775807) :
    Calls Try.prog 5 #[.slice ta ts.length tc, .int .i64 p, .int .i64 n] w fun e w' => e = .returned (.bool true) ∧ Below w.heap.size w w' := by
  obtain ⟨K, HK⟩ : ∃ K : Nat, Hid (K = min ts.length 8) := ⟨_, rfl⟩
  have hK1 : K ≤ ts.length := by have := HK.out; omega
  have hK3 : K ≤ 8 := by have := HK.out; omega
  go_enter Try.func5, Try.ntmps5
  go_wp2_with fail
  refine (new_any _).mono ?_
  rintro e w1 ⟨pb, mb, rfl, hbk, hu, hb1, hb2⟩
  have hbl := hbk.lt
  go_wp2_with fail
  go_loopw [8, 9] (fun s8 i wr => ∃ k : Nat, ∃ vs : List Value, i = .int .i64 k ∧ ApRel w1 pb mb p ts K k wr s8 vs) (fun _ i _ => K - (intOf i).toNat)
  case atStart => exact ⟨0, [], rfl, ⟨Nat.zero_le _, hbk, Upd.refl _ _, World.ownsRow_nil _ _ _ _, fun j hj => by omega⟩⟩
  case round =>
    obtain ⟨k, vs, rfl, hk, hbk', hu', ho8, hvs⟩ := hrel
    by_cases hlt : k < K
    ·
      have hlL := apL_len p ts k
      obtain ⟨tb, tof, tcc, heq, hcs⟩ := hts.some (by omega)
      simp only [Value.slice.injEq] at heq
      obtain ⟨rfl, _, rfl⟩ := heq
      obtain ⟨u, hcu, hbu⟩ := hcs k (by omega)
      have harg := ((hu.nil (E := [mb])).trans hu').args (by simp; omega)
      have hcu' := harg _ _ hcu
      have hbu' := hbu.mono harg
      clear hcs hcu hbu harg
      have hcut := cut_bytes wr u (ts.getD k []) 20 hbu' (by omega)
      have ht20 : ((ts.getD k []).take 20).length ≤ 20 := by rw [List.length_take]; omega
      have hat : (apAt p ts k).s = (ts.getD k []).take 20 ++ [UInt8.ofNat k] := rfl
      have hnew := apL_new (p := p) (ts := ts) (show k < 256 by omega)
      have HAT := Lib.hid hat
      have HNEW := Lib.hid hnew
      have HLL := Lib.hid hlL
      clear hbu' hat hnew hlL
      generalize (ts.getD k []).take 20 = T at *
      go_wp2_with fail
      refine hcut.mono ?_
      clear hcut
      rintro e w2 ⟨v33, rfl, ho33, hu2⟩
      have hk8 : IntKind.u8.wrap (k : Int) = (k : Int) := by simp [IntKind.wrap, IntKind.signed, IntKind.bits]; omega
      have hl33 := ho33.lt
      obtain ⟨i3, hi3, hz1, hz2, hz3⟩ := info_parts infoU8
      obtain ⟨v10, W3, hr1, ho10, hg1, hn1⟩ := append_own (P := Try.prog) (w2.alloc (.cells #[.int .u8 (k : Int)] 5)) wr.heap.size 27 27 5 i3 _ 1 1 Try.underlying27 hi3 hz1 hz2 hz3 rfl (by decide) v33 T.length _ (ho33.alloc _)
        ⟨w2.heap.size, 0, none⟩ 1 1 [.int .u8 (k : Int)] rfl (fun j u hj => by
          rw [Addr.add_lit, cell_of_heap (heap_alloc_at _ _)]; simpa using hj) (by simp [Value.oneCell']) (by unfold maxLen; omega) (by omega) (by have := hu2.size; simp; omega)
      have e10 : T.map byteV ++ [Value.int .u8 (k : Int)] = (T ++ [UInt8.ofNat k]).map byteV := by
        simp [byteV]; omega
      rw [e10, ← HAT.out] at ho10
      clear e10
      have hb10 := ownsRow_bytes ho10
      obtain ⟨a10, c10, hv10⟩ := hb10.len
      subst hv10
      have hl10 := ho10.lt
      have huA : Upd [] wr W3 := (hu2.alloc _).grown hg1 (fun b hb => Or.inl (hl33 b hb).1)
      have hbk3 := hbk'.upd huA (by simp) (by simp)
      go_wp2_with (at_builtin; refine wpList_append_run rfl _ _ _ rfl hr1 rfl rfl rfl ?_)
      clear hr1
      refine (sign_new _ pb mb _ p _ (apAt p ts k).s hbk3 hb10 HNEW.out (by rw [HLL.out]; omega)).mono ?_
      rw [HLL.out, show (⟨p, (apAt p ts k).s⟩ : Signed) = apAt p ts k from rfl, ← apL_succ]
      rintro e w4 ⟨rfl, hbk4, hu4⟩
      have hk1 : IntKind.i64.wrap ((k : Int) + 1) = (k : Int) + 1 := IntWalk.i64_in _ (by omega)
      obtain ⟨a8, c8, hv8⟩ := ownsRow_shape ho8
      subst hv8
      go_upto_region 12 with fail
      generalize hW : World.alloc _ _ = W5
      have hu5 : Upd [] w4 W5 := by rw [← hW]; exact (Upd.refl _ _).alloc _
      clear hW
      have hbk5 := hbk4.upd hu5 (by simp) (by simp)
      have huX : Upd [mb] wr W5 := huA.nil.trans (hu4.trans hu5.nil)
      have hl8 := ho8.lt
      have hwr1 := hu'.size
      have off8 : Off [mb] (.slice a8 k c8) := fun b hb => by have := hl8 b hb; simp; omega
      have ho8 := ownsRow_upd ho8 huX off8
      have off10 : Off [mb] (.slice a10 (apAt p ts k).s.length c10) := fun b hb => by have := hl10 b hb; simp; omega
      have hb105 := (hb10.upd hu4 off10).upd hu5 (by intro b _; simp)
      obtain ⟨i2, hi2, hy1, hy2, hy3⟩ := info_parts infoBytes
      obtain ⟨v8, W6, hr2, ho8', hg2, hn2⟩ := append_own (P := Try.prog) (W5.alloc (.cells #[.slice a10 (apAt p ts k).s.length c10] 27)) w1.heap.size 22 22 27 i2 _ 1 24 Try.underlying22 hi2 hy1 hy2 hy3 rfl (by decide) (.slice a8 k c8) k _ (ho8.alloc _)
        ⟨W5.heap.size, 0, none⟩ 1 1 [.slice a10 (apAt p ts k).s.length c10] rfl (fun j u hj => by
          rw [Addr.add_lit, cell_of_heap (heap_alloc_at _ _)]; simpa using hj) (by simp [Value.oneCell']) (by unfold maxLen; omega) (by omega) (by have := huX.size; simp; omega)
      have h56 : Upd ((Value.slice a8 k c8).ownBlock.toList) W5 W6 := ((Upd.refl _ _).alloc _).grown hg2 (fun b hb => Or.inr (by simp [hb]))
      have hu6 : Upd [mb] w1 W6 := ((hu'.trans huX).alloc _).grown hg2 (fun b hb => Or.inl (hl8 b hb).1)
      have hvl : vs.length = k := by simpa using ho8.1
      have hrel' : ApRel w1 pb mb p ts K (k + 1) W6 v8 (vs ++ [.slice a10 (apAt p ts k).s.length c10]) := by
        have e1 : ∀ b, b < w1.heap.size → b ∉ (Value.slice a8 k c8).ownBlock.toList := fun b hb hm => by simp only [Option.mem_toList] at hm; have := hl8 b hm; omega
        have hw56 := h56.size
        have hwX := huX.size
        refine ⟨by omega, hbk5.upd h56 (e1 _ hbl.1) (e1 _ hbl.2), hu6, ho8', ?_⟩
        have new8 : ∀ b, b < W5.heap.size → (Value.slice a8 k c8).ownBlock ≠ some b → v8.ownBlock ≠ some b := fun b hb h1 h2 => by
          rcases hn2 b h2 with h3 | h3
          · exact h1 h3
          · simp at h3; omega
        intro j hj
        by_cases hjk : j < k
        · have e : (vs ++ [Value.slice a10 (apAt p ts k).s.length c10]).getD j undef = vs.getD j undef := by
            simp [List.getD, List.getElem?_append_left (show j < vs.length by omega)]
          rw [e]
          obtain ⟨h1, h2⟩ := hvs j hjk
          have h3 : BytesAt W5 (vs.getD j undef) (apAt p ts j).s := h1.upd huX (fun b hb => by have := h2 b hb; simp; omega)
          refine ⟨h3.upd h56 (fun b hb hm => (h2 b hb).2.2 (by simpa using hm)), fun b hb => ?_⟩
          obtain ⟨h4, h5, h6⟩ := h2 b hb
          exact ⟨h4, by omega, new8 b (by omega) h6⟩
        · obtain rfl : j = k := by omega
          have e : (vs ++ [Value.slice a10 (apAt p ts j).s.length c10]).getD j undef = Value.slice a10 (apAt p ts j).s.length c10 := by
            simp [List.getD, hvl]
          rw [e]
          have h2 : ∀ b, (Value.slice a10 (apAt p ts j).s.length c10).ownBlock = some b → (Value.slice a8 j c8).ownBlock ≠ some b := fun b hb e => by have := (hl8 b e).2; have := (hl10 b hb).1; omega
          refine ⟨hb105.upd h56 (fun b hb hm => h2 b hb (by simpa using hm)), fun b hb => ?_⟩
          have h5 := hl10 b hb
          have h6 : b < W5.heap.size := by have := hu4.size; have := hu5.size; omega
          exact ⟨by omega, by omega, new8 b h6 (h2 b hb)⟩
      have HREL := Lib.hid hrel'
      clear hrel'
      go_wp2_with (at_builtin; refine wpList_append_run rfl _ _ _ rfl hr2 rfl rfl rfl ?_)
      exact ⟨⟨k + 1, vs ++ [.slice a10 (apAt p ts k).s.length c10], by go_num, HREL.out⟩, by simp [intOf]; omega⟩
    · obtain rfl : k = K := by omega
      clear hlt hk
      go_upto_region 6 with fail
      go_cut [26] (fun s wx => s = .bool false ∧ wx = wr)
      case first =>
        by_cases h1 : k < ts.length
        · have h3 : decide ((k : Int) < 8) = false := by have := HK.out; simp; omega
          go_wp2
          go_meet
          exact ⟨rfl, rfl⟩
        · go_wp2
          go_meet
          exact ⟨rfl, rfl⟩
      case rest =>
        obtain ⟨rfl, rfl⟩ := hcut
        obtain ⟨a8, c8, hv8⟩ := ownsRow_shape ho8
        subst hv8
        have hlL := apL_len p ts k
        have HLL := Lib.hid hlL
        clear hlL
        have hk1 : IntKind.i64.wrap ((k : Int) + 1) = (k : Int) + 1 := IntWalk.i64_in _ (by omega)
        go_wp2_with fail
        refine (clone_any wc pb mb _ hbk').mono ?_
        rintro e w2 ⟨pc, mc, rfl, hbc, hu2, hpc, hmc⟩
        have hbk2 := hbk'.upd hu2 (by simp) (by simp)
        have hbl2 := hbk'.lt
        have hbc2 := hbc.lt
        go_wp2_with fail
        refine (len_any w2 pc mc _ hbc).mono ?_
        rw [HLL.out]
        rintro e w3 ⟨rfl, rfl⟩
        have kc := fun (w : World) (C : Array Value) (n c : Nat) => Lib.run_convert_bytes_const (P := Try.prog) w 27 5 C n c Try.underlying27 Try.underlying5
        have hsn : ∀ (s : List UInt8), 21 < s.length → (⟨p, s⟩ : Signed) ∉ apL p ts k := fun s hs => apL_short (.inr hs)
        have HSN := Lib.hid hsn
        clear hsn
        go_wp2_with fail
        generalize hX : World.alloc _ _ = X1
        have hv1 : BytesAt X1 (.slice (some ⟨w2.heap.size, 0, none⟩) 42 42) newT := by rw [← hX]; exact bytes_new w2 newV _ _ newT newV_eq (by decide)
        have hx1 : Upd [] w2 X1 := by rw [← hX]; exact (Upd.refl _ _).alloc _
        clear hX
        have b1 := hbk2.upd hx1 (by simp) (by simp)
        have d1 := hbc.upd hx1 (by simp) (by simp)
        have hs1 := hx1.size
        refine (sign_new X1 pc mc _ p _ newT d1 hv1 (HSN.out newT (by decide)) (by rw [HLL.out]; omega)).mono ?_
        rw [HLL.out]
        rintro e w4 ⟨rfl, d4, hu4⟩
        have hs4 := hu4.size
        have b4 := b1.upd hu4 (by simp; omega) (by simp; omega)
        go_upto_region 17 with fail
        generalize hX : World.alloc _ _ = X4
        have hx4 : Upd [] w4 X4 := by rw [← hX]; exact (Upd.refl _ _).alloc _
        have c13 : X4.heap[w4.heap.size]? = some (.cells #[.int .i64 p, .int .i64 ((k : Int) + 1)] 30) := by rw [← hX]; exact heap_alloc_at _ _
        clear hX
        have b5 := b4.upd hx4 (by simp) (by simp)
        have d5 := d4.upd hx4 (by simp) (by simp)
        have hs5 := hx4.size
        go_wp2_with fail
        generalize hX : World.alloc _ _ = X5
        have hv5 : BytesAt X5 (.slice (some ⟨X4.heap.size, 0, none⟩) 46 46) othT := by rw [← hX]; exact bytes_new X4 othV _ _ othT othV_eq (by decide)
        have hx5 : Upd [] X4 X5 := by rw [← hX]; exact (Upd.refl _ _).alloc _
        clear hX
        have b6 := b5.upd hx5 (by simp) (by simp)
        have d6 := d5.upd hx5 (by simp) (by simp)
        have c13 := hx5.at c13 (by simp)
        have hs6 := hx5.size
        refine (sign_new X5 pb mb _ p _ othT b6 hv5 (HSN.out othT (by decide)) (by rw [HLL.out]; omega)).mono ?_
        rw [HLL.out]
        rintro e w6 ⟨rfl, b7, hu6⟩
        have hs7 := hu6.size
        have hd4 := d4.lt
        have d7 := d6.upd hu6 (by simp; omega) (by simp; omega)
        have c13 := hu6.at c13 (by simp; omega)
        go_upto_region 18 with fail
        generalize hX : World.alloc _ _ = X6
        have hx6 : Upd [] w6 X6 := by rw [← hX]; exact (Upd.refl _ _).alloc _
        have c14 : X6.heap[w6.heap.size]? = some (.cells #[.int .i64 p, .int .i64 ((k : Int) + 1)] 30) := by rw [← hX]; exact heap_alloc_at _ _
        clear hX
        have b8 := b7.upd hx6 (by simp) (by simp)
        have d8 := d7.upd hx6 (by simp) (by simp)
        have c13 := hx6.at c13 (by simp)
        have k1 : X6.cell? ⟨w4.heap.size, 0, none⟩ = some (.int .i64 p) := cell_of_heap c13 0
        have k2 : X6.cell? ⟨w4.heap.size, 1, none⟩ = some (.int .i64 ((k : Int) + 1)) := cell_of_heap c13 1
        have k3 : X6.cell? ⟨w6.heap.size, 0, none⟩ = some (.int .i64 p) := cell_of_heap c14 0
        have k4 : X6.cell? ⟨w6.heap.size, 1, none⟩ = some (.int .i64 ((k : Int) + 1)) := cell_of_heap c14 1
        go_wp2_with fail
        generalize hX : World.alloc _ _ = X7
        have hv7 : BytesAt X7 (.slice (some ⟨X6.heap.size, 0, none⟩) 42 42) newT := by rw [← hX]; exact bytes_new X6 newV _ _ newT newV_eq (by decide)
        have hx7 : Upd [] X6 X7 := by rw [← hX]; exact (Upd.refl _ _).alloc _
        clear hX
        have r7 : rightB (apL p ts k ++ [⟨p, othT⟩]) p ((k : Int) + 1) newT = false := rightB_none (by
          rw [List.mem_append]
          rintro (h | h)
          · exact HSN.out newT (by decide) h
          · simp at h; exact newT_ne h)
        have r8 : rightB (apL p ts k ++ [⟨p, newT⟩]) p ((k : Int) + 1) othT = false := rightB_none (by
          rw [List.mem_append]
          rintro (h | h)
          · exact HSN.out othT (by decide) h
          · simp at h; exact newT_ne h.symm)
        have HR7 := Lib.hid (r7 ▸ right_any X7 pb mb _ p ((k : Int) + 1) _ newT (b8.upd hx7 (by simp) (by simp)) hv7)
        have HR8 := Lib.hid r8
        clear r7 r8
        refine HR7.out.mono ?_
        rintro e w8 ⟨rfl, hu8⟩
        have k3 := hu8.cell (hx7.cell k3 (by simp)) (by simp)
        have k4 := hu8.cell (hx7.cell k4 (by simp)) (by simp)
        have b9 := (b8.upd hx7 (by simp) (by simp)).upd hu8 (by simp) (by simp)
        have d9 := (d8.upd hx7 (by simp) (by simp)).upd hu8 (by simp) (by simp)
        go_wp2_with fail
        generalize hX : World.alloc _ _ = X8
        have hv8 : BytesAt X8 (.slice (some ⟨w8.heap.size, 0, none⟩) 46 46) othT := by rw [← hX]; exact bytes_new w8 othV _ _ othT othV_eq (by decide)
        have hx8 : Upd [] w8 X8 := by rw [← hX]; exact (Upd.refl _ _).alloc _
        clear hX
        have HR9 := Lib.hid (HR8.out ▸ right_any X8 pc mc _ p ((k : Int) + 1) _ othT (d9.upd hx8 (by simp) (by simp)) hv8)
        refine HR9.out.mono ?_
        rintro e w9 ⟨rfl, hu9⟩
        have b10 := (b9.upd hx8 (by simp) (by simp)).upd hu9 (by simp) (by simp)
        have d10 := (d9.upd hx8 (by simp) (by simp)).upd hu9 (by simp) (by simp)
        have huT : Upd [mb, mc] wc w9 := (((((hu2.nil.trans hx1.nil).trans (hu4.mono (by simp))).trans hx4.nil).trans hx5.nil).trans (hu6.mono (by simp))).trans ((((hx6.nil.trans hx7.nil).trans hu8.nil).trans hx8.nil).trans hu9.nil)
        clear b1 d1 b4 d4 b5 d5 b6 d6 b7 d7 b8 d8 b9 d9 hx1 hu4 hx4 hx5 hu6 hx6 hx7 hu8 hx8 hu9 hv1 hv5 hv7 hv8 c13 c14 k1 k2 k3 k4 HR7 HR8 HR9
        go_wp2_with fail
        have hl8 := ho8.lt
        have hdl := d10.lt
        have ho8 := ownsRow_upd ho8 huT (fun b hb => by have := hl8 b hb; simp; omega)
        have hvs9 : ∀ j, j < k → BytesAt w9 (vs.getD j undef) (apAt p ts j).s := fun j hj => (hvs j hj).1.upd huT (fun b hb => by have := (hvs j hj).2 b hb; simp; omega)
        go_loopw [109] (fun i wx => ∃ m : Nat, m ≤ k ∧ i = .int .i64 m ∧ Upd [] w9 wx) (fun i _ => k - (intOf i).toNat)
        case atStart => exact ⟨0, Nat.zero_le _, rfl, Upd.refl _ _⟩
        case round =>
          obtain ⟨m, hm, rfl, hux⟩ := hrel
          by_cases hlt : m < k
          · obtain ⟨g8, cp8, h8, _, _, hc8, _⟩ := ownsRow_cell ho8 (by omega)
            simp only [Value.slice.injEq] at h8
            obtain ⟨rfl, _, rfl⟩ := h8
            have hvl : vs.length = k := by simpa using ho8.1
            have ht1 := hux.cell (hc8 m (vs.getD m undef) (by simp [List.getD, List.getElem?_eq_getElem (show m < vs.length by omega)])) (by simp)
            have hy1 := (hvs9 m hlt).upd hux (by intro b _; simp)
            have hm1 : IntKind.i64.wrap ((m : Int) + 1) = (m : Int) + 1 := IntWalk.i64_in _ (by omega)
            have r1 := apL_right (p := p) (ts := ts) hlt (show k < 256 by omega) ⟨p, othT⟩
            have r2 := apL_right (p := p) (ts := ts) hlt (show k < 256 by omega) ⟨p, newT⟩
            have HR1 := Lib.hid (r1 ▸ right_any wr pb mb _ p ((m : Int) + 1) _ _ (b10.upd hux (by simp) (by simp)) hy1)
            have HR2 := Lib.hid (fun (x : World) (hx : Upd [] wr x) => r2 ▸ right_any x pc mc _ p ((m : Int) + 1) _ _ ((d10.upd hux (by simp) (by simp)).upd hx (by simp) (by simp)) (hy1.upd hx (by intro b _; simp)))
            clear r1 r2 hy1
            generalize vs.getD m undef = V at *
            generalize (apAt p ts m).s = SV at *
            go_wp2_with fail
            refine HR1.out.mono ?_
            rintro e wa ⟨rfl, hua⟩
            have ht2 := hua.cell ht1 (by simp)
            go_wp2_with fail
            refine (HR2.out wa hua).mono ?_
            rintro e wb ⟨rfl, hub⟩
            go_wp2_with fail
            exact ⟨⟨m + 1, by omega, by go_num, hux.trans (hua.trans hub)⟩, by simp [intOf]; omega⟩
          · have hnb := within_bd n 9 (by omega)
            have hna := within_any n 9
            generalize within n 9 = R9 at *
            have HN := Lib.hid hna
            clear hna
            have hneg : IntKind.i64.wrap (-R9) = -R9 := IntWalk.i64_in _ (by omega)
            have rn : rightB (apL p ts k ++ [⟨p, othT⟩]) p (-R9) [] = false := rightB_none (by
              rw [List.mem_append]
              rintro (h | h)
              · exact apL_short (.inl rfl) h
              · simp [othT] at h)
            have HR := Lib.hid (rn ▸ right_any wr pb mb _ p (-R9) (.slice none 0 0) [] (b10.upd hux (by simp) (by simp)) SliceOf.nil)
            clear rn
            go_wp2_with fail
            refine (HN.out _ hn (by omega)).mono ?_
            rintro e wa ⟨rfl, rfl⟩
            go_wp2_with fail
            refine HR.out.mono ?_
            rintro e wb ⟨rfl, hub⟩
            go_wp2_with fail
            refine (wakes_any _).mono ?_
            rintro e wd ⟨rfl, hud⟩
            go_wp2_with fail
            go_ret
            refine ⟨rfl, ?_⟩
            have hb1 : Upd [mb, mc] wc wd := huT.trans (hux.nil.trans (hub.nil.trans hud.nil))
            have hb2 : Upd [mb, mc] w1 wc := hu'.mono (by simp)
            exact (hu.own (hb2.trans hb1) (by simp; have := hu'.size; have := hu.size; omega)).toBelow (by simp)
end Go.Proofs.Ytjcoeokmoibppaa
