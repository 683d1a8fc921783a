/- WHAT IS PROVED: contracts and plain laws of FiP, ShaQ. Conditions: stated with each. -/
import Derived.Test.YtenihpghfdcpkaaGreatV05
import Derived.Test.YtenihpghfdcpkaaGreatV14
import Derived.Test.YtenihpghfdcpkaaGreatV21
import Derived.Test.YtenihpghfdcpkaaGreatV22
set_option maxHeartbeats 4000000
set_option maxRecDepth 100000
namespace Go.Proofs.YtenihpghfdcpkaaGreat
open Go.RowKit
abbrev kFiP_0 (p0 : Option Addr) (p1 : List PrR) (p2 : Nat) : Ck := rowC 71 6 (.slice p0 p1.length p2) p1.length (p1.flatMap encPr)
abbrev kFiP_1 (p0 : PrR) (p1 : Nat) : List Value := ([(.int .i64 p0.r), (.int .i64 p0.e), (.int .u64 p0.f), (.slice p0.ca p1 p0.cc), (.int .i64 p0.sb), (.int .i64 p0.sm)] : List Value)
abbrev kFiP_2 : List Value := ([(.int .i64 (0)), (.int .i64 (0)), (.int .u64 (0)), (.slice none 0 0), (.int .i64 (0)), (.int .i64 (0))] : List Value)
def mayPr (F E T : Int) (p : PrR) : Bool := inB F p.r && decide (p.e = E) && decide (p.f = T)
theorem firstP_any (w : World) (la : Option Addr) (lc : Nat) (L : List PrR) (hL : ListAt encPr 6 w (.slice la L.length lc) L) (hlL : L.length ≤ 1000) (m : Nat) (s tb : Nat) (F c E last T : Int) (hF : 1 ≤ F ∧ F ≤ 1099511627776) (vm vo : Value) (hs : (cellC s 54 [.int .i64 F, .int .i64 c, .int .i64 E, .int .u64 last, vm, vo]).ok w) (ht : (cellC tb 25 [.int .u64 T]).ok w) (h12 : (firstN (fun x : PrR => x.r) (mayPr F E T) L).length ≤ 12) :
  Calls Tryz.prog 44 #[(.slice la L.length lc), (.func (.func 45) #[] #[]), (.func (.func 42) #[] #[(.pointer (some ⟨s, 0, none⟩)), (.pointer (some ⟨tb, 0, none⟩))]), (.int .i64 ((m : Int)))] w fun e w' => ∃ (oa : Option Addr) (oc : Nat) (D : List PrR), e = .returned (.slice oa (D.take m).length oc) ∧ SortN (fun x : PrR => x.r) (mayPr F E T) L D ∧ D.length ≤ L.length ∧ (rowC 71 6 (.slice oa (D.take m).length oc) (D.take m).length ((D.take m).flatMap encPr)).ok w' ∧ Upd [] w w' ∧ ∀ q_, (rowC 71 6 (.slice oa (D.take m).length oc) (D.take m).length ((D.take m).flatMap encPr)).fp q_ → w.heap.size ≤ q_ := by
 have H := Sat.start0 w
 have hcap := ListAt.cap hL
 refine calls_fr Tryz.func44 rfl 49 rfl (Nat.le_of_ble_eq_true rfl) ?_
 refine zsl <| zwd fun Kq kq => zdb ([(.func (.func 45) #[] #[])] : List Value) H fun b2 w3 H4 => ?_
 refine kq _ _ <| wv 8 (.slice none 0 0) <| znsl <| zwd fun Kq kq => d_makeMap (Value.int .i64) Value.bool rfl H4 fun b6 w7 H8 => ?_
 refine kq _ _ <| wv 9 (.map (some b6)) <| znsl <| wv 10 (.slice none 0 0) <| znt <| w_seq <| zsl <| wv 15 (.slice la L.length lc) <| wv 16 (.int .i64 ((L.length : Int))) <| wv 17 (.int .i64 (0)) ?_
 refine znt <| w_block ?_
 have H9 := H8.addNil 71 6
 refine wp_round ([10, 12, 13] ++ List.range' 17 23) (fun F_ W_ m_ => ∃ (i : Nat) (HV : List (Int × Bool)) (oa : Option Addr) (oc : Nat) (O : List PrR), F_ 17 = (.int .i64 ((i : Int))) ∧ F_ 10 = (.slice oa O.length oc) ∧ (i ≤ L.length) ∧ (O = firstN (fun x : PrR => x.r) (mayPr F E T) (L.take i)) ∧ (HvOk HV (fun x : PrR => x.r) O) ∧ (O.length ≤ i) ∧ Sat w [restC w (fun _ => False), cellC b2 127 ([(.func (.func 45) #[] #[])] : List Value), mapC b6 (Value.int .i64) Value.bool HV, (kFiP_0 oa O oc)] W_ ∧ m_ = L.length - i) _ ⟨0, [], none, 0, [], (show ((.int .i64 (0)) : Value) = _ by first | rfl | go_num), (by first | rfl | go_num), (Nat.zero_le _), rfl, HvOk.nil, (Nat.zero_le _), H9, rfl⟩ ?_
 rintro g10 w11 _ ⟨i, HV, oa, oc, O, v13, v14, hi, hO, hhv, hOl, H12, rfl⟩
 refine wp_know 17 _ v13 ?_
 refine wp_know 10 _ v14 ?_
 refine zsl <| wv 18 (.bool (decide ((i : Int) < (L.length : Int)))) <| znt <| w_seq ?_
 refine (bsplit (decide ((i : Int) < (L.length : Int)))).elim (fun b16 => ?_) (fun b16 => ?_)
 ·have g17 := of_decide_eq_true b16
  refine zwkt _ b16 ?_
  refine w_skip <| ztn <| w_seq <| w_block <| zsl ?_
  obtain ⟨g19, o20, c21, e22, R23⟩ := SliceOf.atD hL pr0 (show i < L.length by omega)
  refine wv 19 (.pointer (some ⟨g19, o20 + ((i : Int)).toNat * 6, none⟩)) ?_ (hr := e_indexAddrW (E := 71) (by kernel_rfl) (by kernel_rfl) (Nat.le_of_ble_eq_true rfl) rfl e22 rfl (by omega) (by omega))
  refine wv 20 (.agg ⟨(kFiP_1 (L.getD i pr0) ((L.getD i pr0).C.length))⟩) ?_ (hr := e_loadRun (vs := (kFiP_1 (L.getD i pr0) ((L.getD i pr0).C.length))) rfl (by kernel_rfl) (by kernel_rfl) (Nat.le_of_ble_eq_true (by kernel_rfl)) (H12.runR 0 rfl (cells_run R23 0 (by kernel_rfl) (show o20 + ((i : Int)).toNat * 6 = o20 + i * 6 + 0 by omega)) (fun h => h)))
  refine zwd fun Kq kq => zda (kFiP_2) H12 fun b25 w26 H27 => ?_
  refine kq _ _ <| zwd fun Kq kq => zds1 (kFiP_1 (L.getD i pr0) ((L.getD i pr0).C.length)) H27 4 fun w29 H30 => ?_
  refine kq _ _ <| znsl <| zw1 21 (.func (.func 45) #[] #[]) (H30.cell 1 rfl rfl) <| zwN 22 (kFiP_1 (L.getD i pr0) ((L.getD i pr0).C.length)) (H30.at 4 rfl) <| zwd fun Kq kq => zdq 23 (mkNum_any w29 (L.getD i pr0)) H30 fun w33 H34 => ?_
  refine kq _ _ <| wv 13 (.int .i64 ((L.getD i pr0).r)) <| znsl <| wv 24 (.map (some b6)) <| wv 25 (.int .i64 ((L.getD i pr0).r)) <| wv 26 (.bool ((lookM HV ((L.getD i pr0).r)).getD false)) ?_ (hr := e_lookup (kt := 3) (et := 4) (KeyTy.int (by kernel_rfl)) (by kernel_rfl) (fun w => by kernel_rfl) rfl ((L.getD i pr0).r) rfl (H34.at 2 rfl) (optD Value.bool _ _))
  refine wv 27 (.bool (!((lookM HV ((L.getD i pr0).r)).getD false))) <| wv 28 (.bool (!((lookM HV ((L.getD i pr0).r)).getD false))) ?_
  refine (bsplit (!((lookM HV ((L.getD i pr0).r)).getD false))).elim (fun b36 => ?_) (fun b36 => ?_)
  ·have g37 := bnot_true b36
   refine wl_know 28 (.bool true) (congrArg Value.bool b36) ?_
   refine wy 4 28 true 29 (.func (.func 42) #[] #[(pt s 0), (pt tb 0)]) <| wy 4 28 true 30 (.agg ⟨(kFiP_1 (L.getD i pr0) ((L.getD i pr0).C.length))⟩) ?_ (hr := zlN (vs := (kFiP_1 (L.getD i pr0) ((L.getD i pr0).C.length))) (H34.at 4 rfl))
   refine wl_do (wantsY 4 28 true rfl (by kernel_rfl) rfl (by kernel_rfl)) (fun Kq kq => ?_)
   refine zdq 31 (mkMine_any w33 (L.getD i pr0) s tb F c E last T hF vm vo (H34.roCk 0 rfl hs (fun _ _ h => h)) (H34.roCk 0 rfl ht (fun _ _ h => h))) H34 ?_
   intro w40 H41
   refine kq _ _ <| wv 32 (.bool (mayPr F E T (L.getD i pr0))) <| znt ?_
   refine (bsplit (mayPr F E T (L.getD i pr0))).elim (fun b43 => ?_) (fun b43 => ?_)
   ·refine zwkt _ b43 ?_
    refine zsl <| wv 33 (.map (some b6)) <| wv 34 (.int .i64 ((L.getD i pr0).r)) <| zwd fun Kq kq => d_mapUpdate (kt := 3) (et := 4) rfl H41 2 rfl (KeyTy.int (by kernel_rfl)) (by kernel_rfl) rfl ((L.getD i pr0).r) rfl true rfl fun w45 H46 => ?_
    refine kq _ _ <| znt <| w_lit <| wv 35 (.slice oa O.length oc) <| zwN 36 (kFiP_1 (L.getD i pr0) ((L.getD i pr0).C.length)) (H46.at 4 rfl) <| zwd fun Kq kq => zdbs 71 6 64 (.agg ⟨(kFiP_2)⟩) [(0, (.agg ⟨(kFiP_1 (L.getD i pr0) ((L.getD i pr0).C.length))⟩))] (kFiP_1 (L.getD i pr0) ((L.getD i pr0).C.length)) H46 ?_
    intro b48 w49 (H50 : Sat w [restC w (fun _ => False), cellC b2 127 ([(.func (.func 45) #[] #[])] : List Value), mapC b6 (Value.int .i64) Value.bool (putM HV ((L.getD i pr0).r) true), (kFiP_0 oa O oc), cellC b25 71 (kFiP_1 (L.getD i pr0) ((L.getD i pr0).C.length)), rowC 71 6 (.slice (some ⟨b48, 0, none⟩) 1 1) 1 (kFiP_1 (L.getD i pr0) ((L.getD i pr0).C.length))] w49)
    have H51 : Sat w [restC w (fun _ => False), cellC b2 127 ([(.func (.func 45) #[] #[])] : List Value), mapC b6 (Value.int .i64) Value.bool (putM HV ((L.getD i pr0).r) true), (kFiP_0 oa O oc), cellC b25 71 (kFiP_1 (L.getD i pr0) ((L.getD i pr0).C.length)), rowC 71 6 (.slice (some ⟨b48, 0, none⟩) 1 1) 1 ([(L.getD i pr0)].flatMap encPr)] w49 := H50.cast (by rw [(show ((kFiP_1 (L.getD i pr0) ((L.getD i pr0).C.length)) : List Value) = [(L.getD i pr0)].flatMap encPr by kernel_rfl)])
    refine kq _ _ <| zwd fun Kq kq => d_append (T := 41) (e := 71) (size := 6) (bytes := 64) rfl H51 (by kernel_rfl) 3 5 rfl rfl rfl rfl (flat_one encPr encPr_one [(L.getD i pr0)]) (by omega) (by omega) fun v53 w54 H55 => ?_
    have H58 : Sat w [restC w (fun _ => False), cellC b2 127 ([(.func (.func 45) #[] #[])] : List Value), mapC b6 (Value.int .i64) Value.bool (putM HV ((L.getD i pr0).r) true), rowC 71 6 v53 ((O ++ [(L.getD i pr0)]).length) ((O ++ [(L.getD i pr0)]).flatMap encPr), cellC b25 71 (kFiP_1 (L.getD i pr0) ((L.getD i pr0).C.length)), rowC 71 6 (.slice (some ⟨b48, 0, none⟩) 1 1) 1 ([(L.getD i pr0)].flatMap encPr)] w54 := H55.cast (by simp only [List.length_append, List.flatMap_append] <;> rfl)
    obtain ⟨a56, c57, rfl⟩ := ownsRow_shape (H58.at 3 rfl)
    refine kq _ _ <| wv 10 (.slice a56 ((O ++ [(L.getD i pr0)]).length) c57) <| w_nil <| blk_normal <| ztn <| w_lit <| zwi 39 ((i : Int) + 1) <| wv 17 (.int .i64 ((i : Int) + 1)) <| w_nil ?_
    have H59 := H58.pk [0, 1, 2, 3]
    refine round_back ?_ _ ⟨(i + 1), (putM HV ((L.getD i pr0).r) true), a56, c57, (O ++ [(L.getD i pr0)]), rfl, (show ((.slice a56 ((O ++ [(L.getD i pr0)]).length) c57) : Value) = _ by first | rfl | go_num), (by omega), (by rw [firstN_step (show L[i]? = some (L.getD i pr0) by rw [List.getD_eq_getElem?_getD, List.getElem?_eq_getElem (show i < L.length by omega)]; rfl), ← hO]; exact (takeN_yes (by rw [← hhv]; exact (by have q := b36; simpa using q)) b43).symm), (HvOk.put (num := (fun x : PrR => x.r)) (x := (L.getD i pr0)) hhv), (by first | omega | (simp only [List.length_append, List.length_cons, List.length_nil]; omega)), H59, rfl⟩ (by omega)
    exact zs
   refine zwkf _ b43 ?_
   refine w_skip <| blk_normal <| ztn <| w_lit <| zwi 39 ((i : Int) + 1) <| wv 17 (.int .i64 ((i : Int) + 1)) <| w_nil ?_
   have H60 := H41.pk [0, 1, 2, 3]
   refine round_back ?_ _ ⟨(i + 1), HV, oa, oc, O, rfl, rfl, (by omega), (by rw [firstN_step (show L[i]? = some (L.getD i pr0) by rw [List.getD_eq_getElem?_getD, List.getElem?_eq_getElem (show i < L.length by omega)]; rfl), ← hO]; exact (takeN_no2 b43).symm), hhv, (by first | omega | (simp only [List.length_append, List.length_cons, List.length_nil]; omega)), H60, rfl⟩ (by omega)
   exact zs
  have g61 := bnot_false b36
  refine wl_know 28 (.bool false) (congrArg Value.bool b36) ?_
  iterate 3 refine wn 4 28 true ?_
  refine wv 32 (.bool false) <| znt <| wp_iff rfl ?_
  refine w_skip <| blk_normal <| ztn <| w_lit <| zwi 39 ((i : Int) + 1) <| wv 17 (.int .i64 ((i : Int) + 1)) <| w_nil ?_
  have H63 := H34.pk [0, 1, 2, 3]
  refine round_back ?_ _ ⟨(i + 1), HV, oa, oc, O, rfl, rfl, (by omega), (by rw [firstN_step (show L[i]? = some (L.getD i pr0) by rw [List.getD_eq_getElem?_getD, List.getElem?_eq_getElem (show i < L.length by omega)]; rfl), ← hO]; exact (takeN_no1 (by rw [← hhv]; exact (by have q := b36; simpa using q))).symm), hhv, (by first | omega | (simp only [List.length_append, List.length_cons, List.length_nil]; omega)), H63, rfl⟩ (by omega)
  exact zs
 have g64 := of_decide_eq_false b16
 refine zwkf _ b16 ?_
 refine zxb <| ztn <| zsl <| wv 40 (.slice oa O.length oc) <| wv 41 (.func (.func 91) #[] #[(pt b2 0)]) <| zwd fun Kq kq => ?_
 have hiL : i = L.length := by omega
 rw [hiL, List.take_length] at hO
 refine zdc 42 (sortPRow_any w11 oa oc O b2 (H12.fn [3, 1]) (by rw [hO]; exact h12)) ?_
 rintro _ w67 ⟨D, rfl, p68, s69, T70⟩
 have hDl : D.length ≤ L.length := by have q := p68.length_eq; omega
 have H71 := H12.tl [(kFiP_0 oa D oc), cellC b2 127 ([(.func (.func 45) #[] #[])] : List Value)] [3, 1] [0, 2] T70 [2, 1, 3, 0]
 refine ⟨_, rfl, ?_⟩
 refine kq _ _ <| znt <| w_seq <| wp_know 10 (.slice oa D.length oc) (show ((.slice oa O.length oc) : Value) = _ by rw [p68.length_eq]) ?_
 have hcD := ListAt.cap (ListAt.row (enc := encPr) (sz := 6) encPr_len (by decide) (H71.at 3 rfl))
 refine w_lit <| wv 43 (.slice oa D.length oc) <| wv 44 (.slice oa D.length oc) <| wv 45 (.int .i64 ((D.length : Int))) <| wv 46 (.int .i64 ((m : Int))) <| wv 47 (.int .i64 (((min D.length m : Nat) : Int))) ?_ (hr := e_min (k := .i64) (a := (D.length : Int)) (b := (m : Int)) (z := ((min D.length m : Nat) : Int)) rfl rfl (by omega))
 refine wv 48 (.slice oa (min D.length m) oc) ?_ (hr := e_sliceHi (E := 71) (q := (min D.length m)) (by kernel_rfl) (by kernel_rfl) rfl rfl (by omega) (by omega))
 refine wv 8 (.slice oa (min D.length m) oc) <| znt <| w_ret <| ze1 (.slice oa (min D.length m) oc) ?_
 exact ⟨oa, oc, D, by rw [show min D.length m = (D.take m).length by rw [List.length_take, Nat.min_comm]], SortN.of (lt := ltPr) (by rw [← hO]; exact p68) (s69.imp fun h => h), hDl, row_prefix encPr_len (H71.at 3 rfl), H71.upd 0 rfl [] (fun _ h => h.elim), (fun q_ hq_ => H71.fresh 0 rfl (fun _ h => h) 3 rfl rfl q_ (by cases oa with | none => exact hq_ | some _ => exact hq_))⟩
theorem bOr_comm (k : IntKind) (a b : Int) : bOr k a b = bOr k b a := by unfold bOr; rw [BitVec.or_comm]
theorem rot_flip (x n s : Int) (hs : s = 32 - n) : bOr .u32 (bShl .u32 x s) (x / 2 ^ (min (32 - s).toNat 32)) = rotV x n := by
 unfold rotV
 rw [bOr_comm, hs, show 32 - (32 - n) = n by omega]
def wordV (s : List UInt8) : Int := bOr .u32 (bOr .u32 (bOr .u32 (bShl .u32 (IntKind.u32.wrap ((s.getD 0 0).toNat : Int)) 24) (bShl .u32 (IntKind.u32.wrap ((s.getD 1 0).toNat : Int)) 16)) (bShl .u32 (IntKind.u32.wrap ((s.getD 2 0).toNat : Int)) 8)) (IntKind.u32.wrap ((s.getD 3 0).toNat : Int))
def wLq (s : List UInt8) : Nat → List Int
 | 0 => List.replicate 64 0
 | i + 1 => (wLq s i).set i (wordV (s.drop (4 * i)))
def wOq (s : List UInt8) : List Int := wEx (wLq s 16) 48
theorem wLq_eq (D : List UInt8) (b : Nat) (i : Nat) : wLq (D.drop (64 * b)) i = wLd D b i := by
 induction i with
 | zero => rfl
 | succ i ih =>
  show (wLq (D.drop (64 * b)) i).set i (wordV ((D.drop (64 * b)).drop (4 * i))) = ldS D b i (wLd D b i)
  rw [ih, List.drop_drop]
  rfl
theorem wOq_eq (D : List UInt8) (b : Nat) : wOq (D.drop (64 * b)) = wOf D b := by unfold wOq wOf; rw [wLq_eq]
def mixV (HH : List Int) (s : List UInt8) : List Int := hAd (vRu (wOq s) HH 64) HH 8
theorem hAll_mix (D : List UInt8) (b : Nat) : hAll D (b + 1) = mixV (hAll D b) (D.drop (64 * b)) := by unfold mixV; rw [wOq_eq]; rfl
theorem hAd_len (V HH : List Int) (i : Nat) : (hAd V HH i).length = HH.length := by
 induction i with
 | zero => rfl
 | succ i ih => simp [hAd, adS, ih]
theorem mixV_len (HH : List Int) (s : List UInt8) : (mixV HH s).length = HH.length := hAd_len _ _ _
def oIn (h : Int) (i : Nat) (O : List Int) : Nat → List Int
 | 0 => O
 | j + 1 => (oIn h i O j).set (4 * i + j) (IntKind.u8.wrap (h / 2 ^ (min (24 - 8 * (j : Int)).toNat 32)))
theorem oIn_four (HH : List Int) (i : Nat) (O : List Int) : oIn (HH.getD i 0) i O 4 = ouS HH i O := by
 unfold ouS
 simp [oIn]
theorem len_stepP (bits : Int) (q : Nat) : lenB bits (q + 1) = lenB bits q ++ [UInt8.ofNat (IntKind.u8.wrap (bits / 2 ^ (min (56 - 8 * (q : Int)).toNat 64))).toNat] := by
 rw [len_step, show (8 * (7 - (q : Int))) = 56 - 8 * (q : Int) by omega]
theorem shl3 {n : Nat} (h : n ≤ 1000000) : bShl .u64 (n : Int) 3 = (n : Int) * 8 := by
 unfold bShl
 exact wrap_u64 (by rw [show (2 : Int) ^ (min (3 : Int).toNat IntKind.u64.bits) = 8 from rfl]; omega)
theorem txtC_drop {a : Option Addr} {n c k : Nat} {s : List UInt8} {w : World} (hk : k ≤ n) (h : (txtC (.slice a n c) s).ok w) : (txtC (.slice (if c = k then a else a.map (·.add (k * 1))) (n - k) (c - k)) (s.drop k)).ok w := list_bytes (ListAt.dropG (ListAt.ofTxt h) hk)
theorem txtC_dropF {a : Option Addr} {n c k : Nat} {s : List UInt8} {b : Nat} (h : (txtC (.slice (if c = k then a else a.map (·.add (k * 1))) (n - k) (c - k)) (s.drop k)).fp b) : (txtC (.slice a n c) s).fp b := by
 obtain ⟨h0, hb⟩ := h
 refine ⟨by rw [List.length_drop] at h0; omega, ?_⟩
 cases a with
 | none => simp [Value.ownBlock] at hb
 | some ad =>
  rcases ad with ⟨g, o, f⟩
  split at hb
  ·exact hb
  ·simp only [Option.map_some, Value.ownBlock, Addr.add, Option.some.injEq] at hb ⊢
   split at hb <;> exact hb
section
variable {P : Program} {n : Nat} {f : Nat → Value} {w : World} {dst : Option Tmp} {ty : TypeId} {pos : String} {aft : Array Edge} {gd : Option (Nat × Bool)}
theorem e_indexArr {T E N : TypeId} {x y : Operand} {k ky : IntKind} {A : List Int} {z : Int} {q : Nat} (hT : P.underlying T = some (.array N E)) (hA : A.length = N) (hs : P.cellsOf E = 1) (hc : cellTy P E = true) (hx : ev n f x = .agg ⟨A.map (Value.int k)⟩) (hy : ev n f y = .int ky z) (hz : z = (q : Int)) (hq : q < N) :
  (execOp (ev n f) ⟨dst, .index T x y, ty, pos, aft, gd⟩).run P w = .ok (.value (.int k (A.getD q 0))) w := by
 subst hz
 have hq' : q < A.length := by omega
 simp only [execOp, hx, hy, Instr.index, asIntOf]
 simp [run_underlying hT, hq, Result.andThen, run_isAgg_cell hc, run_sizeOf_cells hs (by decide), part, List.getD_eq_getElem?_getD, List.getElem?_eq_getElem hq']
end
section
variable {P : Program} {ops : Array Oper} {S : World → Prop} {Q : Exit → Act → World → Prop} {n : Nat} {f : Nat → Value} {w : World} {listed : Array Bool} {fuel : Nat}
theorem h_do3 {o1 o2 o3 : Oper} (i j k : Nat) (hi : ops[i]? = some o1) (hj : ops[j]? = some o2) (hk : ops[k]? = some o3) (hr : Region.ready .any ops listed = [i, j, k]) (hw1 : Wants ops o1 n f true) (hw2 : Wants ops o2 n f true) (hw3 : Wants ops o3 n f true)
  (k1 : ∀ K : Act → World → Prop, (∀ g w', S w' → (WH P ops Q S fuel (listed.setIfInBounds i true) n g w') → K (fr n g) w') → WO P o1 K Q n f w)
  (k2 : ∀ K : Act → World → Prop, (∀ g w', S w' → (WH P ops Q S fuel (listed.setIfInBounds j true) n g w') → K (fr n g) w') → WO P o2 K Q n f w)
  (k3 : ∀ K : Act → World → Prop, (∀ g w', S w' → (WH P ops Q S fuel (listed.setIfInBounds k true) n g w') → K (fr n g) w') → WO P o3 K Q n f w) : WH P ops Q S (fuel + 1) listed n f w := by
 refine ⟨wpAnyH_all hr (by simp) fun q hq => ?_⟩
 rcases List.mem_cons.1 hq with rfl | hq
 ·refine wpOp_step hi fun K' hK => ?_
  rw [if_pos hw1.h]
  exact (k1 K' fun g w' hS hk => hK _ _ ⟨hS, hk.h⟩).h
 rcases List.mem_cons.1 hq with rfl | hq
 ·refine wpOp_step hj fun K' hK => ?_
  rw [if_pos hw2.h]
  exact (k2 K' fun g w' hS hk => hK _ _ ⟨hS, hk.h⟩).h
 ·obtain rfl := List.mem_singleton.1 hq
  refine wpOp_step hk fun K' hK => ?_
  rw [if_pos hw3.h]
  exact (k3 K' fun g w' hS hk => hK _ _ ⟨hS, hk.h⟩).h
end
end Go.Proofs.YtenihpghfdcpkaaGreat
