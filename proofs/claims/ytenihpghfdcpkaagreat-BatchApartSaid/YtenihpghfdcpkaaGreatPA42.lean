/- WHAT IS PROVED: contracts and plain laws of BatW. Conditions: stated with each. -/
import Derived.Test.YtenihpghfdcpkaaGreatPA03
import Derived.Test.YtenihpghfdcpkaaGreatPA05
import Derived.Test.YtenihpghfdcpkaaGreatPA16
import Derived.Test.YtenihpghfdcpkaaGreatPA20
set_option maxHeartbeats 4000000
set_option maxRecDepth 100000
namespace Go.Proofs.YtenihpghfdcpkaaGreat
open Go.RowKit
abbrev Z87 : List Value := ([(.int .i64 (0)), (.int .u64 (5)), (.slice none 0 0), (.slice none 0 0), (.slice none 0 0)] : List Value)
abbrev Zda : List Value := ([(.pointer none), (.pointer none)] : List Value)
abbrev Z63 (p0 : Nat) (p1 : Nat) : List Value := ([(pt p0 0), (pt p1 0)] : List Value)
theorem Z8B (w : World) :
  Calls Tryz.prog 14 #[(.int .u64 (0)), (.map none), (.agg ⟨([(.int .i64 (0)), (.int .u64 (5)), (.slice none 0 0), (.slice none 0 0), (.slice none 0 0)] : List Value)⟩)] w fun e w' => e = .returned (.slice none 0 0) ∧ Upd [] w w' := by
 have H := Sat.start0 w
 refine Z8 Tryz.func14 rfl 92 rfl kn ?_
 refine zsl <| zy <| zdb (Z87) H fun b2 w3 H4 => ?_
 refine kk <| wv 6 (.slice none 0 0) <| Z0y <| zy <| Z2s nmV Z3N rfl H4 fun b6 w7 H8 => ?_
 refine kk <| wv 7 (.map (some b6)) <| znt <| Z5 <| zsl <| wv 19 (pt b2 2) <| zw1 20 (.slice none 0 0) (H8.cell 1 rfl rfl) <| wv 21 (vi 0) <| wv 22 (vi 0) <| znt ?_
 refine Za <| Zw ([9, 11, 12, 13, 14] ++ List.range' 22 57) (fun F_ W_ m_ => ∃ (u_ : Unit), F_ 22 = (vi 0) ∧ Sat w [Z3 w (fun _ => False), Z0 b2 47 (Z87), Z0B b6 nmV Z3N []] W_ ∧ m_ = 1) _ ⟨(), (show ((vi 0) : Value) = _ by first | rfl | go_num), H8, rfl⟩ ?_
 rintro g9 w10 _ ⟨u_, v12, H11, rfl⟩
 refine Zd 22 _ v12 ?_
 refine zsl <| wv 23 (.bool false) <| znt <| Z5 <| Z2O rfl ?_
 refine zxb <| ztn <| zsl <| wv 15 (.slice none 0 0) <| znt <| Z5 <| zsl <| wv 79 (.map (some b6)) <| zy <| Zck (kt := 59) (et := 63) rfl H11 2 rfl kr rfl ?_
 intro r15 w16 H17
 refine kk <| znt <| Za <| Zw [15, 17, 81, 82, 83, 84, 85, 86, 87, 88] (fun F_ W_ m_ => ∃ (u_ : Unit), F_ 15 = (.slice none 0 0) ∧ Sat w [Z3 w (fun _ => False), Z0 b2 47 (Z87), ZcT r15 b6 nmV Z3N [] []] W_ ∧ m_ = 1) _ ⟨(), (by first | rfl | go_num), H17, rfl⟩ ?_
 rintro g18 w19 _ ⟨u_, v21, H20, rfl⟩
 refine Zd 15 _ v21 ?_
 refine zsl <| zy ?_
 refine ZeR rfl H20 2 rfl rfl ?_ ?_
 ·intro p24
  refine kk <| wv 82 (.bool false) <| znt <| Z5 <| Z2O rfl ?_
  refine zxb <| ztn <| zsl <| wv 89 (.slice none 0 0) <| zy <| zdc 90 (Z9m none 0 (.func (.func 60) #[] #[]) w19) ?_
  rintro _ w26 ⟨rfl, hww26⟩
  subst hww26
  refine ⟨_, rfl, ?_⟩
  refine kk <| Z0y <| wv 91 (.slice none 0 0) <| wv 6 (.slice none 0 0) <| znt <| Zq <| ze1 (.slice none 0 0) ?_
  exact ⟨rfl, H20.upd 0 rfl [] ne⟩
 intro y27 t28 w29 p30 H31
 refine kk <| wv 82 (.bool true) <| znt <| Z5 <| Z1X rfl ?_
 refine Zt <| ztn <| Za <| Z5 ?_
 simp at p30
theorem Zae (w : World) :
  Calls Tryz.prog 64 #[] w fun e w' => ∃ b mb r, e = .returned (.agg #[.pointer (some ⟨b, 0, none⟩), .pointer (some ⟨r, 0, none⟩)]) ∧ (ZR [Z0 b 179 [.map (some mb)], Z0B mb ZZ (Value.int .i64) (Z0a []), Z0 r 165 [.slice none 0 0]]).ok w' ∧ Upd [] w w' ∧ ∀ q_, (ZR [Z0 b 179 [.map (some mb)], Z0B mb ZZ (Value.int .i64) (Z0a []), Z0 r 165 [.slice none 0 0]]).fp q_ → w.heap.size ≤ q_ := by
 have H := Sat.start0 w
 refine Z8 Tryz.func64 rfl 8 rfl kn ?_
 refine zsl <| zy <| zda (Zda) H fun b2 w3 H4 => ?_
 refine kk <| Z0y <| zy <| zdc 4 (Z8W w3) ?_
 rintro _ w6 ⟨b7, m8, r9, rfl, k10, p11, q12⟩
 have H13 := H4.addU p11 k10 q12
 have H14 := H13.open 2 rfl
 refine ⟨_, rfl, ?_⟩
 refine kk <| wv 3 (.tuple #[(.agg ⟨(Z63 b7 r9)⟩), (.bool true)]) <| wv 5 (.agg ⟨(Z63 b7 r9)⟩) <| wv 6 (.bool true) <| zy <| zda (Zda) H14 fun b16 w17 H18 => ?_
 refine kk <| zy <| Z1z (Z63 b7 r9) H18 5 fun w20 H21 => ?_
 refine kk <| wv 2 (.bool true) <| Z0y <| zwN 7 (Z63 b7 r9) (H21.at 5 rfl) <| zy <| Z1z (Z63 b7 r9) H21 1 fun w24 H25 => ?_
 refine kk <| znt <| Zq <| Z66 rfl (ZL (vs := (Z63 b7 r9)) rfl kr kr kn (H25.at 1 rfl) kr) ?_
 exact ⟨b7, m8, r9, rfl, H25.fn [2, 3, 4], H25.upd 0 rfl [] ne, H25.freshS 0 rfl (fun _ h => h) [2, 3, 4] rfl rfl⟩
theorem Zdy (w : World) :
  Calls Tryz.prog 16 #[] w fun e w' => e = .returned (.bool true) ∧ Upd [] w w' := by
 have H := Sat.start0 w
 refine Z8 Tryz.func16 rfl 13 rfl kn ?_
 refine zsl <| wv 0 (.bool false) <| Z0y <| wv 1 (.agg ⟨(Z87)⟩) <| zy <| zdq 2 (Z8B w) H fun w2 H3 => ?_
 refine kk <| wv 3 (vi 0) <| wv 4 (.bool true) <| wv 5 (.bool true) <| wy 4 5 true 6 (.agg ⟨([(vi 1), (vi 1)] : List Value)⟩) <| Z5I (Z11 4 5 true rfl kr rfl kr) (fun Kq kq => ?_)
 refine zdc 7 (Zae w2) ?_
 rintro _ w6 ⟨b7, m8, r9, rfl, k10, p11, q12⟩
 have H13 := H3.addU p11 k10 q12
 have H14 := H13.open 1 rfl
 refine ⟨_, rfl, ?_⟩
 refine kq _ _ <| wy 4 5 true 8 (pt b7 0) <| wy 4 5 true 9 (.agg ⟨([(vi 0), (.slice none 0 0)] : List Value)⟩) <| Z5I (Z11 4 5 true rfl kr rfl kr) (fun Kq kq => ?_)
 refine zdq 10 (Z7f w6 (1 : Int) (1 : Int) om b7 m8 ([] : List Signed) (H14.at 1 rfl) (H14.at 2 rfl) (0 : Int) none 0 ([] : List Z1d) ListAt.nil (by simp) (by simp)) H14 ?_
 intro w16 H17
 refine kq _ _ <| wy 4 5 true 11 (.bool (!(Z1Q (1 : Int) ([] : List Signed) (0 : Int) ([] : List Z1d)))) <| wv 12 (.bool (!(Z1Q (1 : Int) ([] : List Signed) (0 : Int) ([] : List Z1d)))) <| wv 0 (.bool (!(Z1Q (1 : Int) ([] : List Signed) (0 : Int) ([] : List Z1d)))) <| znt <| Zq <| ze1 (.bool (!(Z1Q (1 : Int) ([] : List Signed) (0 : Int) ([] : List Z1d)))) ?_
 exact ⟨rfl, H17.upd 0 rfl [] ne⟩
end Go.Proofs.YtenihpghfdcpkaaGreat
