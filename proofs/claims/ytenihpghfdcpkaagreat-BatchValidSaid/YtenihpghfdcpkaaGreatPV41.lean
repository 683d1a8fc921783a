/- WHAT IS PROVED: contracts and plain laws of BatW. Conditions: stated with each. -/
import Derived.Test.YtenihpghfdcpkaaGreatPV02
import Derived.Test.YtenihpghfdcpkaaGreatPV03
import Derived.Test.YtenihpghfdcpkaaGreatPV05
import Derived.Test.YtenihpghfdcpkaaGreatPV14
import Derived.Test.YtenihpghfdcpkaaGreatPV23
set_option maxHeartbeats 4000000
set_option maxRecDepth 100000
namespace Go.Proofs.YtenihpghfdcpkaaGreat
open Go.RowKit
abbrev Z7G : List Value := ([i6 0, u6 5, (.slice none 0 0), (.slice none 0 0), (.slice none 0 0)] : LV)
abbrev Zbr : List Value := ([(.pointer none), (.pointer none)] : LV)
abbrev ZeH (p0 : Nat) (p1 : Nat) : List Value := ([(pt p0 0), (pt p1 0)] : LV)
theorem Z97 (w : World) :
  Calls Tryz.prog 14 #[u6 0, (.map none), (.agg ⟨([i6 0, u6 5, (.slice none 0 0), (.slice none 0 0), (.slice none 0 0)] : LV)⟩)] w fun e w' => e = .returned (.slice none 0 0) ∧ Upd [] w w' := by
 have H := Sat.start0 w
 refine Zg Tryz.func14 rfl 92 rfl kn ?_
 refine zsl <| zy <| zdb (Z7G) H fun b2 w3 H4 => ?_
 let A0 : Value := .slice none 0 0
 refine kk <| wv 6 A0 <| Z1a <| zy <| Z4c nmV Z9i rfl H4 fun b6 w7 H8 => ?_
 refine kk <| wv 7 (.map (some b6)) <| znt <| Z9 <| zsl <| wv 19 (pt b2 2) <| zw1 20 A0 (H8.cell 1 rfl rfl) <| wv 21 (vi 0) <| wv 22 (vi 0) <| znt ?_
 refine Zh <| ZB ([9, 11, 12, 13, 14] ++ List.range' 22 57) (fun F_ W_ m_ => ∃ (u_ : Unit), F_ 22 = (vi 0) ∧ Sat w [zR w, Z0 b2 47 (Z7G), Z2S b6 nmV Z9i []] W_ ∧ m_ = 1) _ ⟨(), (show ((vi 0) : Value) = _ by first | rfl | go_num), H8, rfl⟩ ?_
 rintro g9 w10 _ ⟨u_, v12, H11, rfl⟩
 refine Zn 22 _ v12 ?_
 refine zsl <| wv 23 (.bool false) <| znt <| Z9 <| Z2h rfl ?_
 refine zxb <| ztn <| zsl <| wv 15 A0 <| znt <| Z9 <| zsl <| wv 79 (.map (some b6)) <| zy <| ZeK (kt := 59) (et := 63) rfl H11 2 rfl kr rfl ?_
 intro r15 w16 H17
 refine kk <| znt <| Zh <| ZB [15, 17, 81, 82, 83, 84, 85, 86, 87, 88] (fun F_ W_ m_ => ∃ (u_ : Unit), F_ 15 = A0 ∧ Sat w [zR w, Z0 b2 47 (Z7G), ZdD r15 b6 nmV Z9i [] []] W_ ∧ m_ = 1) _ ⟨(), (by first | rfl | go_num), H17, rfl⟩ ?_
 rintro g18 w19 _ ⟨u_, v21, H20, rfl⟩
 refine Zn 15 _ v21 ?_
 refine zsl <| zy ?_
 refine d_next rfl H20 2 rfl rfl ?_ ?_
 ·intro p24
  refine kk <| wv 82 (.bool false) <| znt <| Z9 <| Z2h rfl ?_
  refine zxb <| ztn <| zsl <| wv 89 A0 <| zy <| zdc 90 (Zbz none 0 (.func (.func 60) #[] #[]) w19) ?_
  rintro _ w26 ⟨rfl, hww26⟩
  subst hww26
  refine ⟨_, rfl, ?_⟩
  refine kk <| Z1a <| wv 91 A0 <| wv 6 A0 <| znt <| Zk <| ze1 A0 ?_
  exact ⟨rfl, H20.upd 0 rfl [] ne⟩
 intro y27 t28 w29 p30 H31
 refine kk <| wv 82 (.bool true) <| znt <| Z9 <| Z06 rfl ?_
 refine Zp <| ztn <| Zh <| Z9 ?_
 simp at p30
theorem Z9Y (w : World) :
  Calls Tryz.prog 64 #[] w fun e w' => ∃ b mb r, e = .returned (.agg #[zp b, zp r]) ∧ (Z0h [Z0 b 179 [.map (some mb)], Z2S mb Z0c (Value.int .i64) (Z0o []), Z0 r 165 [.slice none 0 0]]).ok w' ∧ Upd [] w w' ∧ ∀ q_, (Z0h [Z0 b 179 [.map (some mb)], Z2S mb Z0c (Value.int .i64) (Z0o []), Z0 r 165 [.slice none 0 0]]).fp q_ → w.heap.size ≤ q_ := by
 have H := Sat.start0 w
 refine Zg Tryz.func64 rfl 8 rfl kn ?_
 refine zsl <| zy <| zda (Zbr) H fun b2 w3 H4 => ?_
 refine kk <| Z1a <| zy <| zdc 4 (Z8Z w3) ?_
 rintro _ w6 ⟨b7, m8, r9, rfl, k10, p11, q12⟩
 have H13 := H4.addU p11 k10 q12
 have H14 := H13.open 2 rfl
 refine ⟨_, rfl, ?_⟩
 let A0 := ZeH b7 r9
 refine kk <| wv 3 (.tuple #[(.agg ⟨A0⟩), (.bool true)]) <| wv 5 (.agg ⟨A0⟩) <| wv 6 (.bool true) <| zy <| zda (Zbr) H14 fun b16 w17 H18 => ?_
 refine kk <| zy <| Z1S A0 H18 5 fun w20 H21 => ?_
 refine kk <| wv 2 (.bool true) <| Z1a <| zwN 7 A0 (H21.at 5 rfl) <| zy <| Z1S A0 H21 1 fun w24 H25 => ?_
 refine kk <| znt <| Zk <| Z5v rfl (Z02 (vs := A0) rfl kr kr kn (H25.at 1 rfl) kr) ?_
 exact ⟨b7, m8, r9, rfl, H25.fn [2, 3, 4], H25.upd 0 rfl [] ne, H25.freshS 0 rfl (fun _ h => h) [2, 3, 4] rfl rfl⟩
theorem Zc6 (w : World) :
  Calls Tryz.prog 16 #[] w fun e w' => e = .returned (.bool true) ∧ Upd [] w w' := by
 have H := Sat.start0 w
 refine Zg Tryz.func16 rfl 13 rfl kn ?_
 refine zsl <| wv 0 (.bool false) <| Z1a <| wv 1 (.agg ⟨(Z7G)⟩) <| zy <| zdq 2 (Z97 w) H fun w2 H3 => ?_
 refine kk <| wv 3 (vi 0) <| wv 4 (.bool true) <| wv 5 (.bool true) <| wy 4 5 true 6 (.agg ⟨([(vi 1), (vi 1)] : LV)⟩) <| Z6R (Z05 4 5 true rfl kr rfl kr) (fun Kq kq => ?_)
 refine zdc 7 (Z9Y w2) ?_
 rintro _ w6 ⟨b7, m8, r9, rfl, k10, p11, q12⟩
 have H13 := H3.addU p11 k10 q12
 have H14 := H13.open 1 rfl
 refine ⟨_, rfl, ?_⟩
 refine kq _ _ <| wy 4 5 true 8 (pt b7 0) <| wy 4 5 true 9 (.agg ⟨([(vi 0), (.slice none 0 0)] : LV)⟩) <| Z6R (Z05 4 5 true rfl kr rfl kr) (fun Kq kq => ?_)
 refine zdq 10 (Z2M w6 (1 : Int) (1 : Int) om b7 m8 ([] : List Signed) (H14.at 1 rfl) (H14.at 2 rfl) (0 : Int) none 0 ([] : List Z1s) ListAt.nil (by simp) (by simp)) H14 ?_
 intro w16 H17
 let A0 : Value := .bool (!(Z0j (1 : Int) ([] : List Signed) (0 : Int) ([] : List Z1s)))
 refine kq _ _ <| wy 4 5 true 11 A0 <| wv 12 A0 <| wv 0 A0 <| znt <| Zk <| ze1 A0 ?_
 exact ⟨rfl, H17.upd 0 rfl [] ne⟩
end Go.Proofs.YtenihpghfdcpkaaGreat
