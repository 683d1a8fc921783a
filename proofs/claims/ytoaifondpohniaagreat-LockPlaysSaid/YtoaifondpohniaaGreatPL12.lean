/- WHAT IS PROVED: contracts and plain laws of OfR. Conditions: stated with each. -/
import Derived.Test.YtoaifondpohniaaGreatPL09
import Derived.Test.YtoaifondpohniaaGreatPL11
set_option maxHeartbeats 4000000
set_option maxRecDepth 100000
namespace Go.Proofs.YtoaifondpohniaaGreat
open Go.RowKit
def ofT (cl seq : Int) (x : Hash) (p : List UInt8) : List UInt8 := [ZK [99, 111, 109, 109, 105, 116], Zf cl, Zf seq, x.l, ZK p].flatten
theorem ZcG (cl seq : Int) (x : Hash) (p : List UInt8) : (ofT cl seq x p).length ≤ p.length + 100 := by
 have h1 := ZO cl; have h2 := ZO seq; have h3 := x.len; have h4 := Z18 p; have h5 := Z18 [99, 111, 109, 109, 105, 116]
 simp only [List.length_cons, List.length_nil] at h5
 simp only [ofT, List.flatten_cons, List.flatten_nil, List.length_append, List.length_nil]; omega
theorem ZaZ (w : World) (cl seq : Int) (x : Hash) (pa : Option Addr) (pc : Nat) (p : List UInt8) (hp : ListAt ZE 1 w (.slice pa p.length pc) p) (hcl : cl ≤ 9223372036854775807) (hsq : seq ≤ 9223372036854775807) (hlp : p.length ≤ 1000) :
  Calls Tryz.prog 72 #[(.agg ⟨([(.int .i64 (cl)), (.int .i64 (seq))] : List Value)⟩), (.agg ⟨(hc x)⟩), (.slice pa p.length pc)] w fun e w' => e = .returned (.agg ⟨hc (Z19 (ofT cl seq x p))⟩) ∧ Upd [] w w' := by
 have H := Sat.start0 w
 refine Zh Tryz.func72 rfl 22 rfl (Nat.le_of_ble_eq_true rfl) ?_
 refine Zd ?_
 refine Zq ?_
 refine Z07 (Z1 rfl) (fun K1 hK1 => ?_)
 refine Z34 (vs := ([(.int .i64 (cl)), (.int .i64 (seq))] : List Value)) rfl H rfl rfl ?_
 intro b2 w3 (H4 : Sat w [Z7 w (fun _ => False), Z0 b2 24 ([(.int .i64 (cl)), (.int .i64 (seq))] : List Value)] w3)
 refine hK1 _ _ ?_
 clear hK1 K1
 refine Z07 (Z1 rfl) (fun K5 hK5 => ?_)
 refine Z34 (vs := (hc x)) rfl H4 rfl rfl ?_
 intro b6 w7 (H8 : Sat w [Z7 w (fun _ => False), Z0 b2 24 ([(.int .i64 (cl)), (.int .i64 (seq))] : List Value), Z0 b6 26 (hc x)] w7)
 refine hK5 _ _ ?_
 clear hK5 K5
 refine Z07 (Z1 rfl) (fun K9 hK9 => ?_)
 refine Z2q (zs := (hc Z04)) (z := (.agg ⟨(hc Z04)⟩)) rfl H8 (by kernel_rfl) (by kernel_rfl) ?_
 intro b10 w11 (H12 : Sat w [Z7 w (fun _ => False), Z0 b2 24 ([(.int .i64 (cl)), (.int .i64 (seq))] : List Value), Z0 b6 26 (hc x), Z0 b10 26 (hc Z04)] w11)
 refine hK9 _ _ ?_
 clear hK9 K9
 refine Zn ?_
 refine Z4 ?_
 refine Zd ?_
 refine Z08 H12 [Z7 w (fun _ => False), Z0 b2 24 ([(.int .i64 (cl)), (.int .i64 (seq))] : List Value), Z0 b6 26 (hc x)] 16 rfl (by kernel_rfl) (fun Hx => (Hx.pick [0, 1, 2] (by decide))) ?_
 intro w13 H14 S15
 refine Z09 3 rfl (by kernel_rfl) (by kernel_rfl) (by kernel_rfl) (fun _ _ _ h => h) S15 (Z1 rfl) (d := 10) (v := (.pointer (some ⟨b2, 0, none⟩))) rfl (fun _ H' => (by kernel_rfl)) ?_
 refine Z09 4 rfl (by kernel_rfl) (by kernel_rfl) (by kernel_rfl) (fun _ _ _ h => h) S15 (Z1 rfl) (d := 11) (v := (.int .i64 (cl))) rfl (fun _ H' => (Z8 rfl (by kernel_rfl) (H'.cell 1 rfl rfl))) ?_
 refine Z09 6 rfl (by kernel_rfl) (by kernel_rfl) (by kernel_rfl) (fun _ _ _ h => h) S15 (Z1 rfl) (d := 13) (v := (.pointer (some ⟨b2, 1, none⟩))) rfl (fun _ H' => (by kernel_rfl)) ?_
 refine Z09 7 rfl (by kernel_rfl) (by kernel_rfl) (by kernel_rfl) (fun _ _ _ h => h) S15 (Z1 rfl) (d := 14) (v := (.int .i64 (seq))) rfl (fun _ H' => (Z8 rfl (by kernel_rfl) (H'.cell 1 rfl rfl))) ?_
 refine Z09 9 rfl (by kernel_rfl) (by kernel_rfl) (by kernel_rfl) (fun _ _ _ h => h) S15 (Z1 rfl) (d := 16) (v := (.slice (some ⟨b6, 0, none⟩) 32 32)) rfl (fun _ H' => (by kernel_rfl)) ?_
 refine Z09 10 rfl (by kernel_rfl) (by kernel_rfl) (by kernel_rfl) (fun _ _ _ h => h) S15 (Z1 rfl) (d := 17) (v := (.slice pa p.length pc)) rfl (fun _ H' => (by kernel_rfl)) ?_
 refine Z2R 0 rfl (by kernel_rfl) (Z1 rfl) (fun K16 hK16 => ?_)
 refine Z1i (e := 5) (size := 1) (bytes := 1) (z := (.int .u8 (0))) (pvs := [(0, (.int .u8 (99))), (1, (.int .u8 (111))), (2, (.int .u8 (109))), (3, (.int .u8 (109))), (4, (.int .u8 (105))), (5, (.int .u8 (116)))]) (vs := ([(.int .u8 (99)), (.int .u8 (111)), (.int .u8 (109)), (.int .u8 (109)), (.int .u8 (105)), (.int .u8 (116))] : List Value)) rfl H14 (by kernel_rfl) (by kernel_rfl) (by kernel_rfl) (by kernel_rfl) (by kernel_rfl) rfl rfl ?_
 intro b17 w18 (H19 : Sat w [Z7 w (fun _ => False), Z0 b2 24 ([(.int .i64 (cl)), (.int .i64 (seq))] : List Value), Z0 b6 26 (hc x), Z0 b10 26 (hc Z04), Zk 5 1 (.slice (some ⟨b17, 0, none⟩) 6 6) 6 ([(.int .u8 (99)), (.int .u8 (111)), (.int .u8 (109)), (.int .u8 (109)), (.int .u8 (105)), (.int .u8 (116))] : List Value)] w18)
 have H20 : Sat w [Z7 w (fun _ => False), Z0 b2 24 ([(.int .i64 (cl)), (.int .i64 (seq))] : List Value), Z0 b6 26 (hc x), Z0 b10 26 (hc Z04), Zk 5 1 (.slice (some ⟨b17, 0, none⟩) 6 6) 6 ([99, 111, 109, 109, 105, 116].flatMap ZE)] w18 := H19.cast (by rw [show (([(.int .u8 (99)), (.int .u8 (111)), (.int .u8 (109)), (.int .u8 (109)), (.int .u8 (105)), (.int .u8 (116))] : List Value) : List Value) = [99, 111, 109, 109, 105, 116].flatMap ZE from rfl])
 have S21 := H20.pick [0, 1, 2] (by decide)
 refine hK16 _ _ S21 ?_
 clear hK16 K16
 refine Z2R 1 rfl (by kernel_rfl) (Z1 rfl) (fun K22 hK22 => ?_)
 refine Z22 (e := 5) (s := [99, 111, 109, 109, 105, 116]) rfl H20 4 rfl (by kernel_rfl) (by kernel_rfl) rfl ?_
 intro w23 (H24 : Sat w [Z7 w (fun _ => False), Z0 b2 24 ([(.int .i64 (cl)), (.int .i64 (seq))] : List Value), Z0 b6 26 (hc x), Z0 b10 26 (hc Z04), Z3e (.slice (some ⟨b17, 0, none⟩) 6 6) ([99, 111, 109, 109, 105, 116])] w23)
 have S25 := H24.pick [0, 1, 2] (by decide)
 refine hK22 _ _ S25 ?_
 clear hK22 K22
 refine Z2R 2 rfl (by kernel_rfl) (Z1 rfl) (fun K26 hK26 => ?_)
 refine Z0g (d := 9) rfl (by kernel_rfl) (Z3Y w23 (.slice (some ⟨b17, 0, none⟩) 6 6) ([99, 111, 109, 109, 105, 116]) (ListAt.ofTxt (H24.at 4 rfl)) (by simp)) ?_
 rintro _ w27 ⟨u28, rfl, k29, p30, q31⟩
 have H32 : Sat w [Z7 w (fun _ => False), Z0 b2 24 ([(.int .i64 (cl)), (.int .i64 (seq))] : List Value), Z0 b6 26 (hc x), Z0 b10 26 (hc Z04), Z3e (.slice (some ⟨b17, 0, none⟩) 6 6) ([99, 111, 109, 109, 105, 116]), Zk 5 1 u28 ((ZK ([99, 111, 109, 109, 105, 116])).length) ((ZK ([99, 111, 109, 109, 105, 116])).flatMap ZE)] w27 := H24.addU p30 k29 q31
 obtain ⟨a33, c34, rfl⟩ := Z6 (H32.at 5 rfl)
 refine ⟨_, rfl, ?_⟩
 have S35 := H32.pick [0, 1, 2] (by decide)
 refine hK26 _ _ S35 ?_
 clear hK26 K26
 refine Z2R 5 rfl (by kernel_rfl) (Z1 rfl) (fun K36 hK36 => ?_)
 refine Z0g (d := 12) rfl (by kernel_rfl) (Z17 w27 cl (by omega)) ?_
 rintro _ w37 ⟨u38, rfl, k39, p40, q41⟩
 have H42 : Sat w [Z7 w (fun _ => False), Z0 b2 24 ([(.int .i64 (cl)), (.int .i64 (seq))] : List Value), Z0 b6 26 (hc x), Z0 b10 26 (hc Z04), Z3e (.slice (some ⟨b17, 0, none⟩) 6 6) ([99, 111, 109, 109, 105, 116]), Zk 5 1 (.slice a33 ((ZK ([99, 111, 109, 109, 105, 116])).length) c34) ((ZK ([99, 111, 109, 109, 105, 116])).length) ((ZK ([99, 111, 109, 109, 105, 116])).flatMap ZE), Zk 5 1 u38 ((Zf cl).length) ((Zf cl).flatMap ZE)] w37 := H32.addU p40 k39 q41
 obtain ⟨a43, c44, rfl⟩ := Z6 (H42.at 6 rfl)
 refine ⟨_, rfl, ?_⟩
 have S45 := H42.pick [0, 1, 2] (by decide)
 refine hK36 _ _ S45 ?_
 clear hK36 K36
 refine Z2R 8 rfl (by kernel_rfl) (Z1 rfl) (fun K46 hK46 => ?_)
 refine Z0g (d := 15) rfl (by kernel_rfl) (Z17 w37 seq (by omega)) ?_
 rintro _ w47 ⟨u48, rfl, k49, p50, q51⟩
 have H52 : Sat w [Z7 w (fun _ => False), Z0 b2 24 ([(.int .i64 (cl)), (.int .i64 (seq))] : List Value), Z0 b6 26 (hc x), Z0 b10 26 (hc Z04), Z3e (.slice (some ⟨b17, 0, none⟩) 6 6) ([99, 111, 109, 109, 105, 116]), Zk 5 1 (.slice a33 ((ZK ([99, 111, 109, 109, 105, 116])).length) c34) ((ZK ([99, 111, 109, 109, 105, 116])).length) ((ZK ([99, 111, 109, 109, 105, 116])).flatMap ZE), Zk 5 1 (.slice a43 ((Zf cl).length) c44) ((Zf cl).length) ((Zf cl).flatMap ZE), Zk 5 1 u48 ((Zf seq).length) ((Zf seq).flatMap ZE)] w47 := H42.addU p50 k49 q51
 obtain ⟨a53, c54, rfl⟩ := Z6 (H52.at 7 rfl)
 refine ⟨_, rfl, ?_⟩
 have S55 := H52.pick [0, 1, 2] (by decide)
 refine hK46 _ _ S55 ?_
 clear hK46 K46
 refine Z2R 11 rfl (by kernel_rfl) (Z1 rfl) (fun K56 hK56 => ?_)
 refine Z0g (d := 18) rfl (by kernel_rfl) (Z3Y w47 (.slice pa p.length pc) p (ListAt.now H52 0 rfl hp) (by omega)) ?_
 rintro _ w57 ⟨u58, rfl, k59, p60, q61⟩
 have H62 : Sat w [Z7 w (fun _ => False), Z0 b2 24 ([(.int .i64 (cl)), (.int .i64 (seq))] : List Value), Z0 b6 26 (hc x), Z0 b10 26 (hc Z04), Z3e (.slice (some ⟨b17, 0, none⟩) 6 6) ([99, 111, 109, 109, 105, 116]), Zk 5 1 (.slice a33 ((ZK ([99, 111, 109, 109, 105, 116])).length) c34) ((ZK ([99, 111, 109, 109, 105, 116])).length) ((ZK ([99, 111, 109, 109, 105, 116])).flatMap ZE), Zk 5 1 (.slice a43 ((Zf cl).length) c44) ((Zf cl).length) ((Zf cl).flatMap ZE), Zk 5 1 (.slice a53 ((Zf seq).length) c54) ((Zf seq).length) ((Zf seq).flatMap ZE), Zk 5 1 u58 ((ZK p).length) ((ZK p).flatMap ZE)] w57 := H52.addU p60 k59 q61
 obtain ⟨a63, c64, rfl⟩ := Z6 (H62.at 8 rfl)
 refine ⟨_, rfl, ?_⟩
 have S65 := H62.pick [0, 1, 2] (by decide)
 refine hK56 _ _ S65 ?_
 clear hK56 K56
 refine Z2R 12 rfl (by kernel_rfl) (Z1 rfl) (fun K66 hK66 => ?_)
 refine Z1i (e := 62) (size := 1) (bytes := 24) (z := (.slice none 0 0)) (pvs := [(0, (.slice a33 ((ZK ([99, 111, 109, 109, 105, 116])).length) c34)), (1, (.slice a43 ((Zf cl).length) c44)), (2, (.slice a53 ((Zf seq).length) c54)), (3, (.slice (some ⟨b6, 0, none⟩) 32 32)), (4, (.slice a63 ((ZK p).length) c64))]) (vs := ([(.slice a33 ((ZK ([99, 111, 109, 109, 105, 116])).length) c34), (.slice a43 ((Zf cl).length) c44), (.slice a53 ((Zf seq).length) c54), (.slice (some ⟨b6, 0, none⟩) 32 32), (.slice a63 ((ZK p).length) c64)] : List Value)) rfl H62 (by kernel_rfl) (by kernel_rfl) (by kernel_rfl) (by kernel_rfl) (by kernel_rfl) rfl rfl ?_
 intro b67 w68 (H69 : Sat w [Z7 w (fun _ => False), Z0 b2 24 ([(.int .i64 (cl)), (.int .i64 (seq))] : List Value), Z0 b6 26 (hc x), Z0 b10 26 (hc Z04), Z3e (.slice (some ⟨b17, 0, none⟩) 6 6) ([99, 111, 109, 109, 105, 116]), Zk 5 1 (.slice a33 ((ZK ([99, 111, 109, 109, 105, 116])).length) c34) ((ZK ([99, 111, 109, 109, 105, 116])).length) ((ZK ([99, 111, 109, 109, 105, 116])).flatMap ZE), Zk 5 1 (.slice a43 ((Zf cl).length) c44) ((Zf cl).length) ((Zf cl).flatMap ZE), Zk 5 1 (.slice a53 ((Zf seq).length) c54) ((Zf seq).length) ((Zf seq).flatMap ZE), Zk 5 1 (.slice a63 ((ZK p).length) c64) ((ZK p).length) ((ZK p).flatMap ZE), Zk 62 1 (.slice (some ⟨b67, 0, none⟩) 5 5) 5 ([(.slice a33 ((ZK ([99, 111, 109, 109, 105, 116])).length) c34), (.slice a43 ((Zf cl).length) c44), (.slice a53 ((Zf seq).length) c54), (.slice (some ⟨b6, 0, none⟩) 32 32), (.slice a63 ((ZK p).length) c64)] : List Value)] w68)
 have S70 := H69.pick [0, 1, 2] (by decide)
 refine hK66 _ _ S70 ?_
 clear hK66 K66
 refine Z2R 13 rfl (by kernel_rfl) (Z1 rfl) (fun K71 hK71 => ?_)
 have l72 := Z18 ([99, 111, 109, 109, 105, 116])
 simp only [List.length_cons, List.length_nil] at l72
 have l73 := ZO cl
 have l74 := ZO seq
 have l75 := x.len
 have l76 := Z18 p
 refine Z0g (d := 20) rfl (by kernel_rfl) (Z1f w68 (.slice (some ⟨b67, 0, none⟩) 5 5) [(.slice a33 ((ZK ([99, 111, 109, 109, 105, 116])).length) c34), (.slice a43 ((Zf cl).length) c44), (.slice a53 ((Zf seq).length) c54), (.slice (some ⟨b6, 0, none⟩) 32 32), (.slice a63 ((ZK p).length) c64)] [(ZK ([99, 111, 109, 109, 105, 116])), (Zf cl), (Zf seq), x.l, (ZK p)] (ListAt.row (enc := Z8f) (sz := 1) (xs := [(.slice a33 ((ZK ([99, 111, 109, 109, 105, 116])).length) c34), (.slice a43 ((Zf cl).length) c44), (.slice a53 ((Zf seq).length) c54), (.slice (some ⟨b6, 0, none⟩) 32 32), (.slice a63 ((ZK p).length) c64)]) Z1I (by decide) (H69.at 9 rfl)) (Parts.cons (ListAt.row (enc := ZE) (sz := 1) ZR (by decide) (H69.at 5 rfl)) (Parts.cons (ListAt.row (enc := ZE) (sz := 1) ZR (by decide) (H69.at 6 rfl)) (Parts.cons (ListAt.row (enc := ZE) (sz := 1) ZR (by decide) (H69.at 7 rfl)) (Parts.cons (ListAt.ofHash (Z33 (H69.at 2 rfl) (by kernel_rfl)) (by decide)) (Parts.cons (ListAt.row (enc := ZE) (sz := 1) ZR (by decide) (H69.at 8 rfl)) Parts.nil))))) (by simp only [List.flatten_cons, List.flatten_nil, List.length_append, List.length_nil]; omega) (by simp)) ?_
 rintro _ w77 ⟨u78, rfl, k79, p80, q81⟩
 have H82 : Sat w [Z7 w (fun _ => False), Z0 b2 24 ([(.int .i64 (cl)), (.int .i64 (seq))] : List Value), Z0 b6 26 (hc x), Z0 b10 26 (hc Z04), Z3e (.slice (some ⟨b17, 0, none⟩) 6 6) ([99, 111, 109, 109, 105, 116]), Zk 5 1 (.slice a33 ((ZK ([99, 111, 109, 109, 105, 116])).length) c34) ((ZK ([99, 111, 109, 109, 105, 116])).length) ((ZK ([99, 111, 109, 109, 105, 116])).flatMap ZE), Zk 5 1 (.slice a43 ((Zf cl).length) c44) ((Zf cl).length) ((Zf cl).flatMap ZE), Zk 5 1 (.slice a53 ((Zf seq).length) c54) ((Zf seq).length) ((Zf seq).flatMap ZE), Zk 5 1 (.slice a63 ((ZK p).length) c64) ((ZK p).length) ((ZK p).flatMap ZE), Zk 62 1 (.slice (some ⟨b67, 0, none⟩) 5 5) 5 ([(.slice a33 ((ZK ([99, 111, 109, 109, 105, 116])).length) c34), (.slice a43 ((Zf cl).length) c44), (.slice a53 ((Zf seq).length) c54), (.slice (some ⟨b6, 0, none⟩) 32 32), (.slice a63 ((ZK p).length) c64)] : List Value), Zk 5 1 u78 (([(ZK ([99, 111, 109, 109, 105, 116])), (Zf cl), (Zf seq), x.l, (ZK p)].flatten).length) (([(ZK ([99, 111, 109, 109, 105, 116])), (Zf cl), (Zf seq), x.l, (ZK p)].flatten).flatMap ZE)] w77 := H69.addU p80 k79 q81
 obtain ⟨a83, c84, rfl⟩ := Z6 (H82.at 10 rfl)
 refine ⟨_, rfl, ?_⟩
 have S85 := H82.pick [0, 1, 2] (by decide)
 refine hK71 _ _ S85 ?_
 clear hK71 K71
 refine Z2R 14 rfl (by kernel_rfl) (Z1 rfl) (fun K86 hK86 => ?_)
 refine Z0g (d := 21) rfl (by kernel_rfl) (ZbO w77 a83 c84 ([(ZK ([99, 111, 109, 109, 105, 116])), (Zf cl), (Zf seq), x.l, (ZK p)].flatten) (ListAt.row (enc := ZE) (sz := 1) ZR (by decide) (H82.at 10 rfl)) (by have q_ := ZcG cl seq x p; unfold ofT at q_; omega)) ?_
 rintro _ w87 ⟨rfl, u89⟩
 have H88 := H82.keepU u89
 refine ⟨_, rfl, ?_⟩
 have S90 := H88.pick [0, 1, 2] (by decide)
 refine hK86 _ _ S90 ?_
 clear hK86 K86
 refine Z2R 15 rfl (by kernel_rfl) (Z1 rfl) (fun K91 hK91 => ?_)
 refine Z1U (vs := (hc (Z19 ([(ZK ([99, 111, 109, 109, 105, 116])), (Zf cl), (Zf seq), x.l, (ZK p)].flatten)))) (cs' := (hc (Z19 ([(ZK ([99, 111, 109, 109, 105, 116])), (Zf cl), (Zf seq), x.l, (ZK p)].flatten)))) rfl H88 3 rfl rfl rfl rfl (by kernel_rfl) (Nat.le_of_ble_eq_true (by kernel_rfl)) (Nat.le_of_ble_eq_true (by kernel_rfl)) (by kernel_rfl) (by kernel_rfl) ?_
 intro w92 (H93 : Sat w [Z7 w (fun _ => False), Z0 b2 24 ([(.int .i64 (cl)), (.int .i64 (seq))] : List Value), Z0 b6 26 (hc x), Z0 b10 26 (hc (Z19 ([(ZK ([99, 111, 109, 109, 105, 116])), (Zf cl), (Zf seq), x.l, (ZK p)].flatten))), Z3e (.slice (some ⟨b17, 0, none⟩) 6 6) ([99, 111, 109, 109, 105, 116]), Zk 5 1 (.slice a33 ((ZK ([99, 111, 109, 109, 105, 116])).length) c34) ((ZK ([99, 111, 109, 109, 105, 116])).length) ((ZK ([99, 111, 109, 109, 105, 116])).flatMap ZE), Zk 5 1 (.slice a43 ((Zf cl).length) c44) ((Zf cl).length) ((Zf cl).flatMap ZE), Zk 5 1 (.slice a53 ((Zf seq).length) c54) ((Zf seq).length) ((Zf seq).flatMap ZE), Zk 5 1 (.slice a63 ((ZK p).length) c64) ((ZK p).length) ((ZK p).flatMap ZE), Zk 62 1 (.slice (some ⟨b67, 0, none⟩) 5 5) 5 ([(.slice a33 ((ZK ([99, 111, 109, 109, 105, 116])).length) c34), (.slice a43 ((Zf cl).length) c44), (.slice a53 ((Zf seq).length) c54), (.slice (some ⟨b6, 0, none⟩) 32 32), (.slice a63 ((ZK p).length) c64)] : List Value), Zk 5 1 (.slice a83 (([(ZK ([99, 111, 109, 109, 105, 116])), (Zf cl), (Zf seq), x.l, (ZK p)].flatten).length) c84) (([(ZK ([99, 111, 109, 109, 105, 116])), (Zf cl), (Zf seq), x.l, (ZK p)].flatten).length) (([(ZK ([99, 111, 109, 109, 105, 116])), (Zf cl), (Zf seq), x.l, (ZK p)].flatten).flatMap ZE)] w92)
 have S95 := H93.pick [0, 1, 2] (by decide)
 refine hK91 _ _ S95 ?_
 clear hK91 K91
 refine Z4t (by kernel_rfl) ?_
 refine Z4 ?_
 refine ZI ?_
 refine Z2e rfl (ZZ (vs := (hc (Z19 ([(ZK ([99, 111, 109, 109, 105, 116])), (Zf cl), (Zf seq), x.l, (ZK p)].flatten)))) rfl (by kernel_rfl) (by kernel_rfl) (by exact Nat.le_of_ble_eq_true (by kernel_rfl)) (H93.at 3 rfl) (by kernel_rfl)) ?_
 exact ⟨rfl, H93.upd 0 rfl [] (fun _ h => h.elim)⟩
end Go.Proofs.YtoaifondpohniaaGreat
