/- WHAT IS PROVED: contracts and plain laws of OfR, SortMath, MedMath, RightD, BatD, Bag, ClD. Conditions: stated with each. -/
import Derived.Calls
import Derived.Test.YtgigjkjdmalmaaaGreatPC03
import Derived.Test.YtgigjkjdmalmaaaGreatPC05
import Derived.Test.YtgigjkjdmalmaaaGreatPC06
import Derived.Test.YtgigjkjdmalmaaaGreatPC08
import Derived.Test.YtgigjkjdmalmaaaGreatPC09
import Derived.Test.YtgigjkjdmalmaaaGreatPC10
set_option maxHeartbeats 4000000
set_option maxRecDepth 100000
namespace Go.Proofs.YtgigjkjdmalmaaaGreat
open Go.RowKit
def ofT (cl seq : Int) (x : Z1H) (p : List UInt8) : List UInt8 := [Zu [99, 111, 109, 109, 105, 116], Zj cl, Zj seq, x.l, Zu p].flatten
theorem Z6z (cl seq : Int) (x : Z1H) (p : List UInt8) : (ofT cl seq x p).length ≤ p.length + 100 := by
 have h1 := Z04 cl; have h2 := Z04 seq; have h3 := x.len; have h4 := Z0D p; have h5 := Z0D [99, 111, 109, 109, 105, 116]
 simp only [List.length_cons, List.length_nil] at h5
 simp only [ofT, List.flatten_cons, List.flatten_nil, List.length_append, List.length_nil]; omega
theorem Z46 (cl seq : Int) (x : Z1H) (p : List UInt8) : ofT cl seq x p = ([] ++ Zu [99, 111, 109, 109, 105, 116] ++ Zj cl ++ Zj seq ++ x.l ++ Zu p) := by
 simp only [ofT, List.flatten_cons, List.flatten_nil, List.append_nil, List.nil_append, List.append_assoc]
theorem Z54 (cl seq : Int) (x : Z1H) (p : List UInt8) (h : p.length ≤ 1000) : ([] ++ Zu [99, 111, 109, 109, 105, 116] ++ Zj cl ++ Zj seq ++ x.l ++ Zu p).length ≤ 1000000 := by
 have := Z6z cl seq x p
 rw [Z46] at this; omega
theorem Z7Z (w : World) (cl seq : Int) (x : Z1H) (pa : Option Addr) (pc : Nat) (p : List UInt8) (hp : ListAt Zo 1 w (.slice pa p.length pc) p) (hcl : cl ≤ 9223372036854775807) (hsq : seq ≤ 9223372036854775807) (hlp : p.length ≤ 1000) :
  Calls Tryz.prog 13 #[(.agg ⟨([(.int .i64 (cl)), (.int .i64 (seq))] : List Value)⟩), (.agg ⟨(hc x)⟩), (.slice pa p.length pc)] w fun e w' => e = .returned (.agg ⟨hc (Z8 (ofT cl seq x p))⟩) ∧ Upd [] w w' := by
 have H := Sat.start0 w
 refine Zv Tryz.func13 rfl 22 rfl (Nat.le_of_ble_eq_true rfl) ?_
 refine Zh ?_
 refine Zs ?_
 refine ZQ (Z2 rfl) (fun K1 hK1 => ?_)
 refine Z0N (vs := ([(.int .i64 (cl)), (.int .i64 (seq))] : List Value)) rfl H rfl rfl ?_
 intro b2 w3 (H4 : Sat w [Za w (fun _ => False), Z3 b2 43 ([(.int .i64 (cl)), (.int .i64 (seq))] : List Value)] w3)
 refine hK1 _ _ ?_
 clear hK1 K1
 refine ZQ (Z2 rfl) (fun K5 hK5 => ?_)
 refine Z0N (vs := (hc x)) rfl H4 rfl rfl ?_
 intro b6 w7 (H8 : Sat w [Za w (fun _ => False), Z3 b2 43 ([(.int .i64 (cl)), (.int .i64 (seq))] : List Value), Z3 b6 40 (hc x)] w7)
 refine hK5 _ _ ?_
 clear hK5 K5
 refine ZQ (Z2 rfl) (fun K9 hK9 => ?_)
 refine Z0V (zs := (hc Zb)) (z := (.agg ⟨(hc Zb)⟩)) rfl H8 (by kernel_rfl) (by kernel_rfl) ?_
 intro b10 w11 (H12 : Sat w [Za w (fun _ => False), Z3 b2 43 ([(.int .i64 (cl)), (.int .i64 (seq))] : List Value), Z3 b6 40 (hc x), Z3 b10 40 (hc Zb)] w11)
 refine hK9 _ _ ?_
 clear hK9 K9
 refine Zr ?_
 refine Z7 ?_
 refine Zh ?_
 refine Z0g H12 [Za w (fun _ => False), Z3 b2 43 ([(.int .i64 (cl)), (.int .i64 (seq))] : List Value), Z3 b6 40 (hc x)] 16 rfl (by kernel_rfl) (fun Hx => (Hx.pick [0, 1, 2] (by decide))) ?_
 intro w13 H14 S15
 refine Zp 3 rfl (by kernel_rfl) (by kernel_rfl) (by kernel_rfl) (fun _ _ _ h => h) S15 (Z2 rfl) (d := 10) (v := (.pointer (some ⟨b2, 0, none⟩))) rfl (fun _ H' => (by kernel_rfl)) ?_
 refine Zp 4 rfl (by kernel_rfl) (by kernel_rfl) (by kernel_rfl) (fun _ _ _ h => h) S15 (Z2 rfl) (d := 11) (v := (.int .i64 (cl))) rfl (fun _ H' => (Zi rfl (by kernel_rfl) (H'.cell 1 rfl rfl))) ?_
 refine Zp 6 rfl (by kernel_rfl) (by kernel_rfl) (by kernel_rfl) (fun _ _ _ h => h) S15 (Z2 rfl) (d := 13) (v := (.pointer (some ⟨b2, 1, none⟩))) rfl (fun _ H' => (by kernel_rfl)) ?_
 refine Zp 7 rfl (by kernel_rfl) (by kernel_rfl) (by kernel_rfl) (fun _ _ _ h => h) S15 (Z2 rfl) (d := 14) (v := (.int .i64 (seq))) rfl (fun _ H' => (Zi rfl (by kernel_rfl) (H'.cell 1 rfl rfl))) ?_
 refine Zp 9 rfl (by kernel_rfl) (by kernel_rfl) (by kernel_rfl) (fun _ _ _ h => h) S15 (Z2 rfl) (d := 16) (v := (.slice (some ⟨b6, 0, none⟩) 32 32)) rfl (fun _ H' => (by kernel_rfl)) ?_
 refine Zp 10 rfl (by kernel_rfl) (by kernel_rfl) (by kernel_rfl) (fun _ _ _ h => h) S15 (Z2 rfl) (d := 17) (v := (.slice pa p.length pc)) rfl (fun _ H' => (by kernel_rfl)) ?_
 refine Z13 0 rfl (by kernel_rfl) (Z2 rfl) (fun K16 hK16 => ?_)
 refine ZY (e := 5) (size := 1) (bytes := 1) (z := (.int .u8 (0))) (pvs := [(0, (.int .u8 (99))), (1, (.int .u8 (111))), (2, (.int .u8 (109))), (3, (.int .u8 (109))), (4, (.int .u8 (105))), (5, (.int .u8 (116)))]) (vs := ([(.int .u8 (99)), (.int .u8 (111)), (.int .u8 (109)), (.int .u8 (109)), (.int .u8 (105)), (.int .u8 (116))] : List Value)) rfl H14 (by kernel_rfl) (by kernel_rfl) (by kernel_rfl) (by kernel_rfl) (by kernel_rfl) rfl rfl ?_
 intro b17 w18 (H19 : Sat w [Za w (fun _ => False), Z3 b2 43 ([(.int .i64 (cl)), (.int .i64 (seq))] : List Value), Z3 b6 40 (hc x), Z3 b10 40 (hc Zb), Ze 5 1 (.slice (some ⟨b17, 0, none⟩) 6 6) 6 ([(.int .u8 (99)), (.int .u8 (111)), (.int .u8 (109)), (.int .u8 (109)), (.int .u8 (105)), (.int .u8 (116))] : List Value)] w18)
 have H20 : Sat w [Za w (fun _ => False), Z3 b2 43 ([(.int .i64 (cl)), (.int .i64 (seq))] : List Value), Z3 b6 40 (hc x), Z3 b10 40 (hc Zb), Ze 5 1 (.slice (some ⟨b17, 0, none⟩) 6 6) 6 ([99, 111, 109, 109, 105, 116].flatMap Zo)] w18 := H19.cast (by rw [show (([(.int .u8 (99)), (.int .u8 (111)), (.int .u8 (109)), (.int .u8 (109)), (.int .u8 (105)), (.int .u8 (116))] : List Value) : List Value) = [99, 111, 109, 109, 105, 116].flatMap Zo from rfl])
 have S21 := H20.pick [0, 1, 2] (by decide)
 refine hK16 _ _ S21 ?_
 clear hK16 K16
 refine Z13 1 rfl (by kernel_rfl) (Z2 rfl) (fun K22 hK22 => ?_)
 refine Z0E (e := 5) (s := [99, 111, 109, 109, 105, 116]) rfl H20 4 rfl (by kernel_rfl) (by kernel_rfl) rfl ?_
 intro w23 (H24 : Sat w [Za w (fun _ => False), Z3 b2 43 ([(.int .i64 (cl)), (.int .i64 (seq))] : List Value), Z3 b6 40 (hc x), Z3 b10 40 (hc Zb), ZN (.slice (some ⟨b17, 0, none⟩) 6 6) ([99, 111, 109, 109, 105, 116])] w23)
 have S25 := H24.pick [0, 1, 2] (by decide)
 refine hK22 _ _ S25 ?_
 clear hK22 K22
 refine Z13 2 rfl (by kernel_rfl) (Z2 rfl) (fun K26 hK26 => ?_)
 refine ZJ (d := 9) rfl (by kernel_rfl) (Z4a w23 (.slice (some ⟨b17, 0, none⟩) 6 6) ([99, 111, 109, 109, 105, 116]) (ListAt.ofTxt (H24.at 4 rfl)) (by simp)) ?_
 rintro _ w27 ⟨u28, rfl, k29, p30, q31⟩
 have H32 : Sat w [Za w (fun _ => False), Z3 b2 43 ([(.int .i64 (cl)), (.int .i64 (seq))] : List Value), Z3 b6 40 (hc x), Z3 b10 40 (hc Zb), ZN (.slice (some ⟨b17, 0, none⟩) 6 6) ([99, 111, 109, 109, 105, 116]), Ze 5 1 u28 ((Zu ([99, 111, 109, 109, 105, 116])).length) ((Zu ([99, 111, 109, 109, 105, 116])).flatMap Zo)] w27 := H24.addU p30 k29 q31
 obtain ⟨a33, c34, rfl⟩ := Zg (H32.at 5 rfl)
 refine ⟨_, rfl, ?_⟩
 have S35 := H32.pick [0, 1, 2] (by decide)
 refine hK26 _ _ S35 ?_
 clear hK26 K26
 refine Z13 5 rfl (by kernel_rfl) (Z2 rfl) (fun K36 hK36 => ?_)
 refine ZJ (d := 12) rfl (by kernel_rfl) (Z20 w27 cl (by omega)) ?_
 rintro _ w37 ⟨u38, rfl, k39, p40, q41⟩
 have H42 : Sat w [Za w (fun _ => False), Z3 b2 43 ([(.int .i64 (cl)), (.int .i64 (seq))] : List Value), Z3 b6 40 (hc x), Z3 b10 40 (hc Zb), ZN (.slice (some ⟨b17, 0, none⟩) 6 6) ([99, 111, 109, 109, 105, 116]), Ze 5 1 (.slice a33 ((Zu ([99, 111, 109, 109, 105, 116])).length) c34) ((Zu ([99, 111, 109, 109, 105, 116])).length) ((Zu ([99, 111, 109, 109, 105, 116])).flatMap Zo), Ze 5 1 u38 ((Zj cl).length) ((Zj cl).flatMap Zo)] w37 := H32.addU p40 k39 q41
 obtain ⟨a43, c44, rfl⟩ := Zg (H42.at 6 rfl)
 refine ⟨_, rfl, ?_⟩
 have S45 := H42.pick [0, 1, 2] (by decide)
 refine hK36 _ _ S45 ?_
 clear hK36 K36
 refine Z13 8 rfl (by kernel_rfl) (Z2 rfl) (fun K46 hK46 => ?_)
 refine ZJ (d := 15) rfl (by kernel_rfl) (Z20 w37 seq (by omega)) ?_
 rintro _ w47 ⟨u48, rfl, k49, p50, q51⟩
 have H52 : Sat w [Za w (fun _ => False), Z3 b2 43 ([(.int .i64 (cl)), (.int .i64 (seq))] : List Value), Z3 b6 40 (hc x), Z3 b10 40 (hc Zb), ZN (.slice (some ⟨b17, 0, none⟩) 6 6) ([99, 111, 109, 109, 105, 116]), Ze 5 1 (.slice a33 ((Zu ([99, 111, 109, 109, 105, 116])).length) c34) ((Zu ([99, 111, 109, 109, 105, 116])).length) ((Zu ([99, 111, 109, 109, 105, 116])).flatMap Zo), Ze 5 1 (.slice a43 ((Zj cl).length) c44) ((Zj cl).length) ((Zj cl).flatMap Zo), Ze 5 1 u48 ((Zj seq).length) ((Zj seq).flatMap Zo)] w47 := H42.addU p50 k49 q51
 obtain ⟨a53, c54, rfl⟩ := Zg (H52.at 7 rfl)
 refine ⟨_, rfl, ?_⟩
 have S55 := H52.pick [0, 1, 2] (by decide)
 refine hK46 _ _ S55 ?_
 clear hK46 K46
 refine Z13 11 rfl (by kernel_rfl) (Z2 rfl) (fun K56 hK56 => ?_)
 refine ZJ (d := 18) rfl (by kernel_rfl) (Z4a w47 (.slice pa p.length pc) p (ListAt.now H52 0 rfl hp) (by omega)) ?_
 rintro _ w57 ⟨u58, rfl, k59, p60, q61⟩
 have H62 : Sat w [Za w (fun _ => False), Z3 b2 43 ([(.int .i64 (cl)), (.int .i64 (seq))] : List Value), Z3 b6 40 (hc x), Z3 b10 40 (hc Zb), ZN (.slice (some ⟨b17, 0, none⟩) 6 6) ([99, 111, 109, 109, 105, 116]), Ze 5 1 (.slice a33 ((Zu ([99, 111, 109, 109, 105, 116])).length) c34) ((Zu ([99, 111, 109, 109, 105, 116])).length) ((Zu ([99, 111, 109, 109, 105, 116])).flatMap Zo), Ze 5 1 (.slice a43 ((Zj cl).length) c44) ((Zj cl).length) ((Zj cl).flatMap Zo), Ze 5 1 (.slice a53 ((Zj seq).length) c54) ((Zj seq).length) ((Zj seq).flatMap Zo), Ze 5 1 u58 ((Zu p).length) ((Zu p).flatMap Zo)] w57 := H52.addU p60 k59 q61
 obtain ⟨a63, c64, rfl⟩ := Zg (H62.at 8 rfl)
 refine ⟨_, rfl, ?_⟩
 have S65 := H62.pick [0, 1, 2] (by decide)
 refine hK56 _ _ S65 ?_
 clear hK56 K56
 refine Z13 12 rfl (by kernel_rfl) (Z2 rfl) (fun K66 hK66 => ?_)
 refine ZY (e := 38) (size := 1) (bytes := 24) (z := (.slice none 0 0)) (pvs := [(0, (.slice a33 ((Zu ([99, 111, 109, 109, 105, 116])).length) c34)), (1, (.slice a43 ((Zj cl).length) c44)), (2, (.slice a53 ((Zj seq).length) c54)), (3, (.slice (some ⟨b6, 0, none⟩) 32 32)), (4, (.slice a63 ((Zu p).length) c64))]) (vs := ([(.slice a33 ((Zu ([99, 111, 109, 109, 105, 116])).length) c34), (.slice a43 ((Zj cl).length) c44), (.slice a53 ((Zj seq).length) c54), (.slice (some ⟨b6, 0, none⟩) 32 32), (.slice a63 ((Zu p).length) c64)] : List Value)) rfl H62 (by kernel_rfl) (by kernel_rfl) (by kernel_rfl) (by kernel_rfl) (by kernel_rfl) rfl rfl ?_
 intro b67 w68 (H69 : Sat w [Za w (fun _ => False), Z3 b2 43 ([(.int .i64 (cl)), (.int .i64 (seq))] : List Value), Z3 b6 40 (hc x), Z3 b10 40 (hc Zb), ZN (.slice (some ⟨b17, 0, none⟩) 6 6) ([99, 111, 109, 109, 105, 116]), Ze 5 1 (.slice a33 ((Zu ([99, 111, 109, 109, 105, 116])).length) c34) ((Zu ([99, 111, 109, 109, 105, 116])).length) ((Zu ([99, 111, 109, 109, 105, 116])).flatMap Zo), Ze 5 1 (.slice a43 ((Zj cl).length) c44) ((Zj cl).length) ((Zj cl).flatMap Zo), Ze 5 1 (.slice a53 ((Zj seq).length) c54) ((Zj seq).length) ((Zj seq).flatMap Zo), Ze 5 1 (.slice a63 ((Zu p).length) c64) ((Zu p).length) ((Zu p).flatMap Zo), Ze 38 1 (.slice (some ⟨b67, 0, none⟩) 5 5) 5 ([(.slice a33 ((Zu ([99, 111, 109, 109, 105, 116])).length) c34), (.slice a43 ((Zj cl).length) c44), (.slice a53 ((Zj seq).length) c54), (.slice (some ⟨b6, 0, none⟩) 32 32), (.slice a63 ((Zu p).length) c64)] : List Value)] w68)
 have S70 := H69.pick [0, 1, 2] (by decide)
 refine hK66 _ _ S70 ?_
 clear hK66 K66
 refine Z13 13 rfl (by kernel_rfl) (Z2 rfl) (fun K71 hK71 => ?_)
 have l72 := Z0D ([99, 111, 109, 109, 105, 116])
 simp only [List.length_cons, List.length_nil] at l72
 have l73 := Z04 cl
 have l74 := Z04 seq
 have l75 := x.len
 have l76 := Z0D p
 refine ZJ (d := 20) rfl (by kernel_rfl) (Z2r w68 (.slice (some ⟨b67, 0, none⟩) 5 5) [(.slice a33 ((Zu ([99, 111, 109, 109, 105, 116])).length) c34), (.slice a43 ((Zj cl).length) c44), (.slice a53 ((Zj seq).length) c54), (.slice (some ⟨b6, 0, none⟩) 32 32), (.slice a63 ((Zu p).length) c64)] [(Zu ([99, 111, 109, 109, 105, 116])), (Zj cl), (Zj seq), x.l, (Zu p)] (ListAt.row (enc := Z8d) (sz := 1) (xs := [(.slice a33 ((Zu ([99, 111, 109, 109, 105, 116])).length) c34), (.slice a43 ((Zj cl).length) c44), (.slice a53 ((Zj seq).length) c54), (.slice (some ⟨b6, 0, none⟩) 32 32), (.slice a63 ((Zu p).length) c64)]) Z2W (by decide) (H69.at 9 rfl)) (Parts.cons (ListAt.row (enc := Zo) (sz := 1) ZV (by decide) (H69.at 5 rfl)) (Parts.cons (ListAt.row (enc := Zo) (sz := 1) ZV (by decide) (H69.at 6 rfl)) (Parts.cons (ListAt.row (enc := Zo) (sz := 1) ZV (by decide) (H69.at 7 rfl)) (Parts.cons (ListAt.ofHash (Z33 (H69.at 2 rfl) (by kernel_rfl)) (by decide)) (Parts.cons (ListAt.row (enc := Zo) (sz := 1) ZV (by decide) (H69.at 8 rfl)) Parts.nil))))) (by simp only [List.flatten_cons, List.flatten_nil, List.length_append, List.length_nil]; omega) (by simp)) ?_
 rintro _ w77 ⟨u78, rfl, k79, p80, q81⟩
 have H82 : Sat w [Za w (fun _ => False), Z3 b2 43 ([(.int .i64 (cl)), (.int .i64 (seq))] : List Value), Z3 b6 40 (hc x), Z3 b10 40 (hc Zb), ZN (.slice (some ⟨b17, 0, none⟩) 6 6) ([99, 111, 109, 109, 105, 116]), Ze 5 1 (.slice a33 ((Zu ([99, 111, 109, 109, 105, 116])).length) c34) ((Zu ([99, 111, 109, 109, 105, 116])).length) ((Zu ([99, 111, 109, 109, 105, 116])).flatMap Zo), Ze 5 1 (.slice a43 ((Zj cl).length) c44) ((Zj cl).length) ((Zj cl).flatMap Zo), Ze 5 1 (.slice a53 ((Zj seq).length) c54) ((Zj seq).length) ((Zj seq).flatMap Zo), Ze 5 1 (.slice a63 ((Zu p).length) c64) ((Zu p).length) ((Zu p).flatMap Zo), Ze 38 1 (.slice (some ⟨b67, 0, none⟩) 5 5) 5 ([(.slice a33 ((Zu ([99, 111, 109, 109, 105, 116])).length) c34), (.slice a43 ((Zj cl).length) c44), (.slice a53 ((Zj seq).length) c54), (.slice (some ⟨b6, 0, none⟩) 32 32), (.slice a63 ((Zu p).length) c64)] : List Value), Ze 5 1 u78 (([(Zu ([99, 111, 109, 109, 105, 116])), (Zj cl), (Zj seq), x.l, (Zu p)].flatten).length) (([(Zu ([99, 111, 109, 109, 105, 116])), (Zj cl), (Zj seq), x.l, (Zu p)].flatten).flatMap Zo)] w77 := H69.addU p80 k79 q81
 obtain ⟨a83, c84, rfl⟩ := Zg (H82.at 10 rfl)
 refine ⟨_, rfl, ?_⟩
 have S85 := H82.pick [0, 1, 2] (by decide)
 refine hK71 _ _ S85 ?_
 clear hK71 K71
 refine Z13 14 rfl (by kernel_rfl) (Z2 rfl) (fun K86 hK86 => ?_)
 refine ZJ (d := 21) rfl (by kernel_rfl) (Z7m w77 a83 c84 ([(Zu ([99, 111, 109, 109, 105, 116])), (Zj cl), (Zj seq), x.l, (Zu p)].flatten) (ListAt.row (enc := Zo) (sz := 1) ZV (by decide) (H82.at 10 rfl)) (by have q_ := Z6z cl seq x p; unfold ofT at q_; omega)) ?_
 rintro _ w87 ⟨rfl, u89⟩
 have H88 := H82.keepU u89
 refine ⟨_, rfl, ?_⟩
 have S90 := H88.pick [0, 1, 2] (by decide)
 refine hK86 _ _ S90 ?_
 clear hK86 K86
 refine Z13 15 rfl (by kernel_rfl) (Z2 rfl) (fun K91 hK91 => ?_)
 refine Z01 (vs := (hc (Z8 ([(Zu ([99, 111, 109, 109, 105, 116])), (Zj cl), (Zj seq), x.l, (Zu p)].flatten)))) (cs' := (hc (Z8 ([(Zu ([99, 111, 109, 109, 105, 116])), (Zj cl), (Zj seq), x.l, (Zu p)].flatten)))) rfl H88 3 rfl rfl rfl rfl (by kernel_rfl) (Nat.le_of_ble_eq_true (by kernel_rfl)) (Nat.le_of_ble_eq_true (by kernel_rfl)) (by kernel_rfl) (by kernel_rfl) ?_
 intro w92 (H93 : Sat w [Za w (fun _ => False), Z3 b2 43 ([(.int .i64 (cl)), (.int .i64 (seq))] : List Value), Z3 b6 40 (hc x), Z3 b10 40 (hc (Z8 ([(Zu ([99, 111, 109, 109, 105, 116])), (Zj cl), (Zj seq), x.l, (Zu p)].flatten))), ZN (.slice (some ⟨b17, 0, none⟩) 6 6) ([99, 111, 109, 109, 105, 116]), Ze 5 1 (.slice a33 ((Zu ([99, 111, 109, 109, 105, 116])).length) c34) ((Zu ([99, 111, 109, 109, 105, 116])).length) ((Zu ([99, 111, 109, 109, 105, 116])).flatMap Zo), Ze 5 1 (.slice a43 ((Zj cl).length) c44) ((Zj cl).length) ((Zj cl).flatMap Zo), Ze 5 1 (.slice a53 ((Zj seq).length) c54) ((Zj seq).length) ((Zj seq).flatMap Zo), Ze 5 1 (.slice a63 ((Zu p).length) c64) ((Zu p).length) ((Zu p).flatMap Zo), Ze 38 1 (.slice (some ⟨b67, 0, none⟩) 5 5) 5 ([(.slice a33 ((Zu ([99, 111, 109, 109, 105, 116])).length) c34), (.slice a43 ((Zj cl).length) c44), (.slice a53 ((Zj seq).length) c54), (.slice (some ⟨b6, 0, none⟩) 32 32), (.slice a63 ((Zu p).length) c64)] : List Value), Ze 5 1 (.slice a83 (([(Zu ([99, 111, 109, 109, 105, 116])), (Zj cl), (Zj seq), x.l, (Zu p)].flatten).length) c84) (([(Zu ([99, 111, 109, 109, 105, 116])), (Zj cl), (Zj seq), x.l, (Zu p)].flatten).length) (([(Zu ([99, 111, 109, 109, 105, 116])), (Zj cl), (Zj seq), x.l, (Zu p)].flatten).flatMap Zo)] w92)
 have S95 := H93.pick [0, 1, 2] (by decide)
 refine hK91 _ _ S95 ?_
 clear hK91 K91
 refine Z0M (by kernel_rfl) ?_
 refine Z7 ?_
 refine ZU ?_
 refine Z0T rfl (Z0a (vs := (hc (Z8 ([(Zu ([99, 111, 109, 109, 105, 116])), (Zj cl), (Zj seq), x.l, (Zu p)].flatten)))) rfl (by kernel_rfl) (by kernel_rfl) (by exact Nat.le_of_ble_eq_true (by kernel_rfl)) (H93.at 3 rfl) (by kernel_rfl)) ?_
 exact ⟨rfl, H93.upd 0 rfl [] (fun _ h => h.elim)⟩
end Go.Proofs.YtgigjkjdmalmaaaGreat
namespace Go.Proofs.YtgigjkjdmalmaaaGreat
structure SW {α : Type} (lt : α → α → Bool) : Prop where
 asym : ∀ x y, lt x y = true → lt y x = false
 neg : ∀ x y w, lt x y = false → lt y w = false → lt x w = false
section
variable {α : Type} {lt : α → α → Bool} {A B C D : List α} {a b c d i j k m : Nat} {x y z : α}
theorem SW.irrefl (h : SW lt) (x : α) : lt x x = false := by
 cases e : lt x x
 ·rfl
 ·exact absurd (h.asym x x e) (by simp [e])
inductive SegP (a b : Nat) (A : List α) : List α → Prop
 | refl : SegP a b A A
 | swap {B : List α} {i j : Nat} {x y : α} : SegP a b A B → a ≤ i → i < b → a ≤ j → j < b → B[i]? = some x → B[j]? = some y → SegP a b A ((B.set i y).set j x)
theorem Z7D (h : A[i]? = some x) : i < A.length := (List.getElem?_eq_some_iff.1 h).1
theorem Z5h (hx : A[i]? = some x) (hy : A[j]? = some y) (k : Nat) : ((A.set i y).set j x)[k]? = if k = j then some x else if k = i then some y else A[k]? := by
 have h1 := Z7D hx
 have h2 := Z7D hy
 rw [List.getElem?_set, List.getElem?_set, List.length_set]
 by_cases e1 : j = k
 ·subst e1; simp [h2]
 ·rw [if_neg e1, if_neg (Ne.symm e1)]
  by_cases e2 : i = k
  ·subst e2; simp [h1]
  ·rw [if_neg e2, if_neg (Ne.symm e2)]
theorem SegP.len (h : SegP a b A B) : B.length = A.length := by
 induction h with
 | refl => rfl
 | swap _ _ _ _ _ _ _ ih => simpa using ih
theorem SegP.perm (h : SegP a b A B) : B.Perm A := by
 induction h with
 | refl => exact List.Perm.refl _
 | @swap B i j x y _ _ _ _ _ hx hy ih =>
  refine List.Perm.trans ?_ ih
  obtain ⟨h1, rfl⟩ := List.getElem?_eq_some_iff.1 hx
  obtain ⟨h2, rfl⟩ := List.getElem?_eq_some_iff.1 hy
  exact List.set_set_perm h1 h2
theorem SegP.out (h : SegP a b A B) (hk : k < a ∨ b ≤ k) : B[k]? = A[k]? := by
 induction h with
 | refl => rfl
 | @swap B i j x y _ h1 h2 h3 h4 hx hy ih => rw [Z5h hx hy, if_neg (by omega), if_neg (by omega), ih]
theorem SegP.mono (h : SegP a b A B) (ha : c ≤ a) (hb : b ≤ d) : SegP c d A B := by
 induction h with
 | refl => exact .refl
 | swap _ h1 h2 h3 h4 hx hy ih => exact ih.swap (by omega) (by omega) (by omega) (by omega) hx hy
theorem SegP.trans (h : SegP a b A B) (k : SegP a b B C) : SegP a b A C := by
 induction k with
 | refl => exact h
 | swap _ h1 h2 h3 h4 hx hy ih => exact ih.swap h1 h2 h3 h4 hx hy
def Z5A (p : α → Prop) (c d : Nat) (A : List α) : Prop := ∀ k x, c ≤ k → k < d → A[k]? = some x → p x
theorem SegP.all {p : α → Prop} (h : SegP a b A B) (hc : c ≤ a) (hd : b ≤ d) (hA : Z5A p c d A) : Z5A p c d B := by
 induction h with
 | refl => exact hA
 | @swap B i j x y _ h1 h2 h3 h4 hx hy ih =>
  intro k u hk hk2 hu
  rw [Z5h hx hy] at hu
  split at hu
  ·cases hu; exact ih i x (by omega) (by omega) hx
  split at hu
  ·cases hu; exact ih j y (by omega) (by omega) hy
  ·exact ih k u hk hk2 hu
def Srt (lt : α → α → Bool) (a b : Nat) (A : List α) : Prop := ∀ i j x y, a ≤ i → i < j → j < b → A[i]? = some x → A[j]? = some y → lt y x = false
def Le2 (lt : α → α → Bool) (a b c d : Nat) (A : List α) : Prop := ∀ i j x y, a ≤ i → i < b → c ≤ j → j < d → A[i]? = some x → A[j]? = some y → lt y x = false
theorem Srt.short (h : b ≤ a + 1) : Srt lt a b A := fun i j _ _ h1 h2 h3 _ _ => by omega
theorem Srt.out (hs : Srt lt a b A) (h : SegP c d A B) (hcd : b ≤ c ∨ d ≤ a) : Srt lt a b B := by
 intro i j x y h1 h2 h3 hx hy
 rw [h.out (by omega)] at hx hy
 exact hs i j x y h1 h2 h3 hx hy
theorem Le2.left (hl : Le2 lt a b c d A) (h : SegP i j A B) (h1 : a ≤ i) (h2 : j ≤ b) (h3 : b ≤ c) : Le2 lt a b c d B := by
 intro p q x y hp1 hp2 hq1 hq2 hx hy
 rw [h.out (by omega)] at hy
 exact h.all (p := fun x => lt y x = false) h1 h2 (fun k u hk hk2 hu => hl k q u y hk hk2 hq1 hq2 hu hy) p x hp1 hp2 hx
theorem Le2.right (hl : Le2 lt a b c d A) (h : SegP i j A B) (h1 : c ≤ i) (h2 : j ≤ d) (h3 : b ≤ c) : Le2 lt a b c d B := by
 intro p q x y hp1 hp2 hq1 hq2 hx hy
 rw [h.out (by omega)] at hx
 exact h.all (p := fun y => lt y x = false) h1 h2 (fun k u hk hk2 hu => hl p k x u hp1 hp2 hk hk2 hx hu) q y hq1 hq2 hy
structure Ins (lt : α → α → Bool) (a i j : Nat) (B : List α) : Prop where
 lo : Srt lt a j B
 hi : Srt lt j (i + 1) B
 cr : Le2 lt a j (j + 1) (i + 1) B
theorem Ins.start (h : Srt lt a i B) : Ins lt a i i B := ⟨h, Srt.short (by omega), fun p q _ _ _ _ h3 h4 _ _ => by omega⟩
def Kid (r c : Nat) : Prop := c = 2 * r + 1 ∨ c = 2 * r + 2
def Heap (lt : α → α → Bool) (f lo hi : Nat) (B : List α) : Prop := ∀ r c x y, lo ≤ r → Kid r c → c < hi → B[f + r]? = some x → B[f + c]? = some y → lt x y = false
structure Sift (lt : α → α → Bool) (f lo hi root : Nat) (B : List α) : Prop where
 oth : ∀ r c x y, lo ≤ r → r ≠ root → Kid r c → c < hi → B[f + r]? = some x → B[f + c]? = some y → lt x y = false
 up : ∀ r c x y, lo ≤ r → Kid r root → Kid root c → c < hi → B[f + r]? = some x → B[f + c]? = some y → lt x y = false
theorem Sift.start {f lo hi : Nat} (h : Heap lt f (lo + 1) hi B) : Sift lt f lo hi lo B :=
 ⟨fun r c x y h1 h2 h3 h4 hx hy => h r c x y (by omega) h3 h4 hx hy, fun r c x y h1 h2 _ _ _ _ => by unfold Kid at h2; omega⟩
theorem Heap.max (hw : SW lt) {f hi : Nat} (h : Heap lt f 0 hi B) (hb : f + hi ≤ B.length) (hx : B[f]? = some x) : ∀ k y, k < hi → B[f + k]? = some y → lt x y = false := by
 intro k
 induction k using Nat.strongRecOn with
 | _ k ih =>
  intro y hk hy
  by_cases e : k = 0
  ·subst e; rw [Nat.add_zero, hx] at hy; cases hy; exact hw.irrefl _
  ·have hp : f + (k - 1) / 2 < B.length := by omega
   have h1 := ih ((k - 1) / 2) (by omega) _ (by omega) (List.getElem?_eq_getElem hp)
   exact hw.neg _ _ _ h1 (h ((k - 1) / 2) k _ y (Nat.zero_le _) (by unfold Kid; omega) hk (List.getElem?_eq_getElem hp) hy)
structure Pop (lt : α → α → Bool) (f i hi : Nat) (B : List α) : Prop where
 heap : Heap lt f 0 i B
 srt : Srt lt (f + i) (f + hi) B
 le : Le2 lt f (f + i) (f + i) (f + hi) B
theorem Pop.start {f hi : Nat} (h : Heap lt f 0 hi B) : Pop lt f hi hi B := ⟨h, Srt.short (by omega), fun p q _ _ _ _ h3 h4 _ _ => by omega⟩
structure Cut3 (lt : α → α → Bool) (a m b : Nat) (B : List α) : Prop where
 lo : ∀ k x y, a ≤ k → k < m → B[k]? = some x → B[m]? = some y → lt y x = false
 hi : ∀ k x y, m < k → k < b → B[k]? = some x → B[m]? = some y → lt x y = false
structure Part (lt : α → α → Bool) (a i j b : Nat) (pv : α) (B : List α) : Prop where
 at_ : B[a]? = some pv
 lo : Z5A (fun x => lt x pv = true) (a + 1) i B
 hi : Z5A (fun x => lt x pv = false) (j + 1) b B
theorem Part.start (h : B[a]? = some x) (_hb : a < b) : Part lt a (a + 1) (b - 1) b x B := ⟨h, fun k _ h1 h2 _ => by omega, fun k _ h1 h2 _ => by omega⟩
structure PartE (lt : α → α → Bool) (a i j b : Nat) (pv : α) (B : List α) : Prop where
 at_ : B[a]? = some pv
 lo : Z5A (fun x => lt pv x = false) a i B
 hi : Z5A (fun x => lt pv x = true) (j + 1) b B
theorem PartE.start (hw : SW lt) (h : B[a]? = some x) (hb : a < b) : PartE lt a (a + 1) (b - 1) b x B :=
  ⟨h, fun k u h1 h2 hu => by obtain rfl : k = a := by omega
                             rw [h] at hu; cases hu; exact hw.irrefl _, fun k _ h1 h2 _ => by omega⟩
structure Pdq (lt : α → α → Bool) (a0 b0 a b : Nat) (A B : List α) : Prop where
 seg : SegP a0 b0 A B
 ab : a0 ≤ a ∧ a ≤ b ∧ b ≤ b0
 lo : Srt lt a0 a B
 l2 : Le2 lt a0 a a b0 B
 hi : Srt lt b b0 B
 h2 : Le2 lt a0 b b b0 B
theorem Pdq.start (h : a ≤ b) : Pdq lt a b a b A A := ⟨.refl, by omega, Srt.short (by omega), fun p q _ _ h1 h2 _ _ _ _ => by omega, Srt.short (by omega), fun p q _ _ _ _ h1 h2 _ _ => by omega⟩
theorem Cut3.left (h : Cut3 lt a m b B) (hS : SegP a m B C) : Cut3 lt a m b C :=
  ⟨fun k x y h1 h2 hx hy => by
    rw [hS.out (.inr (Nat.le_refl _))] at hy
    exact hS.all (p := fun x => lt y x = false) (Nat.le_refl _) (Nat.le_refl _) (fun k u h3 h4 hu => h.lo k u y h3 h4 hu hy) k x h1 h2 hx,
   fun k x y h1 h2 hx hy => by
    rw [hS.out (.inr (by omega))] at hx
    rw [hS.out (.inr (Nat.le_refl _))] at hy
    exact h.hi k x y h1 h2 hx hy⟩
theorem Cut3.right (h : Cut3 lt a m b B) (hS : SegP (m + 1) b B C) : Cut3 lt a m b C :=
  ⟨fun k x y h1 h2 hx hy => by
    rw [hS.out (.inl (by omega))] at hx
    rw [hS.out (.inl (by omega))] at hy
    exact h.lo k x y h1 h2 hx hy,
   fun k x y h1 h2 hx hy => by
    rw [hS.out (.inl (by omega))] at hy
    exact hS.all (p := fun x => lt x y = false) (Nat.le_refl _) (Nat.le_refl _) (fun k u h3 h4 hu => h.hi k u y (by omega) h4 hu hy) k x (by omega) h2 hx⟩
end
def cLt (xs : List Int) (m : Int) : Nat := xs.countP fun x => decide (x < m)
def cLe (xs : List Int) (m : Int) : Nat := xs.countP fun x => decide (x ≤ m)
structure MedP (xs : List Int) (m : Int) : Prop where
 mem : m ∈ xs
 lt : cLt xs m ≤ xs.length / 2
 le : xs.length / 2 < cLe xs m
theorem MedP.perm {xs ys : List Int} {a : Int} (h : MedP xs a) (hp : xs.Perm ys) : MedP ys a := by
 refine ⟨hp.mem_iff.1 h.mem, ?_, ?_⟩
 ·unfold cLt; rw [← hp.countP_eq, ← hp.length_eq]; exact h.lt
 ·unfold cLe; rw [← hp.countP_eq, ← hp.length_eq]; exact h.le
end Go.Proofs.YtgigjkjdmalmaaaGreat
namespace Go.Proofs.YtgigjkjdmalmaaaGreat
open Go.RowKit
def inB (f r : Int) : Bool := decide (0 ≤ r) && decide (r < 3 * f + 1)
def Z0W (f : Int) (L : List Z4) (s : Zl) : Bool := inB f s.r && decide (1 ≤ s.t) && decide (s.t < 18446744073709551615) && decide (s.sb = s.r) && Z1S L s.sb s.sm (Z08 s)
def Z2H (s : Zl) (x : Z0) : Bool := decide (s.cl = x.cl ∧ s.seq = x.seq) && decide (s.h = x.h)
def StOk (s : Zl) : Prop := s.r ≤ 9223372036854775807 ∧ s.cl ≤ 9223372036854775807 ∧ s.seq ≤ 9223372036854775807 ∧ 0 ≤ s.t ∧ s.t < 18446744073709551616
def Z0G (v n : Int) : Int := if n < 1 then 0 else v % n
theorem Z2L (v n : Int) (h : 1 ≤ n) : 0 ≤ Z0G v n ∧ Z0G v n < n := by
 unfold Z0G; rw [if_neg (by omega)]
 exact ⟨Int.emod_nonneg _ (by omega), Int.emod_lt_of_pos _ (by omega)⟩
structure EntD where
 cl : Int
 sq : Int
 h : Z1H
 t : Int
def encEn (x : EntD) : List Value := [.int .i64 x.cl, .int .i64 x.sq] ++ hc x.h ++ [.int .u64 x.t]
def Z0u (L : List Ck) : Ck where
 fp b := ∃ A ∈ L, A.fp b
 ok w := ∀ A ∈ L, A.ok w
 stay {w w'} h hb A hA := A.stay (h A hA) fun b hf => hb b ⟨A, hA, hf⟩
 lt {w} h b hb := by obtain ⟨A, hA, hf⟩ := hb; exact A.lt (h A hA) b hf
section
variable {w0 w : World} {A : Ck} {L R G : List Ck}
theorem Sat.bag0 (H : Sat w0 G w) : Sat w0 (G ++ [Z0u []]) w :=
 H.add (Ext.refl w) (fun _ _ => rfl) (fun A hA => by simp at hA) (fun b hb => by obtain ⟨A, hA, _⟩ := hb; simp at hA)
theorem Sat.bag (H : Sat w0 (Z0u L :: A :: R) w) : Sat w0 (Z0u (A :: L) :: R) w := by
 have h1 := List.pairwise_cons.1 H.dis
 have h2 := List.pairwise_cons.1 h1.2
 refine ⟨H.ext, fun C hC => ?_, List.pairwise_cons.2 ⟨fun C hC b hb hc => ?_, h2.2⟩⟩
 ·rcases List.mem_cons.1 hC with rfl | hC
  ·intro B hB
   rcases List.mem_cons.1 hB with rfl | hB
   ·exact H.all _ (by simp)
   ·exact (show (Z0u L).ok w from H.all _ (by simp)) B hB
  ·exact H.all _ (by simp [hC])
 ·obtain ⟨B, hB, hf⟩ := hb
  rcases List.mem_cons.1 hB with rfl | hB
  ·exact h2.1 C hC b hf hc
  ·exact h1.1 C (by simp [hC]) b ⟨B, hB, hf⟩ hc
end
def stC (c : CeR) : Ck := Ze 49 38 (.slice c.sa c.S.length c.sc) c.S.length (c.S.flatMap ZT)
def ceC (p : PrR) : Ck := Ze 57 38 (.slice p.ca p.C.length p.cc) p.C.length (p.C.flatMap Z79)
def PIn (L : List Ck) (p : PrR) : Prop := ceC p ∈ L ∧ ∀ c ∈ p.C, stC c ∈ L
section
variable {L : List Ck} {A : Ck} {p : PrR} {x : CeR} {C : List CeR} {D : List PrR} {w : World} {a b : Int} {S : List Zl}
theorem PIn.ok (h : PIn L p) (hb : (Z0u L).ok w) : PrOk w p :=
 ⟨ListAt.row Z6f (by decide) (hb _ h.1), fun c hc => ListAt.row Z0Q (by decide) (hb _ (h.2 c hc))⟩
end
def co0 : Z0 := ⟨0, 0, Zb, 0, 0, 0⟩
def zmS : List Value := [.int .i64 0, .int .i64 0, .int .i64 0] ++ hc Zb ++ [.int .u64 0, .int .i64 0, .int .i64 0]
def zmB : List Value := [.int .i64 0, .int .i64 0, .int .i64 0] ++ hc Zb ++ [.int .u64 0, .int .i64 0, .int .i64 0, .int .i64 0, .int .i64 0, .int .u64 0, .int .i64 0, .int .i64 0, .int .u64 0, .slice none 0 0, .int .i64 0, .int .i64 0, .int .i64 0, .int .i64 0, .int .i64 0, .int .i64 0, .int .i64 0, .int .u64 0, .slice none 0 0, .slice none 0 0, .slice none 0 0, .int .i64 0, .int .i64 0, .int .i64 0, .int .i64 0, .int .i64 0, .int .i64 0] ++ hc Zb ++ [.int .i64 0, .int .i64 0, .int .i64 0, .int .i64 0, .int .i64 0] ++ hc Zb ++ [.int .u64 0]
def zmT : List Value := [.int .i64 0, .int .i64 0, .int .i64 0, .int .i64 0, ZX [], .int .i64 0, .int .i64 0, .int .i64 0, .int .u64 0, .slice none 0 0, .slice none 0 0, .slice none 0 0, .slice none 0 0]
theorem Z88 : zmS.length = 38 := by simp [zmS, Z4v]
theorem Z87 : zmB.length = 132 := by simp [zmB, Z4v]
theorem Z89 : zmT.length = 13 := rfl
theorem Z6Z : zmS.all (·.oneCell') = true ∧ zmB.all (·.oneCell') = true ∧ zmT.all (·.oneCell') = true := by
 simp only [zmS, zmB, zmT, List.all_append, Z4u]
 simp [Value.oneCell', Z27, ZX]
structure OmR where
 k : Int
 fr : Int
 to : Int
 co : Z0
 cx : Z0
 sa : Option Addr
 sc : Nat
 S : List Zl
 oi : Int
 oa : Option Addr
 oc : Nat
 P : List UInt8
 oh : Z1H
def Z0b (m : OmR) : List Value :=
 [.int .i64 m.k, .int .i64 m.fr, .int .i64 m.to] ++ Z1I m.co ++ zmS ++ Z1I m.cx ++ [.slice m.sa m.S.length m.sc] ++ zmB ++ [.int .i64 m.oi, .slice m.oa m.P.length m.oc] ++ hc m.oh ++ zmT
theorem Z1N (m : OmR) : (Z0b m).length = 295 := by simp [Z0b, Z1I, Z4v, Z88, Z87, Z89]
theorem Z6g (m : OmR) : (Z0b m).all (·.oneCell') = true := by
 simp only [Z0b, Z1I, List.all_append, Z6Z.1, Z6Z.2.1, Z6Z.2.2, Z4u]
 simp [Value.oneCell', Z27]
def om0 : OmR := ⟨0, 0, 0, co0, co0, none, 0, [], 0, none, 0, [], Zb⟩
def omS (m : OmR) : Ck := Ze 49 38 (.slice m.sa m.S.length m.sc) m.S.length (m.S.flatMap ZT)
def omP (m : OmR) : Ck := Ze 5 1 (.slice m.oa m.P.length m.oc) m.P.length (m.P.flatMap Zo)
structure Z5B (fr : Int) (m : OmR) (B : List Ck) (i : Nat) (d : OmR) : Prop where
 k : d.k = m.k
 fr : d.fr = fr
 to : d.to = (i : Int)
 co : d.co = m.co
 cx : d.cx = m.cx
 oi : d.oi = m.oi
 oh : d.oh = m.oh
 S : d.S = m.S
 P : d.P = m.P
 sb : omS d ∈ B
 ob : omP d ∈ B
structure RcD where
 i : Int
 e : EntD
def encRc (x : RcD) : List Value := .int .i64 x.i :: encEn x.e
def rcV (x : RcD) : Value := .agg ⟨encRc x⟩
structure Zq where
 x : Z0
 pa : Option Addr
 pc : Nat
 P : List UInt8
 no : Z1H
 ms : Nat
 cb : Option Nat
 ma : Nat
 mr : Nat
 op : Bool
 pl : Int
 mp : Nat
 dn : Bool
 rp : List UInt8
def Zm (q : Zq) : List Value := Z1I q.x ++ [.slice q.pa q.P.length q.pc] ++ hc q.no ++ [.map (some q.ms), .pointer (q.cb.map fun z => ⟨z, 0, none⟩), .map (some q.ma), .map (some q.mr), .bool q.op, .int .i64 q.pl, .map (some q.mp), .bool q.dn, ZX q.rp]
theorem Z0r (q : Zq) : (Zm q).length = 79 := by simp [Zm, Z1I, Z4v]
theorem Z2h (q : Zq) : (Zm q).all (·.oneCell') = true := by
 simp only [Zm, Z1I, List.all_append, Z4u]
 simp [Value.oneCell', Z27, ZX]
end Go.Proofs.YtgigjkjdmalmaaaGreat
