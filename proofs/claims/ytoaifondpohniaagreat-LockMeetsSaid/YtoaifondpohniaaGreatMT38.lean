/- WHAT IS PROVED: contracts and plain laws of Meets11. Conditions: stated with each. -/
import Derived.Test.YtoaifondpohniaaGreatMT04
import Derived.Test.YtoaifondpohniaaGreatMT16
import Derived.Test.YtoaifondpohniaaGreatMT33
import Derived.Test.YtoaifondpohniaaGreatMT35
import Derived.Test.YtoaifondpohniaaGreatMT36
import Derived.Test.YtoaifondpohniaaGreatMT37
set_option maxHeartbeats 4000000
set_option maxRecDepth 100000
namespace Go.Proofs.YtoaifondpohniaaGreat
open Go.RowKit
abbrev ZG (p0 : Int) : List Value := ([(.int .i64 p0), (.int .i64 (3))] : List Value)
abbrev Zy (p0 : Nat) : List Value := ([(.map (some p0))] : List Value)
abbrev Zz (p0 : Nat) (p1 : List Signed) : Ck := ZA p0 Z7 (Value.int .i64) (Zh p1)
abbrev ZS (p0 : Option Addr) (p1 : List Signed) (p2 : Nat) : Ck := Zd 114 2 (.slice p0 p1.length p2) p1.length (p1.flatMap Z1b)
abbrev ZF (p0 : Nat) (p1 : Nat) : List Value := ([(pt p0 0), (pt p1 0)] : List Value)
abbrev ZU (p0 : Option Addr) (p1 : Nat) (p2 : Nat) : List Value := ([(.slice p0 p1 p2)] : List Value)
abbrev ZK (p0 : CeR) : List Value := ([(.int .i64 p0.x.cl), (.int .i64 p0.x.seq)] : List Value) ++ hc p0.x.h ++ ([(.int .i64 p0.x.len), (.int .i64 p0.x.sb), (.int .i64 p0.x.sm), (.slice p0.sa p0.S.length p0.sc)] : List Value)
abbrev Z3P (p0 : Option Addr) (p1 : List Ze) (p2 : Nat) : Ck := Zd 101 38 (.slice p0 p1.length p2) p1.length (p1.flatMap Z0o)
abbrev Z3E : List Value := ([(.int .i64 (0)), (.int .i64 (0))] : List Value) ++ hc Zt ++ ([(.int .i64 (0)), (.int .i64 (0)), (.int .i64 (0)), (.slice none 0 0)] : List Value)
abbrev Z3D (p0 : Zk) (p1 : Option Addr) (p2 : Nat) (p3 : Nat) : List Value := ([(.int .i64 p0.cl), (.int .i64 p0.seq)] : List Value) ++ hc p0.h ++ ([(.int .i64 p0.len), (.int .i64 p0.sb), (.int .i64 p0.sm), (.slice p1 p2 p3)] : List Value)
abbrev Z0J (p0 : Int) (p1 : Int) (p2 : Nat) : List Value := ([(.int .i64 p0), (.int .i64 (3)), (.int .i64 p1), (.map (some p2))] : List Value)
abbrev Z00 (p0 : Ze) : List Value := ([(.int .i64 p0.r), (.int .i64 p0.cl), (.int .i64 p0.seq)] : List Value) ++ hc p0.h ++ ([(.int .u64 p0.t), (.int .i64 p0.sb), (.int .i64 p0.sm)] : List Value)
abbrev Z0z : List Value := ([(.int .i64 (0)), (.int .i64 (0)), (.int .i64 (0))] : List Value) ++ hc Zt ++ ([(.int .u64 (0)), (.int .i64 (0)), (.int .i64 (0))] : List Value)
abbrev Z03 (p0 : Int) (p1 : Int) (p2 : Option Addr) (p3 : Nat) (p4 : Nat) (p5 : Int) : List Value := ([(.int .i64 p0), (.int .i64 (0)), (.int .u64 p1), (.slice p2 p3 p4), (.int .i64 p0), (.int .i64 p5)] : List Value)
abbrev Z0k (p0 : Option Addr) (p1 : List CeR) (p2 : Nat) : Ck := Zd 53 38 (.slice p0 p1.length p2) p1.length (p1.flatMap Z01)
abbrev Z1m : List Value := ([(.int .i64 (0)), (.int .i64 (0)), (.int .u64 (0)), (.slice none 0 0), (.int .i64 (0)), (.int .i64 (0))] : List Value)
theorem Z74 {P : Program} {f : Nat} {args : Array Value} {w : World} {b : Bool} (h : Calls P f args w fun e w' => e = .returned (.bool b) ∧ Upd [] w w') (hb : b = true) : Calls P f args w fun e w' => e = .returned (.bool true) ∧ Upd [] w w' := h.mono fun _ _ q => ⟨by rw [q.1, hb], q.2⟩
theorem Z3K {D : List Ze} {i : Nat} (h : i < D.length) : D.getD i Zf ∈ D := by
 rw [List.getD_eq_getElem?_getD, List.getElem?_eq_getElem h]; exact List.getElem_mem h
theorem Z5e {L : List Signed} {c : Zk} (h : Z4R L c) (hcl : 0 ≤ c.cl ∧ c.cl ≤ 1000) (hsq : c.seq ≤ 1000) (hln : c.len ≤ 1000) (hL : L.length ≤ 100000) : CoB c := by
 have q := (Z2l h.2.1).2
 have q1 := h.1
 have q2 := h.2.2
 exact ⟨⟨by omega, by omega, by omega⟩, by omega, by omega⟩
theorem Z4A {L L' : List Signed} {c : Zk} (h : Z4R L c) (hp : L <+: L') : Z4R L' c := by
 obtain ⟨m, rfl⟩ := hp
 exact ⟨h.1, List.mem_append_left _ h.2.1, by rw [Z4Z h.2.1]; exact h.2.2⟩
theorem Z4f {x : Zk} {fr : Int} {L : List Signed} {D : List Ze} (h : RiseS x fr L D) (hl : D.length % 2 = 1) : 1 ≤ Z8 D ∧ Z8 D ≤ 1000 := by
 have hm := (Z6N (xs := Z2z D) (by rw [Z4u]; exact hl)).mem
 unfold Z8
 obtain ⟨s, hs, e⟩ := List.mem_map.1 hm
 obtain ⟨i, hi, e2⟩ := List.mem_iff_getElem.1 hs
 have := (h i s (by rw [List.getElem?_eq_getElem hi, e2])).2.2.2
 rw [← e]; exact this
theorem Z6A (w : World) (f : Int) (ka : Option Addr) (kc : Nat) (AK : List Int) (hK : ListAt encJ 1 w (.slice ka AK.length kc) AK) (oa : Option Addr) (oc : Nat) (OD : List Int) (hO : ListAt encJ 1 w (.slice oa OD.length oc) OD) (va : Option Addr) (vc : Nat) (xs : List Int) (hxs : ListAt Z2u 1 w (.slice va xs.length vc) xs) (hbd : ∀ x ∈ xs, 0 ≤ x ∧ x ≤ 18446744073709551615) (late : Bool) :
  Calls Tryz.prog 5 #[(.int .i64 (f)), (.slice ka AK.length kc), (.slice oa OD.length oc), (.slice va xs.length vc), (.bool (late))] w fun e w' => e = .returned (.bool true) ∧ Upd [] w w' := by
 have hwf := Z1G f 3 (by omega)
 have hlK := SliceOf.le hK
 have hlO := SliceOf.le hO
 unfold maxLen at hlK hlO
 have H := Sat.start0 w
 refine Zr Tryz.func5 rfl 272 rfl (Nat.le_of_ble_eq_true rfl) ?_
 apply zsl
 refine wv 10 (.bool false) ?_
 apply Z4Q
 refine wv 40 (.int .i64 (f)) ?_
 refine zwd fun Kq kq => ?_
 refine zdq 41 (Z2V w f 3 (by omega)) H ?_
 intro w2 H3
 refine kq _ _ ?_
 clear kq Kq
 refine zwi 42 (1 + (Z0a f 3)) ?_
 refine wv 43 (.agg ⟨(ZG (1 + (Z0a f 3)))⟩) ?_
 refine zwd fun Kq kq => ?_
 refine zda ([(.int .i64 (0)), (.int .i64 (0))] : List Value) H3 ?_
 intro b6 w7 H8
 refine kq _ _ ?_
 clear kq Kq
 refine zwd fun Kq kq => ?_
 refine Z2N (ZG (1 + (Z0a f 3))) H8 1 ?_
 intro w10 H11
 refine kq _ _ ?_
 clear kq Kq
 apply znt
 apply Zb
 obtain ⟨F, hF⟩ : ∃ F : Int, F = 1 + Z0a f 3 := ⟨_, rfl⟩
 have hf : 1 ≤ F ∧ F ≤ 3 := by omega
 obtain ⟨N, hN⟩ : ∃ N : Nat, (N : Int) = 3 * F + 1 := ⟨(3 * F + 1).toNat, by omega⟩
 obtain ⟨Gd, hGd⟩ : ∃ Q : Nat, (Q : Int) = 2 * F + 1 := ⟨(2 * F + 1).toNat, by omega⟩
 have H13 : Sat w [Z5 w (fun _ => False), Z1 b6 36 ([(.int .i64 (F)), (.int .i64 (3))] : List Value)] w10 := by rw [hF]; exact H11
 apply Zl
 refine wv 44 (pt b6 0) ?_
 refine zw1 45 (.int .i64 (F)) (H13.cell 1 rfl rfl) ?_
 refine zwi 46 (3 * F) ?_
 refine zwi 47 ((3 * F) + 1) ?_
 refine wv 12 (.int .i64 ((3 * F) + 1)) ?_
 apply znt
 refine Z1j [13, 14, 48, 49, 50, 51] (fun G_ W_ => ∃ (b_ mb_ r_ x13 : Nat), G_ 13 = (pt x13 0) ∧ G_ 14 = (.bool true) ∧ Sat w [Z1 b6 36 (ZG F), Z1 b_ 110 (Zy mb_), (Zz mb_ ([])), Z1 r_ 98 ([(.slice none (([] : List Signed).length) 0)] : List Value), (ZS none (([] : List Signed)) 0), Z1 x13 40 (ZF b_ r_), Z5 w (fun _ => False)] W_) ?_ ?_
 ·apply Zl
  refine zwd fun Kq kq => ?_
  refine zdc 49 (Z8n w10) ?_
  rintro _ w16 ⟨b17, m18, r19, rfl, k20, p21, q22⟩
  have H23 := H13.addU p21 k20 q22
  have H24 := H23.open 2 rfl
  have H25 := H24.addNil 114 2
  refine ⟨_, rfl, ?_⟩
  refine kq _ _ ?_
  clear kq Kq
  refine wv 48 (.tuple #[(.agg ⟨(ZF b17 r19)⟩), (.bool true)]) ?_
  refine wv 50 (.agg ⟨(ZF b17 r19)⟩) ?_
  refine wv 51 (.bool true) ?_
  refine zwd fun Kq kq => ?_
  refine zda ([(.pointer none), (.pointer none)] : List Value) H25 ?_
  intro b27 w28 H29
  refine kq _ _ ?_
  clear kq Kq
  refine zwd fun Kq kq => ?_
  refine Z2N (ZF b17 r19) H29 6 ?_
  intro w31 H32
  refine kq _ _ ?_
  clear kq Kq
  refine wv 14 (.bool true) ?_
  apply Zi
  have H34 := H32.pk [1, 2, 3, 4, 5, 6, 0]
  refine Z02 ?_ ⟨b17, m18, r19, b27, rfl, rfl, H34⟩
  exact zs
 rintro f35 w36 ⟨b_, mb_, r_, x13, v38, v39, H37⟩
 refine Zj 13 _ v38 ?_
 refine Zj 14 _ v39 ?_
 apply Zb
 apply zsl
 refine wv 52 (.bool true) ?_
 refine wv 53 (.bool false) ?_
 apply znt
 refine Z0r rfl ?_
 apply ZZ
 apply ztn
 have hnil : ([] : List Signed).length = 0 := rfl
 refine Z1j [15, 54, 55, 56, 57, 58, 59, 60] (fun G_ W_ => ∃ (x15 : Nat) (X : CeR) (L0 Lr : List Signed) (ra : Option Addr) (rc : Nat), G_ 15 = (pt x15 0) ∧ (L0.Nodup) ∧ (L0.length ≤ 12) ∧ (Z08 F 3 L0 X.x X.S = true) ∧ (CeT (stC X :: []) X) ∧ (1 ≤ Z8 X.S ∧ Z8 X.S ≤ 1000) ∧ Sat w [Z1 b6 36 (ZG F), Z1 x13 40 (ZF b_ r_), Z1 b_ 110 (Zy mb_), (Zz mb_ L0), Z1 r_ 98 (ZU ra Lr.length rc), (ZS ra Lr rc), Z1 x15 53 (ZK X), ZL (stC X :: []), Z5 w (fun _ => False)] W_) ?_ ?_
 ·refine Z0f H37 [Z1 b6 36 (ZG F), Z1 x13 40 (ZF b_ r_), Z5 w (fun _ => False)] 9 rfl (by kernel_rfl) (fun Hx => (Hx.pk [0, 5, 6])) ?_
  intro w41 H42 S43
  refine hv0 0 S43 54 (.agg ⟨(ZF b_ r_)⟩) ?_ (he := fun _ H' => (Zs (vs := (ZF b_ r_)) rfl (by kernel_rfl) (by kernel_rfl) (by exact Nat.le_of_ble_eq_true (by kernel_rfl)) (H'.at 1 rfl) (by kernel_rfl)))
  refine hv0 1 S43 55 (.agg ⟨(ZG F)⟩) ?_ (he := fun _ H' => (Zs (vs := (ZG F)) rfl (by kernel_rfl) (by kernel_rfl) (by exact Nat.le_of_ble_eq_true (by kernel_rfl)) (H'.at 0 rfl) (by kernel_rfl)))
  refine hv0 2 S43 56 (.agg ⟨(ZF b_ r_)⟩) ?_ (he := fun _ H' => (Zs (vs := (ZF b_ r_)) rfl (by kernel_rfl) (by kernel_rfl) (by exact Nat.le_of_ble_eq_true (by kernel_rfl)) (H'.at 1 rfl) (by kernel_rfl)))
  refine ZM 3 rfl (by kernel_rfl) (by kernel_rfl) (by kernel_rfl) (fun _ _ _ h => h) S43 (Z0 rfl) (d := 57) (v := (.agg ⟨([(.int .i64 (1)), (.int .i64 (1))] : List Value)⟩)) rfl (fun _ H' => (by kernel_rfl)) ?_
  refine hv0 5 S43 59 (.slice va xs.length vc) ?_
  refine Z39 4 7 rfl rfl (by kernel_rfl) (Z0 rfl) (Z0 rfl) (fun Kq kq => ?_) (fun Kq kq => ?_)
  ·refine zdc 58 (Z3S w41 b_ mb_ r_ none 0 ([] : List Signed) (H42.fn [1, 2, 3, 4]) 1 1 none 0 ([] : List UInt8) ListAt.nil (fun h => absurd h (Nat.lt_irrefl 0)) (by decide) (by omega) (by omega) (by omega) List.nodup_nil) ?_
   rintro _ w45 ⟨a47, c48, rfl, T46⟩
   obtain ⟨L50, hL50⟩ : ∃ L50 : List Signed, L50 = Zg ([] : List Signed) (yC 1 1 Zt ([] : List UInt8)) := ⟨_, rfl⟩
   rw [← hL50] at T46
   have H51 := H42.tl [Z1 b_ 110 (Zy mb_), (Zz mb_ L50), Z1 r_ 98 (ZU a47 L50.length c48), (ZS a47 L50 c48)] [1, 2, 3, 4] [0, 5, 6] T46 [4, 0, 1, 2, 3, 5, 6]
   refine ⟨_, rfl, ?_⟩
   obtain ⟨Y49, hY49⟩ : ∃ Y49 : Zk, Y49 = mkC ([] : List Signed) 1 1 Zt ([] : List UInt8) := ⟨_, rfl⟩
   rw [← hY49]
   have hgY49 : Z4R L50 Y49 := by rw [hL50, hY49]; exact Z5Z _ _ _ _ _
   have ndL50 : L50.Nodup := by rw [hL50]; exact Z0K List.nodup_nil _
   have llL50 : L50.length ≤ ([] : List Signed).length + 1 := by rw [hL50]; exact Z0W _ _
   have clY49 : Y49.cl = 1 := by rw [hY49]; rfl
   have sqY49 : Y49.seq = 1 := by rw [hY49]; rfl
   have lnY49 : Y49.len = ([] : List UInt8).length := by rw [hY49]; rfl
   have S52 := H51.pk [0, 5, 6]
   refine kq _ _ S52 ?_
   clear kq Kq
   refine Z39 6 7 rfl rfl (by kernel_rfl) (Z0 rfl) (Z0 rfl) (fun Kq kq => ?_) (fun Kq kq => ?_)
   ·refine zdc 60 (Z38 w45 b_ mb_ r_ a47 c48 L50 (H51.fn [1, 2, 3, 4]) F 3 (by omega) Y49 ⟨by omega, by omega, by simp only [List.length_nil] at lnY49; omega⟩ 0 (by omega) ndL50 va vc xs (ListAt.now H51 6 rfl hxs) hbd (Z4w Z1U (by decide) H51 [1, 2, 3, 4] 6 rfl rfl (by decide) hxs)) ?_
    rintro _ w54 ⟨a55, c56, L57, a58, c59, D60, rfl, l64, k61, n62, l63, p65, s66, T67⟩
    have H68 := H51.tl [Z1 b_ 110 (Zy mb_), (Zz mb_ L57), Z1 r_ 98 (ZU a55 L57.length c56), (ZS a55 L57 c56), (Z3P a58 D60 c59)] [1, 2, 3, 4] [0, 5, 6] T67 [5, 0, 1, 2, 3, 6, 7, 4]
    have H69 := H68.bag0
    have H70 := (H69.pk [8, 7, 0, 1, 2, 3, 4, 5, 6]).bag
    have H71 := H70.pk [1, 2, 3, 4, 5, 6, 7, 0]
    obtain ⟨X, hX⟩ : ∃ X : CeR, X = (⟨Y49, a58, c59, D60⟩ : CeR) := ⟨_, rfl⟩
    have hXx : X.x = Y49 := by rw [hX]
    have hXS : X.S = D60 := by rw [hX]
    have hXa : X.sa = a58 := by rw [hX]
    have hXc : X.sc = c59 := by rw [hX]
    have hgc := hgY49
    have hC2 : Z4R L57 X.x := by rw [hXx]; exact Z4A hgc p65
    have hRX0 : Z08 F 3 L57 X.x X.S = true := by
     rw [hXS]
     exact Z3C (by rw [hXx]; exact s66) (Z36 hC2 (by rw [hXx]; omega) (by rw [hXx]; omega) (by rw [hXx]; omega) (by rw [hXx]; simp only [List.length_nil] at lnY49; omega)) (by omega) (Z1G 0 (F + 1) (by omega) |> fun q_ => ⟨q_.1, by omega⟩)
    have hXT : CeT (stC X :: []) X := ⟨by rw [hXx]; exact Z5e (hXx ▸ hC2) (by omega) (by omega) (by simp only [List.length_nil] at lnY49; omega) (by omega), by rw [hXS]; exact fun i hi => k61 _ (Z3K hi), by rw [hXS]; omega, List.mem_cons_self⟩
    have hm1 : 1 ≤ Z8 X.S ∧ Z8 X.S ≤ 1000 := by rw [hXS]; exact Z4f s66 (by omega)
    have H72 : Sat w [Z1 b6 36 ([(.int .i64 (F)), (.int .i64 (3))] : List Value), Z1 b_ 110 ([(.map (some mb_))] : List Value), ZA mb_ Z7 (Value.int .i64) (Zh L57), Z1 r_ 98 ([(.slice a55 L57.length c56)] : List Value), Zd 114 2 (.slice a55 L57.length c56) L57.length (L57.flatMap Z1b), Z1 x13 40 ([(pt b_ 0), (pt r_ 0)] : List Value), Z5 w (fun _ => False), ZL (stC X :: [])] w54 := by rw [hX]; exact H71
    refine ⟨_, rfl, ?_⟩
    have S73 := H72.pk [0, 5, 6]
    refine kq _ _ S73 ?_
    clear kq Kq
    refine Z0R 7 fun Kq kq => ?_
    refine zda (Z3E) H72 ?_
    intro b75 w76 H77
    have S78 := H77.pk [0, 5, 6]
    refine kq _ _ S78 ?_
    clear kq Kq
    refine Z0R 8 fun Kq kq => ?_
    refine Z2N (Z3D Y49 a58 D60.length c59) H77 8 ?_
    intro w80 H81
    have S83 := H81.pk [0, 5, 6]
    refine kq _ _ S83 ?_
    clear kq Kq
    refine zhf ?_
    have H84 := H81.pk [0, 5, 1, 2, 3, 4, 8, 7, 6]
    have H85 : Sat w [Z1 b6 36 ([(.int .i64 (F)), (.int .i64 (3))] : List Value), Z1 x13 40 ([(pt b_ 0), (pt r_ 0)] : List Value), Z1 b_ 110 ([(.map (some mb_))] : List Value), ZA mb_ Z7 (Value.int .i64) (Zh L57), Z1 r_ 98 ([(.slice a55 L57.length c56)] : List Value), Zd 114 2 (.slice a55 L57.length c56) L57.length (L57.flatMap Z1b), Z1 b75 53 (([(.int .i64 (X.x.cl)), (.int .i64 (X.x.seq))] : List Value) ++ hc X.x.h ++ ([(.int .i64 (X.x.len)), (.int .i64 (X.x.sb)), (.int .i64 (X.x.sm)), (.slice X.sa X.S.length X.sc)] : List Value)), ZL (stC X :: []), Z5 w (fun _ => False)] w80 := by rw [hXx, hXS, hXa, hXc]; exact H84
    refine Z02 ?_ ⟨b75, X, L57, L57, a55, c56, rfl, n62, (by simp only [List.length_cons, List.length_nil] at *; omega), hRX0, hXT, hm1, H85⟩
    exact zs
   refine zda (Z3E) H51 ?_
   intro b86 w87 H88
   have S89 := H88.pk [0, 5, 6]
   refine kq _ _ S89 ?_
   clear kq Kq
   refine Z0R 6 fun Kq kq => ?_
   refine zdc 60 (Z38 w87 b_ mb_ r_ a47 c48 L50 (H88.fn [1, 2, 3, 4]) F 3 (by omega) Y49 ⟨by omega, by omega, by simp only [List.length_nil] at lnY49; omega⟩ 0 (by omega) ndL50 va vc xs (ListAt.now H88 6 rfl hxs) hbd (Z4w Z1U (by decide) H88 [1, 2, 3, 4] 6 rfl rfl (by decide) hxs)) ?_
   rintro _ w91 ⟨a92, c93, L94, a95, c96, D97, rfl, l101, k98, n99, l100, p102, s103, T104⟩
   have H105 := H88.tl [Z1 b_ 110 (Zy mb_), (Zz mb_ L94), Z1 r_ 98 (ZU a92 L94.length c93), (ZS a92 L94 c93), (Z3P a95 D97 c96)] [1, 2, 3, 4] [0, 5, 6, 7] T104 [5, 0, 1, 2, 3, 6, 7, 8, 4]
   have H106 := H105.bag0
   have H107 := (H106.pk [9, 8, 0, 1, 2, 3, 4, 5, 6, 7]).bag
   have H108 := H107.pk [1, 2, 3, 4, 5, 6, 7, 8, 0]
   obtain ⟨X, hX⟩ : ∃ X : CeR, X = (⟨Y49, a95, c96, D97⟩ : CeR) := ⟨_, rfl⟩
   have hXx : X.x = Y49 := by rw [hX]
   have hXS : X.S = D97 := by rw [hX]
   have hXa : X.sa = a95 := by rw [hX]
   have hXc : X.sc = c96 := by rw [hX]
   have hgc := hgY49
   have hC2 : Z4R L94 X.x := by rw [hXx]; exact Z4A hgc p102
   have hRX0 : Z08 F 3 L94 X.x X.S = true := by
    rw [hXS]
    exact Z3C (by rw [hXx]; exact s103) (Z36 hC2 (by rw [hXx]; omega) (by rw [hXx]; omega) (by rw [hXx]; omega) (by rw [hXx]; simp only [List.length_nil] at lnY49; omega)) (by omega) (Z1G 0 (F + 1) (by omega) |> fun q_ => ⟨q_.1, by omega⟩)
   have hXT : CeT (stC X :: []) X := ⟨by rw [hXx]; exact Z5e (hXx ▸ hC2) (by omega) (by omega) (by simp only [List.length_nil] at lnY49; omega) (by omega), by rw [hXS]; exact fun i hi => k98 _ (Z3K hi), by rw [hXS]; omega, List.mem_cons_self⟩
   have hm1 : 1 ≤ Z8 X.S ∧ Z8 X.S ≤ 1000 := by rw [hXS]; exact Z4f s103 (by omega)
   have H109 : Sat w [Z1 b6 36 ([(.int .i64 (F)), (.int .i64 (3))] : List Value), Z1 b_ 110 ([(.map (some mb_))] : List Value), ZA mb_ Z7 (Value.int .i64) (Zh L94), Z1 r_ 98 ([(.slice a92 L94.length c93)] : List Value), Zd 114 2 (.slice a92 L94.length c93) L94.length (L94.flatMap Z1b), Z1 x13 40 ([(pt b_ 0), (pt r_ 0)] : List Value), Z5 w (fun _ => False), Z1 b86 53 (([(.int .i64 (0)), (.int .i64 (0))] : List Value) ++ hc Zt ++ ([(.int .i64 (0)), (.int .i64 (0)), (.int .i64 (0)), (.slice none 0 0)] : List Value)), ZL (stC X :: [])] w91 := by rw [hX]; exact H108
   refine ⟨_, rfl, ?_⟩
   have S110 := H109.pk [0, 5, 6]
   refine kq _ _ S110 ?_
   clear kq Kq
   refine Z0R 8 fun Kq kq => ?_
   refine Z2N (Z3D Y49 a95 D97.length c96) H109 7 ?_
   intro w112 H113
   have S115 := H113.pk [0, 5, 6]
   refine kq _ _ S115 ?_
   clear kq Kq
   refine zhf ?_
   have H116 := H113.pk [0, 5, 1, 2, 3, 4, 7, 8, 6]
   have H117 : Sat w [Z1 b6 36 ([(.int .i64 (F)), (.int .i64 (3))] : List Value), Z1 x13 40 ([(pt b_ 0), (pt r_ 0)] : List Value), Z1 b_ 110 ([(.map (some mb_))] : List Value), ZA mb_ Z7 (Value.int .i64) (Zh L94), Z1 r_ 98 ([(.slice a92 L94.length c93)] : List Value), Zd 114 2 (.slice a92 L94.length c93) L94.length (L94.flatMap Z1b), Z1 b86 53 (([(.int .i64 (X.x.cl)), (.int .i64 (X.x.seq))] : List Value) ++ hc X.x.h ++ ([(.int .i64 (X.x.len)), (.int .i64 (X.x.sb)), (.int .i64 (X.x.sm)), (.slice X.sa X.S.length X.sc)] : List Value)), ZL (stC X :: []), Z5 w (fun _ => False)] w112 := by rw [hXx, hXS, hXa, hXc]; exact H116
   refine Z02 ?_ ⟨b86, X, L94, L94, a92, c93, rfl, n99, (by simp only [List.length_cons, List.length_nil] at *; omega), hRX0, hXT, hm1, H117⟩
   exact zs
  refine zda (Z3E) H42 ?_
  intro b118 w119 H120
  have S121 := H120.pk [0, 5, 6]
  refine kq _ _ S121 ?_
  clear kq Kq
  refine Z0R 4 fun Kq kq => ?_
  refine zdc 58 (Z3S w119 b_ mb_ r_ none 0 ([] : List Signed) (H120.fn [1, 2, 3, 4]) 1 1 none 0 ([] : List UInt8) ListAt.nil (fun h => absurd h (Nat.lt_irrefl 0)) (by decide) (by omega) (by omega) (by omega) List.nodup_nil) ?_
  rintro _ w123 ⟨a125, c126, rfl, T124⟩
  obtain ⟨L128, hL128⟩ : ∃ L128 : List Signed, L128 = Zg ([] : List Signed) (yC 1 1 Zt ([] : List UInt8)) := ⟨_, rfl⟩
  rw [← hL128] at T124
  have H129 := H120.tl [Z1 b_ 110 (Zy mb_), (Zz mb_ L128), Z1 r_ 98 (ZU a125 L128.length c126), (ZS a125 L128 c126)] [1, 2, 3, 4] [0, 5, 6, 7] T124 [4, 0, 1, 2, 3, 5, 6, 7]
  refine ⟨_, rfl, ?_⟩
  obtain ⟨Y127, hY127⟩ : ∃ Y127 : Zk, Y127 = mkC ([] : List Signed) 1 1 Zt ([] : List UInt8) := ⟨_, rfl⟩
  rw [← hY127]
  have hgY127 : Z4R L128 Y127 := by rw [hL128, hY127]; exact Z5Z _ _ _ _ _
  have ndL128 : L128.Nodup := by rw [hL128]; exact Z0K List.nodup_nil _
  have llL128 : L128.length ≤ ([] : List Signed).length + 1 := by rw [hL128]; exact Z0W _ _
  have clY127 : Y127.cl = 1 := by rw [hY127]; rfl
  have sqY127 : Y127.seq = 1 := by rw [hY127]; rfl
  have lnY127 : Y127.len = ([] : List UInt8).length := by rw [hY127]; rfl
  have S130 := H129.pk [0, 5, 6]
  refine kq _ _ S130 ?_
  clear kq Kq
  refine Z0R 6 fun Kq kq => ?_
  refine zdc 60 (Z38 w123 b_ mb_ r_ a125 c126 L128 (H129.fn [1, 2, 3, 4]) F 3 (by omega) Y127 ⟨by omega, by omega, by simp only [List.length_nil] at lnY127; omega⟩ 0 (by omega) ndL128 va vc xs (ListAt.now H129 6 rfl hxs) hbd (Z4w Z1U (by decide) H129 [1, 2, 3, 4] 6 rfl rfl (by decide) hxs)) ?_
  rintro _ w132 ⟨a133, c134, L135, a136, c137, D138, rfl, l142, k139, n140, l141, p143, s144, T145⟩
  have H146 := H129.tl [Z1 b_ 110 (Zy mb_), (Zz mb_ L135), Z1 r_ 98 (ZU a133 L135.length c134), (ZS a133 L135 c134), (Z3P a136 D138 c137)] [1, 2, 3, 4] [0, 5, 6, 7] T145 [5, 0, 1, 2, 3, 6, 7, 8, 4]
  have H147 := H146.bag0
  have H148 := (H147.pk [9, 8, 0, 1, 2, 3, 4, 5, 6, 7]).bag
  have H149 := H148.pk [1, 2, 3, 4, 5, 6, 7, 8, 0]
  obtain ⟨X, hX⟩ : ∃ X : CeR, X = (⟨Y127, a136, c137, D138⟩ : CeR) := ⟨_, rfl⟩
  have hXx : X.x = Y127 := by rw [hX]
  have hXS : X.S = D138 := by rw [hX]
  have hXa : X.sa = a136 := by rw [hX]
  have hXc : X.sc = c137 := by rw [hX]
  have hgc := hgY127
  have hC2 : Z4R L135 X.x := by rw [hXx]; exact Z4A hgc p143
  have hRX0 : Z08 F 3 L135 X.x X.S = true := by
   rw [hXS]
   exact Z3C (by rw [hXx]; exact s144) (Z36 hC2 (by rw [hXx]; omega) (by rw [hXx]; omega) (by rw [hXx]; omega) (by rw [hXx]; simp only [List.length_nil] at lnY127; omega)) (by omega) (Z1G 0 (F + 1) (by omega) |> fun q_ => ⟨q_.1, by omega⟩)
  have hXT : CeT (stC X :: []) X := ⟨by rw [hXx]; exact Z5e (hXx ▸ hC2) (by omega) (by omega) (by simp only [List.length_nil] at lnY127; omega) (by omega), by rw [hXS]; exact fun i hi => k139 _ (Z3K hi), by rw [hXS]; omega, List.mem_cons_self⟩
  have hm1 : 1 ≤ Z8 X.S ∧ Z8 X.S ≤ 1000 := by rw [hXS]; exact Z4f s144 (by omega)
  have H150 : Sat w [Z1 b6 36 ([(.int .i64 (F)), (.int .i64 (3))] : List Value), Z1 b_ 110 ([(.map (some mb_))] : List Value), ZA mb_ Z7 (Value.int .i64) (Zh L135), Z1 r_ 98 ([(.slice a133 L135.length c134)] : List Value), Zd 114 2 (.slice a133 L135.length c134) L135.length (L135.flatMap Z1b), Z1 x13 40 ([(pt b_ 0), (pt r_ 0)] : List Value), Z5 w (fun _ => False), Z1 b118 53 (([(.int .i64 (0)), (.int .i64 (0))] : List Value) ++ hc Zt ++ ([(.int .i64 (0)), (.int .i64 (0)), (.int .i64 (0)), (.slice none 0 0)] : List Value)), ZL (stC X :: [])] w132 := by rw [hX]; exact H149
  refine ⟨_, rfl, ?_⟩
  have S151 := H150.pk [0, 5, 6]
  refine kq _ _ S151 ?_
  clear kq Kq
  refine Z0R 8 fun Kq kq => ?_
  refine Z2N (Z3D Y127 a136 D138.length c137) H150 7 ?_
  intro w153 H154
  have S156 := H154.pk [0, 5, 6]
  refine kq _ _ S156 ?_
  clear kq Kq
  refine zhf ?_
  have H157 := H154.pk [0, 5, 1, 2, 3, 4, 7, 8, 6]
  have H158 : Sat w [Z1 b6 36 ([(.int .i64 (F)), (.int .i64 (3))] : List Value), Z1 x13 40 ([(pt b_ 0), (pt r_ 0)] : List Value), Z1 b_ 110 ([(.map (some mb_))] : List Value), ZA mb_ Z7 (Value.int .i64) (Zh L135), Z1 r_ 98 ([(.slice a133 L135.length c134)] : List Value), Zd 114 2 (.slice a133 L135.length c134) L135.length (L135.flatMap Z1b), Z1 b118 53 (([(.int .i64 (X.x.cl)), (.int .i64 (X.x.seq))] : List Value) ++ hc X.x.h ++ ([(.int .i64 (X.x.len)), (.int .i64 (X.x.sb)), (.int .i64 (X.x.sm)), (.slice X.sa X.S.length X.sc)] : List Value)), ZL (stC X :: []), Z5 w (fun _ => False)] w153 := by rw [hXx, hXS, hXa, hXc]; exact H157
  refine Z02 ?_ ⟨b118, X, L135, L135, a133, c134, rfl, n140, (by simp only [List.length_cons, List.length_nil] at *; omega), hRX0, hXT, hm1, H158⟩
  exact zs
 rintro f159 w160 ⟨x15, X, L0, Lr, ra, rc, v162, hn0, hl0, hRX0, hXT, hm1, H161⟩
 refine Zj 15 _ v162 ?_
 apply zsl
 refine zwN 61 (ZK X) (H161.at 6 rfl) ?_
 refine zwd fun Kq kq => ?_
 refine zdq 62 (Z1y w160 X.x X.sa X.sc X.S (Z3g (c := X) (H161.at 7 rfl) hXT.bag) hXT.len) H161 ?_
 intro w164 H165
 refine kq _ _ ?_
 clear kq Kq
 refine wv 16 (.int .u64 (Z8 X.S)) ?_
 apply znt
 apply Zb
 refine Zj 12 (.int .i64 ((N : Int))) (show ((.int .i64 ((3 * F) + 1)) : Value) = _ by rw [show (3 * F) + 1 = (N : Int) by omega]) ?_
 apply Zl
 refine wv 17 (.slice none 0 0) ?_
 apply znt
 apply Zb
 apply zsl
 refine wv 18 (.int .i64 (0)) ?_
 apply znt
 apply ZO
 have H167 := H165.addNil 73 1
 have H168 := H167.famNew (tbL F)
 refine Z0c ([10, 17, 18, 19, 20] ++ List.range' 63 21) (fun F_ W_ m_ => ∃ (i : Nat) (T0 : List TbR) (P : List Nat) (pa : Option Addr) (pc : Nat), F_ 18 = (.int .i64 ((i : Int))) ∧ F_ 17 = (.slice pa P.length pc) ∧ (i ≤ N) ∧ (TsOk (stC X :: []) X T0 P []) ∧ (T0.length = i) ∧ (P.length = i) ∧ Sat w [Z1 b6 36 (ZG F), Z1 x13 40 (ZF b_ r_), Z1 b_ 110 (Zy mb_), (Zz mb_ L0), Z1 r_ 98 (ZU ra Lr.length rc), (ZS ra Lr rc), Z1 x15 53 (ZK X), ZL (stC X :: []), Z5 w (fun _ => False), Zd 73 1 (.slice pa P.length pc) P.length (P.flatMap Z0H), Z1D (tbL F) T0] W_ ∧ m_ = N - i) _ ⟨0, [], [], none, 0, (show ((.int .i64 (0)) : Value) = _ by first | rfl | go_num), (by first | rfl | go_num), (Nat.zero_le _), TsOk.nil, rfl, rfl, H168, rfl⟩ ?_
 rintro g169 w170 _ ⟨i, T0, P, pa, pc, v172, v173, hi, hT0, hlT, hlP, H171, rfl⟩
 refine Zj 18 _ v172 ?_
 refine Zj 17 _ v173 ?_
 apply Zb
 apply zsl
 refine wv 63 (.int .i64 ((i : Int))) ?_
 refine wv 64 (.int .i64 ((N : Int))) ?_
 refine wv 65 (.bool (decide ((i : Int) < (N : Int)))) ?_
 apply znt
 refine (ZD (decide ((i : Int) < (N : Int)))).elim (fun b175 => ?_) (fun b175 => ?_)
 ·have g176 := of_decide_eq_true b175
  refine Z3G _ b175 ?_
  apply ZZ
  apply ztn
  apply Zb
  apply ZO
  apply zsl
  refine zwN 69 (ZG F) (H171.at 0 rfl) ?_
  refine wv 70 (.int .i64 ((i : Int))) ?_
  refine zwd fun Kq kq => ?_
  refine zdc 71 (Z4t w170 F 3 (i : Int) (by omega) (by rw [show Z2b F 3 = true by unfold Z2b; simp; omega]; unfold inB; simp; omega)) ?_
  rintro _ w179 ⟨t180, m181, rfl, k182, u183, q184⟩
  have H185 := H171.addU u183 k182 q184
  have H186 := H185.open 11 rfl
  refine ⟨_, rfl, ?_⟩
  refine kq _ _ ?_
  clear kq Kq
  refine wv 68 (.tuple #[(pt t180 0), (.int .i64 (0))]) ?_
  refine wv 72 (pt t180 0) ?_
  refine wv 73 (.int .i64 (0)) ?_
  refine wv 19 (pt t180 0) ?_
  refine wv 20 (.int .i64 (0)) ?_
  apply znt
  apply Zb
  apply zsl
  refine wv 74 (.int .i64 (0)) ?_
  refine wv 75 (.bool false) ?_
  refine wv 76 (.bool false) ?_
  refine wy 2 76 false 77 (pt t180 0) ?_
  refine wy 2 76 false 78 (.bool false) ?_
  refine wv 79 (.bool false) ?_
  apply znt
  refine Z0r rfl ?_
  apply ZZ
  apply ztn
  apply Zl
  refine wv 80 (.slice pa P.length pc) ?_
  refine wv 81 (pt t180 0) ?_
  refine zwd fun Kq kq => ?_
  refine Z9D 73 1 8 (.pointer none) [(0, (pt t180 0))] ([(pt t180 0)] : List Value) H186 ?_
  intro b188 w189 H190
  have H191 := H190.ct 13 rfl (Zd 73 1 (.slice (some ⟨b188, 0, none⟩) 1 1) 1 ([t180].flatMap Z0H)) (by rw [(show (([(pt t180 0)] : List Value) : List Value) = ([t180] : List Nat).flatMap Z0H by kernel_rfl)])
  refine kq _ _ ?_
  clear kq Kq
  refine zwd fun Kq kq => ?_
  refine Z17 (T := 87) (e := 73) (size := 1) (bytes := 8) rfl H191 (by kernel_rfl) 9 13 rfl rfl rfl rfl (Z0Z Z0H Z7S [t180]) (by omega) (by omega) ?_
  intro v193 w194 H195
  have H198 := H195.ct 9 rfl (Zd 73 1 v193 ((P ++ [t180]).length) ((P ++ [t180]).flatMap Z0H)) ja
  obtain ⟨a196, c197, rfl⟩ := Z9 (H198.at 9 rfl)
  refine kq _ _ ?_
  clear kq Kq
  refine wv 17 (.slice a196 ((P ++ [t180]).length) c197) ?_
  apply Zi
  apply ZE
  apply ztn
  apply Zl
  refine wv 66 (.int .i64 ((i : Int))) ?_
  refine zwi 67 ((i : Int) + 1) ?_
  refine wv 18 (.int .i64 ((i : Int) + 1)) ?_
  apply Zi
  have H199 : Sat w [Z1D (tbL F) (T0 ++ [(⟨t180, m181, (i : Int), []⟩ : TbR)]), Z1 b6 36 (ZG F), Z1 x13 40 (ZF b_ r_), Z1 b_ 110 (Zy mb_), (Zz mb_ L0), Z1 r_ 98 (ZU ra Lr.length rc), (ZS ra Lr rc), Z1 x15 53 (ZK X), ZL (stC X :: []), Z5 w (fun _ => False), Zd 73 1 (.slice a196 ((P ++ [t180]).length) c197) ((P ++ [t180]).length) ((P ++ [t180]).flatMap Z0H), Zd 73 1 (.slice (some ⟨b188, 0, none⟩) 1 1) 1 ([t180].flatMap Z0H)] w194 := by
   have q_ := H198.pk [11, 12, 10, 0, 1, 2, 3, 4, 5, 6, 7, 8, 9, 13]
   refine Sat.famPush (q := (⟨t180, m181, (i : Int), []⟩ : TbR)) ?_
   exact q_
  have H200 := H199.pk [1, 2, 3, 4, 5, 6, 7, 8, 9, 10, 0, 11]
  have H201 := H200.pk [0, 1, 2, 3, 4, 5, 6, 7, 8, 9, 10]
  refine ZH ?_ _ ⟨(i + 1), (T0 ++ [(⟨t180, m181, (i : Int), []⟩ : TbR)]), (P ++ [t180]), a196, c197, rfl, rfl, (by omega), (hT0.push hlT), (by simp only [List.length_append, List.length_cons, List.length_nil]; omega), (by simp only [List.length_append, List.length_cons, List.length_nil]; omega), H201, rfl⟩ (by omega)
  exact zs
 have g202 := of_decide_eq_false b175
 refine Z3h _ b175 ?_
 apply zxb
 apply ztn
 apply zsl
 refine wv 84 (.int .i64 ((N : Int))) ?_
 refine wv 85 (pt b6 0) ?_
 refine zw1 86 (.int .i64 (F)) (H171.cell 0 rfl rfl) ?_
 refine zwi 87 ((N : Int) - F) ?_
 refine wv 21 (.int .i64 ((N : Int) - F)) ?_
 apply znt
 apply Zb
 refine Zj 21 (.int .i64 ((Gd : Int))) (show ((.int .i64 ((N : Int) - F)) : Value) = _ by rw [show (N : Int) - F = (Gd : Int) by omega]) ?_
 have hiN : i = N := by omega
 apply Zl
 refine wv 88 (.int .i64 ((N : Int))) ?_
 refine zwd fun Kq kq => ?_
 refine Z6M (e := 4) (m := N) rfl H171 (by kernel_rfl) (by kernel_rfl) rfl rfl (by omega) ?_
 intro b205 w206 H207
 refine kq _ _ ?_
 clear kq Kq
 refine wv 22 (.slice (some ⟨b205, 0, none⟩) N N) ?_
 apply znt
 apply Zb
 apply zsl
 refine wv 23 (.int .i64 (0)) ?_
 apply znt
 apply ZO
 refine Z0c ([10, 23, 24, 25, 26] ++ List.range' 90 34) (fun F_ W_ m_ => ∃ (j : Nat) (T : List TbR) (Hs : List Bool) (B : List Ck) (Lb : List Signed), F_ 23 = (.int .i64 ((j : Int))) ∧ (j ≤ AK.length) ∧ (j ≤ 12) ∧ (TsOk B X T P Hs) ∧ (Hs.length = N) ∧ (stC X ∈ B) ∧ (Lb.Nodup) ∧ (Lb.length ≤ 12 + j) ∧ (Z08 F 3 Lb X.x X.S = true) ∧ (∀ z, Gd ≤ z → Hs.getD z false = false) ∧ Sat w [Z1 b6 36 (ZG F), Z1 x13 40 (ZF b_ r_), Z1 b_ 110 (Zy mb_), (Zz mb_ Lb), Z1 r_ 98 (ZU ra Lr.length rc), (ZS ra Lr rc), Z1 x15 53 (ZK X), ZL B, Z5 w (fun _ => False), Zd 73 1 (.slice pa P.length pc) P.length (P.flatMap Z0H), Z1D (tbL F) T, Z09 b205 4 N Hs] W_ ∧ m_ = AK.length + 1 - j) _ ⟨0, T0, (List.replicate N false), (stC X :: []), L0, (show ((.int .i64 (0)) : Value) = _ by first | rfl | go_num), (Nat.zero_le _), (Nat.zero_le _), hT0.init, (List.length_replicate ..), List.mem_cons_self, hn0, (by omega), hRX0, (fun z _ => Z7M N z), H207, rfl⟩ ?_
 rintro g208 w209 _ ⟨j, T, Hs, B, Lb, v211, hjA, hj12, hTs, hlH, hXB, hnb, hlb, hRX, hout, H210, rfl⟩
 refine Zj 23 _ v211 ?_
 apply Zb
 refine Z1j [90, 91, 92, 93, 94, 95, 96, 97] (fun G_ W_ => G_ 97 = (.bool (decide ((j : Int) < (AK.length : Int)) && decide ((j : Int) < 12))) ∧ Sat w [Z1 b6 36 (ZG F), Z1 x13 40 (ZF b_ r_), Z1 b_ 110 (Zy mb_), (Zz mb_ Lb), Z1 r_ 98 (ZU ra Lr.length rc), (ZS ra Lr rc), Z1 x15 53 (ZK X), ZL B, Z5 w (fun _ => False), Zd 73 1 (.slice pa P.length pc) P.length (P.flatMap Z0H), Z1D (tbL F) T, Z09 b205 4 N Hs] W_) ?_ ?_
 ·apply Zl
  refine wv 90 (.int .i64 ((j : Int))) ?_
  refine wv 91 (.slice ka AK.length kc) ?_
  refine wv 92 (.int .i64 ((AK.length : Int))) ?_
  refine wv 93 (.bool (decide ((j : Int) < (AK.length : Int)))) ?_
  refine wv 94 (.bool (decide ((j : Int) < (AK.length : Int)))) ?_
  refine (ZD (decide ((j : Int) < (AK.length : Int)))).elim (fun b214 => ?_) (fun b214 => ?_)
  ·have g215 := of_decide_eq_true b214
   refine ZV 94 (.bool true) (congrArg Value.bool b214) ?_
   refine wy 4 94 true 95 (.int .i64 ((j : Int))) ?_
   refine wy 4 94 true 96 (.bool (decide ((j : Int) < 12))) ?_
   refine wv 97 (.bool (decide ((j : Int) < 12))) ?_
   apply Zi
   refine Z02 ?_ ⟨(congrArg Value.bool (show (decide ((j : Int) < 12)) = (decide ((j : Int) < (AK.length : Int)) && decide ((j : Int) < 12)) by rw [b214]; rfl)), H210⟩
   exact zs
  have g217 := of_decide_eq_false b214
  refine ZV 94 (.bool false) (congrArg Value.bool b214) ?_
  iterate 2 refine wn 4 94 true ?_
  refine wv 97 (.bool false) ?_
  apply Zi
  refine Z02 ?_ ⟨(congrArg Value.bool (show false = (decide ((j : Int) < (AK.length : Int)) && decide ((j : Int) < 12)) by rw [b214]; rfl)), H210⟩
  exact zs
 rintro f219 w220 ⟨v222, H221⟩
 refine Zj 97 _ v222 ?_
 refine (ZD (decide ((j : Int) < (AK.length : Int)) && decide ((j : Int) < 12))).elim (fun b223 => ?_) (fun b223 => ?_)
 ·refine Z3G _ b223 ?_
  apply ZZ
  apply ztn
  apply Zb
  apply ZO
  apply Zb
  have hjj : j < AK.length ∧ j < 12 := by have q := b223; simp only [Bool.and_eq_true, decide_eq_true_eq] at q; omega
  obtain ⟨hj1, hj2⟩ := hjj
  have hwk := Z1G (AK.getD j 0) (Gd : Int) (by omega)
  apply Zl
  refine wv 100 (.slice ka AK.length kc) ?_
  refine wv 101 (.int .i64 ((j : Int))) ?_
  obtain ⟨g224, o225, c226, e227, R228⟩ := SliceOf.atD hK 0 (show j < AK.length by omega)
  refine wv 102 (.pointer (some ⟨g224, o225 + ((j : Int)).toNat * 1, none⟩)) ?_ (hr := Z0j (E := 3) (by kernel_rfl) (by kernel_rfl) (Nat.le_of_ble_eq_true rfl) rfl e227 rfl (by omega) (by omega))
  refine zw1 103 (.int .i64 ((AK.getD j 0))) (H221.cellR 8 rfl (Z2T R228 0 (by kernel_rfl) (show o225 + ((j : Int)).toNat * 1 = o225 + j * 1 + 0 by omega)) (fun h => h)) ?_
  refine wv 104 (.int .i64 ((Gd : Int))) ?_
  refine zwd fun Kq kq => ?_
  refine zdq 105 (Z2V w220 (AK.getD j 0) (Gd : Int) (by omega)) H221 ?_
  intro w230 H231
  refine kq _ _ ?_
  clear kq Kq
  refine wv 24 (.int .i64 (Z0a (AK.getD j 0) (Gd : Int))) ?_
  apply znt
  obtain ⟨k, hk⟩ : ∃ k : Nat, (k : Int) = Z0a (AK.getD j 0) (Gd : Int) := ⟨_, Int.toNat_of_nonneg hwk.1⟩
  refine Zj 24 (.int .i64 ((k : Int))) (show ((.int .i64 (Z0a (AK.getD j 0) (Gd : Int))) : Value) = _ by rw [hk]) ?_
  have hkG : k < Gd := by omega
  have hlTP : P.length = N := by omega
  refine Z1j ([25, 26] ++ List.range' 106 13) (fun G_ W_ => ∃ (T1 : List TbR) (B1 : List Ck) (L1 : List Signed), G_ 26 = (.int .i64 (0)) ∧ (TsOk B1 X T1 P (Hs.set k true)) ∧ (stC X ∈ B1) ∧ (L1.Nodup) ∧ (L1.length ≤ 13 + j) ∧ (Z08 F 3 L1 X.x X.S = true) ∧ Sat w [Z1 b6 36 (ZG F), Z1 x13 40 (ZF b_ r_), Z1 b_ 110 (Zy mb_), (Zz mb_ L1), Z1 r_ 98 (ZU ra Lr.length rc), (ZS ra Lr rc), Z1 x15 53 (ZK X), ZL B1, Z5 w (fun _ => False), Zd 73 1 (.slice pa P.length pc) P.length (P.flatMap Z0H), Z1D (tbL F) T1, Z09 b205 4 N Hs] W_) ?_ ?_
  ·obtain ⟨g234, c235, e236⟩ := Z0P (H231.at 9 rfl) (by omega)
   obtain ⟨x237, h238⟩ := Z2a (show k < P.length by omega)
   refine Z0f H231 [Z1 b6 36 (ZG F), Z1 x13 40 (ZF b_ r_), Z1 x15 53 (ZK X), Z5 w (fun _ => False)] 16 rfl (by kernel_rfl) (fun Hx => (Hx.pk [0, 1, 6, 8])) ?_
   intro w239 H240 S241
   refine hv0 0 S241 107 (.slice pa P.length pc) ?_
   refine hv0 1 S241 108 (.int .i64 ((k : Int))) ?_
   refine hv0 4 S241 111 (pt x13 0) ?_
   refine hv0 5 S241 112 (pt b_ 0) ?_ (he := fun _ H' => (Za rfl (by kernel_rfl) (H'.cell 1 rfl rfl)))
   refine hv0 6 S241 113 (.int .u64 (Z8 X.S)) ?_
   refine hv0 7 S241 114 (.int .u64 ((Z8 X.S) - 1)) ?_ (he := fun _ H' => (Z0l (z := (Z8 X.S) - 1) (by kernel_rfl) (Z1k (by omega))))
   refine hv0 8 S241 115 (.agg ⟨(ZK X)⟩) ?_ (he := fun _ H' => (Zs (vs := (ZK X)) rfl (by kernel_rfl) (by kernel_rfl) (by exact Nat.le_of_ble_eq_true (by kernel_rfl)) (H'.at 2 rfl) (by kernel_rfl)))
   refine Z39 2 13 rfl rfl (by kernel_rfl) (Z0 rfl) (Z0 rfl) (fun Kq kq => ?_) (fun Kq kq => ?_)
   ·obtain ⟨g243, c244, e245⟩ := Z0P (H240.at 9 rfl) (by omega)
    obtain ⟨x246, h247⟩ := Z2a (show k < P.length by omega)
    refine Z1S (d := 109) (v := (.pointer (some ⟨g243, 0 + ((k : Int)).toNat * 1, none⟩))) rfl (Z0I (E := 73) (by kernel_rfl) (by kernel_rfl) (Nat.le_of_ble_eq_true rfl) rfl e245 rfl (by omega) (by omega)) ?_
    have S248 := H240.pk [0, 1, 6, 8]
    refine kq _ _ S248 ?_
    clear kq Kq
    refine Z39 3 13 rfl rfl (by kernel_rfl) (Z0 rfl) (Z0 rfl) (fun Kq kq => ?_) (fun Kq kq => ?_)
    ·refine Z1S (d := 110) (v := (pt x246 0)) rfl (Za rfl (by kernel_rfl) (Z0X (H240.at 9 rfl) e245 Z1A h247 0 rfl (show 0 + ((k : Int)).toNat * 1 = k * 1 + 0 by omega) (by kernel_rfl))) ?_
     have S250 := H240.pk [0, 1, 6, 8]
     refine kq _ _ S250 ?_
     clear kq Kq
     refine Z39 9 13 rfl rfl (by kernel_rfl) (Z0 rfl) (Z0 rfl) (fun Kq kq => ?_) (fun Kq kq => ?_)
     ·obtain ⟨q252, y253, e254⟩ := hTs.get h247
      obtain ⟨r255, m256⟩ := hTs.got _ _ y253
      have H257 := H240.pk [10, 0, 1, 2, 3, 4, 5, 6, 7, 8, 9, 11]
      have H258 : Sat w [Z1 x246 121 ([(.int .i64 (F)), (.int .i64 (3)), (.int .i64 (q252.rp)), (.map (some q252.tm))] : List Value), ZA q252.tm nmV ceV q252.M, Z1D (tbL F) (T.eraseIdx k), Z1 b6 36 ([(.int .i64 (F)), (.int .i64 (3))] : List Value), Z1 x13 40 ([(pt b_ 0), (pt r_ 0)] : List Value), Z1 b_ 110 ([(.map (some mb_))] : List Value), ZA mb_ Z7 (Value.int .i64) (Zh Lb), Z1 r_ 98 ([(.slice ra Lr.length rc)] : List Value), Zd 114 2 (.slice ra Lr.length rc) Lr.length (Lr.flatMap Z1b), Z1 x15 53 (([(.int .i64 (X.x.cl)), (.int .i64 (X.x.seq))] : List Value) ++ hc X.x.h ++ ([(.int .i64 (X.x.len)), (.int .i64 (X.x.sb)), (.int .i64 (X.x.sm)), (.slice X.sa X.S.length X.sc)] : List Value)), ZL B, Z5 w (fun _ => False), Zd 73 1 (.slice pa P.length pc) P.length (P.flatMap Z0H), Z09 b205 4 N Hs] w239 := by have q_ := Sat.famOut H257 y253; unfold tbL at q_; rw [e254] at q_; exact q_
      have hqr : 0 ≤ q252.rp ∧ q252.rp ≤ 1000000 := by omega
      refine zdc 116 (Z1r w239 x246 q252.tm F 3 q252.rp q252.M B b_ mb_ Lb (H258.fn [0, 1, 10, 5, 6]) (m256.ceT hXT) (Nat.le_trans m256.len1 (by decide)) hqr hnb (by omega) (by omega) ((Z8 X.S) - 1) X ⟨hXT.x, hXT.S, hXT.len, hXB⟩) ?_
      rintro _ w259 ⟨s260, r261, M262, B263, L264, rfl, e265, z266, z267, d268, T269⟩
      have e270 : r261 = 0 := by rw [e265]; exact m256.take hRX (by omega)
      subst e270
      have H271 := H258.tl [Z1 x246 121 (Z0J F q252.rp q252.tm), ZA q252.tm nmV ceV M262, ZL B263, Z1 b_ 110 (Zy mb_), (Zz mb_ L264)] [0, 1, 10, 5, 6] [2, 3, 4, 7, 8, 9, 11, 12, 13] T269 [0, 1, 5, 6, 7, 3, 4, 8, 9, 10, 2, 11, 12, 13]
      have H272 : Sat w [Z1D (tbL F) (T.set k (⟨q252.t, q252.tm, q252.rp, M262⟩ : TbR)), Z1 b6 36 (ZG F), Z1 x13 40 (ZF b_ r_), Z1 b_ 110 (Zy mb_), (Zz mb_ L264), Z1 r_ 98 (ZU ra Lr.length rc), (ZS ra Lr rc), Z1 x15 53 (ZK X), ZL B263, Z5 w (fun _ => False), Zd 73 1 (.slice pa P.length pc) P.length (P.flatMap Z0H), Z09 b205 4 N Hs] w259 := by
       have q_ := H271.pk [0, 1, 2, 3, 4, 5, 6, 7, 8, 9, 10, 11, 12, 13]
       refine Sat.famIn (q := ⟨q252.t, q252.tm, q252.rp, M262⟩) ?_ (List.getElem?_eq_some_iff.1 y253).1
       unfold tbL
       rw [e254]
       exact q_
      have hput := m256.put d268
      have hLs : L264 = Zg Lb (Z68 q252.rp X) := (z266 rfl).2
      have ndL264 : L264.Nodup := by rw [hLs]; exact Z0K hnb _
      have llL264 : L264.length ≤ Lb.length + 1 := by rw [hLs]; exact Z0W _ _
      have rxL264 : Z08 F 3 L264 X.x X.S = true := by rw [hLs]; exact Z1c hRX _
      have hTs2 : TsOk B263 X (T.set k (⟨q252.t, q252.tm, q252.rp, M262⟩ : TbR)) P (Hs.set k true) := hTs.set y253 (by omega) hput.1 hput.2
      have H273 := H272.pk [1, 2, 3, 4, 5, 6, 7, 8, 9, 10, 0, 11]
      refine ⟨_, rfl, ?_⟩
      have S274 := H273.pk [0, 1, 6, 8]
      refine kq _ _ S274 ?_
      clear kq Kq
      refine hv0 10 S274 106 (.tuple #[(.agg ⟨(Z00 s260)⟩), (.int .i64 (0))]) ?_
      refine hv0 11 S274 117 (.agg ⟨(Z00 s260)⟩) ?_
      refine hv0 12 S274 118 (.int .i64 (0)) ?_
      refine Z0R 13 fun Kq kq => ?_
      refine zda (Z0z) H273 ?_
      intro b276 w277 H278
      have S279 := H278.pk [0, 1, 6, 8]
      refine kq _ _ S279 ?_
      clear kq Kq
      refine Z0R 14 fun Kq kq => ?_
      refine Z2N (Z00 s260) H278 12 ?_
      intro w281 H282
      have S284 := H282.pk [0, 1, 6, 8]
      refine kq _ _ S284 ?_
      clear kq Kq
      refine hv0 15 S284 26 (.int .i64 (0)) ?_
      refine zhf ?_
      have H285 := H282.pk [0, 1, 2, 3, 4, 5, 6, 7, 8, 9, 10, 11]
      refine Z02 ?_ ⟨(T.set k (⟨q252.t, q252.tm, q252.rp, M262⟩ : TbR)), B263, L264, rfl, hTs2, (hput.2 _ hXB), ndL264, (by omega), rxL264, H285⟩
      exact zs
     refine zda (Z0z) H240 ?_
     intro b286 w287 H288
     have S289 := H288.pk [0, 1, 6, 8]
     refine kq _ _ S289 ?_
     clear kq Kq
     refine Z0R 9 fun Kq kq => ?_
     obtain ⟨q291, y292, e293⟩ := hTs.get h247
     obtain ⟨r294, m295⟩ := hTs.got _ _ y292
     have H296 := H288.pk [10, 0, 1, 2, 3, 4, 5, 6, 7, 8, 9, 11, 12]
     have H297 : Sat w [Z1 x246 121 ([(.int .i64 (F)), (.int .i64 (3)), (.int .i64 (q291.rp)), (.map (some q291.tm))] : List Value), ZA q291.tm nmV ceV q291.M, Z1D (tbL F) (T.eraseIdx k), Z1 b6 36 ([(.int .i64 (F)), (.int .i64 (3))] : List Value), Z1 x13 40 ([(pt b_ 0), (pt r_ 0)] : List Value), Z1 b_ 110 ([(.map (some mb_))] : List Value), ZA mb_ Z7 (Value.int .i64) (Zh Lb), Z1 r_ 98 ([(.slice ra Lr.length rc)] : List Value), Zd 114 2 (.slice ra Lr.length rc) Lr.length (Lr.flatMap Z1b), Z1 x15 53 (([(.int .i64 (X.x.cl)), (.int .i64 (X.x.seq))] : List Value) ++ hc X.x.h ++ ([(.int .i64 (X.x.len)), (.int .i64 (X.x.sb)), (.int .i64 (X.x.sm)), (.slice X.sa X.S.length X.sc)] : List Value)), ZL B, Z5 w (fun _ => False), Zd 73 1 (.slice pa P.length pc) P.length (P.flatMap Z0H), Z09 b205 4 N Hs, Z1 b286 31 (([(.int .i64 (0)), (.int .i64 (0)), (.int .i64 (0))] : List Value) ++ hc Zt ++ ([(.int .u64 (0)), (.int .i64 (0)), (.int .i64 (0))] : List Value))] w287 := by have q_ := Sat.famOut H296 y292; unfold tbL at q_; rw [e293] at q_; exact q_
     have hqr : 0 ≤ q291.rp ∧ q291.rp ≤ 1000000 := by omega
     refine zdc 116 (Z1r w287 x246 q291.tm F 3 q291.rp q291.M B b_ mb_ Lb (H297.fn [0, 1, 10, 5, 6]) (m295.ceT hXT) (Nat.le_trans m295.len1 (by decide)) hqr hnb (by omega) (by omega) ((Z8 X.S) - 1) X ⟨hXT.x, hXT.S, hXT.len, hXB⟩) ?_
     rintro _ w298 ⟨s299, r300, M301, B302, L303, rfl, e304, z305, z306, d307, T308⟩
     have e309 : r300 = 0 := by rw [e304]; exact m295.take hRX (by omega)
     subst e309
     have H310 := H297.tl [Z1 x246 121 (Z0J F q291.rp q291.tm), ZA q291.tm nmV ceV M301, ZL B302, Z1 b_ 110 (Zy mb_), (Zz mb_ L303)] [0, 1, 10, 5, 6] [2, 3, 4, 7, 8, 9, 11, 12, 13, 14] T308 [0, 1, 5, 6, 7, 3, 4, 8, 9, 10, 2, 11, 12, 13, 14]
     have H311 : Sat w [Z1D (tbL F) (T.set k (⟨q291.t, q291.tm, q291.rp, M301⟩ : TbR)), Z1 b6 36 (ZG F), Z1 x13 40 (ZF b_ r_), Z1 b_ 110 (Zy mb_), (Zz mb_ L303), Z1 r_ 98 (ZU ra Lr.length rc), (ZS ra Lr rc), Z1 x15 53 (ZK X), ZL B302, Z5 w (fun _ => False), Zd 73 1 (.slice pa P.length pc) P.length (P.flatMap Z0H), Z09 b205 4 N Hs, Z1 b286 31 (Z0z)] w298 := by
      have q_ := H310.pk [0, 1, 2, 3, 4, 5, 6, 7, 8, 9, 10, 11, 12, 13, 14]
      refine Sat.famIn (q := ⟨q291.t, q291.tm, q291.rp, M301⟩) ?_ (List.getElem?_eq_some_iff.1 y292).1
      unfold tbL
      rw [e293]
      exact q_
     have hput := m295.put d307
     have hLs : L303 = Zg Lb (Z68 q291.rp X) := (z305 rfl).2
     have ndL303 : L303.Nodup := by rw [hLs]; exact Z0K hnb _
     have llL303 : L303.length ≤ Lb.length + 1 := by rw [hLs]; exact Z0W _ _
     have rxL303 : Z08 F 3 L303 X.x X.S = true := by rw [hLs]; exact Z1c hRX _
     have hTs2 : TsOk B302 X (T.set k (⟨q291.t, q291.tm, q291.rp, M301⟩ : TbR)) P (Hs.set k true) := hTs.set y292 (by omega) hput.1 hput.2
     have H312 := H311.pk [1, 2, 3, 4, 5, 6, 7, 8, 9, 10, 0, 11, 12]
     refine ⟨_, rfl, ?_⟩
     have S313 := H312.pk [0, 1, 6, 8]
     refine kq _ _ S313 ?_
     clear kq Kq
     refine hv0 10 S313 106 (.tuple #[(.agg ⟨(Z00 s299)⟩), (.int .i64 (0))]) ?_
     refine hv0 11 S313 117 (.agg ⟨(Z00 s299)⟩) ?_
     refine hv0 12 S313 118 (.int .i64 (0)) ?_
     refine Z0R 14 fun Kq kq => ?_
     refine Z2N (Z00 s299) H312 12 ?_
     intro w315 H316
     have S318 := H316.pk [0, 1, 6, 8]
     refine kq _ _ S318 ?_
     clear kq Kq
     refine hv0 15 S318 26 (.int .i64 (0)) ?_
     refine zhf ?_
     have H319 := H316.pk [0, 1, 2, 3, 4, 5, 6, 7, 8, 9, 10, 11]
     refine Z02 ?_ ⟨(T.set k (⟨q291.t, q291.tm, q291.rp, M301⟩ : TbR)), B302, L303, rfl, hTs2, (hput.2 _ hXB), ndL303, (by omega), rxL303, H319⟩
     exact zs
    refine zda (Z0z) H240 ?_
    intro b320 w321 H322
    have S323 := H322.pk [0, 1, 6, 8]
    refine kq _ _ S323 ?_
    clear kq Kq
    refine Z0R 3 fun Kq kq => ?_
    refine Z1S (d := 110) (v := (pt x246 0)) rfl (Za rfl (by kernel_rfl) (Z0X (H322.at 9 rfl) e245 Z1A h247 0 rfl (show 0 + ((k : Int)).toNat * 1 = k * 1 + 0 by omega) (by kernel_rfl))) ?_
    have S325 := H322.pk [0, 1, 6, 8]
    refine kq _ _ S325 ?_
    clear kq Kq
    refine Z0R 9 fun Kq kq => ?_
    obtain ⟨q327, y328, e329⟩ := hTs.get h247
    obtain ⟨r330, m331⟩ := hTs.got _ _ y328
    have H332 := H322.pk [10, 0, 1, 2, 3, 4, 5, 6, 7, 8, 9, 11, 12]
    have H333 : Sat w [Z1 x246 121 ([(.int .i64 (F)), (.int .i64 (3)), (.int .i64 (q327.rp)), (.map (some q327.tm))] : List Value), ZA q327.tm nmV ceV q327.M, Z1D (tbL F) (T.eraseIdx k), Z1 b6 36 ([(.int .i64 (F)), (.int .i64 (3))] : List Value), Z1 x13 40 ([(pt b_ 0), (pt r_ 0)] : List Value), Z1 b_ 110 ([(.map (some mb_))] : List Value), ZA mb_ Z7 (Value.int .i64) (Zh Lb), Z1 r_ 98 ([(.slice ra Lr.length rc)] : List Value), Zd 114 2 (.slice ra Lr.length rc) Lr.length (Lr.flatMap Z1b), Z1 x15 53 (([(.int .i64 (X.x.cl)), (.int .i64 (X.x.seq))] : List Value) ++ hc X.x.h ++ ([(.int .i64 (X.x.len)), (.int .i64 (X.x.sb)), (.int .i64 (X.x.sm)), (.slice X.sa X.S.length X.sc)] : List Value)), ZL B, Z5 w (fun _ => False), Zd 73 1 (.slice pa P.length pc) P.length (P.flatMap Z0H), Z09 b205 4 N Hs, Z1 b320 31 (([(.int .i64 (0)), (.int .i64 (0)), (.int .i64 (0))] : List Value) ++ hc Zt ++ ([(.int .u64 (0)), (.int .i64 (0)), (.int .i64 (0))] : List Value))] w321 := by have q_ := Sat.famOut H332 y328; unfold tbL at q_; rw [e329] at q_; exact q_
    have hqr : 0 ≤ q327.rp ∧ q327.rp ≤ 1000000 := by omega
    refine zdc 116 (Z1r w321 x246 q327.tm F 3 q327.rp q327.M B b_ mb_ Lb (H333.fn [0, 1, 10, 5, 6]) (m331.ceT hXT) (Nat.le_trans m331.len1 (by decide)) hqr hnb (by omega) (by omega) ((Z8 X.S) - 1) X ⟨hXT.x, hXT.S, hXT.len, hXB⟩) ?_
    rintro _ w334 ⟨s335, r336, M337, B338, L339, rfl, e340, z341, z342, d343, T344⟩
    have e345 : r336 = 0 := by rw [e340]; exact m331.take hRX (by omega)
    subst e345
    have H346 := H333.tl [Z1 x246 121 (Z0J F q327.rp q327.tm), ZA q327.tm nmV ceV M337, ZL B338, Z1 b_ 110 (Zy mb_), (Zz mb_ L339)] [0, 1, 10, 5, 6] [2, 3, 4, 7, 8, 9, 11, 12, 13, 14] T344 [0, 1, 5, 6, 7, 3, 4, 8, 9, 10, 2, 11, 12, 13, 14]
    have H347 : Sat w [Z1D (tbL F) (T.set k (⟨q327.t, q327.tm, q327.rp, M337⟩ : TbR)), Z1 b6 36 (ZG F), Z1 x13 40 (ZF b_ r_), Z1 b_ 110 (Zy mb_), (Zz mb_ L339), Z1 r_ 98 (ZU ra Lr.length rc), (ZS ra Lr rc), Z1 x15 53 (ZK X), ZL B338, Z5 w (fun _ => False), Zd 73 1 (.slice pa P.length pc) P.length (P.flatMap Z0H), Z09 b205 4 N Hs, Z1 b320 31 (Z0z)] w334 := by
     have q_ := H346.pk [0, 1, 2, 3, 4, 5, 6, 7, 8, 9, 10, 11, 12, 13, 14]
     refine Sat.famIn (q := ⟨q327.t, q327.tm, q327.rp, M337⟩) ?_ (List.getElem?_eq_some_iff.1 y328).1
     unfold tbL
     rw [e329]
     exact q_
    have hput := m331.put d343
    have hLs : L339 = Zg Lb (Z68 q327.rp X) := (z341 rfl).2
    have ndL339 : L339.Nodup := by rw [hLs]; exact Z0K hnb _
    have llL339 : L339.length ≤ Lb.length + 1 := by rw [hLs]; exact Z0W _ _
    have rxL339 : Z08 F 3 L339 X.x X.S = true := by rw [hLs]; exact Z1c hRX _
    have hTs2 : TsOk B338 X (T.set k (⟨q327.t, q327.tm, q327.rp, M337⟩ : TbR)) P (Hs.set k true) := hTs.set y328 (by omega) hput.1 hput.2
    have H348 := H347.pk [1, 2, 3, 4, 5, 6, 7, 8, 9, 10, 0, 11, 12]
    refine ⟨_, rfl, ?_⟩
    have S349 := H348.pk [0, 1, 6, 8]
    refine kq _ _ S349 ?_
    clear kq Kq
    refine hv0 10 S349 106 (.tuple #[(.agg ⟨(Z00 s335)⟩), (.int .i64 (0))]) ?_
    refine hv0 11 S349 117 (.agg ⟨(Z00 s335)⟩) ?_
    refine hv0 12 S349 118 (.int .i64 (0)) ?_
    refine Z0R 14 fun Kq kq => ?_
    refine Z2N (Z00 s335) H348 12 ?_
    intro w351 H352
    have S354 := H352.pk [0, 1, 6, 8]
    refine kq _ _ S354 ?_
    clear kq Kq
    refine hv0 15 S354 26 (.int .i64 (0)) ?_
    refine zhf ?_
    have H355 := H352.pk [0, 1, 2, 3, 4, 5, 6, 7, 8, 9, 10, 11]
    refine Z02 ?_ ⟨(T.set k (⟨q327.t, q327.tm, q327.rp, M337⟩ : TbR)), B338, L339, rfl, hTs2, (hput.2 _ hXB), ndL339, (by omega), rxL339, H355⟩
    exact zs
   refine zda (Z0z) H240 ?_
   intro b356 w357 H358
   have S359 := H358.pk [0, 1, 6, 8]
   refine kq _ _ S359 ?_
   clear kq Kq
   refine Z0R 2 fun Kq kq => ?_
   obtain ⟨g361, c362, e363⟩ := Z0P (H358.at 9 rfl) (by omega)
   obtain ⟨x364, h365⟩ := Z2a (show k < P.length by omega)
   refine Z1S (d := 109) (v := (.pointer (some ⟨g361, 0 + ((k : Int)).toNat * 1, none⟩))) rfl (Z0I (E := 73) (by kernel_rfl) (by kernel_rfl) (Nat.le_of_ble_eq_true rfl) rfl e363 rfl (by omega) (by omega)) ?_
   have S366 := H358.pk [0, 1, 6, 8]
   refine kq _ _ S366 ?_
   clear kq Kq
   refine Z0R 3 fun Kq kq => ?_
   refine Z1S (d := 110) (v := (pt x364 0)) rfl (Za rfl (by kernel_rfl) (Z0X (H358.at 9 rfl) e363 Z1A h365 0 rfl (show 0 + ((k : Int)).toNat * 1 = k * 1 + 0 by omega) (by kernel_rfl))) ?_
   have S368 := H358.pk [0, 1, 6, 8]
   refine kq _ _ S368 ?_
   clear kq Kq
   refine Z0R 9 fun Kq kq => ?_
   obtain ⟨q370, y371, e372⟩ := hTs.get h365
   obtain ⟨r373, m374⟩ := hTs.got _ _ y371
   have H375 := H358.pk [10, 0, 1, 2, 3, 4, 5, 6, 7, 8, 9, 11, 12]
   have H376 : Sat w [Z1 x364 121 ([(.int .i64 (F)), (.int .i64 (3)), (.int .i64 (q370.rp)), (.map (some q370.tm))] : List Value), ZA q370.tm nmV ceV q370.M, Z1D (tbL F) (T.eraseIdx k), Z1 b6 36 ([(.int .i64 (F)), (.int .i64 (3))] : List Value), Z1 x13 40 ([(pt b_ 0), (pt r_ 0)] : List Value), Z1 b_ 110 ([(.map (some mb_))] : List Value), ZA mb_ Z7 (Value.int .i64) (Zh Lb), Z1 r_ 98 ([(.slice ra Lr.length rc)] : List Value), Zd 114 2 (.slice ra Lr.length rc) Lr.length (Lr.flatMap Z1b), Z1 x15 53 (([(.int .i64 (X.x.cl)), (.int .i64 (X.x.seq))] : List Value) ++ hc X.x.h ++ ([(.int .i64 (X.x.len)), (.int .i64 (X.x.sb)), (.int .i64 (X.x.sm)), (.slice X.sa X.S.length X.sc)] : List Value)), ZL B, Z5 w (fun _ => False), Zd 73 1 (.slice pa P.length pc) P.length (P.flatMap Z0H), Z09 b205 4 N Hs, Z1 b356 31 (([(.int .i64 (0)), (.int .i64 (0)), (.int .i64 (0))] : List Value) ++ hc Zt ++ ([(.int .u64 (0)), (.int .i64 (0)), (.int .i64 (0))] : List Value))] w357 := by have q_ := Sat.famOut H375 y371; unfold tbL at q_; rw [e372] at q_; exact q_
   have hqr : 0 ≤ q370.rp ∧ q370.rp ≤ 1000000 := by omega
   refine zdc 116 (Z1r w357 x364 q370.tm F 3 q370.rp q370.M B b_ mb_ Lb (H376.fn [0, 1, 10, 5, 6]) (m374.ceT hXT) (Nat.le_trans m374.len1 (by decide)) hqr hnb (by omega) (by omega) ((Z8 X.S) - 1) X ⟨hXT.x, hXT.S, hXT.len, hXB⟩) ?_
   rintro _ w377 ⟨s378, r379, M380, B381, L382, rfl, e383, z384, z385, d386, T387⟩
   have e388 : r379 = 0 := by rw [e383]; exact m374.take hRX (by omega)
   subst e388
   have H389 := H376.tl [Z1 x364 121 (Z0J F q370.rp q370.tm), ZA q370.tm nmV ceV M380, ZL B381, Z1 b_ 110 (Zy mb_), (Zz mb_ L382)] [0, 1, 10, 5, 6] [2, 3, 4, 7, 8, 9, 11, 12, 13, 14] T387 [0, 1, 5, 6, 7, 3, 4, 8, 9, 10, 2, 11, 12, 13, 14]
   have H390 : Sat w [Z1D (tbL F) (T.set k (⟨q370.t, q370.tm, q370.rp, M380⟩ : TbR)), Z1 b6 36 (ZG F), Z1 x13 40 (ZF b_ r_), Z1 b_ 110 (Zy mb_), (Zz mb_ L382), Z1 r_ 98 (ZU ra Lr.length rc), (ZS ra Lr rc), Z1 x15 53 (ZK X), ZL B381, Z5 w (fun _ => False), Zd 73 1 (.slice pa P.length pc) P.length (P.flatMap Z0H), Z09 b205 4 N Hs, Z1 b356 31 (Z0z)] w377 := by
    have q_ := H389.pk [0, 1, 2, 3, 4, 5, 6, 7, 8, 9, 10, 11, 12, 13, 14]
    refine Sat.famIn (q := ⟨q370.t, q370.tm, q370.rp, M380⟩) ?_ (List.getElem?_eq_some_iff.1 y371).1
    unfold tbL
    rw [e372]
    exact q_
   have hput := m374.put d386
   have hLs : L382 = Zg Lb (Z68 q370.rp X) := (z384 rfl).2
   have ndL382 : L382.Nodup := by rw [hLs]; exact Z0K hnb _
   have llL382 : L382.length ≤ Lb.length + 1 := by rw [hLs]; exact Z0W _ _
   have rxL382 : Z08 F 3 L382 X.x X.S = true := by rw [hLs]; exact Z1c hRX _
   have hTs2 : TsOk B381 X (T.set k (⟨q370.t, q370.tm, q370.rp, M380⟩ : TbR)) P (Hs.set k true) := hTs.set y371 (by omega) hput.1 hput.2
   have H391 := H390.pk [1, 2, 3, 4, 5, 6, 7, 8, 9, 10, 0, 11, 12]
   refine ⟨_, rfl, ?_⟩
   have S392 := H391.pk [0, 1, 6, 8]
   refine kq _ _ S392 ?_
   clear kq Kq
   refine hv0 10 S392 106 (.tuple #[(.agg ⟨(Z00 s378)⟩), (.int .i64 (0))]) ?_
   refine hv0 11 S392 117 (.agg ⟨(Z00 s378)⟩) ?_
   refine hv0 12 S392 118 (.int .i64 (0)) ?_
   refine Z0R 14 fun Kq kq => ?_
   refine Z2N (Z00 s378) H391 12 ?_
   intro w394 H395
   have S397 := H395.pk [0, 1, 6, 8]
   refine kq _ _ S397 ?_
   clear kq Kq
   refine hv0 15 S397 26 (.int .i64 (0)) ?_
   refine zhf ?_
   have H398 := H395.pk [0, 1, 2, 3, 4, 5, 6, 7, 8, 9, 10, 11]
   refine Z02 ?_ ⟨(T.set k (⟨q370.t, q370.tm, q370.rp, M380⟩ : TbR)), B381, L382, rfl, hTs2, (hput.2 _ hXB), ndL382, (by omega), rxL382, H398⟩
   exact zs
  rintro f399 w400 ⟨T1, B1, L1, v402, hTs1, hXB1, hnb1, hlb1, hRX1, H401⟩
  refine Zj 26 _ v402 ?_
  apply Zb
  apply zsl
  refine wv 119 (.int .i64 (0)) ?_
  refine wv 120 (.bool false) ?_
  apply znt
  refine Z0r rfl ?_
  apply ZZ
  apply ztn
  apply Zl
  refine wv 121 (.slice (some ⟨b205, 0, none⟩) N N) ?_
  refine wv 122 (.int .i64 ((k : Int))) ?_
  refine wv 123 (.pointer (some ⟨b205, 0 + ((k : Int)).toNat * 1, none⟩)) ?_ (hr := Z0i (E := 4) (by kernel_rfl) (by kernel_rfl) (Nat.le_of_ble_eq_true rfl) rfl rfl (by omega) (by omega))
  refine zwd fun Kq kq => ?_
  refine Z4k rfl H401 11 rfl rfl rfl (by kernel_rfl) (show 0 + ((k : Int)).toNat * 1 = k by omega) (show k < N by omega) ?_
  intro w404 H405
  refine kq _ _ ?_
  clear kq Kq
  apply Zi
  apply ZE
  apply ztn
  apply Zl
  refine wv 98 (.int .i64 ((j : Int))) ?_
  refine zwi 99 ((j : Int) + 1) ?_
  refine wv 23 (.int .i64 ((j : Int) + 1)) ?_
  apply Zi
  refine ZH ?_ _ ⟨(j + 1), T1, (Hs.set k true), B1, L1, rfl, (by omega), (by omega), hTs1, (by rw [List.length_set]; exact hlH), hXB1, hnb1, (by omega), hRX1, (fun z hz => by rw [List.getD_eq_getElem?_getD, List.getElem?_set_ne (by omega), ← List.getD_eq_getElem?_getD]; exact hout z hz), H405, rfl⟩ (by omega)
  exact zs
 refine Z3h _ b223 ?_
 apply zxb
 apply ztn
 apply zsl
 refine wv 27 (.int .i64 (0)) ?_
 apply znt
 apply Zb
 apply zsl
 refine wv 124 (.slice (some ⟨b205, 0, none⟩) N N) ?_
 refine wv 125 (.int .i64 ((N : Int))) ?_
 refine wv 126 (.int .i64 (0)) ?_
 apply znt
 apply ZO
 refine Z0c ([27, 28] ++ List.range' 126 10) (fun F_ W_ m_ => ∃ (c : Nat), F_ 126 = (.int .i64 ((c : Int))) ∧ F_ 27 = (.int .i64 (((Hs.take c).count true : Int))) ∧ (c ≤ N) ∧ Sat w [Z1 b6 36 (ZG F), Z1 x13 40 (ZF b_ r_), Z1 b_ 110 (Zy mb_), (Zz mb_ Lb), Z1 r_ 98 (ZU ra Lr.length rc), (ZS ra Lr rc), Z1 x15 53 (ZK X), ZL B, Z5 w (fun _ => False), Zd 73 1 (.slice pa P.length pc) P.length (P.flatMap Z0H), Z1D (tbL F) T, Z09 b205 4 N Hs] W_ ∧ m_ = N - c) _ ⟨0, (show ((.int .i64 (0)) : Value) = _ by first | rfl | go_num), (show ((.int .i64 (0)) : Value) = _ by first | rfl | go_num), (Nat.zero_le _), H221, rfl⟩ ?_
 rintro g406 w407 _ ⟨c, v409, v410, hcN0, H408, rfl⟩
 refine Zj 126 _ v409 ?_
 refine Zj 27 _ v410 ?_
 have hcc := List.count_le_length (a := true) (l := Hs.take c)
 rw [List.length_take] at hcc
 apply zsl
 refine wv 127 (.bool (decide ((c : Int) < (N : Int)))) ?_
 apply znt
 apply Zb
 refine (ZD (decide ((c : Int) < (N : Int)))).elim (fun b412 => ?_) (fun b412 => ?_)
 ·have g413 := of_decide_eq_true b412
  refine Z3G _ b412 ?_
  apply ZZ
  apply ztn
  apply Zb
  apply ZO
  apply zsl
  refine wv 128 (.int .i64 ((c : Int))) ?_
  refine wv 28 (.int .i64 ((c : Int))) ?_
  apply Z4Q
  refine wv 129 (.slice (some ⟨b205, 0, none⟩) N N) ?_
  refine wv 130 (.int .i64 ((c : Int))) ?_
  refine wv 131 (.pointer (some ⟨b205, 0 + ((c : Int)).toNat * 1, none⟩)) ?_ (hr := Z0i (E := 4) (by kernel_rfl) (by kernel_rfl) (Nat.le_of_ble_eq_true rfl) rfl rfl (by omega) (by omega))
  refine zw1 132 (.bool (Hs.getD c false)) (Z1Y (H408.at 11 rfl) (show c < N by omega) (show 0 + ((c : Int)).toNat * 1 = c by omega)) ?_
  apply znt
  refine (ZD (Hs.getD c false)).elim (fun b415 => ?_) (fun b415 => ?_)
  ·refine Z3G _ b415 ?_
   apply Zl
   refine wv 133 (.int .i64 (((Hs.take c).count true : Int))) ?_
   refine zwi 134 (((Hs.take c).count true : Int) + 1) ?_
   refine wv 27 (.int .i64 (((Hs.take c).count true : Int) + 1)) ?_
   apply Zi
   apply ZE
   apply ztn
   apply Zl
   refine zwi 135 ((c : Int) + 1) ?_
   refine wv 126 (.int .i64 ((c : Int) + 1)) ?_
   apply Zi
   refine ZH ?_ _ ⟨(c + 1), rfl, (show ((.int .i64 (((Hs.take c).count true : Int) + 1)) : Value) = _ by rw [Z6H Hs (by omega), if_pos (by exact b415)]; rfl), (by omega), H408, rfl⟩ (by omega)
   exact zs
  refine Z3h _ b415 ?_
  apply ZZ
  apply ZE
  apply ztn
  apply Zl
  refine zwi 135 ((c : Int) + 1) ?_
  refine wv 126 (.int .i64 ((c : Int) + 1)) ?_
  apply Zi
  refine ZH ?_ _ ⟨(c + 1), rfl, (show ((.int .i64 (((Hs.take c).count true : Int))) : Value) = _ by rw [Z6H Hs (by omega), if_neg (by rw [b415]; decide)]; rfl), (by omega), H408, rfl⟩ (by omega)
  exact zs
 have g416 := of_decide_eq_false b412
 refine Z3h _ b412 ?_
 apply zxb
 apply ztn
 apply zsl
 refine wv 136 (.int .i64 ((N : Int))) ?_
 refine zwd fun Kq kq => ?_
 refine Z6M (e := 4) (m := N) rfl H408 (by kernel_rfl) (by kernel_rfl) rfl rfl (by omega) ?_
 intro b419 w420 H421
 refine kq _ _ ?_
 clear kq Kq
 refine wv 29 (.slice (some ⟨b419, 0, none⟩) N N) ?_
 apply Z4Q
 refine wv 30 (.int .i64 (0)) ?_
 apply znt
 apply Zb
 apply zsl
 refine wv 31 (.int .i64 (0)) ?_
 apply znt
 apply ZO
 refine Z0c ([30, 31] ++ List.range' 138 13) (fun F_ W_ m_ => ∃ (e : Nat) (Qs : List Bool), F_ 31 = (.int .i64 ((e : Int))) ∧ F_ 30 = (.int .i64 ((e : Int))) ∧ ((e : Int) ≤ F) ∧ (Qs.length = N) ∧ ((Qs.take Gd).count true = 0) ∧ Sat w [Z1 b6 36 (ZG F), Z1 x13 40 (ZF b_ r_), Z1 b_ 110 (Zy mb_), (Zz mb_ Lb), Z1 r_ 98 (ZU ra Lr.length rc), (ZS ra Lr rc), Z1 x15 53 (ZK X), ZL B, Z5 w (fun _ => False), Zd 73 1 (.slice pa P.length pc) P.length (P.flatMap Z0H), Z1D (tbL F) T, Z09 b205 4 N Hs, Z09 b419 4 N Qs] W_ ∧ m_ = (F - (e : Int)).toNat) _ ⟨0, (List.replicate N false), (show ((.int .i64 (0)) : Value) = _ by first | rfl | go_num), (show ((.int .i64 (0)) : Value) = _ by first | rfl | go_num), (by omega), (List.length_replicate ..), (Z8l N Gd), H421, rfl⟩ ?_
 rintro g422 w423 _ ⟨e, Qs, v425, v426, he, hlQ, hq0, H424, rfl⟩
 refine Zj 31 _ v425 ?_
 refine Zj 30 _ v426 ?_
 apply Zb
 apply zsl
 refine wv 138 (.int .i64 ((e : Int))) ?_
 refine wv 139 (pt b6 0) ?_
 refine zw1 140 (.int .i64 (F)) (H424.cell 0 rfl rfl) ?_
 refine wv 141 (.bool (decide ((e : Int) < F))) ?_
 apply znt
 refine (ZD (decide ((e : Int) < F))).elim (fun b428 => ?_) (fun b428 => ?_)
 ·have g429 := of_decide_eq_true b428
  refine Z3G _ b428 ?_
  apply ZZ
  apply ztn
  apply Zb
  apply ZO
  apply zsl
  refine wv 144 (.slice (some ⟨b419, 0, none⟩) N N) ?_
  refine wv 145 (.int .i64 ((Gd : Int))) ?_
  refine wv 146 (.int .i64 ((e : Int))) ?_
  refine zwi 147 ((Gd : Int) + (e : Int)) ?_
  refine wv 148 (.pointer (some ⟨b419, 0 + ((Gd : Int) + (e : Int)).toNat * 1, none⟩)) ?_ (hr := Z0i (E := 4) (by kernel_rfl) (by kernel_rfl) (Nat.le_of_ble_eq_true rfl) rfl rfl (by omega) (by omega))
  refine zwd fun Kq kq => ?_
  refine Z4k rfl H424 12 rfl rfl rfl (by kernel_rfl) (show 0 + ((Gd : Int) + (e : Int)).toNat * 1 = (Gd + e) by omega) (show (Gd + e) < N by omega) ?_
  intro w432 H433
  refine kq _ _ ?_
  clear kq Kq
  apply znt
  apply Zl
  refine wv 149 (.int .i64 ((e : Int))) ?_
  refine zwi 150 ((e : Int) + 1) ?_
  refine wv 30 (.int .i64 ((e : Int) + 1)) ?_
  apply Zi
  apply ZE
  apply ztn
  apply Zl
  refine wv 142 (.int .i64 ((e : Int))) ?_
  refine zwi 143 ((e : Int) + 1) ?_
  refine wv 31 (.int .i64 ((e : Int) + 1)) ?_
  apply Zi
  refine ZH ?_ _ ⟨(e + 1), (Qs.set (Gd + e) true), rfl, rfl, (by omega), (by rw [List.length_set]; exact hlQ), (by rw [Z8D (by omega)]; exact hq0), H433, rfl⟩ (by omega)
  exact zs
 have g434 := of_decide_eq_false b428
 refine Z3h _ b428 ?_
 apply zxb
 apply ztn
 apply Zb
 apply zsl
 refine wv 32 (.int .i64 (0)) ?_
 apply znt
 apply ZO
 refine Z0c ([30, 32, 33] ++ List.range' 151 37) (fun F_ W_ m_ => ∃ (u : Nat) (n2 : Nat) (Rs : List Bool), F_ 32 = (.int .i64 ((u : Int))) ∧ F_ 30 = (.int .i64 ((n2 : Int))) ∧ (Rs.length = N) ∧ ((n2 : Int) = F + ((Rs.take Gd).count true : Int)) ∧ ((n2 : Int) ≤ 2 * F + 1) ∧ ((u : Int) + F = (n2 : Int)) ∧ Sat w [Z1 b6 36 (ZG F), Z1 x13 40 (ZF b_ r_), Z1 b_ 110 (Zy mb_), (Zz mb_ Lb), Z1 r_ 98 (ZU ra Lr.length rc), (ZS ra Lr rc), Z1 x15 53 (ZK X), ZL B, Z5 w (fun _ => False), Zd 73 1 (.slice pa P.length pc) P.length (P.flatMap Z0H), Z1D (tbL F) T, Z09 b205 4 N Hs, Z09 b419 4 N Rs] W_ ∧ m_ = (2 * F + 1 - (n2 : Int)).toNat) _ ⟨0, e, Qs, (show ((.int .i64 (0)) : Value) = _ by first | rfl | go_num), (show ((.int .i64 ((e : Int))) : Value) = _ by first | rfl | go_num), hlQ, (by rw [hq0]; omega), (by omega), (by omega), H424, rfl⟩ ?_
 rintro g436 w437 _ ⟨u, n2, Rs, v439, v440, hlR, hn2, hn3, hu, H438, rfl⟩
 refine Zj 32 _ v439 ?_
 refine Zj 30 _ v440 ?_
 apply Zb
 apply zsl
 refine wv 151 (.int .i64 ((n2 : Int))) ?_
 refine wv 152 (pt b6 0) ?_
 refine zw1 153 (.int .i64 (F)) (H438.cell 0 rfl rfl) ?_
 refine zwi 154 (2 * F) ?_
 refine zwi 155 ((2 * F) + 1) ?_
 refine wv 156 (.bool (decide ((n2 : Int) < ((2 * F) + 1)))) ?_
 apply znt
 refine (ZD (decide ((n2 : Int) < ((2 * F) + 1)))).elim (fun b442 => ?_) (fun b442 => ?_)
 ·have g443 := of_decide_eq_true b442
  refine Z3G _ b442 ?_
  apply ZZ
  apply ztn
  apply Zb
  apply ZO
  apply zsl
  refine wv 159 (.int .i64 ((u : Int))) ?_
  refine wv 33 (.int .i64 ((u : Int))) ?_
  apply znt
  refine Z1j ([33] ++ List.range' 160 12) (fun G_ W_ => ∃ (v : Int), G_ 33 = (.int .i64 (v)) ∧ Sat w [Z1 b6 36 (ZG F), Z1 x13 40 (ZF b_ r_), Z1 b_ 110 (Zy mb_), (Zz mb_ Lb), Z1 r_ 98 (ZU ra Lr.length rc), (ZS ra Lr rc), Z1 x15 53 (ZK X), ZL B, Z5 w (fun _ => False), Zd 73 1 (.slice pa P.length pc) P.length (P.flatMap Z0H), Z1D (tbL F) T, Z09 b205 4 N Hs, Z09 b419 4 N Rs] W_) ?_ ?_
  ·apply zsl
   refine wv 160 (.int .i64 ((u : Int))) ?_
   refine wv 161 (.slice oa OD.length oc) ?_
   refine wv 162 (.int .i64 ((OD.length : Int))) ?_
   refine wv 163 (.bool (decide ((u : Int) < (OD.length : Int)))) ?_
   refine wv 164 (.bool (decide ((u : Int) < (OD.length : Int)))) ?_
   refine (ZD (decide ((u : Int) < (OD.length : Int)))).elim (fun b446 => ?_) (fun b446 => ?_)
   ·have g447 := of_decide_eq_true b446
    refine ZV 164 (.bool true) (congrArg Value.bool b446) ?_
    refine wy 4 164 true 165 (.int .i64 ((u : Int))) ?_
    refine wy 4 164 true 166 (.bool (decide ((u : Int) < 20))) ?_
    refine wv 167 (.bool (decide ((u : Int) < 20))) ?_
    apply znt
    refine (ZD (decide ((u : Int) < 20))).elim (fun b449 => ?_) (fun b449 => ?_)
    ·have g450 := of_decide_eq_true b449
     refine Z3G _ b449 ?_
     apply Zl
     refine wv 168 (.slice oa OD.length oc) ?_
     refine wv 169 (.int .i64 ((u : Int))) ?_
     obtain ⟨g452, o453, c454, e455, R456⟩ := SliceOf.atD hO 0 (show u < OD.length by omega)
     refine wv 170 (.pointer (some ⟨g452, o453 + ((u : Int)).toNat * 1, none⟩)) ?_ (hr := Z0j (E := 3) (by kernel_rfl) (by kernel_rfl) (Nat.le_of_ble_eq_true rfl) rfl e455 rfl (by omega) (by omega))
     refine zw1 171 (.int .i64 ((OD.getD u 0))) (H438.cellR 8 rfl (Z2T R456 0 (by kernel_rfl) (show o453 + ((u : Int)).toNat * 1 = o453 + u * 1 + 0 by omega)) (fun h => h)) ?_
     refine wv 33 (.int .i64 ((OD.getD u 0))) ?_
     apply Zi
     refine Z02 ?_ ⟨(OD.getD u 0), rfl, H438⟩
     exact zs
    have g457 := of_decide_eq_false b449
    refine Z3h _ b449 ?_
    apply ZZ
    refine Z02 ?_ ⟨(u : Int), rfl, H438⟩
    exact zs
   have g459 := of_decide_eq_false b446
   refine ZV 164 (.bool false) (congrArg Value.bool b446) ?_
   iterate 2 refine wn 4 164 true ?_
   refine wv 167 (.bool false) ?_
   apply znt
   refine Z0r rfl ?_
   apply ZZ
   refine Z02 ?_ ⟨(u : Int), rfl, H438⟩
   exact zs
  rintro f461 w462 ⟨v, v464, H463⟩
  refine Zj 33 _ v464 ?_
  apply zsl
  refine wv 172 (.int .i64 (v)) ?_
  refine wv 173 (.int .i64 ((Gd : Int))) ?_
  refine zwd fun Kq kq => ?_
  refine zdq 174 (Z2V w462 v (Gd : Int) (by omega)) H463 ?_
  intro w466 H467
  refine kq _ _ ?_
  clear kq Kq
  refine wv 33 (.int .i64 (Z0a v (Gd : Int))) ?_
  apply znt
  apply Zb
  apply ZO
  have hwv := Z1G v (Gd : Int) (by omega)
  obtain ⟨z0, hz1, hz2⟩ := Z9q (Rs.take Gd) (by rw [List.length_take]; omega)
  rw [List.length_take] at hz1
  have hz3 : Rs.getD z0 false = false := by rw [List.getD_eq_getElem?_getD, List.getElem?_take_of_lt (by omega), ← List.getD_eq_getElem?_getD] at hz2; exact hz2
  refine Z0c [33, 175, 176, 177, 178, 179, 180, 181, 182] (fun F_ W_ m_ => ∃ (k2 : Nat), F_ 33 = (.int .i64 ((k2 : Int))) ∧ (k2 < Gd) ∧ Sat w [Z1 b6 36 (ZG F), Z1 x13 40 (ZF b_ r_), Z1 b_ 110 (Zy mb_), (Zz mb_ Lb), Z1 r_ 98 (ZU ra Lr.length rc), (ZS ra Lr rc), Z1 x15 53 (ZK X), ZL B, Z5 w (fun _ => False), Zd 73 1 (.slice pa P.length pc) P.length (P.flatMap Z0H), Z1D (tbL F) T, Z09 b205 4 N Hs, Z09 b419 4 N Rs] W_ ∧ m_ = (z0 + Gd - k2) % Gd) _ ⟨(Z0a v (Gd : Int)).toNat, (show (.int .i64 (Z0a v (Gd : Int)) : Value) = _ by rw [Int.toNat_of_nonneg hwv.1]), (by omega), H467, rfl⟩ ?_
  rintro g469 w470 _ ⟨k2, v472, hk2, H471, rfl⟩
  refine Zj 33 _ v472 ?_
  apply Zb
  apply zsl
  refine wv 175 (.slice (some ⟨b419, 0, none⟩) N N) ?_
  refine wv 176 (.int .i64 ((k2 : Int))) ?_
  refine wv 177 (.pointer (some ⟨b419, 0 + ((k2 : Int)).toNat * 1, none⟩)) ?_ (hr := Z0i (E := 4) (by kernel_rfl) (by kernel_rfl) (Nat.le_of_ble_eq_true rfl) rfl rfl (by omega) (by omega))
  refine zw1 178 (.bool (Rs.getD k2 false)) (Z1Y (H471.at 12 rfl) (show k2 < N by omega) (show 0 + ((k2 : Int)).toNat * 1 = k2 by omega)) ?_
  apply znt
  refine (ZD (Rs.getD k2 false)).elim (fun b474 => ?_) (fun b474 => ?_)
  ·refine Z3G _ b474 ?_
   apply ZZ
   apply ztn
   apply ZO
   have hbusy := b474
   apply Zl
   refine wv 179 (.int .i64 ((k2 : Int))) ?_
   refine zwi 180 ((k2 : Int) + 1) ?_
   refine wv 181 (.int .i64 ((Gd : Int))) ?_
   refine wv 182 (.int .i64 (((k2 : Int) + 1) % (Gd : Int))) ?_ (hr := Z8k (by kernel_rfl) (by omega) (by omega))
   refine wv 33 (.int .i64 (((k2 : Int) + 1) % (Gd : Int))) ?_
   apply Zi
   apply ZE
   refine ZH ?_ _ ⟨((k2 + 1) % Gd), (show ((.int .i64 (((k2 : Int) + 1) % (Gd : Int))) : Value) = _ by simp), (Nat.mod_lt _ (by omega)), H471, rfl⟩ (Z89 hk2 (by omega) (fun q_ => by have q1 := hbusy; rw [q_, hz3] at q1; cases q1))
   exact zs
  refine Z3h _ b474 ?_
  apply zxb
  apply ztn
  apply Zb
  have hfree := b474
  apply Zl
  refine wv 183 (.slice (some ⟨b419, 0, none⟩) N N) ?_
  refine wv 184 (.int .i64 ((k2 : Int))) ?_
  refine wv 185 (.pointer (some ⟨b419, 0 + ((k2 : Int)).toNat * 1, none⟩)) ?_ (hr := Z0i (E := 4) (by kernel_rfl) (by kernel_rfl) (Nat.le_of_ble_eq_true rfl) rfl rfl (by omega) (by omega))
  refine zwd fun Kq kq => ?_
  refine Z4k rfl H471 12 rfl rfl rfl (by kernel_rfl) (show 0 + ((k2 : Int)).toNat * 1 = k2 by omega) (show k2 < N by omega) ?_
  intro w476 H477
  refine kq _ _ ?_
  clear kq Kq
  apply znt
  apply Zl
  refine wv 186 (.int .i64 ((n2 : Int))) ?_
  refine zwi 187 ((n2 : Int) + 1) ?_
  refine wv 30 (.int .i64 ((n2 : Int) + 1)) ?_
  apply Zi
  apply ZE
  apply ztn
  apply Zl
  refine wv 157 (.int .i64 ((u : Int))) ?_
  refine zwi 158 ((u : Int) + 1) ?_
  refine wv 32 (.int .i64 ((u : Int) + 1)) ?_
  apply Zi
  refine ZH ?_ _ ⟨(u + 1), (n2 + 1), (Rs.set k2 true), rfl, rfl, (by rw [List.length_set]; exact hlR), (by rw [cnt_in hk2 (by omega) hfree]; omega), (by omega), (by omega), H477, rfl⟩ (by omega)
  exact zs
 have g478 := of_decide_eq_false b442
 refine Z3h _ b442 ?_
 apply zxb
 apply ztn
 apply zsl
 refine wv 34 (.bool false) ?_
 apply znt
 apply Zb
 apply zsl
 refine wv 35 (.int .i64 (0)) ?_
 apply znt
 apply ZO
 refine Z0c ([10, 34, 35, 36, 37, 38, 39] ++ List.range' 188 73) (fun F_ W_ m_ => ∃ (g : Nat) (Lc : List Signed) (fd : Bool), F_ 34 = (.bool (fd)) ∧ F_ 35 = (.int .i64 ((g : Int))) ∧ (g ≤ Gd) ∧ (Lc.Nodup) ∧ (Lc.length ≤ 24 + g) ∧ (Z08 F 3 Lc X.x X.S = true) ∧ ((fd = true ↔ ∃ z : Nat, z < g ∧ Rs.getD z false = true ∧ Hs.getD z false = true)) ∧ Sat w [Z1 b6 36 (ZG F), Z1 x13 40 (ZF b_ r_), Z1 b_ 110 (Zy mb_), (Zz mb_ Lc), Z1 r_ 98 (ZU ra Lr.length rc), (ZS ra Lr rc), Z1 x15 53 (ZK X), ZL B, Z5 w (fun _ => False), Zd 73 1 (.slice pa P.length pc) P.length (P.flatMap Z0H), Z1D (tbL F) T, Z09 b205 4 N Hs, Z09 b419 4 N Rs] W_ ∧ m_ = Gd - g) _ ⟨0, Lb, false, (by first | rfl | go_num), (show ((.int .i64 (0)) : Value) = _ by first | rfl | go_num), (Nat.zero_le _), hnb, (by omega), hRX, (by simp), H438, rfl⟩ ?_
 rintro g480 w481 _ ⟨g, Lc, fd, v483, v484, hg, hnc, hlc, hRc, hfd, H482, rfl⟩
 refine Zj 34 _ v483 ?_
 refine Zj 35 _ v484 ?_
 apply Zb
 apply zsl
 refine wv 188 (.int .i64 ((g : Int))) ?_
 refine wv 189 (.int .i64 ((Gd : Int))) ?_
 refine wv 190 (.bool (decide ((g : Int) < (Gd : Int)))) ?_
 apply znt
 refine (ZD (decide ((g : Int) < (Gd : Int)))).elim (fun b486 => ?_) (fun b486 => ?_)
 ·have g487 := of_decide_eq_true b486
  refine Z3G _ b486 ?_
  apply ZZ
  apply ztn
  apply Zb
  apply ZO
  apply Zb
  apply zsl
  refine wv 193 (.slice (some ⟨b419, 0, none⟩) N N) ?_
  refine wv 194 (.int .i64 ((g : Int))) ?_
  refine wv 195 (.pointer (some ⟨b419, 0 + ((g : Int)).toNat * 1, none⟩)) ?_ (hr := Z0i (E := 4) (by kernel_rfl) (by kernel_rfl) (Nat.le_of_ble_eq_true rfl) rfl rfl (by omega) (by omega))
  refine zw1 196 (.bool (Rs.getD g false)) (Z1Y (H482.at 12 rfl) (show g < N by omega) (show 0 + ((g : Int)).toNat * 1 = g by omega)) ?_
  refine wv 197 (.bool (!(Rs.getD g false))) ?_
  apply znt
  refine (ZD (!(Rs.getD g false))).elim (fun b489 => ?_) (fun b489 => ?_)
  ·have g490 := ZW b489
   refine Z3G _ b489 ?_
   apply Z2i
   apply Z0Y
   apply Z1u
   apply ztn
   have hqg : Rs.getD g false = false := by have q := b489; simpa using q
   apply Zl
   refine wv 191 (.int .i64 ((g : Int))) ?_
   refine zwi 192 ((g : Int) + 1) ?_
   refine wv 35 (.int .i64 ((g : Int) + 1)) ?_
   apply Zi
   refine ZH ?_ _ ⟨(g + 1), Lc, fd, rfl, rfl, (by omega), hnc, (by omega), hRc, (Z8P hfd hqg), H482, rfl⟩ (by omega)
   exact zs
  have g492 := Zp b489
  refine Z3h _ b489 ?_
  apply ZZ
  apply ztn
  have hqg : Rs.getD g false = true := by have q := b489; simpa using q
  refine Z1j ([36, 37] ++ List.range' 198 12) (fun G_ W_ => ∃ (x36 : Nat) (ca : Option Addr) (cc : Nat) (D : List CeR) (Bh : List Ck) (rp mk : Int) (L1 : List Signed), G_ 36 = (pt x36 0) ∧ G_ 37 = (.int .i64 (0)) ∧ (Z1s F 3 L1 ⟨rp, 0, Z8 X.S + 3, ca, cc, rp, mk, D⟩ = true) ∧ (D.length = if Hs.getD g false = true then 1 else 0) ∧ (∀ c ∈ D, CeT Bh c) ∧ (L1.Nodup) ∧ (L1.length ≤ 25 + g) ∧ (Z08 F 3 L1 X.x X.S = true) ∧ (0 ≤ rp ∧ rp ≤ 1000000) ∧ Sat w [Z1 b6 36 (ZG F), Z1 x13 40 (ZF b_ r_), Z1 b_ 110 (Zy mb_), (Zz mb_ L1), Z1 r_ 98 (ZU ra Lr.length rc), (ZS ra Lr rc), Z1 x15 53 (ZK X), ZL B, Z5 w (fun _ => False), Zd 73 1 (.slice pa P.length pc) P.length (P.flatMap Z0H), Z1D (tbL F) T, Z09 b205 4 N Hs, Z09 b419 4 N Rs, Z1 x36 34 (Z03 rp (Z8 X.S + 3) ca D.length cc mk), (Z0k ca D cc), ZL Bh] W_) ?_ ?_
  ·obtain ⟨g495, c496, e497⟩ := Z0P (H482.at 9 rfl) (by omega)
   obtain ⟨x498, h499⟩ := Z2a (show g < P.length by omega)
   refine Z0f H482 [Z1 b6 36 (ZG F), Z1 x13 40 (ZF b_ r_), Z1 x15 53 (ZK X), Z5 w (fun _ => False)] 15 rfl (by kernel_rfl) (fun Hx => (Hx.pk [0, 1, 6, 8])) ?_
   intro w500 H501 S502
   refine hv0 0 S502 199 (.slice pa P.length pc) ?_
   refine hv0 1 S502 200 (.int .i64 ((g : Int))) ?_
   refine hv0 4 S502 203 (pt x13 0) ?_
   refine hv0 5 S502 204 (pt b_ 0) ?_ (he := fun _ H' => (Za rfl (by kernel_rfl) (H'.cell 1 rfl rfl)))
   refine hv0 6 S502 205 (.int .u64 (Z8 X.S)) ?_
   refine hv0 7 S502 206 (.int .u64 ((Z8 X.S) + 3)) ?_ (he := fun _ H' => (Z0l (z := (Z8 X.S) + 3) (by kernel_rfl) (Z1k (by omega))))
   refine Z39 2 12 rfl rfl (by kernel_rfl) (Z0 rfl) (Z0 rfl) (fun Kq kq => ?_) (fun Kq kq => ?_)
   ·obtain ⟨g504, c505, e506⟩ := Z0P (H501.at 9 rfl) (by omega)
    obtain ⟨x507, h508⟩ := Z2a (show g < P.length by omega)
    refine Z1S (d := 201) (v := (.pointer (some ⟨g504, 0 + ((g : Int)).toNat * 1, none⟩))) rfl (Z0I (E := 73) (by kernel_rfl) (by kernel_rfl) (Nat.le_of_ble_eq_true rfl) rfl e506 rfl (by omega) (by omega)) ?_
    have S509 := H501.pk [0, 1, 6, 8]
    refine kq _ _ S509 ?_
    clear kq Kq
    refine Z39 3 12 rfl rfl (by kernel_rfl) (Z0 rfl) (Z0 rfl) (fun Kq kq => ?_) (fun Kq kq => ?_)
    ·refine Z1S (d := 202) (v := (pt x507 0)) rfl (Za rfl (by kernel_rfl) (Z0X (H501.at 9 rfl) e506 Z1A h508 0 rfl (show 0 + ((g : Int)).toNat * 1 = g * 1 + 0 by omega) (by kernel_rfl))) ?_
     have S511 := H501.pk [0, 1, 6, 8]
     refine kq _ _ S511 ?_
     clear kq Kq
     refine Z39 8 12 rfl rfl (by kernel_rfl) (Z0 rfl) (Z0 rfl) (fun Kq kq => ?_) (fun Kq kq => ?_)
     ·obtain ⟨q513, y514, e515⟩ := hTs.get h508
      obtain ⟨r516, m517⟩ := hTs.got _ _ y514
      have H518 := H501.pk [10, 0, 1, 2, 3, 4, 5, 6, 7, 8, 9, 11, 12]
      have H519 : Sat w [Z1 x507 121 ([(.int .i64 (F)), (.int .i64 (3)), (.int .i64 (q513.rp)), (.map (some q513.tm))] : List Value), ZA q513.tm nmV ceV q513.M, Z1D (tbL F) (T.eraseIdx g), Z1 b6 36 ([(.int .i64 (F)), (.int .i64 (3))] : List Value), Z1 x13 40 ([(pt b_ 0), (pt r_ 0)] : List Value), Z1 b_ 110 ([(.map (some mb_))] : List Value), ZA mb_ Z7 (Value.int .i64) (Zh Lc), Z1 r_ 98 ([(.slice ra Lr.length rc)] : List Value), Zd 114 2 (.slice ra Lr.length rc) Lr.length (Lr.flatMap Z1b), Z1 x15 53 (([(.int .i64 (X.x.cl)), (.int .i64 (X.x.seq))] : List Value) ++ hc X.x.h ++ ([(.int .i64 (X.x.len)), (.int .i64 (X.x.sb)), (.int .i64 (X.x.sm)), (.slice X.sa X.S.length X.sc)] : List Value)), ZL B, Z5 w (fun _ => False), Zd 73 1 (.slice pa P.length pc) P.length (P.flatMap Z0H), Z09 b205 4 N Hs, Z09 b419 4 N Rs] w500 := by have q_ := Sat.famOut H518 y514; unfold tbL at q_; rw [e515] at q_; exact q_
      have hqr : 0 ≤ q513.rp ∧ q513.rp ≤ 1000000 := by omega
      refine zdc 207 (Z1w w500 x507 q513.tm F 3 q513.rp q513.M B b_ mb_ Lc (H519.fn [0, 1, 10, 5, 6]) (m517.ceT hXT) (Nat.le_trans m517.len1 (by decide)) (by omega) hnc (by omega) 0 0 ((Z8 X.S) + 3) (by omega) (by omega)) ?_
      rintro _ wp520 ⟨ca520, cc520, HL520, Bh520, ss520, rfl, hs520, hsp520, hco520, hcD520, hT520⟩
      have H521 := H519.tl [Z1 x507 121 (Z0J F q513.rp q513.tm), ZA q513.tm nmV ceV q513.M, ZL B, Z1 b_ 110 (Zy mb_), (Zz mb_ (Zg Lc (⟨q513.rp, ZB (⟨q513.rp, 0, ((Z8 X.S) + 3), ca520, cc520, 0, 0, (Zo HL520 0 ((Z8 X.S) + 3))⟩ : PrR)⟩ : Signed))), (Z0k ca520 (Zo HL520 0 ((Z8 X.S) + 3)) cc520), ZL Bh520] [0, 1, 10, 5, 6] [2, 3, 4, 7, 8, 9, 11, 12, 13, 14] hT520 [0, 1, 7, 8, 9, 3, 4, 10, 11, 12, 2, 13, 14, 15, 16, 5, 6]
      refine ⟨_, rfl, ?_⟩
      have hsp := m517.span hs520 hco520 (by omega) (show Z8 X.S ≤ ((Z8 X.S) + 3) by omega)
      have hD1 : (Zo HL520 0 ((Z8 X.S) + 3)).length ≤ 1 := by rw [hsp.1]; split <;> omega
      have ndP : (Zg Lc (⟨q513.rp, ZB (⟨q513.rp, 0, ((Z8 X.S) + 3), ca520, cc520, 0, 0, (Zo HL520 0 ((Z8 X.S) + 3))⟩ : PrR)⟩ : Signed)).Nodup := Z0K hnc _
      have llP : (Zg Lc (⟨q513.rp, ZB (⟨q513.rp, 0, ((Z8 X.S) + 3), ca520, cc520, 0, 0, (Zo HL520 0 ((Z8 X.S) + 3))⟩ : PrR)⟩ : Signed)).length ≤ Lc.length + 1 := Z0W _ _
      have rxP : Z08 F 3 (Zg Lc (⟨q513.rp, ZB (⟨q513.rp, 0, ((Z8 X.S) + 3), ca520, cc520, 0, 0, (Zo HL520 0 ((Z8 X.S) + 3))⟩ : PrR)⟩ : Signed)) X.x X.S = true := Z1c hRc _
      have H522 : Sat w [Z1D (tbL F) (T.set g (⟨q513.t, q513.tm, q513.rp, q513.M⟩ : TbR)), Z1 b6 36 (ZG F), Z1 x13 40 (ZF b_ r_), Z1 b_ 110 (Zy mb_), (Zz mb_ (Zg Lc (⟨q513.rp, ZB (⟨q513.rp, 0, ((Z8 X.S) + 3), ca520, cc520, 0, 0, (Zo HL520 0 ((Z8 X.S) + 3))⟩ : PrR)⟩ : Signed))), Z1 r_ 98 (ZU ra Lr.length rc), (ZS ra Lr rc), Z1 x15 53 (ZK X), ZL B, Z5 w (fun _ => False), Zd 73 1 (.slice pa P.length pc) P.length (P.flatMap Z0H), Z09 b205 4 N Hs, Z09 b419 4 N Rs, (Z0k ca520 (Zo HL520 0 ((Z8 X.S) + 3)) cc520), ZL Bh520] wp520 := by
       have q_ := H521.pk [0, 1, 2, 3, 4, 5, 6, 7, 8, 9, 10, 11, 12, 13, 14, 15, 16]
       refine Sat.famIn (q := ⟨q513.t, q513.tm, q513.rp, q513.M⟩) ?_ (List.getElem?_eq_some_iff.1 y514).1
       unfold tbL
       rw [e515]
       exact q_
      have H523 : Sat w [Z1D (tbL F) T, Z1 b6 36 ([(.int .i64 (F)), (.int .i64 (3))] : List Value), Z1 x13 40 ([(pt b_ 0), (pt r_ 0)] : List Value), Z1 b_ 110 ([(.map (some mb_))] : List Value), ZA mb_ Z7 (Value.int .i64) (Zh (Zg Lc (⟨q513.rp, ZB (⟨q513.rp, 0, ((Z8 X.S) + 3), ca520, cc520, 0, 0, (Zo HL520 0 ((Z8 X.S) + 3))⟩ : PrR)⟩ : Signed))), Z1 r_ 98 ([(.slice ra Lr.length rc)] : List Value), Zd 114 2 (.slice ra Lr.length rc) Lr.length (Lr.flatMap Z1b), Z1 x15 53 (([(.int .i64 (X.x.cl)), (.int .i64 (X.x.seq))] : List Value) ++ hc X.x.h ++ ([(.int .i64 (X.x.len)), (.int .i64 (X.x.sb)), (.int .i64 (X.x.sm)), (.slice X.sa X.S.length X.sc)] : List Value)), ZL B, Z5 w (fun _ => False), Zd 73 1 (.slice pa P.length pc) P.length (P.flatMap Z0H), Z09 b205 4 N Hs, Z09 b419 4 N Rs, Zd 53 38 (.slice ca520 ((Zo HL520 0 ((Z8 X.S) + 3)).length) cc520) ((Zo HL520 0 ((Z8 X.S) + 3)).length) ((Zo HL520 0 ((Z8 X.S) + 3)).flatMap Z01), ZL Bh520] wp520 := by have q_ := H522; rw [Z2f y514] at q_; exact q_
      have H524 := H523.pk [1, 2, 3, 4, 5, 6, 7, 8, 9, 10, 0, 11, 12, 13, 14]
      have hrP : Z1s F 3 (Zg Lc (⟨q513.rp, ZB (⟨q513.rp, 0, ((Z8 X.S) + 3), ca520, cc520, 0, 0, (Zo HL520 0 ((Z8 X.S) + 3))⟩ : PrR)⟩ : Signed)) (⟨q513.rp, 0, ((Z8 X.S) + 3), ca520, cc520, q513.rp, Zm (Zg Lc (⟨q513.rp, ZB (⟨q513.rp, 0, ((Z8 X.S) + 3), ca520, cc520, 0, 0, (Zo HL520 0 ((Z8 X.S) + 3))⟩ : PrR)⟩ : Signed)) (⟨q513.rp, ZB (⟨q513.rp, 0, ((Z8 X.S) + 3), ca520, cc520, 0, 0, (Zo HL520 0 ((Z8 X.S) + 3))⟩ : PrR)⟩ : Signed), (Zo HL520 0 ((Z8 X.S) + 3))⟩ : PrR) = true := Z2U (rp := q513.rp) (by unfold inB; simp; omega) hD1 hsp.2 rxP (by omega) (by omega) (Z1N _ _)
      have hcDD : ∀ c ∈ (Zo HL520 0 ((Z8 X.S) + 3)), CeT Bh520 c := fun c hc => hcD520 c (Z2O hc)
      have S525 := H524.pk [0, 1, 6, 8]
      refine kq _ _ S525 ?_
      clear kq Kq
      refine hv0 9 S525 198 (.tuple #[(.agg ⟨(Z03 q513.rp ((Z8 X.S) + 3) ca520 ((Zo HL520 0 ((Z8 X.S) + 3)).length) cc520 (Zm (Zg Lc (⟨q513.rp, ZB (⟨q513.rp, 0, ((Z8 X.S) + 3), ca520, cc520, 0, 0, (Zo HL520 0 ((Z8 X.S) + 3))⟩ : PrR)⟩ : Signed)) (⟨q513.rp, ZB (⟨q513.rp, 0, ((Z8 X.S) + 3), ca520, cc520, 0, 0, (Zo HL520 0 ((Z8 X.S) + 3))⟩ : PrR)⟩ : Signed)))⟩), (.int .i64 (0))]) ?_
      refine hv0 10 S525 208 (.agg ⟨(Z03 q513.rp ((Z8 X.S) + 3) ca520 ((Zo HL520 0 ((Z8 X.S) + 3)).length) cc520 (Zm (Zg Lc (⟨q513.rp, ZB (⟨q513.rp, 0, ((Z8 X.S) + 3), ca520, cc520, 0, 0, (Zo HL520 0 ((Z8 X.S) + 3))⟩ : PrR)⟩ : Signed)) (⟨q513.rp, ZB (⟨q513.rp, 0, ((Z8 X.S) + 3), ca520, cc520, 0, 0, (Zo HL520 0 ((Z8 X.S) + 3))⟩ : PrR)⟩ : Signed)))⟩) ?_
      refine hv0 11 S525 209 (.int .i64 (0)) ?_
      refine Z0R 12 fun Kq kq => ?_
      refine zda (Z1m) H524 ?_
      intro b527 w528 H529
      have S530 := H529.pk [0, 1, 6, 8]
      refine kq _ _ S530 ?_
      clear kq Kq
      refine Z0R 13 fun Kq kq => ?_
      refine Z2N (Z03 q513.rp ((Z8 X.S) + 3) ca520 ((Zo HL520 0 ((Z8 X.S) + 3)).length) cc520 (Zm (Zg Lc (⟨q513.rp, ZB (⟨q513.rp, 0, ((Z8 X.S) + 3), ca520, cc520, 0, 0, (Zo HL520 0 ((Z8 X.S) + 3))⟩ : PrR)⟩ : Signed)) (⟨q513.rp, ZB (⟨q513.rp, 0, ((Z8 X.S) + 3), ca520, cc520, 0, 0, (Zo HL520 0 ((Z8 X.S) + 3))⟩ : PrR)⟩ : Signed))) H529 15 ?_
      intro w532 H533
      have S535 := H533.pk [0, 1, 6, 8]
      refine kq _ _ S535 ?_
      clear kq Kq
      refine hv0 14 S535 37 (.int .i64 (0)) ?_
      refine zhf ?_
      have H536 := H533.pk [0, 1, 2, 3, 4, 5, 6, 7, 8, 9, 10, 11, 12, 15, 13, 14]
      refine Z02 ?_ ⟨b527, ca520, cc520, (Zo HL520 0 ((Z8 X.S) + 3)), Bh520, q513.rp, (Zm (Zg Lc (⟨q513.rp, ZB (⟨q513.rp, 0, ((Z8 X.S) + 3), ca520, cc520, 0, 0, (Zo HL520 0 ((Z8 X.S) + 3))⟩ : PrR)⟩ : Signed)) (⟨q513.rp, ZB (⟨q513.rp, 0, ((Z8 X.S) + 3), ca520, cc520, 0, 0, (Zo HL520 0 ((Z8 X.S) + 3))⟩ : PrR)⟩ : Signed)), (Zg Lc (⟨q513.rp, ZB (⟨q513.rp, 0, ((Z8 X.S) + 3), ca520, cc520, 0, 0, (Zo HL520 0 ((Z8 X.S) + 3))⟩ : PrR)⟩ : Signed)), rfl, rfl, hrP, hsp.1, hcDD, ndP, (by omega), rxP, hqr, H536⟩
      exact zs
     refine zda (Z1m) H501 ?_
     intro b537 w538 H539
     have S540 := H539.pk [0, 1, 6, 8]
     refine kq _ _ S540 ?_
     clear kq Kq
     refine Z0R 8 fun Kq kq => ?_
     obtain ⟨q542, y543, e544⟩ := hTs.get h508
     obtain ⟨r545, m546⟩ := hTs.got _ _ y543
     have H547 := H539.pk [10, 0, 1, 2, 3, 4, 5, 6, 7, 8, 9, 11, 12, 13]
     have H548 : Sat w [Z1 x507 121 ([(.int .i64 (F)), (.int .i64 (3)), (.int .i64 (q542.rp)), (.map (some q542.tm))] : List Value), ZA q542.tm nmV ceV q542.M, Z1D (tbL F) (T.eraseIdx g), Z1 b6 36 ([(.int .i64 (F)), (.int .i64 (3))] : List Value), Z1 x13 40 ([(pt b_ 0), (pt r_ 0)] : List Value), Z1 b_ 110 ([(.map (some mb_))] : List Value), ZA mb_ Z7 (Value.int .i64) (Zh Lc), Z1 r_ 98 ([(.slice ra Lr.length rc)] : List Value), Zd 114 2 (.slice ra Lr.length rc) Lr.length (Lr.flatMap Z1b), Z1 x15 53 (([(.int .i64 (X.x.cl)), (.int .i64 (X.x.seq))] : List Value) ++ hc X.x.h ++ ([(.int .i64 (X.x.len)), (.int .i64 (X.x.sb)), (.int .i64 (X.x.sm)), (.slice X.sa X.S.length X.sc)] : List Value)), ZL B, Z5 w (fun _ => False), Zd 73 1 (.slice pa P.length pc) P.length (P.flatMap Z0H), Z09 b205 4 N Hs, Z09 b419 4 N Rs, Z1 b537 34 ([(.int .i64 (0)), (.int .i64 (0)), (.int .u64 (0)), (.slice none 0 0), (.int .i64 (0)), (.int .i64 (0))] : List Value)] w538 := by have q_ := Sat.famOut H547 y543; unfold tbL at q_; rw [e544] at q_; exact q_
     have hqr : 0 ≤ q542.rp ∧ q542.rp ≤ 1000000 := by omega
     refine zdc 207 (Z1w w538 x507 q542.tm F 3 q542.rp q542.M B b_ mb_ Lc (H548.fn [0, 1, 10, 5, 6]) (m546.ceT hXT) (Nat.le_trans m546.len1 (by decide)) (by omega) hnc (by omega) 0 0 ((Z8 X.S) + 3) (by omega) (by omega)) ?_
     rintro _ wp549 ⟨ca549, cc549, HL549, Bh549, ss549, rfl, hs549, hsp549, hco549, hcD549, hT549⟩
     have H550 := H548.tl [Z1 x507 121 (Z0J F q542.rp q542.tm), ZA q542.tm nmV ceV q542.M, ZL B, Z1 b_ 110 (Zy mb_), (Zz mb_ (Zg Lc (⟨q542.rp, ZB (⟨q542.rp, 0, ((Z8 X.S) + 3), ca549, cc549, 0, 0, (Zo HL549 0 ((Z8 X.S) + 3))⟩ : PrR)⟩ : Signed))), (Z0k ca549 (Zo HL549 0 ((Z8 X.S) + 3)) cc549), ZL Bh549] [0, 1, 10, 5, 6] [2, 3, 4, 7, 8, 9, 11, 12, 13, 14, 15] hT549 [0, 1, 7, 8, 9, 3, 4, 10, 11, 12, 2, 13, 14, 15, 16, 17, 5, 6]
     refine ⟨_, rfl, ?_⟩
     have hsp := m546.span hs549 hco549 (by omega) (show Z8 X.S ≤ ((Z8 X.S) + 3) by omega)
     have hD1 : (Zo HL549 0 ((Z8 X.S) + 3)).length ≤ 1 := by rw [hsp.1]; split <;> omega
     have ndP : (Zg Lc (⟨q542.rp, ZB (⟨q542.rp, 0, ((Z8 X.S) + 3), ca549, cc549, 0, 0, (Zo HL549 0 ((Z8 X.S) + 3))⟩ : PrR)⟩ : Signed)).Nodup := Z0K hnc _
     have llP : (Zg Lc (⟨q542.rp, ZB (⟨q542.rp, 0, ((Z8 X.S) + 3), ca549, cc549, 0, 0, (Zo HL549 0 ((Z8 X.S) + 3))⟩ : PrR)⟩ : Signed)).length ≤ Lc.length + 1 := Z0W _ _
     have rxP : Z08 F 3 (Zg Lc (⟨q542.rp, ZB (⟨q542.rp, 0, ((Z8 X.S) + 3), ca549, cc549, 0, 0, (Zo HL549 0 ((Z8 X.S) + 3))⟩ : PrR)⟩ : Signed)) X.x X.S = true := Z1c hRc _
     have H551 : Sat w [Z1D (tbL F) (T.set g (⟨q542.t, q542.tm, q542.rp, q542.M⟩ : TbR)), Z1 b6 36 (ZG F), Z1 x13 40 (ZF b_ r_), Z1 b_ 110 (Zy mb_), (Zz mb_ (Zg Lc (⟨q542.rp, ZB (⟨q542.rp, 0, ((Z8 X.S) + 3), ca549, cc549, 0, 0, (Zo HL549 0 ((Z8 X.S) + 3))⟩ : PrR)⟩ : Signed))), Z1 r_ 98 (ZU ra Lr.length rc), (ZS ra Lr rc), Z1 x15 53 (ZK X), ZL B, Z5 w (fun _ => False), Zd 73 1 (.slice pa P.length pc) P.length (P.flatMap Z0H), Z09 b205 4 N Hs, Z09 b419 4 N Rs, Z1 b537 34 (Z1m), (Z0k ca549 (Zo HL549 0 ((Z8 X.S) + 3)) cc549), ZL Bh549] wp549 := by
      have q_ := H550.pk [0, 1, 2, 3, 4, 5, 6, 7, 8, 9, 10, 11, 12, 13, 14, 15, 16, 17]
      refine Sat.famIn (q := ⟨q542.t, q542.tm, q542.rp, q542.M⟩) ?_ (List.getElem?_eq_some_iff.1 y543).1
      unfold tbL
      rw [e544]
      exact q_
     have H552 : Sat w [Z1D (tbL F) T, Z1 b6 36 ([(.int .i64 (F)), (.int .i64 (3))] : List Value), Z1 x13 40 ([(pt b_ 0), (pt r_ 0)] : List Value), Z1 b_ 110 ([(.map (some mb_))] : List Value), ZA mb_ Z7 (Value.int .i64) (Zh (Zg Lc (⟨q542.rp, ZB (⟨q542.rp, 0, ((Z8 X.S) + 3), ca549, cc549, 0, 0, (Zo HL549 0 ((Z8 X.S) + 3))⟩ : PrR)⟩ : Signed))), Z1 r_ 98 ([(.slice ra Lr.length rc)] : List Value), Zd 114 2 (.slice ra Lr.length rc) Lr.length (Lr.flatMap Z1b), Z1 x15 53 (([(.int .i64 (X.x.cl)), (.int .i64 (X.x.seq))] : List Value) ++ hc X.x.h ++ ([(.int .i64 (X.x.len)), (.int .i64 (X.x.sb)), (.int .i64 (X.x.sm)), (.slice X.sa X.S.length X.sc)] : List Value)), ZL B, Z5 w (fun _ => False), Zd 73 1 (.slice pa P.length pc) P.length (P.flatMap Z0H), Z09 b205 4 N Hs, Z09 b419 4 N Rs, Z1 b537 34 ([(.int .i64 (0)), (.int .i64 (0)), (.int .u64 (0)), (.slice none 0 0), (.int .i64 (0)), (.int .i64 (0))] : List Value), Zd 53 38 (.slice ca549 ((Zo HL549 0 ((Z8 X.S) + 3)).length) cc549) ((Zo HL549 0 ((Z8 X.S) + 3)).length) ((Zo HL549 0 ((Z8 X.S) + 3)).flatMap Z01), ZL Bh549] wp549 := by have q_ := H551; rw [Z2f y543] at q_; exact q_
     have H553 := H552.pk [1, 2, 3, 4, 5, 6, 7, 8, 9, 10, 0, 11, 12, 13, 14, 15]
     have hrP : Z1s F 3 (Zg Lc (⟨q542.rp, ZB (⟨q542.rp, 0, ((Z8 X.S) + 3), ca549, cc549, 0, 0, (Zo HL549 0 ((Z8 X.S) + 3))⟩ : PrR)⟩ : Signed)) (⟨q542.rp, 0, ((Z8 X.S) + 3), ca549, cc549, q542.rp, Zm (Zg Lc (⟨q542.rp, ZB (⟨q542.rp, 0, ((Z8 X.S) + 3), ca549, cc549, 0, 0, (Zo HL549 0 ((Z8 X.S) + 3))⟩ : PrR)⟩ : Signed)) (⟨q542.rp, ZB (⟨q542.rp, 0, ((Z8 X.S) + 3), ca549, cc549, 0, 0, (Zo HL549 0 ((Z8 X.S) + 3))⟩ : PrR)⟩ : Signed), (Zo HL549 0 ((Z8 X.S) + 3))⟩ : PrR) = true := Z2U (rp := q542.rp) (by unfold inB; simp; omega) hD1 hsp.2 rxP (by omega) (by omega) (Z1N _ _)
     have hcDD : ∀ c ∈ (Zo HL549 0 ((Z8 X.S) + 3)), CeT Bh549 c := fun c hc => hcD549 c (Z2O hc)
     have S554 := H553.pk [0, 1, 6, 8]
     refine kq _ _ S554 ?_
     clear kq Kq
     refine hv0 9 S554 198 (.tuple #[(.agg ⟨(Z03 q542.rp ((Z8 X.S) + 3) ca549 ((Zo HL549 0 ((Z8 X.S) + 3)).length) cc549 (Zm (Zg Lc (⟨q542.rp, ZB (⟨q542.rp, 0, ((Z8 X.S) + 3), ca549, cc549, 0, 0, (Zo HL549 0 ((Z8 X.S) + 3))⟩ : PrR)⟩ : Signed)) (⟨q542.rp, ZB (⟨q542.rp, 0, ((Z8 X.S) + 3), ca549, cc549, 0, 0, (Zo HL549 0 ((Z8 X.S) + 3))⟩ : PrR)⟩ : Signed)))⟩), (.int .i64 (0))]) ?_
     refine hv0 10 S554 208 (.agg ⟨(Z03 q542.rp ((Z8 X.S) + 3) ca549 ((Zo HL549 0 ((Z8 X.S) + 3)).length) cc549 (Zm (Zg Lc (⟨q542.rp, ZB (⟨q542.rp, 0, ((Z8 X.S) + 3), ca549, cc549, 0, 0, (Zo HL549 0 ((Z8 X.S) + 3))⟩ : PrR)⟩ : Signed)) (⟨q542.rp, ZB (⟨q542.rp, 0, ((Z8 X.S) + 3), ca549, cc549, 0, 0, (Zo HL549 0 ((Z8 X.S) + 3))⟩ : PrR)⟩ : Signed)))⟩) ?_
     refine hv0 11 S554 209 (.int .i64 (0)) ?_
     refine Z0R 13 fun Kq kq => ?_
     refine Z2N (Z03 q542.rp ((Z8 X.S) + 3) ca549 ((Zo HL549 0 ((Z8 X.S) + 3)).length) cc549 (Zm (Zg Lc (⟨q542.rp, ZB (⟨q542.rp, 0, ((Z8 X.S) + 3), ca549, cc549, 0, 0, (Zo HL549 0 ((Z8 X.S) + 3))⟩ : PrR)⟩ : Signed)) (⟨q542.rp, ZB (⟨q542.rp, 0, ((Z8 X.S) + 3), ca549, cc549, 0, 0, (Zo HL549 0 ((Z8 X.S) + 3))⟩ : PrR)⟩ : Signed))) H553 13 ?_
     intro w556 H557
     have S559 := H557.pk [0, 1, 6, 8]
     refine kq _ _ S559 ?_
     clear kq Kq
     refine hv0 14 S559 37 (.int .i64 (0)) ?_
     refine zhf ?_
     have H560 := H557.pk [0, 1, 2, 3, 4, 5, 6, 7, 8, 9, 10, 11, 12, 13, 14, 15]
     refine Z02 ?_ ⟨b537, ca549, cc549, (Zo HL549 0 ((Z8 X.S) + 3)), Bh549, q542.rp, (Zm (Zg Lc (⟨q542.rp, ZB (⟨q542.rp, 0, ((Z8 X.S) + 3), ca549, cc549, 0, 0, (Zo HL549 0 ((Z8 X.S) + 3))⟩ : PrR)⟩ : Signed)) (⟨q542.rp, ZB (⟨q542.rp, 0, ((Z8 X.S) + 3), ca549, cc549, 0, 0, (Zo HL549 0 ((Z8 X.S) + 3))⟩ : PrR)⟩ : Signed)), (Zg Lc (⟨q542.rp, ZB (⟨q542.rp, 0, ((Z8 X.S) + 3), ca549, cc549, 0, 0, (Zo HL549 0 ((Z8 X.S) + 3))⟩ : PrR)⟩ : Signed)), rfl, rfl, hrP, hsp.1, hcDD, ndP, (by omega), rxP, hqr, H560⟩
     exact zs
    refine zda (Z1m) H501 ?_
    intro b561 w562 H563
    have S564 := H563.pk [0, 1, 6, 8]
    refine kq _ _ S564 ?_
    clear kq Kq
    refine Z0R 3 fun Kq kq => ?_
    refine Z1S (d := 202) (v := (pt x507 0)) rfl (Za rfl (by kernel_rfl) (Z0X (H563.at 9 rfl) e506 Z1A h508 0 rfl (show 0 + ((g : Int)).toNat * 1 = g * 1 + 0 by omega) (by kernel_rfl))) ?_
    have S566 := H563.pk [0, 1, 6, 8]
    refine kq _ _ S566 ?_
    clear kq Kq
    refine Z0R 8 fun Kq kq => ?_
    obtain ⟨q568, y569, e570⟩ := hTs.get h508
    obtain ⟨r571, m572⟩ := hTs.got _ _ y569
    have H573 := H563.pk [10, 0, 1, 2, 3, 4, 5, 6, 7, 8, 9, 11, 12, 13]
    have H574 : Sat w [Z1 x507 121 ([(.int .i64 (F)), (.int .i64 (3)), (.int .i64 (q568.rp)), (.map (some q568.tm))] : List Value), ZA q568.tm nmV ceV q568.M, Z1D (tbL F) (T.eraseIdx g), Z1 b6 36 ([(.int .i64 (F)), (.int .i64 (3))] : List Value), Z1 x13 40 ([(pt b_ 0), (pt r_ 0)] : List Value), Z1 b_ 110 ([(.map (some mb_))] : List Value), ZA mb_ Z7 (Value.int .i64) (Zh Lc), Z1 r_ 98 ([(.slice ra Lr.length rc)] : List Value), Zd 114 2 (.slice ra Lr.length rc) Lr.length (Lr.flatMap Z1b), Z1 x15 53 (([(.int .i64 (X.x.cl)), (.int .i64 (X.x.seq))] : List Value) ++ hc X.x.h ++ ([(.int .i64 (X.x.len)), (.int .i64 (X.x.sb)), (.int .i64 (X.x.sm)), (.slice X.sa X.S.length X.sc)] : List Value)), ZL B, Z5 w (fun _ => False), Zd 73 1 (.slice pa P.length pc) P.length (P.flatMap Z0H), Z09 b205 4 N Hs, Z09 b419 4 N Rs, Z1 b561 34 ([(.int .i64 (0)), (.int .i64 (0)), (.int .u64 (0)), (.slice none 0 0), (.int .i64 (0)), (.int .i64 (0))] : List Value)] w562 := by have q_ := Sat.famOut H573 y569; unfold tbL at q_; rw [e570] at q_; exact q_
    have hqr : 0 ≤ q568.rp ∧ q568.rp ≤ 1000000 := by omega
    refine zdc 207 (Z1w w562 x507 q568.tm F 3 q568.rp q568.M B b_ mb_ Lc (H574.fn [0, 1, 10, 5, 6]) (m572.ceT hXT) (Nat.le_trans m572.len1 (by decide)) (by omega) hnc (by omega) 0 0 ((Z8 X.S) + 3) (by omega) (by omega)) ?_
    rintro _ wp575 ⟨ca575, cc575, HL575, Bh575, ss575, rfl, hs575, hsp575, hco575, hcD575, hT575⟩
    have H576 := H574.tl [Z1 x507 121 (Z0J F q568.rp q568.tm), ZA q568.tm nmV ceV q568.M, ZL B, Z1 b_ 110 (Zy mb_), (Zz mb_ (Zg Lc (⟨q568.rp, ZB (⟨q568.rp, 0, ((Z8 X.S) + 3), ca575, cc575, 0, 0, (Zo HL575 0 ((Z8 X.S) + 3))⟩ : PrR)⟩ : Signed))), (Z0k ca575 (Zo HL575 0 ((Z8 X.S) + 3)) cc575), ZL Bh575] [0, 1, 10, 5, 6] [2, 3, 4, 7, 8, 9, 11, 12, 13, 14, 15] hT575 [0, 1, 7, 8, 9, 3, 4, 10, 11, 12, 2, 13, 14, 15, 16, 17, 5, 6]
    refine ⟨_, rfl, ?_⟩
    have hsp := m572.span hs575 hco575 (by omega) (show Z8 X.S ≤ ((Z8 X.S) + 3) by omega)
    have hD1 : (Zo HL575 0 ((Z8 X.S) + 3)).length ≤ 1 := by rw [hsp.1]; split <;> omega
    have ndP : (Zg Lc (⟨q568.rp, ZB (⟨q568.rp, 0, ((Z8 X.S) + 3), ca575, cc575, 0, 0, (Zo HL575 0 ((Z8 X.S) + 3))⟩ : PrR)⟩ : Signed)).Nodup := Z0K hnc _
    have llP : (Zg Lc (⟨q568.rp, ZB (⟨q568.rp, 0, ((Z8 X.S) + 3), ca575, cc575, 0, 0, (Zo HL575 0 ((Z8 X.S) + 3))⟩ : PrR)⟩ : Signed)).length ≤ Lc.length + 1 := Z0W _ _
    have rxP : Z08 F 3 (Zg Lc (⟨q568.rp, ZB (⟨q568.rp, 0, ((Z8 X.S) + 3), ca575, cc575, 0, 0, (Zo HL575 0 ((Z8 X.S) + 3))⟩ : PrR)⟩ : Signed)) X.x X.S = true := Z1c hRc _
    have H577 : Sat w [Z1D (tbL F) (T.set g (⟨q568.t, q568.tm, q568.rp, q568.M⟩ : TbR)), Z1 b6 36 (ZG F), Z1 x13 40 (ZF b_ r_), Z1 b_ 110 (Zy mb_), (Zz mb_ (Zg Lc (⟨q568.rp, ZB (⟨q568.rp, 0, ((Z8 X.S) + 3), ca575, cc575, 0, 0, (Zo HL575 0 ((Z8 X.S) + 3))⟩ : PrR)⟩ : Signed))), Z1 r_ 98 (ZU ra Lr.length rc), (ZS ra Lr rc), Z1 x15 53 (ZK X), ZL B, Z5 w (fun _ => False), Zd 73 1 (.slice pa P.length pc) P.length (P.flatMap Z0H), Z09 b205 4 N Hs, Z09 b419 4 N Rs, Z1 b561 34 (Z1m), (Z0k ca575 (Zo HL575 0 ((Z8 X.S) + 3)) cc575), ZL Bh575] wp575 := by
     have q_ := H576.pk [0, 1, 2, 3, 4, 5, 6, 7, 8, 9, 10, 11, 12, 13, 14, 15, 16, 17]
     refine Sat.famIn (q := ⟨q568.t, q568.tm, q568.rp, q568.M⟩) ?_ (List.getElem?_eq_some_iff.1 y569).1
     unfold tbL
     rw [e570]
     exact q_
    have H578 : Sat w [Z1D (tbL F) T, Z1 b6 36 ([(.int .i64 (F)), (.int .i64 (3))] : List Value), Z1 x13 40 ([(pt b_ 0), (pt r_ 0)] : List Value), Z1 b_ 110 ([(.map (some mb_))] : List Value), ZA mb_ Z7 (Value.int .i64) (Zh (Zg Lc (⟨q568.rp, ZB (⟨q568.rp, 0, ((Z8 X.S) + 3), ca575, cc575, 0, 0, (Zo HL575 0 ((Z8 X.S) + 3))⟩ : PrR)⟩ : Signed))), Z1 r_ 98 ([(.slice ra Lr.length rc)] : List Value), Zd 114 2 (.slice ra Lr.length rc) Lr.length (Lr.flatMap Z1b), Z1 x15 53 (([(.int .i64 (X.x.cl)), (.int .i64 (X.x.seq))] : List Value) ++ hc X.x.h ++ ([(.int .i64 (X.x.len)), (.int .i64 (X.x.sb)), (.int .i64 (X.x.sm)), (.slice X.sa X.S.length X.sc)] : List Value)), ZL B, Z5 w (fun _ => False), Zd 73 1 (.slice pa P.length pc) P.length (P.flatMap Z0H), Z09 b205 4 N Hs, Z09 b419 4 N Rs, Z1 b561 34 ([(.int .i64 (0)), (.int .i64 (0)), (.int .u64 (0)), (.slice none 0 0), (.int .i64 (0)), (.int .i64 (0))] : List Value), Zd 53 38 (.slice ca575 ((Zo HL575 0 ((Z8 X.S) + 3)).length) cc575) ((Zo HL575 0 ((Z8 X.S) + 3)).length) ((Zo HL575 0 ((Z8 X.S) + 3)).flatMap Z01), ZL Bh575] wp575 := by have q_ := H577; rw [Z2f y569] at q_; exact q_
    have H579 := H578.pk [1, 2, 3, 4, 5, 6, 7, 8, 9, 10, 0, 11, 12, 13, 14, 15]
    have hrP : Z1s F 3 (Zg Lc (⟨q568.rp, ZB (⟨q568.rp, 0, ((Z8 X.S) + 3), ca575, cc575, 0, 0, (Zo HL575 0 ((Z8 X.S) + 3))⟩ : PrR)⟩ : Signed)) (⟨q568.rp, 0, ((Z8 X.S) + 3), ca575, cc575, q568.rp, Zm (Zg Lc (⟨q568.rp, ZB (⟨q568.rp, 0, ((Z8 X.S) + 3), ca575, cc575, 0, 0, (Zo HL575 0 ((Z8 X.S) + 3))⟩ : PrR)⟩ : Signed)) (⟨q568.rp, ZB (⟨q568.rp, 0, ((Z8 X.S) + 3), ca575, cc575, 0, 0, (Zo HL575 0 ((Z8 X.S) + 3))⟩ : PrR)⟩ : Signed), (Zo HL575 0 ((Z8 X.S) + 3))⟩ : PrR) = true := Z2U (rp := q568.rp) (by unfold inB; simp; omega) hD1 hsp.2 rxP (by omega) (by omega) (Z1N _ _)
    have hcDD : ∀ c ∈ (Zo HL575 0 ((Z8 X.S) + 3)), CeT Bh575 c := fun c hc => hcD575 c (Z2O hc)
    have S580 := H579.pk [0, 1, 6, 8]
    refine kq _ _ S580 ?_
    clear kq Kq
    refine hv0 9 S580 198 (.tuple #[(.agg ⟨(Z03 q568.rp ((Z8 X.S) + 3) ca575 ((Zo HL575 0 ((Z8 X.S) + 3)).length) cc575 (Zm (Zg Lc (⟨q568.rp, ZB (⟨q568.rp, 0, ((Z8 X.S) + 3), ca575, cc575, 0, 0, (Zo HL575 0 ((Z8 X.S) + 3))⟩ : PrR)⟩ : Signed)) (⟨q568.rp, ZB (⟨q568.rp, 0, ((Z8 X.S) + 3), ca575, cc575, 0, 0, (Zo HL575 0 ((Z8 X.S) + 3))⟩ : PrR)⟩ : Signed)))⟩), (.int .i64 (0))]) ?_
    refine hv0 10 S580 208 (.agg ⟨(Z03 q568.rp ((Z8 X.S) + 3) ca575 ((Zo HL575 0 ((Z8 X.S) + 3)).length) cc575 (Zm (Zg Lc (⟨q568.rp, ZB (⟨q568.rp, 0, ((Z8 X.S) + 3), ca575, cc575, 0, 0, (Zo HL575 0 ((Z8 X.S) + 3))⟩ : PrR)⟩ : Signed)) (⟨q568.rp, ZB (⟨q568.rp, 0, ((Z8 X.S) + 3), ca575, cc575, 0, 0, (Zo HL575 0 ((Z8 X.S) + 3))⟩ : PrR)⟩ : Signed)))⟩) ?_
    refine hv0 11 S580 209 (.int .i64 (0)) ?_
    refine Z0R 13 fun Kq kq => ?_
    refine Z2N (Z03 q568.rp ((Z8 X.S) + 3) ca575 ((Zo HL575 0 ((Z8 X.S) + 3)).length) cc575 (Zm (Zg Lc (⟨q568.rp, ZB (⟨q568.rp, 0, ((Z8 X.S) + 3), ca575, cc575, 0, 0, (Zo HL575 0 ((Z8 X.S) + 3))⟩ : PrR)⟩ : Signed)) (⟨q568.rp, ZB (⟨q568.rp, 0, ((Z8 X.S) + 3), ca575, cc575, 0, 0, (Zo HL575 0 ((Z8 X.S) + 3))⟩ : PrR)⟩ : Signed))) H579 13 ?_
    intro w582 H583
    have S585 := H583.pk [0, 1, 6, 8]
    refine kq _ _ S585 ?_
    clear kq Kq
    refine hv0 14 S585 37 (.int .i64 (0)) ?_
    refine zhf ?_
    have H586 := H583.pk [0, 1, 2, 3, 4, 5, 6, 7, 8, 9, 10, 11, 12, 13, 14, 15]
    refine Z02 ?_ ⟨b561, ca575, cc575, (Zo HL575 0 ((Z8 X.S) + 3)), Bh575, q568.rp, (Zm (Zg Lc (⟨q568.rp, ZB (⟨q568.rp, 0, ((Z8 X.S) + 3), ca575, cc575, 0, 0, (Zo HL575 0 ((Z8 X.S) + 3))⟩ : PrR)⟩ : Signed)) (⟨q568.rp, ZB (⟨q568.rp, 0, ((Z8 X.S) + 3), ca575, cc575, 0, 0, (Zo HL575 0 ((Z8 X.S) + 3))⟩ : PrR)⟩ : Signed)), (Zg Lc (⟨q568.rp, ZB (⟨q568.rp, 0, ((Z8 X.S) + 3), ca575, cc575, 0, 0, (Zo HL575 0 ((Z8 X.S) + 3))⟩ : PrR)⟩ : Signed)), rfl, rfl, hrP, hsp.1, hcDD, ndP, (by omega), rxP, hqr, H586⟩
    exact zs
   refine zda (Z1m) H501 ?_
   intro b587 w588 H589
   have S590 := H589.pk [0, 1, 6, 8]
   refine kq _ _ S590 ?_
   clear kq Kq
   refine Z0R 2 fun Kq kq => ?_
   obtain ⟨g592, c593, e594⟩ := Z0P (H589.at 9 rfl) (by omega)
   obtain ⟨x595, h596⟩ := Z2a (show g < P.length by omega)
   refine Z1S (d := 201) (v := (.pointer (some ⟨g592, 0 + ((g : Int)).toNat * 1, none⟩))) rfl (Z0I (E := 73) (by kernel_rfl) (by kernel_rfl) (Nat.le_of_ble_eq_true rfl) rfl e594 rfl (by omega) (by omega)) ?_
   have S597 := H589.pk [0, 1, 6, 8]
   refine kq _ _ S597 ?_
   clear kq Kq
   refine Z0R 3 fun Kq kq => ?_
   refine Z1S (d := 202) (v := (pt x595 0)) rfl (Za rfl (by kernel_rfl) (Z0X (H589.at 9 rfl) e594 Z1A h596 0 rfl (show 0 + ((g : Int)).toNat * 1 = g * 1 + 0 by omega) (by kernel_rfl))) ?_
   have S599 := H589.pk [0, 1, 6, 8]
   refine kq _ _ S599 ?_
   clear kq Kq
   refine Z0R 8 fun Kq kq => ?_
   obtain ⟨q601, y602, e603⟩ := hTs.get h596
   obtain ⟨r604, m605⟩ := hTs.got _ _ y602
   have H606 := H589.pk [10, 0, 1, 2, 3, 4, 5, 6, 7, 8, 9, 11, 12, 13]
   have H607 : Sat w [Z1 x595 121 ([(.int .i64 (F)), (.int .i64 (3)), (.int .i64 (q601.rp)), (.map (some q601.tm))] : List Value), ZA q601.tm nmV ceV q601.M, Z1D (tbL F) (T.eraseIdx g), Z1 b6 36 ([(.int .i64 (F)), (.int .i64 (3))] : List Value), Z1 x13 40 ([(pt b_ 0), (pt r_ 0)] : List Value), Z1 b_ 110 ([(.map (some mb_))] : List Value), ZA mb_ Z7 (Value.int .i64) (Zh Lc), Z1 r_ 98 ([(.slice ra Lr.length rc)] : List Value), Zd 114 2 (.slice ra Lr.length rc) Lr.length (Lr.flatMap Z1b), Z1 x15 53 (([(.int .i64 (X.x.cl)), (.int .i64 (X.x.seq))] : List Value) ++ hc X.x.h ++ ([(.int .i64 (X.x.len)), (.int .i64 (X.x.sb)), (.int .i64 (X.x.sm)), (.slice X.sa X.S.length X.sc)] : List Value)), ZL B, Z5 w (fun _ => False), Zd 73 1 (.slice pa P.length pc) P.length (P.flatMap Z0H), Z09 b205 4 N Hs, Z09 b419 4 N Rs, Z1 b587 34 ([(.int .i64 (0)), (.int .i64 (0)), (.int .u64 (0)), (.slice none 0 0), (.int .i64 (0)), (.int .i64 (0))] : List Value)] w588 := by have q_ := Sat.famOut H606 y602; unfold tbL at q_; rw [e603] at q_; exact q_
   have hqr : 0 ≤ q601.rp ∧ q601.rp ≤ 1000000 := by omega
   refine zdc 207 (Z1w w588 x595 q601.tm F 3 q601.rp q601.M B b_ mb_ Lc (H607.fn [0, 1, 10, 5, 6]) (m605.ceT hXT) (Nat.le_trans m605.len1 (by decide)) (by omega) hnc (by omega) 0 0 ((Z8 X.S) + 3) (by omega) (by omega)) ?_
   rintro _ wp608 ⟨ca608, cc608, HL608, Bh608, ss608, rfl, hs608, hsp608, hco608, hcD608, hT608⟩
   have H609 := H607.tl [Z1 x595 121 (Z0J F q601.rp q601.tm), ZA q601.tm nmV ceV q601.M, ZL B, Z1 b_ 110 (Zy mb_), (Zz mb_ (Zg Lc (⟨q601.rp, ZB (⟨q601.rp, 0, ((Z8 X.S) + 3), ca608, cc608, 0, 0, (Zo HL608 0 ((Z8 X.S) + 3))⟩ : PrR)⟩ : Signed))), (Z0k ca608 (Zo HL608 0 ((Z8 X.S) + 3)) cc608), ZL Bh608] [0, 1, 10, 5, 6] [2, 3, 4, 7, 8, 9, 11, 12, 13, 14, 15] hT608 [0, 1, 7, 8, 9, 3, 4, 10, 11, 12, 2, 13, 14, 15, 16, 17, 5, 6]
   refine ⟨_, rfl, ?_⟩
   have hsp := m605.span hs608 hco608 (by omega) (show Z8 X.S ≤ ((Z8 X.S) + 3) by omega)
   have hD1 : (Zo HL608 0 ((Z8 X.S) + 3)).length ≤ 1 := by rw [hsp.1]; split <;> omega
   have ndP : (Zg Lc (⟨q601.rp, ZB (⟨q601.rp, 0, ((Z8 X.S) + 3), ca608, cc608, 0, 0, (Zo HL608 0 ((Z8 X.S) + 3))⟩ : PrR)⟩ : Signed)).Nodup := Z0K hnc _
   have llP : (Zg Lc (⟨q601.rp, ZB (⟨q601.rp, 0, ((Z8 X.S) + 3), ca608, cc608, 0, 0, (Zo HL608 0 ((Z8 X.S) + 3))⟩ : PrR)⟩ : Signed)).length ≤ Lc.length + 1 := Z0W _ _
   have rxP : Z08 F 3 (Zg Lc (⟨q601.rp, ZB (⟨q601.rp, 0, ((Z8 X.S) + 3), ca608, cc608, 0, 0, (Zo HL608 0 ((Z8 X.S) + 3))⟩ : PrR)⟩ : Signed)) X.x X.S = true := Z1c hRc _
   have H610 : Sat w [Z1D (tbL F) (T.set g (⟨q601.t, q601.tm, q601.rp, q601.M⟩ : TbR)), Z1 b6 36 (ZG F), Z1 x13 40 (ZF b_ r_), Z1 b_ 110 (Zy mb_), (Zz mb_ (Zg Lc (⟨q601.rp, ZB (⟨q601.rp, 0, ((Z8 X.S) + 3), ca608, cc608, 0, 0, (Zo HL608 0 ((Z8 X.S) + 3))⟩ : PrR)⟩ : Signed))), Z1 r_ 98 (ZU ra Lr.length rc), (ZS ra Lr rc), Z1 x15 53 (ZK X), ZL B, Z5 w (fun _ => False), Zd 73 1 (.slice pa P.length pc) P.length (P.flatMap Z0H), Z09 b205 4 N Hs, Z09 b419 4 N Rs, Z1 b587 34 (Z1m), (Z0k ca608 (Zo HL608 0 ((Z8 X.S) + 3)) cc608), ZL Bh608] wp608 := by
    have q_ := H609.pk [0, 1, 2, 3, 4, 5, 6, 7, 8, 9, 10, 11, 12, 13, 14, 15, 16, 17]
    refine Sat.famIn (q := ⟨q601.t, q601.tm, q601.rp, q601.M⟩) ?_ (List.getElem?_eq_some_iff.1 y602).1
    unfold tbL
    rw [e603]
    exact q_
   have H611 : Sat w [Z1D (tbL F) T, Z1 b6 36 ([(.int .i64 (F)), (.int .i64 (3))] : List Value), Z1 x13 40 ([(pt b_ 0), (pt r_ 0)] : List Value), Z1 b_ 110 ([(.map (some mb_))] : List Value), ZA mb_ Z7 (Value.int .i64) (Zh (Zg Lc (⟨q601.rp, ZB (⟨q601.rp, 0, ((Z8 X.S) + 3), ca608, cc608, 0, 0, (Zo HL608 0 ((Z8 X.S) + 3))⟩ : PrR)⟩ : Signed))), Z1 r_ 98 ([(.slice ra Lr.length rc)] : List Value), Zd 114 2 (.slice ra Lr.length rc) Lr.length (Lr.flatMap Z1b), Z1 x15 53 (([(.int .i64 (X.x.cl)), (.int .i64 (X.x.seq))] : List Value) ++ hc X.x.h ++ ([(.int .i64 (X.x.len)), (.int .i64 (X.x.sb)), (.int .i64 (X.x.sm)), (.slice X.sa X.S.length X.sc)] : List Value)), ZL B, Z5 w (fun _ => False), Zd 73 1 (.slice pa P.length pc) P.length (P.flatMap Z0H), Z09 b205 4 N Hs, Z09 b419 4 N Rs, Z1 b587 34 ([(.int .i64 (0)), (.int .i64 (0)), (.int .u64 (0)), (.slice none 0 0), (.int .i64 (0)), (.int .i64 (0))] : List Value), Zd 53 38 (.slice ca608 ((Zo HL608 0 ((Z8 X.S) + 3)).length) cc608) ((Zo HL608 0 ((Z8 X.S) + 3)).length) ((Zo HL608 0 ((Z8 X.S) + 3)).flatMap Z01), ZL Bh608] wp608 := by have q_ := H610; rw [Z2f y602] at q_; exact q_
   have H612 := H611.pk [1, 2, 3, 4, 5, 6, 7, 8, 9, 10, 0, 11, 12, 13, 14, 15]
   have hrP : Z1s F 3 (Zg Lc (⟨q601.rp, ZB (⟨q601.rp, 0, ((Z8 X.S) + 3), ca608, cc608, 0, 0, (Zo HL608 0 ((Z8 X.S) + 3))⟩ : PrR)⟩ : Signed)) (⟨q601.rp, 0, ((Z8 X.S) + 3), ca608, cc608, q601.rp, Zm (Zg Lc (⟨q601.rp, ZB (⟨q601.rp, 0, ((Z8 X.S) + 3), ca608, cc608, 0, 0, (Zo HL608 0 ((Z8 X.S) + 3))⟩ : PrR)⟩ : Signed)) (⟨q601.rp, ZB (⟨q601.rp, 0, ((Z8 X.S) + 3), ca608, cc608, 0, 0, (Zo HL608 0 ((Z8 X.S) + 3))⟩ : PrR)⟩ : Signed), (Zo HL608 0 ((Z8 X.S) + 3))⟩ : PrR) = true := Z2U (rp := q601.rp) (by unfold inB; simp; omega) hD1 hsp.2 rxP (by omega) (by omega) (Z1N _ _)
   have hcDD : ∀ c ∈ (Zo HL608 0 ((Z8 X.S) + 3)), CeT Bh608 c := fun c hc => hcD608 c (Z2O hc)
   have S613 := H612.pk [0, 1, 6, 8]
   refine kq _ _ S613 ?_
   clear kq Kq
   refine hv0 9 S613 198 (.tuple #[(.agg ⟨(Z03 q601.rp ((Z8 X.S) + 3) ca608 ((Zo HL608 0 ((Z8 X.S) + 3)).length) cc608 (Zm (Zg Lc (⟨q601.rp, ZB (⟨q601.rp, 0, ((Z8 X.S) + 3), ca608, cc608, 0, 0, (Zo HL608 0 ((Z8 X.S) + 3))⟩ : PrR)⟩ : Signed)) (⟨q601.rp, ZB (⟨q601.rp, 0, ((Z8 X.S) + 3), ca608, cc608, 0, 0, (Zo HL608 0 ((Z8 X.S) + 3))⟩ : PrR)⟩ : Signed)))⟩), (.int .i64 (0))]) ?_
   refine hv0 10 S613 208 (.agg ⟨(Z03 q601.rp ((Z8 X.S) + 3) ca608 ((Zo HL608 0 ((Z8 X.S) + 3)).length) cc608 (Zm (Zg Lc (⟨q601.rp, ZB (⟨q601.rp, 0, ((Z8 X.S) + 3), ca608, cc608, 0, 0, (Zo HL608 0 ((Z8 X.S) + 3))⟩ : PrR)⟩ : Signed)) (⟨q601.rp, ZB (⟨q601.rp, 0, ((Z8 X.S) + 3), ca608, cc608, 0, 0, (Zo HL608 0 ((Z8 X.S) + 3))⟩ : PrR)⟩ : Signed)))⟩) ?_
   refine hv0 11 S613 209 (.int .i64 (0)) ?_
   refine Z0R 13 fun Kq kq => ?_
   refine Z2N (Z03 q601.rp ((Z8 X.S) + 3) ca608 ((Zo HL608 0 ((Z8 X.S) + 3)).length) cc608 (Zm (Zg Lc (⟨q601.rp, ZB (⟨q601.rp, 0, ((Z8 X.S) + 3), ca608, cc608, 0, 0, (Zo HL608 0 ((Z8 X.S) + 3))⟩ : PrR)⟩ : Signed)) (⟨q601.rp, ZB (⟨q601.rp, 0, ((Z8 X.S) + 3), ca608, cc608, 0, 0, (Zo HL608 0 ((Z8 X.S) + 3))⟩ : PrR)⟩ : Signed))) H612 13 ?_
   intro w615 H616
   have S618 := H616.pk [0, 1, 6, 8]
   refine kq _ _ S618 ?_
   clear kq Kq
   refine hv0 14 S618 37 (.int .i64 (0)) ?_
   refine zhf ?_
   have H619 := H616.pk [0, 1, 2, 3, 4, 5, 6, 7, 8, 9, 10, 11, 12, 13, 14, 15]
   refine Z02 ?_ ⟨b587, ca608, cc608, (Zo HL608 0 ((Z8 X.S) + 3)), Bh608, q601.rp, (Zm (Zg Lc (⟨q601.rp, ZB (⟨q601.rp, 0, ((Z8 X.S) + 3), ca608, cc608, 0, 0, (Zo HL608 0 ((Z8 X.S) + 3))⟩ : PrR)⟩ : Signed)) (⟨q601.rp, ZB (⟨q601.rp, 0, ((Z8 X.S) + 3), ca608, cc608, 0, 0, (Zo HL608 0 ((Z8 X.S) + 3))⟩ : PrR)⟩ : Signed)), (Zg Lc (⟨q601.rp, ZB (⟨q601.rp, 0, ((Z8 X.S) + 3), ca608, cc608, 0, 0, (Zo HL608 0 ((Z8 X.S) + 3))⟩ : PrR)⟩ : Signed)), rfl, rfl, hrP, hsp.1, hcDD, ndP, (by omega), rxP, hqr, H619⟩
   exact zs
  rintro f620 w621 ⟨x36, ca, cc, D, Bh, rp, mk, L1, v623, v624, hrP, hDl, hcDD, hnb1, hlb1, hRX1, hrp, H622⟩
  refine Zj 36 _ v623 ?_
  refine Zj 37 _ v624 ?_
  apply Zb
  apply Zb
  refine zqs H622 ?_
  refine qv 210 (.int .i64 (0)) ?_
  refine qv 211 (.bool false) ?_
  refine qv 212 (.bool false) ?_
  refine qy 2 212 false 213 (.agg ⟨(ZG F)⟩) ?_ (hr := fun _ H' => (Zs (vs := (ZG F)) rfl (by kernel_rfl) (by kernel_rfl) (by exact Nat.le_of_ble_eq_true (by kernel_rfl)) (H'.at 0 rfl) (by kernel_rfl)))
  refine qy 2 212 false 214 (pt x13 0) ?_
  refine qy 2 212 false 215 (pt b_ 0) ?_ (hr := fun _ H' => (Za rfl (by kernel_rfl) (H'.cell 1 rfl rfl)))
  refine qy 2 212 false 216 (.agg ⟨(Z03 rp (Z8 X.S + 3) ca D.length cc mk)⟩) ?_ (hr := fun _ H' => (Zs (vs := (Z03 rp (Z8 X.S + 3) ca D.length cc mk)) rfl (by kernel_rfl) (by kernel_rfl) (by exact Nat.le_of_ble_eq_true (by kernel_rfl)) (H'.at 13 rfl) (by kernel_rfl)))
  refine Z1E (Zu 2 212 false rfl (by kernel_rfl) rfl (by kernel_rfl)) (d := 217) (v := (.bool true)) rfl (fun _ _ => by kernel_rfl) (fun w' H' => (Z74 (Z6m w' F 3 (by omega) b_ mb_ L1 (H'.at 2 rfl) (H'.at 3 rfl) (⟨rp, 0, Z8 X.S + 3, ca, cc, rp, mk, D⟩ : PrR) (ListAt.row Z2E (by decide) (H'.at 14 rfl)) (fun i hi => (hcDD _ (Z3i hi)).cb (H'.at 15 rfl)) (fun i hi => (hcDD _ (Z3i hi)).len) (by show D.length ≤ 64; rw [hDl]; split <;> omega) ⟨by show rp ≤ _; omega, by show (0 : Int) ≤ _; decide, by show 0 ≤ Z8 X.S + 3; omega, by show Z8 X.S + 3 < _; omega⟩) hrP).mono fun _ _ h => ⟨h.1, H'.keepU h.2⟩) ?_
  refine qy 2 212 false 218 (.bool false) ?_
  refine qv 219 (.bool false) ?_
  refine qv 220 (.bool false) ?_
  refine qy 10 220 false 221 (pt x36 3) ?_
  refine qy 10 220 false 222 (.slice ca D.length cc) ?_ (hr := fun _ H' => (Za rfl (by kernel_rfl) (H'.cell 13 rfl rfl)))
  refine ZT (Zu 10 220 false rfl (by kernel_rfl) rfl (by kernel_rfl)) (d := 223) (v := (.int .i64 ((D.length : Int)))) rfl (fun _ H' => (by kernel_rfl)) ?_
  refine qy 10 220 false 224 (.bool (decide ((D.length : Int) = 1))) ?_
  refine qy 10 220 false 225 (.slice (some ⟨b205, 0, none⟩) N N) ?_
  refine qy 10 220 false 226 (.int .i64 ((g : Int))) ?_
  refine qy 10 220 false 227 (.pointer (some ⟨b205, 0 + ((g : Int)).toNat * 1, none⟩)) ?_ (hr := fun _ H' => (Z0i (E := 4) (by kernel_rfl) (by kernel_rfl) (Nat.le_of_ble_eq_true rfl) rfl rfl (by omega) (by omega)))
  refine qy 10 220 false 228 (.bool (Hs.getD g false)) ?_ (hr := fun _ H' => (Za rfl (by kernel_rfl) (Z1Y (H'.at 11 rfl) (show g < N by omega) (show 0 + ((g : Int)).toNat * 1 = g by omega))))
  refine qy 10 220 false 229 (.bool (!((decide ((D.length : Int) = 1)) == (Hs.getD g false)))) ?_
  refine qv 230 (.bool (!((decide ((D.length : Int) = 1)) == (Hs.getD g false)))) ?_
  refine Z1Q ?_
  intro w625 H626
  apply ztn
  have b627 : (!((decide ((D.length : Int) = 1)) == (Hs.getD g false))) = false := by rw [hDl]; cases Hs.getD g false <;> rfl
  have g628 := Zp b627
  refine Z3h _ b627 ?_
  apply ZZ
  apply ztn
  refine Z1j [34, 231, 232, 233, 234, 235, 236, 237] (fun G_ W_ => G_ 34 = (.bool (fd || Hs.getD g false)) ∧ Sat w [Z1 b6 36 (ZG F), Z1 x13 40 (ZF b_ r_), Z1 b_ 110 (Zy mb_), (Zz mb_ L1), Z1 r_ 98 (ZU ra Lr.length rc), (ZS ra Lr rc), Z1 x15 53 (ZK X), ZL B, Z5 w (fun _ => False), Zd 73 1 (.slice pa P.length pc) P.length (P.flatMap Z0H), Z1D (tbL F) T, Z09 b205 4 N Hs, Z09 b419 4 N Rs, Z1 x36 34 (Z03 rp (Z8 X.S + 3) ca D.length cc mk), (Z0k ca D cc), ZL Bh] W_) ?_ ?_
  ·apply Zl
   refine wv 231 (.bool (fd)) ?_
   refine wv 232 (.bool (fd)) ?_
   refine (ZD (fd)).elim (fun b630 => ?_) (fun b630 => ?_)
   ·refine ZV 232 (.bool true) (congrArg Value.bool b630) ?_
    iterate 4 refine wn 1 232 false ?_
    refine wv 237 (.bool true) ?_
    refine wv 34 (.bool true) ?_
    apply Zi
    refine Z02 ?_ ⟨(congrArg Value.bool (show true = (fd || Hs.getD g false) by rw [b630]; rfl)), H626⟩
    exact zs
   refine ZV 232 (.bool false) (congrArg Value.bool b630) ?_
   refine wy 1 232 false 233 (.slice (some ⟨b205, 0, none⟩) N N) ?_
   refine wy 1 232 false 234 (.int .i64 ((g : Int))) ?_
   refine wy 1 232 false 235 (.pointer (some ⟨b205, 0 + ((g : Int)).toNat * 1, none⟩)) ?_ (hr := Z0i (E := 4) (by kernel_rfl) (by kernel_rfl) (Nat.le_of_ble_eq_true rfl) rfl rfl (by omega) (by omega))
   refine wy 1 232 false 236 (.bool (Hs.getD g false)) ?_ (hr := Za rfl (by kernel_rfl) (Z1Y (H626.at 11 rfl) (show g < N by omega) (show 0 + ((g : Int)).toNat * 1 = g by omega)))
   refine wv 237 (.bool (Hs.getD g false)) ?_
   refine wv 34 (.bool (Hs.getD g false)) ?_
   apply Zi
   refine Z02 ?_ ⟨(congrArg Value.bool (show (Hs.getD g false) = (fd || Hs.getD g false) by rw [b630]; rfl)), H626⟩
   exact zs
  rintro f631 w632 ⟨v634, H633⟩
  refine Zj 34 _ v634 ?_
  refine Z1j [238, 239, 240, 241, 242, 243, 244, 245] (fun G_ W_ => G_ 245 = (.bool (late && !Hs.getD g false)) ∧ Sat w [Z1 b6 36 (ZG F), Z1 x13 40 (ZF b_ r_), Z1 b_ 110 (Zy mb_), (Zz mb_ L1), Z1 r_ 98 (ZU ra Lr.length rc), (ZS ra Lr rc), Z1 x15 53 (ZK X), ZL B, Z5 w (fun _ => False), Zd 73 1 (.slice pa P.length pc) P.length (P.flatMap Z0H), Z1D (tbL F) T, Z09 b205 4 N Hs, Z09 b419 4 N Rs, Z1 x36 34 (Z03 rp (Z8 X.S + 3) ca D.length cc mk), (Z0k ca D cc), ZL Bh] W_) ?_ ?_
  ·apply Zl
   refine wv 238 (.bool (late)) ?_
   refine wv 239 (.bool (late)) ?_
   refine (ZD (late)).elim (fun b636 => ?_) (fun b636 => ?_)
   ·refine ZV 239 (.bool true) (congrArg Value.bool b636) ?_
    refine wy 1 239 true 240 (.slice (some ⟨b205, 0, none⟩) N N) ?_
    refine wy 1 239 true 241 (.int .i64 ((g : Int))) ?_
    refine wy 1 239 true 242 (.pointer (some ⟨b205, 0 + ((g : Int)).toNat * 1, none⟩)) ?_ (hr := Z0i (E := 4) (by kernel_rfl) (by kernel_rfl) (Nat.le_of_ble_eq_true rfl) rfl rfl (by omega) (by omega))
    refine wy 1 239 true 243 (.bool (Hs.getD g false)) ?_ (hr := Za rfl (by kernel_rfl) (Z1Y (H633.at 11 rfl) (show g < N by omega) (show 0 + ((g : Int)).toNat * 1 = g by omega)))
    refine wy 1 239 true 244 (.bool (!(Hs.getD g false))) ?_
    refine wv 245 (.bool (!(Hs.getD g false))) ?_
    apply Zi
    refine Z02 ?_ ⟨(congrArg Value.bool (show (!(Hs.getD g false)) = (late && !Hs.getD g false) by rw [b636]; rfl)), H633⟩
    exact zs
   refine ZV 239 (.bool false) (congrArg Value.bool b636) ?_
   iterate 5 refine wn 1 239 true ?_
   refine wv 245 (.bool false) ?_
   apply Zi
   refine Z02 ?_ ⟨(congrArg Value.bool (show false = (late && !Hs.getD g false) by rw [b636]; rfl)), H633⟩
   exact zs
  rintro f637 w638 ⟨v640, H639⟩
  refine Zj 245 _ v640 ?_
  refine (ZD (late && !Hs.getD g false)).elim (fun b641 => ?_) (fun b641 => ?_)
  ·refine Z3G _ b641 ?_
   have hno : Hs.getD g false = false := by have q := b641; simp only [Bool.and_eq_true, Bool.not_eq_true'] at q; exact q.2
   refine Z1j ([38, 39] ++ List.range' 246 13) (fun G_ W_ => G_ 39 = (.int .i64 (4)) ∧ Sat w [Z1 b6 36 (ZG F), Z1 x13 40 (ZF b_ r_), Z1 b_ 110 (Zy mb_), (Zz mb_ L1), Z1 r_ 98 (ZU ra Lr.length rc), (ZS ra Lr rc), Z1 x15 53 (ZK X), ZL B, Z5 w (fun _ => False), Zd 73 1 (.slice pa P.length pc) P.length (P.flatMap Z0H), Z1D (tbL F) T, Z09 b205 4 N Hs, Z09 b419 4 N Rs, Z1 x36 34 (Z03 rp (Z8 X.S + 3) ca D.length cc mk), (Z0k ca D cc), ZL Bh] W_) ?_ ?_
   ·obtain ⟨g643, c644, e645⟩ := Z0P (H639.at 9 rfl) (by omega)
    obtain ⟨x646, h647⟩ := Z2a (show g < P.length by omega)
    refine Z0f H639 [Z1 b6 36 (ZG F), Z1 x13 40 (ZF b_ r_), Z1 x15 53 (ZK X), Z5 w (fun _ => False)] 16 rfl (by kernel_rfl) (fun Hx => (Hx.pk [0, 1, 6, 8])) ?_
    intro w648 H649 S650
    refine hv0 0 S650 247 (.slice pa P.length pc) ?_
    refine hv0 1 S650 248 (.int .i64 ((g : Int))) ?_
    refine hv0 4 S650 251 (pt x13 0) ?_
    refine hv0 5 S650 252 (pt b_ 0) ?_ (he := fun _ H' => (Za rfl (by kernel_rfl) (H'.cell 1 rfl rfl)))
    refine hv0 6 S650 253 (.int .u64 (Z8 X.S)) ?_
    refine hv0 7 S650 254 (.int .u64 ((Z8 X.S) + 3)) ?_ (he := fun _ H' => (Z0l (z := (Z8 X.S) + 3) (by kernel_rfl) (Z1k (by omega))))
    refine hv0 8 S650 255 (.agg ⟨(ZK X)⟩) ?_ (he := fun _ H' => (Zs (vs := (ZK X)) rfl (by kernel_rfl) (by kernel_rfl) (by exact Nat.le_of_ble_eq_true (by kernel_rfl)) (H'.at 2 rfl) (by kernel_rfl)))
    refine Z39 2 13 rfl rfl (by kernel_rfl) (Z0 rfl) (Z0 rfl) (fun Kq kq => ?_) (fun Kq kq => ?_)
    ·obtain ⟨g652, c653, e654⟩ := Z0P (H649.at 9 rfl) (by omega)
     obtain ⟨x655, h656⟩ := Z2a (show g < P.length by omega)
     refine Z1S (d := 249) (v := (.pointer (some ⟨g652, 0 + ((g : Int)).toNat * 1, none⟩))) rfl (Z0I (E := 73) (by kernel_rfl) (by kernel_rfl) (Nat.le_of_ble_eq_true rfl) rfl e654 rfl (by omega) (by omega)) ?_
     have S657 := H649.pk [0, 1, 6, 8]
     refine kq _ _ S657 ?_
     clear kq Kq
     refine Z39 3 13 rfl rfl (by kernel_rfl) (Z0 rfl) (Z0 rfl) (fun Kq kq => ?_) (fun Kq kq => ?_)
     ·refine Z1S (d := 250) (v := (pt x655 0)) rfl (Za rfl (by kernel_rfl) (Z0X (H649.at 9 rfl) e654 Z1A h656 0 rfl (show 0 + ((g : Int)).toNat * 1 = g * 1 + 0 by omega) (by kernel_rfl))) ?_
      have S659 := H649.pk [0, 1, 6, 8]
      refine kq _ _ S659 ?_
      clear kq Kq
      refine Z39 9 13 rfl rfl (by kernel_rfl) (Z0 rfl) (Z0 rfl) (fun Kq kq => ?_) (fun Kq kq => ?_)
      ·obtain ⟨q661, y662, e663⟩ := hTs.get h656
       obtain ⟨r664, m665⟩ := hTs.got _ _ y662
       have H666 := H649.pk [10, 0, 1, 2, 3, 4, 5, 6, 7, 8, 9, 11, 12, 13, 14, 15]
       have H667 : Sat w [Z1 x655 121 ([(.int .i64 (F)), (.int .i64 (3)), (.int .i64 (q661.rp)), (.map (some q661.tm))] : List Value), ZA q661.tm nmV ceV q661.M, Z1D (tbL F) (T.eraseIdx g), Z1 b6 36 ([(.int .i64 (F)), (.int .i64 (3))] : List Value), Z1 x13 40 ([(pt b_ 0), (pt r_ 0)] : List Value), Z1 b_ 110 ([(.map (some mb_))] : List Value), ZA mb_ Z7 (Value.int .i64) (Zh L1), Z1 r_ 98 ([(.slice ra Lr.length rc)] : List Value), Zd 114 2 (.slice ra Lr.length rc) Lr.length (Lr.flatMap Z1b), Z1 x15 53 (([(.int .i64 (X.x.cl)), (.int .i64 (X.x.seq))] : List Value) ++ hc X.x.h ++ ([(.int .i64 (X.x.len)), (.int .i64 (X.x.sb)), (.int .i64 (X.x.sm)), (.slice X.sa X.S.length X.sc)] : List Value)), ZL B, Z5 w (fun _ => False), Zd 73 1 (.slice pa P.length pc) P.length (P.flatMap Z0H), Z09 b205 4 N Hs, Z09 b419 4 N Rs, Z1 x36 34 ([(.int .i64 (rp)), (.int .i64 (0)), (.int .u64 (Z8 X.S + 3)), (.slice ca D.length cc), (.int .i64 (rp)), (.int .i64 (mk))] : List Value), Zd 53 38 (.slice ca D.length cc) D.length (D.flatMap Z01), ZL Bh] w648 := by have q_ := Sat.famOut H666 y662; unfold tbL at q_; rw [e663] at q_; exact q_
       have hqr : 0 ≤ q661.rp ∧ q661.rp ≤ 1000000 := by omega
       rw [hno] at m665
       refine zdc 256 (Z1r w648 x655 q661.tm F 3 q661.rp q661.M B b_ mb_ L1 (H667.fn [0, 1, 10, 5, 6]) (m665.ceT hXT) (Nat.le_trans m665.len1 (by decide)) hqr hnb1 (by omega) (by omega) ((Z8 X.S) + 3) X ⟨hXT.x, hXT.S, hXT.len, hXB⟩) ?_
       rintro _ w668 ⟨s669, r670, M671, B672, L673, rfl, e674, z675, z676, d677, T678⟩
       have e679 : r670 = 4 := by rw [e674]; exact m665.late hRX1 (by omega)
       subst e679
       have H680 := H667.tl [Z1 x655 121 (Z0J F q661.rp q661.tm), ZA q661.tm nmV ceV M671, ZL B672, Z1 b_ 110 (Zy mb_), (Zz mb_ L673)] [0, 1, 10, 5, 6] [2, 3, 4, 7, 8, 9, 11, 12, 13, 14, 15, 16, 17] T678 [0, 1, 5, 6, 7, 3, 4, 8, 9, 10, 2, 11, 12, 13, 14, 15, 16, 17]
       have hsame : M671 = q661.M ∧ B672 = B := by
        rcases d677 with ⟨q1, q2, _⟩ | ⟨⟨q1, _⟩, _⟩
        ·exact ⟨q1, q2⟩
        cases q1
       have hLs : L673 = L1 := z676 (by decide)
       have H682 : Sat w [Z1D (tbL F) (T.set g (⟨q661.t, q661.tm, q661.rp, M671⟩ : TbR)), Z1 b6 36 (ZG F), Z1 x13 40 (ZF b_ r_), Z1 b_ 110 (Zy mb_), (Zz mb_ L673), Z1 r_ 98 (ZU ra Lr.length rc), (ZS ra Lr rc), Z1 x15 53 (ZK X), ZL B672, Z5 w (fun _ => False), Zd 73 1 (.slice pa P.length pc) P.length (P.flatMap Z0H), Z09 b205 4 N Hs, Z09 b419 4 N Rs, Z1 x36 34 (Z03 rp (Z8 X.S + 3) ca D.length cc mk), (Z0k ca D cc), ZL Bh] w668 := by
        have q_ := H680.pk [0, 1, 2, 3, 4, 5, 6, 7, 8, 9, 10, 11, 12, 13, 14, 15, 16, 17]
        refine Sat.famIn (q := ⟨q661.t, q661.tm, q661.rp, M671⟩) ?_ (List.getElem?_eq_some_iff.1 y662).1
        unfold tbL
        rw [e663]
        exact q_
       have H681 : Sat w [Z1D (tbL F) T, Z1 b6 36 ([(.int .i64 (F)), (.int .i64 (3))] : List Value), Z1 x13 40 ([(pt b_ 0), (pt r_ 0)] : List Value), Z1 b_ 110 ([(.map (some mb_))] : List Value), ZA mb_ Z7 (Value.int .i64) (Zh L1), Z1 r_ 98 ([(.slice ra Lr.length rc)] : List Value), Zd 114 2 (.slice ra Lr.length rc) Lr.length (Lr.flatMap Z1b), Z1 x15 53 (([(.int .i64 (X.x.cl)), (.int .i64 (X.x.seq))] : List Value) ++ hc X.x.h ++ ([(.int .i64 (X.x.len)), (.int .i64 (X.x.sb)), (.int .i64 (X.x.sm)), (.slice X.sa X.S.length X.sc)] : List Value)), ZL B, Z5 w (fun _ => False), Zd 73 1 (.slice pa P.length pc) P.length (P.flatMap Z0H), Z09 b205 4 N Hs, Z09 b419 4 N Rs, Z1 x36 34 ([(.int .i64 (rp)), (.int .i64 (0)), (.int .u64 (Z8 X.S + 3)), (.slice ca D.length cc), (.int .i64 (rp)), (.int .i64 (mk))] : List Value), Zd 53 38 (.slice ca D.length cc) D.length (D.flatMap Z01), ZL Bh] w668 := by have q_ := H682; rw [hsame.1, hsame.2, hLs, Z2f y662] at q_; exact q_
       have H683 := H681.pk [1, 2, 3, 4, 5, 6, 7, 8, 9, 10, 0, 11, 12, 13, 14, 15]
       refine ⟨_, rfl, ?_⟩
       have S684 := H683.pk [0, 1, 6, 8]
       refine kq _ _ S684 ?_
       clear kq Kq
       refine hv0 10 S684 246 (.tuple #[(.agg ⟨(Z00 s669)⟩), (.int .i64 (4))]) ?_
       refine hv0 11 S684 257 (.agg ⟨(Z00 s669)⟩) ?_
       refine hv0 12 S684 258 (.int .i64 (4)) ?_
       refine Z0R 13 fun Kq kq => ?_
       refine zda (Z0z) H683 ?_
       intro b686 w687 H688
       have S689 := H688.pk [0, 1, 6, 8]
       refine kq _ _ S689 ?_
       clear kq Kq
       refine Z0R 14 fun Kq kq => ?_
       refine Z2N (Z00 s669) H688 16 ?_
       intro w691 H692
       have S694 := H692.pk [0, 1, 6, 8]
       refine kq _ _ S694 ?_
       clear kq Kq
       refine hv0 15 S694 39 (.int .i64 (4)) ?_
       refine zhf ?_
       have H695 := H692.pk [0, 1, 2, 3, 4, 5, 6, 7, 8, 9, 10, 11, 12, 13, 14, 15]
       refine Z02 ?_ ⟨rfl, H695⟩
       exact zs
      refine zda (Z0z) H649 ?_
      intro b696 w697 H698
      have S699 := H698.pk [0, 1, 6, 8]
      refine kq _ _ S699 ?_
      clear kq Kq
      refine Z0R 9 fun Kq kq => ?_
      obtain ⟨q701, y702, e703⟩ := hTs.get h656
      obtain ⟨r704, m705⟩ := hTs.got _ _ y702
      have H706 := H698.pk [10, 0, 1, 2, 3, 4, 5, 6, 7, 8, 9, 11, 12, 13, 14, 15, 16]
      have H707 : Sat w [Z1 x655 121 ([(.int .i64 (F)), (.int .i64 (3)), (.int .i64 (q701.rp)), (.map (some q701.tm))] : List Value), ZA q701.tm nmV ceV q701.M, Z1D (tbL F) (T.eraseIdx g), Z1 b6 36 ([(.int .i64 (F)), (.int .i64 (3))] : List Value), Z1 x13 40 ([(pt b_ 0), (pt r_ 0)] : List Value), Z1 b_ 110 ([(.map (some mb_))] : List Value), ZA mb_ Z7 (Value.int .i64) (Zh L1), Z1 r_ 98 ([(.slice ra Lr.length rc)] : List Value), Zd 114 2 (.slice ra Lr.length rc) Lr.length (Lr.flatMap Z1b), Z1 x15 53 (([(.int .i64 (X.x.cl)), (.int .i64 (X.x.seq))] : List Value) ++ hc X.x.h ++ ([(.int .i64 (X.x.len)), (.int .i64 (X.x.sb)), (.int .i64 (X.x.sm)), (.slice X.sa X.S.length X.sc)] : List Value)), ZL B, Z5 w (fun _ => False), Zd 73 1 (.slice pa P.length pc) P.length (P.flatMap Z0H), Z09 b205 4 N Hs, Z09 b419 4 N Rs, Z1 x36 34 ([(.int .i64 (rp)), (.int .i64 (0)), (.int .u64 (Z8 X.S + 3)), (.slice ca D.length cc), (.int .i64 (rp)), (.int .i64 (mk))] : List Value), Zd 53 38 (.slice ca D.length cc) D.length (D.flatMap Z01), ZL Bh, Z1 b696 31 (([(.int .i64 (0)), (.int .i64 (0)), (.int .i64 (0))] : List Value) ++ hc Zt ++ ([(.int .u64 (0)), (.int .i64 (0)), (.int .i64 (0))] : List Value))] w697 := by have q_ := Sat.famOut H706 y702; unfold tbL at q_; rw [e703] at q_; exact q_
      have hqr : 0 ≤ q701.rp ∧ q701.rp ≤ 1000000 := by omega
      rw [hno] at m705
      refine zdc 256 (Z1r w697 x655 q701.tm F 3 q701.rp q701.M B b_ mb_ L1 (H707.fn [0, 1, 10, 5, 6]) (m705.ceT hXT) (Nat.le_trans m705.len1 (by decide)) hqr hnb1 (by omega) (by omega) ((Z8 X.S) + 3) X ⟨hXT.x, hXT.S, hXT.len, hXB⟩) ?_
      rintro _ w708 ⟨s709, r710, M711, B712, L713, rfl, e714, z715, z716, d717, T718⟩
      have e719 : r710 = 4 := by rw [e714]; exact m705.late hRX1 (by omega)
      subst e719
      have H720 := H707.tl [Z1 x655 121 (Z0J F q701.rp q701.tm), ZA q701.tm nmV ceV M711, ZL B712, Z1 b_ 110 (Zy mb_), (Zz mb_ L713)] [0, 1, 10, 5, 6] [2, 3, 4, 7, 8, 9, 11, 12, 13, 14, 15, 16, 17, 18] T718 [0, 1, 5, 6, 7, 3, 4, 8, 9, 10, 2, 11, 12, 13, 14, 15, 16, 17, 18]
      have hsame : M711 = q701.M ∧ B712 = B := by
       rcases d717 with ⟨q1, q2, _⟩ | ⟨⟨q1, _⟩, _⟩
       ·exact ⟨q1, q2⟩
       cases q1
      have hLs : L713 = L1 := z716 (by decide)
      have H722 : Sat w [Z1D (tbL F) (T.set g (⟨q701.t, q701.tm, q701.rp, M711⟩ : TbR)), Z1 b6 36 (ZG F), Z1 x13 40 (ZF b_ r_), Z1 b_ 110 (Zy mb_), (Zz mb_ L713), Z1 r_ 98 (ZU ra Lr.length rc), (ZS ra Lr rc), Z1 x15 53 (ZK X), ZL B712, Z5 w (fun _ => False), Zd 73 1 (.slice pa P.length pc) P.length (P.flatMap Z0H), Z09 b205 4 N Hs, Z09 b419 4 N Rs, Z1 x36 34 (Z03 rp (Z8 X.S + 3) ca D.length cc mk), (Z0k ca D cc), ZL Bh, Z1 b696 31 (Z0z)] w708 := by
       have q_ := H720.pk [0, 1, 2, 3, 4, 5, 6, 7, 8, 9, 10, 11, 12, 13, 14, 15, 16, 17, 18]
       refine Sat.famIn (q := ⟨q701.t, q701.tm, q701.rp, M711⟩) ?_ (List.getElem?_eq_some_iff.1 y702).1
       unfold tbL
       rw [e703]
       exact q_
      have H721 : Sat w [Z1D (tbL F) T, Z1 b6 36 ([(.int .i64 (F)), (.int .i64 (3))] : List Value), Z1 x13 40 ([(pt b_ 0), (pt r_ 0)] : List Value), Z1 b_ 110 ([(.map (some mb_))] : List Value), ZA mb_ Z7 (Value.int .i64) (Zh L1), Z1 r_ 98 ([(.slice ra Lr.length rc)] : List Value), Zd 114 2 (.slice ra Lr.length rc) Lr.length (Lr.flatMap Z1b), Z1 x15 53 (([(.int .i64 (X.x.cl)), (.int .i64 (X.x.seq))] : List Value) ++ hc X.x.h ++ ([(.int .i64 (X.x.len)), (.int .i64 (X.x.sb)), (.int .i64 (X.x.sm)), (.slice X.sa X.S.length X.sc)] : List Value)), ZL B, Z5 w (fun _ => False), Zd 73 1 (.slice pa P.length pc) P.length (P.flatMap Z0H), Z09 b205 4 N Hs, Z09 b419 4 N Rs, Z1 x36 34 ([(.int .i64 (rp)), (.int .i64 (0)), (.int .u64 (Z8 X.S + 3)), (.slice ca D.length cc), (.int .i64 (rp)), (.int .i64 (mk))] : List Value), Zd 53 38 (.slice ca D.length cc) D.length (D.flatMap Z01), ZL Bh, Z1 b696 31 (([(.int .i64 (0)), (.int .i64 (0)), (.int .i64 (0))] : List Value) ++ hc Zt ++ ([(.int .u64 (0)), (.int .i64 (0)), (.int .i64 (0))] : List Value))] w708 := by have q_ := H722; rw [hsame.1, hsame.2, hLs, Z2f y702] at q_; exact q_
      have H723 := H721.pk [1, 2, 3, 4, 5, 6, 7, 8, 9, 10, 0, 11, 12, 13, 14, 15, 16]
      refine ⟨_, rfl, ?_⟩
      have S724 := H723.pk [0, 1, 6, 8]
      refine kq _ _ S724 ?_
      clear kq Kq
      refine hv0 10 S724 246 (.tuple #[(.agg ⟨(Z00 s709)⟩), (.int .i64 (4))]) ?_
      refine hv0 11 S724 257 (.agg ⟨(Z00 s709)⟩) ?_
      refine hv0 12 S724 258 (.int .i64 (4)) ?_
      refine Z0R 14 fun Kq kq => ?_
      refine Z2N (Z00 s709) H723 16 ?_
      intro w726 H727
      have S729 := H727.pk [0, 1, 6, 8]
      refine kq _ _ S729 ?_
      clear kq Kq
      refine hv0 15 S729 39 (.int .i64 (4)) ?_
      refine zhf ?_
      have H730 := H727.pk [0, 1, 2, 3, 4, 5, 6, 7, 8, 9, 10, 11, 12, 13, 14, 15]
      refine Z02 ?_ ⟨rfl, H730⟩
      exact zs
     refine zda (Z0z) H649 ?_
     intro b731 w732 H733
     have S734 := H733.pk [0, 1, 6, 8]
     refine kq _ _ S734 ?_
     clear kq Kq
     refine Z0R 3 fun Kq kq => ?_
     refine Z1S (d := 250) (v := (pt x655 0)) rfl (Za rfl (by kernel_rfl) (Z0X (H733.at 9 rfl) e654 Z1A h656 0 rfl (show 0 + ((g : Int)).toNat * 1 = g * 1 + 0 by omega) (by kernel_rfl))) ?_
     have S736 := H733.pk [0, 1, 6, 8]
     refine kq _ _ S736 ?_
     clear kq Kq
     refine Z0R 9 fun Kq kq => ?_
     obtain ⟨q738, y739, e740⟩ := hTs.get h656
     obtain ⟨r741, m742⟩ := hTs.got _ _ y739
     have H743 := H733.pk [10, 0, 1, 2, 3, 4, 5, 6, 7, 8, 9, 11, 12, 13, 14, 15, 16]
     have H744 : Sat w [Z1 x655 121 ([(.int .i64 (F)), (.int .i64 (3)), (.int .i64 (q738.rp)), (.map (some q738.tm))] : List Value), ZA q738.tm nmV ceV q738.M, Z1D (tbL F) (T.eraseIdx g), Z1 b6 36 ([(.int .i64 (F)), (.int .i64 (3))] : List Value), Z1 x13 40 ([(pt b_ 0), (pt r_ 0)] : List Value), Z1 b_ 110 ([(.map (some mb_))] : List Value), ZA mb_ Z7 (Value.int .i64) (Zh L1), Z1 r_ 98 ([(.slice ra Lr.length rc)] : List Value), Zd 114 2 (.slice ra Lr.length rc) Lr.length (Lr.flatMap Z1b), Z1 x15 53 (([(.int .i64 (X.x.cl)), (.int .i64 (X.x.seq))] : List Value) ++ hc X.x.h ++ ([(.int .i64 (X.x.len)), (.int .i64 (X.x.sb)), (.int .i64 (X.x.sm)), (.slice X.sa X.S.length X.sc)] : List Value)), ZL B, Z5 w (fun _ => False), Zd 73 1 (.slice pa P.length pc) P.length (P.flatMap Z0H), Z09 b205 4 N Hs, Z09 b419 4 N Rs, Z1 x36 34 ([(.int .i64 (rp)), (.int .i64 (0)), (.int .u64 (Z8 X.S + 3)), (.slice ca D.length cc), (.int .i64 (rp)), (.int .i64 (mk))] : List Value), Zd 53 38 (.slice ca D.length cc) D.length (D.flatMap Z01), ZL Bh, Z1 b731 31 (([(.int .i64 (0)), (.int .i64 (0)), (.int .i64 (0))] : List Value) ++ hc Zt ++ ([(.int .u64 (0)), (.int .i64 (0)), (.int .i64 (0))] : List Value))] w732 := by have q_ := Sat.famOut H743 y739; unfold tbL at q_; rw [e740] at q_; exact q_
     have hqr : 0 ≤ q738.rp ∧ q738.rp ≤ 1000000 := by omega
     rw [hno] at m742
     refine zdc 256 (Z1r w732 x655 q738.tm F 3 q738.rp q738.M B b_ mb_ L1 (H744.fn [0, 1, 10, 5, 6]) (m742.ceT hXT) (Nat.le_trans m742.len1 (by decide)) hqr hnb1 (by omega) (by omega) ((Z8 X.S) + 3) X ⟨hXT.x, hXT.S, hXT.len, hXB⟩) ?_
     rintro _ w745 ⟨s746, r747, M748, B749, L750, rfl, e751, z752, z753, d754, T755⟩
     have e756 : r747 = 4 := by rw [e751]; exact m742.late hRX1 (by omega)
     subst e756
     have H757 := H744.tl [Z1 x655 121 (Z0J F q738.rp q738.tm), ZA q738.tm nmV ceV M748, ZL B749, Z1 b_ 110 (Zy mb_), (Zz mb_ L750)] [0, 1, 10, 5, 6] [2, 3, 4, 7, 8, 9, 11, 12, 13, 14, 15, 16, 17, 18] T755 [0, 1, 5, 6, 7, 3, 4, 8, 9, 10, 2, 11, 12, 13, 14, 15, 16, 17, 18]
     have hsame : M748 = q738.M ∧ B749 = B := by
      rcases d754 with ⟨q1, q2, _⟩ | ⟨⟨q1, _⟩, _⟩
      ·exact ⟨q1, q2⟩
      cases q1
     have hLs : L750 = L1 := z753 (by decide)
     have H759 : Sat w [Z1D (tbL F) (T.set g (⟨q738.t, q738.tm, q738.rp, M748⟩ : TbR)), Z1 b6 36 (ZG F), Z1 x13 40 (ZF b_ r_), Z1 b_ 110 (Zy mb_), (Zz mb_ L750), Z1 r_ 98 (ZU ra Lr.length rc), (ZS ra Lr rc), Z1 x15 53 (ZK X), ZL B749, Z5 w (fun _ => False), Zd 73 1 (.slice pa P.length pc) P.length (P.flatMap Z0H), Z09 b205 4 N Hs, Z09 b419 4 N Rs, Z1 x36 34 (Z03 rp (Z8 X.S + 3) ca D.length cc mk), (Z0k ca D cc), ZL Bh, Z1 b731 31 (Z0z)] w745 := by
      have q_ := H757.pk [0, 1, 2, 3, 4, 5, 6, 7, 8, 9, 10, 11, 12, 13, 14, 15, 16, 17, 18]
      refine Sat.famIn (q := ⟨q738.t, q738.tm, q738.rp, M748⟩) ?_ (List.getElem?_eq_some_iff.1 y739).1
      unfold tbL
      rw [e740]
      exact q_
     have H758 : Sat w [Z1D (tbL F) T, Z1 b6 36 ([(.int .i64 (F)), (.int .i64 (3))] : List Value), Z1 x13 40 ([(pt b_ 0), (pt r_ 0)] : List Value), Z1 b_ 110 ([(.map (some mb_))] : List Value), ZA mb_ Z7 (Value.int .i64) (Zh L1), Z1 r_ 98 ([(.slice ra Lr.length rc)] : List Value), Zd 114 2 (.slice ra Lr.length rc) Lr.length (Lr.flatMap Z1b), Z1 x15 53 (([(.int .i64 (X.x.cl)), (.int .i64 (X.x.seq))] : List Value) ++ hc X.x.h ++ ([(.int .i64 (X.x.len)), (.int .i64 (X.x.sb)), (.int .i64 (X.x.sm)), (.slice X.sa X.S.length X.sc)] : List Value)), ZL B, Z5 w (fun _ => False), Zd 73 1 (.slice pa P.length pc) P.length (P.flatMap Z0H), Z09 b205 4 N Hs, Z09 b419 4 N Rs, Z1 x36 34 ([(.int .i64 (rp)), (.int .i64 (0)), (.int .u64 (Z8 X.S + 3)), (.slice ca D.length cc), (.int .i64 (rp)), (.int .i64 (mk))] : List Value), Zd 53 38 (.slice ca D.length cc) D.length (D.flatMap Z01), ZL Bh, Z1 b731 31 (([(.int .i64 (0)), (.int .i64 (0)), (.int .i64 (0))] : List Value) ++ hc Zt ++ ([(.int .u64 (0)), (.int .i64 (0)), (.int .i64 (0))] : List Value))] w745 := by have q_ := H759; rw [hsame.1, hsame.2, hLs, Z2f y739] at q_; exact q_
     have H760 := H758.pk [1, 2, 3, 4, 5, 6, 7, 8, 9, 10, 0, 11, 12, 13, 14, 15, 16]
     refine ⟨_, rfl, ?_⟩
     have S761 := H760.pk [0, 1, 6, 8]
     refine kq _ _ S761 ?_
     clear kq Kq
     refine hv0 10 S761 246 (.tuple #[(.agg ⟨(Z00 s746)⟩), (.int .i64 (4))]) ?_
     refine hv0 11 S761 257 (.agg ⟨(Z00 s746)⟩) ?_
     refine hv0 12 S761 258 (.int .i64 (4)) ?_
     refine Z0R 14 fun Kq kq => ?_
     refine Z2N (Z00 s746) H760 16 ?_
     intro w763 H764
     have S766 := H764.pk [0, 1, 6, 8]
     refine kq _ _ S766 ?_
     clear kq Kq
     refine hv0 15 S766 39 (.int .i64 (4)) ?_
     refine zhf ?_
     have H767 := H764.pk [0, 1, 2, 3, 4, 5, 6, 7, 8, 9, 10, 11, 12, 13, 14, 15]
     refine Z02 ?_ ⟨rfl, H767⟩
     exact zs
    refine zda (Z0z) H649 ?_
    intro b768 w769 H770
    have S771 := H770.pk [0, 1, 6, 8]
    refine kq _ _ S771 ?_
    clear kq Kq
    refine Z0R 2 fun Kq kq => ?_
    obtain ⟨g773, c774, e775⟩ := Z0P (H770.at 9 rfl) (by omega)
    obtain ⟨x776, h777⟩ := Z2a (show g < P.length by omega)
    refine Z1S (d := 249) (v := (.pointer (some ⟨g773, 0 + ((g : Int)).toNat * 1, none⟩))) rfl (Z0I (E := 73) (by kernel_rfl) (by kernel_rfl) (Nat.le_of_ble_eq_true rfl) rfl e775 rfl (by omega) (by omega)) ?_
    have S778 := H770.pk [0, 1, 6, 8]
    refine kq _ _ S778 ?_
    clear kq Kq
    refine Z0R 3 fun Kq kq => ?_
    refine Z1S (d := 250) (v := (pt x776 0)) rfl (Za rfl (by kernel_rfl) (Z0X (H770.at 9 rfl) e775 Z1A h777 0 rfl (show 0 + ((g : Int)).toNat * 1 = g * 1 + 0 by omega) (by kernel_rfl))) ?_
    have S780 := H770.pk [0, 1, 6, 8]
    refine kq _ _ S780 ?_
    clear kq Kq
    refine Z0R 9 fun Kq kq => ?_
    obtain ⟨q782, y783, e784⟩ := hTs.get h777
    obtain ⟨r785, m786⟩ := hTs.got _ _ y783
    have H787 := H770.pk [10, 0, 1, 2, 3, 4, 5, 6, 7, 8, 9, 11, 12, 13, 14, 15, 16]
    have H788 : Sat w [Z1 x776 121 ([(.int .i64 (F)), (.int .i64 (3)), (.int .i64 (q782.rp)), (.map (some q782.tm))] : List Value), ZA q782.tm nmV ceV q782.M, Z1D (tbL F) (T.eraseIdx g), Z1 b6 36 ([(.int .i64 (F)), (.int .i64 (3))] : List Value), Z1 x13 40 ([(pt b_ 0), (pt r_ 0)] : List Value), Z1 b_ 110 ([(.map (some mb_))] : List Value), ZA mb_ Z7 (Value.int .i64) (Zh L1), Z1 r_ 98 ([(.slice ra Lr.length rc)] : List Value), Zd 114 2 (.slice ra Lr.length rc) Lr.length (Lr.flatMap Z1b), Z1 x15 53 (([(.int .i64 (X.x.cl)), (.int .i64 (X.x.seq))] : List Value) ++ hc X.x.h ++ ([(.int .i64 (X.x.len)), (.int .i64 (X.x.sb)), (.int .i64 (X.x.sm)), (.slice X.sa X.S.length X.sc)] : List Value)), ZL B, Z5 w (fun _ => False), Zd 73 1 (.slice pa P.length pc) P.length (P.flatMap Z0H), Z09 b205 4 N Hs, Z09 b419 4 N Rs, Z1 x36 34 ([(.int .i64 (rp)), (.int .i64 (0)), (.int .u64 (Z8 X.S + 3)), (.slice ca D.length cc), (.int .i64 (rp)), (.int .i64 (mk))] : List Value), Zd 53 38 (.slice ca D.length cc) D.length (D.flatMap Z01), ZL Bh, Z1 b768 31 (([(.int .i64 (0)), (.int .i64 (0)), (.int .i64 (0))] : List Value) ++ hc Zt ++ ([(.int .u64 (0)), (.int .i64 (0)), (.int .i64 (0))] : List Value))] w769 := by have q_ := Sat.famOut H787 y783; unfold tbL at q_; rw [e784] at q_; exact q_
    have hqr : 0 ≤ q782.rp ∧ q782.rp ≤ 1000000 := by omega
    rw [hno] at m786
    refine zdc 256 (Z1r w769 x776 q782.tm F 3 q782.rp q782.M B b_ mb_ L1 (H788.fn [0, 1, 10, 5, 6]) (m786.ceT hXT) (Nat.le_trans m786.len1 (by decide)) hqr hnb1 (by omega) (by omega) ((Z8 X.S) + 3) X ⟨hXT.x, hXT.S, hXT.len, hXB⟩) ?_
    rintro _ w789 ⟨s790, r791, M792, B793, L794, rfl, e795, z796, z797, d798, T799⟩
    have e800 : r791 = 4 := by rw [e795]; exact m786.late hRX1 (by omega)
    subst e800
    have H801 := H788.tl [Z1 x776 121 (Z0J F q782.rp q782.tm), ZA q782.tm nmV ceV M792, ZL B793, Z1 b_ 110 (Zy mb_), (Zz mb_ L794)] [0, 1, 10, 5, 6] [2, 3, 4, 7, 8, 9, 11, 12, 13, 14, 15, 16, 17, 18] T799 [0, 1, 5, 6, 7, 3, 4, 8, 9, 10, 2, 11, 12, 13, 14, 15, 16, 17, 18]
    have hsame : M792 = q782.M ∧ B793 = B := by
     rcases d798 with ⟨q1, q2, _⟩ | ⟨⟨q1, _⟩, _⟩
     ·exact ⟨q1, q2⟩
     cases q1
    have hLs : L794 = L1 := z797 (by decide)
    have H803 : Sat w [Z1D (tbL F) (T.set g (⟨q782.t, q782.tm, q782.rp, M792⟩ : TbR)), Z1 b6 36 (ZG F), Z1 x13 40 (ZF b_ r_), Z1 b_ 110 (Zy mb_), (Zz mb_ L794), Z1 r_ 98 (ZU ra Lr.length rc), (ZS ra Lr rc), Z1 x15 53 (ZK X), ZL B793, Z5 w (fun _ => False), Zd 73 1 (.slice pa P.length pc) P.length (P.flatMap Z0H), Z09 b205 4 N Hs, Z09 b419 4 N Rs, Z1 x36 34 (Z03 rp (Z8 X.S + 3) ca D.length cc mk), (Z0k ca D cc), ZL Bh, Z1 b768 31 (Z0z)] w789 := by
     have q_ := H801.pk [0, 1, 2, 3, 4, 5, 6, 7, 8, 9, 10, 11, 12, 13, 14, 15, 16, 17, 18]
     refine Sat.famIn (q := ⟨q782.t, q782.tm, q782.rp, M792⟩) ?_ (List.getElem?_eq_some_iff.1 y783).1
     unfold tbL
     rw [e784]
     exact q_
    have H802 : Sat w [Z1D (tbL F) T, Z1 b6 36 ([(.int .i64 (F)), (.int .i64 (3))] : List Value), Z1 x13 40 ([(pt b_ 0), (pt r_ 0)] : List Value), Z1 b_ 110 ([(.map (some mb_))] : List Value), ZA mb_ Z7 (Value.int .i64) (Zh L1), Z1 r_ 98 ([(.slice ra Lr.length rc)] : List Value), Zd 114 2 (.slice ra Lr.length rc) Lr.length (Lr.flatMap Z1b), Z1 x15 53 (([(.int .i64 (X.x.cl)), (.int .i64 (X.x.seq))] : List Value) ++ hc X.x.h ++ ([(.int .i64 (X.x.len)), (.int .i64 (X.x.sb)), (.int .i64 (X.x.sm)), (.slice X.sa X.S.length X.sc)] : List Value)), ZL B, Z5 w (fun _ => False), Zd 73 1 (.slice pa P.length pc) P.length (P.flatMap Z0H), Z09 b205 4 N Hs, Z09 b419 4 N Rs, Z1 x36 34 ([(.int .i64 (rp)), (.int .i64 (0)), (.int .u64 (Z8 X.S + 3)), (.slice ca D.length cc), (.int .i64 (rp)), (.int .i64 (mk))] : List Value), Zd 53 38 (.slice ca D.length cc) D.length (D.flatMap Z01), ZL Bh, Z1 b768 31 (([(.int .i64 (0)), (.int .i64 (0)), (.int .i64 (0))] : List Value) ++ hc Zt ++ ([(.int .u64 (0)), (.int .i64 (0)), (.int .i64 (0))] : List Value))] w789 := by have q_ := H803; rw [hsame.1, hsame.2, hLs, Z2f y783] at q_; exact q_
    have H804 := H802.pk [1, 2, 3, 4, 5, 6, 7, 8, 9, 10, 0, 11, 12, 13, 14, 15, 16]
    refine ⟨_, rfl, ?_⟩
    have S805 := H804.pk [0, 1, 6, 8]
    refine kq _ _ S805 ?_
    clear kq Kq
    refine hv0 10 S805 246 (.tuple #[(.agg ⟨(Z00 s790)⟩), (.int .i64 (4))]) ?_
    refine hv0 11 S805 257 (.agg ⟨(Z00 s790)⟩) ?_
    refine hv0 12 S805 258 (.int .i64 (4)) ?_
    refine Z0R 14 fun Kq kq => ?_
    refine Z2N (Z00 s790) H804 16 ?_
    intro w807 H808
    have S810 := H808.pk [0, 1, 6, 8]
    refine kq _ _ S810 ?_
    clear kq Kq
    refine hv0 15 S810 39 (.int .i64 (4)) ?_
    refine zhf ?_
    have H811 := H808.pk [0, 1, 2, 3, 4, 5, 6, 7, 8, 9, 10, 11, 12, 13, 14, 15]
    refine Z02 ?_ ⟨rfl, H811⟩
    exact zs
   rintro f812 w813 ⟨v815, H814⟩
   refine Zj 39 _ v815 ?_
   apply zsl
   refine wv 259 (.int .i64 (4)) ?_
   refine wv 260 (.bool false) ?_
   apply znt
   refine Z0r rfl ?_
   apply ZZ
   apply ZE
   apply ztn
   apply Zl
   refine wv 191 (.int .i64 ((g : Int))) ?_
   refine zwi 192 ((g : Int) + 1) ?_
   refine wv 35 (.int .i64 ((g : Int) + 1)) ?_
   apply Zi
   have H816 := H814.pk [0, 1, 2, 3, 4, 5, 6, 7, 8, 9, 10, 11, 12]
   refine ZH ?_ _ ⟨(g + 1), L1, (fd || Hs.getD g false), rfl, rfl, (by omega), hnb1, (by omega), hRX1, (Z5X hfd hqg), H816, rfl⟩ (by omega)
   exact zs
  refine Z3h _ b641 ?_
  apply ZZ
  apply ZE
  apply ztn
  apply Zl
  refine wv 191 (.int .i64 ((g : Int))) ?_
  refine zwi 192 ((g : Int) + 1) ?_
  refine wv 35 (.int .i64 ((g : Int) + 1)) ?_
  apply Zi
  have H817 := H639.pk [0, 1, 2, 3, 4, 5, 6, 7, 8, 9, 10, 11, 12]
  refine ZH ?_ _ ⟨(g + 1), L1, (fd || Hs.getD g false), rfl, rfl, (by omega), hnb1, (by omega), hRX1, (Z5X hfd hqg), H817, rfl⟩ (by omega)
  exact zs
 have g818 := of_decide_eq_false b486
 refine Z3h _ b486 ?_
 apply zxb
 apply ztn
 apply Zb
 have hfin : ¬ ((Hs.take c).count true : Int) < F + 1 → fd = true := fun q0 => by
  have hcN : c = N := by omega
  rw [hcN, Z79 hout (by omega) (by omega)] at q0
  have hgG : g = Gd := by omega
  obtain ⟨z, z1, z2, z3⟩ := Z88 (Rs.take Gd) (Hs.take Gd) (by simp only [List.length_take]; omega) (by simp only [List.length_take]; omega)
  rw [List.length_take] at z1
  exact hfd.2 ⟨z, by omega, Z5z (by omega) z2, Z5z (by omega) z3⟩
 apply Zl
 refine wv 261 (.int .i64 (((Hs.take c).count true : Int))) ?_
 refine wv 262 (pt b6 0) ?_
 refine zw1 263 (.int .i64 (F)) (H482.cell 0 rfl rfl) ?_
 refine zwi 264 (F + 1) ?_
 refine wv 265 (.bool (decide (((Hs.take c).count true : Int) < (F + 1)))) ?_
 refine wv 266 (.bool (decide (((Hs.take c).count true : Int) < (F + 1)))) ?_
 refine (ZD (decide (((Hs.take c).count true : Int) < (F + 1)))).elim (fun b820 => ?_) (fun b820 => ?_)
 ·have g821 := of_decide_eq_true b820
  refine ZV 266 (.bool true) (congrArg Value.bool b820) ?_
  refine wn 5 266 false ?_
  refine wv 268 (.bool true) ?_
  refine wv 269 (.bool true) ?_
  refine ZQ (Zu 8 269 true rfl (by kernel_rfl) rfl (by kernel_rfl)) (fun Kq kq => ?_)
  refine zdq 270 (Z4j w481) H482 ?_
  intro w824 H825
  refine kq _ _ ?_
  clear kq Kq
  refine wv 271 (.bool true) ?_
  refine wv 10 (.bool true) ?_
  apply znt
  apply ZY
  refine ze1 (.bool true) ?_
  exact ⟨rfl, H825.upd 8 rfl [] (fun _ h => h.elim)⟩
 have g827 := of_decide_eq_false b820
 refine ZV 266 (.bool false) (congrArg Value.bool b820) ?_
 refine wy 5 266 false 267 (.bool (fd)) ?_
 refine wv 268 (.bool (fd)) ?_
 refine wv 269 (.bool (fd)) ?_
 have b829 : (fd) = true := by exact hfin (by omega)
 refine ZV 269 (.bool true) (congrArg Value.bool b829) ?_
 refine ZQ (Zu 8 269 true rfl (by kernel_rfl) rfl (by kernel_rfl)) (fun Kq kq => ?_)
 refine zdq 270 (Z4j w481) H482 ?_
 intro w831 H832
 refine kq _ _ ?_
 clear kq Kq
 refine wv 271 (.bool true) ?_
 refine wv 10 (.bool true) ?_
 apply znt
 apply ZY
 refine ze1 (.bool true) ?_
 exact ⟨rfl, H832.upd 8 rfl [] (fun _ h => h.elim)⟩
end Go.Proofs.YtoaifondpohniaaGreat
