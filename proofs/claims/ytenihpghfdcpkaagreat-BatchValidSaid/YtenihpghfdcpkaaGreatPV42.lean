/- WHAT IS PROVED: contracts and plain laws of Valid12. Conditions: stated with each. -/
import Derived.Test.YtenihpghfdcpkaaGreatPV02
import Derived.Test.YtenihpghfdcpkaaGreatPV05
import Derived.Test.YtenihpghfdcpkaaGreatPV29
import Derived.Test.YtenihpghfdcpkaaGreatPV30
import Derived.Test.YtenihpghfdcpkaaGreatPV31
import Derived.Test.YtenihpghfdcpkaaGreatPV32
import Derived.Test.YtenihpghfdcpkaaGreatPV33
import Derived.Test.YtenihpghfdcpkaaGreatPV40
import Derived.Test.YtenihpghfdcpkaaGreatPV41
set_option maxHeartbeats 4000000
set_option maxRecDepth 100000
namespace Go.Proofs.YtenihpghfdcpkaaGreat
open Go.RowKit
abbrev ZF (p0 : Option Addr) (p1 : Nat) (p2 : Nat) (p3 : Option Addr) (p4 : Nat) (p5 : Nat) (p6 : Option Addr) (p7 : Nat) (p8 : Nat) (p9 : Int) (p10 : Option Addr) (p11 : Nat) (p12 : Nat) (p13 : Option Addr) (p14 : Nat) (p15 : Nat) (p16 : Int) (p17 : Option Addr) (p18 : Nat) (p19 : Nat) (p20 : Int) : List Value := ([(.slice p0 p1 p2), (.slice p3 p4 p5), (.slice p6 p7 p8), u6 p9, (.slice p10 p11 p12), (.slice p13 p14 p15), i6 p16, (.slice p17 p18 p19), u6 p20] : LV)
abbrev ZJ (p0 : Nat) (p1 : List Signed) : Ck := Z2S p0 Z0c (Value.int .i64) (Z0o p1)
abbrev ZI (p0 : Option Addr) (p1 : List NmD) (p2 : Nat) : Ck := Zo 59 2 (.slice p0 p1.length p2) p1.length (p1.flatMap Z2n)
abbrev ZK (p0 : Option Addr) (p1 : List Z1g) (p2 : Nat) : Ck := Zo 102 36 (.slice p0 p1.length p2) p1.length (p1.flatMap Z39)
abbrev ZN (p0 : Nat) : List Value := ([(.map (some p0))] : LV)
abbrev ZC (p0 : Int) (p1 : Nat) (p2 : Nat) (p3 : Int) (p4 : Option Addr) (p5 : Nat) (p6 : Nat) (p7 : Option Addr) (p8 : Nat) (p9 : Nat) : List Value := ([i6 p0, i6 3, (pt p1 0), (pt p2 0), i6 p0, i6 3, i6 4, u6 p3, (.slice p4 p5 p6), (.slice p7 p8 p9)] : LV)
abbrev Z7C : List Value := ([i6 0, i6 0, (.pointer none), (.pointer none), i6 0, i6 0, i6 0, u6 0, (.slice none 0 0), (.slice none 0 0)] : LV)
abbrev ZD (p0 : Option Addr) (p1 : Nat) (p2 : Nat) : List Value := ([(.slice p0 p1 p2)] : LV)
abbrev ZO (p0 : Option Addr) (p1 : List Signed) (p2 : Nat) : Ck := Zo 181 2 (.slice p0 p1.length p2) p1.length (p1.flatMap Z47)
abbrev Zi (p0 : Option Addr) (p1 : List PrR) (p2 : Nat) : Ck := Zo 71 6 (.slice p0 p1.length p2) p1.length (p1.flatMap Z0T)
abbrev Zd (p0 : Option Addr) (p1 : List OpR) (p2 : Nat) : Ck := Zo 86 34 (.slice p0 p1.length p2) p1.length (p1.flatMap Z0J)
abbrev Ze (p0 : Option Addr) (p1 : List TbR) (p2 : Nat) : Ck := Zo 89 2 (.slice p0 p1.length p2) p1.length (p1.flatMap Z16)
abbrev Z4X (p0 : Int) (p1 : Int) (p2 : Option Addr) (p3 : Nat) (p4 : Nat) (p5 : Option Addr) (p6 : Nat) (p7 : Nat) : List Value := ([i6 p0, i6 3, i6 4, u6 p1, (.slice p2 p3 p4), (.slice p5 p6 p7)] : LV)
abbrev Z0x (p0 : Int) (p1 : Option Addr) (p2 : Nat) (p3 : Nat) (p4 : Option Addr) (p5 : Nat) (p6 : Nat) (p7 : Option Addr) (p8 : Nat) (p9 : Nat) : List Value := ([i6 4, u6 p0, (.slice p1 p2 p3), (.slice p4 p5 p6), (.slice p7 p8 p9)] : LV)
abbrev Za0 : List Value := ([i6 0, u6 0, (.slice none 0 0), (.slice none 0 0), (.slice none 0 0)] : LV)
abbrev Z3h (p0 : Int) (p1 : Int) (p2 : Option Addr) (p3 : Nat) (p4 : Nat) (p5 : Option Addr) (p6 : Nat) (p7 : Nat) (p8 : Option Addr) (p9 : Nat) (p10 : Nat) : List Value := ([i6 p0, u6 p1, (.slice p2 p3 p4), (.slice p5 p6 p7), (.slice p8 p9 p10)] : LV)
abbrev Z0X (p0 : Int) (p1 : Nat) (p2 : Nat) (p3 : Nat) (p4 : Option Addr) (p5 : Nat) (p6 : Nat) (p7 : Option Addr) (p8 : Nat) (p9 : Nat) : List Value := ([i6 4, u6 p0, (.slice (some ⟨p1, 0, none⟩) p2 p3), (.slice p4 p5 p6), (.slice p7 p8 p9)] : LV)
abbrev Z1W (p0 : PrR) : List Value := ([i6 p0.r, i6 p0.e, u6 p0.f, (.slice p0.ca p0.C.length p0.cc), i6 p0.sb, i6 p0.sm] : LV)
abbrev Z3j (p0 : Int) (p1 : Option Addr) (p2 : Nat) (p3 : Nat) (p4 : Nat) (p5 : Nat) (p6 : Nat) (p7 : Option Addr) (p8 : Nat) (p9 : Nat) : List Value := ([i6 4, u6 p0, (.slice p1 p2 p3), (.slice (some ⟨p4, 0, none⟩) p5 p6), (.slice p7 p8 p9)] : LV)
abbrev Z3d : List Value := ([i6 1, (.slice none 0 0)] : LV) ++ hc Zz
abbrev Z0L (p0 : Int) (p1 : Option Addr) (p2 : Nat) (p3 : Nat) (p4 : Option Addr) (p5 : Nat) (p6 : Nat) (p7 : Nat) (p8 : Nat) (p9 : Nat) : List Value := ([i6 4, u6 p0, (.slice p1 p2 p3), (.slice p4 p5 p6), (.slice (some ⟨p7, 0, none⟩) p8 p9)] : LV)
abbrev Z38 (p0 : Int) (p1 : Nat) : List Value := ([i6 p0, (.slice (some ⟨p1, 0, none⟩) 1 1)] : LV) ++ hc Zz
abbrev Z3Z (p0 : TbR) (p1 : Nat) : List Value := ([i6 p0.i, (.slice p0.da p1 p0.dc)] : LV)
theorem Zb6 {L : List Z1s} {i : Nat} (h : i < L.length) : L.getD i Z0F ∈ L := by
 rw [List.getD_eq_getElem?_getD, List.getElem?_eq_getElem h]; exact List.getElem_mem h
theorem PrV.prw {F la tm : Int} {LB : List Signed} {p : PrR} {w : World} (h : PrV F la tm LB p) (ho : PrOk w p) (htm : la < tm ∧ tm ≤ la + 60) (hla : 0 ≤ la ∧ la < 20) (hF : 1 ≤ F ∧ F ≤ 2) : PrW w p :=
 ⟨ho.1, fun i hi => ⟨(h.ce _ (Z23 hi)).x, ho.2 _ (Z23 hi), (h.ce _ (Z23 hi)).S, Nat.le_trans (h.ce _ (Z23 hi)).len (by decide)⟩, fun i hi => (h.ce _ (Z23 hi)).len, Nat.le_trans h.len (by decide), by have := h.r; have := h.e; have := h.f; omega⟩
theorem PrK.prok {p : PrR} {w : World} (h : PrK w p) : PrOk w p := ⟨h.at_, fun c hc => by
 obtain ⟨i, hi, e⟩ := List.mem_iff_getElem.1 hc
 have q := h.st i hi
 rw [List.getD_eq_getElem?_getD, List.getElem?_eq_getElem hi, Option.getD_some, e] at q
 exact ListAt.row Z3H (by decide) q⟩
theorem TbW.now {w w0 w' : World} {G : List Ck} {t : TbR} (h : TbW w t) (H : Sat w0 G w') (j : Nat) (hj : G[j]? = some (ZQ w fun _ => False)) : TbW w' t := ⟨ListAt.now H j hj h.D, h.ok, h.len⟩
section
variable {α : Type} {num : α → Int} {may : α → Bool} {L D : List α} {G : α → Prop} {x : α} {i : Nat}
theorem Z9d : ∀ (L D : List α), ((D ++ L).Pairwise fun a b => num a < num b) → (∀ x ∈ L, may x = true) → L.foldl (Z5z num may) D = D ++ L
 | [], D, _, _ => by simp
 | x :: L, D, hp, hm => by
  have h1 : Z7i num D (num x) = false := by
   unfold Z7i
   rw [List.any_eq_false]
   intro o ho
   have := (List.pairwise_append.1 hp).2.2 o ho x List.mem_cons_self
   simp; omega
  rw [List.foldl_cons, Zbw h1 (hm x List.mem_cons_self), Z9d L (D ++ [x]) (by simpa using hp) fun y hy => hm y (List.mem_cons_of_mem _ hy)]
  simp
theorem Z7R (h : ∀ y ∈ L, G y) (k : ∀ y ∈ D, G y) : ∀ y ∈ L ++ D, G y := fun y hy => (List.mem_append.1 hy).elim (h y) (k y)
theorem ZbT (h : G x) : ∀ y ∈ [x], G y := fun y hy => by rw [List.mem_singleton.1 hy]; exact h
theorem ZdE (h : ∀ y ∈ L, G y) : ∀ y ∈ L.drop 1, G y := fun y hy => h y (List.mem_of_mem_drop hy)
theorem Z4r (h : ∀ y ∈ L, G y) (k : G x) : ∀ y ∈ L.set i x, G y := fun y hy => (List.mem_or_eq_of_mem_set hy).elim (h y) fun e => e ▸ k
end
section
variable {F la tm : Int} {LB : List Signed} {B : List Ck} {PS : List PrR} {OS : List OpR} {TS : List TbR} {OO : List Z1g} {p : PrR} {o : OpR} {t : TbR} {n : Nat} {w w0 w' : World}
theorem Zcw (hn : (n : Int) = 3 * F + 1) (h : PsF F la tm LB B PS) : Z5E PS 4 tm n = PS := by
 refine Zd8 (F := F) hn ⟨?_, h.up⟩
 unfold Z2f
 rw [Z9d (num := fun x : PrR => x.r) (may := Z9n F 4 tm) PS [] (by simpa using h.up) fun x hx => (h.all x hx).may]
 exact List.Perm.refl _
theorem ZeJ (h : o ∈ Zbp OS OO) : o ∈ OS := by
 obtain ⟨s, _, h⟩ := List.mem_filterMap.1 h
 exact List.mem_of_find?_eq_some h
theorem Zf3 (h : t ∈ Zcb OS TS OO) : t ∈ TS := by
 obtain ⟨s, _, h⟩ := List.mem_filterMap.1 h
 unfold tbG at h
 split at h
 ·cases h
 exact List.mem_of_find?_eq_some h
theorem ZeC : (Zbp OS OO).length ≤ OO.length := List.length_filterMap_le ..
theorem Zez : (Zcb OS TS OO).length ≤ OO.length := List.length_filterMap_le ..
theorem Zbm : ∀ i, i < (Zq 3).length → ((Zq 3).getD i Z0i).cl ≤ 9223372036854775807 ∧ ((Zq 3).getD i Z0i).sq ≤ 9223372036854775807 := fun i hi => by
 rw [Z36] at hi
 have e : (Zq 3).getD i Z0i = Z1B i := by
  have : i = 0 ∨ i = 1 ∨ i = 2 := by omega
  rcases this with rfl | rfl | rfl <;> rfl
 rw [e]
 exact ⟨by show (i : Int) ≤ _; omega, by show (50 : Int) ≤ _; decide⟩
theorem Zbx : SpM (Zq 3) (Z3l (Zq 3)) := fun ix => by
 have e : Z3l (Zq 3) = Z30 (Z30 (Z30 [] 0 (spE (Z1B 0))) 2 (spE (Z1B 1))) 4 (spE (Z1B 2)) := rfl
 have f : Zq 3 = [Z1B 0, Z1B 1, Z1B 2] := rfl
 rw [e, f, List.find?_cons, List.find?_cons, List.find?_cons, List.find?_nil]
 have i0 : (Z1B 0).i = 0 := rfl
 have i1 : (Z1B 1).i = 2 := rfl
 have i2 : (Z1B 2).i = 4 := rfl
 rw [i0, i1, i2]
 by_cases h4 : ix = 4
 ·subst h4; rw [Z2x]; rfl
 rw [Z2b _ _ _ _ h4]
 by_cases h2 : ix = 2
 ·subst h2; rw [Z2x]; rfl
 rw [Z2b _ _ _ _ h2]
 by_cases h0 : ix = 0
 ·subst h0; rw [Z2x]; rfl
 rw [Z2b _ _ _ _ h0, decide_eq_false (Ne.symm h4), decide_eq_false (Ne.symm h2), decide_eq_false (Ne.symm h0)]; rfl
theorem PrG.prw (h : PrG F la tm LB B p) (hb : (Z0G B).ok w) (htm : la < tm ∧ tm ≤ la + 60) (hla : 0 ≤ la ∧ la < 20) (hF : 1 ≤ F ∧ F ≤ 2) : PrW w p :=
 h.val.prw (h.prk hb).prok htm hla hF
theorem PrW.mark {m : Int} (h : PrW w p) : PrW w ⟨p.r, p.e, p.f, p.ca, p.cc, p.sb, m, p.C⟩ := ⟨h.C, h.B, h.l12, h.len, h.lim⟩
theorem PrG.smb (h : PrG F la tm LB B p) : p.sm ≤ (LB.length : Int) ∧ 0 ≤ p.sm := by
 have q := h.sm
 have hm := Z7B q
 unfold Z0B at q
 have e := of_decide_eq_true q
 have := Z1M hm
 omega
theorem TbG.tbw (h : TbG F LB B t) (hb : (Z0G B).ok w) : TbW w t := ⟨ListAt.row ZbU (by decide) (show (tbC t).ok w from hb _ h.inn), fun i hi => h.ok _ (Zb6 hi), Nat.le_trans h.len (by decide)⟩
theorem TbG.pos (h : TbG F LB B t) (hF : 1 ≤ F) : 1 ≤ t.D.length := by
 have q := h.rt
 unfold Z0j at q
 rw [Bool.and_eq_true] at q
 have := of_decide_eq_true q.2
 omega
theorem TbW.num {i : Int} (h : TbW w t) : TbW w ⟨i, t.da, t.dc, t.D⟩ := ⟨h.D, h.ok, h.len⟩
theorem TbW.drop {a : Option Addr} {c : Nat} (h : TbW w t) (hd : ListAt Z4v 4 w (.slice a (t.D.drop 1).length c) (t.D.drop 1)) : TbW w ⟨t.i, a, c, t.D.drop 1⟩ :=
 ⟨hd, fun i hi => by
  have hi' : i + 1 < t.D.length := by simp only [List.length_drop] at hi; omega
  have := h.ok (i + 1) hi'
  show ZcP ((t.D.drop 1).getD i Z0F)
  rw [List.getD_eq_getElem?_getD, List.getElem?_drop, Nat.add_comm 1 i, ← List.getD_eq_getElem?_getD]; exact this,
 by show (t.D.drop 1).length ≤ _; rw [List.length_drop]; have := h.len; omega⟩
end
theorem Z8E (w : World) (na ta ha oa ba lla : Option Addr) (nc tc hc_ oc bc llc : Nat) (N LL : List NmD) (TT : List TmR) (HH OO BB : List Int) (ptm psk pl : Int) (hN : ListAt Z2n 2 w (.slice na N.length nc) N) (hTT : ListAt ZbW 1 w (.slice ta TT.length tc) TT) (hHH : ListAt ZbZ 1 w (.slice ha HH.length hc_) HH) (hOO : ListAt ZbZ 1 w (.slice oa OO.length oc) OO) (hBB : ListAt ZbZ 1 w (.slice ba BB.length bc) BB) (hLL : ListAt Z2n 2 w (.slice lla LL.length llc) LL) (htt : ∀ x ∈ TT, TmOk w x) (hptm : 0 ≤ ptm ∧ ptm ≤ 18446744073709551615) (hpl : 0 ≤ pl ∧ pl ≤ 18446744073709551615) (f what at_ bz : Int) (hbz : 0 ≤ bz ∧ bz ≤ 18446744073709551615) :
  Calls Tryz.prog 7 #[(.agg ⟨([(.slice na N.length nc), (.slice ta TT.length tc), (.slice ha HH.length hc_), u6 ptm, (.slice oa OO.length oc), (.slice ba BB.length bc), i6 psk, (.slice lla LL.length llc), u6 pl] : LV)⟩), i6 f, i6 what, i6 at_, u6 bz] w fun e w' => e = .returned (.bool true) ∧ Upd [] w w' := by
 have hwf := Z1k f 2 om
 have H := Sat.start0 w
 refine Zg Tryz.func7 rfl 283 rfl kn ?_
 refine zsl <| zy <| zdb (ZF na N.length nc ta TT.length tc ha HH.length hc_ ptm oa OO.length oc ba BB.length bc psk lla LL.length llc pl) H fun b2 w3 H4 => ?_
 refine kk <| wv 10 (.bool false) <| Z1a <| zwN 29 (ZF na N.length nc ta TT.length tc ha HH.length hc_ ptm oa OO.length oc ba BB.length bc psk lla LL.length llc pl) (H4.at 1 rfl) <| wv 30 (vi f) <| zy <| zdc 31 (ZbP w3 (.slice na N.length nc) (.slice ta TT.length tc) (.slice ha HH.length hc_) (.slice oa OO.length oc) (.slice ba BB.length bc) ptm psk pl (by first | decide | omega) lla llc LL ((ListAt.now H4 0 rfl hLL)) f) ?_
 rintro _ w6 ⟨b7, m8, r9, a10, c11, a12, c13, rfl, k14, p15, q16⟩
 have H17 : Sat w [zR w, Z0 b2 27 (ZF na N.length nc ta TT.length tc ha HH.length hc_ ptm oa OO.length oc ba BB.length bc psk lla LL.length llc pl), Z0h [Z0 b7 179 [.map (some m8)], (ZJ m8 ([])), Z0 r9 165 [.slice none 0 0], (ZI a10 (Z1C 3 ++ (LL.take 3).map Z21) c11), (ZK a12 (Zq 3) c13)]] w6 := H4.addU p15 k14 q16
 have H18 := H17.open 2 rfl
 refine ⟨_, rfl, ?_⟩
 refine kk <| wv 28 (.tuple #[(.agg ⟨(ZC (1 + Z1 f 2) b7 r9 (pl % 20) a10 ((Z1C 3 ++ (LL.take 3).map Z21).length) c11 a12 ((Zq 3).length) c13)⟩), (.bool true)]) <| wv 32 (.agg ⟨(ZC (1 + Z1 f 2) b7 r9 (pl % 20) a10 ((Z1C 3 ++ (LL.take 3).map Z21).length) c11 a12 ((Zq 3).length) c13)⟩) <| wv 33 (.bool true) <| zy <| zda (Z7C) H18 ?_
 intro b20 w21 (H22 : Sat w [zR w, Z0 b2 27 (ZF na N.length nc ta TT.length tc ha HH.length hc_ ptm oa OO.length oc ba BB.length bc psk lla LL.length llc pl), Z0 b7 179 (ZN m8), (ZJ m8 (([] : List Signed))), Z0 r9 165 ([(.slice none 0 0)] : LV), (ZI a10 (Z1C 3 ++ (LL.take 3).map Z21) c11), (ZK a12 (Zq 3) c13), Z0 b20 38 (Z7C)] w21)
 refine kk <| zy <| Z1S (ZC (1 + Z1 f 2) b7 r9 (pl % 20) a10 ((Z1C 3 ++ (LL.take 3).map Z21).length) c11 a12 ((Zq 3).length) c13) H22 7 fun w24 H25 => ?_
 refine kk <| wv 12 (.bool true) <| znt <| Z9 <| Z9 ?_
 obtain ⟨F, hFe⟩ : ∃ F, F = 1 + Z1 f 2 := ⟨_, rfl⟩
 have hF : 1 ≤ F ∧ F ≤ 2 := by omega
 obtain ⟨la, hlae⟩ : ∃ la, la = pl % 20 := ⟨_, rfl⟩
 have hla2 : 0 ≤ la ∧ la < 20 := by omega
 obtain ⟨tm, htm⟩ : ∃ tm, tm = la + 1 + ptm % 60 := ⟨_, rfl⟩
 have htm2 : la < tm ∧ tm ≤ la + 60 := by omega
 have H27 : Sat w [zR w, Z0 b2 27 ([(.slice na N.length nc), (.slice ta TT.length tc), (.slice ha HH.length hc_), (vu ptm), (.slice oa OO.length oc), (.slice ba BB.length bc), (vi psk), (.slice lla LL.length llc), (vu pl)] : LV), Z0 b7 179 ([(.map (some m8))] : LV), Z2S m8 Z0c (Value.int .i64) (Z0o ([] : List Signed)), Z0 r9 165 ([(.slice none 0 0)] : LV), Zo 59 2 (.slice a10 ((Z1C 3 ++ (LL.take 3).map Z21).length) c11) ((Z1C 3 ++ (LL.take 3).map Z21).length) ((Z1C 3 ++ (LL.take 3).map Z21).flatMap Z2n), Zo 102 36 (.slice a12 ((Zq 3).length) c13) ((Zq 3).length) ((Zq 3).flatMap Z39), Z0 b20 38 ([(vi F), (vi 3), (pt b7 0), (pt r9 0), (vi F), (vi 3), (vi 4), (vu la), (.slice a10 ((Z1C 3 ++ (LL.take 3).map Z21).length) c11), (.slice a12 ((Zq 3).length) c13)] : LV)] w24 := by rw [hFe, hlae]; exact H25
 obtain ⟨LG, hLG⟩ : ∃ LG : List NmD, LG = (Z1C 3 ++ (LL.take 3).map Z21) := ⟨_, rfl⟩
 have lgl : LG.length ≤ 6 := by rw [hLG, List.length_append, Z5H, List.length_map, List.length_take]; omega
 have H28 : Sat w [zR w, Z0 b2 27 ([(.slice na N.length nc), (.slice ta TT.length tc), (.slice ha HH.length hc_), (vu ptm), (.slice oa OO.length oc), (.slice ba BB.length bc), (vi psk), (.slice lla LL.length llc), (vu pl)] : LV), Z0 b7 179 ([(.map (some m8))] : LV), Z2S m8 Z0c (Value.int .i64) (Z0o ([] : List Signed)), Z0 r9 165 ([(.slice none 0 0)] : LV), Zo 59 2 (.slice a10 LG.length c11) LG.length (LG.flatMap Z2n), Zo 102 36 (.slice a12 ((Zq 3).length) c13) ((Zq 3).length) ((Zq 3).flatMap Z39), Z0 b20 38 ([(vi F), (vi 3), (pt b7 0), (pt r9 0), (vi F), (vi 3), (vi 4), (vu la), (.slice a10 LG.length c11), (.slice a12 ((Zq 3).length) c13)] : LV)] w24 := by rw [hLG]; exact H27
 refine ZG <| wv 34 (.bool true) <| wv 35 (.bool false) <| znt <| Z2h rfl ?_
 refine Zp <| ztn <| zsl <| zwN 37 (ZC F b7 r9 la a10 LG.length c11 a12 ((Zq 3).length) c13) (H28.at 7 rfl) <| zwN 38 (ZF na N.length nc ta TT.length tc ha HH.length hc_ ptm oa OO.length oc ba BB.length bc psk lla LL.length llc pl) (H28.at 1 rfl) <| zy ?_
 have H30 := H28.addNil 181 2
 refine zdc 39 (Zbc w24 F la hF hla2 b7 m8 r9 none 0 [] (H30.fn [2, 3, 4, 8]) List.nodup_nil (by decide) (.slice a10 LG.length c11) (.slice a12 ((Zq 3).length) c13) (.slice lla LL.length llc) ptm psk pl hptm na nc N (ListAt.now H30 0 rfl hN) (Z3I Z8B (by decide) H30 [2, 3, 4, 8] 0 rfl rfl (by decide) hN) ta tc TT (ListAt.now H30 0 rfl hTT) (Z3I ZbD (by decide) H30 [2, 3, 4, 8] 0 rfl rfl (by decide) hTT) ha hc_ HH (ListAt.now H30 0 rfl hHH) (Z3I Z7L (by decide) H30 [2, 3, 4, 8] 0 rfl rfl (by decide) hHH) oa oc OO (ListAt.now H30 0 rfl hOO) (Z3I Z7L (by decide) H30 [2, 3, 4, 8] 0 rfl rfl (by decide) hOO) ba bc BB (ListAt.now H30 0 rfl hBB) (Z3I Z7L (by decide) H30 [2, 3, 4, 8] 0 rfl rfl (by decide) hBB) (fun x hx => ⟨ListAt.now H30 0 rfl (htt x hx).1, (htt x hx).2⟩) (fun x hx => (Z3I Z2j (by decide) H30 [2, 3, 4, 8] 0 rfl rfl (by decide) (htt x hx).1))) ?_
 rintro _ w31 ⟨a32, c33, PS34, a35, c36, OS37, a38, c39, TS40, a41, c42, LB43, BG44, rfl, hps45, hos46, l47, hts48, l49, hnd50, l51, p52, T53⟩
 rw [← htm] at hps45 ⊢
 have H54 : Sat w [zR w, Z0 b2 27 (ZF na N.length nc ta TT.length tc ha HH.length hc_ ptm oa OO.length oc ba BB.length bc psk lla LL.length llc pl), Z0 b7 179 (ZN m8), (ZJ m8 LB43), Z0 r9 165 (ZD a41 LB43.length c42), (ZI a10 LG c11), (ZK a12 (Zq 3) c13), Z0 b20 38 (ZC F b7 r9 la a10 LG.length c11 a12 ((Zq 3).length) c13), (ZO a41 LB43 c42), (Zi a32 PS34 c33), (Zd a35 OS37 c36), (Ze a38 TS40 c39), Z0G BG44] w31 := (Sat.turnL (L' := [Z0 b7 179 (ZN m8), (ZJ m8 LB43), Z0 r9 165 (ZD a41 LB43.length c42), (ZO a41 LB43 c42), (Zi a32 PS34 c33), (Zd a35 OS37 c36), (Ze a38 TS40 c39), Z0G BG44]) (R := [zR w, Z0 b2 27 (ZF na N.length nc ta TT.length tc ha HH.length hc_ ptm oa OO.length oc ba BB.length bc psk lla LL.length llc pl), (ZI a10 LG c11), (ZK a12 (Zq 3) c13), Z0 b20 38 (ZC F b7 r9 la a10 LG.length c11 a12 ((Zq 3).length) c13)]) H30 [2, 3, 4, 8] [0, 1, 5, 6, 7] (by decide) kr rfl T53).pk [8, 9, 0, 1, 2, 10, 11, 12, 3, 4, 5, 6, 7]
 refine ⟨_, rfl, ?_⟩
 have hPSl := hps45.len hF.1
 refine kk <| wv 36 (.tuple #[(vu tm), (.slice a32 PS34.length c33), (.slice a35 OS37.length c36), (.slice a38 TS40.length c39)]) <| wv 40 (vu tm) <| wv 41 (.slice a32 PS34.length c33) <| wv 42 (.slice a35 OS37.length c36) <| wv 43 (.slice a38 TS40.length c39) <| wv 13 (vu tm) <| wv 14 (.slice a32 PS34.length c33) <| wv 15 (.slice a35 OS37.length c36) <| wv 16 (.slice a38 TS40.length c39) ?_
 refine Z1a <| wv 45 (pt b20 4) <| zwN 46 (Z4X F la a10 LG.length c11 a12 ((Zq 3).length) c13) (H54.at 7 rfl) <| wv 47 (vu tm) <| wv 48 (.slice a32 PS34.length c33) <| wv 49 (.slice a35 OS37.length c36) <| wv 50 (.slice a38 TS40.length c39) <| zy ?_
 obtain ⟨nn, hnn⟩ : ∃ n : Nat, (n : Int) = 3 * F + 1 := ⟨(3 * F + 1).toNat, by omega⟩
 obtain ⟨Q, hQ⟩ : ∃ Q : Nat, (Q : Int) = 2 * F + 1 := ⟨(2 * F + 1).toNat, by omega⟩
 obtain ⟨PD, hPD⟩ : ∃ PD, PD = (Z5E PS34 4 tm nn).take Q := ⟨_, rfl⟩
 obtain ⟨OD, hOD⟩ : ∃ OD, OD = Zbp OS37 (Zq 3) := ⟨_, rfl⟩
 obtain ⟨TD, hTD⟩ : ∃ TD, TD = Zcb OS37 TS40 (Zq 3) := ⟨_, rfl⟩
 have hmk := Zca w31 F 3 4 la tm ⟨hF.1, by omega⟩ nn Q hnn hQ (.slice a10 LG.length c11) a12 c13 (Zq 3) (ListAt.row (enc := Z39) (sz := 36) Z8z (by decide) (H54.at 6 rfl)) (by rw [Z36]; decide) Zbm a32 c33 PS34 (ListAt.row (enc := Z0T) (sz := 6) Z0g (by decide) (H54.at 9 rfl)) om a35 c36 OS37 (ListAt.row (enc := Z0J) (sz := 34) Z0D (by decide) (H54.at 10 rfl)) om (fun i hi => ((hos46 _ (Z4x hi)).opk (H54.at 12 rfl)).list) (fun i hi => by rw [(hos46 _ (Z4x hi)).len]; decide) a38 c39 TS40 (ListAt.row (enc := Z16) (sz := 2) Z0n (by decide) (H54.at 11 rfl)) om
 rw [← hPD, ← hOD, ← hTD] at hmk
 refine zdc 51 hmk ?_
 rintro _ w58 (⟨hlt, rfl, -⟩ | ⟨a60, c61, a62, c63, a64, c65, -, rfl, k66, u67, f68⟩)
 ·exact absurd hlt (by rw [hPD, Zcw hnn hps45, List.length_take]; omega)
 have H56 := H54.addU u67 k66 f68
 have H57 : Sat w [zR w, Z0 b2 27 (ZF na N.length nc ta TT.length tc ha HH.length hc_ ptm oa OO.length oc ba BB.length bc psk lla LL.length llc pl), Z0 b7 179 (ZN m8), (ZJ m8 LB43), Z0 r9 165 (ZD a41 LB43.length c42), (ZI a10 LG c11), (ZK a12 (Zq 3) c13), Z0 b20 38 (ZC F b7 r9 la a10 LG.length c11 a12 ((Zq 3).length) c13), (ZO a41 LB43 c42), (Zi a32 PS34 c33), (Zd a35 OS37 c36), (Ze a38 TS40 c39), Z0G BG44, (Zi a60 PD c61), (Zd a62 OD c63), (Ze a64 TD c65)] w58 := H56.open 13 rfl
 have hPm : ∀ p ∈ PD, p ∈ PS34 := by rw [hPD, Zcw hnn hps45]; exact fun p hp => List.mem_of_mem_take hp
 have hOm : ∀ o ∈ OD, o ∈ OS37 := by rw [hOD]; exact fun o ho => ZeJ ho
 have hTm : ∀ t ∈ TD, t ∈ TS40 := by rw [hTD]; exact fun t ht => Zf3 ht
 have hPDl : PD.length ≤ 7 := by rw [hPD, Zcw hnn hps45, List.length_take]; omega
 have hODl : OD.length ≤ 3 := by rw [hOD]; exact Nat.le_trans ZeC (by rw [Z36]; decide)
 have hTDl : TD.length ≤ 3 := by rw [hTD]; exact Nat.le_trans Zez (by rw [Z36]; decide)
 refine ⟨_, rfl, ?_⟩
 refine kk <| wv 44 (.tuple #[(.agg ⟨(Z0x tm a60 PD.length c61 a62 OD.length c63 a64 TD.length c65)⟩), (.bool true)]) <| wv 52 (.agg ⟨(Z0x tm a60 PD.length c61 a62 OD.length c63 a64 TD.length c65)⟩) <| wv 53 (.bool true) <| zy <| zda (Za0) H57 fun b70 w71 H72 => ?_
 refine kk <| zy <| Z1S (Z0x tm a60 PD.length c61 a62 OD.length c63 a64 TD.length c65) H72 16 ?_
 intro w74 (H75 : Sat w [zR w, Z0 b2 27 (ZF na N.length nc ta TT.length tc ha HH.length hc_ ptm oa OO.length oc ba BB.length bc psk lla LL.length llc pl), Z0 b7 179 (ZN m8), (ZJ m8 LB43), Z0 r9 165 (ZD a41 LB43.length c42), (ZI a10 LG c11), (ZK a12 (Zq 3) c13), Z0 b20 38 (ZC F b7 r9 la a10 LG.length c11 a12 ((Zq 3).length) c13), (ZO a41 LB43 c42), (Zi a32 PS34 c33), (Zd a35 OS37 c36), (Ze a38 TS40 c39), Z0G BG44, (Zi a60 PD c61), (Zd a62 OD c63), (Ze a64 TD c65), Z0 b70 47 (Z0x tm a60 PD.length c61 a62 OD.length c63 a64 TD.length c65)] w74)
 refine kk <| wv 18 (.bool true) <| znt ?_
 refine Z1J (([19, 20, 21, 22, 23, 24, 25, 26, 54, 55, 56, 57, 58, 59, 60, 61, 62, 63, 64, 65, 66, 67, 68, 69, 70, 71, 72, 73, 74, 75, 76, 77, 78, 79, 80, 81, 82, 83, 84, 85] : List Nat) ++ ([86, 87, 88, 89, 90, 91, 92, 93, 94, 95, 96, 97, 98, 99, 100, 101, 102, 103, 104, 105, 106, 107, 108, 109, 110, 111, 112, 113, 114, 115, 116, 117, 118, 119, 120, 121, 122, 123, 124, 125] : List Nat) ++ ([126, 127, 128, 129, 130, 131, 132, 133, 134, 135, 136, 137, 138, 139, 140, 141, 142, 143, 144, 145, 146, 147, 148, 149, 150, 151, 152, 153, 154, 155, 156, 157, 158, 159, 160, 161, 162, 163, 164, 165] : List Nat) ++ ([166, 167, 168, 169, 170, 171, 172, 173, 174, 175, 176, 177, 178, 179, 180, 181, 182, 183, 184, 185, 186, 187, 188, 189, 190, 191, 192, 193, 194, 195, 196, 197, 198, 199, 200, 201, 202, 203, 204, 205] : List Nat) ++ ([206, 207, 208, 209, 210, 211, 212, 213, 214, 215, 216, 217, 218, 219, 220, 221, 222, 223, 224, 225, 226, 227, 228, 229, 230, 231, 232, 233, 234] : List Nat)) (fun G_ W_ => ∃ (xe xt : Int) (pa : Option Addr) (pc : Nat) (P2 : List PrR) (qa : Option Addr) (qc : Nat) (O2 : List OpR) (za : Option Addr) (zc : Nat) (T2 : List TbR), (ListAt Z0T 6 W_ (.slice pa P2.length pc) P2) ∧ (∀ y ∈ P2, PrW W_ y) ∧ (P2.length ≤ 1000) ∧ (ListAt Z0J 34 W_ (.slice qa O2.length qc) O2) ∧ (∀ y ∈ O2, ListAt Zx 1 W_ (.slice y.pa y.P.length y.pc) y.P ∧ y.P.length ≤ 1000) ∧ (O2.length ≤ 1000) ∧ (ListAt Z16 2 W_ (.slice za T2.length zc) T2) ∧ (∀ y ∈ T2, TbW W_ y) ∧ (T2.length ≤ 1000) ∧ Sat w [zR w, Z0 b2 27 (ZF na N.length nc ta TT.length tc ha HH.length hc_ ptm oa OO.length oc ba BB.length bc psk lla LL.length llc pl), Z0 b7 179 (ZN m8), (ZJ m8 LB43), Z0 r9 165 (ZD a41 LB43.length c42), (ZI a10 LG c11), (ZK a12 (Zq 3) c13), Z0 b20 38 (ZC F b7 r9 la a10 LG.length c11 a12 ((Zq 3).length) c13), (ZO a41 LB43 c42), (Zi a32 PS34 c33), (Zd a35 OS37 c36), (Ze a38 TS40 c39), Z0G BG44, Z0 b70 47 (Z3h xe xt pa P2.length pc qa O2.length qc za T2.length zc)] W_) ?_ ?_
 ·refine zsl <| wv 54 (vi what) <| zy <| zdq 55 (Z1N w74 what 14 om) H75 fun w79 H80 => ?_
  refine kk <| znt <| Zh <| zsl <| wv 57 (.bool (decide ((Z1 what 14) = 1))) <| wv 56 (.bool (decide ((Z1 what 14) = 1))) <| znt ?_
  refine zid (fun b82 g83 => ?_) fun b82 g90 => ?_
  ·refine ZG <| wv 58 (pt b70 0) <| zw1 59 (vi 4) (H80.cell 16 rfl rfl) <| wv 60 (vi 5) <| wv 61 (pt b70 0) <| zy <| zds ([(vi 5)] : LV) ([(vi 5), (vu tm), (.slice a60 PD.length c61), (.slice a62 OD.length c63), (.slice a64 TD.length c65)] : LV) H80 16 fun w86 H87 => ?_
   refine kk <| ZL <| Z6 ?_
   have H89 := H87.pk [0, 1, 2, 3, 4, 5, 6, 7, 8, 9, 10, 11, 12, 16]
   refine ZH ?_ ⟨5, tm, a60, c61, PD, a62, c63, OD, a64, c65, TD, (ListAt.row (enc := Z0T) (sz := 6) Z0g (by decide) (H87.at 13 rfl)), (fun p hp => (hps45.all p (hPm p hp)).prw (H87.at 12 rfl) htm2 hla2 hF), (by first | omega | (simp only [List.length_set, List.length_append, List.length_drop, List.length_cons, List.length_nil]; omega)), (ListAt.row (enc := Z0J) (sz := 34) Z0D (by decide) (H87.at 14 rfl)), (fun o ho => ⟨((hos46 o (hOm o ho)).opk (H87.at 12 rfl)).list, by rw [(hos46 o (hOm o ho)).len]; decide⟩), (by first | omega | (simp only [List.length_set, List.length_append, List.length_drop, List.length_cons, List.length_nil]; omega)), (ListAt.row (enc := Z16) (sz := 2) Z0n (by decide) (H87.at 15 rfl)), (fun t ht => (hts48 t (hTm t ht)).tbw (H87.at 12 rfl)), (by first | omega | (simp only [List.length_set, List.length_append, List.length_drop, List.length_cons, List.length_nil]; omega)), H89⟩
   exact zs
  refine zsl <| wv 63 (.bool (decide ((Z1 what 14) = 2))) <| wv 62 (.bool (decide ((Z1 what 14) = 2))) <| znt ?_
  refine zid (fun b92 g93 => ?_) fun b92 g100 => ?_
  ·refine ZG <| wv 64 (pt b70 1) <| zw1 65 (vu tm) (H80.cell 16 rfl rfl) <| wv 66 (vu bz) <| wv 67 (vu (bz % 5)) ?_ (hr := Z7E kr om om)
   refine wv 68 (vu (1 + (bz % 5))) ?_ (hr := Z0A (z := 1 + (bz % 5)) kr (Z1h om))
   refine wv 69 (vu (tm + (1 + (bz % 5)))) ?_ (hr := Z0A (z := tm + (1 + (bz % 5))) kr (Z1h om))
   refine wv 70 (pt b70 1) <| zy <| zds ([(vu (tm + (1 + (bz % 5))))] : LV) (Z0x (tm + (1 + (bz % 5))) a60 PD.length c61 a62 OD.length c63 a64 TD.length c65) H80 16 ?_
   intro w96 (H97 : Sat w [zR w, Z0 b2 27 (ZF na N.length nc ta TT.length tc ha HH.length hc_ ptm oa OO.length oc ba BB.length bc psk lla LL.length llc pl), Z0 b7 179 (ZN m8), (ZJ m8 LB43), Z0 r9 165 (ZD a41 LB43.length c42), (ZI a10 LG c11), (ZK a12 (Zq 3) c13), Z0 b20 38 (ZC F b7 r9 la a10 LG.length c11 a12 ((Zq 3).length) c13), (ZO a41 LB43 c42), (Zi a32 PS34 c33), (Zd a35 OS37 c36), (Ze a38 TS40 c39), Z0G BG44, (Zi a60 PD c61), (Zd a62 OD c63), (Ze a64 TD c65), Z0 b70 47 (Z0x (tm + (1 + (bz % 5))) a60 PD.length c61 a62 OD.length c63 a64 TD.length c65)] w96)
   refine kk <| ZL <| Z6 ?_
   have H99 := H97.pk [0, 1, 2, 3, 4, 5, 6, 7, 8, 9, 10, 11, 12, 16]
   refine ZH ?_ ⟨4, (tm + (1 + (bz % 5))), a60, c61, PD, a62, c63, OD, a64, c65, TD, (ListAt.row (enc := Z0T) (sz := 6) Z0g (by decide) (H97.at 13 rfl)), (fun p hp => (hps45.all p (hPm p hp)).prw (H97.at 12 rfl) htm2 hla2 hF), (by first | omega | (simp only [List.length_set, List.length_append, List.length_drop, List.length_cons, List.length_nil]; omega)), (ListAt.row (enc := Z0J) (sz := 34) Z0D (by decide) (H97.at 14 rfl)), (fun o ho => ⟨((hos46 o (hOm o ho)).opk (H97.at 12 rfl)).list, by rw [(hos46 o (hOm o ho)).len]; decide⟩), (by first | omega | (simp only [List.length_set, List.length_append, List.length_drop, List.length_cons, List.length_nil]; omega)), (ListAt.row (enc := Z16) (sz := 2) Z0n (by decide) (H97.at 15 rfl)), (fun t ht => (hts48 t (hTm t ht)).tbw (H97.at 12 rfl)), (by first | omega | (simp only [List.length_set, List.length_append, List.length_drop, List.length_cons, List.length_nil]; omega)), H99⟩
   exact zs
  refine zsl <| wv 72 (.bool (decide ((Z1 what 14) = 3))) <| wv 71 (.bool (decide ((Z1 what 14) = 3))) <| znt ?_
  refine zid (fun b102 g103 => ?_) fun b102 g110 => ?_
  ·refine ZG <| wv 73 (pt b20 4) <| wv 74 (pt b20 7) <| zw1 75 (vu la) (H80.cell 7 rfl rfl) <| wv 76 (pt b70 1) <| zy <| zds ([(vu la)] : LV) (Z0x la a60 PD.length c61 a62 OD.length c63 a64 TD.length c65) H80 16 fun w106 H107 => ?_
   refine kk <| ZL <| Z6 ?_
   have H109 := H107.pk [0, 1, 2, 3, 4, 5, 6, 7, 8, 9, 10, 11, 12, 16]
   refine ZH ?_ ⟨4, la, a60, c61, PD, a62, c63, OD, a64, c65, TD, (ListAt.row (enc := Z0T) (sz := 6) Z0g (by decide) (H107.at 13 rfl)), (fun p hp => (hps45.all p (hPm p hp)).prw (H107.at 12 rfl) htm2 hla2 hF), (by first | omega | (simp only [List.length_set, List.length_append, List.length_drop, List.length_cons, List.length_nil]; omega)), (ListAt.row (enc := Z0J) (sz := 34) Z0D (by decide) (H107.at 14 rfl)), (fun o ho => ⟨((hos46 o (hOm o ho)).opk (H107.at 12 rfl)).list, by rw [(hos46 o (hOm o ho)).len]; decide⟩), (by first | omega | (simp only [List.length_set, List.length_append, List.length_drop, List.length_cons, List.length_nil]; omega)), (ListAt.row (enc := Z16) (sz := 2) Z0n (by decide) (H107.at 15 rfl)), (fun t ht => (hts48 t (hTm t ht)).tbw (H107.at 12 rfl)), (by first | omega | (simp only [List.length_set, List.length_append, List.length_drop, List.length_cons, List.length_nil]; omega)), H109⟩
   exact zs
  refine zsl <| wv 78 (.bool (decide ((Z1 what 14) = 4))) <| wv 77 (.bool (decide ((Z1 what 14) = 4))) <| znt ?_
  refine zid (fun b112 g113 => ?_) fun b112 g127 => ?_
  ·refine zsl <| wv 79 (pt b70 2) <| zw1 80 (.slice a60 PD.length c61) (H80.cell 16 rfl rfl) <| wv 81 (vi PD.length) <| wv 82 (.bool (decide ((PD.length : Int) > 0))) <| znt ?_
   refine zid (fun b115 g116 => ?_) fun b115 g124 => ?_
   ·refine ZG <| wv 83 (pt b70 2) <| zw1 84 (.slice a60 PD.length c61) (H80.cell 16 rfl rfl) <| wv 85 (.slice (if c61 = 1 then a60 else a60.map (·.add (1 * 6))) (PD.length - 1) (c61 - 1)) ?_ (hr := Z35 (E := 71) (q := 1) kr kr rfl rfl rfl om)
    refine wv 86 (pt b70 2) <| zy <| zds (ZD (if c61 = 1 then a60 else a60.map (·.add (1 * 6))) (PD.length - 1) (c61 - 1)) (Z0x tm (if c61 = 1 then a60 else a60.map (·.add (1 * 6))) (PD.length - 1) (c61 - 1) a62 OD.length c63 a64 TD.length c65) H80 16 ?_
    intro w119 (H120 : Sat w [zR w, Z0 b2 27 (ZF na N.length nc ta TT.length tc ha HH.length hc_ ptm oa OO.length oc ba BB.length bc psk lla LL.length llc pl), Z0 b7 179 (ZN m8), (ZJ m8 LB43), Z0 r9 165 (ZD a41 LB43.length c42), (ZI a10 LG c11), (ZK a12 (Zq 3) c13), Z0 b20 38 (ZC F b7 r9 la a10 LG.length c11 a12 ((Zq 3).length) c13), (ZO a41 LB43 c42), (Zi a32 PS34 c33), (Zd a35 OS37 c36), (Ze a38 TS40 c39), Z0G BG44, (Zi a60 PD c61), (Zd a62 OD c63), (Ze a64 TD c65), Z0 b70 47 (Z0x tm (if c61 = 1 then a60 else a60.map (·.add (1 * 6))) (PD.length - 1) (c61 - 1) a62 OD.length c63 a64 TD.length c65)] w119)
    refine kk <| ZL <| Z6 ?_
    have H122 := H120.ct 16 rfl (Z0 b70 47 (Z0x tm (if c61 = 1 then a60 else a60.map (·.add (1 * 6))) ((PD.drop 1).length) (c61 - 1) a62 OD.length c63 a64 TD.length c65)) (by simp only [List.length_set, List.length_append, List.length_drop])
    have H123 := H122.pk [0, 1, 2, 3, 4, 5, 6, 7, 8, 9, 10, 11, 12, 16]
    refine ZH ?_ ⟨4, tm, (if c61 = 1 then a60 else a60.map (·.add (1 * 6))), (c61 - 1), (PD.drop 1), a62, c63, OD, a64, c65, TD, (by have q := (ListAt.dropG (k := 1) (ListAt.row (enc := Z0T) (sz := 6) Z0g (by decide) (H120.at 13 rfl)) om); simpa only [List.length_set, List.length_append, List.length_drop] using q), (ZdE (fun p hp => (hps45.all p (hPm p hp)).prw (H120.at 12 rfl) htm2 hla2 hF)), (by first | omega | (simp only [List.length_set, List.length_append, List.length_drop, List.length_cons, List.length_nil]; omega)), (ListAt.row (enc := Z0J) (sz := 34) Z0D (by decide) (H120.at 14 rfl)), (fun o ho => ⟨((hos46 o (hOm o ho)).opk (H120.at 12 rfl)).list, by rw [(hos46 o (hOm o ho)).len]; decide⟩), (by first | omega | (simp only [List.length_set, List.length_append, List.length_drop, List.length_cons, List.length_nil]; omega)), (ListAt.row (enc := Z16) (sz := 2) Z0n (by decide) (H120.at 15 rfl)), (fun t ht => (hts48 t (hTm t ht)).tbw (H120.at 12 rfl)), (by first | omega | (simp only [List.length_set, List.length_append, List.length_drop, List.length_cons, List.length_nil]; omega)), H123⟩
    exact zs
   refine Zp <| Z6 ?_
   have H126 := H80.pk [0, 1, 2, 3, 4, 5, 6, 7, 8, 9, 10, 11, 12, 16]
   refine ZH ?_ ⟨4, tm, a60, c61, PD, a62, c63, OD, a64, c65, TD, (ListAt.row (enc := Z0T) (sz := 6) Z0g (by decide) (H80.at 13 rfl)), (fun p hp => (hps45.all p (hPm p hp)).prw (H80.at 12 rfl) htm2 hla2 hF), (by first | omega | (simp only [List.length_set, List.length_append, List.length_drop, List.length_cons, List.length_nil]; omega)), (ListAt.row (enc := Z0J) (sz := 34) Z0D (by decide) (H80.at 14 rfl)), (fun o ho => ⟨((hos46 o (hOm o ho)).opk (H80.at 12 rfl)).list, by rw [(hos46 o (hOm o ho)).len]; decide⟩), (by first | omega | (simp only [List.length_set, List.length_append, List.length_drop, List.length_cons, List.length_nil]; omega)), (ListAt.row (enc := Z16) (sz := 2) Z0n (by decide) (H80.at 15 rfl)), (fun t ht => (hts48 t (hTm t ht)).tbw (H80.at 12 rfl)), (by first | omega | (simp only [List.length_set, List.length_append, List.length_drop, List.length_cons, List.length_nil]; omega)), H126⟩
   exact zs
  refine zsl <| wv 88 (.bool (decide ((Z1 what 14) = 5))) <| wv 87 (.bool (decide ((Z1 what 14) = 5))) <| znt ?_
  refine zid (fun b129 g130 => ?_) fun b129 g174 => ?_
  ·refine zsl <| wv 89 (pt b70 2) <| zw1 90 (.slice a60 PD.length c61) (H80.cell 16 rfl rfl) <| wv 91 (vi PD.length) <| wv 19 (vi PD.length) <| Z1a <| wv 92 (vi PD.length) <| wv 93 (.bool (decide ((PD.length : Int) > 1))) <| znt ?_
   refine zid (fun b132 g133 => ?_) fun b132 g171 => ?_
   ·obtain ⟨g135, c136, e137⟩ := Z1A (H80.at 13 rfl) om
    obtain rfl : a60 = some ⟨g135, 0, none⟩ := Z2m e137
    have H138 : Sat w [zR w, Z0 b2 27 (ZF na N.length nc ta TT.length tc ha HH.length hc_ ptm oa OO.length oc ba BB.length bc psk lla LL.length llc pl), Z0 b7 179 (ZN m8), (ZJ m8 LB43), Z0 r9 165 (ZD a41 LB43.length c42), (ZI a10 LG c11), (ZK a12 (Zq 3) c13), Z0 b20 38 (ZC F b7 r9 la a10 LG.length c11 a12 ((Zq 3).length) c13), (ZO a41 LB43 c42), (Zi a32 PS34 c33), (Zd a35 OS37 c36), (Ze a38 TS40 c39), Z0G BG44, (Zi (some ⟨g135, 0, none⟩) PD c61), (Zd a62 OD c63), (Ze a64 TD c65), Z0 b70 47 (Z0X tm g135 PD.length c61 a62 OD.length c63 a64 TD.length c65)] w79 := H80
    obtain ⟨x139, h140⟩ := Z2P (show (((PD.length : Int) - 1).toNat) < PD.length by omega)
    obtain ⟨x141, h142⟩ := Z2P (show 0 < PD.length by omega)
    refine Z0Z H138 [zR w, Z0 b2 27 (ZF na N.length nc ta TT.length tc ha HH.length hc_ ptm oa OO.length oc ba BB.length bc psk lla LL.length llc pl), Z0 b7 179 (ZN m8), (ZJ m8 LB43), Z0 r9 165 (ZD a41 LB43.length c42), (ZI a10 LG c11), (ZK a12 (Zq 3) c13), Z0 b20 38 (ZC F b7 r9 la a10 LG.length c11 a12 ((Zq 3).length) c13), (ZO a41 LB43 c42), (Zi a32 PS34 c33), (Zd a35 OS37 c36), (Ze a38 TS40 c39), Z0G BG44, (Zi (some ⟨g135, 0, none⟩) PD c61), (Zd a62 OD c63), (Ze a64 TD c65), Z0 b70 47 (Z0X tm g135 PD.length c61 a62 OD.length c63 a64 TD.length c65)] [17, 19] 20 rfl kr (fun Hx => (Hx.pk [0, 1, 2, 3, 4, 5, 6, 7, 8, 9, 10, 11, 12, 13, 14, 15, 16])) ?_
    intro w143 H144 S145
    refine zkp 0 S145 94 (pt b70 2) <| zkv 1 S145 95 (.slice (some ⟨g135, 0, none⟩) PD.length c61) ?_ (he := fun _ H' => (zl1 (H'.cell 16 rfl rfl)))
    refine zkp 2 S145 96 (pt b70 2) <| zkp 4 S145 98 (vi PD.length) <| zkp 5 S145 99 (vi ((PD.length : Int) - 1)) ?_ (he := fun _ => (Z0A (z := (PD.length : Int) - 1) kr (IntWalk.i64_in _ om)))
    refine zkp 6 S145 100 (pt b70 2) <| zkv 7 S145 101 (.slice (some ⟨g135, 0, none⟩) PD.length c61) ?_ (he := fun _ H' => (zl1 (H'.cell 16 rfl rfl)))
    refine zkp 8 S145 102 (vi PD.length) <| zkp 9 S145 103 (vi ((PD.length : Int) - 1)) ?_ (he := fun _ => (Z0A (z := (PD.length : Int) - 1) kr (IntWalk.i64_in _ om)))
    refine zkp 10 S145 104 (.pointer (some ⟨g135, 0 + (((PD.length : Int) - 1)).toNat * 6, none⟩)) ?_ (he := fun _ => (Z0k (E := 71) kr kr kn rfl rfl om om))
    refine zkv 11 S145 105 (.agg ⟨(Z1W x139)⟩) ?_ (he := fun _ H' => (ZX (vs := (Z1W x139)) rfl kr kr kn (Z40 (H'.at 13 rfl) rfl Z0g h140 0 (show 0 + (((PD.length : Int) - 1)).toNat * 6 = (((PD.length : Int) - 1).toNat) * 6 + 0 by omega) kr kr)))
    refine zkp 12 S145 106 (pt b70 2) <| k_valC [13, 14, 15, 16] 13 rfl kr kr kr (fun _ _ _ h => h) S145 (Zc rfl) rfl kr kr (d := 107) (v := (.slice (some ⟨g135, 0, none⟩) PD.length c61)) rfl (fun _ H' => (zl1 (H'.cell 16 rfl rfl))) ?_
    refine zkp 14 S145 108 (.pointer (some ⟨g135, 0 + ((0 : Int)).toNat * 6, none⟩)) ?_ (he := fun _ => (Z0k (E := 71) kr kr kn rfl rfl om om))
    refine zkv 15 S145 109 (.agg ⟨(Z1W x141)⟩) ?_ (he := fun _ H' => (ZX (vs := (Z1W x141)) rfl kr kr kn (Z40 (H'.at 13 rfl) rfl Z0g h142 0 (show 0 + ((0 : Int)).toNat * 6 = 0 * 6 + 0 by omega) kr kr)))
    refine zkp 16 S145 110 (.pointer (some ⟨g135, 0 + ((0 : Int)).toNat * 6, none⟩)) ?_ (he := fun _ => (Z0k (E := 71) kr kr kn rfl rfl om om))
    refine k_do2B 3 17 (Sat w [zR w, Z0 b2 27 (ZF na N.length nc ta TT.length tc ha HH.length hc_ ptm oa OO.length oc ba BB.length bc psk lla LL.length llc pl), Z0 b7 179 (ZN m8), (ZJ m8 LB43), Z0 r9 165 (ZD a41 LB43.length c42), (ZI a10 LG c11), (ZK a12 (Zq 3) c13), Z0 b20 38 (ZC F b7 r9 la a10 LG.length c11 a12 ((Zq 3).length) c13), (ZO a41 LB43 c42), (Zi a32 PS34 c33), (Zd a35 OS37 c36), (Ze a38 TS40 c39), Z0G BG44, (Zd a62 OD c63), (Ze a64 TD c65), Z0 b70 47 (Z0X tm g135 PD.length c61 a62 OD.length c63 a64 TD.length c65)]) rfl rfl kr (Zc rfl) (Zc rfl) rfl rfl (fun Kq kq => ?_) (fun Kq kq => ?_)
    ·refine Zef (d := 97) (v := (.slice (some ⟨g135, 0, none⟩) PD.length c61)) rfl (zl1 (H144.cell 16 rfl rfl)) ?_
     have S147 := H144.pk [0, 1, 2, 3, 4, 5, 6, 7, 8, 9, 10, 11, 12, 13, 14, 15, 16]
     refine kq _ _ S147 <| Z2B 17 (Sat w [zR w, Z0 b2 27 (ZF na N.length nc ta TT.length tc ha HH.length hc_ ptm oa OO.length oc ba BB.length bc psk lla LL.length llc pl), Z0 b7 179 (ZN m8), (ZJ m8 LB43), Z0 r9 165 (ZD a41 LB43.length c42), (ZI a10 LG c11), (ZK a12 (Zq 3) c13), Z0 b20 38 (ZC F b7 r9 la a10 LG.length c11 a12 ((Zq 3).length) c13), (ZO a41 LB43 c42), (Zi a32 PS34 c33), (Zd a35 OS37 c36), (Ze a38 TS40 c39), Z0G BG44, (Zd a62 OD c63), (Ze a64 TD c65), Z0 b70 47 (Z0X tm g135 PD.length c61 a62 OD.length c63 a64 TD.length c65)]) rfl kr (Zc rfl) rfl (fun Kq kq => ?_)
     refine Z3m (size := 6) (vs := (Z1W x139)) Z0g rfl H144 13 rfl rfl rfl rfl kr kn kr 0 0 x139 h142 (show 0 + ((0 : Int)).toNat * 6 = 0 * 6 + 0 by omega) kn kr ?_
     intro w149 H150
     have hlw149 : (PD.set 0 x139).length = PD.length := List.length_set
     have S151 := H150.pk [0, 1, 2, 3, 4, 5, 6, 7, 8, 9, 10, 11, 12, 14, 15, 16]
     refine kq _ _ S151 ?_
     obtain ⟨x152, h153⟩ := Z2P (show (((PD.length : Int) - 1).toNat) < (PD.set 0 x139).length by omega)
     refine hv0 18 S151 111 (.pointer (some ⟨g135, 0 + (((PD.length : Int) - 1)).toNat * 6, none⟩)) ?_ (he := fun _ H' => (Z0k (E := 71) kr kr kn rfl rfl om om))
     refine zhy 19 ?_
     refine Z3m (size := 6) (vs := (Z1W x141)) Z0g rfl H150 13 rfl rfl rfl rfl kr kn kr (((PD.length : Int) - 1).toNat) 0 x141 h153 (show 0 + (((PD.length : Int) - 1)).toNat * 6 = (((PD.length : Int) - 1).toNat) * 6 + 0 by omega) kn kr ?_
     intro w155 (H156 : Sat w [zR w, Z0 b2 27 (ZF na N.length nc ta TT.length tc ha HH.length hc_ ptm oa OO.length oc ba BB.length bc psk lla LL.length llc pl), Z0 b7 179 (ZN m8), (ZJ m8 LB43), Z0 r9 165 (ZD a41 LB43.length c42), (ZI a10 LG c11), (ZK a12 (Zq 3) c13), Z0 b20 38 (ZC F b7 r9 la a10 LG.length c11 a12 ((Zq 3).length) c13), (ZO a41 LB43 c42), (Zi a32 PS34 c33), (Zd a35 OS37 c36), (Ze a38 TS40 c39), Z0G BG44, Zo 71 6 (.slice (some ⟨g135, 0, none⟩) PD.length c61) PD.length (((PD.set 0 x139).set (((PD.length : Int) - 1).toNat) x141).flatMap Z0T), (Zd a62 OD c63), (Ze a64 TD c65), Z0 b70 47 (Z0X tm g135 PD.length c61 a62 OD.length c63 a64 TD.length c65)] w155)
     have hlw155 : ((PD.set 0 x139).set (((PD.length : Int) - 1).toNat) x141).length = (PD.set 0 x139).length := List.length_set
     have S157 := H156.pk [0, 1, 2, 3, 4, 5, 6, 7, 8, 9, 10, 11, 12, 14, 15, 16]
     refine kh S157 <| zhf <| Z6 ?_
     have H158 := H156.ct 16 rfl (Z0 b70 47 (Z0X tm g135 (((PD.set 0 x139).set (((PD.length : Int) - 1).toNat) x141).length) c61 a62 OD.length c63 a64 TD.length c65)) (by simp only [List.length_set, List.length_append, List.length_drop])
     have H159 := H158.pk [0, 1, 2, 3, 4, 5, 6, 7, 8, 9, 10, 11, 12, 16]
     refine ZH ?_ ⟨4, tm, (some ⟨g135, 0, none⟩), c61, ((PD.set 0 x139).set (((PD.length : Int) - 1).toNat) x141), a62, c63, OD, a64, c65, TD, (by have q := (ListAt.row (enc := Z0T) (sz := 6) Z0g (by decide) (H156.at 13 rfl)); simpa only [List.length_set, List.length_append, List.length_drop] using q), (Z4r (Z4r (fun p hp => (hps45.all p (hPm p hp)).prw (H156.at 12 rfl) htm2 hla2 hF) ((hps45.all _ (hPm _ (List.mem_of_getElem? h140))).prw (H156.at 12 rfl) htm2 hla2 hF)) ((hps45.all _ (hPm _ (List.mem_of_getElem? h142))).prw (H156.at 12 rfl) htm2 hla2 hF)), (by first | omega | (simp only [List.length_set, List.length_append, List.length_drop, List.length_cons, List.length_nil]; omega)), (ListAt.row (enc := Z0J) (sz := 34) Z0D (by decide) (H156.at 14 rfl)), (fun o ho => ⟨((hos46 o (hOm o ho)).opk (H156.at 12 rfl)).list, by rw [(hos46 o (hOm o ho)).len]; decide⟩), (by first | omega | (simp only [List.length_set, List.length_append, List.length_drop, List.length_cons, List.length_nil]; omega)), (ListAt.row (enc := Z16) (sz := 2) Z0n (by decide) (H156.at 15 rfl)), (fun t ht => (hts48 t (hTm t ht)).tbw (H156.at 12 rfl)), (by first | omega | (simp only [List.length_set, List.length_append, List.length_drop, List.length_cons, List.length_nil]; omega)), H159⟩
     exact zs
    refine Z3m (size := 6) (vs := (Z1W x139)) Z0g rfl H144 13 rfl rfl rfl rfl kr kn kr 0 0 x139 h142 (show 0 + ((0 : Int)).toNat * 6 = 0 * 6 + 0 by omega) kn kr ?_
    intro w160 (H161 : Sat w [zR w, Z0 b2 27 (ZF na N.length nc ta TT.length tc ha HH.length hc_ ptm oa OO.length oc ba BB.length bc psk lla LL.length llc pl), Z0 b7 179 (ZN m8), (ZJ m8 LB43), Z0 r9 165 (ZD a41 LB43.length c42), (ZI a10 LG c11), (ZK a12 (Zq 3) c13), Z0 b20 38 (ZC F b7 r9 la a10 LG.length c11 a12 ((Zq 3).length) c13), (ZO a41 LB43 c42), (Zi a32 PS34 c33), (Zd a35 OS37 c36), (Ze a38 TS40 c39), Z0G BG44, Zo 71 6 (.slice (some ⟨g135, 0, none⟩) PD.length c61) PD.length ((PD.set 0 x139).flatMap Z0T), (Zd a62 OD c63), (Ze a64 TD c65), Z0 b70 47 (Z0X tm g135 PD.length c61 a62 OD.length c63 a64 TD.length c65)] w160)
    have hlw160 : (PD.set 0 x139).length = PD.length := List.length_set
    have S162 := H161.pk [0, 1, 2, 3, 4, 5, 6, 7, 8, 9, 10, 11, 12, 14, 15, 16]
    refine kq _ _ S162 <| hv0 3 S162 97 (.slice (some ⟨g135, 0, none⟩) PD.length c61) ?_ (he := fun _ H' => (zl1 (H'.cell 15 rfl rfl)))
    obtain ⟨x163, h164⟩ := Z2P (show (((PD.length : Int) - 1).toNat) < (PD.set 0 x139).length by omega)
    refine hv0 18 S162 111 (.pointer (some ⟨g135, 0 + (((PD.length : Int) - 1)).toNat * 6, none⟩)) ?_ (he := fun _ H' => (Z0k (E := 71) kr kr kn rfl rfl om om))
    refine zhy 19 ?_
    refine Z3m (size := 6) (vs := (Z1W x141)) Z0g rfl H161 13 rfl rfl rfl rfl kr kn kr (((PD.length : Int) - 1).toNat) 0 x141 h164 (show 0 + (((PD.length : Int) - 1)).toNat * 6 = (((PD.length : Int) - 1).toNat) * 6 + 0 by omega) kn kr ?_
    intro w166 (H167 : Sat w [zR w, Z0 b2 27 (ZF na N.length nc ta TT.length tc ha HH.length hc_ ptm oa OO.length oc ba BB.length bc psk lla LL.length llc pl), Z0 b7 179 (ZN m8), (ZJ m8 LB43), Z0 r9 165 (ZD a41 LB43.length c42), (ZI a10 LG c11), (ZK a12 (Zq 3) c13), Z0 b20 38 (ZC F b7 r9 la a10 LG.length c11 a12 ((Zq 3).length) c13), (ZO a41 LB43 c42), (Zi a32 PS34 c33), (Zd a35 OS37 c36), (Ze a38 TS40 c39), Z0G BG44, Zo 71 6 (.slice (some ⟨g135, 0, none⟩) PD.length c61) PD.length (((PD.set 0 x139).set (((PD.length : Int) - 1).toNat) x141).flatMap Z0T), (Zd a62 OD c63), (Ze a64 TD c65), Z0 b70 47 (Z0X tm g135 PD.length c61 a62 OD.length c63 a64 TD.length c65)] w166)
    have hlw166 : ((PD.set 0 x139).set (((PD.length : Int) - 1).toNat) x141).length = (PD.set 0 x139).length := List.length_set
    have S168 := H167.pk [0, 1, 2, 3, 4, 5, 6, 7, 8, 9, 10, 11, 12, 14, 15, 16]
    refine kh S168 <| zhf <| Z6 ?_
    have H169 : Sat w [zR w, Z0 b2 27 (ZF na N.length nc ta TT.length tc ha HH.length hc_ ptm oa OO.length oc ba BB.length bc psk lla LL.length llc pl), Z0 b7 179 (ZN m8), (ZJ m8 LB43), Z0 r9 165 (ZD a41 LB43.length c42), (ZI a10 LG c11), (ZK a12 (Zq 3) c13), Z0 b20 38 (ZC F b7 r9 la a10 LG.length c11 a12 ((Zq 3).length) c13), (ZO a41 LB43 c42), (Zi a32 PS34 c33), (Zd a35 OS37 c36), (Ze a38 TS40 c39), Z0G BG44, Zo 71 6 (.slice (some ⟨g135, 0, none⟩) PD.length c61) PD.length (((PD.set 0 x139).set (((PD.length : Int) - 1).toNat) x141).flatMap Z0T), (Zd a62 OD c63), (Ze a64 TD c65), Z0 b70 47 (Z0X tm g135 (((PD.set 0 x139).set (((PD.length : Int) - 1).toNat) x141).length) c61 a62 OD.length c63 a64 TD.length c65)] w166 := H167.cast (by simp only [List.length_set, List.length_append, List.length_drop])
    have H170 := H169.pk [0, 1, 2, 3, 4, 5, 6, 7, 8, 9, 10, 11, 12, 16]
    refine ZH ?_ ⟨4, tm, (some ⟨g135, 0, none⟩), c61, ((PD.set 0 x139).set (((PD.length : Int) - 1).toNat) x141), a62, c63, OD, a64, c65, TD, (by have q := (ListAt.row (enc := Z0T) (sz := 6) Z0g (by decide) (H167.at 13 rfl)); simpa only [List.length_set, List.length_append, List.length_drop] using q), (Z4r (Z4r (fun p hp => (hps45.all p (hPm p hp)).prw (H167.at 12 rfl) htm2 hla2 hF) ((hps45.all _ (hPm _ (List.mem_of_getElem? h140))).prw (H167.at 12 rfl) htm2 hla2 hF)) ((hps45.all _ (hPm _ (List.mem_of_getElem? h142))).prw (H167.at 12 rfl) htm2 hla2 hF)), (by first | omega | (simp only [List.length_set, List.length_append, List.length_drop, List.length_cons, List.length_nil]; omega)), (ListAt.row (enc := Z0J) (sz := 34) Z0D (by decide) (H167.at 14 rfl)), (fun o ho => ⟨((hos46 o (hOm o ho)).opk (H167.at 12 rfl)).list, by rw [(hos46 o (hOm o ho)).len]; decide⟩), (by first | omega | (simp only [List.length_set, List.length_append, List.length_drop, List.length_cons, List.length_nil]; omega)), (ListAt.row (enc := Z16) (sz := 2) Z0n (by decide) (H167.at 15 rfl)), (fun t ht => (hts48 t (hTm t ht)).tbw (H167.at 12 rfl)), (by first | omega | (simp only [List.length_set, List.length_append, List.length_drop, List.length_cons, List.length_nil]; omega)), H170⟩
    exact zs
   refine Zp <| Z6 ?_
   have H173 := H80.pk [0, 1, 2, 3, 4, 5, 6, 7, 8, 9, 10, 11, 12, 16]
   refine ZH ?_ ⟨4, tm, a60, c61, PD, a62, c63, OD, a64, c65, TD, (ListAt.row (enc := Z0T) (sz := 6) Z0g (by decide) (H80.at 13 rfl)), (fun p hp => (hps45.all p (hPm p hp)).prw (H80.at 12 rfl) htm2 hla2 hF), (by first | omega | (simp only [List.length_set, List.length_append, List.length_drop, List.length_cons, List.length_nil]; omega)), (ListAt.row (enc := Z0J) (sz := 34) Z0D (by decide) (H80.at 14 rfl)), (fun o ho => ⟨((hos46 o (hOm o ho)).opk (H80.at 12 rfl)).list, by rw [(hos46 o (hOm o ho)).len]; decide⟩), (by first | omega | (simp only [List.length_set, List.length_append, List.length_drop, List.length_cons, List.length_nil]; omega)), (ListAt.row (enc := Z16) (sz := 2) Z0n (by decide) (H80.at 15 rfl)), (fun t ht => (hts48 t (hTm t ht)).tbw (H80.at 12 rfl)), (by first | omega | (simp only [List.length_set, List.length_append, List.length_drop, List.length_cons, List.length_nil]; omega)), H173⟩
   exact zs
  refine zsl <| wv 113 (.bool (decide ((Z1 what 14) = 6))) <| wv 112 (.bool (decide ((Z1 what 14) = 6))) <| znt ?_
  refine zid (fun b176 g177 => ?_) fun b176 g205 => ?_
  ·refine zsl <| wv 114 (pt b70 2) <| zw1 115 (.slice a60 PD.length c61) (H80.cell 16 rfl rfl) <| wv 116 (vi PD.length) <| wv 20 (vi PD.length) <| Z1a <| wv 117 (vi PD.length) <| wv 118 (.bool (decide ((PD.length : Int) > 0))) <| znt ?_
   refine zid (fun b179 g180 => ?_) fun b179 g202 => ?_
   ·have hwK6 := Z1k at_ (PD.length : Int) om
    obtain ⟨K6, hK6⟩ : ∃ K : Nat, (K : Int) = Z1 at_ (PD.length : Int) := ⟨(Z1 at_ (PD.length : Int)).toNat, by omega⟩
    have hlK6 : K6 < PD.length := by omega
    have hsmK : ∀ p ∈ PD, p.sm ≤ 1000000 ∧ 0 ≤ p.sm := fun p hp => by have q := (hps45.all p (hPm p hp)).smb; omega
    obtain ⟨g182, c183, e184⟩ := Z1A (H80.at 13 rfl) om
    obtain rfl : a60 = some ⟨g182, 0, none⟩ := Z2m e184
    have H185 := H80
    obtain ⟨x186, h187⟩ := Z2P (show ((Z1 at_ (PD.length : Int)).toNat) < PD.length by omega)
    have hmx186 := hsmK x186 (List.mem_of_getElem? h187)
    refine Z0Z H185 [zR w, Z0 b2 27 (ZF na N.length nc ta TT.length tc ha HH.length hc_ ptm oa OO.length oc ba BB.length bc psk lla LL.length llc pl), Z0 b7 179 (ZN m8), (ZJ m8 LB43), Z0 r9 165 (ZD a41 LB43.length c42), (ZI a10 LG c11), (ZK a12 (Zq 3) c13), Z0 b20 38 (ZC F b7 r9 la a10 LG.length c11 a12 ((Zq 3).length) c13), (ZO a41 LB43 c42), (Zi a32 PS34 c33), (Zd a35 OS37 c36), (Ze a38 TS40 c39), Z0G BG44, (Zi (some ⟨g182, 0, none⟩) PD c61), (Zd a62 OD c63), (Ze a64 TD c65), Z0 b70 47 (Z0X tm g182 PD.length c61 a62 OD.length c63 a64 TD.length c65)] [13] 14 rfl kr (fun Hx => (Hx.pk [0, 1, 2, 3, 4, 5, 6, 7, 8, 9, 10, 11, 12, 13, 14, 15, 16])) ?_
    intro w188 H189 S190
    refine zkp 0 S190 119 (pt b70 2) <| zkv 1 S190 120 (.slice (some ⟨g182, 0, none⟩) PD.length c61) ?_ (he := fun _ H' => (zl1 (H'.cell 16 rfl rfl)))
    refine zkp 2 S190 121 (vi at_) <| zkp 3 S190 122 (vi PD.length) <| zky 4 ?_
    refine zdq 123 (Z1N w188 at_ (PD.length : Int) om) H189 ?_
    intro w192 H193
    have S195 := H193.pk [0, 1, 2, 3, 4, 5, 6, 7, 8, 9, 10, 11, 12, 13, 14, 15, 16]
    refine ke S195 <| zkp 5 S195 124 (.pointer (some ⟨g182, 0 + ((Z1 at_ (PD.length : Int))).toNat * 6, none⟩)) ?_ (he := fun _ => (Z0k (E := 71) kr kr kn rfl rfl om om))
    refine zkp 6 S195 125 (.pointer (some ⟨g182, 0 + ((Z1 at_ (PD.length : Int))).toNat * 6 + 4, none⟩)) <| zkp 7 S195 126 (.pointer (some ⟨g182, 0 + ((Z1 at_ (PD.length : Int))).toNat * 6 + 4 + 1, none⟩)) <| zkv 8 S195 127 (vi x186.sm) ?_ (he := fun _ H' => (zl1 (Z1U (H'.at 13 rfl) rfl Z0g h187 5 rfl (show 0 + ((Z1 at_ (PD.length : Int))).toNat * 6 + 4 + 1 = ((Z1 at_ (PD.length : Int)).toNat) * 6 + 5 by omega) kr)))
    refine zkp 9 S195 128 (vi (x186.sm + 1)) ?_ (he := fun _ => (Z0A (z := x186.sm + 1) kr (IntWalk.i64_in _ om)))
    refine zkp 10 S195 129 (.pointer (some ⟨g182, 0 + ((Z1 at_ (PD.length : Int))).toNat * 6, none⟩)) ?_ (he := fun _ => (Z0k (E := 71) kr kr kn rfl rfl om om))
    refine zkp 11 S195 130 (.pointer (some ⟨g182, 0 + ((Z1 at_ (PD.length : Int))).toNat * 6 + 4, none⟩)) <| zkp 12 S195 131 (.pointer (some ⟨g182, 0 + ((Z1 at_ (PD.length : Int))).toNat * 6 + 4 + 1, none⟩)) <| Z2B 13 (Sat w [zR w, Z0 b2 27 (ZF na N.length nc ta TT.length tc ha HH.length hc_ ptm oa OO.length oc ba BB.length bc psk lla LL.length llc pl), Z0 b7 179 (ZN m8), (ZJ m8 LB43), Z0 r9 165 (ZD a41 LB43.length c42), (ZI a10 LG c11), (ZK a12 (Zq 3) c13), Z0 b20 38 (ZC F b7 r9 la a10 LG.length c11 a12 ((Zq 3).length) c13), (ZO a41 LB43 c42), (Zi a32 PS34 c33), (Zd a35 OS37 c36), (Ze a38 TS40 c39), Z0G BG44, (Zd a62 OD c63), (Ze a64 TD c65), Z0 b70 47 (Z0X tm g182 PD.length c61 a62 OD.length c63 a64 TD.length c65)]) rfl kr (Zc rfl) rfl (fun Kq kq => ?_)
    refine Z3m (size := 6) (vs := ([(vi (x186.sm + 1))] : LV)) Z0g rfl H193 13 rfl rfl rfl rfl kr kn kr ((Z1 at_ (PD.length : Int)).toNat) 5 (⟨x186.r, x186.e, x186.f, x186.ca, x186.cc, x186.sb, x186.sm + 1, x186.C⟩ : PrR) h187 (show 0 + ((Z1 at_ (PD.length : Int))).toNat * 6 + 4 + 1 = ((Z1 at_ (PD.length : Int)).toNat) * 6 + 5 by omega) kn kr ?_
    intro w197 (H198 : Sat w [zR w, Z0 b2 27 (ZF na N.length nc ta TT.length tc ha HH.length hc_ ptm oa OO.length oc ba BB.length bc psk lla LL.length llc pl), Z0 b7 179 (ZN m8), (ZJ m8 LB43), Z0 r9 165 (ZD a41 LB43.length c42), (ZI a10 LG c11), (ZK a12 (Zq 3) c13), Z0 b20 38 (ZC F b7 r9 la a10 LG.length c11 a12 ((Zq 3).length) c13), (ZO a41 LB43 c42), (Zi a32 PS34 c33), (Zd a35 OS37 c36), (Ze a38 TS40 c39), Z0G BG44, Zo 71 6 (.slice (some ⟨g182, 0, none⟩) PD.length c61) PD.length ((PD.set ((Z1 at_ (PD.length : Int)).toNat) (⟨x186.r, x186.e, x186.f, x186.ca, x186.cc, x186.sb, x186.sm + 1, x186.C⟩ : PrR)).flatMap Z0T), (Zd a62 OD c63), (Ze a64 TD c65), Z0 b70 47 (Z0X tm g182 PD.length c61 a62 OD.length c63 a64 TD.length c65)] w197)
    have hlw197 : (PD.set ((Z1 at_ (PD.length : Int)).toNat) (⟨x186.r, x186.e, x186.f, x186.ca, x186.cc, x186.sb, x186.sm + 1, x186.C⟩ : PrR)).length = PD.length := List.length_set
    have S199 := H198.pk [0, 1, 2, 3, 4, 5, 6, 7, 8, 9, 10, 11, 12, 14, 15, 16]
    refine kq _ _ S199 <| zhf <| Z6 ?_
    have H200 := H198.ct 16 rfl (Z0 b70 47 (Z0X tm g182 ((PD.set ((Z1 at_ (PD.length : Int)).toNat) (⟨x186.r, x186.e, x186.f, x186.ca, x186.cc, x186.sb, x186.sm + 1, x186.C⟩ : PrR)).length) c61 a62 OD.length c63 a64 TD.length c65)) (by simp only [List.length_set, List.length_append, List.length_drop])
    have H201 := H200.pk [0, 1, 2, 3, 4, 5, 6, 7, 8, 9, 10, 11, 12, 16]
    refine ZH ?_ ⟨4, tm, (some ⟨g182, 0, none⟩), c61, (PD.set ((Z1 at_ (PD.length : Int)).toNat) (⟨x186.r, x186.e, x186.f, x186.ca, x186.cc, x186.sb, x186.sm + 1, x186.C⟩ : PrR)), a62, c63, OD, a64, c65, TD, (by have q := (ListAt.row (enc := Z0T) (sz := 6) Z0g (by decide) (H198.at 13 rfl)); simpa only [List.length_set, List.length_append, List.length_drop] using q), (Z4r (fun p hp => (hps45.all p (hPm p hp)).prw (H198.at 12 rfl) htm2 hla2 hF) ((hps45.all _ (hPm _ (List.mem_of_getElem? h187))).prw (H198.at 12 rfl) htm2 hla2 hF).mark), (by first | omega | (simp only [List.length_set, List.length_append, List.length_drop, List.length_cons, List.length_nil]; omega)), (ListAt.row (enc := Z0J) (sz := 34) Z0D (by decide) (H198.at 14 rfl)), (fun o ho => ⟨((hos46 o (hOm o ho)).opk (H198.at 12 rfl)).list, by rw [(hos46 o (hOm o ho)).len]; decide⟩), (by first | omega | (simp only [List.length_set, List.length_append, List.length_drop, List.length_cons, List.length_nil]; omega)), (ListAt.row (enc := Z16) (sz := 2) Z0n (by decide) (H198.at 15 rfl)), (fun t ht => (hts48 t (hTm t ht)).tbw (H198.at 12 rfl)), (by first | omega | (simp only [List.length_set, List.length_append, List.length_drop, List.length_cons, List.length_nil]; omega)), H201⟩
    exact zs
   refine Zp <| Z6 ?_
   have H204 := H80.pk [0, 1, 2, 3, 4, 5, 6, 7, 8, 9, 10, 11, 12, 16]
   refine ZH ?_ ⟨4, tm, a60, c61, PD, a62, c63, OD, a64, c65, TD, (ListAt.row (enc := Z0T) (sz := 6) Z0g (by decide) (H80.at 13 rfl)), (fun p hp => (hps45.all p (hPm p hp)).prw (H80.at 12 rfl) htm2 hla2 hF), (by first | omega | (simp only [List.length_set, List.length_append, List.length_drop, List.length_cons, List.length_nil]; omega)), (ListAt.row (enc := Z0J) (sz := 34) Z0D (by decide) (H80.at 14 rfl)), (fun o ho => ⟨((hos46 o (hOm o ho)).opk (H80.at 12 rfl)).list, by rw [(hos46 o (hOm o ho)).len]; decide⟩), (by first | omega | (simp only [List.length_set, List.length_append, List.length_drop, List.length_cons, List.length_nil]; omega)), (ListAt.row (enc := Z16) (sz := 2) Z0n (by decide) (H80.at 15 rfl)), (fun t ht => (hts48 t (hTm t ht)).tbw (H80.at 12 rfl)), (by first | omega | (simp only [List.length_set, List.length_append, List.length_drop, List.length_cons, List.length_nil]; omega)), H204⟩
   exact zs
  refine zsl <| wv 133 (.bool (decide ((Z1 what 14) = 7))) <| wv 132 (.bool (decide ((Z1 what 14) = 7))) <| znt ?_
  refine zid (fun b207 g208 => ?_) fun b207 g236 => ?_
  ·refine zsl <| wv 134 (pt b70 3) <| zw1 135 (.slice a62 OD.length c63) (H80.cell 16 rfl rfl) <| wv 136 (vi OD.length) <| wv 21 (vi OD.length) <| Z1a <| wv 137 (vi OD.length) <| wv 138 (.bool (decide ((OD.length : Int) > 0))) <| znt ?_
   refine zid (fun b210 g211 => ?_) fun b210 g233 => ?_
   ·refine zsl <| wv 139 (vi at_) <| wv 140 (vi OD.length) <| zy <| zdq 141 (Z1N w79 at_ (OD.length : Int) om) H80 fun w214 H215 => ?_
    refine kk <| wv 22 (vi (Z1 at_ (OD.length : Int))) <| znt ?_
    have hwK7 := Z1k at_ (OD.length : Int) om
    obtain ⟨K7, hK7⟩ : ∃ K : Nat, (K : Int) = Z1 at_ (OD.length : Int) := ⟨(Z1 at_ (OD.length : Int)).toNat, by omega⟩
    have hlK7 : K7 < OD.length := by omega
    refine Zn 22 (vi K7) (show ((vi (Z1 at_ (OD.length : Int))) : Value) = _ by rw [hK7]) ?_
    obtain ⟨g217, c218, e219⟩ := Z1A (H215.at 14 rfl) om
    obtain rfl : a62 = some ⟨g217, 0, none⟩ := Z2m e219
    have H220 : Sat w [zR w, Z0 b2 27 (ZF na N.length nc ta TT.length tc ha HH.length hc_ ptm oa OO.length oc ba BB.length bc psk lla LL.length llc pl), Z0 b7 179 (ZN m8), (ZJ m8 LB43), Z0 r9 165 (ZD a41 LB43.length c42), (ZI a10 LG c11), (ZK a12 (Zq 3) c13), Z0 b20 38 (ZC F b7 r9 la a10 LG.length c11 a12 ((Zq 3).length) c13), (ZO a41 LB43 c42), (Zi a32 PS34 c33), (Zd a35 OS37 c36), (Ze a38 TS40 c39), Z0G BG44, (Zi a60 PD c61), (Zd (some ⟨g217, 0, none⟩) OD c63), (Ze a64 TD c65), Z0 b70 47 (Z3j tm a60 PD.length c61 g217 OD.length c63 a64 TD.length c65)] w214 := H215
    refine ZG <| wv 142 (pt b70 3) <| zw1 143 (.slice (some ⟨g217, 0, none⟩) OD.length c63) (H220.cell 16 rfl rfl) <| wv 144 (vi K7) <| zy <| Z2z 5 1 1 (.int .u8 (0)) [(0, (.int .u8 (77)))] ([(.int .u8 (77))] : LV) H220 ?_
    intro b222 w223 (H224 : Sat w [zR w, Z0 b2 27 (ZF na N.length nc ta TT.length tc ha HH.length hc_ ptm oa OO.length oc ba BB.length bc psk lla LL.length llc pl), Z0 b7 179 (ZN m8), (ZJ m8 LB43), Z0 r9 165 (ZD a41 LB43.length c42), (ZI a10 LG c11), (ZK a12 (Zq 3) c13), Z0 b20 38 (ZC F b7 r9 la a10 LG.length c11 a12 ((Zq 3).length) c13), (ZO a41 LB43 c42), (Zi a32 PS34 c33), (Zd a35 OS37 c36), (Ze a38 TS40 c39), Z0G BG44, (Zi a60 PD c61), (Zd (some ⟨g217, 0, none⟩) OD c63), (Ze a64 TD c65), Z0 b70 47 (Z3j tm a60 PD.length c61 g217 OD.length c63 a64 TD.length c65), Zo 5 1 (.slice (some ⟨b222, 0, none⟩) 1 1) 1 ([(.int .u8 (77))] : LV)] w223)
    have H225 : Sat w [zR w, Z0 b2 27 (ZF na N.length nc ta TT.length tc ha HH.length hc_ ptm oa OO.length oc ba BB.length bc psk lla LL.length llc pl), Z0 b7 179 (ZN m8), (ZJ m8 LB43), Z0 r9 165 (ZD a41 LB43.length c42), (ZI a10 LG c11), (ZK a12 (Zq 3) c13), Z0 b20 38 (ZC F b7 r9 la a10 LG.length c11 a12 ((Zq 3).length) c13), (ZO a41 LB43 c42), (Zi a32 PS34 c33), (Zd a35 OS37 c36), (Ze a38 TS40 c39), Z0G BG44, (Zi a60 PD c61), (Zd (some ⟨g217, 0, none⟩) OD c63), (Ze a64 TD c65), Z0 b70 47 (Z3j tm a60 PD.length c61 g217 OD.length c63 a64 TD.length c65), Zo 5 1 (.slice (some ⟨b222, 0, none⟩) 1 1) 1 ([77].flatMap Zx)] w223 := H224.cast (by rw [(show (([(.int .u8 (77))] : LV) : LV) = ([77] : List UInt8).flatMap Zx by kernel_rfl)])
    refine kk ?_
    obtain ⟨x226, h227⟩ := Z2P (show K7 < OD.length by omega)
    refine wv 146 (.pointer (some ⟨g217, 0 + ((K7 : Int)).toNat * 34, none⟩)) ?_ (hr := Z0k (E := 86) kr kr kn rfl rfl om om)
    refine wv 147 (.pointer (some ⟨g217, 0 + ((K7 : Int)).toNat * 34 + 1, none⟩)) <| zy <| Z3m (size := 34) (vs := ([(.slice (some ⟨b222, 0, none⟩) 1 1)] : LV)) Z0D rfl H225 14 rfl rfl rfl rfl kr kn kr K7 1 (⟨x226.i, (some ⟨b222, 0, none⟩), 1, [77], x226.h⟩ : OpR) h227 (show 0 + ((K7 : Int)).toNat * 34 + 1 = K7 * 34 + 1 by omega) kn kr ?_
    intro w229 (H230 : Sat w [zR w, Z0 b2 27 (ZF na N.length nc ta TT.length tc ha HH.length hc_ ptm oa OO.length oc ba BB.length bc psk lla LL.length llc pl), Z0 b7 179 (ZN m8), (ZJ m8 LB43), Z0 r9 165 (ZD a41 LB43.length c42), (ZI a10 LG c11), (ZK a12 (Zq 3) c13), Z0 b20 38 (ZC F b7 r9 la a10 LG.length c11 a12 ((Zq 3).length) c13), (ZO a41 LB43 c42), (Zi a32 PS34 c33), (Zd a35 OS37 c36), (Ze a38 TS40 c39), Z0G BG44, (Zi a60 PD c61), Zo 86 34 (.slice (some ⟨g217, 0, none⟩) OD.length c63) OD.length ((OD.set K7 (⟨x226.i, (some ⟨b222, 0, none⟩), 1, [77], x226.h⟩ : OpR)).flatMap Z0J), (Ze a64 TD c65), Z0 b70 47 (Z3j tm a60 PD.length c61 g217 OD.length c63 a64 TD.length c65), Zo 5 1 (.slice (some ⟨b222, 0, none⟩) 1 1) 1 ([77].flatMap Zx)] w229)
    have hlw229 : (OD.set K7 (⟨x226.i, (some ⟨b222, 0, none⟩), 1, [77], x226.h⟩ : OpR)).length = OD.length := List.length_set
    refine kk <| ZL <| Z6 ?_
    have H231 : Sat w [zR w, Z0 b2 27 (ZF na N.length nc ta TT.length tc ha HH.length hc_ ptm oa OO.length oc ba BB.length bc psk lla LL.length llc pl), Z0 b7 179 (ZN m8), (ZJ m8 LB43), Z0 r9 165 (ZD a41 LB43.length c42), (ZI a10 LG c11), (ZK a12 (Zq 3) c13), Z0 b20 38 (ZC F b7 r9 la a10 LG.length c11 a12 ((Zq 3).length) c13), (ZO a41 LB43 c42), (Zi a32 PS34 c33), (Zd a35 OS37 c36), (Ze a38 TS40 c39), Z0G BG44, (Zi a60 PD c61), Zo 86 34 (.slice (some ⟨g217, 0, none⟩) OD.length c63) OD.length ((OD.set K7 (⟨x226.i, (some ⟨b222, 0, none⟩), 1, [77], x226.h⟩ : OpR)).flatMap Z0J), (Ze a64 TD c65), Z0 b70 47 (Z3j tm a60 PD.length c61 g217 ((OD.set K7 (⟨x226.i, (some ⟨b222, 0, none⟩), 1, [77], x226.h⟩ : OpR)).length) c63 a64 TD.length c65), Zo 5 1 (.slice (some ⟨b222, 0, none⟩) 1 1) 1 ([77].flatMap Zx)] w229 := H230.cast (by simp only [List.length_set, List.length_append, List.length_drop])
    have H232 := H231.pk [0, 1, 2, 3, 4, 5, 6, 7, 8, 9, 10, 11, 12, 16]
    refine ZH ?_ ⟨4, tm, a60, c61, PD, (some ⟨g217, 0, none⟩), c63, (OD.set K7 (⟨x226.i, (some ⟨b222, 0, none⟩), 1, [77], x226.h⟩ : OpR)), a64, c65, TD, (ListAt.row (enc := Z0T) (sz := 6) Z0g (by decide) (H230.at 13 rfl)), (fun p hp => (hps45.all p (hPm p hp)).prw (H230.at 12 rfl) htm2 hla2 hF), (by first | omega | (simp only [List.length_set, List.length_append, List.length_drop, List.length_cons, List.length_nil]; omega)), (by have q := (ListAt.row (enc := Z0J) (sz := 34) Z0D (by decide) (H230.at 14 rfl)); simpa only [List.length_set, List.length_append, List.length_drop] using q), (Z4r (fun o ho => ⟨((hos46 o (hOm o ho)).opk (H230.at 12 rfl)).list, by rw [(hos46 o (hOm o ho)).len]; decide⟩) ⟨ListAt.row Zw (by decide) (H230.at 17 rfl), (show (1 : Nat) ≤ 1000 by decide)⟩), (by first | omega | (simp only [List.length_set, List.length_append, List.length_drop, List.length_cons, List.length_nil]; omega)), (ListAt.row (enc := Z16) (sz := 2) Z0n (by decide) (H230.at 15 rfl)), (fun t ht => (hts48 t (hTm t ht)).tbw (H230.at 12 rfl)), (by first | omega | (simp only [List.length_set, List.length_append, List.length_drop, List.length_cons, List.length_nil]; omega)), H232⟩
    exact zs
   refine Zp <| Z6 ?_
   have H235 := H80.pk [0, 1, 2, 3, 4, 5, 6, 7, 8, 9, 10, 11, 12, 16]
   refine ZH ?_ ⟨4, tm, a60, c61, PD, a62, c63, OD, a64, c65, TD, (ListAt.row (enc := Z0T) (sz := 6) Z0g (by decide) (H80.at 13 rfl)), (fun p hp => (hps45.all p (hPm p hp)).prw (H80.at 12 rfl) htm2 hla2 hF), (by first | omega | (simp only [List.length_set, List.length_append, List.length_drop, List.length_cons, List.length_nil]; omega)), (ListAt.row (enc := Z0J) (sz := 34) Z0D (by decide) (H80.at 14 rfl)), (fun o ho => ⟨((hos46 o (hOm o ho)).opk (H80.at 12 rfl)).list, by rw [(hos46 o (hOm o ho)).len]; decide⟩), (by first | omega | (simp only [List.length_set, List.length_append, List.length_drop, List.length_cons, List.length_nil]; omega)), (ListAt.row (enc := Z16) (sz := 2) Z0n (by decide) (H80.at 15 rfl)), (fun t ht => (hts48 t (hTm t ht)).tbw (H80.at 12 rfl)), (by first | omega | (simp only [List.length_set, List.length_append, List.length_drop, List.length_cons, List.length_nil]; omega)), H235⟩
   exact zs
  refine zsl <| wv 149 (.bool (decide ((Z1 what 14) = 8))) <| wv 148 (.bool (decide ((Z1 what 14) = 8))) <| znt ?_
  refine zid (fun b238 g239 => ?_) fun b238 g258 => ?_
  ·refine ZG <| wv 150 (pt b70 3) <| zw1 151 (.slice a62 OD.length c63) (H80.cell 16 rfl rfl) <| wv 152 (.agg ⟨(Z3d)⟩) <| zy <| Z2z 86 34 64 (.agg ⟨(([(vi 0), (.slice none 0 0)] : LV) ++ hc Zz)⟩) [(0, (.agg ⟨(Z3d)⟩))] (Z3d) H80 ?_
   intro b242 w243 (H244 : Sat w [zR w, Z0 b2 27 (ZF na N.length nc ta TT.length tc ha HH.length hc_ ptm oa OO.length oc ba BB.length bc psk lla LL.length llc pl), Z0 b7 179 (ZN m8), (ZJ m8 LB43), Z0 r9 165 (ZD a41 LB43.length c42), (ZI a10 LG c11), (ZK a12 (Zq 3) c13), Z0 b20 38 (ZC F b7 r9 la a10 LG.length c11 a12 ((Zq 3).length) c13), (ZO a41 LB43 c42), (Zi a32 PS34 c33), (Zd a35 OS37 c36), (Ze a38 TS40 c39), Z0G BG44, (Zi a60 PD c61), (Zd a62 OD c63), (Ze a64 TD c65), Z0 b70 47 (Z0x tm a60 PD.length c61 a62 OD.length c63 a64 TD.length c65), Zo 86 34 (.slice (some ⟨b242, 0, none⟩) 1 1) 1 (Z3d)] w243)
   have H245 : Sat w [zR w, Z0 b2 27 (ZF na N.length nc ta TT.length tc ha HH.length hc_ ptm oa OO.length oc ba BB.length bc psk lla LL.length llc pl), Z0 b7 179 (ZN m8), (ZJ m8 LB43), Z0 r9 165 (ZD a41 LB43.length c42), (ZI a10 LG c11), (ZK a12 (Zq 3) c13), Z0 b20 38 (ZC F b7 r9 la a10 LG.length c11 a12 ((Zq 3).length) c13), (ZO a41 LB43 c42), (Zi a32 PS34 c33), (Zd a35 OS37 c36), (Ze a38 TS40 c39), Z0G BG44, (Zi a60 PD c61), (Zd a62 OD c63), (Ze a64 TD c65), Z0 b70 47 (Z0x tm a60 PD.length c61 a62 OD.length c63 a64 TD.length c65), Zo 86 34 (.slice (some ⟨b242, 0, none⟩) 1 1) 1 ([(⟨1, none, 0, [], Zz⟩ : OpR)].flatMap Z0J)] w243 := H244.cast (by rw [(show ((Z3d) : LV) = [(⟨1, none, 0, [], Zz⟩ : OpR)].flatMap Z0J by kernel_rfl)])
   refine kk <| zy <| Z0t (T := 42) (e := 86) (size := 34) (bytes := 64) rfl H245 kr 14 17 rfl rfl rfl rfl (Z0q Z0J Z4n [(⟨1, none, 0, [], Zz⟩ : OpR)]) om om fun v247 w248 H249 => ?_
   have H252 : Sat w [zR w, Z0 b2 27 (ZF na N.length nc ta TT.length tc ha HH.length hc_ ptm oa OO.length oc ba BB.length bc psk lla LL.length llc pl), Z0 b7 179 (ZN m8), (ZJ m8 LB43), Z0 r9 165 (ZD a41 LB43.length c42), (ZI a10 LG c11), (ZK a12 (Zq 3) c13), Z0 b20 38 (ZC F b7 r9 la a10 LG.length c11 a12 ((Zq 3).length) c13), (ZO a41 LB43 c42), (Zi a32 PS34 c33), (Zd a35 OS37 c36), (Ze a38 TS40 c39), Z0G BG44, (Zi a60 PD c61), Zo 86 34 v247 ((OD ++ [(⟨1, none, 0, [], Zz⟩ : OpR)]).length) ((OD ++ [(⟨1, none, 0, [], Zz⟩ : OpR)]).flatMap Z0J), (Ze a64 TD c65), Z0 b70 47 (Z0x tm a60 PD.length c61 a62 OD.length c63 a64 TD.length c65), Zo 86 34 (.slice (some ⟨b242, 0, none⟩) 1 1) 1 ([(⟨1, none, 0, [], Zz⟩ : OpR)].flatMap Z0J)] w248 := H249.cast (by simp only [List.length_append, List.flatMap_append] <;> rfl)
   obtain ⟨a250, c251, rfl⟩ := Z3 (H252.at 14 rfl)
   refine kk <| wv 155 (pt b70 3) <| zy <| zds (ZD a250 ((OD ++ [(⟨1, none, 0, [], Zz⟩ : OpR)]).length) c251) (Z0x tm a60 PD.length c61 a250 ((OD ++ [(⟨1, none, 0, [], Zz⟩ : OpR)]).length) c251 a64 TD.length c65) H252 16 fun w254 H255 => ?_
   refine kk <| ZL <| Z6 ?_
   have H257 := H255.pk [0, 1, 2, 3, 4, 5, 6, 7, 8, 9, 10, 11, 12, 16]
   refine ZH ?_ ⟨4, tm, a60, c61, PD, a250, c251, (OD ++ [(⟨1, none, 0, [], Zz⟩ : OpR)]), a64, c65, TD, (ListAt.row (enc := Z0T) (sz := 6) Z0g (by decide) (H255.at 13 rfl)), (fun p hp => (hps45.all p (hPm p hp)).prw (H255.at 12 rfl) htm2 hla2 hF), (by first | omega | (simp only [List.length_set, List.length_append, List.length_drop, List.length_cons, List.length_nil]; omega)), (ListAt.row (enc := Z0J) (sz := 34) Z0D (by decide) (H255.at 14 rfl)), (Z7R (fun o ho => ⟨((hos46 o (hOm o ho)).opk (H255.at 12 rfl)).list, by rw [(hos46 o (hOm o ho)).len]; decide⟩) (ZbT ⟨ListAt.nil, (show (0 : Nat) ≤ 1000 by decide)⟩)), (by first | omega | (simp only [List.length_set, List.length_append, List.length_drop, List.length_cons, List.length_nil]; omega)), (ListAt.row (enc := Z16) (sz := 2) Z0n (by decide) (H255.at 15 rfl)), (fun t ht => (hts48 t (hTm t ht)).tbw (H255.at 12 rfl)), (by first | omega | (simp only [List.length_set, List.length_append, List.length_drop, List.length_cons, List.length_nil]; omega)), H257⟩
   exact zs
  refine zsl <| wv 157 (.bool (decide ((Z1 what 14) = 9))) <| wv 156 (.bool (decide ((Z1 what 14) = 9))) <| znt ?_
  refine zid (fun b260 g261 => ?_) fun b260 g275 => ?_
  ·refine ZG <| wv 158 (pt b70 3) <| zw1 159 (.slice a62 OD.length c63) (H80.cell 16 rfl rfl) <| wv 160 (pt b70 3) <| zw1 161 (.slice a62 OD.length c63) (H80.cell 16 rfl rfl) <| zy <| Z0t (T := 42) (e := 86) (size := 34) (bytes := 64) rfl H80 kr 14 14 rfl rfl rfl rfl (Z0q Z0J Z4n OD) om om ?_
   intro v264 w265 (H266 : Sat w [zR w, Z0 b2 27 (ZF na N.length nc ta TT.length tc ha HH.length hc_ ptm oa OO.length oc ba BB.length bc psk lla LL.length llc pl), Z0 b7 179 (ZN m8), (ZJ m8 LB43), Z0 r9 165 (ZD a41 LB43.length c42), (ZI a10 LG c11), (ZK a12 (Zq 3) c13), Z0 b20 38 (ZC F b7 r9 la a10 LG.length c11 a12 ((Zq 3).length) c13), (ZO a41 LB43 c42), (Zi a32 PS34 c33), (Zd a35 OS37 c36), (Ze a38 TS40 c39), Z0G BG44, (Zi a60 PD c61), Zo 86 34 v264 (OD.length + OD.length) ((OD.flatMap Z0J) ++ (OD.flatMap Z0J)), (Ze a64 TD c65), Z0 b70 47 (Z0x tm a60 PD.length c61 a62 OD.length c63 a64 TD.length c65)] w265)
   have H269 := H266.ct 14 rfl (Zo 86 34 v264 ((OD ++ OD).length) ((OD ++ OD).flatMap Z0J)) ja
   obtain ⟨a267, c268, rfl⟩ := Z3 (H269.at 14 rfl)
   refine kk <| wv 163 (pt b70 3) <| zy <| zds (ZD a267 ((OD ++ OD).length) c268) (Z0x tm a60 PD.length c61 a267 ((OD ++ OD).length) c268 a64 TD.length c65) H269 16 ?_
   intro w271 (H272 : Sat w [zR w, Z0 b2 27 (ZF na N.length nc ta TT.length tc ha HH.length hc_ ptm oa OO.length oc ba BB.length bc psk lla LL.length llc pl), Z0 b7 179 (ZN m8), (ZJ m8 LB43), Z0 r9 165 (ZD a41 LB43.length c42), (ZI a10 LG c11), (ZK a12 (Zq 3) c13), Z0 b20 38 (ZC F b7 r9 la a10 LG.length c11 a12 ((Zq 3).length) c13), (ZO a41 LB43 c42), (Zi a32 PS34 c33), (Zd a35 OS37 c36), (Ze a38 TS40 c39), Z0G BG44, (Zi a60 PD c61), (Zd a267 (OD ++ OD) c268), (Ze a64 TD c65), Z0 b70 47 (Z0x tm a60 PD.length c61 a267 ((OD ++ OD).length) c268 a64 TD.length c65)] w271)
   refine kk <| ZL <| Z6 ?_
   have H274 := H272.pk [0, 1, 2, 3, 4, 5, 6, 7, 8, 9, 10, 11, 12, 16]
   refine ZH ?_ ⟨4, tm, a60, c61, PD, a267, c268, (OD ++ OD), a64, c65, TD, (ListAt.row (enc := Z0T) (sz := 6) Z0g (by decide) (H272.at 13 rfl)), (fun p hp => (hps45.all p (hPm p hp)).prw (H272.at 12 rfl) htm2 hla2 hF), (by first | omega | (simp only [List.length_set, List.length_append, List.length_drop, List.length_cons, List.length_nil]; omega)), (ListAt.row (enc := Z0J) (sz := 34) Z0D (by decide) (H272.at 14 rfl)), (Z7R (fun o ho => ⟨((hos46 o (hOm o ho)).opk (H272.at 12 rfl)).list, by rw [(hos46 o (hOm o ho)).len]; decide⟩) (fun o ho => ⟨((hos46 o (hOm o ho)).opk (H272.at 12 rfl)).list, by rw [(hos46 o (hOm o ho)).len]; decide⟩)), (by first | omega | (simp only [List.length_set, List.length_append, List.length_drop, List.length_cons, List.length_nil]; omega)), (ListAt.row (enc := Z16) (sz := 2) Z0n (by decide) (H272.at 15 rfl)), (fun t ht => (hts48 t (hTm t ht)).tbw (H272.at 12 rfl)), (by first | omega | (simp only [List.length_set, List.length_append, List.length_drop, List.length_cons, List.length_nil]; omega)), H274⟩
   exact zs
  refine zsl <| wv 165 (.bool (decide ((Z1 what 14) = 10))) <| wv 164 (.bool (decide ((Z1 what 14) = 10))) <| znt ?_
  refine zid (fun b277 g278 => ?_) fun b277 g305 => ?_
  ·refine zsl <| wv 166 (pt b70 4) <| zw1 167 (.slice a64 TD.length c65) (H80.cell 16 rfl rfl) <| wv 168 (vi TD.length) <| wv 23 (vi TD.length) <| Z1a <| wv 169 (vi TD.length) <| wv 170 (.bool (decide ((TD.length : Int) > 0))) <| znt ?_
   refine zid (fun b280 g281 => ?_) fun b280 g302 => ?_
   ·refine zsl <| wv 171 (vi at_) <| wv 172 (vi TD.length) <| zy <| zdq 173 (Z1N w79 at_ (TD.length : Int) om) H80 fun w284 H285 => ?_
    refine kk <| wv 24 (vi (Z1 at_ (TD.length : Int))) <| znt ?_
    have hwK10 := Z1k at_ (TD.length : Int) om
    obtain ⟨K10, hK10⟩ : ∃ K : Nat, (K : Int) = Z1 at_ (TD.length : Int) := ⟨(Z1 at_ (TD.length : Int)).toNat, by omega⟩
    have hlK10 : K10 < TD.length := by omega
    refine Zn 24 (vi K10) (show ((vi (Z1 at_ (TD.length : Int))) : Value) = _ by rw [hK10]) ?_
    have hgT : ∀ t ∈ TD, 1 ≤ t.D.length ∧ 0 ≤ t.i ∧ t.i ≤ 6 := fun t ht => ⟨(hts48 t (hTm t ht)).pos hF.1, (hts48 t (hTm t ht)).i⟩
    obtain ⟨g287, c288, e289⟩ := Z1A (H285.at 15 rfl) om
    obtain rfl : a64 = some ⟨g287, 0, none⟩ := Z2m e289
    have H290 := H285
    obtain ⟨x291, h292⟩ := Z2P (show K10 < TD.length by omega)
    have htx291 := hgT x291 (List.mem_of_getElem? h292)
    refine Z0Z H290 [zR w, Z0 b2 27 (ZF na N.length nc ta TT.length tc ha HH.length hc_ ptm oa OO.length oc ba BB.length bc psk lla LL.length llc pl), Z0 b7 179 (ZN m8), (ZJ m8 LB43), Z0 r9 165 (ZD a41 LB43.length c42), (ZI a10 LG c11), (ZK a12 (Zq 3) c13), Z0 b20 38 (ZC F b7 r9 la a10 LG.length c11 a12 ((Zq 3).length) c13), (ZO a41 LB43 c42), (Zi a32 PS34 c33), (Zd a35 OS37 c36), (Ze a38 TS40 c39), Z0G BG44, (Zi a60 PD c61), (Zd a62 OD c63), (Ze (some ⟨g287, 0, none⟩) TD c65), Z0 b70 47 (Z0L tm a60 PD.length c61 a62 OD.length c63 g287 TD.length c65)] [12] 13 rfl kr (fun Hx => (Hx.pk [0, 1, 2, 3, 4, 5, 6, 7, 8, 9, 10, 11, 12, 13, 14, 15, 16])) ?_
    intro w293 H294 S295
    refine zkp 0 S295 174 (pt b70 4) <| zkv 1 S295 175 (.slice (some ⟨g287, 0, none⟩) TD.length c65) ?_ (he := fun _ H' => (zl1 (H'.cell 16 rfl rfl)))
    refine zkp 2 S295 176 (vi K10) <| zkp 3 S295 177 (pt b70 4) <| zkv 4 S295 178 (.slice (some ⟨g287, 0, none⟩) TD.length c65) ?_ (he := fun _ H' => (zl1 (H'.cell 16 rfl rfl)))
    refine zkp 5 S295 179 (vi K10) <| zkp 6 S295 180 (.pointer (some ⟨g287, 0 + ((K10 : Int)).toNat * 2, none⟩)) ?_ (he := fun _ => (Z0k (E := 89) kr kr kn rfl rfl om om))
    refine zkp 7 S295 181 (.pointer (some ⟨g287, 0 + ((K10 : Int)).toNat * 2 + 1, none⟩)) <| zkv 8 S295 182 (.slice x291.da x291.D.length x291.dc) ?_ (he := fun _ H' => (zl1 (Z1U (H'.at 15 rfl) rfl Z0n h292 1 rfl (show 0 + ((K10 : Int)).toNat * 2 + 1 = K10 * 2 + 1 by omega) kr)))
    refine zkp 9 S295 183 (.slice (if x291.dc = 1 then x291.da else x291.da.map (·.add (1 * 4))) (x291.D.length - 1) (x291.dc - 1)) ?_ (he := fun _ => (Z35 (E := 122) (q := 1) kr kr rfl rfl rfl om))
    refine zkp 10 S295 184 (.pointer (some ⟨g287, 0 + ((K10 : Int)).toNat * 2, none⟩)) ?_ (he := fun _ => (Z0k (E := 89) kr kr kn rfl rfl om om))
    refine zkp 11 S295 185 (.pointer (some ⟨g287, 0 + ((K10 : Int)).toNat * 2 + 1, none⟩)) <| Z2B 12 (Sat w [zR w, Z0 b2 27 (ZF na N.length nc ta TT.length tc ha HH.length hc_ ptm oa OO.length oc ba BB.length bc psk lla LL.length llc pl), Z0 b7 179 (ZN m8), (ZJ m8 LB43), Z0 r9 165 (ZD a41 LB43.length c42), (ZI a10 LG c11), (ZK a12 (Zq 3) c13), Z0 b20 38 (ZC F b7 r9 la a10 LG.length c11 a12 ((Zq 3).length) c13), (ZO a41 LB43 c42), (Zi a32 PS34 c33), (Zd a35 OS37 c36), (Ze a38 TS40 c39), Z0G BG44, (Zi a60 PD c61), (Zd a62 OD c63), Z0 b70 47 (Z0L tm a60 PD.length c61 a62 OD.length c63 g287 TD.length c65)]) rfl kr (Zc rfl) rfl (fun Kq kq => ?_)
    refine Z3m (size := 2) (vs := (ZD (if x291.dc = 1 then x291.da else x291.da.map (·.add (1 * 4))) (x291.D.length - 1) (x291.dc - 1))) Z0n rfl H294 15 rfl rfl rfl rfl kr kn kr K10 1 (⟨x291.i, (if x291.dc = 1 then x291.da else x291.da.map (·.add (1 * 4))), (x291.dc - 1), (x291.D.drop 1)⟩ : TbR) h292 (show 0 + ((K10 : Int)).toNat * 2 + 1 = K10 * 2 + 1 by omega) kn (by simp [Z1m, Z16]) ?_
    intro w297 (H298 : Sat w [zR w, Z0 b2 27 (ZF na N.length nc ta TT.length tc ha HH.length hc_ ptm oa OO.length oc ba BB.length bc psk lla LL.length llc pl), Z0 b7 179 (ZN m8), (ZJ m8 LB43), Z0 r9 165 (ZD a41 LB43.length c42), (ZI a10 LG c11), (ZK a12 (Zq 3) c13), Z0 b20 38 (ZC F b7 r9 la a10 LG.length c11 a12 ((Zq 3).length) c13), (ZO a41 LB43 c42), (Zi a32 PS34 c33), (Zd a35 OS37 c36), (Ze a38 TS40 c39), Z0G BG44, (Zi a60 PD c61), (Zd a62 OD c63), Zo 89 2 (.slice (some ⟨g287, 0, none⟩) TD.length c65) TD.length ((TD.set K10 (⟨x291.i, (if x291.dc = 1 then x291.da else x291.da.map (·.add (1 * 4))), (x291.dc - 1), (x291.D.drop 1)⟩ : TbR)).flatMap Z16), Z0 b70 47 (Z0L tm a60 PD.length c61 a62 OD.length c63 g287 TD.length c65)] w297)
    have hlw297 : (TD.set K10 (⟨x291.i, (if x291.dc = 1 then x291.da else x291.da.map (·.add (1 * 4))), (x291.dc - 1), (x291.D.drop 1)⟩ : TbR)).length = TD.length := List.length_set
    have S299 := H298.pk [0, 1, 2, 3, 4, 5, 6, 7, 8, 9, 10, 11, 12, 13, 14, 16]
    refine kq _ _ S299 <| zhf <| Z6 ?_
    have H300 := H298.ct 16 rfl (Z0 b70 47 (Z0L tm a60 PD.length c61 a62 OD.length c63 g287 ((TD.set K10 (⟨x291.i, (if x291.dc = 1 then x291.da else x291.da.map (·.add (1 * 4))), (x291.dc - 1), (x291.D.drop 1)⟩ : TbR)).length) c65)) (by simp only [List.length_set, List.length_append, List.length_drop])
    have H301 := H300.pk [0, 1, 2, 3, 4, 5, 6, 7, 8, 9, 10, 11, 12, 16]
    refine ZH ?_ ⟨4, tm, a60, c61, PD, a62, c63, OD, (some ⟨g287, 0, none⟩), c65, (TD.set K10 (⟨x291.i, (if x291.dc = 1 then x291.da else x291.da.map (·.add (1 * 4))), (x291.dc - 1), (x291.D.drop 1)⟩ : TbR)), (ListAt.row (enc := Z0T) (sz := 6) Z0g (by decide) (H298.at 13 rfl)), (fun p hp => (hps45.all p (hPm p hp)).prw (H298.at 12 rfl) htm2 hla2 hF), (by first | omega | (simp only [List.length_set, List.length_append, List.length_drop, List.length_cons, List.length_nil]; omega)), (ListAt.row (enc := Z0J) (sz := 34) Z0D (by decide) (H298.at 14 rfl)), (fun o ho => ⟨((hos46 o (hOm o ho)).opk (H298.at 12 rfl)).list, by rw [(hos46 o (hOm o ho)).len]; decide⟩), (by first | omega | (simp only [List.length_set, List.length_append, List.length_drop, List.length_cons, List.length_nil]; omega)), (by have q := (ListAt.row (enc := Z16) (sz := 2) Z0n (by decide) (H298.at 15 rfl)); simpa only [List.length_set, List.length_append, List.length_drop] using q), (Z4r (fun t ht => (hts48 t (hTm t ht)).tbw (H298.at 12 rfl)) (((hts48 _ (hTm _ (List.mem_of_getElem? h292))).tbw (H298.at 12 rfl)).drop (by have q := (ListAt.dropG (k := 1) (((hts48 _ (hTm _ (List.mem_of_getElem? h292))).tbw (H298.at 12 rfl))).D om); rwa [← List.length_drop] at q))), (by first | omega | (simp only [List.length_set, List.length_append, List.length_drop, List.length_cons, List.length_nil]; omega)), H301⟩
    exact zs
   refine Zp <| Z6 ?_
   have H304 := H80.pk [0, 1, 2, 3, 4, 5, 6, 7, 8, 9, 10, 11, 12, 16]
   refine ZH ?_ ⟨4, tm, a60, c61, PD, a62, c63, OD, a64, c65, TD, (ListAt.row (enc := Z0T) (sz := 6) Z0g (by decide) (H80.at 13 rfl)), (fun p hp => (hps45.all p (hPm p hp)).prw (H80.at 12 rfl) htm2 hla2 hF), (by first | omega | (simp only [List.length_set, List.length_append, List.length_drop, List.length_cons, List.length_nil]; omega)), (ListAt.row (enc := Z0J) (sz := 34) Z0D (by decide) (H80.at 14 rfl)), (fun o ho => ⟨((hos46 o (hOm o ho)).opk (H80.at 12 rfl)).list, by rw [(hos46 o (hOm o ho)).len]; decide⟩), (by first | omega | (simp only [List.length_set, List.length_append, List.length_drop, List.length_cons, List.length_nil]; omega)), (ListAt.row (enc := Z16) (sz := 2) Z0n (by decide) (H80.at 15 rfl)), (fun t ht => (hts48 t (hTm t ht)).tbw (H80.at 12 rfl)), (by first | omega | (simp only [List.length_set, List.length_append, List.length_drop, List.length_cons, List.length_nil]; omega)), H304⟩
   exact zs
  refine zsl <| wv 187 (.bool (decide ((Z1 what 14) = 11))) <| wv 186 (.bool (decide ((Z1 what 14) = 11))) <| znt ?_
  refine zid (fun b307 g308 => ?_) fun b307 g351 => ?_
  ·refine zsl <| wv 188 (pt b70 4) <| zw1 189 (.slice a64 TD.length c65) (H80.cell 16 rfl rfl) <| wv 190 (vi TD.length) <| wv 25 (vi TD.length) <| Z1a <| wv 191 (vi TD.length) <| wv 192 (.bool (decide ((TD.length : Int) > 0))) <| znt ?_
   refine zid (fun b310 g311 => ?_) fun b310 g348 => ?_
   ·have hgT : ∀ t ∈ TD, 1 ≤ t.D.length ∧ 0 ≤ t.i ∧ t.i ≤ 6 := fun t ht => ⟨(hts48 t (hTm t ht)).pos hF.1, (hts48 t (hTm t ht)).i⟩
    obtain ⟨g313, c314, e315⟩ := Z1A (H80.at 15 rfl) om
    obtain rfl : a64 = some ⟨g313, 0, none⟩ := Z2m e315
    have H316 : Sat w [zR w, Z0 b2 27 (ZF na N.length nc ta TT.length tc ha HH.length hc_ ptm oa OO.length oc ba BB.length bc psk lla LL.length llc pl), Z0 b7 179 (ZN m8), (ZJ m8 LB43), Z0 r9 165 (ZD a41 LB43.length c42), (ZI a10 LG c11), (ZK a12 (Zq 3) c13), Z0 b20 38 (ZC F b7 r9 la a10 LG.length c11 a12 ((Zq 3).length) c13), (ZO a41 LB43 c42), (Zi a32 PS34 c33), (Zd a35 OS37 c36), (Ze a38 TS40 c39), Z0G BG44, (Zi a60 PD c61), (Zd a62 OD c63), (Ze (some ⟨g313, 0, none⟩) TD c65), Z0 b70 47 (Z0L tm a60 PD.length c61 a62 OD.length c63 g313 TD.length c65)] w79 := H80
    obtain ⟨x317, h318⟩ := Z2P (show 0 < TD.length by omega)
    have htx317 := hgT x317 (List.mem_of_getElem? h318)
    refine Z0Z H316 [zR w, Z0 b2 27 (ZF na N.length nc ta TT.length tc ha HH.length hc_ ptm oa OO.length oc ba BB.length bc psk lla LL.length llc pl), Z0 b7 179 (ZN m8), (ZJ m8 LB43), Z0 r9 165 (ZD a41 LB43.length c42), (ZI a10 LG c11), (ZK a12 (Zq 3) c13), Z0 b20 38 (ZC F b7 r9 la a10 LG.length c11 a12 ((Zq 3).length) c13), (ZO a41 LB43 c42), (Zi a32 PS34 c33), (Zd a35 OS37 c36), (Ze a38 TS40 c39), Z0G BG44, (Zi a60 PD c61), (Zd a62 OD c63), (Ze (some ⟨g313, 0, none⟩) TD c65), Z0 b70 47 (Z0L tm a60 PD.length c61 a62 OD.length c63 g313 TD.length c65)] [19] 20 rfl kr (fun Hx => (Hx.pk [0, 1, 2, 3, 4, 5, 6, 7, 8, 9, 10, 11, 12, 13, 14, 15, 16])) ?_
    intro w319 H320 S321
    refine zkp 0 S321 193 (pt b70 4) <| zkv 1 S321 194 (.slice (some ⟨g313, 0, none⟩) TD.length c65) ?_ (he := fun _ H' => (zl1 (H'.cell 16 rfl rfl)))
    refine zkp 2 S321 195 (.pointer (some ⟨g313, 0 + ((0 : Int)).toNat * 2, none⟩)) ?_ (he := fun _ => (Z0k (E := 89) kr kr kn rfl rfl om om))
    refine zkp 3 S321 196 (.pointer (some ⟨g313, 0 + ((0 : Int)).toNat * 2, none⟩)) <| zkv 4 S321 197 (vi x317.i) ?_ (he := fun _ H' => (zl1 (Z1U (H'.at 15 rfl) rfl Z0n h318 0 rfl (show 0 + ((0 : Int)).toNat * 2 = 0 * 2 + 0 by omega) kr)))
    refine zkp 5 S321 198 (pt b70 4) <| zkv 6 S321 199 (.slice (some ⟨g313, 0, none⟩) TD.length c65) ?_ (he := fun _ H' => (zl1 (H'.cell 16 rfl rfl)))
    refine zkp 7 S321 200 (.pointer (some ⟨g313, 0 + ((0 : Int)).toNat * 2, none⟩)) ?_ (he := fun _ => (Z0k (E := 89) kr kr kn rfl rfl om om))
    refine zkp 8 S321 201 (.pointer (some ⟨g313, 0 + ((0 : Int)).toNat * 2, none⟩)) <| zkv 9 S321 202 (vi x317.i) ?_ (he := fun _ H' => (zl1 (Z1U (H'.at 15 rfl) rfl Z0n h318 0 rfl (show 0 + ((0 : Int)).toNat * 2 = 0 * 2 + 0 by omega) kr)))
    refine zkp 10 S321 203 (vi (x317.i / 2)) ?_ (he := fun _ => (ZbR kr om om (IntWalk.i64_in _ om)))
    refine zkp 11 S321 204 (.int .u8 (x317.i / 2)) ?_ (he := fun _ => (Z0A (z := x317.i / 2) kr (Z6n om)))
    refine zkp 15 S321 208 (pt b70 3) <| zkv 16 S321 209 (.slice a62 OD.length c63) ?_ (he := fun _ H' => (zl1 (H'.cell 16 rfl rfl)))
    refine zky 12 ?_
    refine Z2z 5 1 1 (.int .u8 (0)) [(0, (.int .u8 (x317.i / 2)))] ([(.int .u8 (x317.i / 2))] : LV) H320 ?_
    intro b323 w324 (H325 : Sat w [zR w, Z0 b2 27 (ZF na N.length nc ta TT.length tc ha HH.length hc_ ptm oa OO.length oc ba BB.length bc psk lla LL.length llc pl), Z0 b7 179 (ZN m8), (ZJ m8 LB43), Z0 r9 165 (ZD a41 LB43.length c42), (ZI a10 LG c11), (ZK a12 (Zq 3) c13), Z0 b20 38 (ZC F b7 r9 la a10 LG.length c11 a12 ((Zq 3).length) c13), (ZO a41 LB43 c42), (Zi a32 PS34 c33), (Zd a35 OS37 c36), (Ze a38 TS40 c39), Z0G BG44, (Zi a60 PD c61), (Zd a62 OD c63), (Ze (some ⟨g313, 0, none⟩) TD c65), Z0 b70 47 (Z0L tm a60 PD.length c61 a62 OD.length c63 g313 TD.length c65), Zo 5 1 (.slice (some ⟨b323, 0, none⟩) 1 1) 1 ([(.int .u8 (x317.i / 2))] : LV)] w324)
    have H326 : Sat w [zR w, Z0 b2 27 (ZF na N.length nc ta TT.length tc ha HH.length hc_ ptm oa OO.length oc ba BB.length bc psk lla LL.length llc pl), Z0 b7 179 (ZN m8), (ZJ m8 LB43), Z0 r9 165 (ZD a41 LB43.length c42), (ZI a10 LG c11), (ZK a12 (Zq 3) c13), Z0 b20 38 (ZC F b7 r9 la a10 LG.length c11 a12 ((Zq 3).length) c13), (ZO a41 LB43 c42), (Zi a32 PS34 c33), (Zd a35 OS37 c36), (Ze a38 TS40 c39), Z0G BG44, (Zi a60 PD c61), (Zd a62 OD c63), (Ze (some ⟨g313, 0, none⟩) TD c65), Z0 b70 47 (Z0L tm a60 PD.length c61 a62 OD.length c63 g313 TD.length c65), Zo 5 1 (.slice (some ⟨b323, 0, none⟩) 1 1) 1 ([UInt8.ofNat (x317.i / 2).toNat].flatMap Zx)] w324 := H325.cast (by rw [Z33 om])
    have S327 := H326.pk [0, 1, 2, 3, 4, 5, 6, 7, 8, 9, 10, 11, 12, 13, 14, 15, 16]
    refine ke S327 <| Z2s 13 rfl kr kr kr (fun _ _ _ h => h) S327 (Zc rfl) rfl (d := 206) (v := (.agg ⟨(Z38 x317.i b323)⟩)) rfl (fun _ => kr) ?_
    refine zky 14 ?_
    refine Z2z 86 34 64 (.agg ⟨(([(vi 0), (.slice none 0 0)] : LV) ++ hc Zz)⟩) [(0, (.agg ⟨(Z38 x317.i b323)⟩))] (Z38 x317.i b323) H326 ?_
    intro b329 w330 (H331 : Sat w [zR w, Z0 b2 27 (ZF na N.length nc ta TT.length tc ha HH.length hc_ ptm oa OO.length oc ba BB.length bc psk lla LL.length llc pl), Z0 b7 179 (ZN m8), (ZJ m8 LB43), Z0 r9 165 (ZD a41 LB43.length c42), (ZI a10 LG c11), (ZK a12 (Zq 3) c13), Z0 b20 38 (ZC F b7 r9 la a10 LG.length c11 a12 ((Zq 3).length) c13), (ZO a41 LB43 c42), (Zi a32 PS34 c33), (Zd a35 OS37 c36), (Ze a38 TS40 c39), Z0G BG44, (Zi a60 PD c61), (Zd a62 OD c63), (Ze (some ⟨g313, 0, none⟩) TD c65), Z0 b70 47 (Z0L tm a60 PD.length c61 a62 OD.length c63 g313 TD.length c65), Zo 5 1 (.slice (some ⟨b323, 0, none⟩) 1 1) 1 ([UInt8.ofNat (x317.i / 2).toNat].flatMap Zx), Zo 86 34 (.slice (some ⟨b329, 0, none⟩) 1 1) 1 (Z38 x317.i b323)] w330)
    have H332 : Sat w [zR w, Z0 b2 27 (ZF na N.length nc ta TT.length tc ha HH.length hc_ ptm oa OO.length oc ba BB.length bc psk lla LL.length llc pl), Z0 b7 179 (ZN m8), (ZJ m8 LB43), Z0 r9 165 (ZD a41 LB43.length c42), (ZI a10 LG c11), (ZK a12 (Zq 3) c13), Z0 b20 38 (ZC F b7 r9 la a10 LG.length c11 a12 ((Zq 3).length) c13), (ZO a41 LB43 c42), (Zi a32 PS34 c33), (Zd a35 OS37 c36), (Ze a38 TS40 c39), Z0G BG44, (Zi a60 PD c61), (Zd a62 OD c63), (Ze (some ⟨g313, 0, none⟩) TD c65), Z0 b70 47 (Z0L tm a60 PD.length c61 a62 OD.length c63 g313 TD.length c65), Zo 5 1 (.slice (some ⟨b323, 0, none⟩) 1 1) 1 ([UInt8.ofNat (x317.i / 2).toNat].flatMap Zx), Zo 86 34 (.slice (some ⟨b329, 0, none⟩) 1 1) 1 ([(⟨x317.i, (some ⟨b323, 0, none⟩), 1, [UInt8.ofNat (x317.i / 2).toNat], Zz⟩ : OpR)].flatMap Z0J)] w330 := H331.cast (by rw [(show ((Z38 x317.i b323) : LV) = [(⟨x317.i, (some ⟨b323, 0, none⟩), 1, [UInt8.ofNat (x317.i / 2).toNat], Zz⟩ : OpR)].flatMap Z0J by kernel_rfl)])
    have S333 := H332.pk [0, 1, 2, 3, 4, 5, 6, 7, 8, 9, 10, 11, 12, 13, 14, 15, 16]
    refine ke S333 <| zky 17 ?_
    refine Z0t (T := 42) (e := 86) (size := 34) (bytes := 64) rfl H332 kr 18 14 rfl rfl rfl rfl (Z0q Z0J Z4n OD) om om ?_
    intro v335 w336 H337
    have H340 : Sat w [zR w, Z0 b2 27 (ZF na N.length nc ta TT.length tc ha HH.length hc_ ptm oa OO.length oc ba BB.length bc psk lla LL.length llc pl), Z0 b7 179 (ZN m8), (ZJ m8 LB43), Z0 r9 165 (ZD a41 LB43.length c42), (ZI a10 LG c11), (ZK a12 (Zq 3) c13), Z0 b20 38 (ZC F b7 r9 la a10 LG.length c11 a12 ((Zq 3).length) c13), (ZO a41 LB43 c42), (Zi a32 PS34 c33), (Zd a35 OS37 c36), (Ze a38 TS40 c39), Z0G BG44, (Zi a60 PD c61), (Zd a62 OD c63), (Ze (some ⟨g313, 0, none⟩) TD c65), Z0 b70 47 (Z0L tm a60 PD.length c61 a62 OD.length c63 g313 TD.length c65), Zo 5 1 (.slice (some ⟨b323, 0, none⟩) 1 1) 1 ([UInt8.ofNat (x317.i / 2).toNat].flatMap Zx), Zo 86 34 v335 (([(⟨x317.i, (some ⟨b323, 0, none⟩), 1, [UInt8.ofNat (x317.i / 2).toNat], Zz⟩ : OpR)] ++ OD).length) (([(⟨x317.i, (some ⟨b323, 0, none⟩), 1, [UInt8.ofNat (x317.i / 2).toNat], Zz⟩ : OpR)] ++ OD).flatMap Z0J)] w336 := H337.cast (by simp only [List.length_append, List.flatMap_append] <;> rfl)
    obtain ⟨a338, c339, rfl⟩ := Z3 (H340.at 18 rfl)
    have S341 := H340.pk [0, 1, 2, 3, 4, 5, 6, 7, 8, 9, 10, 11, 12, 13, 14, 15, 16]
    refine ke S341 <| zkp 18 S341 211 (pt b70 3) <| Z2B 19 (Sat w [zR w, Z0 b2 27 (ZF na N.length nc ta TT.length tc ha HH.length hc_ ptm oa OO.length oc ba BB.length bc psk lla LL.length llc pl), Z0 b7 179 (ZN m8), (ZJ m8 LB43), Z0 r9 165 (ZD a41 LB43.length c42), (ZI a10 LG c11), (ZK a12 (Zq 3) c13), Z0 b20 38 (ZC F b7 r9 la a10 LG.length c11 a12 ((Zq 3).length) c13), (ZO a41 LB43 c42), (Zi a32 PS34 c33), (Zd a35 OS37 c36), (Ze a38 TS40 c39), Z0G BG44, (Zi a60 PD c61), (Zd a62 OD c63), (Ze (some ⟨g313, 0, none⟩) TD c65)]) rfl kr (Zc rfl) rfl (fun Kq kq => ?_)
    refine zds (ZD a338 (([(⟨x317.i, (some ⟨b323, 0, none⟩), 1, [UInt8.ofNat (x317.i / 2).toNat], Zz⟩ : OpR)] ++ OD).length) c339) (Z0L tm a60 PD.length c61 a338 (([(⟨x317.i, (some ⟨b323, 0, none⟩), 1, [UInt8.ofNat (x317.i / 2).toNat], Zz⟩ : OpR)] ++ OD).length) c339 g313 TD.length c65) H340 16 ?_
    intro w343 H344
    have S346 := H344.pk [0, 1, 2, 3, 4, 5, 6, 7, 8, 9, 10, 11, 12, 13, 14, 15]
    refine kq _ _ S346 <| zhf <| Z6 ?_
    have H347 := H344.pk [0, 1, 2, 3, 4, 5, 6, 7, 8, 9, 10, 11, 12, 16]
    refine ZH ?_ ⟨4, tm, a60, c61, PD, a338, c339, ([(⟨x317.i, (some ⟨b323, 0, none⟩), 1, [UInt8.ofNat (x317.i / 2).toNat], Zz⟩ : OpR)] ++ OD), (some ⟨g313, 0, none⟩), c65, TD, (ListAt.row (enc := Z0T) (sz := 6) Z0g (by decide) (H344.at 13 rfl)), (fun p hp => (hps45.all p (hPm p hp)).prw (H344.at 12 rfl) htm2 hla2 hF), (by first | omega | (simp only [List.length_set, List.length_append, List.length_drop, List.length_cons, List.length_nil]; omega)), (ListAt.row (enc := Z0J) (sz := 34) Z0D (by decide) (H344.at 18 rfl)), (Z7R (ZbT ⟨ListAt.row Zw (by decide) (H344.at 17 rfl), (show (1 : Nat) ≤ 1000 by decide)⟩) (fun o ho => ⟨((hos46 o (hOm o ho)).opk (H344.at 12 rfl)).list, by rw [(hos46 o (hOm o ho)).len]; decide⟩)), (by first | omega | (simp only [List.length_set, List.length_append, List.length_drop, List.length_cons, List.length_nil]; omega)), (ListAt.row (enc := Z16) (sz := 2) Z0n (by decide) (H344.at 15 rfl)), (fun t ht => (hts48 t (hTm t ht)).tbw (H344.at 12 rfl)), (by first | omega | (simp only [List.length_set, List.length_append, List.length_drop, List.length_cons, List.length_nil]; omega)), H347⟩
    exact zs
   refine Zp <| Z6 ?_
   have H350 := H80.pk [0, 1, 2, 3, 4, 5, 6, 7, 8, 9, 10, 11, 12, 16]
   refine ZH ?_ ⟨4, tm, a60, c61, PD, a62, c63, OD, a64, c65, TD, (ListAt.row (enc := Z0T) (sz := 6) Z0g (by decide) (H80.at 13 rfl)), (fun p hp => (hps45.all p (hPm p hp)).prw (H80.at 12 rfl) htm2 hla2 hF), (by first | omega | (simp only [List.length_set, List.length_append, List.length_drop, List.length_cons, List.length_nil]; omega)), (ListAt.row (enc := Z0J) (sz := 34) Z0D (by decide) (H80.at 14 rfl)), (fun o ho => ⟨((hos46 o (hOm o ho)).opk (H80.at 12 rfl)).list, by rw [(hos46 o (hOm o ho)).len]; decide⟩), (by first | omega | (simp only [List.length_set, List.length_append, List.length_drop, List.length_cons, List.length_nil]; omega)), (ListAt.row (enc := Z16) (sz := 2) Z0n (by decide) (H80.at 15 rfl)), (fun t ht => (hts48 t (hTm t ht)).tbw (H80.at 12 rfl)), (by first | omega | (simp only [List.length_set, List.length_append, List.length_drop, List.length_cons, List.length_nil]; omega)), H350⟩
   exact zs
  refine zsl <| wv 213 (.bool (decide ((Z1 what 14) = 12))) <| wv 212 (.bool (decide ((Z1 what 14) = 12))) <| znt ?_
  refine zid (fun b353 g354 => ?_) fun b353 g373 => ?_
  ·refine zsl <| wv 214 (pt b70 4) <| zw1 215 (.slice a64 TD.length c65) (H80.cell 16 rfl rfl) <| wv 216 (vi TD.length) <| wv 26 (vi TD.length) <| Z1a <| wv 217 (vi TD.length) <| wv 218 (.bool (decide ((TD.length : Int) > 0))) <| znt ?_
   refine zid (fun b356 g357 => ?_) fun b356 g370 => ?_
   ·have hgT : ∀ t ∈ TD, 1 ≤ t.D.length ∧ 0 ≤ t.i ∧ t.i ≤ 6 := fun t ht => ⟨(hts48 t (hTm t ht)).pos hF.1, (hts48 t (hTm t ht)).i⟩
    obtain ⟨g359, c360, e361⟩ := Z1A (H80.at 15 rfl) om
    obtain rfl : a64 = some ⟨g359, 0, none⟩ := Z2m e361
    have H362 : Sat w [zR w, Z0 b2 27 (ZF na N.length nc ta TT.length tc ha HH.length hc_ ptm oa OO.length oc ba BB.length bc psk lla LL.length llc pl), Z0 b7 179 (ZN m8), (ZJ m8 LB43), Z0 r9 165 (ZD a41 LB43.length c42), (ZI a10 LG c11), (ZK a12 (Zq 3) c13), Z0 b20 38 (ZC F b7 r9 la a10 LG.length c11 a12 ((Zq 3).length) c13), (ZO a41 LB43 c42), (Zi a32 PS34 c33), (Zd a35 OS37 c36), (Ze a38 TS40 c39), Z0G BG44, (Zi a60 PD c61), (Zd a62 OD c63), (Ze (some ⟨g359, 0, none⟩) TD c65), Z0 b70 47 (Z0L tm a60 PD.length c61 a62 OD.length c63 g359 TD.length c65)] w79 := H80
    refine ZG <| wv 219 (pt b70 4) <| zw1 220 (.slice (some ⟨g359, 0, none⟩) TD.length c65) (H362.cell 16 rfl rfl) ?_
    obtain ⟨x363, h364⟩ := Z2P (show 0 < TD.length by omega)
    have htx363 := hgT x363 (List.mem_of_getElem? h364)
    refine wv 221 (.pointer (some ⟨g359, 0 + ((0 : Int)).toNat * 2, none⟩)) ?_ (hr := Z0k (E := 89) kr kr kn rfl rfl om om)
    refine wv 222 (.pointer (some ⟨g359, 0 + ((0 : Int)).toNat * 2, none⟩)) <| zw1 223 (vi x363.i) (Z1U (H362.at 15 rfl) rfl Z0n h364 0 rfl (show 0 + ((0 : Int)).toNat * 2 = 0 * 2 + 0 by omega) kr) <| zwi 224 (x363.i + 1) <| wv 225 (.pointer (some ⟨g359, 0 + ((0 : Int)).toNat * 2, none⟩)) ?_ (hr := Z0k (E := 89) kr kr kn rfl rfl om om)
    refine wv 226 (.pointer (some ⟨g359, 0 + ((0 : Int)).toNat * 2, none⟩)) <| zy <| Z3m (size := 2) (vs := ([(vi (x363.i + 1))] : LV)) Z0n rfl H362 15 rfl rfl rfl rfl kr kn kr 0 0 (⟨x363.i + 1, x363.da, x363.dc, x363.D⟩ : TbR) h364 (show 0 + ((0 : Int)).toNat * 2 = 0 * 2 + 0 by omega) kn kr ?_
    intro w366 (H367 : Sat w [zR w, Z0 b2 27 (ZF na N.length nc ta TT.length tc ha HH.length hc_ ptm oa OO.length oc ba BB.length bc psk lla LL.length llc pl), Z0 b7 179 (ZN m8), (ZJ m8 LB43), Z0 r9 165 (ZD a41 LB43.length c42), (ZI a10 LG c11), (ZK a12 (Zq 3) c13), Z0 b20 38 (ZC F b7 r9 la a10 LG.length c11 a12 ((Zq 3).length) c13), (ZO a41 LB43 c42), (Zi a32 PS34 c33), (Zd a35 OS37 c36), (Ze a38 TS40 c39), Z0G BG44, (Zi a60 PD c61), (Zd a62 OD c63), Zo 89 2 (.slice (some ⟨g359, 0, none⟩) TD.length c65) TD.length ((TD.set 0 (⟨x363.i + 1, x363.da, x363.dc, x363.D⟩ : TbR)).flatMap Z16), Z0 b70 47 (Z0L tm a60 PD.length c61 a62 OD.length c63 g359 TD.length c65)] w366)
    have hlw366 : (TD.set 0 (⟨x363.i + 1, x363.da, x363.dc, x363.D⟩ : TbR)).length = TD.length := List.length_set
    refine kk <| ZL <| Z6 ?_
    have H368 : Sat w [zR w, Z0 b2 27 (ZF na N.length nc ta TT.length tc ha HH.length hc_ ptm oa OO.length oc ba BB.length bc psk lla LL.length llc pl), Z0 b7 179 (ZN m8), (ZJ m8 LB43), Z0 r9 165 (ZD a41 LB43.length c42), (ZI a10 LG c11), (ZK a12 (Zq 3) c13), Z0 b20 38 (ZC F b7 r9 la a10 LG.length c11 a12 ((Zq 3).length) c13), (ZO a41 LB43 c42), (Zi a32 PS34 c33), (Zd a35 OS37 c36), (Ze a38 TS40 c39), Z0G BG44, (Zi a60 PD c61), (Zd a62 OD c63), Zo 89 2 (.slice (some ⟨g359, 0, none⟩) TD.length c65) TD.length ((TD.set 0 (⟨x363.i + 1, x363.da, x363.dc, x363.D⟩ : TbR)).flatMap Z16), Z0 b70 47 (Z0L tm a60 PD.length c61 a62 OD.length c63 g359 ((TD.set 0 (⟨x363.i + 1, x363.da, x363.dc, x363.D⟩ : TbR)).length) c65)] w366 := H367.cast (by simp only [List.length_set, List.length_append, List.length_drop])
    have H369 := H368.pk [0, 1, 2, 3, 4, 5, 6, 7, 8, 9, 10, 11, 12, 16]
    refine ZH ?_ ⟨4, tm, a60, c61, PD, a62, c63, OD, (some ⟨g359, 0, none⟩), c65, (TD.set 0 (⟨x363.i + 1, x363.da, x363.dc, x363.D⟩ : TbR)), (ListAt.row (enc := Z0T) (sz := 6) Z0g (by decide) (H367.at 13 rfl)), (fun p hp => (hps45.all p (hPm p hp)).prw (H367.at 12 rfl) htm2 hla2 hF), (by first | omega | (simp only [List.length_set, List.length_append, List.length_drop, List.length_cons, List.length_nil]; omega)), (ListAt.row (enc := Z0J) (sz := 34) Z0D (by decide) (H367.at 14 rfl)), (fun o ho => ⟨((hos46 o (hOm o ho)).opk (H367.at 12 rfl)).list, by rw [(hos46 o (hOm o ho)).len]; decide⟩), (by first | omega | (simp only [List.length_set, List.length_append, List.length_drop, List.length_cons, List.length_nil]; omega)), (by have q := (ListAt.row (enc := Z16) (sz := 2) Z0n (by decide) (H367.at 15 rfl)); simpa only [List.length_set, List.length_append, List.length_drop] using q), (Z4r (fun t ht => (hts48 t (hTm t ht)).tbw (H367.at 12 rfl)) ((hts48 _ (hTm _ (List.mem_of_getElem? h364))).tbw (H367.at 12 rfl)).num), (by first | omega | (simp only [List.length_set, List.length_append, List.length_drop, List.length_cons, List.length_nil]; omega)), H369⟩
    exact zs
   refine Zp <| Z6 ?_
   have H372 := H80.pk [0, 1, 2, 3, 4, 5, 6, 7, 8, 9, 10, 11, 12, 16]
   refine ZH ?_ ⟨4, tm, a60, c61, PD, a62, c63, OD, a64, c65, TD, (ListAt.row (enc := Z0T) (sz := 6) Z0g (by decide) (H80.at 13 rfl)), (fun p hp => (hps45.all p (hPm p hp)).prw (H80.at 12 rfl) htm2 hla2 hF), (by first | omega | (simp only [List.length_set, List.length_append, List.length_drop, List.length_cons, List.length_nil]; omega)), (ListAt.row (enc := Z0J) (sz := 34) Z0D (by decide) (H80.at 14 rfl)), (fun o ho => ⟨((hos46 o (hOm o ho)).opk (H80.at 12 rfl)).list, by rw [(hos46 o (hOm o ho)).len]; decide⟩), (by first | omega | (simp only [List.length_set, List.length_append, List.length_drop, List.length_cons, List.length_nil]; omega)), (ListAt.row (enc := Z16) (sz := 2) Z0n (by decide) (H80.at 15 rfl)), (fun t ht => (hts48 t (hTm t ht)).tbw (H80.at 12 rfl)), (by first | omega | (simp only [List.length_set, List.length_append, List.length_drop, List.length_cons, List.length_nil]; omega)), H372⟩
   exact zs
  refine zsl <| wv 228 (.bool (decide ((Z1 what 14) = 13))) <| wv 227 (.bool (decide ((Z1 what 14) = 13))) <| znt ?_
  refine zid (fun b375 g376 => ?_) fun b375 g390 => ?_
  ·refine ZG <| wv 229 (pt b70 2) <| zw1 230 (.slice a60 PD.length c61) (H80.cell 16 rfl rfl) <| wv 231 (pt b70 2) <| zw1 232 (.slice a60 PD.length c61) (H80.cell 16 rfl rfl) <| zy <| Z0t (T := 41) (e := 71) (size := 6) (bytes := 64) rfl H80 kr 13 13 rfl rfl rfl rfl (Z0q Z0T Z6e PD) om om fun v379 w380 H381 => ?_
   have H384 : Sat w [zR w, Z0 b2 27 (ZF na N.length nc ta TT.length tc ha HH.length hc_ ptm oa OO.length oc ba BB.length bc psk lla LL.length llc pl), Z0 b7 179 (ZN m8), (ZJ m8 LB43), Z0 r9 165 (ZD a41 LB43.length c42), (ZI a10 LG c11), (ZK a12 (Zq 3) c13), Z0 b20 38 (ZC F b7 r9 la a10 LG.length c11 a12 ((Zq 3).length) c13), (ZO a41 LB43 c42), (Zi a32 PS34 c33), (Zd a35 OS37 c36), (Ze a38 TS40 c39), Z0G BG44, Zo 71 6 v379 ((PD ++ PD).length) ((PD ++ PD).flatMap Z0T), (Zd a62 OD c63), (Ze a64 TD c65), Z0 b70 47 (Z0x tm a60 PD.length c61 a62 OD.length c63 a64 TD.length c65)] w380 := H381.cast (by simp only [List.length_append, List.flatMap_append] <;> rfl)
   obtain ⟨a382, c383, rfl⟩ := Z3 (H384.at 13 rfl)
   refine kk <| wv 234 (pt b70 2) <| zy <| zds (ZD a382 ((PD ++ PD).length) c383) (Z0x tm a382 ((PD ++ PD).length) c383 a62 OD.length c63 a64 TD.length c65) H384 16 fun w386 H387 => ?_
   refine kk <| ZL <| Z6 ?_
   have H389 := H387.pk [0, 1, 2, 3, 4, 5, 6, 7, 8, 9, 10, 11, 12, 16]
   refine ZH ?_ ⟨4, tm, a382, c383, (PD ++ PD), a62, c63, OD, a64, c65, TD, (ListAt.row (enc := Z0T) (sz := 6) Z0g (by decide) (H387.at 13 rfl)), (Z7R (fun p hp => (hps45.all p (hPm p hp)).prw (H387.at 12 rfl) htm2 hla2 hF) (fun p hp => (hps45.all p (hPm p hp)).prw (H387.at 12 rfl) htm2 hla2 hF)), (by first | omega | (simp only [List.length_set, List.length_append, List.length_drop, List.length_cons, List.length_nil]; omega)), (ListAt.row (enc := Z0J) (sz := 34) Z0D (by decide) (H387.at 14 rfl)), (fun o ho => ⟨((hos46 o (hOm o ho)).opk (H387.at 12 rfl)).list, by rw [(hos46 o (hOm o ho)).len]; decide⟩), (by first | omega | (simp only [List.length_set, List.length_append, List.length_drop, List.length_cons, List.length_nil]; omega)), (ListAt.row (enc := Z16) (sz := 2) Z0n (by decide) (H387.at 15 rfl)), (fun t ht => (hts48 t (hTm t ht)).tbw (H387.at 12 rfl)), (by first | omega | (simp only [List.length_set, List.length_append, List.length_drop, List.length_cons, List.length_nil]; omega)), H389⟩
   exact zs
  refine Zp <| Z6 ?_
  have H392 := H80.pk [0, 1, 2, 3, 4, 5, 6, 7, 8, 9, 10, 11, 12, 16]
  refine ZH ?_ ⟨4, tm, a60, c61, PD, a62, c63, OD, a64, c65, TD, (ListAt.row (enc := Z0T) (sz := 6) Z0g (by decide) (H80.at 13 rfl)), (fun p hp => (hps45.all p (hPm p hp)).prw (H80.at 12 rfl) htm2 hla2 hF), (by first | omega | (simp only [List.length_set, List.length_append, List.length_drop, List.length_cons, List.length_nil]; omega)), (ListAt.row (enc := Z0J) (sz := 34) Z0D (by decide) (H80.at 14 rfl)), (fun o ho => ⟨((hos46 o (hOm o ho)).opk (H80.at 12 rfl)).list, by rw [(hos46 o (hOm o ho)).len]; decide⟩), (by first | omega | (simp only [List.length_set, List.length_append, List.length_drop, List.length_cons, List.length_nil]; omega)), (ListAt.row (enc := Z16) (sz := 2) Z0n (by decide) (H80.at 15 rfl)), (fun t ht => (hts48 t (hTm t ht)).tbw (H80.at 12 rfl)), (by first | omega | (simp only [List.length_set, List.length_append, List.length_drop, List.length_cons, List.length_nil]; omega)), H392⟩
  exact zs
 rintro f393 w394 ⟨xe, xt, pa, pc, P2, qa, qc, O2, za, zc, T2, hP2, gP2, lP2, hO2, gO2, lO2, hT2, gT2, lT2, H395⟩
 refine Z9 <| Z9 ?_
 have hU1 : Upd [] w w394 := H395.upd 0 rfl [] ne
 have hLGa : ListAt Z2n 2 w394 (.slice a10 LG.length c11) LG := ListAt.row Z8B (by decide) (H395.at 5 rfl)
 have hSPa : ListAt Z39 36 w394 (.slice a12 (Zq 3).length c13) (Zq 3) := ListAt.row Z8z (by decide) (H395.at 6 rfl)
 have kP2 : ∀ i, i < P2.length → PrW w394 (P2.getD i pr0) := fun i hi => gP2 _ (Z95 hi)
 have kO2 : ∀ i, i < O2.length → ListAt Zx 1 w394 (.slice (O2.getD i op0).pa (O2.getD i op0).P.length (O2.getD i op0).pc) (O2.getD i op0).P := fun i hi => (gO2 _ (Z4x hi)).1
 have kT2 : ∀ i, i < T2.length → TbW w394 (T2.getD i tb0) := fun i hi => gT2 _ (ZaH hi)
 have hk396 := H395.at 1 rfl
 have hk397 := H395.at 2 rfl
 have hk398 := H395.at 4 rfl
 have hk399 := H395.at 7 rfl
 have hk400 := H395.at 13 rfl
 have hmk1 : MapAt w394 m8 Z0c (Value.int .i64) (Z0o LB43) := H395.at 3 rfl
 have hrk1 := H395.at 8 rfl
 have HK := Sat.start0 w394
 refine ZG <| wv 235 (pt b70 4) <| zw1 236 (.slice za T2.length zc) (HK.roCell 0 rfl hk400 (fun h => h) rfl) <| wv 237 (vi T2.length) <| wv 238 (vi 0) <| znt <| Zh <| ZB ([10, 27] ++ List.range' 238 27) (fun F_ W_ m_ => ∃ (i : Nat), F_ 238 = (vi i) ∧ (i ≤ T2.length) ∧ Sat w394 [zR w394] W_ ∧ m_ = T2.length - i) _ ⟨0, (show ((vi 0) : Value) = _ by first | rfl | go_num), (Nat.zero_le _), HK, rfl⟩ ?_
 rintro g401 w402 _ ⟨i, v404, hi, H403, rfl⟩
 refine Zn 238 _ v404 ?_
 refine zsl <| wv 239 (.bool (decide ((i : Int) < T2.length))) <| znt <| Z9 ?_
 refine zid (fun b406 g407 => ?_) fun b406 g418 => ?_
 ·refine Zp <| ztn <| Z9 <| Zh <| zsl <| wv 240 (vi i) <| wv 27 (vi i) <| znt <| Z9 <| zqs H403 ?_
  refine qv 241 (pt b20 0) <| qv 242 (.agg ⟨([(vi F), (vi 3)] : LV)⟩) ?_ (hr := fun _ H' => (zlN (vs := ([(vi F), (vi 3)] : LV)) (H'.roCells 0 rfl hk399 (fun h => h))))
  refine qv 243 (pt b20 2) <| qv 244 (pt b20 2) <| qv 245 (pt b7 0) ?_ (hr := fun _ H' => (zl1 (H'.roCell 0 rfl hk399 (fun h => h) rfl)))
  refine qv 246 (pt b70 4) <| qv 247 (.slice za T2.length zc) ?_ (hr := fun _ H' => (zl1 (H'.roCell 0 rfl hk400 (fun h => h) rfl)))
  refine qv 248 (vi i) ?_
  obtain ⟨g409, o410, c411, e412, R413⟩ := SliceOf.atD hT2 tb0 (show i < T2.length by omega)
  refine qv 249 (.pointer (some ⟨g409, o410 + ((i : Int)).toNat * 2, none⟩)) ?_ (hr := fun _ H' => (Z8 (E := 89) kr kr kn rfl e412 rfl om om))
  refine qv 250 (.agg ⟨(Z3Z (T2.getD i tb0) ((T2.getD i tb0).D.length))⟩) ?_ (hr := fun _ H' => (ZX (vs := (Z3Z (T2.getD i tb0) ((T2.getD i tb0).D.length))) rfl kr kr kn (H'.runR 0 rfl (Z08 R413 0 kr (show o410 + ((i : Int)).toNat * 2 = o410 + i * 2 + 0 by omega)) (fun h => h))))
  refine Z0r (Zc rfl) (d := 251) (v := (.bool (Z0j F LB43 (T2.getD i tb0).i (T2.getD i tb0).D))) rfl (fun _ _ => by kernel_rfl) (fun w' H' => (Z2M w' F 3 om b7 m8 LB43 (H'.roCells 0 rfl hk397 (fun h => h)) (H'.roMap 0 rfl hmk1 (fun h => h)) (T2.getD i tb0).i (T2.getD i tb0).da (T2.getD i tb0).dc (T2.getD i tb0).D (ListAt.now H' 0 rfl (kT2 i om).D) (kT2 i om).ok (kT2 i om).len).mono fun _ _ h => ⟨h.1, H'.keepU h.2⟩) ?_
  refine qv 252 (pt b20 0) <| qv 253 (.agg ⟨([(vi F), (vi 3)] : LV)⟩) ?_ (hr := fun _ H' => (zlN (vs := ([(vi F), (vi 3)] : LV)) (H'.roCells 0 rfl hk399 (fun h => h))))
  refine qv 254 (pt b20 2) <| qv 255 (pt b20 3) <| qv 256 (pt r9 0) ?_ (hr := fun _ H' => (zl1 (H'.roCell 0 rfl hk399 (fun h => h) rfl)))
  refine qv 257 (pt b70 4) <| qv 258 (.slice za T2.length zc) ?_ (hr := fun _ H' => (zl1 (H'.roCell 0 rfl hk400 (fun h => h) rfl)))
  refine qv 259 (vi i) <| qv 260 (.pointer (some ⟨g409, o410 + ((i : Int)).toNat * 2, none⟩)) ?_ (hr := fun _ H' => (Z8 (E := 89) kr kr kn rfl e412 rfl om om))
  refine qv 261 (.agg ⟨(Z3Z (T2.getD i tb0) ((T2.getD i tb0).D.length))⟩) ?_ (hr := fun _ H' => (ZX (vs := (Z3Z (T2.getD i tb0) ((T2.getD i tb0).D.length))) rfl kr kr kn (H'.runR 0 rfl (Z08 R413 0 kr (show o410 + ((i : Int)).toNat * 2 = o410 + i * 2 + 0 by omega)) (fun h => h))))
  refine Z0r (Zc rfl) (d := 262) (v := (.bool (Z0j F LB43 (T2.getD i tb0).i (T2.getD i tb0).D))) rfl (fun _ _ => by kernel_rfl) (fun w' H' => (Z3A w' F 3 om r9 a41 c42 LB43 (H'.roCells 0 rfl hk398 (fun h => h)) (H'.roCk 0 rfl hrk1 (fun _ _ h => h)) hnd50 om (T2.getD i tb0).i (T2.getD i tb0).da (T2.getD i tb0).dc (T2.getD i tb0).D (ListAt.now H' 0 rfl (kT2 i om).D) (kT2 i om).ok (kT2 i om).len).mono fun _ _ h => ⟨h.1, H'.keepU h.2⟩) ?_
  refine qv 263 (.bool (!((Z0j F LB43 (T2.getD i tb0).i (T2.getD i tb0).D) == (Z0j F LB43 (T2.getD i tb0).i (T2.getD i tb0).D)))) <| Z01 fun w414 H415 => ?_
  apply ztn
  have b416 : (!((Z0j F LB43 (T2.getD i tb0).i (T2.getD i tb0).D) == (Z0j F LB43 (T2.getD i tb0).i (T2.getD i tb0).D))) = false := by rw [beq_self_eq_true]; rfl
  have g417 := Z2 b416
  refine Z3L _ b416 ?_
  refine Zp <| Z6 <| ztn <| ZG <| zwi 264 ((i : Int) + 1) <| wv 238 (vi ((i : Int) + 1)) <| ZL <| Za ?_ _ ⟨(i + 1), rfl, om, H415, rfl⟩ om
  exact zs
 refine zxb <| ztn <| Z9 <| Z0a H403 [zR w394] 19 rfl kr (fun Hx => (Hx.pk [0])) fun w420 H421 S422 => ?_
 refine hv0 0 S422 265 (pt b20 2) <| hv0 1 S422 266 (pt b20 2) <| hv0 2 S422 267 (pt b7 0) ?_ (he := fun _ H' => (zl1 (H'.roCell 0 rfl hk399 (fun h => h) rfl)))
 refine hv0 3 S422 268 (.agg ⟨(ZC F b7 r9 la a10 LG.length c11 a12 ((Zq 3).length) c13)⟩) ?_ (he := fun _ H' => (zlN (vs := (ZC F b7 r9 la a10 LG.length c11 a12 ((Zq 3).length) c13)) (H'.roCells 0 rfl hk399 (fun h => h))))
 refine hv0 5 S422 270 (.agg ⟨(Z3h xe xt pa P2.length pc qa O2.length qc za T2.length zc)⟩) ?_ (he := fun _ H' => (zlN (vs := (Z3h xe xt pa P2.length pc qa O2.length qc za T2.length zc)) (H'.roCells 0 rfl hk400 (fun h => h))))
 refine hv0 7 S422 272 (pt b20 2) <| hv0 8 S422 273 (pt b20 3) <| hv0 9 S422 274 (pt r9 0) ?_ (he := fun _ H' => (zl1 (H'.roCell 0 rfl hk399 (fun h => h) rfl)))
 refine hv0 10 S422 275 (pt b20 4) <| hv0 11 S422 276 (.agg ⟨(Z4X F la a10 LG.length c11 a12 ((Zq 3).length) c13)⟩) ?_ (he := fun _ H' => (zlN (vs := (Z4X F la a10 LG.length c11 a12 ((Zq 3).length) c13)) (H'.roCells 0 rfl hk399 (fun h => h))))
 refine hv0 12 S422 277 (.agg ⟨(Z3h xe xt pa P2.length pc qa O2.length qc za T2.length zc)⟩) ?_ (he := fun _ H' => (zlN (vs := (Z3h xe xt pa P2.length pc qa O2.length qc za T2.length zc)) (H'.roCells 0 rfl hk400 (fun h => h))))
 refine zhy 4 ?_
 refine zdc 269 (ZcW w420 b7 r9 F (3 : Int) F (3 : Int) (4 : Int) la a10 c11 LG (ListAt.now H421 0 rfl hLGa) a12 c13 (Zq 3) (ListAt.now H421 0 rfl hSPa) (by have q := lgl; omega) (by decide)) ?_
 rintro _ w424 ⟨m425, o426, rfl, k427, u428, f429⟩
 have H430 : Sat w394 [zR w394, Z0h [Z2S m425 nmV Value.bool (Zcj LG), Z2S o426 (Value.int .i64) Z9i (Z3l (Zq 3))]] w424 := H421.addU u428 k427 f429
 have H431 := H430.open 1 rfl
 refine ⟨_, rfl, ?_⟩
 have S432 := H431.pk [0]
 refine kh S432 <| zhy 6 ?_
 refine zdq 271 (Z9T w424 F 3 4 la om (.map (some m425)) o426 (Z3l (Zq 3)) (H431.at 2 rfl) open3 b7 m8 LB43 (H431.roCells 0 rfl hk397 (fun h => h)) (H431.roMap 0 rfl hmk1 (fun h => h)) xe xt pa pc P2 (ListAt.now H431 0 rfl hP2) om (fun i hi => (kP2 i hi).now H431 0 rfl) qa qc O2 (ListAt.now H431 0 rfl hO2) om (fun i hi => ListAt.now H431 0 rfl (kO2 i hi)) (fun i hi => (gO2 _ (Z4x hi)).2) za zc T2 (ListAt.now H431 0 rfl hT2) om (fun i hi => (kT2 i hi).now H431 0 rfl)) H431 ?_
 intro w434 H435
 have S437 := H435.pk [0]
 refine kh S437 <| zhy 13 ?_
 refine zdq 278 (Z9o w434 F 3 4 la (.slice a10 LG.length c11) a12 c13 (Zq 3) (ListAt.now H435 0 rfl hSPa) (by rw [Z36]; decide) (Z3l (Zq 3)) Zbx om open3 r9 a41 c42 LB43 (H435.roCells 0 rfl hk398 (fun h => h)) (H435.roCk 0 rfl hrk1 (fun _ _ h => h)) hnd50 om xe xt pa pc P2 (ListAt.now H435 0 rfl hP2) om (fun i hi => (kP2 i hi).now H435 0 rfl) qa qc O2 (ListAt.now H435 0 rfl hO2) om (fun i hi => ListAt.now H435 0 rfl (kO2 i hi)) (fun i hi => (gO2 _ (Z4x hi)).2) za zc T2 (ListAt.now H435 0 rfl hT2) om (fun i hi => (kT2 i hi).now H435 0 rfl)) H435 ?_
 intro w439 H440
 have S442 := H440.pk [0]
 refine kh S442 <| hv0 14 S442 279 (.bool ((Z0v F 3 4 la LB43 (Z3l (Zq 3)) xe xt P2 O2 T2) == (Z0v F 3 4 la LB43 (Z3l (Zq 3)) xe xt P2 O2 T2))) <| hv0 15 S442 280 (.bool ((Z0v F 3 4 la LB43 (Z3l (Zq 3)) xe xt P2 O2 T2) == (Z0v F 3 4 la LB43 (Z3l (Zq 3)) xe xt P2 O2 T2))) ?_
 have b443 : ((Z0v F 3 4 la LB43 (Z3l (Zq 3)) xe xt P2 O2 T2) == (Z0v F 3 4 la LB43 (Z3l (Zq 3)) xe xt P2 O2 T2)) = true := by exact beq_self_eq_true _
 refine Z3K 280 (.bool true) (congrArg Value.bool b443) ?_
 refine Z34 16 rfl kr (Z05 15 280 true rfl kr rfl kr) (fun Kq kq => ?_)
 refine zdq 281 (Zc6 w439) H440 ?_
 intro w445 H446
 have S448 := H446.pk [0]
 refine kq _ _ S448 <| hv0 17 S448 282 (.bool true) <| hv0 18 S448 10 (.bool true) <| zhf <| ztn <| Zk <| ze1 (.bool true) ?_
 exact ⟨rfl, hU1.trans (H446.upd 0 rfl [] ne)⟩
end Go.Proofs.YtenihpghfdcpkaaGreat
