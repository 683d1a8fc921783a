/- WHAT IS PROVED: places in general: contracts; new books. Conditions: stated with each. -/
import Derived.Test.YtoiplcicbjimlaaRvD
namespace Go.Proofs.Ytoiplcicbjimlaa
open Go.RowKit

def PlaceR (L : List (Int × PlX)) (i : Int) (c : Int × Int × Hash × Int) (M : List (Int × PlX)) : Prop :=
  ((∃ X, lookM L i = some X) ∧ M = L) ∨ (lookM L i = none ∧ ∃ X : PlX, coreX X = c ∧ X.p.acked = false ∧ X.p.denied = false ∧ X.D = [] ∧ X.p.oi = 0 ∧ X.pay = [] ∧ M = putM L i X)
def OpenR (L : List (Int × PlX)) (i : Int) (p : List UInt8) (code : Int) (M : List (Int × PlX)) : Prop :=
  (lookM L i = none ∧ code = 6 ∧ M = L) ∨ ∃ X, lookM L i = some X ∧ ((X.p.denied = true ∧ code = 12 ∧ M = L) ∨ (X.p.denied = false ∧ code = 0 ∧ ((X.p.acked = true ∧ M = L) ∨ (X.p.acked = false ∧ ∃ X' : PlX, X'.p.acked = true ∧ X'.p.denied = false ∧ X'.p.oi = i ∧ coreX X' = coreX X ∧ X'.D = X.D ∧ X'.pay = p ∧ M = putM L i X'))))

theorem rvAckedG_any (w : World) (r mb : Nat) (F C rep : Int) (L : List (Int × PlX)) (hb : (cellC r 86 [.int .i64 F, .int .i64 C, .int .i64 rep, .map (some mb)]).ok w) (hm : MapAt w mb (Value.int .i64) encX L) (j : Int) : Calls Try.prog 15 #[.pointer (some ⟨r, 0, none⟩), .int .i64 j] w fun e w' => e = .returned (.bool (ackB L j)) ∧ Upd [] w w' := by
  cases hX : lookM L j with
  | none => rw [show ackB L j = false by simp [ackB, hX]]; exact rvAckedN_any w r mb F C rep L hb hm j hX
  | some X => rw [show ackB L j = X.p.acked by simp [ackB, hX]]; exact rvAcked_any w r mb F C rep L hb hm j X hX
theorem rvDeniedG_any (w : World) (r mb : Nat) (F C rep : Int) (L : List (Int × PlX)) (hb : (cellC r 86 [.int .i64 F, .int .i64 C, .int .i64 rep, .map (some mb)]).ok w) (hm : MapAt w mb (Value.int .i64) encX L) (j : Int) : Calls Try.prog 20 #[.pointer (some ⟨r, 0, none⟩), .int .i64 j] w fun e w' => e = .returned (.bool (denB L j)) ∧ Upd [] w w' := by
  cases hX : lookM L j with
  | none => rw [show denB L j = false by simp [denB, hX]]; exact rvDeniedN_any w r mb F C rep L hb hm j hX
  | some X => rw [show denB L j = X.p.denied by simp [denB, hX]]; exact rvDenied_any w r mb F C rep L hb hm j X hX

theorem rvPlaceG_any (w : World) (r mb : Nat) (F C rep : Int) (L : List (Int × PlX)) (hB : (sepC (rvL r mb F C rep L)).ok w) (i : Int) (a b : Int) (h : Hash) (t now : Int) (hi : 0 ≤ i) : Calls Try.prog 11 #[.pointer (some ⟨r, 0, none⟩), .int .i64 i, .agg ⟨([.int .i64 a, .int .i64 b] : List Value) ++ hc h ++ ([.int .u64 t] : List Value)⟩, .int .u64 now] w fun e w' => ∃ M, e = .returned (.bool (!(lookM L i).isSome)) ∧ PlaceR L i (a, b, h, now) M ∧ Sat w [cellC r 86 [.int .i64 F, .int .i64 C, .int .i64 rep, .map (some mb)], mapC mb (Value.int .i64) encX M, denC M, restC w (sepC (rvL r mb F C rep L)).fp] w' := by
  have H := Sat.start (rvL r mb F C rep L) hB
  cases hX : lookM L i with
  | none =>
    refine (rvPlace_any w r mb F C rep L hB i a b h t now hi hX).mono fun e w' q => ?_
    obtain ⟨X, he, h1, h2, h3, h4, h5, h6, hS⟩ := q
    exact ⟨_, he, .inr ⟨hX, X, h1, h2, h3, h4, h5, h6, rfl⟩, hS⟩
  | some X =>
    refine (rvPlaceHas_any w r mb F C rep L (H.at 0 rfl) (H.at 1 rfl) i X hX a b h t now).mono fun e w' q => ?_
    exact ⟨L, q.1, .inl ⟨⟨X, hX⟩, rfl⟩, H.keepU q.2⟩

theorem rvForgetG_any (w : World) (r mb : Nat) (F C rep : Int) (L : List (Int × PlX)) (hB : (sepC (rvL r mb F C rep L)).ok w) (i : Int) : Calls Try.prog 22 #[.pointer (some ⟨r, 0, none⟩), .int .i64 i] w fun e w' => e = .returned (.bool (lookM L i).isSome) ∧ Sat w [cellC r 86 [.int .i64 F, .int .i64 C, .int .i64 rep, .map (some mb)], mapC mb (Value.int .i64) encX (delM L i), denC (delM L i), restC w (sepC (rvL r mb F C rep L)).fp] w' := by
  cases hX : lookM L i with
  | none => exact rvForgetN_any w r mb F C rep L hB i hX
  | some X => exact rvForget_any w r mb F C rep L hB i X hX

theorem rvOpenG_any (w : World) (r mb : Nat) (F C rep : Int) (L : List (Int × PlX)) (i : Int) (pa : Option Addr) (pc : Nat) (p : List UInt8) (hB : (sepC (rvL r mb F C rep L ++ [rowC 5 1 (.slice pa p.length pc) p.length (p.flatMap encB)])).ok w) (x : Hash) (hlp : p.length ≤ 256) (hmat : ∀ X, lookM L i = some X → X.p.h = shaR (ofT X.p.n1 X.p.n2 x p) ∧ X.p.n1 ≤ 9223372036854775807 ∧ X.p.n2 ≤ 9223372036854775807) :
    Calls Try.prog 14 #[.pointer (some ⟨r, 0, none⟩), .agg ⟨([.int .i64 i, .slice pa p.length pc] : List Value) ++ hc x⟩] w fun e w' => ∃ code M, e = .returned (.int .i64 code) ∧ OpenR L i p code M ∧ Sat w [cellC r 86 [.int .i64 F, .int .i64 C, .int .i64 rep, .map (some mb)], mapC mb (Value.int .i64) encX M, denC M, rowC 5 1 (.slice pa p.length pc) p.length (p.flatMap encB), restC w (sepC (rvL r mb F C rep L ++ [rowC 5 1 (.slice pa p.length pc) p.length (p.flatMap encB)])).fp] w' := by
  have H := Sat.start (rvL r mb F C rep L ++ [rowC 5 1 (.slice pa p.length pc) p.length (p.flatMap encB)]) hB
  cases hX : lookM L i with
  | none =>
    refine (rvOpenN_any w r mb F C rep L (H.at 0 rfl) (H.at 1 rfl) i hX (.slice pa p.length pc) x).mono fun e w' q => ?_
    exact ⟨6, L, q.1, .inl ⟨hX, rfl, rfl⟩, H.keepU q.2⟩
  | some X =>
    obtain ⟨q1, q2, q3⟩ := hmat X hX
    refine (rvOpen_any w r mb F C rep L i X hX pa pc p hB x hlp q1 q2 q3).mono fun e w' q => ?_
    rcases q with ⟨h1, h2, h3⟩ | ⟨h1, h2, h3, h4⟩ | ⟨h1, h2, h3, X', h4, h5, h6, h7, h8, h9, h10⟩
    · exact ⟨12, L, h2, .inr ⟨X, hX, .inl ⟨h1, rfl, rfl⟩⟩, h3⟩
    · exact ⟨0, L, h3, .inr ⟨X, hX, .inr ⟨h1, rfl, .inl ⟨h2, rfl⟩⟩⟩, h4⟩
    · exact ⟨0, _, h3, .inr ⟨X, hX, .inr ⟨h1, rfl, .inr ⟨h2, X', h4, h5, h6, h7, h8, h9, rfl⟩⟩⟩, h10⟩

set_option maxRecDepth 100000 in
set_option maxHeartbeats 400000 in
theorem pNew_any (w : World) :
    Calls Try.prog 35 #[] w fun e w' => ∃ b mb, e = .returned (.pointer (some ⟨b, 0, none⟩)) ∧ (sepC [cellC b 103 [.map (some mb)], mapC mb signedV (Value.int .i64) (marks [])]).ok w' ∧ Upd [] w w' ∧ ∀ q_, (sepC [cellC b 103 [.map (some mb)], mapC mb signedV (Value.int .i64) (marks [])]).fp q_ → w.heap.size ≤ q_ := by
  have H := Sat.start0 w
  refine calls_fr Try.func35 rfl 4 rfl (Nat.le_of_ble_eq_true rfl) ?_
  refine w_seq ?_
  refine w_lit ?_
  refine wl_pure (wants0 rfl) (d := 0) (v := (.pointer none)) rfl (by kernel_rfl) ?_
  refine w_nil ?_
  refine then_normal ?_
  refine w_seq ?_
  refine w_lit ?_
  refine wl_do (wants0 rfl) (fun K1 hK1 => ?_)
  refine d_makeMap signedV (Value.int .i64) rfl H ?_
  intro b2 w3 (H4 : Sat w [restC w (fun _ => False), mapC b2 signedV (Value.int .i64) []] w3)
  refine hK1 _ _ ?_
  clear hK1 K1
  refine wl_pure (wants0 rfl) (d := 2) (v := (.agg ⟨([(.map (some b2))] : List Value)⟩)) rfl (by kernel_rfl) ?_
  refine wl_do (wants0 rfl) (fun K5 hK5 => ?_)
  refine d_box (vs := ([(.map (some b2))] : List Value)) rfl H4 rfl rfl ?_
  intro b6 w7 (H8 : Sat w [restC w (fun _ => False), mapC b2 signedV (Value.int .i64) [], cellC b6 103 ([(.map (some b2))] : List Value)] w7)
  refine hK5 _ _ ?_
  clear hK5 K5
  refine wl_pure (wants0 rfl) (d := 0) (v := (.pointer (some ⟨b6, 0, none⟩))) rfl (by kernel_rfl) ?_
  refine w_nil ?_
  refine then_normal ?_
  refine w_ret ?_
  refine end1 rfl (res_tmp (v := (.pointer (some ⟨b6, 0, none⟩))) rfl) ?_
  exact ⟨b6, b2, rfl, H8.fin [2, 1] (by decide) rfl, H8.upd 0 rfl [] (fun _ h => h.elim), H8.freshS 0 rfl (fun _ h => h) [2, 1] rfl rfl⟩

set_option maxRecDepth 100000 in
set_option maxHeartbeats 400000 in
theorem new10_any (w : World) :
    Calls Try.prog 18 #[] w fun e w' => ∃ b mb r, e = .returned (.tuple #[.agg #[.pointer (some ⟨b, 0, none⟩), .pointer (some ⟨r, 0, none⟩)], .bool true]) ∧ (sepC [cellC b 103 [.map (some mb)], mapC mb signedV (Value.int .i64) (marks []), cellC r 96 [.slice none 0 0]]).ok w' ∧ Upd [] w w' ∧ ∀ q_, (sepC [cellC b 103 [.map (some mb)], mapC mb signedV (Value.int .i64) (marks []), cellC r 96 [.slice none 0 0]]).fp q_ → w.heap.size ≤ q_ := by
  have H := Sat.start0 w
  refine calls_fr Try.func18 rfl 10 rfl (Nat.le_of_ble_eq_true rfl) ?_
  refine w_seq ?_
  refine w_lit ?_
  refine wl_do (wants0 rfl) (fun K1 hK1 => ?_)
  refine d_alloc (zs := ([(.pointer none), (.pointer none)] : List Value)) (z := (.agg ⟨([(.pointer none), (.pointer none)] : List Value)⟩)) rfl H (by kernel_rfl) (by kernel_rfl) ?_
  intro b2 w3 (H4 : Sat w [restC w (fun _ => False), cellC b2 52 ([(.pointer none), (.pointer none)] : List Value)] w3)
  refine hK1 _ _ ?_
  clear hK1 K1
  refine wl_pure (wants0 rfl) (d := 1) (v := (.bool false)) rfl (by kernel_rfl) ?_
  refine w_nil ?_
  refine then_normal ?_
  refine w_seq ?_
  refine w_lit ?_
  refine wl_do (wants0 rfl) (fun K5 hK5 => ?_)
  refine d_call (d := 3) rfl (by kernel_rfl) (pNew_any w3) ?_
  rintro _ w6 ⟨b7, m8, rfl, k9, p10, q11⟩
  have H12 : Sat w [restC w (fun _ => False), cellC b2 52 ([(.pointer none), (.pointer none)] : List Value), sepC [cellC b7 103 [.map (some m8)], mapC m8 signedV (Value.int .i64) (marks [])]] w6 := H4.addU p10 k9 q11
  have H13 : Sat w [restC w (fun _ => False), cellC b2 52 ([(.pointer none), (.pointer none)] : List Value), cellC b7 103 ([(.map (some m8))] : List Value), mapC m8 signedV (Value.int .i64) (marks [])] w6 := H12.open 2 rfl
  refine ⟨_, rfl, ?_⟩
  refine hK5 _ _ ?_
  clear hK5 K5
  refine wl_pure (wants0 rfl) (d := 2) (v := (.pointer (some ⟨b7, 0, none⟩))) rfl (by kernel_rfl) ?_
  refine w_nil ?_
  refine then_normal ?_
  refine w_seq ?_
  refine w_lit ?_
  refine wl_pure (wants0 rfl) (d := 4) (v := (.pointer (some ⟨b7, 0, none⟩))) rfl (by kernel_rfl) ?_
  refine wl_pure (wants0 rfl) (d := 5) (v := (.agg ⟨([(.slice none 0 0)] : List Value)⟩)) rfl (by kernel_rfl) ?_
  refine wl_do (wants0 rfl) (fun K14 hK14 => ?_)
  refine d_box (vs := ([(.slice none 0 0)] : List Value)) rfl H13 rfl rfl ?_
  intro b15 w16 (H17 : Sat w [restC w (fun _ => False), cellC b2 52 ([(.pointer none), (.pointer none)] : List Value), cellC b7 103 ([(.map (some m8))] : List Value), mapC m8 signedV (Value.int .i64) (marks []), cellC b15 96 ([(.slice none 0 0)] : List Value)] w16)
  refine hK14 _ _ ?_
  clear hK14 K14
  refine wl_pure (wants0 rfl) (d := 7) (v := (.agg ⟨([(.pointer (some ⟨b7, 0, none⟩)), (.pointer (some ⟨b15, 0, none⟩))] : List Value)⟩)) rfl (by kernel_rfl) ?_
  refine wl_pure (wants0 rfl) (d := 8) (v := (.pointer (some ⟨b7, 0, none⟩))) rfl (by kernel_rfl) ?_
  refine wl_pure (wants0 rfl) (d := 9) (v := (.bool true)) rfl (by kernel_rfl) ?_
  refine wl_do (wants0 rfl) (fun K18 hK18 => ?_)
  refine d_store (vs := ([(.pointer (some ⟨b7, 0, none⟩)), (.pointer (some ⟨b15, 0, none⟩))] : List Value)) rfl H17 1 rfl rfl rfl rfl (by kernel_rfl) (Nat.le_of_ble_eq_true (by kernel_rfl)) (Nat.le_of_ble_eq_true (by kernel_rfl)) (by kernel_rfl) ?_
  intro w19 (H20 : Sat w [restC w (fun _ => False), cellC b2 52 ([(.pointer (some ⟨b7, 0, none⟩)), (.pointer (some ⟨b15, 0, none⟩))] : List Value), cellC b7 103 ([(.map (some m8))] : List Value), mapC m8 signedV (Value.int .i64) (marks []), cellC b15 96 ([(.slice none 0 0)] : List Value)] w19)
  refine hK18 _ _ ?_
  clear hK18 K18
  refine wl_pure (wants0 rfl) (d := 1) (v := (.bool true)) rfl (by kernel_rfl) ?_
  refine w_nil ?_
  refine then_normal ?_
  refine w_ret ?_
  refine end2 rfl (res_cellN (vs := ([(.pointer (some ⟨b7, 0, none⟩)), (.pointer (some ⟨b15, 0, none⟩))] : List Value)) rfl (by kernel_rfl) (by kernel_rfl) (by exact Nat.le_of_ble_eq_true (by kernel_rfl)) (H20.at 1 rfl) (by kernel_rfl)) (res_tmp (v := (.bool true)) rfl) ?_
  exact ⟨b7, m8, b15, rfl, H20.fin [2, 3, 4] (by decide) rfl, H20.upd 0 rfl [] (fun _ h => h.elim), H20.freshS 0 rfl (fun _ h => h) [2, 3, 4] rfl rfl⟩

end Go.Proofs.Ytoiplcicbjimlaa
