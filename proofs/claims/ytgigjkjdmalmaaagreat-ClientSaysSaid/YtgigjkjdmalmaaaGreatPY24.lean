/- WHAT IS PROVED: contracts and plain laws of ClG, SayD. Conditions: stated with each. -/
import Derived.Test.YtgigjkjdmalmaaaGreatPY10
import Derived.Test.YtgigjkjdmalmaaaGreatPY12
import Derived.Test.YtgigjkjdmalmaaaGreatPY14
import Derived.Test.YtgigjkjdmalmaaaGreatPY23
set_option maxHeartbeats 4000000
set_option maxRecDepth 100000
namespace Go.Proofs.YtgigjkjdmalmaaaGreat
open Go.RowKit
structure RqM where
 M : List (Int × Zk)
 A : List (Int × Bool)
 R : List (Int × RcD)
 S : List (Int × List UInt8)
def rqP (z : Zq × RqM) : List Ck := [ZI z.1.ms (Value.int .i64) Z0h z.2.M, ZI z.1.ma (Value.int .i64) Value.bool z.2.A, ZI z.1.mr (Value.int .i64) rcV z.2.R, ZI z.1.mp (Value.int .i64) ZD z.2.S, Zc 5 1 (.slice z.1.pa z.1.P.length z.1.pc) z.1.P.length (z.1.P.flatMap ZH)]
structure RqOk (F id : Int) (B : List Ck) (N k : Nat) (z : Zq × RqM) : Prop where
 cl : z.1.x.cl = id ∧ z.1.x.seq = (k : Int) + 1
 P : z.1.P.length ≤ 256
 M : StM F z.1.x z.2.M
 R : z.2.R.length ≤ N
 S : z.2.S.length ≤ N
 cb : ∀ c, z.1.cb = some c → ∃ sa sc S T, CrtIn B z.1.x c sa sc S T ∧ (S.length : Int) = 2 * F + 1
 pl : z.1.op = false → z.1.pl = 0
 rp : z.1.dn = false → z.1.rp = []
structure InvZ (F id : Int) (B : List Ck) (N : Nat) (Q : List Zq) (Z : List (Zq × RqM)) : Prop where
 q : Q = Z.map (·.1)
 x : ∀ k z, Z[k]? = some z → RqOk F id B N k z
def OutG (F id : Int) (D : List OmR) : Prop := D = [] ∨ ((D.length : Int) = 3 * F + 1 ∧ ∃ (m : OmR) (B : List Ck), (m.k = 1 ∨ m.k = 3 ∨ m.k = 10) ∧ ∀ j, j < D.length → Z6g (1000 + id) m B j (D.getD j om0))
section
variable {F id : Int} {B B' : List Ck} {N N' k : Nat} {Q : List Zq} {Z : List (Zq × RqM)} {z z' : Zq × RqM} {q : Zq}
theorem CrtIn.sub {x : Z0} {c sc : Nat} {sa : Option Addr} {S T : List Zk} (h : CrtIn B x c sa sc S T) (hs : ∀ A ∈ B, A ∈ B') : CrtIn B' x c sa sc S T := ⟨hs _ h.c, hs _ h.t, h.e, h.l, h.n⟩
theorem RqOk.more (h : RqOk F id B N k z) (hs : ∀ A ∈ B, A ∈ B') (hn : N ≤ N') : RqOk F id B' N' k z :=
 ⟨h.cl, h.P, h.M, Nat.le_trans h.R hn, Nat.le_trans h.S hn, fun c hc => by obtain ⟨a, b, S, T, h1, h2⟩ := h.cb c hc; exact ⟨a, b, S, T, h1.sub hs, h2⟩, h.pl, h.rp⟩
theorem InvZ.more (h : InvZ F id B N Q Z) (hs : ∀ A ∈ B, A ∈ B') (hn : N ≤ N') : InvZ F id B' N' Q Z := ⟨h.q, fun k z hz => (h.x k z hz).more hs hn⟩
theorem InvZ.nil : InvZ F id B N [] [] := ⟨rfl, fun k z hz => by simp at hz⟩
theorem InvZ.at (h : InvZ F id B N Q Z) (hq : Q[k]? = some q) : ∃ m, Z[k]? = some (q, m) ∧ RqOk F id B N k (q, m) := by
 rw [h.q, List.getElem?_map] at hq
 obtain ⟨z, hz, rfl⟩ := Option.map_eq_some_iff.1 hq
 exact ⟨z.2, hz, h.x k z hz⟩
theorem InvZ.len (h : InvZ F id B N Q Z) : Z.length = Q.length := by rw [h.q, List.length_map]
theorem InvZ.set (h : InvZ F id B N Q Z) (hs : ∀ A ∈ B, A ∈ B') (hn : N ≤ N') (hz : RqOk F id B' N' k z') : InvZ F id B' N' (Q.set k z'.1) (Z.set k z') := by
 refine ⟨by rw [h.q, List.map_set], fun j y hy => ?_⟩
 rw [List.getElem?_set] at hy
 split at hy
 ·split at hy
  ·rename_i e _; subst e; cases hy; exact hz
  ·cases hy
 ·exact (h.x j y hy).more hs hn
theorem InvZ.push (h : InvZ F id B N Q Z) (hz : RqOk F id B N Q.length z) : InvZ F id B N (Q ++ [z.1]) (Z ++ [z]) := by
 refine ⟨by rw [h.q, List.map_append]; rfl, fun j y hy => ?_⟩
 rcases Nat.lt_or_ge j Z.length with q | q
 ·rw [List.getElem?_append_left q] at hy; exact h.x j y hy
 ·rw [List.getElem?_append_right q] at hy
  have e : j - Z.length = 0 := by
   have := (List.getElem?_eq_some_iff.1 hy).1
   simp only [List.length_cons, List.length_nil] at this; omega
  rw [e] at hy; cases hy
  rw [show j = Q.length by rw [← h.len]; omega]; exact hz
theorem OutG.nil : OutG F id [] := .inl rfl
theorem Z9p (Q : List Zq) (ix : Int) : Zc2 Q ix = -1 ∨ ∃ (k : Nat) (q : Zq), Q[k]? = some q ∧ Zc2 Q ix = (k : Int) ∧ q.op = true := by
 by_cases h : ∃ (k : Nat) (q : Zq), Q[k]? = some q ∧ Z8l ix q = true
 ·obtain ⟨k, ⟨q, hq, hp⟩, hmin⟩ := least (p := fun (k : Nat) => ∃ q : Zq, Q[k]? = some q ∧ Z8l ix q = true) h.choose h.choose_spec
  refine .inr ⟨k, q, hq, ZaF hq hp (fun j x hj hx => ?_), ?_⟩
  ·cases e : Z8l ix x with
   | false => rfl
   | true => have := hmin j ⟨x, hx, e⟩; omega
  ·unfold Z8l at hp; simp only [Bool.and_eq_true] at hp; exact hp.1
 ·refine .inl (Z9o fun x hx => ?_)
  obtain ⟨k, hk⟩ := List.getElem?_of_mem hx
  cases e : Z8l ix x with
  | false => rfl
  | true => exact absurd ⟨k, x, hk, e⟩ h
end
end Go.Proofs.YtgigjkjdmalmaaaGreat
namespace Go.Proofs.YtgigjkjdmalmaaaGreat
open Go.ChangeShapes Go.WideShapes Go.ChangeAt Go.RowKit Go.Deep
structure PyD where
 a : Option Addr
 c : Nat
 P : List UInt8
def encPy (x : PyD) : List Value := [.slice x.a x.P.length x.c]
def py0 : PyD := ⟨none, 0, []⟩
def PyIn (w : World) (x : PyD) : Prop := ListAt ZH 1 w (.slice x.a x.P.length x.c) x.P
structure OlD where
 a : Option Addr
 c : Nat
 D : List OmR
def ZZ (x : OlD) : List Value := [.slice x.a x.D.length x.c]
theorem Z9c (x : OlD) : (ZZ x).length = 1 := rfl
theorem Z2l (x : OlD) : (ZZ x).all (·.oneCell') = true := rfl
def ol0 : OlD := ⟨none, 0, []⟩
def olC (x : OlD) : Ck := Zc 82 295 (.slice x.a x.D.length x.c) x.D.length (x.D.flatMap Z0d)
def OlOk (F id : Int) (B : List Ck) (OL : List OlD) : Prop := ∀ x ∈ OL, OutG F id x.D ∧ olC x ∈ B
section
variable {F id : Int} {B : List Ck} {OL : List OlD} {x : OlD}
theorem OlOk.nil : OlOk F id B [] := fun x hx => by cases hx
theorem OlOk.add (h : OlOk F id B OL) (hx : OutG F id x.D) : OlOk F id (olC x :: B) (OL ++ [x]) := fun y hy => by
 rcases List.mem_append.1 hy with hy | hy
 ·exact ⟨(h y hy).1, List.mem_cons_of_mem _ (h y hy).2⟩
 ·rw [List.mem_singleton.1 hy]; exact ⟨hx, List.mem_cons_self⟩
end
def Z0T (i : Nat) : Z1e := ⟨UInt8.ofNat i :: List.replicate 31 0, by simp⟩
theorem Z8y {i : Nat} (h : i < 3) : (Value.int .u8 (i : Int) :: List.replicate 31 (Value.int .u8 0)) = hc (Z0T i) := by
 rcases (by omega : i = 0 ∨ i = 1 ∨ i = 2) with rfl | rfl | rfl
 ·kernel_rfl
 ·kernel_rfl
 ·kernel_rfl
section
variable {H : Type} {enc : TypeId × Value → H} {W : World}
theorem Zb3 {v : Value} {d : DataW H} {ps : List MemPlace} (hv : ∃ a len cap, v = .slice a len cap) (h : DataW.Trod enc Tryz.prog W 0 (fun _ => true) true 86 v d ps) : ∃ xs, (∀ x ∈ xs, PyIn W x) ∧ ListAt encPy 1 W v xs := by
 obtain ⟨xs, hx⟩ := Z0x (sz := 1) (R := fun w a (x : PyD) => w.cell? a = some (.slice x.a x.P.length x.c) ∧ PyIn W x) Tryz.underlying86 (by kernel_rfl) (by omega) hv h (fun cs n y b off hl hcs hy => by
  obtain ⟨a, len, cap, rfl⟩ := Z0i Tryz.underlying38 hy
  obtain ⟨xs, hL⟩ := Z9U (v := .slice a len cap) (d := y.1) (ps := y.2) ⟨a, len, cap, rfl⟩ ⟨n, hy⟩
  obtain ⟨a', c', hv⟩ := hL.len
  simp only [Value.slice.injEq] at hv
  obtain ⟨rfl, rfl, rfl⟩ := hv
  exact ⟨⟨_, _, xs⟩, hcs 0 (by simp), hL⟩)
 refine ⟨xs, fun n hn => ?_, SliceOf.imp hx fun a x h => Z7R h.1⟩
 obtain ⟨i, hi, rfl⟩ := List.mem_iff_getElem.1 hn
 obtain ⟨b, off, cap, _, _, hall⟩ := hx.some (by omega)
 exact (hall i hi).2
end
end Go.Proofs.YtgigjkjdmalmaaaGreat
