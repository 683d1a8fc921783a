/- WHAT IS PROVED: what a row of votes makes of a list of votes. Conditions: stated with each. -/
import Derived.Test.YtfhhljgjppcdlaaRefMath
import Derived.Test.YtfhhljgjppcdlaaVotes
namespace Go.Proofs.Ytfhhljgjppcdlaa
open Go.RowKit
def voteOf (x : VoteIn) : VoteD := ⟨x.cut.kind, x.cut.round, x.cut.replica, x.cut.h⟩
def playL (f : Int) (ls : List VoteIn) (L : List VoteD) : Nat → List VoteD
  | 0 => L
  | k + 1 => addV f (playL f ls L k) (voteOf (voteD ls k))
theorem playL_len (f : Int) (ls : List VoteIn) (L : List VoteD) : ∀ k, (playL f ls L k).length ≤ L.length + k
  | 0 => by simp [playL]
  | k + 1 => by have := addV_len f (playL f ls L k) (voteOf (voteD ls k)); have := playL_len f ls L k; simp only [playL]; omega
theorem playL_inv {f : Int} {L : List VoteD} (h : VInv f L) (ls : List VoteIn) : ∀ k, VInv f (playL f ls L k)
  | 0 => h
  | k + 1 => (playL_inv h ls k).add _
section
variable {w0 w w' : World} {G : List Ck} {A B : Ck}
/-- two pieces as one -/
theorem Sat.close2 (H : Sat w0 (A :: B :: G) w) : Sat w0 (sepC [A, B] :: G) w := by
  have hA := List.pairwise_cons.1 H.dis
  have hB := List.pairwise_cons.1 hA.2
  refine ⟨H.ext, ?_, ?_⟩
  · intro C hC
    rcases List.mem_cons.1 hC with rfl | hC
    · exact ⟨fun D hD => H.all D (by
        rcases List.mem_cons.1 hD with rfl | hD
        · exact List.mem_cons_self ..
        · obtain rfl := List.mem_singleton.1 hD; exact List.mem_cons_of_mem _ (List.mem_cons_self ..)), by
        simp only [List.pairwise_cons, List.mem_singleton, List.not_mem_nil, false_implies, implies_true, List.Pairwise.nil, and_true, forall_eq]
        exact fun b => hA.1 B (List.mem_cons_self ..) b⟩
    · exact H.all C (List.mem_cons_of_mem _ (List.mem_cons_of_mem _ hC))
  · refine List.pairwise_cons.2 ⟨fun C hC b hb hc => ?_, hB.2⟩
    obtain ⟨D, hD, hfp⟩ := hb
    rcases List.mem_cons.1 hD with rfl | hD
    · exact hA.1 C (List.mem_cons_of_mem _ hC) b hfp hc
    · obtain rfl := List.mem_singleton.1 hD
      exact hB.1 C hC b hfp hc
/-- a call that turned one piece of the caller's -/
theorem Sat.turned {A' B' : Ck} {P : Ck} (H : Sat w0 G w) (i : Nat) (hi : G[i]? = some P) (h : Sat w [A', B', restC w P.fp] w') : Sat w0 (G.set i (sepC [A', B'])) w' := by
  have hr := h.at 2 rfl
  refine H.set i hi h.ext (fun b hb hn => hr b hb hn) (h.fin [0, 1] (by decide) rfl) fun b hb => ?_
  obtain ⟨D, hD, hfp⟩ := hb
  have far : ¬ (restC w P.fp).fp b := by
    rcases List.mem_cons.1 hD with rfl | hD
    · exact h.apart 0 2 rfl rfl rfl b hfp
    · obtain rfl := List.mem_singleton.1 hD
      exact h.apart 1 2 rfl rfl rfl b hfp
  rcases Nat.lt_or_ge b w.heap.size with hlt | hge
  · exact .inl (Classical.byContradiction fun hn => far ⟨hlt, hn⟩)
  · exact .inr hge
end
theorem votes_now {W w : World} {G : List Ck} (H : Sat W G w) (j : Nat) (hj : G[j]? = some (restC W fun _ => False)) {v : Value} {ls : List VoteIn} (hv : VotesAt W v ls) : VotesAt w v ls :=
  SliceOf.mono hv fun _ _ h q u hq => H.cellR j hj (h q u hq) (fun h => h)
theorem votes_off {W w : World} {G : List Ck} (H : Sat W G w) (i j : Nat) {A : Ck} (hi : G[i]? = some A) (hj : G[j]? = some (restC W fun _ => False)) (hne : Nat.beq i j = false) {va : Option Addr} {vc : Nat} {ls : List VoteIn} (hv : VotesAt W (.slice va ls.length vc) ls) : 0 < ls.length → ∀ a, va = some a → ¬ A.fp a.block := by
  intro h0 a ha hfp
  obtain ⟨vb, vo, vc', hva, _, hvs⟩ := hv.some h0
  simp only [Value.slice.injEq] at hva
  obtain ⟨h1, _, _⟩ := hva
  rw [h1] at ha
  obtain rfl := (Option.some.inj ha)
  have hc := hvs 0 h0 0 (.int .i64 (ls[0]).kind) rfl
  rw [Addr.add_lit] at hc
  have hlt := World.block_lt_of_cell? W _ hc
  exact H.apart i j hi hj hne _ hfp ⟨hlt, fun h => h⟩
end Go.Proofs.Ytfhhljgjppcdlaa
