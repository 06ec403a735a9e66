/- The law on an image's name: it gives true, whatever the bytes. Conditions: none. -/
import Derived.Test.YtpebkeonkfanpaaGreatKeyLives
namespace Go.Proofs.YtpebkeonkfanpaaGreat.Sym
open Go.Den
/-! ## The law, for an image that is not empty -/
def HD (xs : List Nat) : AH := (HA xs).up 19
def HE (xs : List Nat) : AH := (HA xs).up 30
def HF (xs : List Nat) (k : Nat) : AH := (HE xs).up k
theorem d7 (C : Oracle) (xs : List Nat) : syG envT (C) (9) [] [] 7 ([keyV xs]) ((HC xs)) = some (Value.agg (Array.mk [Value.int IntKind.i64 (Int.ofNat (List.length xs)), Value.int IntKind.u32 (Int.ofNat (sumN xs)), Value.int IntKind.u8 (Int.ofNat (endN xs 0)), Value.int IntKind.u8 (Int.ofNat (endN xs 1)), Value.int IntKind.u8 (Int.ofNat (endN xs 2)), Value.int IntKind.u8 (Int.ofNat (endN xs 3)), Value.int IntKind.u8 (Int.ofNat (endN xs 4)), Value.int IntKind.u8 (Int.ofNat (endN xs 5)), Value.int IntKind.u8 (Int.ofNat (endN xs 6)), Value.int IntKind.u8 (Int.ofNat (endN xs 7)), Value.int IntKind.u8 (Int.ofNat (endN xs 8)), Value.int IntKind.u8 (Int.ofNat (endN xs 9)), Value.int IntKind.u8 (Int.ofNat (endN xs 10)), Value.int IntKind.u8 (Int.ofNat (endN xs 11)), Value.int IntKind.u8 (Int.ofNat (endN xs 12)), Value.int IntKind.u8 (Int.ofNat (endN xs 13)), Value.int IntKind.u8 (Int.ofNat (endN xs 14)), Value.int IntKind.u8 (Int.ofNat (endN xs 15))]), AH.mk 31 (PT.node (some (roO xs)) (PT.node none PT.leaf (PT.node none PT.leaf (PT.node none PT.leaf (PT.node (some (AObj.cells (PT.node (some (Value.int IntKind.i64 (Int.ofNat (List.length xs)))) (PT.node (some (Value.int IntKind.u32 (Int.ofNat (sumN xs)))) (PT.node (some (Value.int IntKind.u8 (Int.ofNat (endN xs 1)))) (PT.node (some (Value.int IntKind.u8 (Int.ofNat (endN xs 5)))) (PT.node (some (Value.int IntKind.u8 (Int.ofNat (endN xs 13)))) PT.leaf PT.leaf) PT.leaf) (PT.node (some (Value.int IntKind.u8 (Int.ofNat (endN xs 9)))) PT.leaf PT.leaf)) (PT.node (some (Value.int IntKind.u8 (Int.ofNat (endN xs 3)))) (PT.node (some (Value.int IntKind.u8 (Int.ofNat (endN xs 7)))) (PT.node (some (Value.int IntKind.u8 (Int.ofNat (endN xs 15)))) PT.leaf PT.leaf) PT.leaf) (PT.node (some (Value.int IntKind.u8 (Int.ofNat (endN xs 11)))) PT.leaf PT.leaf))) (PT.node (some (Value.int IntKind.u8 (Int.ofNat (endN xs 0)))) (PT.node (some (Value.int IntKind.u8 (Int.ofNat (endN xs 2)))) (PT.node (some (Value.int IntKind.u8 (Int.ofNat (endN xs 6)))) (PT.node (some (Value.int IntKind.u8 (Int.ofNat (endN xs 14)))) PT.leaf PT.leaf) PT.leaf) (PT.node (some (Value.int IntKind.u8 (Int.ofNat (endN xs 10)))) PT.leaf PT.leaf)) (PT.node (some (Value.int IntKind.u8 (Int.ofNat (endN xs 4)))) (PT.node (some (Value.int IntKind.u8 (Int.ofNat (endN xs 8)))) PT.leaf PT.leaf) (PT.node (some (Value.int IntKind.u8 (Int.ofNat (endN xs 12)))) PT.leaf PT.leaf)))) 18)) PT.leaf PT.leaf)))) (PT.node none (PT.node (some (lentO xs)) PT.leaf PT.leaf) (PT.node none PT.leaf (PT.node none PT.leaf (PT.node (some (AObj.cells (PT.node (some (Value.int IntKind.i64 (Int.ofNat (List.length xs)))) (PT.node (some (Value.int IntKind.u32 (Int.ofNat (sumN xs)))) (PT.node (some (Value.int IntKind.u8 (Int.ofNat (endN xs 1)))) (PT.node (some (Value.int IntKind.u8 (Int.ofNat (endN xs 5)))) (PT.node (some (Value.int IntKind.u8 (Int.ofNat (endN xs 13)))) PT.leaf PT.leaf) PT.leaf) (PT.node (some (Value.int IntKind.u8 (Int.ofNat (endN xs 9)))) PT.leaf PT.leaf)) (PT.node (some (Value.int IntKind.u8 (Int.ofNat (endN xs 3)))) (PT.node (some (Value.int IntKind.u8 (Int.ofNat (endN xs 7)))) (PT.node (some (Value.int IntKind.u8 (Int.ofNat (endN xs 15)))) PT.leaf PT.leaf) PT.leaf) (PT.node (some (Value.int IntKind.u8 (Int.ofNat (endN xs 11)))) PT.leaf PT.leaf))) (PT.node (some (Value.int IntKind.u8 (Int.ofNat (endN xs 0)))) (PT.node (some (Value.int IntKind.u8 (Int.ofNat (endN xs 2)))) (PT.node (some (Value.int IntKind.u8 (Int.ofNat (endN xs 6)))) (PT.node (some (Value.int IntKind.u8 (Int.ofNat (endN xs 14)))) PT.leaf PT.leaf) PT.leaf) (PT.node (some (Value.int IntKind.u8 (Int.ofNat (endN xs 10)))) PT.leaf PT.leaf)) (PT.node (some (Value.int IntKind.u8 (Int.ofNat (endN xs 4)))) (PT.node (some (Value.int IntKind.u8 (Int.ofNat (endN xs 8)))) PT.leaf PT.leaf) (PT.node (some (Value.int IntKind.u8 (Int.ofNat (endN xs 12)))) PT.leaf PT.leaf)))) 18)) PT.leaf PT.leaf))))) [],
  []) := by kernel_rfl
theorem d3 (C : Oracle) (cap k : Nat) (xs : List Nat) : syG envT (C) (9) [(2, Value.tuple (Array.mk [sl 4 0 (List.length xs + 5) (unk 1), sl 4 0 (List.length xs) (unk 1)]), some (HA xs)),
  (9, keyV xs, some (HB xs)),
  (11, keyV xs, some (HC xs)),
  (12, keyV xs, some (HD xs)),
  (13, Value.bool true, none),
  (17, Value.bool true, some (HE xs)),
  (20, Value.bool true, some (HF xs k))] [] 3 ([sl 0 0 xs.length cap]) ((H0 xs)) = some (Value.bool true, AH.mk (42 + k) (PT.node (some (roO xs)) PT.leaf (PT.node none (PT.node (some (lentO xs)) PT.leaf PT.leaf) PT.leaf)) [],
  [(C (Value.func (Fn.func 10) (Array.mk []) (Array.mk [])) [] (AH.mk 42 (PT.node (some (roO xs)) PT.leaf (PT.node none (PT.node (some (lentO xs)) PT.leaf PT.leaf) PT.leaf)) [])) = some (Value.bool true, HF xs k),
   (C (Value.func (Fn.func 9) (Array.mk []) (Array.mk [])) [Value.slice (some (Addr.mk 4 0 none)) (List.length xs + 5) 4611686018427387905, Value.slice (some (Addr.mk 0 0 none)) (List.length xs) cap] (AH.mk 31 (PT.node (some (roO xs)) PT.leaf (PT.node none (PT.node (some (lentO xs)) PT.leaf PT.leaf) PT.leaf)) [])) = some (Value.bool true, HE xs),
   ((kBin envT .eql 28 none (keyV xs) (keyV xs)).bind fun v => some (v, HD xs)) = some (Value.bool true, HD xs),
   (C (Value.func (Fn.func 7) (Array.mk []) (Array.mk [])) [Value.agg (Array.mk [Value.int IntKind.i64 (Int.ofNat (List.length xs)), Value.int IntKind.u32 (Int.ofNat (sumN xs)), Value.int IntKind.u8 (Int.ofNat (endN xs 0)), Value.int IntKind.u8 (Int.ofNat (endN xs 1)), Value.int IntKind.u8 (Int.ofNat (endN xs 2)), Value.int IntKind.u8 (Int.ofNat (endN xs 3)), Value.int IntKind.u8 (Int.ofNat (endN xs 4)), Value.int IntKind.u8 (Int.ofNat (endN xs 5)), Value.int IntKind.u8 (Int.ofNat (endN xs 6)), Value.int IntKind.u8 (Int.ofNat (endN xs 7)), Value.int IntKind.u8 (Int.ofNat (endN xs 8)), Value.int IntKind.u8 (Int.ofNat (endN xs 9)), Value.int IntKind.u8 (Int.ofNat (endN xs 10)), Value.int IntKind.u8 (Int.ofNat (endN xs 11)), Value.int IntKind.u8 (Int.ofNat (endN xs 12)), Value.int IntKind.u8 (Int.ofNat (endN xs 13)), Value.int IntKind.u8 (Int.ofNat (endN xs 14)), Value.int IntKind.u8 (Int.ofNat (endN xs 15))])] (AH.mk 29 (PT.node (some (roO xs)) PT.leaf (PT.node none (PT.node (some (lentO xs)) PT.leaf PT.leaf) PT.leaf)) [])) = some (keyV xs, HD xs),
   (C (Value.func (Fn.func 8) (Array.mk []) (Array.mk [])) [Value.slice (some (Addr.mk 0 0 none)) (List.length xs) cap] (AH.mk 27 (PT.node (some (roO xs)) PT.leaf (PT.node none (PT.node (some (lentO xs)) PT.leaf PT.leaf) PT.leaf)) [])) = some (keyV xs, HC xs),
   (C (Value.func (Fn.func 6) (Array.mk []) (Array.mk [])) [Value.slice (some (Addr.mk 4 0 none)) (List.length xs) 4611686018427387905] (AH.mk 12 (PT.node (some (roO xs)) PT.leaf (PT.node none (PT.node (some (lentO xs)) PT.leaf PT.leaf) PT.leaf)) [])) = some (keyV xs, HB xs),
   (C (Value.func (Fn.func 5) (Array.mk []) (Array.mk [])) [Value.slice (some (Addr.mk 0 0 none)) (List.length xs) cap] (AH.mk 1 (PT.node (some (roO xs)) PT.leaf PT.leaf) [])) = some (Value.tuple (Array.mk [sl 4 0 (List.length xs + 5) (unk 1), sl 4 0 (List.length xs) (unk 1)]), HA xs)]) := by kernel_rfl
theorem told7 (xs : List Nat) : Den.Told Tryz.prog 7 (fact [keyV xs] (HC xs) (keyV xs) (HD xs)) :=
  fact_told noC_sound (syG_sound (d7 noC xs) goodY_nil) rfl (HA_keep (by kernel_rfl) (by kernel_rfl) 19) fun b _ => rfl
theorem vEqA_key (xs : List Nat) : vEqA (keyV xs) (keyV xs) = true := klEq_self (l := i64 xs.length :: u32 (sumN xs) :: endsL xs) rfl
theorem eq28 {xs : List Nat} (hx : ∀ x ∈ xs, x < 256) (hs : xs.length ≤ 140737488351232) : kBin envT .eql 28 none (keyV xs) (keyV xs) = some (.bool true) := by
  have hk : envT.key 28 = some fun v => (keyOf Tryz.prog 28 v).isSome := by kernel_rfl
  have ha : atomA (keyV xs) = true := by kernel_rfl
  unfold kBin
  simp only [hk, isKey28 hx hs, ha, Bool.and_self, cond_true, vEqA_key]
section
variable {xs : List Nat} (hx : ∀ x ∈ xs, x < 256) (hn : 0 < xs.length) (hs : xs.length ≤ 140737488351232) (cap : Nat)
noncomputable def tbLaw (xs : List Nat) (cap : Nat) : PT Fun := (((((PT.leaf.put 5 (some fLend)).put 6 (some (fact [sl 4 0 xs.length (unk 1)] (HA xs) (keyV xs) (HB xs)))).put 8 (some (fact [sl 0 0 xs.length cap] (HB xs) (keyV xs) (HC xs)))).put 7 (some (fact [keyV xs] (HC xs) (keyV xs) (HD xs)))).put 9 (some fKept)).put 10 (some fLives)
include hx hn hs in
theorem tbLaw_ok : TabOK Tryz.prog envT (tbLaw xs cap) :=
  (((((TabOK.leaf.put t5_told (fnS (by kernel_rfl))).put (told6 hx hn hs) (fnS (by kernel_rfl))).put (told8 hx hs cap) (fnS (by kernel_rfl))).put (told7 xs) (fnS (by kernel_rfl))).put t9_told (fnS (by kernel_rfl))).put t10 (fnS (by kernel_rfl))
include hx hn hs in
theorem law3 : ∃ h₁, denG envT (tabS (tbLaw xs cap)) 9 3 [sl 0 0 xs.length cap] (H0 xs) = some (.bool true, h₁) := by
  have b0 : Bys (H0 xs) 0 0 xs := data_bys (by kernel_rfl) hx
  have bD : Bys (HD xs) 0 0 xs := data_bys (by kernel_rfl) hx
  have bD4 : Bys (HD xs) 4 0 (xs ++ five) := lent_bys (HA_lent xs) hx
  refine ⟨_, syG_sound (d3 (tabS (tbLaw xs cap)) cap livesN xs) (goodY_cons ?_ <| goodY_cons ?_ <| goodY_cons ?_ <| goodY_cons ?_ <| goodY_cons ?_ <| goodY_cons ?_ <| goodY_cons ?_ goodY_nil)⟩
  · have h1 := tabS_at (tbl := tbLaw xs cap) (g := 10) (f := fLives) (args := []) (h := HE xs) (h' := (HE xs).up livesN) (v := .bool true) (by kernel_rfl) rfl
    exact Eq.mp (by kernel_rfl) h1
  · have h1 := tabS_at (tbl := tbLaw xs cap) (g := 9) (f := fKept) (by kernel_rfl) (fKept_eq (c1 := unk 1) (c := cap) bD4 bD hn hs)
    exact Eq.mp (by kernel_rfl) h1
  · rw [eq28 hx hs]; rfl
  · have h1 := tabS_at (tbl := tbLaw xs cap) (g := 7) (by kernel_rfl) (fact_at [keyV xs] (HC xs) (keyV xs) (HD xs))
    exact Eq.mp (by kernel_rfl) h1
  · have h1 := tabS_at (tbl := tbLaw xs cap) (g := 8) (by kernel_rfl) (fact_at [sl 0 0 xs.length cap] (HB xs) (keyV xs) (HC xs))
    exact Eq.mp (by kernel_rfl) h1
  · have h1 := tabS_at (tbl := tbLaw xs cap) (g := 6) (by kernel_rfl) (fact_at [sl 4 0 xs.length (unk 1)] (HA xs) (keyV xs) (HB xs))
    exact Eq.mp (by kernel_rfl) h1
  · have h1 := tabS_at (tbl := tbLaw xs cap) (g := 5) (f := fLend) (by kernel_rfl) (fLend_eq (c := cap) b0 hn hs)
    exact Eq.mp (by kernel_rfl) h1
end

theorem keys_run0 : (denF envT (den envT (tabS telK) 1000000 60) (xdraw envT (den envT (tabS telK) 1000000 60)) 1000000 3 [.slice none 0 0] h0).map (·.1) = some (.bool true) := by kernel_rfl
theorem keys_run1 : (denF envT (den envT (tabS telK) 1000000 60) (xdraw envT (den envT (tabS telK) 1000000 60)) 1000000 3 [.slice (some ⟨0, 0, none⟩) 0 (unk 0)] h1).map (·.1) = some (.bool true) := by kernel_rfl
end Go.Proofs.YtpebkeonkfanpaaGreat.Sym
