/- The reference's sum of bytes, bit by bit, and that it is the program's, half a byte at a time. Conditions: none. -/
import Derived.Test.YtpebkeonkfanpaaGreatDenK
import Derived.Test.YtpebkeonkfanpaaGreatToldEnv
namespace Go.Proofs.YtpebkeonkfanpaaGreat.Sym
open Go.Den

/-! ## Bits -/
theorem xor_lt {a b : Nat} (ha : a < 2 ^ 32) (hb : b < 2 ^ 32) : a ^^^ b < 2 ^ 32 := Nat.xor_lt_two_pow ha hb
theorem bits_xor {a b : Nat} (ha : a < 2 ^ 32) (hb : b < 2 ^ 32) : bitsOf .u32 Nat.xor (· ^^^ ·) (.ofNat a) (.ofNat b) = .ofNat (a ^^^ b) := by
  show wr .u32 (.ofNat (Nat.xor (a % 2 ^ 32) (b % 2 ^ 32))) = _
  rw [Nat.mod_eq_of_lt ha, Nat.mod_eq_of_lt hb]
  exact wr_lt (xor_lt ha hb)
theorem bits_and (k : Nat) {a : Nat} (ha : a < 2 ^ 32) (h2 : 2 ^ k - 1 < 2 ^ 32) : bitsOf .u32 Nat.land (· &&& ·) (.ofNat a) (.ofNat (2 ^ k - 1)) = .ofNat (a % 2 ^ k) := by
  show wr .u32 (.ofNat (Nat.land (a % 2 ^ 32) ((2 ^ k - 1) % 2 ^ 32))) = _
  rw [Nat.mod_eq_of_lt ha, Nat.mod_eq_of_lt h2]
  have : Nat.land a (2 ^ k - 1) = a % 2 ^ k := Nat.and_two_pow_sub_one_eq_mod a k
  rw [this]
  exact wr_lt (Nat.lt_of_le_of_lt (Nat.mod_le _ _) ha)
theorem bits_not {a : Nat} (ha : a < 2 ^ 32) : bitsOf .u32 Nat.xor (· ^^^ ·) (.ofNat 4294967295) (.ofNat a) = .ofNat (a ^^^ 4294967295) := by
  rw [bits_xor (by decide) ha, Nat.xor_comm]
theorem fdiv_nat (a b : Nat) : Int.fdiv (.ofNat a) (.ofNat b) = .ofNat (a / b) := Int.ofNat_fdiv a b |>.symm
theorem ieq_nat (a b : Nat) : ieq (.ofNat a) (.ofNat b) = decide (a = b) := by
  rw [ieq_eq]
  by_cases h : a = b
  · subst h; simp
  · rw [decide_eq_false h]
    simpa using fun h' => h (Int.ofNat.inj h')

/-! ## One bit more -/
def stepN (r b : Nat) : Nat := if (r ^^^ b) % 2 = 1 then (r / 2) ^^^ 3988292384 else r / 2
theorem stepN_lt {r b : Nat} (h : r < 2 ^ 32) : stepN r b < 2 ^ 32 := by
  unfold stepN
  split
  · exact xor_lt (by omega) (by decide)
  · omega
theorem step82t (r b : Nat) (h : AH) : syG envT (noC) (1) [(10, Value.bool true, none)] [] 82 ([u32 r, u32 b]) (h) = some (Value.int IntKind.u32 (bitsOf IntKind.u32 Nat.xor (fun x1 x2 => x1 ^^^ x2) (Int.fdiv (Int.ofNat r) (Int.ofNat 2)) (Int.ofNat 3988292384)), h,
  [some (Value.bool (ieq (bitsOf IntKind.u32 Nat.land (fun x1 x2 => x1 &&& x2) (bitsOf IntKind.u32 Nat.xor (fun x1 x2 => x1 ^^^ x2) (Int.ofNat r) (Int.ofNat b)) (Int.ofNat 1)) (Int.ofNat 1)), h) = some (Value.bool true, h)]) := by kernel_rfl
theorem step82f (r b : Nat) (h : AH) : syG envT (noC) (1) [(10, Value.bool false, none)] [] 82 ([u32 r, u32 b]) (h) = some (Value.int IntKind.u32 (Int.fdiv (Int.ofNat r) (Int.ofNat 2)), h,
  [some (Value.bool (ieq (bitsOf IntKind.u32 Nat.land (fun x1 x2 => x1 &&& x2) (bitsOf IntKind.u32 Nat.xor (fun x1 x2 => x1 ^^^ x2) (Int.ofNat r) (Int.ofNat b)) (Int.ofNat 1)) (Int.ofNat 1)), h) = some (Value.bool false, h)]) := by kernel_rfl
theorem step82 {r b : Nat} (hr : r < 2 ^ 32) (hb : b < 2 ^ 32) (h : AH) : denG envT noC 1 82 [u32 r, u32 b] h = some (u32 (stepN r b), h) := by
  have hx := bits_xor hr hb
  have ha := bits_and 1 (xor_lt hr hb) (by decide)
  have hc : ieq (bitsOf IntKind.u32 Nat.land (fun x1 x2 => x1 &&& x2) (bitsOf IntKind.u32 Nat.xor (fun x1 x2 => x1 ^^^ x2) (Int.ofNat r) (Int.ofNat b)) (Int.ofNat 1)) (Int.ofNat 1) = decide ((r ^^^ b) % 2 = 1) := by
    rw [hx]; exact (congrArg (ieq · (Int.ofNat 1)) ha).trans (ieq_nat _ _)
  unfold stepN
  by_cases h1 : (r ^^^ b) % 2 = 1
  · rw [if_pos h1]
    have hg := syG_sound (step82t r b h) (goodY_cons (by simp only [hc, decide_eq_true h1]) goodY_nil)
    rw [hg, fdiv_nat, bits_xor (by omega) (by decide)]; rfl
  · rw [if_neg h1]
    have hg := syG_sound (step82f r b h) (goodY_cons (by simp only [hc, decide_eq_false h1]) goodY_nil)
    rw [hg, fdiv_nat]; rfl
def fStep : Fun := fun args h => match args with
  | [.int .u32 (.ofNat r), .int .u32 (.ofNat b)] => bif Nat.blt r 4294967296 && Nat.blt b 4294967296 then some (u32 (stepN r b), h) else none
  | _ => none
theorem blt_of {a b : Nat} (h : Nat.blt a b = true) : a < b := Nat.le_of_ble_eq_true h
theorem t82 : Den.Told Tryz.prog 82 fStep := by
  refine Told.mono (denG_told envT_ok noC_sound 1 82) fun args h x hx => ?_
  unfold fStep at hx
  split at hx
  · rename_i r b
    cases hb : (Nat.blt r 4294967296 && Nat.blt b 4294967296) with
    | false => rw [hb] at hx; cases hx
    | true =>
      rw [hb] at hx; cases hx
      simp only [Bool.and_eq_true] at hb
      exact step82 (blt_of hb.1) (blt_of hb.2) h
  · cases hx
theorem fStep_eq {r b : Nat} (hr : r < 2 ^ 32) (hb : b < 2 ^ 32) (h : AH) : fStep [u32 r, u32 b] h = some (u32 (stepN r b), h) := by
  show (bif Nat.blt r 4294967296 && Nat.blt b 4294967296 then _ else _) = _
  rw [blt_t hr, blt_t hb]; rfl
/-! ## The reference's register behind some bytes -/
noncomputable def fi48 : FI := match envT.fn 48 with | some x => x | none => ⟨.skip, 0, #[]⟩
noncomputable def X48 : Code := atP fi48.body [2, 1, 2, 1, 1]
def rN (r x : Nat) : Nat → Nat
  | 0 => r
  | k + 1 => stepN (rN r x k) (x / 2 ^ k % 2)
theorem rN_lt {r x : Nat} (h : r < 2 ^ 32) : ∀ k, rN r x k < 2 ^ 32
  | 0 => h
  | k + 1 => stepN_lt (rN_lt h k)
def t48 (r b o n c i : Nat) (tm : Tm) : Tm := tmK [(0, u32 r), (1, sl b o n c), (5, i64 i)] tm
noncomputable def s48 (C : Oracle) (N r x b o n c i : Nat) (tm : Tm) (h : AH) : SY := syC envT (C) (29) ((N + 9)) [(3, Value.bool true, none),
  (10, ptr b (o + i), none),
  (11, u8 x, none),
  (17, u32 (rN r x 1), none),
  (27, ptr b (o + i), none),
  (28, u8 x, none),
  (34, u32 (rN r x 2), none),
  (44, ptr b (o + i), none),
  (45, u8 x, none),
  (51, u32 (rN r x 3), none),
  (61, ptr b (o + i), none),
  (62, u8 x, none),
  (68, u32 (rN r x 4), none),
  (78, ptr b (o + i), none),
  (79, u8 x, none),
  (85, u32 (rN r x 5), none),
  (95, ptr b (o + i), none),
  (96, u8 x, none),
  (102, u32 (rN r x 6), none),
  (112, ptr b (o + i), none),
  (113, u8 x, none),
  (119, u32 (rN r x 7), none),
  (129, ptr b (o + i), none),
  (130, u8 x, none),
  (136, u32 (rN r x 8), none)] [] (X48) (t48 r b o n c i tm) (h) 0 []
theorem s48_ok (C : Oracle) (N r x b o n c i : Nat) (tm : Tm) (h : AH) : Sy envT (C) (29) ((N + 9)) [(3, Value.bool true, none),
  (10, ptr b (o + i), none),
  (11, u8 x, none),
  (17, u32 (rN r x 1), none),
  (27, ptr b (o + i), none),
  (28, u8 x, none),
  (34, u32 (rN r x 2), none),
  (44, ptr b (o + i), none),
  (45, u8 x, none),
  (51, u32 (rN r x 3), none),
  (61, ptr b (o + i), none),
  (62, u8 x, none),
  (68, u32 (rN r x 4), none),
  (78, ptr b (o + i), none),
  (79, u8 x, none),
  (85, u32 (rN r x 5), none),
  (95, ptr b (o + i), none),
  (96, u8 x, none),
  (102, u32 (rN r x 6), none),
  (112, ptr b (o + i), none),
  (113, u8 x, none),
  (119, u32 (rN r x 7), none),
  (129, ptr b (o + i), none),
  (130, u8 x, none),
  (136, u32 (rN r x 8), none)] [] (X48) (t48 r b o n c i tm) (h) .normal (SY.t (s48 C N r x b o n c i tm h)) (h) (SY.c (s48 C N r x b o n c i tm h)) := ⟨146, by kernel_rfl⟩
theorem s48_c (C : Oracle) (N r x b o n c i : Nat) (tm : Tm) (h : AH) : SY.c (s48 C N r x b o n c i tm h) =
  [(C (Value.func (Fn.func 82) (Array.mk []) (Array.mk [])) [Value.int IntKind.u32 (Int.ofNat (rN r x 7)), Value.int IntKind.u32 (bitsOf IntKind.u32 Nat.land (fun x1 x2 => x1 &&& x2) (wr IntKind.u32 (Int.fdiv (Int.ofNat x) (Int.ofNat 128))) (Int.ofNat 1))] (h)) = some (u32 (rN r x 8), h),
   ((AH.cell (h) (b) (o + i)).bind fun v => some (v, h)) = some (u8 x, h),
   (((ixOk (Int.ofNat i) (n)).bind fun m => some (ptr (b) (o + m * 1))).bind fun v => some (v, h)) = some (ptr b (o + i), h),
   (C (Value.func (Fn.func 82) (Array.mk []) (Array.mk [])) [Value.int IntKind.u32 (Int.ofNat (rN r x 6)), Value.int IntKind.u32 (bitsOf IntKind.u32 Nat.land (fun x1 x2 => x1 &&& x2) (wr IntKind.u32 (Int.fdiv (Int.ofNat x) (Int.ofNat 64))) (Int.ofNat 1))] (h)) = some (u32 (rN r x 7), h),
   ((AH.cell (h) (b) (o + i)).bind fun v => some (v, h)) = some (u8 x, h),
   (((ixOk (Int.ofNat i) (n)).bind fun m => some (ptr (b) (o + m * 1))).bind fun v => some (v, h)) = some (ptr b (o + i), h),
   (C (Value.func (Fn.func 82) (Array.mk []) (Array.mk [])) [Value.int IntKind.u32 (Int.ofNat (rN r x 5)), Value.int IntKind.u32 (bitsOf IntKind.u32 Nat.land (fun x1 x2 => x1 &&& x2) (wr IntKind.u32 (Int.fdiv (Int.ofNat x) (Int.ofNat 32))) (Int.ofNat 1))] (h)) = some (u32 (rN r x 6), h),
   ((AH.cell (h) (b) (o + i)).bind fun v => some (v, h)) = some (u8 x, h),
   (((ixOk (Int.ofNat i) (n)).bind fun m => some (ptr (b) (o + m * 1))).bind fun v => some (v, h)) = some (ptr b (o + i), h),
   (C (Value.func (Fn.func 82) (Array.mk []) (Array.mk [])) [Value.int IntKind.u32 (Int.ofNat (rN r x 4)), Value.int IntKind.u32 (bitsOf IntKind.u32 Nat.land (fun x1 x2 => x1 &&& x2) (wr IntKind.u32 (Int.fdiv (Int.ofNat x) (Int.ofNat 16))) (Int.ofNat 1))] (h)) = some (u32 (rN r x 5), h),
   ((AH.cell (h) (b) (o + i)).bind fun v => some (v, h)) = some (u8 x, h),
   (((ixOk (Int.ofNat i) (n)).bind fun m => some (ptr (b) (o + m * 1))).bind fun v => some (v, h)) = some (ptr b (o + i), h),
   (C (Value.func (Fn.func 82) (Array.mk []) (Array.mk [])) [Value.int IntKind.u32 (Int.ofNat (rN r x 3)), Value.int IntKind.u32 (bitsOf IntKind.u32 Nat.land (fun x1 x2 => x1 &&& x2) (wr IntKind.u32 (Int.fdiv (Int.ofNat x) (Int.ofNat 8))) (Int.ofNat 1))] (h)) = some (u32 (rN r x 4), h),
   ((AH.cell (h) (b) (o + i)).bind fun v => some (v, h)) = some (u8 x, h),
   (((ixOk (Int.ofNat i) (n)).bind fun m => some (ptr (b) (o + m * 1))).bind fun v => some (v, h)) = some (ptr b (o + i), h),
   (C (Value.func (Fn.func 82) (Array.mk []) (Array.mk [])) [Value.int IntKind.u32 (Int.ofNat (rN r x 2)), Value.int IntKind.u32 (bitsOf IntKind.u32 Nat.land (fun x1 x2 => x1 &&& x2) (wr IntKind.u32 (Int.fdiv (Int.ofNat x) (Int.ofNat 4))) (Int.ofNat 1))] (h)) = some (u32 (rN r x 3), h),
   ((AH.cell (h) (b) (o + i)).bind fun v => some (v, h)) = some (u8 x, h),
   (((ixOk (Int.ofNat i) (n)).bind fun m => some (ptr (b) (o + m * 1))).bind fun v => some (v, h)) = some (ptr b (o + i), h),
   (C (Value.func (Fn.func 82) (Array.mk []) (Array.mk [])) [Value.int IntKind.u32 (Int.ofNat (rN r x 1)), Value.int IntKind.u32 (bitsOf IntKind.u32 Nat.land (fun x1 x2 => x1 &&& x2) (wr IntKind.u32 (Int.fdiv (Int.ofNat x) (Int.ofNat 2))) (Int.ofNat 1))] (h)) = some (u32 (rN r x 2), h),
   ((AH.cell (h) (b) (o + i)).bind fun v => some (v, h)) = some (u8 x, h),
   (((ixOk (Int.ofNat i) (n)).bind fun m => some (ptr (b) (o + m * 1))).bind fun v => some (v, h)) = some (ptr b (o + i), h),
   (C (Value.func (Fn.func 82) (Array.mk []) (Array.mk [])) [Value.int IntKind.u32 (Int.ofNat r), Value.int IntKind.u32 (bitsOf IntKind.u32 Nat.land (fun x1 x2 => x1 &&& x2) (wr IntKind.u32 (Int.fdiv (Int.ofNat x) (Int.ofNat 1))) (Int.ofNat 1))] (h)) = some (u32 (rN r x 1), h),
   ((AH.cell (h) (b) (o + i)).bind fun v => some (v, h)) = some (u8 x, h),
   (((ixOk (Int.ofNat i) (n)).bind fun m => some (ptr (b) (o + m * 1))).bind fun v => some (v, h)) = some (ptr b (o + i), h),
   (some (Value.bool (ilt (Int.ofNat i) (Int.ofNat n)), h)) = some (Value.bool true, h)] := by kernel_rfl
theorem s48_t (C : Oracle) (N r x b o n c i : Nat) (tm : Tm) (h : AH) : SY.t (s48 C N r x b o n c i tm h) 0 = Value.int IntKind.u32 (Int.ofNat (rN r x 8)) ∧
   SY.t (s48 C N r x b o n c i tm h) 1 = Value.slice (some (Addr.mk b o none)) n c ∧
   SY.t (s48 C N r x b o n c i tm h) 5 = Value.int IntKind.i64 (wr IntKind.i64 (Int.ofNat (i + 1))) :=
  ⟨by kernel_rfl, by kernel_rfl, by kernel_rfl⟩
noncomputable def e48 (C : Oracle) (N r b o n c i : Nat) (tm : Tm) (h : AH) : SY := syC envT (C) (29) ((N + 9)) [(3, Value.bool false, none)] [] (X48) (t48 r b o n c i tm) (h) 0 []
theorem e48_ok (C : Oracle) (N r b o n c i : Nat) (tm : Tm) (h : AH) : Sy envT (C) (29) ((N + 9)) [(3, Value.bool false, none)] [] (X48) (t48 r b o n c i tm) (h) (.exit 0) (SY.t (e48 C N r b o n c i tm h)) (h) (SY.c (e48 C N r b o n c i tm h)) := ⟨4, by kernel_rfl⟩
theorem e48_c (C : Oracle) (N r b o n c i : Nat) (tm : Tm) (h : AH) : SY.c (e48 C N r b o n c i tm h) =
  [(some (Value.bool (ilt (Int.ofNat i) (Int.ofNat n)), h)) = some (Value.bool false, h)] := by kernel_rfl
theorem e48_t (C : Oracle) (N r b o n c i : Nat) (tm : Tm) (h : AH) : SY.t (e48 C N r b o n c i tm h) 0 = Value.int IntKind.u32 (Int.ofNat r) :=
  by kernel_rfl
theorem d48 (C : Oracle) (N r r' b o n c : Nat) (T : Tm) (h : AH) : syG envT (C) ((N + 9)) [] [(2, Ex.exit 0, tmK [(0, u32 r')] T, h)] 48 ([u32 r, sl b o n c]) (h) = some (Value.int IntKind.u32 (Int.ofNat r'), h,
  [∀ K : Kont, loopK ((N + 9)) (fun G => evF envT (C) 29 ((N + 9)) (atP (fi48.body) [2, 1, 2, 1, 1]) (thenK G K)) (stoF (stoF (fun i => gt ([u32 r, sl b o n c] ++ List.replicate 27 undV) i) (some 4) (Value.int IntKind.u32 (Int.ofNat 0))) (some 5) (Value.int IntKind.i64 (Int.ofNat 0))) (h) = K (Ex.exit 0) (tmK [(0, u32 r')] T) (h)]) := by kernel_rfl

noncomputable def tb48 : PT Fun := PT.leaf.put 82 (some fStep)
theorem tb48_ok : TabOK Tryz.prog envT tb48 := TabOK.leaf.put t82 (fnS (by kernel_rfl))
theorem tabS_at {tbl : PT Fun} {g : Nat} {f : Fun} {args : List Value} {h h' : AH} {v : Value} (hg : tbl.get g = some f) (hf : f args h = some (v, h')) : tabS tbl (.func (.func g) ⟨[]⟩ ⟨[]⟩) args h = some (v, h'.wdf h.df) := by
  show (match tbl.get g with | some f => (match f ([] ++ args ++ []) h with | some (v, h') => some (v, h'.wdf h.df) | none => none) | none => none) = _
  rw [hg]
  simp only [List.nil_append, List.append_nil, hf]
theorem ilt_nat (a b : Nat) : ilt (.ofNat a) (.ofNat b) = Nat.blt a b := rfl
theorem bit_lt (x k : Nat) : x / 2 ^ k % 2 < 2 ^ 32 := by have := Nat.mod_lt (x / 2 ^ k) (show 2 > 0 by decide); omega
theorem step_at {r x : Nat} (k p : Nat) (hp : 2 ^ k = p) (hr : r < 2 ^ 32) (hx : x < 256) (h : AH) :
    tabS tb48 (.func (.func 82) (Array.mk []) (Array.mk [])) [.int .u32 (.ofNat r), .int .u32 (bitsOf .u32 Nat.land (fun x1 x2 => x1 &&& x2) (wr .u32 (Int.fdiv (.ofNat x) (.ofNat p))) (.ofNat 1))] h = some (u32 (stepN r (x / 2 ^ k % 2)), h) := by
  subst hp
  have hq : x / 2 ^ k < 2 ^ 32 := Nat.lt_of_le_of_lt (Nat.div_le_self _ _) (by omega)
  have h1 : wr .u32 (Int.fdiv (.ofNat x) (.ofNat (2 ^ k))) = .ofNat (x / 2 ^ k) := by rw [fdiv_nat]; exact wr_lt hq
  have h2 := bits_and 1 hq (by decide)
  rw [h1]
  exact (congrArg (fun z => tabS tb48 (.func (.func 82) (Array.mk []) (Array.mk [])) [.int .u32 (.ofNat r), .int .u32 z] h) h2).trans (tabS_at (f := fStep) (by kernel_rfl) (fStep_eq hr (bit_lt x k) h))

theorem s48_good {N r x b o n c i : Nat} {tm : Tm} {h : AH} (hr : r < 2 ^ 32) (hx : x < 256) (hi : i < n) (hb : h.cell b (o + i) = some (u8 x)) : GoodP' (SY.c (s48 (tabS tb48) N r x b o n c i tm h)) := by
  rw [s48_c]
  have hc : ((AH.cell (h) (b) (o + i)).bind fun v => some (v, h)) = some (u8 x, h) := by rw [hb]; rfl
  have hix : (((ixOk (Int.ofNat i) (n)).bind fun m => some (ptr (b) (o + m * 1))).bind fun v => some (v, h)) = some (ptr b (o + i), h) := by rw [ix_lt hi]; simp
  have hl : (some (Value.bool (ilt (Int.ofNat i) (Int.ofNat n)), h)) = some (Value.bool true, h) := by rw [ilt_nat, blt_t hi]
  refine goodY_cons (step_at 7 128 rfl (rN_lt hr 7) hx h) <| goodY_cons hc <| goodY_cons hix <| goodY_cons (step_at 6 64 rfl (rN_lt hr 6) hx h) <| goodY_cons hc <| goodY_cons hix <|
    goodY_cons (step_at 5 32 rfl (rN_lt hr 5) hx h) <| goodY_cons hc <| goodY_cons hix <| goodY_cons (step_at 4 16 rfl (rN_lt hr 4) hx h) <| goodY_cons hc <| goodY_cons hix <|
    goodY_cons (step_at 3 8 rfl (rN_lt hr 3) hx h) <| goodY_cons hc <| goodY_cons hix <| goodY_cons (step_at 2 4 rfl (rN_lt hr 2) hx h) <| goodY_cons hc <| goodY_cons hix <|
    goodY_cons (step_at 1 2 rfl (rN_lt hr 1) hx h) <| goodY_cons hc <| goodY_cons hix <| goodY_cons (step_at 0 1 rfl hr hx h) <| goodY_cons hc <| goodY_cons hix <| goodY_cons hl goodY_nil

structure In48 (r b o n c i : Nat) (tm : Tm) : Prop where
  t0 : tm 0 = u32 r
  t1 : tm 1 = sl b o n c
  t5 : tm 5 = i64 i
theorem In48.eq {r b o n c i : Nat} {tm : Tm} (t : In48 r b o n c i tm) : t48 r b o n c i tm = tm := by
  refine tmK_self _ _ fun p hp => ?_
  simp only [List.mem_cons, List.not_mem_nil, or_false] at hp
  rcases hp with rfl | rfl | rfl
  · exact t.t0
  · exact t.t1
  · exact t.t5
def refN (r : Nat) (xs : List Nat) : Nat := xs.foldl (fun r x => rN r x 8) r
theorem refN_lt : ∀ (xs : List Nat) (r : Nat), r < 2 ^ 32 → refN r xs < 2 ^ 32
  | [], _, h => h
  | x :: xs, r, h => refN_lt xs (rN r x 8) (rN_lt h 8)

theorem loop48 {N b o c : Nat} {h : AH} (xs : List Nat) (hn : xs.length < 2 ^ 62) (hb : Bys h b o xs) :
    ∀ (k m i r : Nat) (tm : Tm), k < m → i + k = xs.length → r < 2 ^ 32 → In48 r b o xs.length c i tm →
      ∃ T, (∀ K, loopK m (fun G => evF envT (tabS tb48) 29 (N + 9) X48 (thenK G K)) tm h = K (.exit 0) T h) ∧ T 0 = u32 (refN r (xs.drop i)) := by
  intro k
  induction k with
  | zero =>
    intro m i r tm hm hi hr t
    obtain ⟨m, rfl⟩ : ∃ m', m = m' + 1 := ⟨m - 1, by omega⟩
    have e : i = xs.length := by omega
    subst e
    refine ⟨SY.t (e48 (tabS tb48) N r b o xs.length c xs.length tm h), fun K => ?_, ?_⟩
    · have hs := fun K => Sy.on (e48_ok (tabS tb48) N r b o xs.length c xs.length tm h) (by rw [e48_c]; exact goodY_cons (by rw [ilt_nat, blt_f (Nat.le_refl _)]) goodY_nil) K
      rw [t.eq] at hs
      exact loop_out (fun h => by cases h) hs
    · rw [e48_t]; simp [refN]; rfl
  | succ k ih =>
    intro m i r tm hm hi hr t
    obtain ⟨m, rfl⟩ : ∃ m', m = m' + 1 := ⟨m - 1, by omega⟩
    have hlt : i < xs.length := by omega
    obtain ⟨hx, hcell⟩ := hb i xs[i] (List.getElem?_eq_getElem hlt)
    obtain ⟨q0, q1, q5⟩ := s48_t (tabS tb48) N r xs[i] b o xs.length c i tm h
    obtain ⟨T, h1, h2⟩ := ih m (i + 1) (rN r xs[i] 8) _ (by omega) (by omega) (rN_lt hr 8) ⟨q0, q1, by rw [q5, wr_i64 (by omega)]; rfl⟩
    refine ⟨T, fun K => ?_, ?_⟩
    · have hs := fun K => Sy.on (s48_ok (tabS tb48) N r xs[i] b o xs.length c i tm h) (s48_good hr hx hlt hcell) K
      rw [t.eq] at hs
      exact (loop_on hs).trans (h1 K)
    · rw [h2, List.drop_eq_getElem_cons hlt]; rfl

theorem run48 {b o c r : Nat} {h : AH} (xs : List Nat) (hn : xs.length < 2 ^ 62) (hr : r < 2 ^ 32) (hb : Bys h b o xs) : denG envT (tabS tb48) (xs.length + 9) 48 [u32 r, sl b o xs.length c] h = some (u32 (refN r xs), h) := by
  obtain ⟨T, h1, h2⟩ := loop48 (N := xs.length) (c := c) xs hn hb xs.length (xs.length + 9) 0 r (stoF (stoF (fun i => gt ([u32 r, sl b o xs.length c] ++ List.replicate 27 undV) i) (some 4) (.int .u32 (.ofNat 0))) (some 5) (.int .i64 (.ofNat 0))) (by omega) (by omega) hr ⟨by kernel_rfl, by kernel_rfl, by kernel_rfl⟩
  have e : tmK [(0, u32 (refN r xs))] T = T := tmK_self _ _ fun p hp => by
    simp only [List.mem_cons, List.not_mem_nil, or_false] at hp
    subst hp; exact h2
  refine syG_sound (d48 (tabS tb48) xs.length r (refN r xs) b o xs.length c T h) (goodY_cons (fun K => ?_) goodY_nil)
  rw [e]; exact h1 K
def fRun : Fun := fun args h => match args with
  | [.int .u32 (.ofNat r), .slice (some ⟨b, o, none⟩) n c] => bif Nat.blt r 4294967296 then (rdSl (.slice (some ⟨b, o, none⟩) n c) h).bind fun xs => bif Nat.blt xs.length 4611686018427387904 then some (u32 (refN r xs), h) else none else none
  | _ => none
theorem t48_told : Den.Told Tryz.prog 48 fRun := fun args h v h' hl φ w args' ha r => by
  unfold fRun at hl
  split at hl
  · rename_i r₀ b o n c
    cases hb : Nat.blt r₀ 4294967296 with
    | false => rw [hb] at hl; cases hl
    | true =>
      rw [hb, cond_true] at hl
      cases hx : rdSl (.slice (some ⟨b, o, none⟩) n c) h with
      | none => rw [hx] at hl; cases hl
      | some xs =>
        rw [hx, Option.bind_some] at hl
        cases hq : Nat.blt xs.length 4611686018427387904 with
        | false => rw [hq] at hl; cases hl
        | true =>
          rw [hq] at hl; cases hl
          obtain ⟨h1, rfl⟩ := rdSl_sl hx
          exact (denG_goes envT_ok (tabS_sound envT_ok tb48_ok) (run48 (c := c) xs (blt_of hq) (blt_of hb) h1)).2 φ w args' ha r
  · cases hl
theorem fRun_eq {r b o c : Nat} {xs : List Nat} {h : AH} (hr : r < 2 ^ 32) (hb : Bys h b o xs) (hn : xs.length < 2 ^ 62) : fRun [u32 r, sl b o xs.length c] h = some (u32 (refN r xs), h) := by
  show (bif Nat.blt r 4294967296 then (rdSl (sl b o xs.length c) h).bind fun xs => bif Nat.blt xs.length 4611686018427387904 then some (u32 (refN r xs), h) else none else none) = _
  rw [blt_t hr, cond_true, sl_rdSl hb, Option.bind_some, blt_t hn]; rfl
/-! ## Eight bits one by one are two halves of a byte by a table -/
def tabN : Nat → Nat
  | 0 => 0x00000000 | 1 => 0x1db71064 | 2 => 0x3b6e20c8 | 3 => 0x26d930ac | 4 => 0x76dc4190 | 5 => 0x6b6b51f4 | 6 => 0x4db26158 | 7 => 0x5005713c
  | 8 => 0xedb88320 | 9 => 0xf00f9344 | 10 => 0xd6d6a3e8 | 11 => 0xcb61b38c | 12 => 0x9b64c2b0 | 13 => 0x86d3d2d4 | 14 => 0xa00ae278 | _ => 0xbdbdf21c
def halfN (r : Nat) : Nat := (r / 16) ^^^ tabN (r % 16)
def byteN (r x : Nat) : Nat := halfN (halfN (r ^^^ x))
def zN (r : Nat) : Nat := if r % 2 = 1 then (r / 2) ^^^ 3988292384 else r / 2
theorem zN_xor (a b : Nat) : zN (a ^^^ b) = zN a ^^^ zN b := by
  have h2 : (a ^^^ b) % 2 = (a % 2) ^^^ (b % 2) := Nat.xor_mod_two_pow (n := 1)
  unfold zN
  rw [Nat.xor_div_two, h2]
  rcases Nat.mod_two_eq_zero_or_one a with ha | ha <;> rcases Nat.mod_two_eq_zero_or_one b with hb | hb <;> rw [ha, hb] <;> simp
  · rw [Nat.xor_assoc]
  · rw [Nat.xor_assoc, Nat.xor_assoc, Nat.xor_comm (b / 2)]
  · rw [Nat.xor_assoc, ← Nat.xor_assoc 3988292384 (b / 2), Nat.xor_comm 3988292384 (b / 2), Nat.xor_assoc (b / 2), Nat.xor_self, Nat.xor_zero]
theorem stepN_z (r b : Nat) (hb : b < 2) : stepN r b = zN (r ^^^ b) := by
  have : (r ^^^ b) / 2 = r / 2 := by rw [Nat.xor_div_two, Nat.div_eq_of_lt hb, Nat.xor_zero]
  unfold stepN zN
  rw [this]
def zK : Nat → Nat → Nat
  | 0, r => r
  | k + 1, r => zN (zK k r)
theorem zK_xor : ∀ (k a b : Nat), zK k (a ^^^ b) = zK k a ^^^ zK k b
  | 0, _, _ => rfl
  | k + 1, a, b => by simp only [zK, zK_xor k, zN_xor]
theorem rN_split (r x : Nat) : ∀ k, rN r x k = zK k r ^^^ rN 0 x k
  | 0 => by simp [rN, zK]
  | k + 1 => by
    have hb : x / 2 ^ k % 2 < 2 := Nat.mod_lt _ (by decide)
    simp only [rN, zK]
    rw [stepN_z _ _ hb, stepN_z _ _ hb, rN_split r x k, Nat.xor_assoc, zN_xor]
theorem rN_zero : ∀ x, x < 256 → rN 0 x 8 = zK 8 x := by decide +kernel
theorem rN_eight {r x : Nat} (hx : x < 256) : rN r x 8 = zK 8 (r ^^^ x) := by rw [rN_split, rN_zero x hx, zK_xor]
theorem zN_two (m : Nat) : zN (2 * m) = m := by unfold zN; rw [if_neg (by omega)]; omega
theorem zK_four (q : Nat) : zK 4 (16 * q) = q := by
  simp only [zK]
  rw [show 16 * q = 2 * (2 * (2 * (2 * q))) by omega, zN_two, zN_two, zN_two, zN_two]
theorem zK_tab : ∀ j, j < 16 → zK 4 j = tabN j := by decide +kernel
theorem parts (a : Nat) : (16 * (a / 16)) ^^^ (a % 16) = a := by
  have hb : a % 16 < 2 ^ 4 := Nat.mod_lt _ (by decide)
  apply Nat.eq_of_testBit_eq
  intro i
  have h1 : a = 2 ^ 4 * (a / 16) + a % 16 := by omega
  rw [Nat.testBit_xor]
  conv => rhs; rw [h1, Nat.testBit_two_pow_mul_add _ hb]
  rw [show 16 = 2 ^ 4 from rfl, Nat.testBit_two_pow_mul]
  by_cases hi : i < 4
  · rw [if_pos hi]; simp [show ¬ 4 ≤ i by omega]
  · rw [if_neg hi]
    have : (a % 2 ^ 4).testBit i = false := Nat.testBit_lt_two_pow (Nat.lt_of_lt_of_le hb (Nat.pow_le_pow_right (by decide) (by omega)))
    rw [this]; simp [show 4 ≤ i by omega]
theorem halfN_z (a : Nat) : halfN a = zK 4 a := by
  conv => rhs; rw [← parts a]
  rw [zK_xor, zK_four, zK_tab _ (Nat.mod_lt _ (by decide))]; rfl
theorem byteN_rN {r x : Nat} (hx : x < 256) : byteN r x = rN r x 8 := by
  rw [rN_eight hx]; unfold byteN; rw [halfN_z, halfN_z]; rfl
theorem tabN_lt (j : Nat) : tabN j < 2 ^ 32 := by unfold tabN; split <;> decide
theorem halfN_lt {r : Nat} (h : r < 2 ^ 32) : halfN r < 2 ^ 32 := xor_lt (by omega) (tabN_lt _)
end Go.Proofs.YtpebkeonkfanpaaGreat.Sym
