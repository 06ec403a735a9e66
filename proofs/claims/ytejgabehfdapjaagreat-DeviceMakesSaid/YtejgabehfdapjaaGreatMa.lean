/- The reference's sum of bytes and the program's; what is foretold of operations. Conditions: none. -/
import Derived.Test.YtejgabehfdapjaaGreatDenK
import Derived.Test.YtejgabehfdapjaaGreatDenM
import Derived.Test.YtejgabehfdapjaaGreatToldEnv
import Derived.KernelRfl
set_option maxRecDepth 100000
set_option maxHeartbeats 4000000
namespace Go.Proofs.YtejgabehfdapjaaGreat.Sym
theorem or_byte {a b:Nat} (hb:b<256):(a*256) ||| b=a*256+b:=by
  have:=Nat.two_pow_add_eq_or_of_lt (i:=8) (b:=b) (by simpa using hb) a
  rw [Nat.mul_comm a 256]
  exact this.symm
end Go.Proofs.YtejgabehfdapjaaGreat.Sym
namespace Go.Proofs.YtejgabehfdapjaaGreat.Sym
open Go.Den
def BIG:Nat:=18446744073709551616
def mkM:List (Nat × Option AObj)→PT AObj→PT AObj
  | [],t=>t
  | (k,x)::l,t=>mkM l (t.put k x)
def mkH (n:Nat) (l:List (Nat × Option AObj)):AH:=⟨n,mkM l .leaf,[]⟩
def mkV:List (Nat × Option Value)→PT Value→PT Value
  | [],t=>t
  | (k,x)::l,t=>mkV l (t.put k x)
def ofC (l:List Value):PT Value:=PT.ofList l 0 .leaf
def u64 (n:Nat):Value:=.int .u64 (.ofNat n)
theorem cI {k:IntKind} {a b:Int} {h:AH} (e:a=b):some (Value.int k a,h)=some (Value.int k b,h):=by rw [e]
theorem cB {a b:Bool} {h:AH} (e:a=b):some (Value.bool a,h)=some (Value.bool b,h):=by rw [e]
theorem ltT {a b:Nat} (h:a<b):ilt (.ofNat a) (.ofNat b)=true:=blt_t h
theorem ltF {a b:Nat} (h:b≤a):ilt (.ofNat a) (.ofNat b)=false:=blt_f h
theorem eqT {a b:Nat} (h:a=b):ieq (.ofNat a) (.ofNat b)=true:=by subst h;exact Nat.beq_refl _
theorem eqF {a b:Nat} (h:a≠b):ieq (.ofNat a) (.ofNat b)=false:=by
  show Nat.beq a b=false
  exact beq_false_of_ne h
theorem ofE {a b:Nat} (h:a=b):Int.ofNat a=Int.ofNat b:=by rw [h]
theorem wrE {k:IntKind} {a b:Nat} (l:Nat) (hl:ikLim k=l) (h:a=b) (hb:b<l):wr k (.ofNat a)=.ofNat b:=by subst h;exact wr_lt (by rw [hl];exact hb)
theorem wrM8 {a b:Nat} (h:a % 256=b):wr .u8 (.ofNat a)=.ofNat b:=by
  subst h
  rw [wr_eq]
  simp [IntKind.wrap,IntKind.bits,IntKind.signed]
theorem subE {a b c:Nat} (hb:b≤a) (h:a-b=c) (hc:c<9223372036854775808):wr .i64 (.ofNat a - .ofNat b)=.ofNat c:=by
  have e:(Int.ofNat a-Int.ofNat b)=Int.ofNat (a-b):=(Int.ofNat_sub hb).symm
  rw [e,h]
  exact wr_lt hc
theorem fdE {a b c:Nat} (h:a/b=c):Int.fdiv (.ofNat a) (.ofNat b)=.ofNat c:=by subst h;exact (Int.ofNat_fdiv a b).symm
theorem tdE {a b c:Nat} (h:a/b=c) (hc:c<9223372036854775808):wr .i64 (Int.tdiv (.ofNat a) (.ofNat b))=.ofNat c:=by
  subst h
  have:Int.tdiv (.ofNat a) (.ofNat b)=.ofNat (a/b):=rfl
  rw [this];exact wr_lt hc
theorem orE {a b c:Nat} (ha:a<72057594037927936) (hb:b<256) (h:a*256+b=c):bitsOf .u64 Nat.lor (fun x1 x2=>x1 ||| x2) (.ofNat (a*256)) (.ofNat b)=.ofNat c:=by
  subst h
  have hc:a*256+b<18446744073709551616:=by omega
  show wr .u64 (.ofNat (Nat.lor (a*256 % 2 ^ 64) (b % 2 ^ 64)))=_
  have e1:a*256 % 2 ^ 64=a*256:=Nat.mod_eq_of_lt (Nat.lt_of_le_of_lt (Nat.le_add_right _ _) hc)
  have e2:b % 2 ^ 64=b:=Nat.mod_eq_of_lt (by omega)
  rw [e1,e2]
  have:Nat.lor (a*256) b=a*256+b:=or_byte hb
  rw [this]
  exact wrE 18446744073709551616 rfl rfl hc
theorem ixS {H:AH} {b o n i z j:Nat} (hi:i<n) (hj:o+i*z=j):(((ixOk (.ofNat i) n).bind fun m=>some (ptr b (o+m*z))).bind fun v=>some (v,H))=some (ptr b j,H):=by
  subst hj;rw [ix_lt hi] <;> rfl
end Go.Proofs.YtejgabehfdapjaaGreat.Sym
namespace Go.Proofs.YtejgabehfdapjaaGreat.Sym
open Go.Den
theorem xor_lt {a b:Nat} (ha:a<2 ^ 32) (hb:b<2 ^ 32):a ^^^ b<2 ^ 32:=Nat.xor_lt_two_pow ha hb
theorem bits_xor {a b:Nat} (ha:a<2 ^ 32) (hb:b<2 ^ 32):bitsOf .u32 Nat.xor (· ^^^ ·) (.ofNat a) (.ofNat b)=.ofNat (a ^^^ b):=by
  show wr .u32 (.ofNat (Nat.xor (a % 2 ^ 32) (b % 2 ^ 32)))=_
  rw [Nat.mod_eq_of_lt ha,Nat.mod_eq_of_lt hb]
  exact wr_lt (xor_lt ha hb)
theorem bits_and (k:Nat) {a:Nat} (ha:a<2 ^ 32) (h2:2 ^ k-1<2 ^ 32):bitsOf .u32 Nat.land (· &&& ·) (.ofNat a) (.ofNat (2 ^ k-1))=.ofNat (a % 2 ^ k):=by
  show wr .u32 (.ofNat (Nat.land (a % 2 ^ 32) ((2 ^ k-1) % 2 ^ 32)))=_
  rw [Nat.mod_eq_of_lt ha,Nat.mod_eq_of_lt h2]
  have:Nat.land a (2 ^ k-1)=a % 2 ^ k:=Nat.and_two_pow_sub_one_eq_mod a k
  rw [this]
  exact wr_lt (Nat.lt_of_le_of_lt (Nat.mod_le _ _) ha)
theorem bits_not {a:Nat} (ha:a<2 ^ 32):bitsOf .u32 Nat.xor (· ^^^ ·) (.ofNat 4294967295) (.ofNat a)=.ofNat (a ^^^ 4294967295):=by
  rw [bits_xor (by decide) ha,Nat.xor_comm]
theorem fdiv_nat (a b:Nat):Int.fdiv (.ofNat a) (.ofNat b)=.ofNat (a/b):=Int.ofNat_fdiv a b |>.symm
theorem ieq_nat (a b:Nat):ieq (.ofNat a) (.ofNat b)=decide (a=b):=by
  rw [ieq_eq]
  by_cases h:a=b
  · subst h;simp
  · rw [decide_eq_false h]
    simpa using fun h'=>h (Int.ofNat.inj h')
def stepN (r b:Nat):Nat:=if (r ^^^ b) % 2=1 then (r/2) ^^^ 3988292384 else r/2
theorem stepN_lt {r b:Nat} (h:r<2 ^ 32):stepN r b<2 ^ 32:=by
  unfold stepN
  split
  · exact xor_lt (by omega) (by decide)
  · omega
theorem step_130t (r b:Nat) (h:AH):syG envT (noC) (1) [(10,Value.bool true,none)] [] 130 ([u32 r,u32 b]) (h)=some (Value.int IntKind.u32 (bitsOf IntKind.u32 Nat.xor (fun x1 x2=>x1 ^^^ x2) (Int.fdiv (Int.ofNat r) (Int.ofNat 2)) (Int.ofNat 3988292384)),h,
  [some (Value.bool (ieq (bitsOf IntKind.u32 Nat.land (fun x1 x2=>x1 &&& x2) (bitsOf IntKind.u32 Nat.xor (fun x1 x2=>x1 ^^^ x2) (Int.ofNat r) (Int.ofNat b)) (Int.ofNat 1)) (Int.ofNat 1)),h)=some (Value.bool true,h)]):=by kernel_rfl
theorem step_130f (r b:Nat) (h:AH):syG envT (noC) (1) [(10,Value.bool false,none)] [] 130 ([u32 r,u32 b]) (h)=some (Value.int IntKind.u32 (Int.fdiv (Int.ofNat r) (Int.ofNat 2)),h,
  [some (Value.bool (ieq (bitsOf IntKind.u32 Nat.land (fun x1 x2=>x1 &&& x2) (bitsOf IntKind.u32 Nat.xor (fun x1 x2=>x1 ^^^ x2) (Int.ofNat r) (Int.ofNat b)) (Int.ofNat 1)) (Int.ofNat 1)),h)=some (Value.bool false,h)]):=by kernel_rfl
theorem step_130 {r b:Nat} (hr:r<2 ^ 32) (hb:b<2 ^ 32) (h:AH):denG envT noC 1 130 [u32 r,u32 b] h=some (u32 (stepN r b),h):=by
  have hx:=bits_xor hr hb
  have ha:=bits_and 1 (xor_lt hr hb) (by decide)
  have hc:ieq (bitsOf IntKind.u32 Nat.land (fun x1 x2=>x1 &&& x2) (bitsOf IntKind.u32 Nat.xor (fun x1 x2=>x1 ^^^ x2) (Int.ofNat r) (Int.ofNat b)) (Int.ofNat 1)) (Int.ofNat 1)=decide ((r ^^^ b) % 2=1):=by
    rw [hx];exact (congrArg (ieq · (Int.ofNat 1)) ha).trans (ieq_nat _ _)
  unfold stepN
  by_cases h1:(r ^^^ b) % 2=1
  · rw [if_pos h1]
    have hg:=syG_sound (step_130t r b h) (goodY_cons (by simp only [hc,decide_eq_true h1]) goodY_nil)
    rw [hg,fdiv_nat,bits_xor (by omega) (by decide)] <;> rfl
  · rw [if_neg h1]
    have hg:=syG_sound (step_130f r b h) (goodY_cons (by simp only [hc,decide_eq_false h1]) goodY_nil)
    rw [hg,fdiv_nat] <;> rfl
def fStep:Fun:=fun args h=>match args with
  | [.int .u32 (.ofNat r),.int .u32 (.ofNat b)]=>bif Nat.blt r 4294967296 && Nat.blt b 4294967296 then some (u32 (stepN r b),h) else none
  | _=>none
theorem blt_of {a b:Nat} (h:Nat.blt a b=true):a<b:=Nat.le_of_ble_eq_true h
theorem t_130:Den.Told Tryz.prog 130 fStep:=by
  refine Told.mono (denG_told envT_ok noC_sound 1 130) fun args h x hx=>?_
  unfold fStep at hx
  split at hx
  · rename_i r b
    cases hb:(Nat.blt r 4294967296 && Nat.blt b 4294967296) with
    | false=>rw [hb] at hx;cases hx
    | true=>
      rw [hb] at hx;cases hx
      simp only [Bool.and_eq_true] at hb
      exact step_130 (blt_of hb.1) (blt_of hb.2) h
  · cases hx
theorem fStep_eq {r b:Nat} (hr:r<2 ^ 32) (hb:b<2 ^ 32) (h:AH):fStep [u32 r,u32 b] h=some (u32 (stepN r b),h):=by
  show (bif Nat.blt r 4294967296 && Nat.blt b 4294967296 then _ else _)=_
  rw [blt_t hr,blt_t hb] <;> rfl
end Go.Proofs.YtejgabehfdapjaaGreat.Sym
namespace Go.Proofs.YtejgabehfdapjaaGreat.Sym
open Go.Den
noncomputable def fi_79:FI:=match envT.fn 79 with|some x=>x|none=>⟨.skip,0,#[]⟩
noncomputable def X_79:Code:=atP fi_79.body [2,1,2,1,1]
def rN (r x:Nat):Nat→Nat
  | 0=>r
  | k+1=>stepN (rN r x k) (x/2 ^ k % 2)
theorem rN_lt {r x:Nat} (h:r<2 ^ 32):∀ k,rN r x k<2 ^ 32
  | 0=>h
  | k+1=>stepN_lt (rN_lt h k)
def t_79 (r b o n c i:Nat) (tm:Tm):Tm:=tmK [(0,u32 r),(1,sl b o n c),(5,i64 i)] tm
noncomputable def s_79 (C:Oracle) (N r x b o n c i:Nat) (tm:Tm) (h:AH):SY:=syC envT (C) (29) ((N+9)) [(3,Value.bool true,none),
  (10,ptr b (o+i),none),
  (11,u8 x,none),
  (17,u32 (rN r x 1),none),
  (27,ptr b (o+i),none),
  (28,u8 x,none),
  (34,u32 (rN r x 2),none),
  (44,ptr b (o+i),none),
  (45,u8 x,none),
  (51,u32 (rN r x 3),none),
  (61,ptr b (o+i),none),
  (62,u8 x,none),
  (68,u32 (rN r x 4),none),
  (78,ptr b (o+i),none),
  (79,u8 x,none),
  (85,u32 (rN r x 5),none),
  (95,ptr b (o+i),none),
  (96,u8 x,none),
  (102,u32 (rN r x 6),none),
  (112,ptr b (o+i),none),
  (113,u8 x,none),
  (119,u32 (rN r x 7),none),
  (129,ptr b (o+i),none),
  (130,u8 x,none),
  (136,u32 (rN r x 8),none)] [] (X_79) (t_79 r b o n c i tm) (h) 0 []
theorem s_79_ok (C:Oracle) (N r x b o n c i:Nat) (tm:Tm) (h:AH):Sy envT (C) (29) ((N+9)) [(3,Value.bool true,none),
  (10,ptr b (o+i),none),
  (11,u8 x,none),
  (17,u32 (rN r x 1),none),
  (27,ptr b (o+i),none),
  (28,u8 x,none),
  (34,u32 (rN r x 2),none),
  (44,ptr b (o+i),none),
  (45,u8 x,none),
  (51,u32 (rN r x 3),none),
  (61,ptr b (o+i),none),
  (62,u8 x,none),
  (68,u32 (rN r x 4),none),
  (78,ptr b (o+i),none),
  (79,u8 x,none),
  (85,u32 (rN r x 5),none),
  (95,ptr b (o+i),none),
  (96,u8 x,none),
  (102,u32 (rN r x 6),none),
  (112,ptr b (o+i),none),
  (113,u8 x,none),
  (119,u32 (rN r x 7),none),
  (129,ptr b (o+i),none),
  (130,u8 x,none),
  (136,u32 (rN r x 8),none)] [] (X_79) (t_79 r b o n c i tm) (h) .normal (SY.t (s_79 C N r x b o n c i tm h)) (h) (SY.c (s_79 C N r x b o n c i tm h)):=⟨146,by kernel_rfl⟩
theorem s_79_c (C:Oracle) (N r x b o n c i:Nat) (tm:Tm) (h:AH):SY.c (s_79 C N r x b o n c i tm h)=
  [((C) (Value.func (Fn.func 130) (Array.mk []) (Array.mk [])) [u32 ((rN r x 7)),Value.int IntKind.u32 (bitsOf IntKind.u32 Nat.land (fun x1 x2=>x1 &&& x2) (wr IntKind.u32 (Int.fdiv (Int.ofNat x) (Int.ofNat 128))) (Int.ofNat 1))] (h))=some (u32 (rN r x 8),h),
   ((AH.cell (h) (b) (o+i)).bind fun v=>some (v,h))=some (u8 x,h),
   (((ixOk (Int.ofNat i) (n)).bind fun m=>some (ptr (b) (o+m*1))).bind fun v=>some (v,h))=some (ptr b (o+i),h),
   ((C) (Value.func (Fn.func 130) (Array.mk []) (Array.mk [])) [u32 ((rN r x 6)),Value.int IntKind.u32 (bitsOf IntKind.u32 Nat.land (fun x1 x2=>x1 &&& x2) (wr IntKind.u32 (Int.fdiv (Int.ofNat x) (Int.ofNat 64))) (Int.ofNat 1))] (h))=some (u32 (rN r x 7),h),
   ((AH.cell (h) (b) (o+i)).bind fun v=>some (v,h))=some (u8 x,h),
   (((ixOk (Int.ofNat i) (n)).bind fun m=>some (ptr (b) (o+m*1))).bind fun v=>some (v,h))=some (ptr b (o+i),h),
   ((C) (Value.func (Fn.func 130) (Array.mk []) (Array.mk [])) [u32 ((rN r x 5)),Value.int IntKind.u32 (bitsOf IntKind.u32 Nat.land (fun x1 x2=>x1 &&& x2) (wr IntKind.u32 (Int.fdiv (Int.ofNat x) (Int.ofNat 32))) (Int.ofNat 1))] (h))=some (u32 (rN r x 6),h),
   ((AH.cell (h) (b) (o+i)).bind fun v=>some (v,h))=some (u8 x,h),
   (((ixOk (Int.ofNat i) (n)).bind fun m=>some (ptr (b) (o+m*1))).bind fun v=>some (v,h))=some (ptr b (o+i),h),
   ((C) (Value.func (Fn.func 130) (Array.mk []) (Array.mk [])) [u32 ((rN r x 4)),Value.int IntKind.u32 (bitsOf IntKind.u32 Nat.land (fun x1 x2=>x1 &&& x2) (wr IntKind.u32 (Int.fdiv (Int.ofNat x) (Int.ofNat 16))) (Int.ofNat 1))] (h))=some (u32 (rN r x 5),h),
   ((AH.cell (h) (b) (o+i)).bind fun v=>some (v,h))=some (u8 x,h),
   (((ixOk (Int.ofNat i) (n)).bind fun m=>some (ptr (b) (o+m*1))).bind fun v=>some (v,h))=some (ptr b (o+i),h),
   ((C) (Value.func (Fn.func 130) (Array.mk []) (Array.mk [])) [u32 ((rN r x 3)),Value.int IntKind.u32 (bitsOf IntKind.u32 Nat.land (fun x1 x2=>x1 &&& x2) (wr IntKind.u32 (Int.fdiv (Int.ofNat x) (Int.ofNat 8))) (Int.ofNat 1))] (h))=some (u32 (rN r x 4),h),
   ((AH.cell (h) (b) (o+i)).bind fun v=>some (v,h))=some (u8 x,h),
   (((ixOk (Int.ofNat i) (n)).bind fun m=>some (ptr (b) (o+m*1))).bind fun v=>some (v,h))=some (ptr b (o+i),h),
   ((C) (Value.func (Fn.func 130) (Array.mk []) (Array.mk [])) [u32 ((rN r x 2)),Value.int IntKind.u32 (bitsOf IntKind.u32 Nat.land (fun x1 x2=>x1 &&& x2) (wr IntKind.u32 (Int.fdiv (Int.ofNat x) (Int.ofNat 4))) (Int.ofNat 1))] (h))=some (u32 (rN r x 3),h),
   ((AH.cell (h) (b) (o+i)).bind fun v=>some (v,h))=some (u8 x,h),
   (((ixOk (Int.ofNat i) (n)).bind fun m=>some (ptr (b) (o+m*1))).bind fun v=>some (v,h))=some (ptr b (o+i),h),
   ((C) (Value.func (Fn.func 130) (Array.mk []) (Array.mk [])) [u32 ((rN r x 1)),Value.int IntKind.u32 (bitsOf IntKind.u32 Nat.land (fun x1 x2=>x1 &&& x2) (wr IntKind.u32 (Int.fdiv (Int.ofNat x) (Int.ofNat 2))) (Int.ofNat 1))] (h))=some (u32 (rN r x 2),h),
   ((AH.cell (h) (b) (o+i)).bind fun v=>some (v,h))=some (u8 x,h),
   (((ixOk (Int.ofNat i) (n)).bind fun m=>some (ptr (b) (o+m*1))).bind fun v=>some (v,h))=some (ptr b (o+i),h),
   ((C) (Value.func (Fn.func 130) (Array.mk []) (Array.mk [])) [u32 r,Value.int IntKind.u32 (bitsOf IntKind.u32 Nat.land (fun x1 x2=>x1 &&& x2) (wr IntKind.u32 (Int.fdiv (Int.ofNat x) (Int.ofNat 1))) (Int.ofNat 1))] (h))=some (u32 (rN r x 1),h),
   ((AH.cell (h) (b) (o+i)).bind fun v=>some (v,h))=some (u8 x,h),
   (((ixOk (Int.ofNat i) (n)).bind fun m=>some (ptr (b) (o+m*1))).bind fun v=>some (v,h))=some (ptr b (o+i),h),
   (some (Value.bool (ilt (Int.ofNat i) (Int.ofNat n)),h))=some (Value.bool true,h)]:=by kernel_rfl
theorem s_79_t (C:Oracle) (N r x b o n c i:Nat) (tm:Tm) (h:AH):SY.t (s_79 C N r x b o n c i tm h) 0=u32 ((rN r x 8)) ∧
   SY.t (s_79 C N r x b o n c i tm h) 1=Value.slice (some (Addr.mk b o none)) n c ∧
   SY.t (s_79 C N r x b o n c i tm h) 5=Value.int IntKind.i64 (wr IntKind.i64 (Int.ofNat (i+1))):=
  ⟨by kernel_rfl,by kernel_rfl,by kernel_rfl⟩
noncomputable def e_79 (C:Oracle) (N r b o n c i:Nat) (tm:Tm) (h:AH):SY:=syC envT (C) (29) ((N+9)) [(3,Value.bool false,none)] [] (X_79) (t_79 r b o n c i tm) (h) 0 []
theorem e_79_ok (C:Oracle) (N r b o n c i:Nat) (tm:Tm) (h:AH):Sy envT (C) (29) ((N+9)) [(3,Value.bool false,none)] [] (X_79) (t_79 r b o n c i tm) (h) (.exit 0) (SY.t (e_79 C N r b o n c i tm h)) (h) (SY.c (e_79 C N r b o n c i tm h)):=⟨4,by kernel_rfl⟩
theorem e_79_c (C:Oracle) (N r b o n c i:Nat) (tm:Tm) (h:AH):SY.c (e_79 C N r b o n c i tm h)=
  [(some (Value.bool (ilt (Int.ofNat i) (Int.ofNat n)),h))=some (Value.bool false,h)]:=by kernel_rfl
theorem e_79_t (C:Oracle) (N r b o n c i:Nat) (tm:Tm) (h:AH):SY.t (e_79 C N r b o n c i tm h) 0=u32 r:=
  by kernel_rfl
theorem d_79 (C:Oracle) (N r r' b o n c:Nat) (T:Tm) (h:AH):syG envT (C) ((N+9)) [] [(2,Ex.exit 0,tmK [(0,u32 r')] T,h)] 79 ([u32 r,sl b o n c]) (h)=some (u32 (r'),h,
  [∀ K:Kont,loopK ((N+9)) (fun G=>evF envT (C) 29 ((N+9)) (atP (fi_79.body) [2,1,2,1,1]) (thenK G K)) (stoF (stoF (fun i=>gt ([u32 r,sl b o n c]++List.replicate 27 undV) i) (some 4) (u32 0)) (some 5) (i64 0)) (h)=K (Ex.exit 0) (tmK [(0,u32 r')] T) (h)]):=by kernel_rfl
noncomputable def tb_79:PT Fun:=PT.leaf.put 130 (some fStep)
theorem tb_79_ok:TabOK Tryz.prog envT tb_79:=TabOK.leaf.put t_130 (fnS (by kernel_rfl))
theorem tabS_at {tbl:PT Fun} {g:Nat} {f:Fun} {args:List Value} {h h':AH} {v:Value} (hg:tbl.get g=some f) (hf:f args h=some (v,h')):tabS tbl (.func (.func g) ⟨[]⟩ ⟨[]⟩) args h=some (v,h'.wdf h.df):=by
  show (match tbl.get g with|some f=>(match f ([]++args++[]) h with|some (v,h')=>some (v,h'.wdf h.df)|none=>none)|none=>none)=_
  rw [hg]
  simp only [List.nil_append,List.append_nil,hf]
theorem ilt_nat (a b:Nat):ilt (.ofNat a) (.ofNat b)=Nat.blt a b:=rfl
theorem bit_lt (x k:Nat):x/2 ^ k % 2<2 ^ 32:=by have:=Nat.mod_lt (x/2 ^ k) (show 2 > 0 by decide);omega
theorem step_at {r x:Nat} (k p:Nat) (hp:2 ^ k=p) (hr:r<2 ^ 32) (hx:x<256) (h:AH) :
    tabS tb_79 (.func (.func 130) (Array.mk []) (Array.mk [])) [.int .u32 (.ofNat r),.int .u32 (bitsOf .u32 Nat.land (fun x1 x2=>x1 &&& x2) (wr .u32 (Int.fdiv (.ofNat x) (.ofNat p))) (.ofNat 1))] h=some (u32 (stepN r (x/2 ^ k % 2)),h):=by
  subst hp
  have hq:x/2 ^ k<2 ^ 32:=Nat.lt_of_le_of_lt (Nat.div_le_self _ _) (by omega)
  have h1:wr .u32 (Int.fdiv (.ofNat x) (.ofNat (2 ^ k)))=.ofNat (x/2 ^ k):=by rw [fdiv_nat];exact wr_lt hq
  have h2:=bits_and 1 hq (by decide)
  rw [h1]
  exact (congrArg (fun z=>tabS tb_79 (.func (.func 130) (Array.mk []) (Array.mk [])) [.int .u32 (.ofNat r),.int .u32 z] h) h2).trans (tabS_at (f:=fStep) (by kernel_rfl) (fStep_eq hr (bit_lt x k) h))
theorem s_79_good {N r x b o n c i:Nat} {tm:Tm} {h:AH} (hr:r<2 ^ 32) (hx:x<256) (hi:i<n) (hb:h.cell b (o+i)=some (u8 x)):GoodP' (SY.c (s_79 (tabS tb_79) N r x b o n c i tm h)):=by
  rw [s_79_c]
  have hc:((AH.cell (h) (b) (o+i)).bind fun v=>some (v,h))=some (u8 x,h):=by rw [hb] <;> rfl
  have hix:(((ixOk (Int.ofNat i) (n)).bind fun m=>some (ptr (b) (o+m*1))).bind fun v=>some (v,h))=some (ptr b (o+i),h):=by rw [ix_lt hi];simp
  have hl:(some (Value.bool (ilt (Int.ofNat i) (Int.ofNat n)),h))=some (Value.bool true,h):=by rw [ilt_nat,blt_t hi]
  refine goodY_cons (step_at 7 128 rfl (rN_lt hr 7) hx h)<|goodY_cons hc<|goodY_cons hix<|goodY_cons (step_at 6 64 rfl (rN_lt hr 6) hx h)<|goodY_cons hc<|goodY_cons hix<|
    goodY_cons (step_at 5 32 rfl (rN_lt hr 5) hx h)<|goodY_cons hc<|goodY_cons hix<|goodY_cons (step_at 4 16 rfl (rN_lt hr 4) hx h)<|goodY_cons hc<|goodY_cons hix<|
    goodY_cons (step_at 3 8 rfl (rN_lt hr 3) hx h)<|goodY_cons hc<|goodY_cons hix<|goodY_cons (step_at 2 4 rfl (rN_lt hr 2) hx h)<|goodY_cons hc<|goodY_cons hix<|
    goodY_cons (step_at 1 2 rfl (rN_lt hr 1) hx h)<|goodY_cons hc<|goodY_cons hix<|goodY_cons (step_at 0 1 rfl hr hx h)<|goodY_cons hc<|goodY_cons hix<|goodY_cons hl goodY_nil
structure In_79 (r b o n c i:Nat) (tm:Tm):Prop where
  t0:tm 0=u32 r
  t1:tm 1=sl b o n c
  t5:tm 5=i64 i
theorem In_79.eq {r b o n c i:Nat} {tm:Tm} (t:In_79 r b o n c i tm):t_79 r b o n c i tm=tm:=by
  refine tmK_self _ _ fun p hp=>?_
  simp only [List.mem_cons,List.not_mem_nil,or_false] at hp
  rcases hp with rfl|rfl|rfl
  · exact t.t0
  · exact t.t1
  · exact t.t5
def refN (r:Nat) (xs:List Nat):Nat:=xs.foldl (fun r x=>rN r x 8) r
theorem refN_lt:∀ (xs:List Nat) (r:Nat),r<2 ^ 32→refN r xs<2 ^ 32
  | [],_,h=>h
  | x::xs,r,h=>refN_lt xs (rN r x 8) (rN_lt h 8)
theorem loop_79 {N b o c:Nat} {h:AH} (xs:List Nat) (hn:xs.length<2 ^ 62) (hb:Bys h b o xs) :
    ∀ (k m i r:Nat) (tm:Tm),k<m→i+k=xs.length→r<2 ^ 32→In_79 r b o xs.length c i tm →
      ∃ T,(∀ K,loopK m (fun G=>evF envT (tabS tb_79) 29 (N+9) X_79 (thenK G K)) tm h=K (.exit 0) T h)∧T 0=u32 (refN r (xs.drop i)):=by
  intro k
  induction k with
  | zero=>
    intro m i r tm hm hi hr t
    obtain ⟨m,rfl⟩:∃ m',m=m'+1:=⟨m-1,by omega⟩
    have e:i=xs.length:=by omega
    subst e
    refine ⟨SY.t (e_79 (tabS tb_79) N r b o xs.length c xs.length tm h),fun K=>?_,?_⟩
    · have hs:=fun K=>Sy.on (e_79_ok (tabS tb_79) N r b o xs.length c xs.length tm h) (by rw [e_79_c];exact goodY_cons (by rw [ilt_nat,blt_f (Nat.le_refl _)]) goodY_nil) K
      rw [t.eq] at hs
      exact loop_out (fun h=>by cases h) hs
    · rw [e_79_t];simp [refN] <;> rfl
  | succ k ih=>
    intro m i r tm hm hi hr t
    obtain ⟨m,rfl⟩:∃ m',m=m'+1:=⟨m-1,by omega⟩
    have hlt:i<xs.length:=by omega
    obtain ⟨hx,hcell⟩:=hb i xs[i] (List.getElem?_eq_getElem hlt)
    obtain ⟨q0,q1,q5⟩:=s_79_t (tabS tb_79) N r xs[i] b o xs.length c i tm h
    obtain ⟨T,h1,h2⟩:=ih m (i+1) (rN r xs[i] 8) _ (by omega) (by omega) (rN_lt hr 8) ⟨q0,q1,by rw [q5,wr_i64 (by omega)] <;> rfl⟩
    refine ⟨T,fun K=>?_,?_⟩
    · have hs:=fun K=>Sy.on (s_79_ok (tabS tb_79) N r xs[i] b o xs.length c i tm h) (s_79_good hr hx hlt hcell) K
      rw [t.eq] at hs
      exact (loop_on hs).trans (h1 K)
    · rw [h2,List.drop_eq_getElem_cons hlt] <;> rfl
theorem run_79 {b o c r:Nat} {h:AH} (xs:List Nat) (hn:xs.length<2 ^ 62) (hr:r<2 ^ 32) (hb:Bys h b o xs):denG envT (tabS tb_79) (xs.length+9) 79 [u32 r,sl b o xs.length c] h=some (u32 (refN r xs),h):=by
  obtain ⟨T,h1,h2⟩:=loop_79 (N:=xs.length) (c:=c) xs hn hb xs.length (xs.length+9) 0 r (stoF (stoF (fun i=>gt ([u32 r,sl b o xs.length c]++List.replicate 27 undV) i) (some 4) (.int .u32 (.ofNat 0))) (some 5) (.int .i64 (.ofNat 0))) (by omega) (by omega) hr ⟨by kernel_rfl,by kernel_rfl,by kernel_rfl⟩
  have e:tmK [(0,u32 (refN r xs))] T=T:=tmK_self _ _ fun p hp=>by
    simp only [List.mem_cons,List.not_mem_nil,or_false] at hp
    subst hp;exact h2
  refine syG_sound (d_79 (tabS tb_79) xs.length r (refN r xs) b o xs.length c T h) (goodY_cons (fun K=>?_) goodY_nil)
  rw [e];exact h1 K
def fRun:Fun:=fun args h=>match args with
  | [.int .u32 (.ofNat r),.slice (some ⟨b,o,none⟩) n c]=>bif Nat.blt r 4294967296 then (rdSl (.slice (some ⟨b,o,none⟩) n c) h).bind fun xs=>bif Nat.blt xs.length 4611686018427387904 then some (u32 (refN r xs),h) else none else none
  | _=>none
theorem t_79_told:Den.Told Tryz.prog 79 fRun:=fun args h v h' hl φ w args' ha r=>by
  unfold fRun at hl
  split at hl
  · rename_i r₀ b o n c
    cases hb:Nat.blt r₀ 4294967296 with
    | false=>rw [hb] at hl;cases hl
    | true=>
      rw [hb,cond_true] at hl
      cases hx:rdSl (.slice (some ⟨b,o,none⟩) n c) h with
      | none=>rw [hx] at hl;cases hl
      | some xs=>
        rw [hx,Option.bind_some] at hl
        cases hq:Nat.blt xs.length 4611686018427387904 with
        | false=>rw [hq] at hl;cases hl
        | true=>
          rw [hq] at hl;cases hl
          obtain ⟨h1,rfl⟩:=rdSl_sl hx
          exact (denG_goes envT_ok (tabS_sound envT_ok tb_79_ok) (run_79 (c:=c) xs (blt_of hq) (blt_of hb) h1)).2 φ w args' ha r
  · cases hl
theorem fRun_eq {r b o c:Nat} {xs:List Nat} {h:AH} (hr:r<2 ^ 32) (hb:Bys h b o xs) (hn:xs.length<2 ^ 62):fRun [u32 r,sl b o xs.length c] h=some (u32 (refN r xs),h):=by
  show (bif Nat.blt r 4294967296 then (rdSl (sl b o xs.length c) h).bind fun xs=>bif Nat.blt xs.length 4611686018427387904 then some (u32 (refN r xs),h) else none else none)=_
  rw [blt_t hr,cond_true,sl_rdSl hb,Option.bind_some,blt_t hn] <;> rfl
end Go.Proofs.YtejgabehfdapjaaGreat.Sym
namespace Go.Proofs.YtejgabehfdapjaaGreat.Sym
def tabN:Nat→Nat
  | 0=>0x00000000|1=>0x1db71064|2=>0x3b6e20c8|3=>0x26d930ac|4=>0x76dc4190|5=>0x6b6b51f4|6=>0x4db26158|7=>0x5005713c
  | 8=>0xedb88320|9=>0xf00f9344|10=>0xd6d6a3e8|11=>0xcb61b38c|12=>0x9b64c2b0|13=>0x86d3d2d4|14=>0xa00ae278|_=>0xbdbdf21c
def halfN (r:Nat):Nat:=(r/16) ^^^ tabN (r % 16)
def byteN (r x:Nat):Nat:=halfN (halfN (r ^^^ x))
def zN (r:Nat):Nat:=if r % 2=1 then (r/2) ^^^ 3988292384 else r/2
theorem zN_xor (a b:Nat):zN (a ^^^ b)=zN a ^^^ zN b:=by
  have h2:(a ^^^ b) % 2=(a % 2) ^^^ (b % 2):=Nat.xor_mod_two_pow (n:=1)
  unfold zN
  rw [Nat.xor_div_two,h2]
  rcases Nat.mod_two_eq_zero_or_one a with ha|ha <;> rcases Nat.mod_two_eq_zero_or_one b with hb|hb <;> rw [ha,hb] <;> simp
  · rw [Nat.xor_assoc]
  · rw [Nat.xor_assoc,Nat.xor_assoc,Nat.xor_comm (b/2)]
  · rw [Nat.xor_assoc,← Nat.xor_assoc 3988292384 (b/2),Nat.xor_comm 3988292384 (b/2),Nat.xor_assoc (b/2),Nat.xor_self,Nat.xor_zero]
theorem stepN_z (r b:Nat) (hb:b<2):stepN r b=zN (r ^^^ b):=by
  have:(r ^^^ b)/2=r/2:=by rw [Nat.xor_div_two,Nat.div_eq_of_lt hb,Nat.xor_zero]
  unfold stepN zN
  rw [this]
def zK:Nat→Nat→Nat
  | 0,r=>r
  | k+1,r=>zN (zK k r)
theorem zK_xor:∀ (k a b:Nat),zK k (a ^^^ b)=zK k a ^^^ zK k b
  | 0,_,_=>rfl
  | k+1,a,b=>by simp only [zK,zK_xor k,zN_xor]
theorem rN_split (r x:Nat):∀ k,rN r x k=zK k r ^^^ rN 0 x k
  | 0=>by simp [rN,zK]
  | k+1=>by
    have hb:x/2 ^ k % 2<2:=Nat.mod_lt _ (by decide)
    simp only [rN,zK]
    rw [stepN_z _ _ hb,stepN_z _ _ hb,rN_split r x k,Nat.xor_assoc,zN_xor]
theorem rN_zero:∀ x,x<256→rN 0 x 8=zK 8 x:=by decide +kernel
theorem rN_eight {r x:Nat} (hx:x<256):rN r x 8=zK 8 (r ^^^ x):=by rw [rN_split,rN_zero x hx,zK_xor]
theorem zN_two (m:Nat):zN (2*m)=m:=by unfold zN;rw [if_neg (by omega)];omega
theorem zK_four (q:Nat):zK 4 (16*q)=q:=by
  simp only [zK]
  rw [show 16*q=2*(2*(2*(2*q))) by omega,zN_two,zN_two,zN_two,zN_two]
theorem zK_tab:∀ j,j<16→zK 4 j=tabN j:=by decide +kernel
theorem parts (a:Nat):(16*(a/16)) ^^^ (a % 16)=a:=by
  have hb:a % 16<2 ^ 4:=Nat.mod_lt _ (by decide)
  apply Nat.eq_of_testBit_eq
  intro i
  have h1:a=2 ^ 4*(a/16)+a % 16:=by omega
  rw [Nat.testBit_xor]
  conv=>rhs;rw [h1,Nat.testBit_two_pow_mul_add _ hb]
  rw [show 16=2 ^ 4 from rfl,Nat.testBit_two_pow_mul]
  by_cases hi:i<4
  · rw [if_pos hi];simp [show ¬ 4≤i by omega]
  · rw [if_neg hi]
    have:(a % 2 ^ 4).testBit i=false:=Nat.testBit_lt_two_pow (Nat.lt_of_lt_of_le hb (Nat.pow_le_pow_right (by decide) (by omega)))
    rw [this];simp [show 4≤i by omega]
theorem halfN_z (a:Nat):halfN a=zK 4 a:=by
  conv=>rhs;rw [← parts a]
  rw [zK_xor,zK_four,zK_tab _ (Nat.mod_lt _ (by decide))] <;> rfl
theorem byteN_rN {r x:Nat} (hx:x<256):byteN r x=rN r x 8:=by
  rw [rN_eight hx];unfold byteN;rw [halfN_z,halfN_z] <;> rfl
theorem tabN_lt (j:Nat):tabN j<2 ^ 32:=by unfold tabN;split <;> decide
theorem halfN_lt {r:Nat} (h:r<2 ^ 32):halfN r<2 ^ 32:=xor_lt (by omega) (tabN_lt _)
end Go.Proofs.YtejgabehfdapjaaGreat.Sym
namespace Go.Proofs.YtejgabehfdapjaaGreat.Sym
open Go.Den
def nibTab:AObj:=.cells (PT.ofList ([0,0x1db71064,0x3b6e20c8,0x26d930ac,0x76dc4190,0x6b6b51f4,0x4db26158,0x5005713c,0xedb88320,0xf00f9344,0xd6d6a3e8,0xcb61b38c,0x9b64c2b0,0x86d3d2d4,0xa00ae278,0xbdbdf21c].map u32) 0 .leaf) 16 0
theorem nibTab_get:∀ j,j<16→(match nibTab with|.cells c _ _=>c.get j|_=>none)=some (u32 (tabN j)):=by
  intro j hj
  match j,hj with
  | 0,_=>rfl|1,_=>rfl|2,_=>rfl|3,_=>rfl|4,_=>rfl|5,_=>rfl|6,_=>rfl|7,_=>rfl
  | 8,_=>rfl|9,_=>rfl|10,_=>rfl|11,_=>rfl|12,_=>rfl|13,_=>rfl|14,_=>rfl|15,_=>rfl
  | n+16,h=>omega
theorem d_70 (h:AH):syG envT (noC) (1) [] [] 70 ([]) (h)=some (Value.pointer (some (Addr.mk (AH.next h) 0 none)),AH.new h (AObj.cells (PT.node (some (u32 0)) (PT.node (some (u32 498536548)) (PT.node (some (u32 651767980)) (PT.node (some (u32 1342533948)) (PT.node (some (u32 3183342108)) PT.leaf PT.leaf) PT.leaf) (PT.node (some (u32 3412177804)) PT.leaf PT.leaf)) (PT.node (some (u32 1802195444)) (PT.node (some (u32 4027552580)) PT.leaf PT.leaf) (PT.node (some (u32 2262029012)) PT.leaf PT.leaf))) (PT.node (some (u32 997073096)) (PT.node (some (u32 1994146192)) (PT.node (some (u32 3988292384)) PT.leaf PT.leaf) (PT.node (some (u32 2607071920)) PT.leaf PT.leaf)) (PT.node (some (u32 1303535960)) (PT.node (some (u32 3604390888)) PT.leaf PT.leaf) (PT.node (some (u32 2685067896)) PT.leaf PT.leaf)))) 16 0),
  []):=by kernel_rfl
def fNib:Fun:=fun args h=>match args with
  | []=>some (ptr h.next 0,h.new nibTab)
  | _=>none
theorem t_70:Den.Told Tryz.prog 70 fNib:=by
  refine Told.mono (denG_told envT_ok noC_sound 1 70) fun args h x hx=>?_
  unfold fNib at hx
  split at hx
  · cases hx;exact syG_sound (d_70 h) goodY_nil
  · cases hx
noncomputable def tb_37:PT Fun:=PT.leaf.put 70 (some fNib)
theorem tb_37_ok:TabOK Tryz.prog envT tb_37:=TabOK.leaf.put t_70 (fnS (by kernel_rfl))
noncomputable def fi_37:FI:=match envT.fn 37 with|some x=>x|none=>⟨.skip,0,#[]⟩
noncomputable def X_37:Code:=atP fi_37.body [2,2,1,2,1,1]
def t_37 (r b o n c i tb:Nat) (tm:Tm):Tm:=tmK [(0,u32 r),(5,ptr tb 0),(9,sl b o n c),(10,i64 n),(11,i64 i)] tm
noncomputable def s_37 (C:Oracle) (N r x b o n c i tb:Nat) (tm:Tm) (h:AH):SY:=syC envT (C) (39) (N) [(0,Value.bool true,none),
  (1,ptr b (o+i),none),
  (2,u8 x,none),
  (15,ptr tb ((r ^^^ x) % 16),none),
  (16,u32 (tabN ((r ^^^ x) % 16)),none),
  (25,ptr tb (halfN (r ^^^ x) % 16),none),
  (26,u32 (tabN (halfN (r ^^^ x) % 16)),none)] [] (X_37) (t_37 r b o n c i tb tm) (h) 0 []
theorem s_37_ok (C:Oracle) (N r x b o n c i tb:Nat) (tm:Tm) (h:AH):Sy envT (C) (39) (N) [(0,Value.bool true,none),
  (1,ptr b (o+i),none),
  (2,u8 x,none),
  (15,ptr tb ((r ^^^ x) % 16),none),
  (16,u32 (tabN ((r ^^^ x) % 16)),none),
  (25,ptr tb (halfN (r ^^^ x) % 16),none),
  (26,u32 (tabN (halfN (r ^^^ x) % 16)),none)] [] (X_37) (t_37 r b o n c i tb tm) (h) .normal (SY.t (s_37 C N r x b o n c i tb tm h)) (h) (SY.c (s_37 C N r x b o n c i tb tm h)):=⟨31,by kernel_rfl⟩
theorem s_37_c (C:Oracle) (N r x b o n c i tb:Nat) (tm:Tm) (h:AH):SY.c (s_37 C N r x b o n c i tb tm h)=
  [((AH.cell (h) (tb) (halfN (r ^^^ x) % 16)).bind fun v=>some (v,h))=some (u32 (tabN (halfN (r ^^^ x) % 16)),h),
   (((ixOk (bitsOf IntKind.u32 Nat.land (fun x1 x2=>x1 &&& x2) (bitsOf IntKind.u32 Nat.xor (fun x1 x2=>x1 ^^^ x2) (Int.fdiv (bitsOf IntKind.u32 Nat.xor (fun x1 x2=>x1 ^^^ x2) (Int.ofNat r) (wr IntKind.u32 (Int.ofNat x))) (Int.ofNat 16)) (Int.ofNat (tabN ((r ^^^ x) % 16)))) (Int.ofNat 15)) 16).bind fun m=>some (ptr (tb) (0+m*1))).bind fun v=>some (v,h))=some (ptr tb (halfN (r ^^^ x) % 16),h),
   ((AH.cell (h) (tb) ((r ^^^ x) % 16)).bind fun v=>some (v,h))=some (u32 (tabN ((r ^^^ x) % 16)),h),
   (((ixOk (bitsOf IntKind.u32 Nat.land (fun x1 x2=>x1 &&& x2) (bitsOf IntKind.u32 Nat.xor (fun x1 x2=>x1 ^^^ x2) (Int.ofNat r) (wr IntKind.u32 (Int.ofNat x))) (Int.ofNat 15)) 16).bind fun m=>some (ptr (tb) (0+m*1))).bind fun v=>some (v,h))=some (ptr tb ((r ^^^ x) % 16),h),
   ((AH.cell (h) (b) (o+i)).bind fun v=>some (v,h))=some (u8 x,h),
   (((ixOk (Int.ofNat i) (n)).bind fun m=>some (ptr (b) (o+m*1))).bind fun v=>some (v,h))=some (ptr b (o+i),h),
   (some (Value.bool (ilt (Int.ofNat i) (Int.ofNat n)),h))=some (Value.bool true,h)]:=by kernel_rfl
theorem s_37_t (C:Oracle) (N r x b o n c i tb:Nat) (tm:Tm) (h:AH):SY.t (s_37 C N r x b o n c i tb tm h) 0=Value.int IntKind.u32 (bitsOf IntKind.u32 Nat.xor (fun x1 x2=>x1 ^^^ x2) (Int.fdiv (bitsOf IntKind.u32 Nat.xor (fun x1 x2=>x1 ^^^ x2) (Int.fdiv (bitsOf IntKind.u32 Nat.xor (fun x1 x2=>x1 ^^^ x2) (Int.ofNat r) (wr IntKind.u32 (Int.ofNat x))) (Int.ofNat 16)) (Int.ofNat (tabN ((r ^^^ x) % 16)))) (Int.ofNat 16)) (Int.ofNat (tabN (halfN (r ^^^ x) % 16)))) ∧
   SY.t (s_37 C N r x b o n c i tb tm h) 5=Value.pointer (some (Addr.mk tb 0 none)) ∧
   SY.t (s_37 C N r x b o n c i tb tm h) 9=Value.slice (some (Addr.mk b o none)) n c ∧
   SY.t (s_37 C N r x b o n c i tb tm h) 10=i64 n ∧
   SY.t (s_37 C N r x b o n c i tb tm h) 11=Value.int IntKind.i64 (wr IntKind.i64 (Int.ofNat (i+1))):=
  ⟨by kernel_rfl,by kernel_rfl,by kernel_rfl,by kernel_rfl,by kernel_rfl⟩
noncomputable def e_37 (C:Oracle) (N r b o n c i tb:Nat) (tm:Tm) (h:AH):SY:=syC envT (C) (39) (N) [(0,Value.bool false,none)] [] (X_37) (t_37 r b o n c i tb tm) (h) 0 []
theorem e_37_ok (C:Oracle) (N r b o n c i tb:Nat) (tm:Tm) (h:AH):Sy envT (C) (39) (N) [(0,Value.bool false,none)] [] (X_37) (t_37 r b o n c i tb tm) (h) (.exit 0) (SY.t (e_37 C N r b o n c i tb tm h)) (h) (SY.c (e_37 C N r b o n c i tb tm h)):=⟨1,by kernel_rfl⟩
theorem e_37_c (C:Oracle) (N r b o n c i tb:Nat) (tm:Tm) (h:AH):SY.c (e_37 C N r b o n c i tb tm h)=
  [(some (Value.bool (ilt (Int.ofNat i) (Int.ofNat n)),h))=some (Value.bool false,h)]:=by kernel_rfl
theorem e_37_t (C:Oracle) (N r b o n c i tb:Nat) (tm:Tm) (h:AH):SY.t (e_37 C N r b o n c i tb tm h) 0=u32 r:=
  by kernel_rfl
theorem d_37 (C:Oracle) (N r r' b o n c:Nat) (T:Tm) (h:AH):syG envT (C) (N) [(1,ptr (AH.next h) 0,some (AH.new h nibTab))] [(6,Ex.exit 0,tmK [(0,u32 r')] T,AH.new h nibTab)] 37 ([u32 r,sl b o n c]) (h)=some (u32 (r'),AH.new h nibTab,
  [∀ K:Kont,loopK (N) (fun G=>evF envT (C) 39 (N) (atP (fi_37.body) [2,2,1,2,1,1]) (thenK G K)) (stoF (stoF (stoF (stoF (stoF (stoF (fun i=>gt ([u32 r,sl b o n c]++List.replicate 37 undV) i) (some 4) (u32 0)) (some 8) (ptr (AH.next h) 0)) (some 5) (Value.pointer (some (Addr.mk (AH.next h) 0 none)))) (some 9) (Value.slice (some (Addr.mk b o none)) n c)) (some 10) (i64 n)) (some 11) (i64 0)) (AH.new h nibTab)=K (Ex.exit 0) (tmK [(0,u32 r')] T) (AH.new h nibTab),
   ((C) (Value.func (Fn.func 70) (Array.mk []) (Array.mk [])) [] (h))=some (ptr (AH.next h) 0,AH.new h nibTab)]):=by kernel_rfl
structure In_37 (r b o n c i tb:Nat) (tm:Tm):Prop where
  t0:tm 0=u32 r
  t5:tm 5=ptr tb 0
  t9:tm 9=sl b o n c
  t10:tm 10=i64 n
  t11:tm 11=i64 i
theorem In_37.eq {r b o n c i tb:Nat} {tm:Tm} (t:In_37 r b o n c i tb tm):t_37 r b o n c i tb tm=tm:=by
  refine tmK_self _ _ fun p hp=>?_
  simp only [List.mem_cons,List.not_mem_nil,or_false] at hp
  rcases hp with rfl|rfl|rfl|rfl|rfl
  · exact t.t0
  · exact t.t5
  · exact t.t9
  · exact t.t10
  · exact t.t11
theorem bits_15 {a:Nat} (ha:a<2 ^ 32):bitsOf .u32 Nat.land (fun x1 x2=>x1 &&& x2) (.ofNat a) (.ofNat 15)=.ofNat (a % 16):=bits_and 4 ha (by decide)
theorem bits_xor' {a b:Nat} (ha:a<2 ^ 32) (hb:b<2 ^ 32):bitsOf .u32 Nat.xor (fun x1 x2=>x1 ^^^ x2) (.ofNat a) (.ofNat b)=.ofNat (a ^^^ b):=bits_xor ha hb
theorem wr_byte {x:Nat} (hx:x<256):wr .u32 (.ofNat x)=.ofNat x:=wr_lt (by show _<4294967296;omega)
theorem half_one {r:Nat} (hr:r<2 ^ 32):bitsOf .u32 Nat.xor (fun x1 x2=>x1 ^^^ x2) (Int.fdiv (.ofNat r) (.ofNat 16)) (.ofNat (tabN (r % 16)))=.ofNat (halfN r):=by
  rw [fdiv_nat,bits_xor' (by omega) (tabN_lt _)] <;> rfl
theorem s_37_good {N r x b o n c i tb:Nat} {tm:Tm} {h:AH} (hr:r<2 ^ 32) (hx:x<256) (hi:i<n) (hb:h.cell b (o+i)=some (u8 x)) (ht:∀ j,j<16→h.cell tb j=some (u32 (tabN j))) (C:Oracle) :
    GoodP' (SY.c (s_37 C N r x b o n c i tb tm h)):=by
  rw [s_37_c]
  have h1:r ^^^ x<2 ^ 32:=xor_lt hr (by omega)
  have m1:(r ^^^ x) % 16<16:=Nat.mod_lt _ (by decide)
  have m2:halfN (r ^^^ x) % 16<16:=Nat.mod_lt _ (by decide)
  have ex:=bits_xor' hr (show x<2 ^ 32 by omega)
  have ew:=wr_byte hx
  refine goodY_cons ?_<|goodY_cons ?_<|goodY_cons ?_<|goodY_cons ?_<|goodY_cons ?_<|goodY_cons ?_<|goodY_cons ?_ goodY_nil
  · rw [ht _ m2] <;> rfl
  · rw [ew,ex,half_one h1,bits_15 (halfN_lt h1),ix_lt m2];simp
  · rw [ht _ m1] <;> rfl
  · rw [ew,ex,bits_15 h1,ix_lt m1];simp
  · rw [hb] <;> rfl
  · rw [ix_lt hi];simp
  · rw [ilt_nat,blt_t hi]
theorem s_37_r {N r x b o n c i tb:Nat} {tm:Tm} {h:AH} (hr:r<2 ^ 32) (hx:x<256) (C:Oracle):SY.t (s_37 C N r x b o n c i tb tm h) 0=u32 (rN r x 8):=by
  have h1:r ^^^ x<2 ^ 32:=xor_lt hr (by omega)
  rw [(s_37_t C N r x b o n c i tb tm h).1,wr_byte hx,bits_xor' hr (show x<2 ^ 32 by omega),half_one h1,half_one (halfN_lt h1),← byteN_rN hx] <;> rfl
theorem loop_37 {N b o c tb:Nat} {h:AH} (C:Oracle) (xs:List Nat) (hn:xs.length<2 ^ 62) (hb:Bys h b o xs) (ht:∀ j,j<16→h.cell tb j=some (u32 (tabN j))) :
    ∀ (k m i r:Nat) (tm:Tm),k<m→i+k=xs.length→r<2 ^ 32→In_37 r b o xs.length c i tb tm →
      ∃ T,(∀ K,loopK m (fun G=>evF envT C 39 N X_37 (thenK G K)) tm h=K (.exit 0) T h)∧T 0=u32 (refN r (xs.drop i)):=by
  intro k
  induction k with
  | zero=>
    intro m i r tm hm hi hr t
    obtain ⟨m,rfl⟩:∃ m',m=m'+1:=⟨m-1,by omega⟩
    have e:i=xs.length:=by omega
    subst e
    refine ⟨SY.t (e_37 C N r b o xs.length c xs.length tb tm h),fun K=>?_,?_⟩
    · have hs:=fun K=>Sy.on (e_37_ok C N r b o xs.length c xs.length tb tm h) (by rw [e_37_c];exact goodY_cons (by rw [ilt_nat,blt_f (Nat.le_refl _)]) goodY_nil) K
      rw [t.eq] at hs
      exact loop_out (fun h=>by cases h) hs
    · rw [e_37_t];simp [refN] <;> rfl
  | succ k ih=>
    intro m i r tm hm hi hr t
    obtain ⟨m,rfl⟩:∃ m',m=m'+1:=⟨m-1,by omega⟩
    have hlt:i<xs.length:=by omega
    obtain ⟨hx,hcell⟩:=hb i xs[i] (List.getElem?_eq_getElem hlt)
    obtain ⟨_,q5,q9,q10,q11⟩:=s_37_t C N r xs[i] b o xs.length c i tb tm h
    obtain ⟨T,h1,h2⟩:=ih m (i+1) (rN r xs[i] 8) _ (by omega) (by omega) (rN_lt hr 8) ⟨s_37_r hr hx C,q5,q9,q10,by rw [q11,wr_i64 (by omega)] <;> rfl⟩
    refine ⟨T,fun K=>?_,?_⟩
    · have hs:=fun K=>Sy.on (s_37_ok C N r xs[i] b o xs.length c i tb tm h) (s_37_good hr hx hlt hcell ht C) K
      rw [t.eq] at hs
      exact (loop_on hs).trans (h1 K)
    · rw [h2,List.drop_eq_getElem_cons hlt] <;> rfl
theorem run_37 {b o c r:Nat} {h:AH} (hl:∀ b,h.next≤b→h.get b=none) (xs:List Nat) (hn:xs.length<2 ^ 62) (hr:r<2 ^ 32) (hb:Bys h b o xs):denG envT (tabS tb_37) (xs.length+1) 37 [u32 r,sl b o xs.length c] h=some (u32 (refN r xs),h.new nibTab):=by
  have hx:=Ext.new hl nibTab
  have ht:∀ j,j<16→(h.new nibTab).cell h.next j=some (u32 (tabN j)):=fun j hj=>by
    have e:(h.new nibTab).mem.get h.next=some nibTab:=by
      have:=AH.get_new h nibTab h.next
      rw [if_pos rfl] at this;exact this
    have:=nibTab_get j hj
    unfold AH.cell
    rw [e];exact this
  obtain ⟨T,h1,h2⟩:=loop_37 (N:=xs.length+1) (c:=c) (tabS tb_37) xs hn (hb.ext hx) ht xs.length (xs.length+1) 0 r
    (stoF (stoF (stoF (stoF (stoF (stoF (fun i=>gt ([u32 r,sl b o xs.length c]++List.replicate 37 undV) i) (some 4) (u32 0)) (some 8) (ptr (AH.next h) 0)) (some 5) (Value.pointer (some (Addr.mk (AH.next h) 0 none)))) (some 9) (Value.slice (some (Addr.mk b o none)) xs.length c)) (some 10) (i64 (xs.length))) (some 11) (i64 0))
    (by omega) (by omega) hr ⟨by kernel_rfl,by kernel_rfl,by kernel_rfl,by kernel_rfl,by kernel_rfl⟩
  have e:tmK [(0,u32 (refN r xs))] T=T:=tmK_self _ _ fun p hp=>by
    simp only [List.mem_cons,List.not_mem_nil,or_false] at hp
    subst hp;exact h2
  refine syG_sound (d_37 (tabS tb_37) (xs.length+1) r (refN r xs) b o xs.length c T h) (goodY_cons (fun K=>?_) (goodY_cons ?_ goodY_nil))
  · rw [e];exact h1 K
  · exact tabS_at (f:=fNib) (h':=h.new nibTab) (v:=ptr h.next 0) (by kernel_rfl) rfl
def lenOk (xs:List Nat):Bool:=Nat.blt xs.length 4611686018427387904
def fThrough:Fun:=fun args h=>match args with
  | [.int .u32 (.ofNat r),.slice (some ⟨b,o,none⟩) n c]=>bif Nat.blt r 4294967296 then (rdSl (.slice (some ⟨b,o,none⟩) n c) h).bind fun xs=>bif lenOk xs then some (u32 (refN r xs),h.up 1) else none else none
  | _=>none
theorem t_37_told:Den.Told Tryz.prog 37 fThrough:=told_of envT_ok (tabS_sound envT_ok tb_37_ok) fun args h v h₂ hl hlim=>by
  unfold fThrough at hl
  split at hl
  · rename_i r₀ b o n c
    cases hb:Nat.blt r₀ 4294967296 with
    | false=>rw [hb] at hl;cases hl
    | true=>
      rw [hb,cond_true] at hl
      cases hx:rdSl (.slice (some ⟨b,o,none⟩) n c) h with
      | none=>rw [hx] at hl;cases hl
      | some xs=>
        rw [hx,Option.bind_some] at hl
        cases hq:lenOk xs with
        | false=>rw [hq] at hl;cases hl
        | true=>
          rw [hq] at hl;cases hl
          obtain ⟨h1,rfl⟩:=rdSl_sl hx
          exact ⟨_,_,run_37 (c:=c) hlim xs (blt_of hq) (blt_of hb) h1,rfl,Ext.new hlim nibTab,fun b _=>rfl⟩
  · cases hl
theorem fThrough_eq {r b o c:Nat} {xs:List Nat} {h:AH} (hr:r<2 ^ 32) (hb:Bys h b o xs) (hn:xs.length<2 ^ 62):fThrough [u32 r,sl b o xs.length c] h=some (u32 (refN r xs),h.up 1):=by
  show (bif Nat.blt r 4294967296 then (rdSl (sl b o xs.length c) h).bind fun xs=>bif lenOk xs then some (u32 (refN r xs),h.up 1) else none else none)=_
  have:lenOk xs=true:=blt_t hn
  rw [blt_t hr,cond_true,sl_rdSl hb,Option.bind_some,this] <;> rfl
def sumN (xs:List Nat):Nat:=refN 4294967295 xs ^^^ 4294967295
theorem sumN_lt (xs:List Nat):sumN xs<2 ^ 32:=xor_lt (refN_lt xs _ (by decide)) (by decide)
theorem not_ref (xs:List Nat):bitsOf .u32 Nat.xor (fun x1 x2=>x1 ^^^ x2) (.ofNat 4294967295) (.ofNat (refN 4294967295 xs))=.ofNat (sumN xs):=bits_not (refN_lt xs _ (by decide))
theorem d_79z (C:Oracle) (N r:Nat) (h:AH):syG envT (C) ((N+9)) [] [] 79 ([u32 r,.slice none 0 0]) (h)=some (u32 r,h,
  []):=by kernel_rfl
theorem d_37z (C:Oracle) (N r:Nat) (h:AH):syG envT (C) ((N+9)) [(1,ptr (AH.next h) 0,some (AH.new h nibTab))] [] 37 ([u32 r,.slice none 0 0]) (h)=some (u32 r,AH.new h nibTab,
  [((C) (Value.func (Fn.func 70) (Array.mk []) (Array.mk [])) [] (h))=some (ptr (AH.next h) 0,AH.new h nibTab)]):=by kernel_rfl
def fThrZ:Fun:=fun args h=>match args with
  | [.int .u32 (.ofNat r),.slice none 0 0]=>some (u32 r,h.up 1)
  | _=>none
theorem t_37z_told:Den.Told Tryz.prog 37 fThrZ:=told_of envT_ok (tabS_sound envT_ok tb_37_ok) fun args h v h₂ hl hlim=>by
  unfold fThrZ at hl
  split at hl
  · rename_i r
    cases hl
    refine ⟨9,h.new nibTab,syG_sound (d_37z (tabS tb_37) 0 r h) (goodY_cons ?_ goodY_nil),rfl,Ext.new hlim nibTab,fun b _=>rfl⟩
    exact tabS_at (f:=fNib) (h':=h.new nibTab) (v:=ptr h.next 0) (by kernel_rfl) rfl
  · cases hl
def fRunZ:Fun:=fun args h=>match args with
  | [.int .u32 (.ofNat r),.slice none 0 0]=>some (u32 r,h)
  | _=>none
theorem t_79z_told:Den.Told Tryz.prog 79 fRunZ:=fun args h v h' hl φ w args' ha r=>by
  unfold fRunZ at hl
  split at hl
  · rename_i r₀
    cases hl
    exact (denG_goes envT_ok (tabS_sound envT_ok tb_79_ok) (syG_sound (d_79z (tabS tb_79) 0 r₀ h) goodY_nil)).2 φ w args' ha r
  · cases hl
noncomputable def tbSum:PT Fun:=(PT.leaf.put 37 (some (orF fThrough fThrZ))).put 79 (some (orF fRun fRunZ))
theorem tbSum_ok:TabOK Tryz.prog envT tbSum:=(TabOK.leaf.put (t_37_told.or t_37z_told) (fnS (by kernel_rfl))).put (t_79_told.or t_79z_told) (fnS (by kernel_rfl))
theorem orF_l {a b:Fun} {args:List Value} {h:AH} {x:Value × AH} (e:a args h=some x):orF a b args h=some x:=by
  unfold orF
  rw [e]
theorem orF_r {a b:Fun} {args:List Value} {h:AH} {x:Value × AH} (e0:a args h=none) (e:b args h=some x):orF a b args h=some x:=by
  unfold orF
  rw [e0];exact e
end Go.Proofs.YtejgabehfdapjaaGreat.Sym
namespace Go.Proofs.YtejgabehfdapjaaGreat.Sym
open Go.Den
theorem ofList_at (l:List Value) (j:Nat):(PT.ofList l 0 .leaf).get j=l[j]?:=by
  rw [PT.get_ofList,if_pos (Nat.zero_le _),Nat.sub_zero,PT.get_leaf]
  cases l[j]? <;> rfl
theorem new_get (h:AH) (o:AObj):(h.new o).get h.next=some o:=by rw [AH.get_new,if_pos rfl]
theorem allC_u8:∀ xs:List Nat,allC (xs.map u8)=true
  | []=>rfl
  | x::xs=>by
    show (bif oneC (u8 x) then allC (xs.map u8) else false)=true
    rw [allC_u8 xs] <;> rfl
theorem bys_of {h:AH} {b o m t:Nat} {c:PT Value} {xs:List Nat} (hb:h.get b=some (.cells c m t)) (hx:∀ x ∈ xs,x<256) (hc:∀ i x,xs[i]?=some x→c.get (o+i)=some (u8 x)):Bys h b o xs:=fun i x hi=>by
  refine ⟨hx x (List.mem_of_getElem? hi),?_⟩
  have hb':h.mem.get b=some (.cells c m t):=hb
  unfold AH.cell
  rw [hb'];exact hc i x hi
theorem vNat_some {n m d:Nat} {k:IntKind} (h:m≤n):vNat n (some (.int k (.ofNat m))) d=some m:=by
  show (bif Nat.ble m n then some m else none)=_
  rw [ble_t h] <;> rfl
theorem st_at {h:AH} {b o n t:Nat} {c:PT Value} {u v:Value} (hb:h.get b=some (.cells c n t)) (hu:c.get o=some u):h.st b o v=some (h.put b (some (.cells (c.put o (some v)) n t))):=by
  have hb':h.mem.get b=some (.cells c n t):=hb
  unfold AH.st
  rw [hb']
  simp only [hu]
theorem put_get (h:AH) (b:Nat) (o:Option AObj):(h.put b o).get b=o:=by rw [AH.get_put,if_pos rfl]
theorem stL_puts:∀ (l:List Value) (h:AH) (b o n t:Nat) (c:PT Value),h.get b=some (.cells c n t)→allC l=true→(∀ i,i<l.length→∃ u,c.get (o+i)=some u)→l≠[]→h.stL b o l=some (h.put b (some (.cells (PT.puts c o l) n t)))
  | [],_,_,_,_,_,_,_,_,_,h=>absurd rfl h
  | v::l,h,b,o,n,t,c,hb,ha,hc,_=>by
    obtain ⟨u,hu⟩:=hc 0 (by simp)
    rw [Nat.add_zero] at hu
    have ha':oneC v=true∧allC l=true:=by
      unfold allC at ha
      cases ho:oneC v with
      | false=>rw [ho] at ha;cases ha
      | true=>rw [ho] at ha;exact ⟨rfl,ha⟩
    unfold AH.stL
    rw [ha'.1,cond_true,st_at hb hu,Option.bind_some]
    cases l with
    | nil=>rfl
    | cons v' l'=>
      have hc':∀ i,i<(v'::l').length→∃ u,(c.put o (some v)).get (o+1+i)=some u:=fun i hi=>by
        obtain ⟨w,hw⟩:=hc (i+1) (by simp at hi ⊢;omega)
        refine ⟨w,?_⟩
        rw [PT.get_put,if_neg (by omega),show o+1+i=o+(i+1) by omega];exact hw
      have:=stL_puts (v'::l') (h.put b (some (.cells (c.put o (some v)) n t))) b (o+1) n t (c.put o (some v)) (put_get ..) ha'.2 hc' (by simp)
      rw [this,AH.put_put] <;> rfl
theorem hCopy_at {h:AH} {b o mx cx b2 o2 n2 c2 nn k t:Nat} {c:PT Value} {xs:List Nat} (hk:min n2 mx=k) (hx:xs.length=k) (h0:0<k) (hb2:Bys h b2 o2 xs) (hb:h.get b=some (.cells c nn t)) (hc:∀ i,i<k→∃ u,c.get (o+i)=some u) :
    hCopy 1 (.slice (some ⟨b,o,none⟩) mx cx) (.slice (some ⟨b2,o2,none⟩) n2 c2) h=some (i64 k,h.put b (some (.cells (PT.puts c o (xs.map u8)) nn t))):=by
  subst hx
  have hr:rdV 1 xs.length (.slice (some ⟨b2,o2,none⟩) n2 c2) h=some (xs.map u8):=by
    show (bif Nat.beq xs.length 0 then some [] else bif Nat.ble xs.length n2 then h.cellsN b2 o2 (xs.length*1) else none)=_
    rw [Den.beq_false_of_ne (show xs.length≠0 by omega),ble_t (by omega),Nat.mul_one,hb2.cells] <;> rfl
  have hs:=stL_puts (xs.map u8) h b o nn t c hb (allC_u8 xs) (fun i hi=>hc i (by simpa using hi)) (by intro e;rw [List.map_eq_nil_iff] at e;subst e;exact absurd h0 (by simp))
  unfold hCopy
  simp only [lenV,Option.bind_some,hk,hr]
  cases xs with
  | nil=>exact absurd h0 (by simp)
  | cons x xs=>
    simp only [List.map_cons] at hs ⊢
    rw [hs] <;> rfl
theorem PT.put_same {α:Type} {x:Option α} (hx:x≠none):∀ (f k:Nat) (t:PT α),k<f→t.get k=x→PT.upd f t k x=t
  | 0,_,_,h,_=>by omega
  | f+1,k,t,hk,h=>by
    cases t with
    | leaf=>rw [PT.get_leaf] at h;exact absurd h.symm hx
    | node v l r=>
      simp only [PT.upd,PT.get,PT.val,PT.left,PT.right] at h ⊢
      cases h0:Nat.beq k 0 with
      | true=>rw [h0,cond_true] at h;rw [cond_true,h]
      | false=>
        have hk0:k≠0:=fun e=>by rw [e] at h0;cases h0
        rw [h0,cond_false] at h
        rw [cond_false]
        cases h1:Nat.beq (k % 2) 1 with
        | true=>rw [h1,cond_true] at h;rw [cond_true,PT.put_same hx f (k/2) l (by omega) h]
        | false=>rw [h1,cond_false] at h;rw [cond_false,PT.put_same hx f (k/2-1) r (by omega) h]
theorem AH.put_same {h:AH} {b:Nat} {x:AObj} (hb:h.get b=some x):h.put b (some x)=h:=by
  show (⟨h.next,PT.upd (b+1) h.mem b (some x),h.df⟩:AH)=h
  rw [PT.put_same (by simp) (b+1) b h.mem (by omega) hb]
theorem hCopy_any {h:AH} {b o mx cx b2 o2 n2 c2 nn k t:Nat} {c:PT Value} {xs:List Nat} (hk:min n2 mx=k) (hx:xs.length=k) (hb2:Bys h b2 o2 xs) (hb:h.get b=some (.cells c nn t)) (hc:∀ i,i<k→∃ u,c.get (o+i)=some u) :
    hCopy 1 (sl b o mx cx) (sl b2 o2 n2 c2) h=some (i64 k,h.put b (some (.cells (PT.puts c o (xs.map u8)) nn t))):=by
  by_cases h0:0<k
  · exact hCopy_at hk hx h0 hb2 hb hc
  · have e:xs=[]:=by cases xs with|nil=>rfl|cons=>simp at hx;omega
    subst e
    have e2:k=0:=by omega
    subst e2
    show _=some (i64 0,h.put b (some (.cells c nn t)))
    rw [AH.put_same hb]
    unfold hCopy
    simp only [sl,lenV,Option.bind_some,hk]
    rfl
theorem mkS {l c:Nat} {H:AH} (h1:l≤c) (h2:c≤281474976710656):hMk 1 [u8 0] (i64 l) (i64 c) H=some (sl H.next 0 l c,H.new (.cells (zrep [u8 0] c) (c*1) 0)):=by
  show (bif Nat.ble l c && Nat.ble (1*c) 281474976710656 && Nat.ble c 281474976710656 && allC [u8 0] then _ else none)=_
  rw [ble_t h1,ble_t h2,ble_t (show 1*c≤281474976710656 by omega)] <;> rfl
theorem slU_k {z b o n c lo hi o' n' c':Nat} {loV hiV:Option Value} {H:AH} (hlo:vNat hi loV 0=some lo) (hhi:vNat c hiV n=some hi) (hc:c<4611686018427387904) (hlc:lo=c→lo*z=0) (ho:o+lo*z=o') (hn:hi-lo=n') (hcc:c-lo=c') :
    ((slS z (sl b o n c) loV hiV none).bind fun v=>some (v,H))=some (sl b o' n' c',H):=by
  subst ho hn hcc
  have e1:Nat.beq c (unk z)=false:=Den.beq_false_of_ne (by unfold unk;omega)
  have e2:Nat.ble (unk 0) c=false:=ble_f (by unfold unk;omega)
  have hb:bnds n c loV hiV none=some (lo,hi,c):=by
    unfold bnds
    rw [show vNat c none c=some c from rfl,Option.bind_some,hhi,Option.bind_some,hlo] <;> rfl
  unfold slS sl
  simp only [e1,cond_false,e2,hb,Option.bind_some]
  unfold cutAt
  cases hq:Nat.beq c lo with
  | true=>
    have:=hlc (nat_beq hq).symm
    rw [cond_true,this] <;> rfl
  | false=>rfl
end Go.Proofs.YtejgabehfdapjaaGreat.Sym
namespace Go.Proofs.YtejgabehfdapjaaGreat.Sym
open Go.Den
def fillC (ce:PT Value) (o i:Nat):PT Value:=PT.puts ce o (List.replicate i (u8 255))
theorem fillC_get (ce:PT Value) (o i j:Nat):(fillC ce o i).get j=if o≤j∧j<o+i then some (u8 255) else ce.get j:=by
  unfold fillC
  rw [PT.get_puts,List.length_replicate]
  split
  · rename_i h
    rw [List.getElem?_replicate,if_pos (by omega)]
  · rfl
def fillH (h:AH) (b:Nat) (ce:PT Value) (o i M t:Nat):AH:=h.put b (some (.cells (fillC ce o i) M t))
theorem fill_st {h:AH} {b o i M t n:Nat} {ce:PT Value} (hi:i<n) (hc:∀ i,i<n→∃ u,ce.get (o+i)=some u):AH.st (fillH h b ce o i M t) b (o+i) (u8 255)=some (fillH h b ce o (i+1) M t):=by
  obtain ⟨u,hu⟩:=hc i hi
  have hg:(fillC ce o i).get (o+i)=some u:=by rw [fillC_get,if_neg (by omega)];exact hu
  unfold fillH
  rw [st_at (put_get ..) hg]
  rw [AH.put_put]
  have e:fillC ce o (i+1)=(fillC ce o i).put (o+i) (some (u8 255)):=by
    unfold fillC
    rw [List.replicate_succ',puts_snoc,List.length_replicate]
  rw [e]
theorem fill_0 {h:AH} {b o M t:Nat} {ce:PT Value} (hb:h.get b=some (.cells ce M t)):fillH h b ce o 0 M t=h:=AH.put_same hb
noncomputable def fi_127:FI:=match envT.fn 127 with|some x=>x|none=>⟨.skip,0,#[]⟩
noncomputable def X_127:Code:=atP fi_127.body [2,1,1]
def t_127 (b o n c i:Nat) (tm:Tm):Tm:=tmK [(0,sl b o n c),(4,i64 n),(5,i64 i)] tm
noncomputable def s_127 (C:Oracle) (N b o n c i:Nat) (tm:Tm) (h h':AH):SY:=syC envT (C) (12) (N) [(0,Value.bool true,none),
  (5,ptr b (o+i),none),
  (6,junk,some (h'))] [] (X_127) (t_127 b o n c i tm) (h) 0 []
theorem s_127_ok (C:Oracle) (N b o n c i:Nat) (tm:Tm) (h h':AH):Sy envT (C) (12) (N) [(0,Value.bool true,none),
  (5,ptr b (o+i),none),
  (6,junk,some (h'))] [] (X_127) (t_127 b o n c i tm) (h) .normal (SY.t (s_127 C N b o n c i tm h h')) (h') (SY.c (s_127 C N b o n c i tm h h')):=⟨9,by kernel_rfl⟩
theorem s_127_c (C:Oracle) (N b o n c i:Nat) (tm:Tm) (h h':AH):SY.c (s_127 C N b o n c i tm h h')=
  [((AH.st (h) (b) (o+i) (u8 255)).bind fun h'=>some (junk,h'))=some (junk,h'),
   (((ixOk (Int.ofNat i) (n)).bind fun m=>some (ptr (b) (o+m*1))).bind fun v=>some (v,h))=some (ptr b (o+i),h),
   (some (Value.bool (ilt (Int.ofNat i) (Int.ofNat n)),h))=some (Value.bool true,h)]:=by kernel_rfl
theorem s_127_t (C:Oracle) (N b o n c i:Nat) (tm:Tm) (h h':AH):SY.t (s_127 C N b o n c i tm h h') 0=Value.slice (some (Addr.mk b o none)) n c ∧
   SY.t (s_127 C N b o n c i tm h h') 4=i64 n ∧
   SY.t (s_127 C N b o n c i tm h h') 5=Value.int IntKind.i64 (wr IntKind.i64 (Int.ofNat (i+1))):=
  ⟨by kernel_rfl,by kernel_rfl,by kernel_rfl⟩
noncomputable def e_127 (C:Oracle) (N b o n c i:Nat) (tm:Tm) (h:AH):SY:=syC envT (C) (12) (N) [(0,Value.bool false,none)] [] (X_127) (t_127 b o n c i tm) (h) 0 []
theorem e_127_ok (C:Oracle) (N b o n c i:Nat) (tm:Tm) (h:AH):Sy envT (C) (12) (N) [(0,Value.bool false,none)] [] (X_127) (t_127 b o n c i tm) (h) (.exit 0) (SY.t (e_127 C N b o n c i tm h)) (h) (SY.c (e_127 C N b o n c i tm h)):=⟨1,by kernel_rfl⟩
theorem e_127_c (C:Oracle) (N b o n c i:Nat) (tm:Tm) (h:AH):SY.c (e_127 C N b o n c i tm h)=
  [(some (Value.bool (ilt (Int.ofNat i) (Int.ofNat n)),h))=some (Value.bool false,h)]:=by kernel_rfl
theorem e_127_t (C:Oracle) (N b o n c i:Nat) (tm:Tm) (h:AH):SY.t (e_127 C N b o n c i tm h) 0=Value.slice (some (Addr.mk b o none)) n c:=
  by kernel_rfl
theorem d_127 (C:Oracle) (N b o n c:Nat) (T:Tm) (h h':AH):syG envT (C) (N) [] [(3,Ex.exit 0,T,h')] 127 ([sl b o n c]) (h)=some (Value.tuple (Array.mk []),h',
  [∀ K:Kont,loopK (N) (fun G=>evF envT (C) 12 (N) (atP (fi_127.body) [2,1,1]) (thenK G K)) (stoF (stoF (stoF (fun i=>gt ([sl b o n c]++List.replicate 11 undV) i) (some 3) (Value.slice (some (Addr.mk b o none)) n c)) (some 4) (i64 n)) (some 5) (i64 0)) (h)=K (Ex.exit 0) (T) (h')]):=by kernel_rfl
structure In_127 (b o n c i:Nat) (tm:Tm):Prop where
  t0:tm 0=sl b o n c
  t4:tm 4=i64 n
  t5:tm 5=i64 i
theorem In_127.eq {b o n c i:Nat} {tm:Tm} (t:In_127 b o n c i tm):t_127 b o n c i tm=tm:=by
  refine tmK_self _ _ fun p hp=>?_
  simp only [List.mem_cons,List.not_mem_nil,or_false] at hp
  rcases hp with rfl|rfl|rfl
  · exact t.t0
  · exact t.t4
  · exact t.t5
theorem loop_127 {N b o n c M ty:Nat} {h:AH} {ce:PT Value} (C:Oracle) (hn:n<4611686018427387904) (hc:∀ i,i<n→∃ u,ce.get (o+i)=some u) :
    ∀ (k m i:Nat) (tm:Tm),k<m→i+k=n→In_127 b o n c i tm →
      ∃ T,(∀ K,loopK m (fun G=>evF envT C 12 N X_127 (thenK G K)) tm (fillH h b ce o i M ty)=K (.exit 0) T (fillH h b ce o n M ty))∧T 0=sl b o n c:=by
  intro k
  induction k with
  | zero=>
    intro m i tm hm hi t
    obtain ⟨m,rfl⟩:∃ m',m=m'+1:=⟨m-1,by omega⟩
    have e:i=n:=by omega
    subst e
    refine ⟨SY.t (e_127 C N b o i c i tm (fillH h b ce o i M ty)),fun K=>?_,?_⟩
    · have hs:=fun K=>Sy.on (e_127_ok C N b o i c i tm (fillH h b ce o i M ty)) (by rw [e_127_c];exact goodY_cons (cB (ltF (Nat.le_refl _))) goodY_nil) K
      rw [t.eq] at hs
      exact loop_out (fun h=>by cases h) hs
    · rw [e_127_t] <;> rfl
  | succ k ih=>
    intro m i tm hm hi t
    obtain ⟨m,rfl⟩:∃ m',m=m'+1:=⟨m-1,by omega⟩
    have hlt:i<n:=by omega
    obtain ⟨q0,q4,q5⟩:=s_127_t C N b o n c i tm (fillH h b ce o i M ty) (fillH h b ce o (i+1) M ty)
    obtain ⟨T,h1,h2⟩:=ih m (i+1) _ (by omega) (by omega) ⟨q0,q4,by rw [q5,wr_i64 (by omega)] <;> rfl⟩
    refine ⟨T,fun K=>?_,h2⟩
    have hs:=fun K=>Sy.on (s_127_ok C N b o n c i tm (fillH h b ce o i M ty) (fillH h b ce o (i+1) M ty)) (by
      rw [s_127_c]
      refine goodY_cons ?_<|goodY_cons (ixS hlt (by omega))<|goodY_cons (cB (ltT hlt)) goodY_nil
      have:=fill_st (h:=h) (b:=b) (M:=M) (t:=ty) hlt hc
      rw [show (u8 255)=u8 255 from rfl,this] <;> rfl) K
    rw [t.eq] at hs
    exact (loop_on hs).trans (h1 K)
noncomputable def fi_42:FI:=match envT.fn 42 with|some x=>x|none=>⟨.skip,0,#[]⟩
noncomputable def X_42:Code:=atP fi_42.body [2,2,1,2,1,1]
def t_42 (b o n c i:Nat) (tm:Tm):Tm:=tmK [(3,sl b o n c),(8,i64 n),(9,i64 i)] tm
noncomputable def s_42 (C:Oracle) (N b o n c i:Nat) (tm:Tm) (h h':AH):SY:=syC envT (C) (17) (N) [(0,Value.bool true,none),
  (5,ptr b (o+i),none),
  (6,junk,some (h'))] [] (X_42) (t_42 b o n c i tm) (h) 0 []
theorem s_42_ok (C:Oracle) (N b o n c i:Nat) (tm:Tm) (h h':AH):Sy envT (C) (17) (N) [(0,Value.bool true,none),
  (5,ptr b (o+i),none),
  (6,junk,some (h'))] [] (X_42) (t_42 b o n c i tm) (h) .normal (SY.t (s_42 C N b o n c i tm h h')) (h') (SY.c (s_42 C N b o n c i tm h h')):=⟨9,by kernel_rfl⟩
theorem s_42_c (C:Oracle) (N b o n c i:Nat) (tm:Tm) (h h':AH):SY.c (s_42 C N b o n c i tm h h')=
  [((AH.st (h) (b) (o+i) (u8 255)).bind fun h'=>some (junk,h'))=some (junk,h'),
   (((ixOk (Int.ofNat i) (n)).bind fun m=>some (ptr (b) (o+m*1))).bind fun v=>some (v,h))=some (ptr b (o+i),h),
   (some (Value.bool (ilt (Int.ofNat i) (Int.ofNat n)),h))=some (Value.bool true,h)]:=by kernel_rfl
theorem s_42_t (C:Oracle) (N b o n c i:Nat) (tm:Tm) (h h':AH):SY.t (s_42 C N b o n c i tm h h') 3=Value.slice (some (Addr.mk b o none)) n c ∧
   SY.t (s_42 C N b o n c i tm h h') 8=i64 n ∧
   SY.t (s_42 C N b o n c i tm h h') 9=Value.int IntKind.i64 (wr IntKind.i64 (Int.ofNat (i+1))):=
  ⟨by kernel_rfl,by kernel_rfl,by kernel_rfl⟩
noncomputable def e_42 (C:Oracle) (N b o n c i:Nat) (tm:Tm) (h:AH):SY:=syC envT (C) (17) (N) [(0,Value.bool false,none)] [] (X_42) (t_42 b o n c i tm) (h) 0 []
theorem e_42_ok (C:Oracle) (N b o n c i:Nat) (tm:Tm) (h:AH):Sy envT (C) (17) (N) [(0,Value.bool false,none)] [] (X_42) (t_42 b o n c i tm) (h) (.exit 0) (SY.t (e_42 C N b o n c i tm h)) (h) (SY.c (e_42 C N b o n c i tm h)):=⟨1,by kernel_rfl⟩
theorem e_42_c (C:Oracle) (N b o n c i:Nat) (tm:Tm) (h:AH):SY.c (e_42 C N b o n c i tm h)=
  [(some (Value.bool (ilt (Int.ofNat i) (Int.ofNat n)),h))=some (Value.bool false,h)]:=by kernel_rfl
theorem e_42_t (C:Oracle) (N b o n c i:Nat) (tm:Tm) (h:AH):SY.t (e_42 C N b o n c i tm h) 3=Value.slice (some (Addr.mk b o none)) n c:=
  by kernel_rfl
theorem d_42 (C:Oracle) (N n:Nat) (T:Tm) (h h1 h':AH):syG envT (C) (N) [(2,sl (AH.next h) 0 n n,some (h1))] [(7,Ex.exit 0,tmK [(3,sl (AH.next h) 0 n n)] T,h')] 42 ([i64 n]) (h)=some (Value.slice (some (Addr.mk (AH.next h) 0 none)) n n,h',
  [∀ K:Kont,loopK (N) (fun G=>evF envT (C) 17 (N) (atP (fi_42.body) [2,2,1,2,1,1]) (thenK G K)) (stoF (stoF (stoF (stoF (stoF (stoF (stoF (fun i=>gt ([i64 n]++List.replicate 16 undV) i) (some 2) (Value.slice none 0 0)) (some 5) (i64 n)) (some 6) (sl (AH.next h) 0 n n)) (some 3) (Value.slice (some (Addr.mk (AH.next h) 0 none)) n n)) (some 7) (Value.slice (some (Addr.mk (AH.next h) 0 none)) n n)) (some 8) (i64 n)) (some 9) (i64 0)) (h1)=K (Ex.exit 0) (tmK [(3,sl (AH.next h) 0 n n)] T) (h'),
   hMk 1 [u8 0] (i64 n) (i64 n) h=some (sl (AH.next h) 0 n n,h1)]):=by kernel_rfl
structure In_42 (b o n c i:Nat) (tm:Tm):Prop where
  t0:tm 3=sl b o n c
  t4:tm 8=i64 n
  t5:tm 9=i64 i
theorem In_42.eq {b o n c i:Nat} {tm:Tm} (t:In_42 b o n c i tm):t_42 b o n c i tm=tm:=by
  refine tmK_self _ _ fun p hp=>?_
  simp only [List.mem_cons,List.not_mem_nil,or_false] at hp
  rcases hp with rfl|rfl|rfl
  · exact t.t0
  · exact t.t4
  · exact t.t5
theorem loop_42 {N b o n c M ty:Nat} {h:AH} {ce:PT Value} (C:Oracle) (hn:n<4611686018427387904) (hc:∀ i,i<n→∃ u,ce.get (o+i)=some u) :
    ∀ (k m i:Nat) (tm:Tm),k<m→i+k=n→In_42 b o n c i tm →
      ∃ T,(∀ K,loopK m (fun G=>evF envT C 17 N X_42 (thenK G K)) tm (fillH h b ce o i M ty)=K (.exit 0) T (fillH h b ce o n M ty))∧T 3=sl b o n c:=by
  intro k
  induction k with
  | zero=>
    intro m i tm hm hi t
    obtain ⟨m,rfl⟩:∃ m',m=m'+1:=⟨m-1,by omega⟩
    have e:i=n:=by omega
    subst e
    refine ⟨SY.t (e_42 C N b o i c i tm (fillH h b ce o i M ty)),fun K=>?_,?_⟩
    · have hs:=fun K=>Sy.on (e_42_ok C N b o i c i tm (fillH h b ce o i M ty)) (by rw [e_42_c];exact goodY_cons (cB (ltF (Nat.le_refl _))) goodY_nil) K
      rw [t.eq] at hs
      exact loop_out (fun h=>by cases h) hs
    · rw [e_42_t] <;> rfl
  | succ k ih=>
    intro m i tm hm hi t
    obtain ⟨m,rfl⟩:∃ m',m=m'+1:=⟨m-1,by omega⟩
    have hlt:i<n:=by omega
    obtain ⟨q0,q4,q5⟩:=s_42_t C N b o n c i tm (fillH h b ce o i M ty) (fillH h b ce o (i+1) M ty)
    obtain ⟨T,h1,h2⟩:=ih m (i+1) _ (by omega) (by omega) ⟨q0,q4,by rw [q5,wr_i64 (by omega)] <;> rfl⟩
    refine ⟨T,fun K=>?_,h2⟩
    have hs:=fun K=>Sy.on (s_42_ok C N b o n c i tm (fillH h b ce o i M ty) (fillH h b ce o (i+1) M ty)) (by
      rw [s_42_c]
      refine goodY_cons ?_<|goodY_cons (ixS hlt (by omega))<|goodY_cons (cB (ltT hlt)) goodY_nil
      have:=fill_st (h:=h) (b:=b) (M:=M) (t:=ty) hlt hc
      rw [show (u8 255)=u8 255 from rfl,this] <;> rfl) K
    rw [t.eq] at hs
    exact (loop_on hs).trans (h1 K)
theorem r_127 {b o n c M ty:Nat} {h:AH} {ce:PT Value} (C:Oracle) (hn:n<4611686018427387904) (hb:h.get b=some (.cells ce M ty)) (hc:∀ i,i<n→∃ u,ce.get (o+i)=some u) :
    denG envT C BIG 127 [sl b o n c] h=some (.tuple ⟨[]⟩,h.put b (some (.cells (fillC ce o n) M ty))):=by
  obtain ⟨T,h1,h2⟩:=loop_127 (N:=BIG) (b:=b) (o:=o) (c:=c) (M:=M) (ty:=ty) (h:=h) C hn hc n BIG 0 (stoF (stoF (stoF (fun i=>gt ([sl b o n c]++List.replicate 11 undV) i) (some 3) (Value.slice (some (Addr.mk b o none)) n c)) (some 4) (i64 n)) (some 5) (i64 0)) (Nat.lt_of_le_of_lt (show n≤4611686018427387904 by omega) (by unfold BIG;decide)) (by omega) ⟨by kernel_rfl,by kernel_rfl,by kernel_rfl⟩
  rw [fill_0 hb] at h1
  exact syG_sound (d_127 C BIG b o n c T h (fillH h b ce o n M ty)) (goodY_cons (fun K=>h1 K) goodY_nil)
theorem PT.rep_at (z:Value):∀ (f n k:Nat),n≤f→k<n→(PT.rep z f n).get k=some z
  | 0,n,k,h1,h2=>by omega
  | f+1,0,k,h1,h2=>by omega
  | f+1,n+1,k,h1,h2=>by
    show (bif Nat.beq k 0 then some z else bif Nat.beq (k % 2) 1 then (PT.rep z f ((n+1)/2)).get (k/2) else (PT.rep z f (n/2)).get (k/2-1))=some z
    cases h0:Nat.beq k 0 with
    | true=>rfl
    | false=>
      have hk:k≠0:=fun e=>by rw [e] at h0;cases h0
      rw [cond_false]
      cases hb:Nat.beq (k % 2) 1 with
      | true=>have:=nat_beq hb;rw [cond_true];exact PT.rep_at z f _ _ (by omega) (by omega)
      | false=>
        have:k % 2≠1:=fun e=>by rw [e] at hb;cases hb
        rw [cond_false];exact PT.rep_at z f _ _ (by omega) (by omega)
theorem zrep_get {n j:Nat} (h:j<n):(zrep [u8 0] n).get j=some (u8 0):=PT.rep_at _ _ _ _ (Nat.le_refl _) h
theorem r_42 {n:Nat} {h:AH} (C:Oracle) (hn:n≤281474976710656) :
    denG envT C BIG 42 [i64 n] h=some (sl h.next 0 n n,h.new (.cells (fillC (zrep [u8 0] n) 0 n) n 0)):=by
  have hb:=new_get h (.cells (zrep [u8 0] n) (n*1) 0)
  obtain ⟨T,h1,h2⟩:=loop_42 (N:=BIG) (b:=h.next) (o:=0) (c:=n) (M:=n*1) (ty:=0) (h:=h.new (.cells (zrep [u8 0] n) (n*1) 0)) (ce:=zrep [u8 0] n) C (n:=n) (by omega) (fun i hi=>⟨u8 0,by rw [Nat.zero_add];exact zrep_get hi⟩) n BIG 0 _ (Nat.lt_of_le_of_lt (show n≤4611686018427387904 by omega) (by unfold BIG;decide)) (by omega) ⟨by kernel_rfl,by kernel_rfl,by kernel_rfl⟩
  rw [fill_0 hb] at h1
  have e:tmK [(3,sl h.next 0 n n)] T=T:=tmK_self _ _ fun p hp=>by
    simp only [List.mem_cons,List.not_mem_nil,or_false] at hp
    subst hp;exact h2
  refine (syG_sound (d_42 C BIG n T h (h.new (.cells (zrep [u8 0] n) (n*1) 0)) (fillH (h.new (.cells (zrep [u8 0] n) (n*1) 0)) h.next (zrep [u8 0] n) 0 n (n*1) 0)) (goodY_cons (fun K=>?_) (goodY_cons (mkS (Nat.le_refl _) hn) goodY_nil))).trans ?_
  · rw [e];exact h1 K
  · unfold fillH
    rw [AH.new_put,Nat.mul_one] <;> rfl
end Go.Proofs.YtejgabehfdapjaaGreat.Sym
namespace Go.Den
def agg2 (u v:Value):Value:=.agg ⟨[u,v]⟩
def agg4 (a b c d:Value):Value:=.agg ⟨[a,b,c,d]⟩
def stG (h:AH) (b o:Nat) (l:List Value):AH:=match h.stL b o l with|some h'=>h'|none=>h
end Go.Den
namespace Go.Proofs.YtejgabehfdapjaaGreat.Sym
open Go.Den
theorem has_zrep {n m:Nat} (h:n≤m):∀ i,i<n→∃ u,(zrep [u8 0] m).get (0+i)=some u:=fun i hi=>⟨u8 0,by rw [Nat.zero_add];exact zrep_get (by omega)⟩
theorem has_fill {n o:Nat} {ce:PT Value} {o' n':Nat} (h:∀ i,i<n→∃ u,ce.get (o+i)=some u):∀ i,i<n→∃ u,(fillC ce o' n').get (o+i)=some u:=fun i hi=>by
  rw [fillC_get]
  split
  · exact ⟨_,rfl⟩
  · exact h i hi
def im (xs:List Nat):AObj:=.ro (PT.ofList (xs.map u8) 0 .leaf)
theorem bys_im {h:AH} {xs:List Nat} {b:Nat} (hb:∀ x ∈ xs,x<256) (hg:h.get b=some (im xs)):Bys h b 0 xs:=fun i x hi=>by
  refine ⟨hb x (List.mem_of_getElem? hi),?_⟩
  have hg':h.mem.get b=some (im xs):=hg
  unfold AH.cell
  rw [hg']
  show (PT.ofList (xs.map u8) 0 .leaf).get (0+i)=some (u8 x)
  rw [ofList_at,Nat.zero_add,List.getElem?_map,hi] <;> rfl
theorem bys_puts {h:AH} {xs:List Nat} {b o M t:Nat} {ce:PT Value} (hb:∀ x ∈ xs,x<256) (hg:h.get b=some (.cells (PT.puts ce o (xs.map u8)) M t)):Bys h b o xs:=
  bys_of hg hb fun i x hi=>by
    have hl:=(List.getElem?_eq_some_iff.1 hi).1
    rw [PT.get_puts,if_pos ⟨by omega,by rw [List.length_map];omega⟩,show o+i-o=i by omega,List.getElem?_map,hi] <;> rfl
theorem bys_fill {h:AH} {b o n m M t:Nat} {ce:PT Value} (hm:m≤n) (hg:h.get b=some (.cells (fillC ce o n) M t)):Bys h b o (List.replicate m 255):=
  bys_of hg (fun x hx=>by rw [List.mem_replicate] at hx;omega) fun i x hi=>by
    have hl:=(List.getElem?_eq_some_iff.1 hi).1
    rw [List.length_replicate] at hl
    rw [List.getElem?_replicate,if_pos hl] at hi
    cases hi
    rw [fillC_get,if_pos (by omega)]
theorem lt_rep {n:Nat}:∀ x ∈ List.replicate n 255,x<256:=fun x hx=>by rw [List.mem_replicate] at hx;omega
theorem cpy {H:AH} {b o mx cx b2 o2 n2 c2 nn k t:Nat} {c:PT Value} {ys:List Nat} (hk:min n2 mx=k) (hx:ys.length=k) (hb2:Bys H b2 o2 ys) (hb:H.get b=some (.cells c nn t)) (hc:∀ i,i<k→∃ u,c.get (o+i)=some u) :
    hCopy 1 (sl b o mx cx) (sl b2 o2 n2 c2) H=some (i64 k,H.put b (some (.cells (PT.puts c o (ys.map u8)) nn t))):=hCopy_any hk hx hb2 hb hc
theorem thr37 {H:AH} {r b o n c d:Nat} {ys:List Nat} (hl:ys.length=n) (hy:Bys H b o ys) (hr:r<4294967296) (hn:n<4611686018427387904) :
    orcS envT tbSum BIG d (.func (.func 37) ⟨[]⟩ ⟨[]⟩) [u32 r,sl b o n c] H=some (u32 (refN r ys),H.up 1):=by
  subst hl
  exact orcS_tb (f:=orF fThrough fThrZ) (by kernel_rfl) (orF_l (fThrough_eq hr hy hn))
theorem run79 {H:AH} {r b o n c d:Nat} {ys:List Nat} (hl:ys.length=n) (hy:Bys H b o ys) (hr:r<4294967296) (hn:n<4611686018427387904) :
    orcS envT tbSum BIG d (.func (.func 79) ⟨[]⟩ ⟨[]⟩) [u32 r,sl b o n c] H=some (u32 (refN r ys),H):=by
  subst hl
  exact orcS_tb (f:=orF fRun fRunZ) (by kernel_rfl) (orF_l (fRun_eq hr hy hn))
theorem run79z {H:AH} {r d:Nat}:orcS envT tbSum BIG d (.func (.func 79) ⟨[]⟩ ⟨[]⟩) [u32 r,.slice none 0 0] H=some (u32 (refN r []),H):=
  orcS_tb (f:=orF fRun fRunZ) (h':=H) (v:=u32 r) (by kernel_rfl) (orF_r rfl rfl)
theorem roomS {n:Nat} (h:n≤100000000000000):roomOk n 1=true:=by
  unfold roomOk
  rw [ble_t (by omega),ble_t (by omega)] <;> rfl
theorem rdB {H:AH} {b o n c:Nat} {ys:List Nat} (hy:Bys H b o ys) (hl:ys.length=n):rdV 1 n (sl b o n c) H=some (ys.map u8):=by
  subst hl
  show (bif Nat.beq ys.length 0 then some [] else bif Nat.ble ys.length ys.length then H.cellsN b o (ys.length*1) else none)=_
  cases h0:Nat.beq ys.length 0 with
  | true=>
    have:=nat_beq h0
    have e:ys=[]:=List.eq_nil_of_length_eq_zero this
    subst e;rfl
  | false=>rw [cond_false,ble_t (Nat.le_refl _),cond_true,Nat.mul_one,hy.cells]
theorem app_in {H:AH} {e b o m c b2 o2 n c2 M t m' p:Nat} {ce:PT Value} {ys:List Nat} (hl:ys.length=n) (hy:Bys H b2 o2 ys) (hb:H.get b=some (.cells ce M t)) (hc:∀ i,i<n→∃ u,ce.get (p+i)=some u) (hp:o+m=p) (hm:m+n=m') (hmc:m'≤c) (hcc:c≤100000000000000) :
    hApp e 1 1 (sl b o m c) (sl b2 o2 n c2) H=some (sl b o m' c,H.put b (some (.cells (PT.puts ce p (ys.map u8)) M t))):=by
  subst hm hp
  have hr:=rdB (c:=c2) hy hl
  have h1:Nat.beq (ys.map u8).length n=true:=by rw [List.length_map,hl];exact Nat.beq_refl _
  by_cases h0:n=0
  · subst h0
    have e:ys=[]:=List.eq_nil_of_length_eq_zero hl
    subst e
    show _=some (sl b o (m+0) c,H.put b (some (.cells ce M t)))
    rw [AH.put_same hb]
    unfold hApp
    simp only [sl,lenV,Option.bind_some] at hr ⊢
    rw [hr] <;> rfl
  · have e1:Nat.beq c (unk 1)=false:=Den.beq_false_of_ne (by unfold unk;omega)
    have e2:Nat.ble (unk 0) c=false:=ble_f (by unfold unk;omega)
    have hs:=stL_puts (ys.map u8) H b (o+m) M t ce hb (allC_u8 ys) (fun i hi=>hc i (by simpa [hl] using hi)) (by intro e;rw [List.map_eq_nil_iff] at e;subst e;exact h0 hl.symm)
    unfold hApp
    simp only [sl,lenV,Option.bind_some] at hr ⊢
    rw [hr]
    simp only [Option.bind_some,allC_u8,Nat.mul_one,h1,Bool.and_self,cond_true,Den.beq_false_of_ne h0,cond_false,roomS (show m+n≤100000000000000 by omega),e1,e2,ble_t hmc,hs]
def strOf (ys:List Nat):ByteArray:=⟨⟨ys.map UInt8.ofNat⟩⟩
theorem bytesOf_u8:∀ ys:List Nat,bytesOf (ys.map u8)=some (ys.map UInt8.ofNat)
  | []=>rfl
  | y::ys=>by
    show (bytesOf (ys.map u8)).bind _=_
    rw [bytesOf_u8 ys] <;> rfl
theorem cb {H:AH} {b o n c:Nat} {ys:List Nat} (hl:ys.length=n) (hy:Bys H b o ys):((cBytes (sl b o n c) H).bind fun v=>some (v,H))=some (Value.string (strOf ys),H):=by
  subst hl
  cases ys with
  | nil=>rfl
  | cons y ys=>
    show (((H.cellsN b o (ys.length+1)).bind fun l=>(bytesOf l).bind fun s=>some (Value.string ⟨⟨s⟩⟩)).bind _)=_
    rw [show H.cellsN b o (ys.length+1)=some ((y::ys).map u8) from hy.cells,Option.bind_some,bytesOf_u8] <;> rfl
theorem bys_rep {H:AH} {b o n m:Nat} (hy:Bys H b o (List.replicate n 255)) (h:m≤n):Bys H b o (List.replicate m 255):=by
  have:=hy.take m
  rwa [List.take_replicate,Nat.min_eq_left h] at this
theorem lts_nil:∀ x ∈ ([]:List Nat),x<256:=fun _ h=>by cases h
theorem lts_cons {a:Nat} {l:List Nat} (ha:a<256) (hl:∀ x ∈ l,x<256):∀ x ∈ a::l,x<256:=fun x hx=>by
  rcases List.mem_cons.1 hx with rfl|hx
  · exact ha
  · exact hl x hx
theorem bys_c {H:AH} {b o n:Nat} {ys:List Nat} (hl:ys.length=n) (hc:H.cellsN b o n=some (ys.map u8)) (hb:∀ x ∈ ys,x<256):Bys H b o ys:=fun i x hi=>by
  subst hl
  refine ⟨hb x (List.mem_of_getElem? hi),?_⟩
  exact (cellsN_get hc).2 i (u8 x) (by rw [List.getElem?_map,hi] <;> rfl)
def recL (v n s:Nat):List Nat:=[98,116,48,49,1,0,0,0,0,0,0,0,0,v % 256,v/256 % 256,v/65536 % 256,v/16777216,n % 256,n/256 % 256,n/65536 % 256,n/16777216,s % 256,s/256 % 256,s/65536 % 256,s/16777216,0,0,0,0,0,0,0,0,0,0,0,0,0,0]
def recA (v n s r:Nat):List Nat:=[98,116,48,49,1,0,0,0,0,0,0,0,0,v % 256,v/256 % 256,v/65536 % 256,v/16777216,n % 256,n/256 % 256,n/65536 % 256,n/16777216,s % 256,s/256 % 256,s/65536 % 256,s/16777216,0,0,0,0,0,0,0,0,0,0,0,0,0,0,r % 256,r/256 % 256,r/65536 % 256,r/16777216]
theorem not_sum {l:List Nat} {s:Nat} (h:sumN l=s):bitsOf .u32 Nat.xor (fun x1 x2=>x1 ^^^ x2) (.ofNat 4294967295) (.ofNat (refN 4294967295 l))=.ofNat s:=by subst h;exact not_ref l
theorem quoE {E:Env} {t:Nat} {d:TypeDesc} {a b c:Nat} {H:AH} (hb:0<b) (h:a/b=c) (hc:c<9223372036854775808) :
    ((kBin E BinOp.quo t (bBin E d BinOp.quo (iQuo (i64 a) (i64 b)) (i64 a) (i64 b)) (i64 a) (i64 b)).bind fun v=>some (v,H))=some (i64 c,H):=by
  have e:((Int.ofNat b) == 0)=false:=by
    cases b with
    | zero=>omega
    | succ b=>rfl
  have e2:iQuo (i64 a) (i64 b)=some (i64 c):=by
    show (bif ((Int.ofNat b) == 0) then none else some (Value.int .i64 (wr .i64 (Int.tdiv (.ofNat a) (.ofNat b)))))=_
    rw [e,cond_false,tdE h hc] <;> rfl
  rw [e2] <;> rfl
theorem remE {E:Env} {t:Nat} {d:TypeDesc} {a b c:Nat} {H:AH} (hb:0<b) (h:a % b=c) :
    ((kBin E BinOp.rem t (bBin E d BinOp.rem (iRem (i64 a) (i64 b)) (i64 a) (i64 b)) (i64 a) (i64 b)).bind fun v=>some (v,H))=some (i64 c,H):=by
  subst h
  have e:((Int.ofNat b) == 0)=false:=by
    cases b with
    | zero=>omega
    | succ b=>rfl
  have e2:iRem (i64 a) (i64 b)=some (i64 (a % b)):=by
    show (bif ((Int.ofNat b) == 0) then none else some (Value.int .i64 (Int.tmod (.ofNat a) (.ofNat b))))=_
    rw [e] <;> rfl
  rw [e2] <;> rfl
theorem kr {x:Option (Value × AH)} {v:Value} {h1 h2:AH} (h:x=some (v,h1)) (e:h1=h2):x=some (v,h2):=by rw [h,e]
theorem c127 {d b o n c M t:Nat} {ce:PT Value} {H:AH} (hn:n<4611686018427387904) (hb:H.get b=some (.cells ce M t)) (hc:∀ i,i<n→∃ u,ce.get (o+i)=some u) :
    orcS envT tbSum BIG (d+1) (.func (.func 127) ⟨[]⟩ ⟨[]⟩) [sl b o n c] H=some (.tuple ⟨[]⟩,H.put b (some (.cells (fillC ce o n) M t))):=
  orcS_of (by kernel_rfl) (r_127 _ hn hb hc)
theorem c42 {d n:Nat} {H:AH} (hn:n≤281474976710656) :
    orcS envT tbSum BIG (d+1) (.func (.func 42) ⟨[]⟩ ⟨[]⟩) [i64 n] H=some (sl H.next 0 n n,H.new (.cells (fillC (zrep [u8 0] n) 0 n) n 0)):=
  orcS_of (by kernel_rfl) (r_42 _ hn)
theorem bM {h:AH} {n b o:Nat} {d:List Deferred} {xs:List Nat} (hc:Bys h b o xs):Bys ⟨n,h.mem,d⟩ b o xs:=hc
theorem bN0 {h h':AH} {b o:Nat} {xs:List Nat} (e:h'.get b=h.get b) (hc:Bys h b o xs):Bys h' b o xs:=fun i y hy=>by
  refine ⟨(hc i y hy).1,?_⟩
  have h1:=(hc i y hy).2
  have e:PT.get h'.mem b=PT.get h.mem b:=e
  unfold AH.cell at h1 ⊢
  rw [e];exact h1
theorem bN {h:AH} {b o:Nat} {xs:List Nat} {y:AObj} (hb:b≠h.next) (hc:Bys h b o xs):Bys (h.new y) b o xs:=bN0 (get_newN hb) hc
theorem bP {h:AH} {b b' o:Nat} {xs:List Nat} {y:Option AObj} (hb:b≠b') (hc:Bys h b o xs):Bys (h.put b' y) b o xs:=bN0 (get_putN hb) hc
theorem bysD {h:AH} {b k:Nat} {xs:List Nat} (hb:Bys h b 0 xs):Bys h b k (xs.drop k):=by
  have:=hb.drop k
  rwa [Nat.zero_add] at this
def mkD (l c b:Nat) (H:AH):Option (Value × AH):=
  match (bif Nat.ble l c && Nat.ble (1*c) 281474976710656 && Nat.ble c 281474976710656 && allC [u8 0] then some (AObj.cells (zrep [u8 0] c) (c*1) 0,fun b:Nat=>sl b 0 l c) else none) with
  | some (ob,mk)=>some (mk b,H.put b (some ob))
  | none=>none
theorem mkS' {l c:Nat} {H:AH} (h1:l≤c) (h2:c≤281474976710656):hMk 1 [u8 0] (i64 l) (i64 c) H=some (sl H.next 0 l c,H.new (.cells (zrep [u8 0] c) c 0)):=by
  have:=mkS (H:=H) h1 h2
  rwa [Nat.mul_one] at this
theorem mkDE {l c b:Nat} {H:AH} (h1:l≤c) (h2:c≤281474976710656):mkD l c b H=some (sl b 0 l c,H.put b (some (.cells (zrep [u8 0] c) c 0))):=by
  unfold mkD
  rw [Nat.mul_one,ble_t h1,ble_t h2,ble_t (show 1*c≤281474976710656 by omega)] <;> rfl
theorem nx_put (h:AH) (b:Nat) (o:Option AObj):(h.put b o).next=h.next:=rfl
theorem nx_up (h:AH) (k:Nat):(h.up k).next=h.next+k:=rfl
theorem minI {x y u:Nat} (h1:u≤y) (h2:u≤x) (h3:u=y∨u=x):(bif ilt (Int.ofNat y) (Int.ofNat x) then Int.ofNat y else Int.ofNat x)=Int.ofNat u:=by
  rcases Nat.lt_or_ge y x with h|h
  · rw [ltT h,cond_true];congr 1;omega
  · rw [ltF h,cond_false];congr 1;omega
theorem cM {h:AH} {n b o:Nat} {d:List Deferred} {v:Value} (hc:h.cell b o=some v):AH.cell ⟨n,h.mem,d⟩ b o=some v:=hc
theorem cU {h:AH} {k b o:Nat} {v:Value} (hc:h.cell b o=some v):AH.cell (h.up k) b o=some v:=hc
theorem gM {h:AH} {n b:Nat} {d:List Deferred} {x:AObj} (hc:h.get b=some x):AH.get ⟨n,h.mem,d⟩ b=some x:=hc
theorem gS {h:AH} {x:AObj}:AH.get (h.new x) h.next=some x:=get_newS
theorem gQ {h:AH} {b:Nat} {x:AObj}:AH.get (h.put b (some x)) b=some x:=get_putS
theorem gN {h:AH} {b:Nat} {x y:AObj} (hb:b≠h.next) (hc:h.get b=some x):AH.get (h.new y) b=some x:=by rw [get_newN hb];exact hc
theorem gP {h:AH} {b b':Nat} {x:AObj} {y:Option AObj} (hb:b≠b') (hc:h.get b=some x):AH.get (h.put b' y) b=some x:=by rw [get_putN hb];exact hc
theorem cN {h:AH} {b o:Nat} {v:Value} {y:AObj} (hb:b≠h.next) (hc:h.cell b o=some v):AH.cell (h.new y) b o=some v:=by
  have e:PT.get (h.new y).mem b=PT.get h.mem b:=get_newN hb
  unfold AH.cell at hc ⊢
  rw [e];exact hc
theorem cP {h:AH} {b b' o:Nat} {v:Value} {y:Option AObj} (hb:b≠b') (hc:h.cell b o=some v):AH.cell (h.put b' y) b o=some v:=by
  have e:PT.get (h.put b' y).mem b=PT.get h.mem b:=get_putN hb
  unfold AH.cell at hc ⊢
  rw [e];exact hc
theorem ldE {H:AH} {b o:Nat} {v:Value} (hc:H.cell b o=some v):((AH.cell H b o).bind fun v=>some (v,H))=some (v,H):=by rw [hc] <;> rfl
theorem ld2 {H:AH} {b o:Nat} {u v:Value} (h0:H.cell b o=some u) (h1:H.cell b (o+1)=some v):((ldN 2 (ptr b o) H).bind fun v=>some (v,H))=some (agg2 u v,H):=by
  have e:H.cellsN b o 2=some [u,v]:=by
    show ((H.cell b o).bind fun v=>(H.cellsN b (o+1) 1).bind fun l=>some (v::l))=_
    rw [h0,Option.bind_some]
    show (((H.cell b (o+1)).bind fun v=>(H.cellsN b (o+1+1) 0).bind fun l=>some (v::l)).bind _)=_
    rw [h1] <;> rfl
  show (((H.cellsN b o 2).bind fun l=>some (Value.agg ⟨l⟩)).bind fun v=>some (v,H))=_
  rw [e] <;> rfl
theorem ld2' {H:AH} {b o:Nat} {u v:Value} (h0:H.cell b o=some u) (h1:H.cell b (o+1)=some v):ldN 2 (ptr b o) H=some (agg2 u v):=by
  have e:=ld2 h0 h1
  cases hx:ldN 2 (ptr b o) H with
  | none=>rw [hx] at e;cases e
  | some z=>rw [hx] at e;cases e;rfl
theorem ld4 {H:AH} {b o:Nat} {u v w x:Value} (h0:H.cell b o=some u) (h1:H.cell b (o+1)=some v) (h2:H.cell b (o+2)=some w) (h3:H.cell b (o+3)=some x):((ldN 4 (ptr b o) H).bind fun v=>some (v,H))=some (agg4 u v w x,H):=by
  have e:H.cellsN b o 4=some [u,v,w,x]:=by
    simp only [AH.cellsN,h0,h1,h2,h3,Option.bind_some,show o+1+1=o+2 from rfl,show o+2+1=o+3 from rfl]
  show (((H.cellsN b o 4).bind fun l=>some (Value.agg ⟨l⟩)).bind fun v=>some (v,H))=_
  rw [e] <;> rfl
theorem stE {H:AH} {b o n t:Nat} {c:PT Value} {u v:Value} (hb:H.get b=some (.cells c n t)) (hu:c.get o=some u):((AH.st H b o v).bind fun h'=>some (junk,h'))=some (junk,H.put b (some (.cells (c.put o (some v)) n t))):=by rw [st_at hb hu] <;> rfl
theorem st2E {H:AH} {b o n t:Nat} {c:PT Value} {u0 u1 v0 v1:Value} (hb:H.get b=some (.cells c n t)) (h0:c.get o=some u0) (h1:c.get (o+1)=some u1) (o0:oneC v0=true) (o1:oneC v1=true) :
    ((stN 2 (ptr b o) (.agg ⟨[v0,v1]⟩) H).bind fun h'=>some (junk,h'))=some (junk,(H.put b (some (.cells (c.put o (some v0)) n t))).put b (some (.cells ((c.put o (some v0)).put (o+1) (some v1)) n t))):=by
  have e:stN 2 (ptr b o) (.agg ⟨[v0,v1]⟩) H=H.stL b o [v0,v1]:=rfl
  rw [e]
  unfold AH.stL
  rw [o0,cond_true,st_at hb h0,Option.bind_some]
  unfold AH.stL
  have h1':(c.put o (some v0)).get (o+1)=some u1:=by rw [PT.get_put,if_neg (by omega)];exact h1
  rw [o1,cond_true,st_at get_putS h1',Option.bind_some]
  rfl
end Go.Proofs.YtejgabehfdapjaaGreat.Sym
namespace Go.Den
def ryN:RC:=fun _ _ _ _ _ _=>none
noncomputable def syR (E:Env) (C:Oracle) (N:Nat) (fo:Fo) (lo:Lo) (g:FuncId) (args:List Value) (h:AH):Option (Value × AH × Ps):=
  match ryG E C ryN N lo g args h 0 fo [] with
  | some (v,h',_,_,cs)=>some (v,h',cs)
  | none=>none
theorem ryN_RS (C:Oracle):RS C ryN:=fun _ _ _ _ _ _ _ _ _ _ _ hl=>by cases hl
theorem syR_sound {E:Env} {C:Oracle} {N:Nat} {fo:Fo} {lo:Lo} {g:FuncId} {args:List Value} {h h':AH} {v:Value} {cs:Ps} (hl:syR E C N fo lo g args h=some (v,h',cs)) (hg:GoodP' cs):denG E C N g args h=some (v,h'):=by
  unfold syR at hl
  split at hl
  · rename_i hx
    cases hl
    exact (ryG_sound (ryN_RS C) hx hg).1
  · cases hl
noncomputable def syM (E:Env) (C:Oracle) (N:Nat) (fo:Fo) (lo:Lo) (g:FuncId) (args:List Value) (h:AH) (rv:Value):Option (Value × AH × Ps):=
  match E.fn g with
  | some fi=>match ryC E C ryN (args.length+(fi.ntmps-args.length)) N lo fi.body (fun i=>gt (args++List.replicate (fi.ntmps-args.length) undV) i) h 0 fo [] with
    | some (.exit _,_,_,_,_,_)=>none
    | some (.goto _,_,_,_,_,_)=>none
    | some (_,tm,h',_,_,cs)=>some (tup [rv],h',(resF E tm h' fi.results.toList=some [rv])::cs)
    | none=>none
  | none=>none
theorem syM_sound {E:Env} {C:Oracle} {N:Nat} {fo:Fo} {lo:Lo} {g:FuncId} {args:List Value} {h h':AH} {v rv:Value} {cs:Ps} (hl:syM E C N fo lo g args h rv=some (v,h',cs)) (hg:GoodP' cs):denG E C N g args h=some (v,h'):=by
  unfold syM at hl
  unfold denG
  split at hl
  · rename_i fi hf
    rw [hf]
    simp only
    split at hl
    · cases hl
    · cases hl
    · rename_i e tm h₁ k₁ fo₁ cs₁ hne hne2 hx
      cases hl
      have hr:=hg _ (List.mem_cons_self ..)
      obtain ⟨h1,h2⟩:=ryC_sound (ryN_RS C) _ hx fun p hp=>hg p (List.mem_cons_of_mem _ hp)
      rw [h1]
      cases e with
      | exit id=>exact (hne _ rfl).elim
      | normal=>simp only [endK,hr]
      | ret=>simp only [endK,hr]
      | goto l=>exact (hne2 _ rfl).elim
    · cases hl
  · cases hl
def resM (x:Option Value):Option (List Value):=match x with
  | some v=>some [v]
  | none=>none
theorem resM2 {H:AH} {b o:Nat} {u v:Value} (h:ldN 2 (ptr b o) H=some (agg2 u v)):resM (ldN 2 (ptr b o) H)=some [agg2 u v]:=by rw [h] <;> rfl
noncomputable def syP (E:Env) (C:Oracle) (n N:Nat) (fo:Fo) (lo:Lo) (c:Code) (tm:Tm) (h:AH):SY:=
  match ryC E C ryN n N lo c tm h 0 fo [] with
  | some (e,t,h',k,_,cs)=>some (e,t,h',k,cs)
  | none=>none
def SyP (E:Env) (C:Oracle) (n N:Nat) (fo:Fo) (lo:Lo) (c:Code) (tm:Tm) (h:AH) (e:Ex) (t:Tm) (h':AH) (cs:Ps):Prop:=∃ k,syP E C n N fo lo c tm h=some (e,t,h',k,cs)
theorem SyP.on {E:Env} {C:Oracle} {n N:Nat} {fo:Fo} {lo:Lo} {c:Code} {tm t:Tm} {h h':AH} {e:Ex} {cs:Ps} (hx:SyP E C n N fo lo c tm h e t h' cs) (hg:GoodP' cs) (K:Kont):evF E C n N c K tm h=K e t h':=by
  obtain ⟨k,hk⟩:=hx
  unfold syP at hk
  split at hk
  · rename_i hx
    cases hk
    exact (ryC_sound (ryN_RS C) c hx hg).1 K
  · cases hk
end Go.Den
namespace Go.Proofs.YtejgabehfdapjaaGreat.Sym
open Go.Den
def spot (a i:Nat):Value:=.agg ⟨[i64 a,i64 i]⟩
noncomputable def kf:Value→Bool:=match envT.key 170 with|some f=>f|none=>fun _=>false
theorem wf_i64 {i:Nat} (hi:i<9223372036854775808):(Lit.int .i64 (.ofNat i)).wf=true:=by
  have h1:IntKind.i64.min=-9223372036854775808:=by decide
  have h2:IntKind.i64.max=9223372036854775807:=by decide
  show (decide (IntKind.i64.min≤Int.ofNat i) && decide (Int.ofNat i≤IntKind.i64.max))=true
  rw [h1,h2]
  simp only [Bool.and_eq_true,decide_eq_true_eq]
  exact ⟨by have:=Int.natCast_nonneg i;show (-9223372036854775808:Int)≤(i:Int);omega,by show (i:Int)≤9223372036854775807;omega⟩
theorem lits_i64 (i:Nat):Tryz.prog.keyLits Tryz.prog.types.size 3 [i64 i]=(if IntKind.i64=IntKind.i64∧(Lit.int .i64 (.ofNat i)).wf=true then some [.int .i64 (.ofNat i)] else none):=by kernel_rfl
theorem lits_spot (a i:Nat):Tryz.prog.keyLits (Tryz.prog.types.size+1) 170 [i64 a,i64 i]=((Tryz.prog.keyLits Tryz.prog.types.size 3 [i64 a]).bind fun x=>(Tryz.prog.keyLits Tryz.prog.types.size 3 [i64 i]).bind fun y=>some [x,y]).map List.flatten:=by kernel_rfl
theorem kf_eq (a i:Nat):kf (spot a i)=(keyOf Tryz.prog 170 (spot a i)).isSome:=by kernel_rfl
theorem key_spot (a i:Nat):keyOf Tryz.prog 170 (spot a i)=(Tryz.prog.keyLits (Tryz.prog.types.size+1) 170 [i64 a,i64 i]).map fun ls=>.string (keyBytes ls):=by kernel_rfl
theorem kf_spot {a i:Nat} (ha:a<9223372036854775808) (hi:i<9223372036854775808):kf (spot a i)=true:=by
  rw [kf_eq,key_spot,lits_spot,lits_i64,lits_i64,if_pos ⟨rfl,wf_i64 ha⟩,if_pos ⟨rfl,wf_i64 hi⟩] <;> rfl
theorem atom_spot (a i:Nat):atomA (spot a i)=true:=rfl
theorem look112 (r:Nat) (k:Value) (H:AH):mLook envT 112 true (.map (some r)) k H=(bif kf k && atomA k then (match H.get r with
    | some (.map es _ _)=>bif esKeys kf es then (match esFind k es with
      | some v=>some (.tuple ⟨[v,.bool true]⟩)
      | none=>some (.tuple ⟨[.pointer none,.bool false]⟩)) else none
    | _=>none) else none):=by kernel_rfl
theorem look112n {m a i cl:Nat} {es:List (Value × Value)} {bs:List Nat} {H:AH} (ha:a<9223372036854775808) (hi:i<9223372036854775808) (hM:H.get m=some (.map es bs cl)) (hK:esKeys kf es=true) (hF:esFind (spot a i) es=none) :
    ((mLook envT 112 true (.map (some m)) (spot a i) H).bind fun v=>some (v,H))=some (.tuple ⟨[.pointer none,.bool false]⟩,H):=by
  rw [look112,kf_spot ha hi,atom_spot,hM]
  simp only [Bool.and_self,cond_true,hK,hF,Option.bind_some]
theorem look112h {m a i cl:Nat} {v:Value} {es:List (Value × Value)} {bs:List Nat} {H:AH} (ha:a<9223372036854775808) (hi:i<9223372036854775808) (hM:H.get m=some (.map es bs cl)) (hK:esKeys kf es=true) (hF:esFind (spot a i) es=some v) :
    ((mLook envT 112 true (.map (some m)) (spot a i) H).bind fun v=>some (v,H))=some (.tuple ⟨[v,.bool true]⟩,H):=by
  rw [look112,kf_spot ha hi,atom_spot,hM]
  simp only [Bool.and_self,cond_true,hK,hF,Option.bind_some]
theorem upd112 (r:Nat) (k v:Value) (H:AH):mUpd envT 112 (.map (some r)) k v H=(bif kf k && atomA k then (match H.get r with
    | some (.map es bs cl)=>bif esKeys kf es then some (H.put r (some (match esFind k es with
      | some _=>.map (esPut k v es) bs cl
      | none=>.map (esPut k v es) (bs++[cl]) (cl+1)))) else none
    | _=>none) else none):=by kernel_rfl
theorem upd112n {m a i cl:Nat} {v:Value} {es:List (Value × Value)} {bs:List Nat} {H:AH} (ha:a<9223372036854775808) (hi:i<9223372036854775808) (hM:H.get m=some (.map es bs cl)) (hK:esKeys kf es=true) (hF:esFind (spot a i) es=none) :
    ((mUpd envT 112 (.map (some m)) (spot a i) v H).bind fun h'=>some (junk,h'))=some (junk,H.put m (some (.map (esPut (spot a i) v es) (bs++[cl]) (cl+1)))):=by
  rw [upd112,kf_spot ha hi,atom_spot,hM]
  simp only [Bool.and_self,cond_true,hK,hF,Option.bind_some]
def IA (ia:Option Addr) (im n c:Nat):Prop:=ia=some ⟨im,0,none⟩∨(ia=none∧n=0∧c=0)
theorem cpyI {H:AH} {ia:Option Addr} {im n c b o mx cx nn t:Nat} {cc:PT Value} {ys:List Nat} (hi:IA ia im n c) (hx:ys.length=n) (hn:n≤mx) (hB:Bys H im 0 ys) (hb:H.get b=some (.cells cc nn t)) (hc:∀ i,i<n→∃ u,cc.get (o+i)=some u) :
    hCopy 1 (sl b o mx cx) (.slice ia n c) H=some (i64 n,H.put b (some (.cells (PT.puts cc o (ys.map u8)) nn t))):=by
  rcases hi with rfl|⟨rfl,rfl,rfl⟩
  · exact hCopy_any (Nat.min_eq_left hn) hx hB hb hc
  · have e:ys=[]:=List.eq_nil_of_length_eq_zero hx
    subst e
    show _=some (i64 0,H.put b (some (.cells cc nn t)))
    rw [AH.put_same hb]
    unfold hCopy
    simp only [sl,lenV,Option.bind_some,Nat.zero_min,rdV]
    rfl
end Go.Proofs.YtejgabehfdapjaaGreat.Sym
