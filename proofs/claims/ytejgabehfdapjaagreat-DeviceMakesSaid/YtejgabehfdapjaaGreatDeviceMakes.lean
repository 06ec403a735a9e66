/- The law DeviceMakes: it returns true for any shape, any image and any version, whatever is in memory; the arguments read as they did. Conditions: none. -/
import Derived.JoinedOf
import Derived.JoinedAt
import Derived.RowKit3
import Derived.WideKeyArgs
import Derived.Conc.LeavingOf
import Derived.Test.YtejgabehfdapjaaGreatRows
import Derived.Test.YtejgabehfdapjaaGreatLaid
import Derived.Test.YtejgabehfdapjaaGreatMg
import Derived.Test.YtejgabehfdapjaaGreatMh
import Derived.Test.YtejgabehfdapjaaGreatTold15
import Derived.Test.YtejgabehfdapjaaGreatDeviceMakesFn
import Derived.Test.YtejgabehfdapjaaGreatDeviceMakesClosed
namespace Go.Proofs.YtejgabehfdapjaaGreat.Sym
open Go.Den
theorem law_good {pg k n c v:Nat} {ia:Option Addr} {xs:List Nat} (hia:IA ia 0 n c) (hp:64≤pg) (hp2:pg≤4096) (hk:1≤k) (hk2:k≤4096) (hn:n≤pg*k) (hm:pg*k≤16777216) (hv:1≤v) (hv2:v≤2147483647) (hx:xs.length=n) (hb:∀ x ∈ xs,x<256) :
    ∃ H,denG envT (orcS envT (tbD pg k n c (sumN xs) v ia xs) BIG 10) BIG 3 [.agg ⟨[i64 pg,i64 k]⟩,.slice ia n c,i64 v] (mkH 1 [(0,some (im xs))])=some (.bool true,H):=by
  by_cases h0:n=0
  · exact ⟨_,@D.p3 ⟨⟨pg,k,n,c,v,sumN xs,sumN (recL v n (sumN xs)),pg-4,pg-12,pg-13,pg-17,pg-21,pg-25,pg-26,pg-30,pg-34,pg-38,pg-39,0,ia,none,none,xs⟩⟩ hia hp hp2 hk hk2 hn hm hv hv2 (sumN_lt xs) (sumN_lt _) hx hb rfl rfl (.inl ⟨h0,rfl⟩) (fun _=>⟨rfl,rfl⟩) (fun h=>absurd h0 h) rfl rfl rfl rfl rfl rfl rfl rfl rfl rfl rfl⟩
  · exact ⟨_,@D.p3 ⟨⟨pg,k,n,c,v,sumN xs,sumN (recL v n (sumN xs)),pg-4,pg-12,pg-13,pg-17,pg-21,pg-25,pg-26,pg-30,pg-34,pg-38,pg-39,4611686018427387905,ia,some ⟨39693,0,none⟩,some (.cells (PT.ofList (xs.map u8) 0 .leaf) n 11),xs⟩⟩ hia hp hp2 hk hk2 hn hm hv hv2 (sumN_lt xs) (sumN_lt _) hx hb rfl rfl (.inr ⟨rfl,rfl⟩) (fun h=>absurd h h0) (fun _=>⟨(fun h=>by cases h),rfl⟩) rfl rfl rfl rfl rfl rfl rfl rfl rfl rfl rfl⟩
theorem law_true {pz kz vz:Int} {n c:Nat} {ia:Option Addr} {xs:List Nat} (h7:Den.Told Tryz.prog 7 mAwake) (hia:IA ia 0 n c) (hx:xs.length=n) (hb:∀ x ∈ xs,x<256) :
    ∃ tb,TabOK Tryz.prog envT tb∧∃ H,denG envT (orcS envT tb BIG 10) BIG 3 [.agg ⟨[.int .i64 pz,.int .i64 kz]⟩,.slice ia n c,.int .i64 vz] (mkH 1 [(0,some (im xs))])=some (.bool true,H):=by
  by_cases h1:pz<64
  · exact ⟨_,tbX_ok h7,_,X.x1 pz kz vz n c ia xs h1⟩
  obtain ⟨pg,rfl⟩:=Int.eq_ofNat_of_zero_le (show 0≤pz by omega)
  have hp:64≤pg:=by omega
  by_cases h2:4096<pg
  · exact ⟨_,tbX_ok h7,_,X.x2 kz vz pg n c ia xs h2⟩
  have hp2:pg≤4096:=by omega
  by_cases h3:kz<1
  · exact ⟨_,tbX_ok h7,_,X.x3 kz vz pg n c ia xs hp hp2 h3⟩
  obtain ⟨k,rfl⟩:=Int.eq_ofNat_of_zero_le (show 0≤kz by omega)
  have hk:1≤k:=by omega
  by_cases h4:4096<k
  · exact ⟨_,tbX_ok h7,_,X.x4 vz pg k n c ia xs hp hp2 h4⟩
  have hk2:k≤4096:=by omega
  have hm:pg*k≤16777216:=Nat.mul_le_mul hp2 hk2
  by_cases h5:pg*k<n
  · exact ⟨_,tbX_ok h7,_,X.x5 vz pg k n c ia xs hp hp2 hk hk2 hm h5⟩
  have hn:n≤pg*k:=by omega
  by_cases h6:vz<1
  · exact ⟨_,tbE_ok hia h7 hx hb hp hp2 hk hk2 hm hn,_,E.x6 vz pg k n c (sumN xs) ia xs hia hp hp2 hk hk2 hm hn hx hb (sumN_lt xs) rfl h6⟩
  obtain ⟨v,rfl⟩:=Int.eq_ofNat_of_zero_le (show 0≤vz by omega)
  by_cases h7':2147483647<v
  · exact ⟨_,tbE_ok hia h7 hx hb hp hp2 hk hk2 hm hn,_,E.x7 v pg k n c (sumN xs) ia xs hia hp hp2 hk hk2 hm hn hx hb (sumN_lt xs) rfl h7'⟩
  · exact ⟨_,tbD_ok hia h7 hx hb hp hp2 hk hk2 hm hn rfl (sumN_lt xs),law_good hia hp hp2 hk hk2 hn hm (by omega) (by omega) hx hb⟩
end Go.Proofs.YtejgabehfdapjaaGreat.Sym
namespace Go.Proofs.YtejgabehfdapjaaGreat
open Go.ChangeShapes Go.WideShapes Go.ChangeAt Go.RowKit Go.Conc Go.Den
open Go.Proofs.YtejgabehfdapjaaGreat.Sym
theorem roslot_any {w:World} {b s:Nat} {xs:List Nat} (hc:∃ cs t lo hi,w.heap[b]?=some (.cells cs t (lo,hi))) (h:∀ i x,xs[i]?=some x→x<256∧w.cell? ⟨b,s+i,none⟩=some (u8 x)∧w.frozen? ⟨b,s+i,none⟩=false) (φ:Phi) :
    Obj.roslot φ s (PT.ofList (xs.map u8) 0 .leaf) w.heap[b]?:=by
  by_cases hn:0<xs.length
  · exact roslot_bytes hn h φ
  · have e:xs=[]:=List.eq_nil_of_length_eq_zero (by omega)
    subst e
    obtain ⟨cs,t,lo,hi,e⟩:=hc
    refine ⟨cs,t,lo,hi,e,fun i v hv=>?_⟩
    rw [ofList_at] at hv
    simp at hv
theorem two {l:List Value} (h:(⟨l⟩:Array Value).size=2):∃ a b,l=[a,b]:=by
  have h':l.length=2:=h
  rcases l with _|⟨a,_|⟨b,_|⟨i,l⟩⟩⟩ <;> simp at h'
  exact ⟨a,b,rfl⟩
def MakesPost (W:World):Ending→World→Prop:=fun e w'=>∃ v,e=.returned v∧v=.bool true∧(∀ may,W.keptBut w' may)∧∀ q:MemPlace,q.block<W.heap.size→W.sameAt w' q
theorem makes_from {W:World} {φ:Phi} {pz kz vz:Int} {n c:Nat} {ia:Option Addr} {xs:List Nat} {s:Value} (h7:Den.Told Tryz.prog 7 mAwake) (hia:IA ia 0 n c) (hx:xs.length=n) (hb:∀ x ∈ xs,x<256) (hs:VR φ (.slice ia n c) s) (hr:Rel φ (hR (PT.ofList (xs.map u8) 0 .leaf)) W) :
    Calls Tryz.prog 3 #[.agg #[.int .i64 pz,.int .i64 kz],s,.int .i64 vz] W (MakesPost W):=by
  obtain ⟨tb,htb,H,hrun⟩:=law_true (pz:=pz) (kz:=kz) (vz:=vz) h7 hia hx hb
  have hg:=(denG_goes envT_ok (orcS_sound envT_ok htb BIG 10) hrun).2 φ W [.agg #[.int .i64 pz,.int .i64 kz],s,.int .i64 vz] (.cons _ _ _ _ (.agg _ _ (.cons _ _ _ _ (.int _ _) (.cons _ _ _ _ (.int _ _) .nil))) (.cons _ _ _ _ hs (.cons _ _ _ _ (.int _ _) .nil))) hr
  refine Calls.mono hg.calls fun e w' ⟨v,he,φ',h1,h2,h3⟩=>?_
  obtain ⟨k1,k2⟩:=h3.keptR (hR_wr (PT.ofList (xs.map u8) 0 .leaf))
  exact ⟨v,he,h1.bool_inv,k1,k2⟩
theorem relN {w:World}:Rel φ0 (hR (PT.ofList (([]:List Nat).map u8) 0 .leaf)) w:=
  ⟨fun b b' s T h=>(by cases h),fun b₁ b₂ b' s₁ s₂ h=>(by cases h),fun b b' s h=>(by cases h),fun b hb=>hR_get (by have:1≤b:=hb;omega),fun b g c h=>by
    by_cases e:b=0
    · subst e;cases h
    · rw [hR_get e] at h;cases h⟩
set_option maxRecDepth 100000 in
theorem makes_calls {H:Type} {enc:TypeId × Value→H} (h7:Den.Told Tryz.prog 7 mAwake) (W:World) (base:Nat) (v0 v1 v2:Value) (d1:DataW H) (p:List MemPlace) (hv0:Value.okWide Tryz.prog W .any base 23 v0) (hv1:Cell.okWide Tryz.prog W .any base 24 v1) (hv2:Cell.okWide Tryz.prog W .any base 3 v2) (ht:DataW.Trod enc Tryz.prog W 0 (fun _=>true) true 24 v1 d1 p) (hz:W.noneFrozen p) :
    Calls Tryz.prog 3 #[v0,v1,v2] W (MakesPost W):=by
  simp only [Value.okWide,Tryz.underlying23] at hv0
  obtain ⟨⟨l⟩,rfl,hsz,ts,hts,_,hrow⟩:=hv0
  have hct:Tryz.prog.cellTypes Tryz.prog.depth 23=some [3,3]:=by kernel_rfl
  have hcs:Tryz.prog.cellsOf 23=2:=by kernel_rfl
  rw [hct] at hts
  rw [hcs] at hsz
  cases hts
  obtain ⟨c0,c1,rfl⟩:=two hsz
  obtain ⟨_,hu0,k0⟩:=hrow 0 c0 rfl;cases hu0
  obtain ⟨_,hu1,k1⟩:=hrow 1 c1 rfl;cases hu1
  obtain ⟨pz,rfl⟩:=cell_int Tryz.underlying3 k0
  obtain ⟨kz,rfl⟩:=cell_int Tryz.underlying3 k1
  obtain ⟨vz,rfl⟩:=cell_int Tryz.underlying3 hv2
  rcases slice_bytes Tryz.underlying24 Tryz.underlying5 (by kernel_rfl) hv1 ht hz with rfl|⟨b,s,c,xs,rfl,hn,hb,_,hx⟩
  · exact makes_from (xs:=[]) h7 (.inr ⟨rfl,rfl,rfl⟩) rfl (fun x hx=>by simp at hx) .sliceNil relN
  · have hx256:∀ x ∈ xs,x<256:=fun x hm=>by
      obtain ⟨i,hi⟩:=List.getElem?_of_mem hm
      exact (hx i x hi).1
    exact makes_from h7 (.inl rfl) rfl hx256 (VR_R hn) (relR (c:=PT.ofList (xs.map u8) 0 .leaf) hb (roslot_any (cell_in Tryz.underlying24 hv1) hx))
set_option maxRecDepth 100000 in
theorem deviceMakes_lifted (h7:Den.Told Tryz.prog 7 mAwake) (os:Os) (started:os.Started) (H:Type) (enc:TypeId × Value→H) :
    ReturnsInHanded {} Tryz.checked os 3 .any (Rows.deviceMakesSpec.pre6 enc Tryz.prog Tryz.f3 Rows.deviceMakesRow.domain false) (Rows.deviceMakesSpec.post enc Tryz.prog Tryz.f3 false true false false):=by
  refine returnsInHanded_of_change (C:=Tryz.checked) Tryz.own started (by kernel_rfl) Tryz.func3
    (ChangeSpec.witness6 (enc:=enc) (C:=Tryz.checked) false ⟨#[],#[.agg #[.int .i64 0,.int .i64 0],.slice none 0 0,.int .i64 0],[]⟩ 8 (by kernel_rfl) (by kernel_rfl) (by kernel_rfl) (by kernel_rfl)) ?_
  intro W base args ds gs before hval0 hW _ _
  have hW':=hW
  obtain ⟨p,q,hA0,hV,rfl,hzz,_⟩:=hW
  have hA:DataW.TrodAll enc Tryz.prog W 0 (fun _=>true) true Tryz.f3.params.toList args.toList ds p:=hA0
  have hval:∀ (j:Nat) t v,Tryz.f3.params[j]?=some t→args[j]?=some v→Value.okWide Tryz.prog W .any base t v:=hval0
  rw [Tryz.params3] at hA hval
  obtain ⟨v0,v1,v2,d0,d1,d2,p0,p1,p2,rfl,rfl,rfl,h0',h1',h2'⟩:=trodAll_three hA
  obtain ⟨rfl,rfl⟩:=trodVars_none hV
  have k0:=hval 0 23 v0 rfl rfl
  have k1:=hval 1 24 v1 rfl rfl
  have k2:=hval 2 3 v2 rfl rfl
  simp only [Value.okWide,Tryz.underlying24] at k1
  simp only [Value.okWide,Tryz.underlying3] at k2
  simp only [List.append_nil] at hzz
  have hcalls:=makes_calls h7 W base v0 v1 v2 d1 p1 k0 k1 k2 h1' (fun bb oo hm=>hzz bb oo (by simp only [List.mem_append];first|exact .inr (.inl hm)|exact .inl (.inr hm)))
  clear hA0 hval0
  simp only [List.append_nil] at hW'
  refine hcalls.mono fun e w' ⟨v,he,hv,hkept,hsame⟩=>?_
  subst hv
  exact ⟨_,he,_,_,_,[],_,[],hW',trodAll_mk1 (shut_bool Tryz.underlying4 true),trodAll_mk3 (Go.WideElems.Trod_stays Tryz.laidOut (by kernel_rfl) (of_decide_eq_true (by kernel_rfl)) h0' (fun q hq=>hsame q (hW'.lt q (List.mem_append_left _ (List.mem_append_left _ hq)))) (fun q hq=>by simpa using hW'.lt q (List.mem_append_left _ (List.mem_append_left _ hq)))) (Go.WideElems.Trod_stays Tryz.laidOut (by kernel_rfl) (of_decide_eq_true (by kernel_rfl)) h1' (fun q hq=>hsame q (hW'.lt q (List.mem_append_left _ (List.mem_append_right _ hq)))) (fun q hq=>by simpa using hW'.lt q (List.mem_append_left _ (List.mem_append_right _ hq)))) (Go.WideElems.Trod_stays Tryz.laidOut (by kernel_rfl) (of_decide_eq_true (by kernel_rfl)) h2' (fun q hq=>hsame q (hW'.lt q (List.mem_append_right _ hq))) (fun q hq=>by simpa using hW'.lt q (List.mem_append_right _ hq))),rfl,hkept _,fun h=>by cases h⟩
theorem awake_told:Den.Told Tryz.prog 7 mAwake:=memo_ok (run_of_den envT_ok (tabS_sound envT_ok tel68_ok) r68)
theorem deviceMakes_holds:Rows.DeviceMakesSaid:=
  OpenClaim.holds_of_wide 3 Tryz.f3 rfl rfl rfl rfl rfl rfl rfl ⟨rfl,rfl,rfl,rfl,rfl⟩ rfl rfl rfl rfl rfl deviceMakes_fn Tryz.func3 deviceMakes_closed
    (of_decide_eq_true (by kernel_rfl)) (by unfold Func.isWrapper;first|(rw [if_pos (by decide +kernel)];kernel_rfl)|(rw [if_neg (by decide +kernel)];exact ⟨rfl,rfl⟩))
    (fun os started H enc _=>deviceMakes_lifted awake_told os started H enc)

#print axioms deviceMakes_holds
end Go.Proofs.YtejgabehfdapjaaGreat
