/- The abstract machine of this claim, part 16. -/
import Derived.Test.YtggemipepaajmaaGreatVal15
set_option linter.unusedSimpArgs false
set_option linter.unusedVariables false
set_option linter.unusedSectionVars false
set_option linter.unnecessarySimpa false
namespace Go.Proofs.Am12
open Go Go.Am
attribute [local simp] cw_skip cw_region cw_seq cw_cond cw_block cw_loop cw_exit cw_ret regionA runOps wantedA opEx xVal xPick xAlloc xBox xBuild xBuildSlice xLoad xStore xNil xBin xUn xConv xIface xFunc xMakeSlice xSlice xFieldAddr xField xIndexAddr xIndex xLookup xUpdate xExtract xBuiltin xPanic xCall
 ev evs ofVal ofCell OR.ofV OR.ofVH OR.ofC putD Tm.get Tm.init Tm.only beq_d ble_d blt_d finish resultA resA binA intBin strBin unA cells_int cells_bool cells_str cells_nilp cells_ro cells_hp cells_ep cells_nils cells_sl cells_hs cells_nilm cells_hm cells_fn cells_nilf cells_agg loopC loopsIn lenSl_nils lenSl_sl lenSl_hs lenSt_str faA_ro faA_hp faA_ep ld1_def ldN_def takeA rd_ro rd_hp rd_ep stA spliceAt zipFst fillC kdRead blkOf noCh okDraw_ld okDraw_l okPairsL loudS kdSh
set_option maxHeartbeats 1000000
attribute [local simp] okDraw_k okPairsM loudOf kdClash mods_at0 mods_at1 mods_at2 mods_at3 mods_at4 mods_at5 mods_at6 kd_move kd_assign kd_pick kd_build kd_nil kd_bin kd_un kd_iface kd_func kd_slice kd_fieldAddr kd_field kd_indexAddr kd_index kd_extract kd_load kd_lookup kd_len kd_max kd_min kd_append kd_callv kd_alloc kd_box kd_bs kd_map kd_ms kd_cv kd_store kd_mapUpdate kd_insert kdLen_nils kdLen_sl kdLen_hs kdLen_str
theorem SlR.snapIn {α:Type} {R:α→List AV→Prop} {sz:Nat} {l:List α} {v:AV} (hv:SlR R sz l v) (h:Heap):SnapIn 1 v h v h:=fun n=>by
 have hn:=hv.noRef
 rcases hv with ⟨_,rfl⟩ | ⟨ex,es,rfl,_⟩
 ·rfl
 ·simp [AV.noRef] at hn
  simp [Am.snap,hn]
theorem topC_sl {α:Type} {R:α→List AV→Prop} {sz:Nat} {l:List α} {v:AV} (hv:SlR R sz l v) (ids:List Nat):topC ids v=ids:=by
 rcases hv with ⟨_,rfl⟩ | ⟨_,_,rfl,_⟩ <;> rfl
theorem relocC_sl {α:Type} {R:α→List AV→Prop} {sz:Nat} {l:List α} {v:AV} (hv:SlR R sz l v) (b:Nat) (ids:List Nat):relocC b ids v=some v:=by
 have hn:=hv.noRef
 rcases hv with ⟨_,rfl⟩ | ⟨_,_,rfl,_⟩
 ·rfl
 ·simp only [relocC,hn]
theorem c15 {k:TaskV} {xs:List AV} (hx:TaskRep k xs) (hsk:SmT 1048577 k):∃ w pv es,SlR DataRep 3 k.data w∧SlR TyRep 4 k.ty.ps pv∧TyRep k.ty [.int .i64 k.ty.k,.int .i64 k.ty.v,.str k.ty.nm,pv]∧es.length=k.arms.length∧(∀ (i:Nat) p e,k.arms[i]? = some p→es[i]? = some e→TyRep p e) ∧
  ((k.arms=[]∧∀ h,doCall MX (callW MX) 15 [.agg xs] h=some (.ret (.agg [w,.int .i64 k.ty.k,.int .i64 k.ty.v,.str k.ty.nm,pv,.sl 4 true []]),h)) ∨
    (k.arms≠[]∧∀ h,doCall MX (callW MX) 15 [.agg xs] h=some (.ret (.agg [w,.int .i64 k.ty.k,.int .i64 k.ty.v,.str k.ty.nm,pv,.hs h.length k.arms.length 4 0 k.arms.length false]),h++[.arr 4 false es]))):=by
 obtain ⟨dv,pv,av,rfl,hd,hp,ht,ha⟩:=hx.dest
 obtain ⟨s1,s2,s3,s4⟩:=hsk
 obtain ⟨w,hw,h31⟩:=c31 hd s1
 have hn:([AV.agg [dv,.int .i64 k.ty.k,.int .i64 k.ty.v,.str k.ty.nm,pv,av]]:List AV).all AV.noRef=true:=by simp [AV.noRef,noRefs,hd.noRef,hp.noRef,ha.noRef]
 have hb:=bef_15_1
 simp [opsF,opsAt,Tryz.f15] at hb
 let B:=Blk.var false [dv,.int .i64 k.ty.k,.int .i64 k.ty.v,.str k.ty.nm,pv,av]
 let Z:=Blk.var false [AV.nils,.int .i64 0,.int .i64 0,.str [],.nils,.nils]
 obtain ⟨es,h1,h2,h3,h4⟩:=ha.rd [B,Z]
 have hnr:es.all noRefs=true:=reps_noRefs h3 h4 (fun a e h=>h.noRefs)
 have hs:=ha.nstr
 have hap:apA 4 56 (.sl 4 true []) av [B,Z]=apX 4 56 (.sl 4 true []) es 0 [B,Z]:=by
  unfold apA
  cases av with
  | str b=>exact absurd rfl (hs b)
  | _=>first | simp only [h2,h1,lenA,List.length_nil] | (simp only [rdElems] at h1;cases h1)
 refine ⟨w,pv,es,hw,hp,ht,h3,h4,?_⟩
 by_cases he:es=[]
 ·subst he
  have h0:k.arms=[]:=List.eq_nil_of_length_eq_zero h3.symm
  have hap2:apA 4 56 (.sl 4 true []) av [B,Z]=some (.sl 4 true [],[B,Z]):=by
   rw [hap];simp [apX,szOk,elemSz,beq_d,ble_d,blt_d]
  simp only [B,Z] at hap2
  refine .inl ⟨h0,fun h => ?_⟩
  have hcl:∀ H:Heap,closeRes true h (.agg [w,.int .i64 k.ty.k,.int .i64 k.ty.v,.str k.ty.nm,pv,.sl 4 true []]) H=some (.agg [w,.int .i64 k.ty.k,.int .i64 k.ty.v,.str k.ty.nm,pv,.sl 4 true []],h):=fun H=>by
   have ht:topV (.agg [w,.int .i64 k.ty.k,.int .i64 k.ty.v,.str k.ty.nm,pv,.sl 4 true []])=[]:=by
    show List.foldl topC [] _=[]
    simp only [List.foldl_cons,List.foldl_nil,topC_sl hw,topC_sl hp]
    rfl
   have hr:∀ n,relocV n [] (.agg [w,.int .i64 k.ty.k,.int .i64 k.ty.v,.str k.ty.nm,pv,.sl 4 true []])=some (.agg [w,.int .i64 k.ty.k,.int .i64 k.ty.v,.str k.ty.nm,pv,.sl 4 true []]):=fun n=>by
    have e0:∀ v,v.noRef=true→(∀ id off,v≠.hp id off)→relocC n [] v=relocC n [] v:=fun v _ _=>rfl
    show Option.map AV.agg (relocCs n [] _)=_
    simp only [relocCs,relocC_sl hw,relocC_sl hp]
    simp [relocC,AV.noRef]
   have hs2:Am.settle [] H=some H:=rfl
   have hk2:keptBlks H []=some []:=rfl
   simp only [closeRes,ht,hs2,hr,hk2]
   simp [Am.distinct]
  exact keepX mode_15 eff_15 hn (v:=.agg [w,.int .i64 k.ty.k,.int .i64 k.ty.v,.str k.ty.nm,pv,.sl 4 true []]) (by simp [runW,Tryz.f15,h31,hap2,hd.cells,hw.cells,bsA,fillE,List.replicate,noRefs,AV.noRef,hd.noRef,hb,mods_same,resA] <;> rfl) (hcl _)
 ·obtain ⟨a,r,hxr⟩:=List.exists_cons_of_ne_nil he
  have hne:k.arms≠[]:=fun e=>he (List.eq_nil_of_length_eq_zero (by rw [h3,e];rfl))
  have hap2:apA 4 56 (.sl 4 true []) av [B,Z]=some (.hs 2 k.arms.length 4 0 k.arms.length false,[B,Z,.arr 4 false es]):=by
   rw [hap,← h3]
   have hn:es.length<1048577:=by omega
   subst hxr
   have e2:(r.length+1) * 56≤17592186044416:=by simp at hn;omega
   have e3:r.length+1≤17592186044416:=by simp at hn;omega
   simp [apX,szOk,elemSz,newArr,beq_d,ble_d,blt_d,e2,e3]
  have m1:(0∈mods 0 [B,Z] [B,Z,.arr 4 false es])=False:=mods_ne0 (by simp) rfl
  simp only [B,Z] at hap2 m1
  refine .inr ⟨hne,fun h => ?_⟩
  let V:=AV.agg [w,.int .i64 k.ty.k,.int .i64 k.ty.v,.str k.ty.nm,pv,.hs 2 k.arms.length 4 0 k.arms.length false]
  have hcl:closeRes true h (.agg [w,.int .i64 k.ty.k,.int .i64 k.ty.v,.str k.ty.nm,pv,.hs 2 k.arms.length 4 0 k.arms.length false]) [Blk.var false [dv,.int .i64 k.ty.k,.int .i64 k.ty.v,.str k.ty.nm,pv,av],Blk.var false [w,.int .i64 k.ty.k,.int .i64 k.ty.v,.str k.ty.nm,pv,.hs 2 k.arms.length 4 0 k.arms.length false],.arr 4 false es]=some (.agg [w,.int .i64 k.ty.k,.int .i64 k.ty.v,.str k.ty.nm,pv,.hs h.length k.arms.length 4 0 k.arms.length false],h++[.arr 4 false es]):=by
   have ht:topV (.agg [w,.int .i64 k.ty.k,.int .i64 k.ty.v,.str k.ty.nm,pv,.hs 2 k.arms.length 4 0 k.arms.length false])=[2]:=by
    show List.foldl topC [] _=[2]
    simp only [List.foldl_cons,List.foldl_nil,topC_sl hw,topC_sl hp]
    rfl
   have hr:∀ n,relocV n [2] (.agg [w,.int .i64 k.ty.k,.int .i64 k.ty.v,.str k.ty.nm,pv,.hs 2 k.arms.length 4 0 k.arms.length false])=some (.agg [w,.int .i64 k.ty.k,.int .i64 k.ty.v,.str k.ty.nm,pv,.hs n k.arms.length 4 0 k.arms.length false]):=fun n=>by
    show Option.map AV.agg (relocCs n [2] _)=_
    simp only [relocCs,relocC_sl hw,relocC_sl hp]
    simp [relocC,AV.noRef,posOf,beq_d]
   have hset:∀ C D:Blk,Am.settle [2] [C,D,.arr 4 false es]=some [C,D,.arr 4 false es]:=fun C D=>by simp only [Am.settle,List.getElem?_cons_succ,List.getElem?_cons_zero,hnr]
   have hkb:∀ C D:Blk,keptBlks [C,D,.arr 4 false es] [2]=some [.arr 4 false es]:=fun C D=>by simp only [keptBlks,List.getElem?_cons_succ,List.getElem?_cons_zero,Blk.noRef,hnr]
   simp only [Am.closeRes,ht,hset,hr,hkb]
   simp [Am.distinct]
  exact keepX mode_15 eff_15 hn (by simp [runW,Tryz.f15,h31,hap2,m1,hd.cells,hw.cells,bsA,fillE,List.replicate,noRefs,AV.noRef,hd.noRef,hb,resA]) hcl
theorem rArms_all {s:Sh}:∀ (l:List TyV) (i:Nat),(rArms s i l).2=0→∀ p∈l,patErr s p=0
 | [],_,_=>fun p h=>by cases h
 | q::r,i,h=>by
  simp only [rArms] at h
  split at h
  ·rename_i h1
   intro p hp
   rcases List.mem_cons.1 hp with rfl | hp
   ·exact h1
   ·exact rArms_all r (i+1) h p hp
  ·rename_i h1;exact absurd h h1
theorem patErr_ok {s:Sh} {p:TyV} (h:patErr s p=0):isTree p=true∧pErr s p=0∧dups [] (namesOf p)=false:=by
 unfold patErr at h
 by_cases h1:isTree p=false
 ·rw [if_pos h1] at h;cases h
 ·rw [if_neg h1] at h
  by_cases h2:pErr s p=0
  ·rw [if_pos h2] at h
   cases h3:dups [] (namesOf p) with
   | true=>rw [h3] at h;cases h
   | false=>exact ⟨by simpa using h1,h2,rfl⟩
  ·rw [if_neg h2] at h;exact absurd h h2
theorem patErr_mk {s:Sh} {p:TyV} (h1:isTree p=true) (h2:pErr s p=0) (h3:dups [] (namesOf p)=false):patErr s p=0:=by
 unfold patErr
 rw [if_neg (by rw [h1];simp),if_pos h2,h3]
 rfl
theorem arms_ok {l:List DataV} {t:TyV} {arms:List TyV} (h:(rCheckArms l t arms).2=0):rBoth l t=0∧0<arms.length∧arms.length≤12∧∀ p∈arms,patErr (shOf l t) p=0:=by
 unfold rCheckArms at h
 by_cases h1:rBoth l t=0
 ·rw [if_pos h1] at h
  by_cases h2:arms.length=0
  ·rw [if_pos h2] at h;cases h
  ·rw [if_neg h2] at h
   by_cases h3:12<arms.length
   ·rw [if_pos h3] at h;cases h
   ·rw [if_neg h3] at h
    exact ⟨h1,by omega,by omega,rArms_all arms 0 h⟩
 ·rw [if_neg h1] at h;exact absurd h h1
theorem arms_mk {l:List DataV} {t:TyV} {arms:List TyV} (h1:rBoth l t=0) (h2:0<arms.length) (h3:arms.length≤12) (h4:∀ p∈arms,patErr (shOf l t) p=0):(rCheckArms l t arms).2=0:=by
 unfold rCheckArms
 rw [if_pos h1,if_neg (by omega),if_neg (by omega)]
 have key:∀ (m:List TyV) (i:Nat),(∀ p∈m,patErr (shOf l t) p=0)→(rArms (shOf l t) i m).2=0:=by
  intro m
  induction m with
  | nil=>intro i _;rfl
  | cons p r ih=>
   intro i hm
   simp only [rArms]
   rw [if_pos (hm p (by simp))]
   exact ih _ (fun q hq=>hm q (by simp [hq]))
 exact key arms 0 h4
theorem valErr_ok {s:Sh} {u:TyV} (h:valErr s u=0):isTree u=true∧vErr s u=0:=by
 unfold valErr at h
 split at h
 ·rename_i h1;exact ⟨h1,h⟩
 ·cases h
theorem open_ok {k:TaskV} {u:TyV} (h:rOpen k u=0):rBoth k.data k.ty=0∧0<k.arms.length∧k.arms.length≤12∧(∀ p∈k.arms,patErr (shOf k.data k.ty) p=0)∧isTree u=true∧vErr (shOf k.data k.ty) u=0:=by
 unfold rOpen at h
 by_cases h1:(rCheckArms k.data k.ty k.arms).2=0
 ·rw [if_pos h1] at h
  obtain ⟨g1,g2,g3,g4⟩:=arms_ok h1
  unfold rValue at h
  rw [if_pos g1] at h
  obtain ⟨g5,g6⟩:=valErr_ok h
  exact ⟨g1,g2,g3,g4,g5,g6⟩
 ·rw [if_neg h1] at h;exact absurd h h1
section
variable {k:TaskV} {xs:List AV} (hx:TaskRep k xs) (hsk:SmT 1048577 k) {u:TyV} {ys:List AV} (hu:DvRep u ys) (hsu:Sm 1048577 u)
include hx hsk hu hsu
theorem c41 (h:Heap):doCall MX (callW MX) 41 [.agg xs,.agg ys] h=some (.ret (.tup [.bool (decide (rOpen k u=0)&&fitsV (k.arms.getD 0 default) u),.int .i64 (rOpen k u)]),h):=by
 have h93:=c93 hx hsk hu hsu
 have hu0:=hu
 obtain ⟨dv,pv,av,rfl,hd,hp,ht,ha⟩:=hx.dest
 obtain ⟨s1,s2,s3,s4⟩:=hsk
 have hn:([AV.agg [dv,.int .i64 k.ty.k,.int .i64 k.ty.v,.str k.ty.nm,pv,av],AV.agg ys]:List AV).all AV.noRef=true:=by simp [AV.noRef,noRefs,hd.noRef,hp.noRef,ha.noRef,hu.noRefs]
 have hb:=bef_41_4
 simp [opsF,opsAt,Tryz.f41] at hb
 by_cases hz:rOpen k u=0
 ·obtain ⟨g1,g2,g3,g4,g5,g6⟩:=open_ok hz
  obtain ⟨pe,hpe,hpR⟩:=ha.ix g2
  have hpe0:ixA 4 av (.int .i64 (0:Int))=some (.ro pe):=hpe .i64
  have hmem:=List.getElem_mem g2
  have h91:=c91 k.arms[0] u _ pe ys hpR hu (s4 _ hmem) (patErr_ok (g4 _ hmem)).2.1 g6
  have hg:k.arms.getD 0 default=k.arms[0]:=by simp [g2]
  have hzd:decide (rOpen k u=0)=true:=decide_eq_true hz
  rw [hg,hzd,Bool.true_and]
  rw [hz] at h93 ⊢
  obtain ⟨qv,rfl,hq⟩:=hu.dest'
  obtain ⟨q1,rfl,hq1⟩:=hpR.dest'
  exact pureX mode_41 eff_41 hn rfl (hr:=_) (by simp [runW,Tryz.f41,h93,hpe0,h91,hb,noRefs,AV.noRef,hq.noRef,hq1.noRef] <;> rfl) h
 ·have hzb:(rOpen k u != 0)=true:=by simp [hz]
  have hzd:decide (rOpen k u=0)=false:=decide_eq_false hz
  rw [hzd,Bool.false_and]
  obtain ⟨qv,rfl,hq⟩:=hu.dest'
  exact pureX mode_41 eff_41 hn rfl (hr:=_) (by simp [runW,Tryz.f41,h93,hzb] <;> rfl) h
theorem c42:∃ w,SlR BdRep 4 (if rOpen k u=0∧fitsV (k.arms.getD 0 default) u=true then bnd (k.arms.getD 0 default) u else []) w∧∀ h,doCall MX (callW MX) 42 [.agg xs,.agg ys] h=some (.ret (.tup [w,.int .i64 (if rOpen k u=0 then (if fitsV (k.arms.getD 0 default) u=true then 0 else 12) else rOpen k u)]),h):=by
 have h93:=c93 hx hsk hu hsu
 obtain ⟨dv,pv,av,rfl,hd,hp,ht,ha⟩:=hx.dest
 obtain ⟨s1,s2,s3,s4⟩:=hsk
 have hn:([AV.agg [dv,.int .i64 k.ty.k,.int .i64 k.ty.v,.str k.ty.nm,pv,av],AV.agg ys]:List AV).all AV.noRef=true:=by simp [AV.noRef,noRefs,hd.noRef,hp.noRef,ha.noRef,hu.noRefs]
 have hb:=bef_42_4
 simp [opsF,opsAt,Tryz.f42] at hb
 have hb6:=bef_42_6
 simp [opsF,opsAt,Tryz.f42] at hb6
 by_cases hz:rOpen k u=0
 ·obtain ⟨g1,g2,g3,g4,g5,g6⟩:=open_ok hz
  obtain ⟨pe,hpe,hpR⟩:=ha.ix g2
  have hpe0:ixA 4 av (.int .i64 (0:Int))=some (.ro pe):=hpe .i64
  have hmem:=List.getElem_mem g2
  obtain ⟨p1,p2,p3⟩:=patErr_ok (g4 _ hmem)
  have h91:=c91 k.arms[0] u _ pe ys hpR hu (s4 _ hmem) p2 g6
  have hg:k.arms.getD 0 default=k.arms[0]:=by simp [g2]
  rw [hg]
  have hnl:=isTree_names p1
  have h94:=fun (hf:fitsV k.arms[0] u=true)=>c94 k.arms[0] u _ pe ys hpR hu (s4 _ hmem) hsu p2 g6 hf (by omega)
  rw [hz] at h93 ⊢
  cases hf:fitsV k.arms[0] u with
  | true=>
   obtain ⟨w,hw,h94⟩:=h94 hf
   refine ⟨w,by simpa using hw,fun h => ?_⟩
   rw [hf] at h91
   obtain ⟨qv,rfl,hq⟩:=hu.dest'
   obtain ⟨q1,rfl,hq1⟩:=hpR.dest'
   exact pureX mode_42 eff_42 hn (by simp [AV.noRef,noRefs,hw.noRef]) (hr:=_) (by simp [runW,Tryz.f42,h93,hpe0,h91,h94,hb,hb6,noRefs,AV.noRef,hq.noRef,hq1.noRef] <;> rfl) h
  | false=>
   refine ⟨.nils,by simp;exact .inl ⟨rfl,rfl⟩,fun h => ?_⟩
   rw [hf] at h91
   obtain ⟨qv,rfl,hq⟩:=hu.dest'
   obtain ⟨q1,rfl,hq1⟩:=hpR.dest'
   exact pureX mode_42 eff_42 hn rfl (hr:=_) (by simp [runW,Tryz.f42,h93,hpe0,h91,hb,noRefs,AV.noRef,hq.noRef,hq1.noRef] <;> rfl) h
 ·have hzb:(rOpen k u != 0)=true:=by simp [hz]
  refine ⟨.nils,by simp only [hz,false_and,if_false];exact .inl ⟨rfl,rfl⟩,fun h => ?_⟩
  rw [if_neg hz]
  obtain ⟨qv,rfl,hq⟩:=hu.dest'
  exact pureX mode_42 eff_42 hn rfl (hr:=_) (by simp [runW,Tryz.f42,h93,hzb] <;> rfl) h
theorem c43 (h:Heap):doCall MX (callW MX) 43 [.agg xs,.agg ys] h=some (.ret (.tup [.int .i64 (if rOpen k u=0 then ixI (k.arms.findIdx? (fun p=>fitsV p u)) else 0),.int .i64 (rOpen k u)]),h):=by
 have h93:=c93 hx hsk hu hsu
 have hyn:=hu.noRefs
 obtain ⟨dv,pv,av,rfl,hd,hp,ht,ha⟩:=hx.dest
 obtain ⟨s1,s2,s3,s4⟩:=hsk
 have hn:([AV.agg [dv,.int .i64 k.ty.k,.int .i64 k.ty.v,.str k.ty.nm,pv,av],AV.agg ys]:List AV).all AV.noRef=true:=by simp [AV.noRef,noRefs,hd.noRef,hp.noRef,ha.noRef,hu.noRefs]
 by_cases hz:rOpen k u=0
 ·obtain ⟨g1,g2,g3,g4,g5,g6⟩:=open_ok hz
  have h62:=c62 ha s3 s4 hu (s:=shOf k.data k.ty) (fun p hp=>(patErr_ok (g4 p hp)).2.1) g6
  rw [if_pos hz]
  rw [hz] at h93 ⊢
  obtain ⟨qv,rfl,hq⟩:=hu.dest'
  exact pureX mode_43 eff_43 hn rfl (hr:=_) (by simp [runW,Tryz.f43,h93,h62] <;> rfl) h
 ·have hzb:(rOpen k u != 0)=true:=by simp [hz]
  rw [if_neg hz]
  obtain ⟨qv,rfl,hq⟩:=hu.dest'
  exact pureX mode_43 eff_43 hn rfl (hr:=_) (by simp [runW,Tryz.f43,h93,hzb] <;> rfl) h
end
theorem c44 {l:List DataV} {lv:AV} (hl:SlR DataRep 3 l lv) (hsl:SmL 1048577 l) {t:TyV} {xs:List AV} (hx:TyRep t xs) (hst:Sm 1048577 t) {u:TyV} {ys:List AV} (hu:DvRep u ys) (hsu:Sm 1048577 u):∃ zs,TyRep (if rValue l t u=0 then exactV u else .mk 0 0 [] []) zs∧∀ h,doCall MX (callW MX) 44 [lv,.agg xs,.agg ys] h=some (.ret (.tup [.agg zs,.int .i64 (rValue l t u)]),h):=by
 have h95:=c95 hl hsl hx hst hu hsu
 obtain ⟨es,hes,h96⟩:=c96 u ys hu hsu
 have hn:([lv,AV.agg xs,AV.agg ys]:List AV).all AV.noRef=true:=by simp [AV.noRef,hx.noRefs,hl.noRef,hu.noRefs]
 obtain ⟨pv,rfl,hp⟩:=hx.dest'
 obtain ⟨qv,rfl,hq⟩:=hu.dest'
 by_cases hz:rValue l t u=0
 ·rw [if_pos hz]
  refine ⟨es,hes,fun h => ?_⟩
  rw [hz] at h95 ⊢
  obtain ⟨q1,rfl,hq1⟩:=hes.dest'
  exact pureX mode_44 eff_44 hn (by simp [AV.noRef,noRefs,hq1.noRef]) (hr:=_) (by simp [runW,Tryz.f44,h95,h96,resA] <;> rfl) h
 ·have hzb:(rValue l t u != 0)=true:=by simp [hz]
  rw [if_neg hz]
  exact ⟨_,TyRep.intro (.inl ⟨rfl,rfl⟩),fun h=>pureX mode_44 eff_44 hn rfl (hr:=_) (by simp [runW,Tryz.f44,h95,hzb,resA] <;> rfl) h⟩
end Go.Proofs.Am12
namespace Go.Proofs.Am12
open Go Go.Am
theorem rCons_name {l:List DataV} {params:List Bytes}:∀ (r prev:List ConV),rCons l params prev r=0→∀ c∈r,isNameS c.nm=true
 | [],_,_=>fun f hf=>by cases hf
 | c::r,prev,h=>by
  simp only [rCons] at h
  split at h
  ·cases h
  ·rename_i h0
   split at h
   ·cases h
   ·split at h
    ·cases h
    ·split at h
     ·cases h
     ·split at h
      ·cases h
      ·split at h
       ·intro g hg
        rcases List.mem_cons.1 hg with rfl | hg
        ·simpa using h0
        ·exact rCons_name r _ h g hg
       ·rename_i h3;exact absurd h h3
theorem rData_name {l:List DataV} (h:(rCheckData l).2=0):∀ d∈l,∀ c∈d.cons,c.nm≠[]:=by
 intro d hd c hc e
 have h1:∃ pre,rDataErr d pre=0:=by
  unfold rCheckData at h
  split at h
  ·cases h
  ·obtain ⟨pre,post,e,he⟩:=rDatas_ok l [] h d hd
   exact ⟨pre,he⟩
 obtain ⟨pre,h1⟩:=h1
 have h2:rCons pre d.params [] d.cons=0:=by
  unfold rDataErr at h1
  repeat (split at h1;first | cases h1 | skip)
  ·exact h1
  ·rename_i h3;exact absurd h1 h3
 have:=rCons_name _ _ h2 c hc
 rw [e] at this
 simp [isNameS] at this
theorem consOf_name {l:List DataV} (h:(rCheckData l).2=0) (t:TyV):∀ c∈consOf l t,c.nm≠[]:=by
 intro c hc
 unfold consOf at hc
 split at hc
 ·simp only [List.mem_cons,List.not_mem_nil,or_false] at hc
  rcases hc with rfl | rfl <;> (show _≠([]:Bytes);decide)
 ·split at hc
  ·rename_i i hi
   obtain ⟨c0,hc0,rfl⟩:=List.mem_map.1 hc
   have hil:=fi_lt hi
   have hg:l.getD i default=l[i]:=by simp [hil]
   rw [hg] at hc0
   exact rData_name h _ (List.getElem_mem hil) c0 hc0
  ·cases hc
structure Put (b:Nat) (s:Sh) (u q:TyV):Prop where
 err:pErr s q=0
 cn:cnt q≤cnt u
 dd:dp q≤dp u
 sm:Sm b q
 fit:fitsV q u=true
 nms:namesOf q=[]
theorem fitsVs_mk:∀ {ps us:List TyV},ps.length=us.length→(∀ (i:Nat) p u,ps[i]? = some p→us[i]? = some u→fitsV p u=true)→fitsVs ps us=true
 | [],[],_,_=>rfl
 | p::r,u::us,h,g=>by
  simp only [fitsVs,List.headD_cons,List.tail_cons,Bool.and_eq_true]
  exact ⟨g 0 p u rfl rfl,fitsVs_mk (by simpa using h) fun i x y h1 h2=>g (i+1) x y (by simpa using h1) (by simpa using h2)⟩
 | [],u::us,h,_=>by simp at h
 | p::r,[],h,_=>by simp at h
theorem cnts_le:∀ {ps us:List TyV},ps.length=us.length→(∀ (i:Nat) p u,ps[i]? = some p→us[i]? = some u→cnt p≤cnt u)→cnts ps≤cnts us
 | [],[],_,_=>Nat.le_refl _
 | p::r,u::us,h,g=>by
  have h1:=g 0 p u rfl rfl
  have h2:=cnts_le (ps:=r) (us:=us) (by simpa using h) fun i x y h1 h2=>g (i+1) x y (by simpa using h1) (by simpa using h2)
  simp only [cnts]
  omega
 | [],u::us,h,_=>by simp at h
 | p::r,[],h,_=>by simp at h
theorem dps_leL:∀ {ps us:List TyV},ps.length=us.length→(∀ (i:Nat) p u,ps[i]? = some p→us[i]? = some u→dp p≤dp u)→dps ps≤dps us
 | [],[],_,_=>Nat.le_refl _
 | p::r,u::us,h,g=>by
  have h1:=g 0 p u rfl rfl
  have h2:=dps_leL (ps:=r) (us:=us) (by simpa using h) fun i x y h1 h2=>g (i+1) x y (by simpa using h1) (by simpa using h2)
  simp only [dps]
  omega
 | [],u::us,h,_=>by simp at h
 | p::r,[],h,_=>by simp at h
theorem namesOfs_nil:∀ {ps:List TyV},(∀ p∈ps,namesOf p=[])→namesOfs ps=[]
 | [],_=>rfl
 | p::r,h=>by simp [namesOfs,h p (by simp),namesOfs_nil (ps:=r) fun q hq=>h q (by simp [hq])]
theorem Put.make {b:Nat} {ns:List Bytes} {ss:List (List Sh)} {i:Nat} {nm:Bytes} {v:Int} {u:TyV} {qs:List TyV} (hi:ns.findIdx? (fun x=>x == nm)=some i) (hu:u.nm=nm) (hlen:qs.length=u.ps.length) (hlen2:qs.length=(ss.getD i []).length) (hnb:nm.length<b) (hqb:qs.length<b)
  (h:∀ (j:Nat) x w q,(ss.getD i [])[j]? = some x→u.ps[j]? = some w→qs[j]? = some q→Put b x w q):Put b (.cons ns ss) u (.mk 2 v nm qs):=by
 have hall:∀ (j:Nat) q,qs[j]? = some q→∃ x w,u.ps[j]? = some w∧Put b x w q:=fun j q hq=>by
  have hj:=(List.getElem?_eq_some_iff.1 hq).1
  exact ⟨_,_,List.getElem?_eq_getElem (by omega),h j _ _ q (List.getElem?_eq_getElem (by omega)) (List.getElem?_eq_getElem (by omega)) hq⟩
 have hg:∀ (j:Nat) q w,qs[j]? = some q→u.ps[j]? = some w→∃ x,Put b x w q:=fun j q w hq hw=>by
  obtain ⟨x,w',hw',hp⟩:=hall j q hq
  rw [hw] at hw'
  cases hw'
  exact ⟨x,hp⟩
 have hm:∀ q∈qs,∃ x w,Put b x w q:=fun q hq=>by
  obtain ⟨j,hj⟩:=List.mem_iff_getElem?.1 hq
  obtain ⟨x,w,_,hp⟩:=hall j q hj
  exact ⟨x,w,hp⟩
 cases u with
 | mk uk uv un us=>
  have hu:un=nm:=hu
  subst hu
  have hlen:qs.length=us.length:=hlen
  constructor
  ·simp only [pErr,hi]
   rw [if_neg (by decide),if_neg (by decide),if_neg (by decide),if_pos trivial,if_neg (by simpa using hlen2)]
   exact (pErrs_zero hlen2).2 fun j x q hx hq=>by
    have hj:=(List.getElem?_eq_some_iff.1 hq).1
    exact (h j x _ q hx (List.getElem?_eq_getElem (by show j<us.length;omega)) hq).err
  ·simp only [cnt]
   have:=cnts_le hlen fun j q w hq hw=>by obtain ⟨x,hp⟩:=hg j q w hq hw;exact hp.cn
   omega
  ·simp only [dp]
   have:=dps_leL hlen fun j q w hq hw=>by obtain ⟨x,hp⟩:=hg j q w hq hw;exact hp.dd
   omega
  ·exact .mk _ _ _ _ hnb hqb fun q hq=>by obtain ⟨x,w,hp⟩:=hm q hq;exact hp.sm
  ·simp only [fitsV,TyV.nm,TyV.ps]
   rw [if_neg (by decide),if_pos trivial]
   simp only [beq_self_eq_true,Bool.true_and,Bool.and_eq_true]
   exact ⟨decide_eq_true hlen.symm,fitsVs_mk hlen fun j q w hq hw=>by obtain ⟨x,hp⟩:=hg j q w hq hw;exact hp.fit⟩
  ·simp only [namesOf]
   rw [if_neg (by decide)]
   exact namesOfs_nil fun q hq=>by obtain ⟨x,w,hp⟩:=hm q hq;exact hp.nms
theorem IsSh.part {l:List DataV} {t:TyV} {ns:List Bytes} {ss:List (List Sh)} (h:IsSh l t (.cons ns ss)) {i j:Nat} {x:Sh} (hx:(ss.getD i [])[j]? = some x):∃ t',IsSh l t' x:=by
 cases h with
 | cons _ _ _ hb hk hn hl hs hf=>
  by_cases hi:i<ss.length
  ·have hgi:ss.getD i []=ss[i]:=by simp [hi]
   rw [hgi] at hx
   have hc:=List.getElem?_eq_getElem (l:=consOf l t) (i:=i) (by omega)
   have hlen:=hs i _ _ hc (List.getElem?_eq_getElem hi)
   have hj:=(List.getElem?_eq_some_iff.1 hx).1
   exact ⟨_,hf i _ _ j _ x hc (List.getElem?_eq_getElem hi) (List.getElem?_eq_getElem (by omega)) hx⟩
  ·have:ss.getD i []=[]:=by simp [Nat.le_of_not_lt hi]
   rw [this] at hx
   simp at hx
theorem IsSh.name {l:List DataV} {t:TyV} {ns:List Bytes} {ss:List (List Sh)} (h:IsSh l t (.cons ns ss)) (hd:(rCheckData l).2=0) {nm:Bytes} {i:Nat} (hi:ns.findIdx? (fun x=>x == nm)=some i):nm≠[]:=by
 cases h with
 | cons _ _ _ hb hk hn hl hs hf=>
  obtain ⟨h1,h2,_⟩:=List.findIdx?_eq_some_iff_getElem.1 hi
  have h3:ns[i]=nm:=beq_iff_eq.1 h2
  rw [← h3]
  have hmem:ns[i]∈(consOf l t).map (·.nm):=hn ▸ List.getElem_mem h1
  obtain ⟨c,hc,e⟩:=List.mem_map.1 hmem
  rw [← e]
  exact consOf_name hd t c hc
theorem exactV_put {l:List DataV} (hd:(rCheckData l).2=0) {b:Nat} (hb:0<b) (u:TyV):∀ (s:Sh) (t:TyV),IsSh l t s→vErr s u=0→Sm b u→Put b s u (exactV u):=by
 induction u using TyV.ind with
 | h k v nm ps ih=>
  intro s t hs hv hsm
  obtain ⟨s1,s2,s3⟩:=hsm.dest
  cases s with
  | bit n=>
   obtain ⟨rfl,rfl,h1,h2⟩:=vErr_bit hv
   have e:exactV (.mk k v [] [])=.mk 3 v [] []:=by simp [exactV]
   rw [e]
   refine ⟨?_,by simp [cnt,cnts],by simp [dp,dps],.mk _ _ _ _ (by simpa using hb) (by simpa using hb) (fun p hp=>by cases hp),by simp [fitsV,TyV.nm,TyV.v],by simp [namesOf,namesOfs]⟩
   simp only [pErr]
   rw [if_neg (by decide),if_neg (by decide),if_pos trivial,if_neg (by simp),if_pos ⟨h1,h2⟩]
  | cons ns ss=>
   obtain ⟨i,h1,h2,h3,h4⟩:=vErr_cons hv
   have hne:=hs.name hd h1
   have e:exactV (.mk k v nm ps)=.mk 2 0 nm (ps.map exactV):=by
    rw [← exactVs_map]
    simp [exactV,hne]
   rw [e]
   have hz:=(vErrs_zero h3).1 h4
   refine Put.make h1 rfl (by simp [TyV.ps]) (by simpa using h3) s1 (by simpa using s2) fun j x w q hx hw hq => ?_
   have hw:ps[j]? = some w:=hw
   rw [List.getElem?_map,hw] at hq
   cases hq
   obtain ⟨t',ht'⟩:=hs.part hx
   have hmem:=List.mem_of_getElem? hw
   exact ih w hmem x t' ht' (hz j x w hx hw) (s3 w hmem)
theorem bnds_mem:∀ {ps us:List TyV} {j:Nat} {p w:TyV},ps[j]? = some p→us[j]? = some w→∀ b∈bnd p w,b∈bnds ps us
 | [],_,_,_,_,h,_=>by simp at h
 | p::r,[],_,_,_,_,h=>by simp at h
 | p::r,u::us,0,_,_,h,g=>by
  simp at h g
  subst h;subst g
  intro b hb
  simp only [bnds,List.headD_cons,List.mem_append]
  exact .inl hb
 | p::r,u::us,j+1,_,_,h,g=>by
  intro b hb
  simp only [bnds,List.tail_cons,List.mem_append]
  exact .inr (bnds_mem (j:=j) (by simpa using h) (by simpa using g) b hb)
def look (l:List (Bytes×TyV)) (n:Bytes):TyV:=(l.getD ((l.findIdx? (fun b=>b.1 == n)).getD 0) default).2
theorem repB_put {l:List DataV} (hd:(rCheckData l).2=0) {b:Nat} (hb:0<b) {m:List (Bytes×TyV)} (p:TyV):∀ (u:TyV) (s:Sh) (t:TyV),IsSh l t s→pErr s p=0→vErr s u=0→fitsV p u=true→(∀ x∈bnd p u,look m x.1=x.2)→Sm b p→Sm b u→Put b s u (repB m p):=by
 induction p using TyV.ind with
 | h k v nm ps ih=>
  intro u s t hs hp hu hf hlk hsp hsu
  obtain ⟨s1,s2,s3⟩:=hsp.dest
  rcases pErr_ok hp with ⟨rfl,rfl⟩ | ⟨rfl,rfl⟩ | ⟨rfl,rfl,n,rfl⟩ | ⟨rfl,ns,ss,i,rfl,h1,h2,h3⟩
  ·have e:repB m (.mk 0 v nm [])=.mk 0 v nm []:=by simp [repB,repBs]
   rw [e]
   have:=cnt_pos u
   have:=dp_pos u
   exact ⟨hp,by simpa [cnt,cnts] using cnt_pos u,by simpa [dp,dps] using dp_pos u,hsp,hf,by simp [namesOf,namesOfs]⟩
  ·have e:repB m (.mk 1 v nm [])=exactV u:=by
    have:=hlk (nm,u) (by simp [bnd])
    simp only [look] at this
    simp only [repB,if_true,this]
   rw [e]
   exact exactV_put hd hb u s t hs hu hsu
  ·have e:repB m (.mk 3 v nm [])=.mk 3 v nm []:=by simp [repB,repBs]
   rw [e]
   exact ⟨hp,by simpa [cnt,cnts] using cnt_pos u,by simpa [dp,dps] using dp_pos u,hsp,hf,by simp [namesOf,namesOfs]⟩
  ·have e:repB m (.mk 2 v nm ps)=.mk 2 v nm (ps.map (repB m)):=by
    rw [← repBs_map]
    simp [repB]
   rw [e]
   cases u with
   | mk uk uv un us=>
    simp only [fitsV,TyV.nm,TyV.ps] at hf
    rw [if_neg (by decide),if_pos trivial] at hf
    simp only [Bool.and_eq_true] at hf
    obtain ⟨f1,f2,f3⟩:=hf
    have f2:=of_decide_eq_true f2
    have f1:un=nm:=beq_iff_eq.1 f1
    subst f1
    obtain ⟨i',g1,g2,g3,g4⟩:=vErr_cons hu
    rw [h1] at g1
    cases g1
    have hz:=(vErrs_zero g3).1 g4
    have hpz:=(pErrs_zero h2).1 h3
    refine Put.make h1 rfl (by simp [TyV.ps,f2]) (by simpa using h2) s1 (by simpa using s2) fun j x w q hx hw hq => ?_
    have hw:us[j]? = some w:=hw
    have hj:=(List.getElem?_eq_some_iff.1 hx).1
    have hpj:=List.getElem?_eq_getElem (l:=ps) (i:=j) (by omega)
    rw [List.getElem?_map,hpj] at hq
    cases hq
    obtain ⟨t',ht'⟩:=hs.part hx
    have hmem:=List.mem_of_getElem? hpj
    obtain ⟨_,_,u3⟩:=hsu.dest
    refine ih _ hmem w x t' ht' (hpz j x _ hx hpj) (hz j x w hx hw) (fitsVs_all f2.symm f3 j _ _ hpj hw) (fun y hy=>hlk y ?_) (s3 _ hmem) (u3 w (List.mem_of_getElem? hw))
    simp only [bnd,TyV.ps]
    rw [if_neg (by decide)]
    exact bnds_mem hpj hw y hy
mutual
theorem bnd_names:∀ (p u:TyV),(bnd p u).map (·.1)=namesOf p
 | .mk k v nm ps,u=>by
  simp only [bnd,namesOf]
  split
  ·rfl
  ·exact bnds_names ps u.ps
theorem bnds_names:∀ (ps us:List TyV),(bnds ps us).map (·.1)=namesOfs ps
 | [],_=>rfl
 | p::r,us=>by
  simp only [bnds,namesOfs,List.map_append,bnd_names p,bnds_names r]
end
theorem look_of {m:List (Bytes×TyV)} (hn:(m.map (·.1)).Nodup):∀ x∈m,look m x.1=x.2:=by
 intro x hx
 obtain ⟨i,hi,rfl⟩:=List.getElem_of_mem hx
 have hf:m.findIdx? (fun b=>b.1 == m[i].1)=some i:=by
  rw [List.findIdx?_eq_some_iff_getElem]
  refine ⟨hi,by simp,fun j hj => ?_⟩
  simp only [Bool.not_eq_true,beq_eq_false_iff_ne]
  intro e
  have:=(List.pairwise_iff_getElem.1 hn) j i (by simp;omega) (by simpa using hi) hj
  simp only [List.getElem_map] at this
  exact this e
 simp [look,hf,hi]
theorem find_of {m:List (Bytes×TyV)} {n:Bytes} (h:n∈m.map (·.1)):(m.findIdx? (fun b=>b.1 == n)).isSome=true:=by
 rw [List.findIdx?_isSome,List.any_eq_true]
 obtain ⟨x,hx,e⟩:=List.mem_map.1 h
 exact ⟨x,hx,by simpa using e⟩
theorem bnd_sm {b:Nat} {s:Sh} (p:TyV):∀ u s,pErr s p=0→vErr s u=0→fitsV p u=true→Sm b u→∀ x∈bnd p u,Sm b x.2:=by
 induction p using TyV.ind with
 | h k v nm ps ih=>
  intro u s hp hu hf hsu x hx
  by_cases hk:k=1
  ·simp only [bnd,if_pos hk,List.mem_singleton] at hx
   subst hx
   exact hsu
  ·obtain ⟨xs,h1,h2,h3,h4⟩:=fits_make hp hu hf hk
   simp only [bnd,if_neg hk] at hx
   rcases h1 with rfl | ⟨h1,h1'⟩
   ·simp [bnds] at hx
   ·have key:∀ (qs us:List TyV),qs.length=us.length→(∀ x∈bnds qs us,∃ (j:Nat) (q w:TyV),qs[j]? = some q∧us[j]? = some w∧x∈bnd q w):=by
     intro qs
     induction qs with
     | nil=>intro us _ x hx;simp [bnds] at hx
     | cons q r ihr=>
      intro us hl x hx
      cases us with
      | nil=>simp at hl
      | cons w us=>
       simp only [bnds,List.headD_cons,List.tail_cons,List.mem_append] at hx
       rcases hx with hx | hx
       ·exact ⟨0,q,w,rfl,rfl,hx⟩
       ·obtain ⟨j,q',w',a1,a2,a3⟩:=ihr us (by simpa using hl) x hx
        exact ⟨j+1,q',w',by simpa using a1,by simpa using a2,a3⟩
    obtain ⟨j,q,w,a1,a2,a3⟩:=key ps u.ps h1 x hx
    have hj:=(List.getElem?_eq_some_iff.1 a1).1
    have hxs:=List.getElem?_eq_getElem (l:=xs) (i:=j) (by omega)
    have hsw:Sm b w:=by
     cases u with
     | mk _ _ _ us=>exact hsu.dest.2.2 w (List.mem_of_getElem? a2)
    exact ih q (List.mem_of_getElem? a1) w _ (h2 j _ q hxs a1) (h3 j _ w hxs a2) (h4 j q w a1 a2) hsw x a3
theorem put_back {k:TaskV} {u:TyV} (h:rOpen k u=0) {p:TyV} {rest:List TyV} (ha:k.arms=p::rest) (hf:fitsV p u=true) (hst:Sm 1048577 p) (hsu:Sm 1048577 u) :
  rOpen ⟨k.data,k.ty,repB (bnd p u) p::rest⟩ u=0∧fitsV (repB (bnd p u) p) u=true∧Sm 1048577 (repB (bnd p u) p)∧∀ n∈namesOf p,((bnd p u).findIdx? (fun b=>b.1 == n)).isSome=true:=by
 obtain ⟨g1,g2,g3,g4,g5,g6⟩:=open_ok h
 have hp:=g4 p (by rw [ha];simp)
 obtain ⟨p1,p2,p3⟩:=patErr_ok hp
 obtain ⟨z1,z2,z3⟩:=rBoth_sh g1
 have hnd:((bnd p u).map (·.1)).Nodup:=by
  rw [bnd_names]
  exact ((dups_iff _ _).1 p3).1
 have hput:=repB_put z1 (by decide:0<1048577) p u _ k.ty z3 p2 g6 hf (look_of hnd) hst hsu
 have htree:isTree (repB (bnd p u) p)=true:=by
  rw [isTree_cnt] at g5 ⊢
  have:=hput.cn
  have:=hput.dd
  omega
 refine ⟨?_,hput.fit,hput.sm,fun n hn=>find_of (by rw [bnd_names];exact hn)⟩
 unfold rOpen
 have hc:(rCheckArms k.data k.ty (repB (bnd p u) p::rest)).2=0:=by
  refine arms_mk g1 (by simp) (by rw [ha] at g3;simpa using g3) fun q hq => ?_
  rcases List.mem_cons.1 hq with rfl | hq
  ·exact patErr_mk htree hput.err (by rw [hput.nms];rfl)
  ·exact g4 q (by rw [ha];simp [hq])
 simp only [hc,if_true]
 unfold rOpen at h
 by_cases h1:(rCheckArms k.data k.ty k.arms).2=0
 ·rw [if_pos h1] at h;exact h
 ·rw [if_neg h1] at h;exact absurd h h1
end Go.Proofs.Am12
namespace Go.Proofs.Am12
open Go Go.Am Go.Proofs.YtggemipepaajmaaGreat
theorem und34:und MX.ty 34=some (.struct #[{ name := "Name",type:=9,offset:=0,embedded:=false,tag := "",pkgPath := "",byteOffset:=0 },{ name := "Number",type:=3,offset:=1,embedded:=false,tag := "",pkgPath := "",byteOffset:=16 },{ name := "Parts",type:=32,offset:=2,embedded:=false,tag := "",pkgPath := "",byteOffset:=24 }]):=by kernel_rfl
theorem undX32:und MX.ty 32=some (.slice 34):=by kernel_rfl
theorem siz34':siz MX.ty 34=3:=by kernel_rfl
theorem dv_shpP {H:Type} {t:TypeId} {d:DataW H} {xs:List AV} (h:Shp MX t d xs) {b:Nat} (hb:Rows.uptoBulk d<b) :
  (t=34→∃ tv,DvRep tv xs∧Sm b tv)∧(t=32→∃ l v,xs=[v]∧SlR DvRep 3 l v∧l.length<b∧∀ x∈l,Sm b x):=by
 induction h with
 | bool h b=>exact ⟨fun e=>(by subst e;rw [und34] at h;cases h),fun e=>(by subst e;rw [undX32] at h;cases h)⟩
 | int h n hw=>exact ⟨fun e=>(by subst e;rw [und34] at h;cases h),fun e=>(by subst e;rw [undX32] at h;cases h)⟩
 | str h bs=>exact ⟨fun e=>(by subst e;rw [und34] at h;cases h),fun e=>(by subst e;rw [undX32] at h;cases h)⟩
 | nil h=>exact ⟨fun e=>(by subst e;rw [und34] at h;cases h),fun e=>⟨[],.nils,rfl,.inl ⟨rfl,rfl⟩,by have:=one_le (DataW.nil:DataW H);simp;omega,fun x hx=>by cases hx⟩⟩
 | sl h ds sp es hl hs ih=>
  refine ⟨fun e=>(by subst e;rw [und34] at h;cases h),fun e => ?_⟩
  subst e
  rw [undX32] at h
  cases h
  rw [siz34']
  simp only [Rows.uptoBulk] at hb
  obtain ⟨l,h1,h2,h3⟩:=choose_list (R:=DvRep) (S:=Sm b) es (fun x hx=>by
   obtain ⟨i,hi⟩:=List.mem_iff_getElem?.1 hx
   have hlt:i<ds.length:=by rw [← hl];exact (List.getElem?_eq_some_iff.1 hi).1
   exact (ih i ds[i] x (List.getElem?_eq_getElem hlt) hi (by have:=part_le (List.getElem_mem hlt);omega)).1 rfl)
  have:=length_le ds
  exact ⟨l,_,rfl,.inr ⟨false,es,rfl,h1,h2⟩,by omega,h3⟩
 | struct h ds rows hl hf hs ih=>
  refine ⟨fun e => ?_,fun e=>(by subst e;rw [undX32] at h;cases h)⟩
  subst e
  rw [und34] at h
  cases h
  simp only [List.size_toArray,List.length_cons,List.length_nil] at hf
  match ds,rows,hf,hl with
  | [d0,d1,d2],[a0,a1,a2],_,_=>
   simp only [Rows.uptoBulk,Rows.uptoBulkAll] at hb
   obtain ⟨nm,rfl,hnm⟩:=shp_str (b:=b) (hs 0 _ d0 a0 rfl rfl rfl) (by omega)
   obtain ⟨v,rfl,_⟩:=shp_int (hs 1 _ d1 a1 rfl rfl rfl)
   obtain ⟨l,pv,rfl,hp,hlb,hS⟩:=(ih 2 _ d2 a2 rfl rfl rfl (by omega)).2 rfl
   exact ⟨.mk 0 v nm l,DvRep.intro hp,.mk 0 v nm l hnm hlb hS⟩
theorem dv_shp {H:Type} {b:Nat} (d:DataW H) (xs:List AV) (h:Shp MX 34 d xs) (hb:Rows.uptoBulk d<b):∃ tv,DvRep tv xs∧Sm b tv:=(dv_shpP h hb).1 rfl
end Go.Proofs.Am12
namespace Go.Proofs.Am12
open Go Go.Am
attribute [local simp] cw_skip cw_region cw_seq cw_cond cw_block cw_loop cw_exit cw_ret regionA runOps wantedA opEx xVal xPick xAlloc xBox xBuild xBuildSlice xLoad xStore xNil xBin xUn xConv xIface xFunc xMakeSlice xSlice xFieldAddr xField xIndexAddr xIndex xLookup xUpdate xExtract xBuiltin xPanic xCall
 ev evs ofVal ofCell OR.ofV OR.ofVH OR.ofC putD Tm.get Tm.init Tm.only beq_d ble_d blt_d finish resultA resA binA intBin strBin unA cells_int cells_bool cells_str cells_nilp cells_ro cells_hp cells_ep cells_nils cells_sl cells_hs cells_nilm cells_hm cells_fn cells_nilf cells_agg loopC loopsIn lenSl_nils lenSl_sl lenSl_hs lenSt_str faA_ro faA_hp faA_ep ld1_def ldN_def takeA rd_ro rd_hp rd_ep stA spliceAt zipFst fillC kdRead blkOf noCh okDraw_ld okDraw_l okPairsL loudS kdSh
set_option maxHeartbeats 1000000
attribute [local simp] okDraw_k okPairsM loudOf kdClash mods_at0 mods_at1 mods_at2 mods_at3 mods_at4 mods_at5 mods_at6 kd_move kd_assign kd_pick kd_build kd_nil kd_bin kd_un kd_iface kd_func kd_slice kd_fieldAddr kd_field kd_indexAddr kd_index kd_extract kd_load kd_lookup kd_len kd_max kd_min kd_append kd_callv kd_alloc kd_box kd_bs kd_map kd_ms kd_cv kd_store kd_mapUpdate kd_insert kdLen_nils kdLen_sl kdLen_hs kdLen_str
theorem taskSnap {l:List DataV} {w:AV} (hw:SlR DataRep 3 l w) {ps:List TyV} {pv:AV} (hp:SlR TyRep 4 ps pv) {es:List (List AV)} (hnr:es.all noRefs=true) {id:Nat} {lk:Bool} {H:Heap} (hH:H[id]? = some (.arr 4 lk es)) {kk vv:Int} {nm:Bytes} {ys:List AV} (hy:noRefs ys=true) :
  snapArgs [.agg [w,.int .i64 kk,.int .i64 vv,.str nm,pv,.hs id es.length 4 0 es.length false],.agg ys] H=some ([.agg [w,.int .i64 kk,.int .i64 vv,.str nm,pv,.sl 4 false es],.agg ys],H.set id (.arr 4 true es)):=by
 have h6:SnapIn 1 (.hs id es.length 4 0 es.length false) H (.sl 4 false es) (H.set id (.arr 4 true es)):=fun n=>by
  have hb:(Nat.beq es.length es.length&&Nat.beq 4 4&&Nat.ble (0+es.length) es.length&&es.all noRefs)=true:=by
   rw [hnr];simp [beq_d,ble_d]
  simp only [Am.snap,hH,hb]
  simp
 have hn:noRefs [w,.int .i64 kk,.int .i64 vv,.str nm,pv,.hs id es.length 4 0 es.length false]=false:=by simp [noRefs,AV.noRef,hw.noRef,hp.noRef]
 have hs:=(SnapIn.agg hn (SnapsIn.cons (SlR.snapIn hw H) (SnapsIn.cons (SnapIn.flat (c:=.int .i64 kk) rfl H) (SnapsIn.cons (SnapIn.flat (c:=.int .i64 vv) rfl H) (SnapsIn.cons (SnapIn.flat (c:=.str nm) rfl H) (SnapsIn.cons (SlR.snapIn hp H) (SnapsIn.cons h6 (SnapsIn.nil _)))))))).at (by decide)
 have hn':AV.noRef (.agg [w,.int .i64 kk,.int .i64 vv,.str nm,pv,.hs id es.length 4 0 es.length false])=false:=hn
 have hy':AV.noRef (.agg ys)=true:=hy
 simp only [snapArgs,hn',hs,hy']
noncomputable def code7:Code:=Tryz.f7.body.getD .skip
noncomputable def hd7 (n:Nat):Code:=sub code7 (List.replicate n 1++[0])
theorem prim7_10:MX.prim 10=some (memoT [([],.bool true)]):=rfl
theorem md0 {B C:Blk} {X Y:Heap}:(0∈mods 0 (B::C::X) (B::C::Y))=False:=mods_ne0 (by simp) rfl
theorem md1 {B C:Blk} {X Y:Heap}:(1∈mods 0 (B::C::X) (B::C::Y))=False:=mods_ne0 (by simp) rfl
section
variable {dv pv av qv:AV} {kk kv:Int} {knm:Bytes} {uv:Int} {unm:Bytes} {R:Heap}
theorem s7_0:codeW MX 7 234 (callW MX) (hd7 0) (Tm.init 0 [(AV.agg [dv,AV.int IntKind.i64 kk,AV.int IntKind.i64 kv,AV.str knm,pv,av]),(AV.agg [AV.str unm,AV.int IntKind.i64 uv,qv])],[])=some (.nrm,([(2,.hp 0 0),(3,.hp 1 0)],[(Blk.var false [dv,AV.int IntKind.i64 kk,AV.int IntKind.i64 kv,AV.str knm,pv,av]),(Blk.var false [AV.str unm,AV.int IntKind.i64 uv,qv])])):=by
 simp [Tryz.f7,hd7,code7,sub,List.replicate]
theorem s7_1 {H:Heap}:codeW MX 7 234 (callW MX) (hd7 1) ([(2,.hp 0 0),(3,.hp 1 0)],H)=some (.nrm,([(2,.hp 0 0),(3,.hp 1 0),(22,.bool false)],H)):=by
 simp [Tryz.f7,hd7,code7,sub,List.replicate,prim7_10,memoT,beqs]
theorem s7_2 {b:Bool} (h11:∀ h,doCall MX (callW MX) 11 [(AV.agg [dv,AV.int IntKind.i64 kk,AV.int IntKind.i64 kv,AV.str knm,pv,av])] h=some (.ret (.bool b),h)):codeW MX 7 234 (callW MX) (hd7 2) ([(2,.hp 0 0),(3,.hp 1 0),(22,.bool false)],(Blk.var false [dv,AV.int IntKind.i64 kk,AV.int IntKind.i64 kv,AV.str knm,pv,av])::R)=some (if b then (.nrm,([(2,.hp 0 0),(3,.hp 1 0),(25,.bool false)],(Blk.var false [dv,AV.int IntKind.i64 kk,AV.int IntKind.i64 kv,AV.str knm,pv,av])::R)) else (.ret,([(4,.bool true)],(Blk.var false [dv,AV.int IntKind.i64 kk,AV.int IntKind.i64 kv,AV.str knm,pv,av])::R))):=by
 cases b <;> simp [Tryz.f7,hd7,code7,sub,List.replicate,h11]
variable {O:List AV} {R' R2:Heap} {xr:List (Nat×AV)}
theorem s7_3 (hqn:qv.noRef=true) (h15:doCall MX (callW MX) 15 [(AV.agg [dv,AV.int IntKind.i64 kk,AV.int IntKind.i64 kv,AV.str knm,pv,av])] ((Blk.var false [dv,AV.int IntKind.i64 kk,AV.int IntKind.i64 kv,AV.str knm,pv,av])::(Blk.var false [AV.str unm,AV.int IntKind.i64 uv,qv])::R)=some (.ret (.agg O),(Blk.var false [dv,AV.int IntKind.i64 kk,AV.int IntKind.i64 kv,AV.str knm,pv,av])::(Blk.var false [AV.str unm,AV.int IntKind.i64 uv,qv])::R')) {b:Bool} {z:Int} (h41:doCall MX (callW MX) 41 [.agg O,(AV.agg [AV.str unm,AV.int IntKind.i64 uv,qv])] ((Blk.var false [dv,AV.int IntKind.i64 kk,AV.int IntKind.i64 kv,AV.str knm,pv,av])::(Blk.var false [AV.str unm,AV.int IntKind.i64 uv,qv])::R')=some (.ret (.tup [.bool b,.int .i64 z]),(Blk.var false [dv,AV.int IntKind.i64 kk,AV.int IntKind.i64 kv,AV.str knm,pv,av])::(Blk.var false [AV.str unm,AV.int IntKind.i64 uv,qv])::R2)) :
  codeW MX 7 234 (callW MX) (hd7 3) ([(2,.hp 0 0),(3,.hp 1 0),(25,.bool false)],(Blk.var false [dv,AV.int IntKind.i64 kk,AV.int IntKind.i64 kv,AV.str knm,pv,av])::(Blk.var false [AV.str unm,AV.int IntKind.i64 uv,qv])::R)=some (.nrm,([(2,.hp 0 0),(3,.hp 1 0),(5,.bool b),(6,.int .i64 z)],(Blk.var false [dv,AV.int IntKind.i64 kk,AV.int IntKind.i64 kv,AV.str knm,pv,av])::(Blk.var false [AV.str unm,AV.int IntKind.i64 uv,qv])::R2)):=by
 have hb:=bef_7_5
 simp [opsF,opsAt,Tryz.f7] at hb
 have m0:=fun X Y:Heap=>md0 (B:=(Blk.var false [dv,AV.int IntKind.i64 kk,AV.int IntKind.i64 kv,AV.str knm,pv,av])) (C:=(Blk.var false [AV.str unm,AV.int IntKind.i64 uv,qv])) (X:=X) (Y:=Y)
 have m1:=fun X Y:Heap=>md1 (B:=(Blk.var false [dv,AV.int IntKind.i64 kk,AV.int IntKind.i64 kv,AV.str knm,pv,av])) (C:=(Blk.var false [AV.str unm,AV.int IntKind.i64 uv,qv])) (X:=X) (Y:=Y)
 cases hO:noRefs O <;> simp [Tryz.f7,hd7,code7,sub,List.replicate,h15,h41,hb,AV.noRef,noRefs,hqn,hO,m0,m1]
theorem s7_4 (hqn:qv.noRef=true) (h15:doCall MX (callW MX) 15 [(AV.agg [dv,AV.int IntKind.i64 kk,AV.int IntKind.i64 kv,AV.str knm,pv,av])] ((Blk.var false [dv,AV.int IntKind.i64 kk,AV.int IntKind.i64 kv,AV.str knm,pv,av])::(Blk.var false [AV.str unm,AV.int IntKind.i64 uv,qv])::R)=some (.ret (.agg O),(Blk.var false [dv,AV.int IntKind.i64 kk,AV.int IntKind.i64 kv,AV.str knm,pv,av])::(Blk.var false [AV.str unm,AV.int IntKind.i64 uv,qv])::R')) {b:Bool} {z z2:Int} {w:AV} (h42:doCall MX (callW MX) 42 [.agg O,(AV.agg [AV.str unm,AV.int IntKind.i64 uv,qv])] ((Blk.var false [dv,AV.int IntKind.i64 kk,AV.int IntKind.i64 kv,AV.str knm,pv,av])::(Blk.var false [AV.str unm,AV.int IntKind.i64 uv,qv])::R')=some (.ret (.tup [w,.int .i64 z2]),(Blk.var false [dv,AV.int IntKind.i64 kk,AV.int IntKind.i64 kv,AV.str knm,pv,av])::(Blk.var false [AV.str unm,AV.int IntKind.i64 uv,qv])::R2)) :
  codeW MX 7 234 (callW MX) (hd7 4) ([(2,.hp 0 0),(3,.hp 1 0),(5,.bool b),(6,.int .i64 z)],(Blk.var false [dv,AV.int IntKind.i64 kk,AV.int IntKind.i64 kv,AV.str knm,pv,av])::(Blk.var false [AV.str unm,AV.int IntKind.i64 uv,qv])::R)=some (.nrm,([(2,.hp 0 0),(3,.hp 1 0),(5,.bool b),(6,.int .i64 z),(7,w),(8,.int .i64 z2)],(Blk.var false [dv,AV.int IntKind.i64 kk,AV.int IntKind.i64 kv,AV.str knm,pv,av])::(Blk.var false [AV.str unm,AV.int IntKind.i64 uv,qv])::R2)):=by
 have hb:=bef_7_6
 simp [opsF,opsAt,Tryz.f7] at hb
 have m0:=fun X Y:Heap=>md0 (B:=(Blk.var false [dv,AV.int IntKind.i64 kk,AV.int IntKind.i64 kv,AV.str knm,pv,av])) (C:=(Blk.var false [AV.str unm,AV.int IntKind.i64 uv,qv])) (X:=X) (Y:=Y)
 have m1:=fun X Y:Heap=>md1 (B:=(Blk.var false [dv,AV.int IntKind.i64 kk,AV.int IntKind.i64 kv,AV.str knm,pv,av])) (C:=(Blk.var false [AV.str unm,AV.int IntKind.i64 uv,qv])) (X:=X) (Y:=Y)
 cases hO:noRefs O <;> simp [Tryz.f7,hd7,code7,sub,List.replicate,h15,h42,hb,AV.noRef,noRefs,hqn,hO,m0,m1]
theorem s7_5 (hqn:qv.noRef=true) (h15:doCall MX (callW MX) 15 [(AV.agg [dv,AV.int IntKind.i64 kk,AV.int IntKind.i64 kv,AV.str knm,pv,av])] ((Blk.var false [dv,AV.int IntKind.i64 kk,AV.int IntKind.i64 kv,AV.str knm,pv,av])::(Blk.var false [AV.str unm,AV.int IntKind.i64 uv,qv])::R)=some (.ret (.agg O),(Blk.var false [dv,AV.int IntKind.i64 kk,AV.int IntKind.i64 kv,AV.str knm,pv,av])::(Blk.var false [AV.str unm,AV.int IntKind.i64 uv,qv])::R')) {b:Bool} {z z2 z3 z4:Int} {w:AV} (h43:doCall MX (callW MX) 43 [.agg O,(AV.agg [AV.str unm,AV.int IntKind.i64 uv,qv])] ((Blk.var false [dv,AV.int IntKind.i64 kk,AV.int IntKind.i64 kv,AV.str knm,pv,av])::(Blk.var false [AV.str unm,AV.int IntKind.i64 uv,qv])::R')=some (.ret (.tup [.int .i64 z3,.int .i64 z4]),(Blk.var false [dv,AV.int IntKind.i64 kk,AV.int IntKind.i64 kv,AV.str knm,pv,av])::(Blk.var false [AV.str unm,AV.int IntKind.i64 uv,qv])::R2)) :
  codeW MX 7 234 (callW MX) (hd7 5) ([(2,.hp 0 0),(3,.hp 1 0),(5,.bool b),(6,.int .i64 z),(7,w),(8,.int .i64 z2)],(Blk.var false [dv,AV.int IntKind.i64 kk,AV.int IntKind.i64 kv,AV.str knm,pv,av])::(Blk.var false [AV.str unm,AV.int IntKind.i64 uv,qv])::R)=some (.nrm,([(2,.hp 0 0),(3,.hp 1 0),(5,.bool b),(6,.int .i64 z),(7,w),(8,.int .i64 z2),(9,.int .i64 z3),(10,.int .i64 z4)],(Blk.var false [dv,AV.int IntKind.i64 kk,AV.int IntKind.i64 kv,AV.str knm,pv,av])::(Blk.var false [AV.str unm,AV.int IntKind.i64 uv,qv])::R2)):=by
 have hb:=bef_7_7
 simp [opsF,opsAt,Tryz.f7] at hb
 have m0:=fun X Y:Heap=>md0 (B:=(Blk.var false [dv,AV.int IntKind.i64 kk,AV.int IntKind.i64 kv,AV.str knm,pv,av])) (C:=(Blk.var false [AV.str unm,AV.int IntKind.i64 uv,qv])) (X:=X) (Y:=Y)
 have m1:=fun X Y:Heap=>md1 (B:=(Blk.var false [dv,AV.int IntKind.i64 kk,AV.int IntKind.i64 kv,AV.str knm,pv,av])) (C:=(Blk.var false [AV.str unm,AV.int IntKind.i64 uv,qv])) (X:=X) (Y:=Y)
 cases hO:noRefs O <;> simp [Tryz.f7,hd7,code7,sub,List.replicate,h15,h43,hb,AV.noRef,noRefs,hqn,hO,m0,m1]
variable {b:Bool} {z z2 z3 z4 z5:Int} {w dw:AV} {zs:List AV}
theorem s7_6 (hdc:dv.cells=some [dv]) (hdn:dv.noRef=true) (hpn:pv.noRef=true) (hdwc:dw.cells=some [dw]) (hdwn:dw.noRef=true) (hqn:qv.noRef=true) (h31:∀ h,doCall MX (callW MX) 31 [dv] h=some (.ret dw,h)) {zk zv:Int} {znm:Bytes} {zp:AV} (hzp:zp.cells=some [zp]) (hzn:zp.noRef=true) (h44:∀ h,doCall MX (callW MX) 44 [dw,.agg [.int .i64 kk,.int .i64 kv,.str knm,pv],(AV.agg [AV.str unm,AV.int IntKind.i64 uv,qv])] h=some (.ret (.tup [.agg [.int .i64 zk,.int .i64 zv,.str znm,zp],.int .i64 z5]),h)) :
  codeW MX 7 234 (callW MX) (hd7 6) ([(2,.hp 0 0),(3,.hp 1 0),(5,.bool b),(6,.int .i64 z),(7,w),(8,.int .i64 z2),(9,.int .i64 z3),(10,.int .i64 z4)],(Blk.var false [dv,AV.int IntKind.i64 kk,AV.int IntKind.i64 kv,AV.str knm,pv,av])::(Blk.var false [AV.str unm,AV.int IntKind.i64 uv,qv])::R)=some (.nrm,([(2,.hp 0 0),(3,.hp 1 0),(5,.bool b),(6,.int .i64 z),(7,w),(8,.int .i64 z2),(9,.int .i64 z3),(10,.int .i64 z4),(11,.hp (R.length+2) 0),(12,.int .i64 z5)],(Blk.var false [dv,AV.int IntKind.i64 kk,AV.int IntKind.i64 kv,AV.str knm,pv,av])::(Blk.var false [AV.str unm,AV.int IntKind.i64 uv,qv])::(R++[.var false [.int .i64 zk,.int .i64 zv,.str znm,zp]]))):=by
 have hb:=bef_7_8
 simp [opsF,opsAt,Tryz.f7] at hb
 simp [Tryz.f7,hd7,code7,sub,List.replicate,h31,h44,hb,AV.noRef,noRefs,hdc,hdn,hpn,hdwc,hdwn,hqn,hzp,hzn,bsA,fillE]
end
section
variable {dv pv av qv:AV} {kk kv:Int} {knm:Bytes} {uv:Int} {unm:Bytes} {X:Heap}
variable {b:Bool} {z z2 z3 z4 z5 e e2:Int} {w r:AV} {junk:List (Nat×AV)}
theorem s7_7 (hdc:dv.cells=some [dv]) (hpn:pv.noRef=true) (h34:∀ h,doCall MX (callW MX) 34 [dv,(AV.agg [AV.int IntKind.i64 kk,AV.int IntKind.i64 kv,AV.str knm,pv])] h=some (.ret (.int .i64 e),h)) :
  codeW MX 7 234 (callW MX) (hd7 7) ([(2,.hp 0 0),(3,.hp 1 0),(5,.bool b),(6,.int .i64 z),(7,w),(8,.int .i64 z2),(9,.int .i64 z3),(10,.int .i64 z4),(11,r),(12,.int .i64 z5)],(Blk.var false [dv,AV.int IntKind.i64 kk,AV.int IntKind.i64 kv,AV.str knm,pv,av])::(Blk.var false [AV.str unm,AV.int IntKind.i64 uv,qv])::X)=some (.nrm,([(2,.hp 0 0),(3,.hp 1 0),(5,.bool b),(6,.int .i64 z),(7,w),(8,.int .i64 z2),(9,.int .i64 z3),(10,.int .i64 z4),(11,r),(12,.int .i64 z5),(13,.int .i64 e)],(Blk.var false [dv,AV.int IntKind.i64 kk,AV.int IntKind.i64 kv,AV.str knm,pv,av])::(Blk.var false [AV.str unm,AV.int IntKind.i64 uv,qv])::X)):=by
 simp [Tryz.f7,hd7,code7,sub,List.replicate,h34,AV.noRef,noRefs,hdc,hpn]
theorem s7_8 (hdc:dv.cells=some [dv]) (hpn:pv.noRef=true) (h22:e=0→∀ h,doCall MX (callW MX) 22 [dv,(AV.agg [AV.int IntKind.i64 kk,AV.int IntKind.i64 kv,AV.str knm,pv]),(AV.agg [AV.str unm,AV.int IntKind.i64 uv,qv])] h=some (.ret (.int .i64 e2),h)) :
  ∃ junk,codeW MX 7 234 (callW MX) (hd7 8) ([(2,.hp 0 0),(3,.hp 1 0),(5,.bool b),(6,.int .i64 z),(7,w),(8,.int .i64 z2),(9,.int .i64 z3),(10,.int .i64 z4),(11,r),(12,.int .i64 z5),(13,.int .i64 e)],(Blk.var false [dv,AV.int IntKind.i64 kk,AV.int IntKind.i64 kv,AV.str knm,pv,av])::(Blk.var false [AV.str unm,AV.int IntKind.i64 uv,qv])::X)=some (.nrm,((2,.hp 0 0)::(3,.hp 1 0)::(5,.bool b)::(6,.int .i64 z)::(7,w)::(8,.int .i64 z2)::(9,.int .i64 z3)::(10,.int .i64 z4)::(11,r)::(12,.int .i64 z5)::(13,.int .i64 (if e=0 then e2 else e))::junk,(Blk.var false [dv,AV.int IntKind.i64 kk,AV.int IntKind.i64 kv,AV.str knm,pv,av])::(Blk.var false [AV.str unm,AV.int IntKind.i64 uv,qv])::X)):=by
 by_cases he:e=0
 ·have h22:=h22 he
  subst he
  exact ⟨[],by simp [Tryz.f7,hd7,code7,sub,List.replicate,h22,AV.noRef,noRefs,hdc,hpn]⟩
 ·have heb2:(e == 0)=false:=by simp [he]
  exact ⟨[(63,.bool false)],by simp [Tryz.f7,hd7,code7,sub,List.replicate,he,heb2]⟩
theorem s7_9a {zs:List AV} {R:Heap} {zk zv:Int} {znm:Bytes} {zp:AV} (hzn:zp.noRef=true) (he:e≠0) (h45:∀ h,doCall MX (callW MX) 45 [.agg [.int .i64 zk,.int .i64 zv,.str znm,zp],.agg [.int .i64 0,.int .i64 0,.str [],.nils]] h=some (.ret (.bool true),h)) :
  codeW MX 7 234 (callW MX) (hd7 9) ((2,.hp 0 0)::(3,.hp 1 0)::(5,.bool b)::(6,.int .i64 z)::(7,w)::(8,.int .i64 z2)::(9,.int .i64 z3)::(10,.int .i64 z4)::(11,.hp (R.length+2) 0)::(12,.int .i64 e)::(13,.int .i64 e)::junk,(Blk.var false [dv,AV.int IntKind.i64 kk,AV.int IntKind.i64 kv,AV.str knm,pv,av])::(Blk.var false [AV.str unm,AV.int IntKind.i64 uv,qv])::(R++[.var false [.int .i64 zk,.int .i64 zv,.str znm,zp]]))=some (.nrm,([(2,.hp 0 0),(3,.hp 1 0),(5,.bool b),(6,.int .i64 z),(7,w),(8,.int .i64 z2),(9,.int .i64 z3),(10,.int .i64 z4),(13,.int .i64 e),(97,.bool false)],(Blk.var false [dv,AV.int IntKind.i64 kk,AV.int IntKind.i64 kv,AV.str knm,pv,av])::(Blk.var false [AV.str unm,AV.int IntKind.i64 uv,qv])::(R++[.var false [.int .i64 zk,.int .i64 zv,.str znm,zp]]))):=by
 have hb:=bef_7_12
 simp [opsF,opsAt,Tryz.f7] at hb
 have heb:(e != 0)=true:=by simp [he]
 have heb2:(e == 0)=false:=by simp [he]
 simp [Tryz.f7,hd7,code7,sub,List.replicate,h45,heb,heb2,he,hb,AV.noRef,noRefs,hzn]
theorem s7_9b {zs:List AV} {R:Heap} {zk zv:Int} {znm:Bytes} {zp:AV} (hzn:zp.noRef=true) (hqn:qv.noRef=true) {es:List AV} (hes:noRefs es=true) (h46:∀ h,doCall MX (callW MX) 46 [(AV.agg [AV.str unm,AV.int IntKind.i64 uv,qv])] h=some (.ret (.agg es),h)) (h45:∀ h,doCall MX (callW MX) 45 [.agg [.int .i64 zk,.int .i64 zv,.str znm,zp],.agg es] h=some (.ret (.bool true),h)) :
  codeW MX 7 234 (callW MX) (hd7 9) ((2,.hp 0 0)::(3,.hp 1 0)::(5,.bool b)::(6,.int .i64 z)::(7,w)::(8,.int .i64 z2)::(9,.int .i64 z3)::(10,.int .i64 z4)::(11,.hp (R.length+2) 0)::(12,.int .i64 0)::(13,.int .i64 0)::junk,(Blk.var false [dv,AV.int IntKind.i64 kk,AV.int IntKind.i64 kv,AV.str knm,pv,av])::(Blk.var false [AV.str unm,AV.int IntKind.i64 uv,qv])::(R++[.var false [.int .i64 zk,.int .i64 zv,.str znm,zp]]))=some (.nrm,([(2,.hp 0 0),(3,.hp 1 0),(5,.bool b),(6,.int .i64 z),(7,w),(8,.int .i64 z2),(9,.int .i64 z3),(10,.int .i64 z4),(13,.int .i64 0),(97,.bool false)],(Blk.var false [dv,AV.int IntKind.i64 kk,AV.int IntKind.i64 kv,AV.str knm,pv,av])::(Blk.var false [AV.str unm,AV.int IntKind.i64 uv,qv])::(R++[.var false [.int .i64 zk,.int .i64 zv,.str znm,zp]]))):=by
 have hb:=bef_7_12
 simp [opsF,opsAt,Tryz.f7] at hb
 simp [Tryz.f7,hd7,code7,sub,List.replicate,h45,h46,hb,AV.noRef,noRefs,hzn,hqn,hes]
theorem s7_10 {c:Int} (h12:∀ h,doCall MX (callW MX) 12 [(AV.agg [dv,AV.int IntKind.i64 kk,AV.int IntKind.i64 kv,AV.str knm,pv,av])] h=some (.ret (.int .i64 c),h)) :
  ∃ junk,codeW MX 7 234 (callW MX) (hd7 10) ([(2,.hp 0 0),(3,.hp 1 0),(5,.bool b),(6,.int .i64 z),(7,w),(8,.int .i64 z2),(9,.int .i64 z3),(10,.int .i64 z4),(13,.int .i64 e),(97,.bool false)],(Blk.var false [dv,AV.int IntKind.i64 kk,AV.int IntKind.i64 kv,AV.str knm,pv,av])::(Blk.var false [AV.str unm,AV.int IntKind.i64 uv,qv])::X)=some (.nrm,((2,.hp 0 0)::(3,.hp 1 0)::(5,.bool b)::(6,.int .i64 z)::(7,w)::(8,.int .i64 z2)::(9,.int .i64 z3)::(10,.int .i64 z4)::(13,.int .i64 (if c=0 then e else c))::junk,(Blk.var false [dv,AV.int IntKind.i64 kk,AV.int IntKind.i64 kv,AV.str knm,pv,av])::(Blk.var false [AV.str unm,AV.int IntKind.i64 uv,qv])::X)):=by
 by_cases hc:c=0
 ·subst hc
  exact ⟨[(14,.int .i64 0),(101,.bool false)],by simp [Tryz.f7,hd7,code7,sub,List.replicate,h12]⟩
 ·have hcb:(c != 0)=true:=by simp [hc]
  exact ⟨[],by simp [Tryz.f7,hd7,code7,sub,List.replicate,h12,hc,hcb]⟩
theorem s7_11a {R:(Bytes×TyV)→List AV→Prop} (hw:SlR R 4 [] w) (he:e≠0) {H:Heap}:codeW MX 7 234 (callW MX) (hd7 11) ((2,.hp 0 0)::(3,.hp 1 0)::(5,.bool false)::(6,.int .i64 e)::(7,w)::(8,.int .i64 e)::(9,.int .i64 0)::(10,.int .i64 e)::(13,.int .i64 e)::junk,H)=some (.ret,([(4,.bool true)],H)):=by
 have heb:(e != 0)=true:=by simp [he]
 have hl:∀ h,lenSl w h=some (.val (.int .i64 0) h):=fun h=>by simpa using hw.len h
 simp [Tryz.f7,hd7,code7,sub,List.replicate,heb,hl]
theorem s7_11b {H:Heap}:codeW MX 7 234 (callW MX) (hd7 11) ((2,.hp 0 0)::(3,.hp 1 0)::(5,.bool b)::(6,.int .i64 z)::(7,w)::(8,.int .i64 z2)::(9,.int .i64 z3)::(10,.int .i64 z4)::(13,.int .i64 0)::junk,H)=some (.nrm,([(2,.hp 0 0),(3,.hp 1 0),(5,.bool b),(6,.int .i64 z),(7,w),(8,.int .i64 z2),(9,.int .i64 z3),(10,.int .i64 z4),(13,.int .i64 0),(104,.bool false)],H)):=by
 simp [Tryz.f7,hd7,code7,sub,List.replicate]
variable {pk pv2:Int} {pnm:Bytes} {pp:AV} {f:Bool}
theorem s7_12 (hix:ixA 4 av (.int .i64 0)=some (.ro [AV.int IntKind.i64 pk,AV.int IntKind.i64 pv2,AV.str pnm,pp])) (hpn:pp.noRef=true) (hqn:qv.noRef=true) (h39:∀ h,doCall MX (callW MX) 39 [.agg [AV.int IntKind.i64 pk,AV.int IntKind.i64 pv2,AV.str pnm,pp],(AV.agg [AV.str unm,AV.int IntKind.i64 uv,qv])] h=some (.ret (.bool f),h)) :
  codeW MX 7 234 (callW MX) (hd7 12) ([(2,.hp 0 0),(3,.hp 1 0),(5,.bool b),(6,.int .i64 z),(7,w),(8,.int .i64 z2),(9,.int .i64 z3),(10,.int .i64 z4),(13,.int .i64 0),(104,.bool false)],(Blk.var false [dv,AV.int IntKind.i64 kk,AV.int IntKind.i64 kv,AV.str knm,pv,av])::(Blk.var false [AV.str unm,AV.int IntKind.i64 uv,qv])::X)=some (.nrm,([(2,.hp 0 0),(3,.hp 1 0),(5,.bool b),(6,.int .i64 z),(7,w),(8,.int .i64 z2),(9,.int .i64 z3),(10,.int .i64 z4),(15,.bool f)],(Blk.var false [dv,AV.int IntKind.i64 kk,AV.int IntKind.i64 kv,AV.str knm,pv,av])::(Blk.var false [AV.str unm,AV.int IntKind.i64 uv,qv])::X)):=by
 have hb:=bef_7_19
 simp [opsF,opsAt,Tryz.f7] at hb
 simp [Tryz.f7,hd7,code7,sub,List.replicate,hix,h39,hb,AV.noRef,noRefs,hpn,hqn]
theorem s7_13 (hac:av.noRef=true) (hqn:qv.noRef=true) (h23:∀ h,doCall MX (callW MX) 23 [av,(AV.agg [AV.str unm,AV.int IntKind.i64 uv,qv])] h=some (.ret (.int .i64 z3),h)) :
  codeW MX 7 234 (callW MX) (hd7 13) ([(2,.hp 0 0),(3,.hp 1 0),(5,.bool f),(6,.int .i64 0),(7,w),(8,.int .i64 z2),(9,.int .i64 z3),(10,.int .i64 0),(15,.bool f)],(Blk.var false [dv,AV.int IntKind.i64 kk,AV.int IntKind.i64 kv,AV.str knm,pv,av])::(Blk.var false [AV.str unm,AV.int IntKind.i64 uv,qv])::X)=some (.nrm,([(2,.hp 0 0),(3,.hp 1 0),(7,w),(8,.int .i64 z2),(15,.bool f),(155,.bool false)],(Blk.var false [dv,AV.int IntKind.i64 kk,AV.int IntKind.i64 kv,AV.str knm,pv,av])::(Blk.var false [AV.str unm,AV.int IntKind.i64 uv,qv])::X)):=by
 have hbb:∀ x y:Bool,eqA (und MX.ty 4) (.bool x) (.bool y)=some (x == y):=fun x y=>by rfl
 cases f <;> simp [Tryz.f7,hd7,code7,sub,List.replicate,hbb,h23,AV.noRef,noRefs,hac,hqn]
theorem s7_14a {R:(Bytes×TyV)→List AV→Prop} (hw:SlR R 4 [] w) {H:Heap}:codeW MX 7 234 (callW MX) (hd7 14) ([(2,.hp 0 0),(3,.hp 1 0),(7,w),(8,.int .i64 12),(15,.bool false),(155,.bool false)],H)=some (.ret,([(4,.bool true)],H)):=by
 have hl:∀ h,lenSl w h=some (.val (.int .i64 0) h):=fun h=>by simpa using hw.len h
 simp [Tryz.f7,hd7,code7,sub,List.replicate,hl,hw.kdLen]
theorem s7_14b {H:Heap}:codeW MX 7 234 (callW MX) (hd7 14) ([(2,.hp 0 0),(3,.hp 1 0),(7,w),(8,.int .i64 z2),(15,.bool true),(155,.bool false)],H)=some (.nrm,([(2,.hp 0 0),(3,.hp 1 0),(7,w),(8,.int .i64 z2),(157,.bool false)],H)):=by
 simp [Tryz.f7,hd7,code7,sub,List.replicate]
variable {w2:AV}
theorem s7_15 (hix:ixA 4 av (.int .i64 0)=some (.ro [AV.int IntKind.i64 pk,AV.int IntKind.i64 pv2,AV.str pnm,pp])) (hpn:pp.noRef=true) (hqn:qv.noRef=true) (h47:∀ h,doCall MX (callW MX) 47 [.agg [AV.int IntKind.i64 pk,AV.int IntKind.i64 pv2,AV.str pnm,pp],(AV.agg [AV.str unm,AV.int IntKind.i64 uv,qv])] h=some (.ret w2,h)) :
  codeW MX 7 234 (callW MX) (hd7 15) ([(2,.hp 0 0),(3,.hp 1 0),(7,w),(8,.int .i64 z2),(157,.bool false)],(Blk.var false [dv,AV.int IntKind.i64 kk,AV.int IntKind.i64 kv,AV.str knm,pv,av])::(Blk.var false [AV.str unm,AV.int IntKind.i64 uv,qv])::X)=some (.nrm,([(2,.hp 0 0),(3,.hp 1 0),(7,w),(8,.int .i64 z2),(16,w2)],(Blk.var false [dv,AV.int IntKind.i64 kk,AV.int IntKind.i64 kv,AV.str knm,pv,av])::(Blk.var false [AV.str unm,AV.int IntKind.i64 uv,qv])::X)):=by
 have hb:=bef_7_24
 simp [opsF,opsAt,Tryz.f7] at hb
 simp [Tryz.f7,hd7,code7,sub,List.replicate,hix,h47,hb,AV.noRef,noRefs,hpn,hqn]
theorem s7_16 {l:List (Bytes×TyV)} {R:(Bytes×TyV)→List AV→Prop} (hw:SlR R 4 l w) (hw2:SlR R 4 l w2) {H:Heap}:codeW MX 7 234 (callW MX) (hd7 16) ([(2,.hp 0 0),(3,.hp 1 0),(7,w),(8,.int .i64 0),(16,w2)],H)=some (.nrm,([(2,.hp 0 0),(3,.hp 1 0),(7,w),(16,w2),(179,.bool false)],H)):=by
 simp [Tryz.f7,hd7,code7,sub,List.replicate,hw.len,hw2.len,hw.kdLen,hw2.kdLen]
end
theorem ga7 {R T:Heap} {A:Blk}:(R++A::T)[R.length]? = some A:=by simp
theorem gb7 {R T:Heap} {A B:Blk}:(R++A::B::T)[R.length+1]? = some B:=by
 rw [List.getElem?_append_right (by omega)]
 simp
theorem sa7 {R T:Heap} {A A':Blk}:(R++A::T).set R.length A'=R++A'::T:=by simp
section
variable {dv pv av qv:AV} {kk kv:Int} {knm:Bytes} {uv:Int} {unm:Bytes} {X:Heap}
variable {w w2:AV}
theorem s7_17 {l:List (Bytes×TyV)} (hw:SlR BdRep 4 l w) (hw2:SlR BdRep 4 l w2) (hl:l.length<1048577) (hsm:∀ x∈l,Sm 1048577 x.2) {H:Heap} :
  codeW MX 7 234 (callW MX) (hd7 17) ([(2,.hp 0 0),(3,.hp 1 0),(7,w),(16,w2),(179,.bool false)],H)=some (.nrm,([(2,.hp 0 0),(3,.hp 1 0),(7,w),(16,w2),(17,.int .i64 l.length),(183,.bool false)],H)):=by
 have hb:=bef_7_30
 simp [opsF,opsAt,Tryz.f7] at hb
 obtain ⟨e,st,hlp,hq⟩:=loop_up (M:=MX) (fid:=7) (N:=234) (C:=callW MX) (c:=loopC Tryz.f7 0) (n:=l.length) (fun i (_:Unit)=>([(2,.hp 0 0),(3,.hp 1 0),(7,w),(16,w2),(17,.int .i64 i)],H))
  (fun i _=>True)
  (fun r=>r=(.ext 0,([(2,.hp 0 0),(3,.hp 1 0),(7,w),(16,w2),(17,.int .i64 l.length),(183,.bool false)],H))) (fun i b hi hI=>by
    obtain ⟨x,hx,y,rfl,hyR⟩:=hw.ix hi
    obtain ⟨x2,hx2,y2,rfl,hyR2⟩:=hw2.ix hi
    have hi':=lt_cast hi
    have hwr:=wr_next hi hl
    have h18:=fun h=>c18 l[i].2 l[i].2 y y2 hyR hyR2 (hsm _ (List.getElem_mem hi)) h
    rw [same_rfl] at h18
    obtain ⟨q1,rfl,hq1⟩:=hyR.dest'
    obtain ⟨q2,rfl,hq2⟩:=hyR2.dest'
    exact .inl ⟨(),by simp [Tryz.f7,hw.len,hw2.len,hw.kdLen,hw2.kdLen,hi',hx,hx2,h18,hwr,hb,noRefs,AV.noRef,hq1.noRef,hq2.noRef],trivial⟩) (fun b hI=>by
    exact ⟨_,_,by simp [Tryz.f7,hw.len,hw.kdLen] <;> rfl,by simp,rfl⟩) () trivial
 cases hq
 simp [Tryz.f7] at hlp
 simp [Tryz.f7,hd7,code7,sub,List.replicate,hlp]
variable {R:Heap} {w0 pv':AV} {es:List (List AV)} {n:Nat} {m:Int}
theorem s7_18 (h15:doCall MX (callW MX) 15 [(AV.agg [dv,AV.int IntKind.i64 kk,AV.int IntKind.i64 kv,AV.str knm,pv,av])] ((Blk.var false [dv,AV.int IntKind.i64 kk,AV.int IntKind.i64 kv,AV.str knm,pv,av])::(Blk.var false [AV.str unm,AV.int IntKind.i64 uv,qv])::R)=some (.ret (.agg [w0,.int .i64 kk,.int .i64 kv,.str knm,pv',.hs (R.length+2) n 4 0 n false]),(Blk.var false [dv,AV.int IntKind.i64 kk,AV.int IntKind.i64 kv,AV.str knm,pv,av])::(Blk.var false [AV.str unm,AV.int IntKind.i64 uv,qv])::(R++[.arr 4 false es]))) :
  codeW MX 7 234 (callW MX) (hd7 18) ([(2,.hp 0 0),(3,.hp 1 0),(7,w),(16,w2),(17,.int .i64 m),(183,.bool false)],(Blk.var false [dv,AV.int IntKind.i64 kk,AV.int IntKind.i64 kv,AV.str knm,pv,av])::(Blk.var false [AV.str unm,AV.int IntKind.i64 uv,qv])::R)=some (.nrm,([(2,.hp 0 0),(3,.hp 1 0),(7,w),(18,.hp (R.length+3) 0)],(Blk.var false [dv,AV.int IntKind.i64 kk,AV.int IntKind.i64 kv,AV.str knm,pv,av])::(Blk.var false [AV.str unm,AV.int IntKind.i64 uv,qv])::(R++[.arr 4 false es,.var false [w0,.int .i64 kk,.int .i64 kv,.str knm,pv',.hs (R.length+2) n 4 0 n false]]))):=by
 simp [Tryz.f7,hd7,code7,sub,List.replicate,h15,bsA,fillE]
variable {pk pv2 ek ev2:Int} {pnm enm:Bytes} {pp ep:AV} {qk qv2:Int} {qnm:Bytes} {qp:AV}
theorem s7_19 (hix:ixA 4 av (.int .i64 0)=some (.ro [AV.int IntKind.i64 pk,AV.int IntKind.i64 pv2,AV.str pnm,pp])) (hpn:pp.noRef=true) (hwn:w.noRef=true) (hn:0<n) (hes:es.length=n) (he0:es[0]? = some [AV.int IntKind.i64 ek,AV.int IntKind.i64 ev2,AV.str enm,ep]) (h48:∀ h,doCall MX (callW MX) 48 [.agg [AV.int IntKind.i64 pk,AV.int IntKind.i64 pv2,AV.str pnm,pp],w] h=some (.ret (.agg [AV.int IntKind.i64 qk,AV.int IntKind.i64 qv2,AV.str qnm,qp]),h)) (hqp:qp.noRef=true) :
  codeW MX 7 234 (callW MX) (hd7 19) ([(2,.hp 0 0),(3,.hp 1 0),(7,w),(18,.hp (R.length+3) 0)],(Blk.var false [dv,AV.int IntKind.i64 kk,AV.int IntKind.i64 kv,AV.str knm,pv,av])::(Blk.var false [AV.str unm,AV.int IntKind.i64 uv,qv])::(R++[.arr 4 false es,.var false [w0,.int .i64 kk,.int .i64 kv,.str knm,pv',.hs (R.length+2) n 4 0 n false]]))=some (.nrm,([(3,.hp 1 0),(18,.hp (R.length+3) 0)],(Blk.var false [dv,AV.int IntKind.i64 kk,AV.int IntKind.i64 kv,AV.str knm,pv,av])::(Blk.var false [AV.str unm,AV.int IntKind.i64 uv,qv])::(R++[.arr 4 false ([AV.int IntKind.i64 qk,AV.int IntKind.i64 qv2,AV.str qnm,qp]::es.tail),.var false [w0,.int .i64 kk,.int .i64 kv,.str knm,pv',.hs (R.length+2) n 4 0 n false]]))):=by
 have hb:=bef_7_33
 simp [opsF,opsAt,Tryz.f7] at hb
 have hix2:ixA 4 (.hs (R.length+2) n 4 0 n false) (.int .i64 ((0:Nat):Int))=some (.ep (R.length+2) n 4 0 0):=by
  rw [ixA_hs (kd:=.i64) (hi:=hn),Nat.zero_add]
 have hix3:ixA 4 (.hs (R.length+2) n 4 0 n false) (.int .i64 (0:Int))=some (.ep (R.length+2) n 4 0 0):=hix2
 cases es with
 | nil=>simp at he0
 | cons e0 er=>
  simp at he0
  subst he0
  simp at hes
  have hst:stA 4 ((Blk.var false [dv,AV.int IntKind.i64 kk,AV.int IntKind.i64 kv,AV.str knm,pv,av])::(Blk.var false [AV.str unm,AV.int IntKind.i64 uv,qv])::(R++[.arr 4 false ([AV.int IntKind.i64 ek,AV.int IntKind.i64 ev2,AV.str enm,ep]::er),.var false [w0,.int .i64 kk,.int .i64 kv,.str knm,pv',.hs (R.length+2) n 4 0 n false]])) (.ep (R.length+2) n 4 0 0) (.agg [AV.int IntKind.i64 qk,AV.int IntKind.i64 qv2,AV.str qnm,qp])=some ((Blk.var false [dv,AV.int IntKind.i64 kk,AV.int IntKind.i64 kv,AV.str knm,pv,av])::(Blk.var false [AV.str unm,AV.int IntKind.i64 uv,qv])::(R++[.arr 4 false ([AV.int IntKind.i64 qk,AV.int IntKind.i64 qv2,AV.str qnm,qp]::er),.var false [w0,.int .i64 kk,.int .i64 kv,.str knm,pv',.hs (R.length+2) n 4 0 n false]])):=by
   have hg:((Blk.var false [dv,AV.int IntKind.i64 kk,AV.int IntKind.i64 kv,AV.str knm,pv,av])::(Blk.var false [AV.str unm,AV.int IntKind.i64 uv,qv])::(R++[.arr 4 false ([AV.int IntKind.i64 ek,AV.int IntKind.i64 ev2,AV.str enm,ep]::er),.var false [w0,.int .i64 kk,.int .i64 kv,.str knm,pv',.hs (R.length+2) n 4 0 n false]]))[R.length+2]? = some (.arr 4 false ([AV.int IntKind.i64 ek,AV.int IntKind.i64 ev2,AV.str enm,ep]::er)):=by simp
   subst hes
   simp only [stA,hg]
   simp [spliceAt,beq_d,ble_d,sa7,AV.cells]
  simp [-stA,Tryz.f7,hd7,code7,sub,List.replicate,h48,hb,hix,hix3,hst,hes,ga7,gb7,sa7,AV.noRef,noRefs,hpn,hwn,hqp]
theorem s7_20 {ys:List AV} (hqn:qv.noRef=true) (hyn:noRefs ys=true) {A A':Blk} (h49:∀ h,doCall MX (callW MX) 49 [(AV.agg [AV.str unm,AV.int IntKind.i64 uv,qv])] h=some (.ret (.agg ys),h)) (h41:doCall MX (callW MX) 41 [.agg [w0,.int .i64 kk,.int .i64 kv,.str knm,pv',.hs (R.length+2) n 4 0 n false],.agg ys] ((Blk.var false [dv,AV.int IntKind.i64 kk,AV.int IntKind.i64 kv,AV.str knm,pv,av])::(Blk.var false [AV.str unm,AV.int IntKind.i64 uv,qv])::(R++[A,.var false [w0,.int .i64 kk,.int .i64 kv,.str knm,pv',.hs (R.length+2) n 4 0 n false]]))=some (.ret (.tup [.bool true,.int .i64 0]),(Blk.var false [dv,AV.int IntKind.i64 kk,AV.int IntKind.i64 kv,AV.str knm,pv,av])::(Blk.var false [AV.str unm,AV.int IntKind.i64 uv,qv])::(R++[A',.var false [w0,.int .i64 kk,.int .i64 kv,.str knm,pv',.hs (R.length+2) n 4 0 n false]]))) :
  codeW MX 7 234 (callW MX) (hd7 20) ([(3,.hp 1 0),(18,.hp (R.length+3) 0)],(Blk.var false [dv,AV.int IntKind.i64 kk,AV.int IntKind.i64 kv,AV.str knm,pv,av])::(Blk.var false [AV.str unm,AV.int IntKind.i64 uv,qv])::(R++[A,.var false [w0,.int .i64 kk,.int .i64 kv,.str knm,pv',.hs (R.length+2) n 4 0 n false]]))=some (.nrm,([(19,.bool true),(20,.int .i64 0)],(Blk.var false [dv,AV.int IntKind.i64 kk,AV.int IntKind.i64 kv,AV.str knm,pv,av])::(Blk.var false [AV.str unm,AV.int IntKind.i64 uv,qv])::(R++[A',.var false [w0,.int .i64 kk,.int .i64 kv,.str knm,pv',.hs (R.length+2) n 4 0 n false]]))):=by
 have hb:=bef_7_34
 simp [opsF,opsAt,Tryz.f7] at hb
 simp [Tryz.f7,hd7,code7,sub,List.replicate,h49,h41,hb,gb7,AV.noRef,noRefs,hqn,hyn]
theorem s7_21 {H:Heap}:codeW MX 7 234 (callW MX) (sub code7 (List.replicate 21 1)) ([(19,.bool true),(20,.int .i64 0)],H)=some (.ret,([(4,.bool true)],H)):=by
 simp [Tryz.f7,code7,sub,List.replicate]
end
theorem exactV_sm {b:Nat} (hb:0<b) (u:TyV) (h:Sm b u):Sm b (exactV u):=by
 induction u using TyV.ind with
 | h k v nm ps ih=>
  obtain ⟨s1,s2,s3⟩:=h.dest
  simp only [exactV]
  split
  ·exact .mk _ _ _ _ (by simpa using hb) (by simpa using hb) (fun p hp=>by cases hp)
  ·rw [exactVs_map]
   exact .mk _ _ _ _ s1 (by simpa using s2) fun p hp=>by
    obtain ⟨q,hq,rfl⟩:=List.mem_map.1 hp
    exact ih q hq (s3 q hq)
theorem _root_.Go.Am.seq_ret {M:Par} {fid N:Nat} {C:CH} {a b:Code} {s s':St} (h:codeW M fid N C a s=some (.ret,s')):codeW M fid N C (.seq a b) s=some (.ret,s'):=by
 rw [cw_seq,h]
theorem code7_eq:code7=.seq (hd7 0) (.seq (hd7 1) (.seq (hd7 2) (.seq (hd7 3) (.seq (hd7 4) (.seq (hd7 5) (.seq (hd7 6) (.seq (hd7 7) (.seq (hd7 8) (.seq (hd7 9) (.seq (hd7 10) (.seq (hd7 11) (.seq (hd7 12) (.seq (hd7 13) (.seq (hd7 14) (.seq (hd7 15) (.seq (hd7 16) (.seq (hd7 17) (.seq (hd7 18) (.seq (hd7 19) (.seq (hd7 20) (sub code7 (List.replicate 21 1)))))))))))))))))))))):=rfl
theorem run7 {a b:AV} {H:Heap} (h:codeW MX 7 234 (callW MX) code7 (Tm.init 0 [a,b],[])=some (.ret,([(4,.bool true)],H))):runW MX 7 [a,b] []=some (.ret (.bool true),H):=by
 have hb:Tryz.f7.body=some code7:=rfl
 have hn:Tryz.f7.ntmps=234:=rfl
 have hr:Tryz.f7.results = #[.tmp 4]:=rfl
 simp only [runW,fn_7,hb,hn,h]
 simp [hr]
theorem ex_nrm {a b:Code} {s s':St} {l:List (Nat×AV)} (h:codeW MX 7 234 (callW MX) a s=some (.nrm,s')) (h2:∃ T,codeW MX 7 234 (callW MX) b s'=some (.ret,(l,T))):∃ T,codeW MX 7 234 (callW MX) (.seq a b) s=some (.ret,(l,T)):=by
 obtain ⟨T,h2⟩:=h2
 exact ⟨T,seq_nrm h h2⟩
theorem ex_ret {a b:Code} {s:St} {l:List (Nat×AV)} {T:Heap} (h:codeW MX 7 234 (callW MX) a s=some (.ret,(l,T))):∃ T,codeW MX 7 234 (callW MX) (.seq a b) s=some (.ret,(l,T)):=⟨T,seq_ret h⟩
structure Own7 (T V:AV) (B C:Blk) (b:Bool) (z z2 z3:Int) (w:AV) (O:List AV) (R R' R2:Heap):Prop where
 h15:doCall MX (callW MX) 15 [T] (B::C::R)=some (.ret (.agg O),B::C::R')
 h41:doCall MX (callW MX) 41 [.agg O,V] (B::C::R')=some (.ret (.tup [.bool b,.int .i64 z]),B::C::R2)
 h42:doCall MX (callW MX) 42 [.agg O,V] (B::C::R')=some (.ret (.tup [w,.int .i64 z2]),B::C::R2)
 h43:doCall MX (callW MX) 43 [.agg O,V] (B::C::R')=some (.ret (.tup [.int .i64 z3,.int .i64 z]),B::C::R2)
theorem own7 {k:TaskV} {xs:List AV} (hx:TaskRep k xs) (hsk:SmT 1048577 k) {u:TyV} {ys:List AV} (hu:DvRep u ys) (hsu:Sm 1048577 u) (B C:Blk) :
  ∃ w,SlR BdRep 4 (if rOpen k u=0∧fitsV (k.arms.getD 0 default) u=true then bnd (k.arms.getD 0 default) u else []) w ∧
   ∀ R,∃ O R' R2,Own7 (.agg xs) (.agg ys) B C (decide (rOpen k u=0)&&fitsV (k.arms.getD 0 default) u) (rOpen k u) (if rOpen k u=0 then (if fitsV (k.arms.getD 0 default) u=true then 0 else 12) else rOpen k u) (if rOpen k u=0 then ixI (k.arms.findIdx? (fun p=>fitsV p u)) else 0) w O R R' R2:=by
 obtain ⟨w0,pv,es,hw0,hpv,ht,hel,her,hc⟩:=c15 hx hsk
 have hyn:=hu.noRefs
 rcases hc with ⟨h0,h15⟩ | ⟨h0,h15⟩
 ·have hx':TaskRep k [w0,.int .i64 k.ty.k,.int .i64 k.ty.v,.str k.ty.nm,pv,.sl 4 true []]:=⟨w0,_,.sl 4 true [],rfl,hw0,ht,.inr ⟨true,[],rfl,by rw [h0];rfl,fun i a e h=>by rw [h0] at h;simp at h⟩⟩
  obtain ⟨w,hw,h42⟩:=c42 hx' hsk hu hsu
  exact ⟨w,hw,fun R=>⟨_,R,R,h15 _,c41 hx' hsk hu hsu _,h42 _,c43 hx' hsk hu hsu _⟩⟩
 ·have hx':TaskRep k [w0,.int .i64 k.ty.k,.int .i64 k.ty.v,.str k.ty.nm,pv,.sl 4 false es]:=⟨w0,_,.sl 4 false es,rfl,hw0,ht,.inr ⟨false,es,rfl,hel,her⟩⟩
  have hnr:es.all noRefs=true:=reps_noRefs hel her (fun a e h=>h.noRefs)
  have hnO:noRefs [w0,.int .i64 k.ty.k,.int .i64 k.ty.v,.str k.ty.nm,pv,.sl 4 false es]=true:=by
   simp only [noRefs,List.all_cons,List.all_nil,AV.noRef,hw0.noRef,hpv.noRef,Bool.true_and,Bool.and_true,hnr]
  obtain ⟨w,hw,h42⟩:=c42 hx' hsk hu hsu
  refine ⟨w,hw,fun R=>⟨_,R++[.arr 4 false es],R++[.arr 4 true es],h15 (B::C::R),?_,?_,?_⟩⟩
  all_goals
   have hs:=taskSnap hw0 hpv hnr (id:=(B::C::R).length) (lk:=false) (H:=B::C::(R++[.arr 4 false es])) (by simp) (kk:=k.ty.k) (vv:=k.ty.v) (nm:=k.ty.nm) hyn
   rw [hel] at hs
   have hset:(B::C::(R++[.arr 4 false es])).set (B::C::R).length (.arr 4 true es)=B::C::(R++[.arr 4 true es]):=by simp
   rw [hset] at hs
  ·exact snapCall (by simp [mode_41]) hs (by simp [AV.noRef,hnO,hyn]) (c41 hx' hsk hu hsu _)
  ·exact snapCall (by simp [mode_42]) hs (by simp [AV.noRef,hnO,hyn]) (h42 _)
  ·exact snapCall (by simp [mode_43]) hs (by simp [AV.noRef,hnO,hyn]) (c43 hx' hsk hu hsu _)
theorem law7 {k:TaskV} {xs:List AV} (hx:TaskRep k xs) (hsk:SmT 1048577 k) {u:TyV} {ys:List AV} (hu:DvRep u ys) (hsu:Sm 1048577 u):∃ hr,runW MX 7 [.agg xs,.agg ys] []=some (.ret (.bool true),hr):=by
 have h11:=c11 hx hsk
 have h12:=c12 hx hsk
 have hown:=own7 hx hsk hu hsu
 have hc15:=c15 hx hsk
 obtain ⟨dv,pv,av,rfl,hd,hp,ht,ha⟩:=hx.dest
 have hu0:=hu
 obtain ⟨qv,rfl,hq⟩:=hu.dest'
 obtain ⟨s1,s2,s3,s4⟩:=hsk
 cases hS:smallT k with
 | false=>
  rw [hS] at h11
  exact ⟨_,run7 (by rw [code7_eq];exact seq_nrm s7_0 (seq_nrm s7_1 (seq_ret (s7_2 h11))))⟩
 | true=>
  rw [hS] at h11
  obtain ⟨w,hw,hown⟩:=hown (Blk.var false [dv,.int .i64 k.ty.k,.int .i64 k.ty.v,.str k.ty.nm,pv,av]) (Blk.var false [.str u.nm,.int .i64 u.v,qv])
  obtain ⟨O1,R1',R1,o1⟩:=hown []
  obtain ⟨O2,R2',R2,o2⟩:=hown R1
  obtain ⟨O3,R3',R3,o3⟩:=hown R2
  obtain ⟨dw,hdw,h31⟩:=c31 hd s1
  obtain ⟨zs,hzs,h44⟩:=c44 hdw s1 ht s2 hu0 hsu
  have hzs0:=hzs
  obtain ⟨zp,rfl,hzp⟩:=hzs.dest'
  have hqn:=hq.noRef
  have g0 := @s7_0 dv pv av qv k.ty.k k.ty.v k.ty.nm u.v u.nm
  have g2:=s7_2 (R:=[Blk.var false [.str u.nm,.int .i64 u.v,qv]]) h11
  have g3:=s7_3 hqn o1.h15 o1.h41
  have g4:=s7_4 (b:=decide (rOpen k u=0)&&fitsV (k.arms.getD 0 default) u) (z:=rOpen k u) hqn o2.h15 o2.h42
  have g5:=s7_5 (b:=decide (rOpen k u=0)&&fitsV (k.arms.getD 0 default) u) (z:=rOpen k u) (z2:=(if rOpen k u=0 then (if fitsV (k.arms.getD 0 default) u=true then 0 else 12) else rOpen k u)) (w:=w) hqn o3.h15 o3.h43
  have g6:=s7_6 (R:=R3) (b:=decide (rOpen k u=0)&&fitsV (k.arms.getD 0 default) u) (z:=rOpen k u) (z2:=(if rOpen k u=0 then (if fitsV (k.arms.getD 0 default) u=true then 0 else 12) else rOpen k u)) (w:=w) (av:=av) (z3:=if rOpen k u=0 then ixI (k.arms.findIdx? (fun p=>fitsV p u)) else 0) (z4:=rOpen k u) hd.cells hd.noRef hp.noRef hdw.cells hdw.noRef hqn h31 hzp.cells hzp.noRef h44
  have hend:∃ T,codeW MX 7 234 (callW MX) code7 (Tm.init 0 [.agg [dv,.int .i64 k.ty.k,.int .i64 k.ty.v,.str k.ty.nm,pv,av],.agg [.str u.nm,.int .i64 u.v,qv]],[])=some (.ret,([(4,.bool true)],T)):=by
   rw [code7_eq]
   refine ex_nrm g0 (ex_nrm s7_1 (ex_nrm g2 (ex_nrm g3 (ex_nrm g4 (ex_nrm g5 (ex_nrm g6 ?_))))))
   refine ex_nrm (s7_7 hd.cells hp.noRef (c34 hd s1 (okF k.data) ht s2)) ?_
   have h22:rBoth k.data k.ty=0→∀ h,doCall MX (callW MX) 22 [dv,.agg [.int .i64 k.ty.k,.int .i64 k.ty.v,.str k.ty.nm,pv],.agg [.str u.nm,.int .i64 u.v,qv]] h=some (.ret (.int .i64 (valErr (shOf k.data k.ty) u)),h):=fun hz h=>by
    obtain ⟨z1,z2,z3⟩:=rBoth_sh hz
    exact c22 hd s1 (dataOK z1).dok hu0 hsu ht s2 z2 z3 h
   obtain ⟨junk,g8⟩:=s7_8 (b:=decide (rOpen k u=0)&&fitsV (k.arms.getD 0 default) u) (z:=rOpen k u) (z2:=(if rOpen k u=0 then (if fitsV (k.arms.getD 0 default) u=true then 0 else 12) else rOpen k u)) (w:=w) (av:=av) (z3:=if rOpen k u=0 then ixI (k.arms.findIdx? (fun p=>fitsV p u)) else 0) (z4:=rOpen k u) (r:=.hp (R3.length+2) 0) (z5:=rValue k.data k.ty u) (X:=R3++[.var false [.int .i64 (if rValue k.data k.ty u=0 then exactV u else .mk 0 0 [] []).k,.int .i64 (if rValue k.data k.ty u=0 then exactV u else .mk 0 0 [] []).v,.str (if rValue k.data k.ty u=0 then exactV u else .mk 0 0 [] []).nm,zp]]) hd.cells hp.noRef h22
   refine ex_nrm g8 ?_
   rw [show (if rBoth k.data k.ty=0 then valErr (shOf k.data k.ty) u else rBoth k.data k.ty)=rValue k.data k.ty u from rfl]
   suffices hrest:∀ X,∃ T,codeW MX 7 234 (callW MX) (.seq (hd7 10) (.seq (hd7 11) (.seq (hd7 12) (.seq (hd7 13) (.seq (hd7 14) (.seq (hd7 15) (.seq (hd7 16) (.seq (hd7 17) (.seq (hd7 18) (.seq (hd7 19) (.seq (hd7 20) (sub code7 (List.replicate 21 1)))))))))))))
     ([(2,.hp 0 0),(3,.hp 1 0),(5,.bool (decide (rOpen k u=0)&&fitsV (k.arms.getD 0 default) u)),(6,.int .i64 (rOpen k u)),(7,w),(8,.int .i64 (if rOpen k u=0 then (if fitsV (k.arms.getD 0 default) u=true then 0 else 12) else rOpen k u)),(9,.int .i64 (if rOpen k u=0 then ixI (k.arms.findIdx? (fun p=>fitsV p u)) else 0)),(10,.int .i64 (rOpen k u)),(13,.int .i64 (rValue k.data k.ty u)),(97,.bool false)],Blk.var false [dv,.int .i64 k.ty.k,.int .i64 k.ty.v,.str k.ty.nm,pv,av]::Blk.var false [.str u.nm,.int .i64 u.v,qv]::X)=some (.ret,([(4,.bool true)],T)) by
    by_cases hz:rValue k.data k.ty u=0
    ·simp only [hz,if_true] at hzs0 ⊢
     have hsm:=exactV_sm (by decide:0<1048577) u hsu
     obtain ⟨es,hes,h46⟩:=c46 u _ hu0 hsu
     have h45:=c45 (exactV u) (exactV u) _ es hzs0 hes hsm
     rw [same_rfl] at h45
     refine ex_nrm (s7_9b (zs:=[]) hzp.noRef hqn hes.noRefs h46 h45) ?_
     have:=hrest
     rw [hz] at this
     exact this _
    ·simp only [if_neg hz] at hzs0 ⊢
     have h45:=c45 (.mk 0 0 [] []) (.mk 0 0 [] []) _ _ hzs0 (TyRep.intro (.inl ⟨rfl,rfl⟩)) (.mk _ _ _ _ (by decide) (by decide) (fun p hp=>by cases hp))
     rw [same_rfl] at h45
     exact ex_nrm (s7_9a (zs:=[]) hzp.noRef hz h45) (hrest _)
   intro X
   obtain ⟨junk2,g10⟩:=s7_10 (b:=decide (rOpen k u=0)&&fitsV (k.arms.getD 0 default) u) (z:=rOpen k u) (z2:=(if rOpen k u=0 then (if fitsV (k.arms.getD 0 default) u=true then 0 else 12) else rOpen k u)) (w:=w) (z3:=if rOpen k u=0 then ixI (k.arms.findIdx? (fun p=>fitsV p u)) else 0) (z4:=rOpen k u) (e:=rValue k.data k.ty u) (X:=X) (uv:=u.v) (unm:=u.nm) (qv:=qv) h12
   refine ex_nrm g10 ?_
   rw [show (if (rCheckArms k.data k.ty k.arms).2=0 then rValue k.data k.ty u else (rCheckArms k.data k.ty k.arms).2)=rOpen k u from rfl]
   by_cases hz:rOpen k u=0
   ·obtain ⟨z1,z2,z3,z4,z5,z6⟩:=open_ok hz
    obtain ⟨arm,rest,harms⟩:=List.exists_cons_of_ne_nil (List.ne_nil_of_length_pos z2)
    obtain ⟨pe,hpe,hpR⟩:=ha.ix z2
    have hg0:k.arms[0]=arm:=by simp [harms]
    have hgd:k.arms.getD 0 default=arm:=by simp [harms]
    rw [hg0] at hpR
    have hpe0:ixA 4 av (.int .i64 (0:Int))=some (.ro pe):=hpe .i64
    have hmem:arm∈k.arms:=by rw [harms];simp
    have hsp:=s4 _ hmem
    obtain ⟨p1,p2,p3⟩:=patErr_ok (z4 _ hmem)
    have h39:=c39 arm u pe _ hpR hu0 hsp
    have h23:=c23 ha s3 s4 hu0
    have hpR0:=hpR
    have hnl:=isTree_names p1
    have h47:=fun (hf:fitsV arm u=true)=>c47 arm u _ pe _ hpR hu0 hsp hsu p2 z6 hf (by omega)
    obtain ⟨pp,rfl,hpp⟩:=hpR.dest'
    simp only [hgd,hz,decide_true,Bool.true_and,if_true,true_and] at hw ⊢
    refine ex_nrm s7_11b ?_
    refine ex_nrm (s7_12 hpe0 hpp.noRef hqn h39) ?_
    refine ex_nrm (s7_13 ha.noRef hqn h23) ?_
    cases hf:fitsV arm u with
    | false=>
     simp only [hf,Bool.false_eq_true,if_false] at hw ⊢
     exact ex_ret (s7_14a hw)
    | true=>
     simp only [hf,if_true] at hw ⊢
     obtain ⟨w2,hw2,h47⟩:=h47 hf
     refine ex_nrm s7_14b ?_
     refine ex_nrm (s7_15 hpe0 hpp.noRef hqn h47) ?_
     refine ex_nrm (s7_16 hw hw2) ?_
     have hbl:(bnd arm u).length<1048577:=by rw [bnd_len];omega
     have hbs:=bnd_sm (s:=.bit 0) arm u _ p2 z6 hf hsu
     refine ex_nrm (s7_17 hw hw2 hbl hbs) ?_
     obtain ⟨w0,pv',es,hw0,hpv',ht',hel,her,hc⟩:=hc15
     rcases hc with ⟨h0,_⟩ | ⟨_,h15⟩
     ·rw [h0] at harms;cases harms
     have h15':=h15 (Blk.var false [dv,.int .i64 k.ty.k,.int .i64 k.ty.v,.str k.ty.nm,pv,av]::Blk.var false [.str u.nm,.int .i64 u.v,qv]::X)
     refine ex_nrm (s7_18 h15') ?_
     obtain ⟨q1,q2,q3,q4⟩:=put_back hz harms hf hsp hsu
     obtain ⟨qx,hqx,h48⟩:=c48 hw hbl hbs arm _ hpR0 hsp q4
     have hqx0:=hqx
     obtain ⟨qp,rfl,hqp⟩:=hqx.dest'
     obtain ⟨e0,er,hes⟩:∃ e0 er,es=e0::er:=List.exists_cons_of_ne_nil (fun e=>by rw [e] at hel;simp at hel;omega)
     have he0R:TyRep arm e0:=her 0 arm e0 (by rw [harms];rfl) (by rw [hes];rfl)
     obtain ⟨ep,rfl,hep⟩:=he0R.dest'
     refine ex_nrm (s7_19 hpe0 hpp.noRef hw.noRef z2 hel (by rw [hes];rfl) h48 hqp.noRef) ?_
     have hrest:∀ (i:Nat) p e,(repB (bnd arm u) arm::rest)[i]? = some p→([AV.int .i64 (repB (bnd arm u) arm).k,.int .i64 (repB (bnd arm u) arm).v,.str (repB (bnd arm u) arm).nm,qp]::es.tail)[i]? = some e→TyRep p e:=by
      intro i p e h1 h2
      cases i with
      | zero=>simp at h1 h2;subst h1;subst h2;exact hqx0
      | succ i=>
       refine her (i+1) p e (by rw [harms];simpa using h1) ?_
       rw [hes] at h2 ⊢
       simpa using h2
     have hlen':([AV.int .i64 (repB (bnd arm u) arm).k,.int .i64 (repB (bnd arm u) arm).v,.str (repB (bnd arm u) arm).nm,qp]::es.tail).length=k.arms.length:=by
      rw [← hel,hes];rfl
     have hlr:(repB (bnd arm u) arm::rest).length=k.arms.length:=by rw [harms];rfl
     have hx':TaskRep ⟨k.data,k.ty,repB (bnd arm u) arm::rest⟩ [w0,.int .i64 k.ty.k,.int .i64 k.ty.v,.str k.ty.nm,pv',.sl 4 false ([AV.int .i64 (repB (bnd arm u) arm).k,.int .i64 (repB (bnd arm u) arm).v,.str (repB (bnd arm u) arm).nm,qp]::es.tail)]:=
      ⟨w0,_,_,rfl,hw0,ht',.inr ⟨false,_,rfl,by rw [hlen',← hlr],hrest⟩⟩
     have hsk':SmT 1048577 ⟨k.data,k.ty,repB (bnd arm u) arm::rest⟩:=⟨s1,s2,by show (repB (bnd arm u) arm::rest).length<1048577;rw [hlr];exact s3,fun p hp=>by
      rcases List.mem_cons.1 hp with rfl | hp
      ·exact q3
      ·exact s4 p (by rw [harms];simp [hp])⟩
     obtain ⟨y2,hy2,h49⟩:=c49 u _ hu0 hsu
     have hy2':DvRep u y2:=hy2
     have hnr:([AV.int .i64 (repB (bnd arm u) arm).k,.int .i64 (repB (bnd arm u) arm).v,.str (repB (bnd arm u) arm).nm,qp]::es.tail).all noRefs=true:=reps_noRefs (by rw [hlen',← hlr]) hrest (fun a e h=>h.noRefs)
     have h41:=c41 hx' hsk' hy2' hsu
     rw [q1] at h41
     have hfit:fitsV ((repB (bnd arm u) arm::rest).getD 0 default) u=true:=q2
     simp only [hfit,decide_true,Bool.and_self] at h41
     have hs:=taskSnap hw0 hpv' hnr (id:=X.length+2) (lk:=false) (H:=Blk.var false [dv,.int .i64 k.ty.k,.int .i64 k.ty.v,.str k.ty.nm,pv,av]::Blk.var false [.str u.nm,.int .i64 u.v,qv]::(X++[.arr 4 false ([AV.int .i64 (repB (bnd arm u) arm).k,.int .i64 (repB (bnd arm u) arm).v,.str (repB (bnd arm u) arm).nm,qp]::es.tail),.var false [w0,.int .i64 k.ty.k,.int .i64 k.ty.v,.str k.ty.nm,pv',.hs (X.length+2) k.arms.length 4 0 k.arms.length false]])) (by simp) (kk:=k.ty.k) (vv:=k.ty.v) (nm:=k.ty.nm) hy2'.noRefs
     rw [hlen'] at hs
     have hnO:noRefs [w0,.int .i64 k.ty.k,.int .i64 k.ty.v,.str k.ty.nm,pv',.sl 4 false ([AV.int .i64 (repB (bnd arm u) arm).k,.int .i64 (repB (bnd arm u) arm).v,.str (repB (bnd arm u) arm).nm,qp]::es.tail)]=true:=by
      simp only [noRefs,List.all_cons,List.all_nil,AV.noRef,hw0.noRef,hpv'.noRef,Bool.true_and,Bool.and_true,hnr]
     have h41s:=snapCall (by simp [mode_41]) hs (by simp [AV.noRef,hnO,hy2'.noRefs]) (h41 _)
     have hset:∀ (B C A A' D:Blk),(B::C::(X++[A,D])).set (X.length+2) A'=B::C::(X++[A',D]):=fun B C A A' D=>by simp
     rw [hset] at h41s
     refine ex_nrm (s7_20 hqn hy2'.noRefs h49 h41s) ?_
     exact ⟨_,s7_21⟩
   ·have hzd:decide (rOpen k u=0)=false:=decide_eq_false hz
    have hw0:SlR BdRep 4 [] w:=by simpa [hz] using hw
    simp only [hzd,Bool.false_and,if_neg hz]
    exact ex_ret (s7_11a hw0 hz)
  obtain ⟨T,hend⟩:=hend
  exact ⟨T,run7 hend⟩
end Go.Proofs.Am12
