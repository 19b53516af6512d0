/- The abstract machine of this claim, part 15. -/
import Derived.Test.YtggemipepaajmaaGreatVal14
set_option linter.unusedSimpArgs false
set_option linter.unusedVariables false
set_option linter.unusedSectionVars false
set_option linter.unnecessarySimpa false
namespace Go.Proofs.Am12
open Go Go.Am
attribute [local simp] cw_skip cw_region cw_seq cw_cond cw_block cw_loop cw_exit cw_ret regionA runOps wantedA opEx xVal xPick xAlloc xBox xBuild xBuildSlice xLoad xStore xNil xBin xUn xConv xIface xFunc xMakeSlice xSlice xFieldAddr xField xIndexAddr xIndex xLookup xUpdate xExtract xBuiltin xPanic xCall
 ev evs ofVal ofCell OR.ofV OR.ofVH OR.ofC putD Tm.get Tm.init Tm.only beq_d ble_d blt_d finish resultA resA binA intBin strBin unA cells_int cells_bool cells_str cells_nilp cells_ro cells_hp cells_ep cells_nils cells_sl cells_hs cells_nilm cells_hm cells_fn cells_nilf cells_agg loopC loopsIn lenSl_nils lenSl_sl lenSl_hs lenSt_str faA_ro faA_hp faA_ep ld1_def ldN_def takeA rd_ro rd_hp rd_ep stA spliceAt zipFst fillC kdRead blkOf noCh okDraw_ld okDraw_l okPairsL loudS kdSh
set_option maxHeartbeats 1000000
attribute [local simp] okDraw_k okPairsM loudOf kdClash mods_at0 mods_at1 mods_at2 mods_at3 mods_at4 mods_at5 mods_at6 kd_move kd_assign kd_pick kd_build kd_nil kd_bin kd_un kd_iface kd_func kd_slice kd_fieldAddr kd_field kd_indexAddr kd_index kd_extract kd_load kd_lookup kd_len kd_max kd_min kd_append kd_callv kd_alloc kd_box kd_bs kd_map kd_ms kd_cv kd_store kd_mapUpdate kd_insert kdLen_nils kdLen_sl kdLen_hs kdLen_str
theorem snap_fnT {f:FuncId} {id:Nat} {k v:Int} {s:Bytes} {pv:AV} {h:Heap} {b:Bool} {ps:List TyV} (hps:SlR TyRep 4 ps pv) (hh:h[id]? = some (.var b [.int .i64 k,.int .i64 v,.str s,pv])):snap snapN (.fn f [] [.hp id 0]) h=some (.fn f [] [.ro [.int .i64 k,.int .i64 v,.str s,pv]],h.set id (.var true [.int .i64 k,.int .i64 v,.str s,pv])):=by
 have hpv:=hps.noRef
 have:SnapIn 9 (.fn f [] [.hp id 0]) h (.fn f [] [.ro [.int .i64 k,.int .i64 v,.str s,pv]]) (h.set id (.var true [.int .i64 k,.int .i64 v,.str s,pv])):=fun n=>by
  rcases hps with ⟨_,rfl⟩ | ⟨ex,es,rfl,_⟩ <;> simp [AV.noRef] at hpv <;> simp [Am.snap,Am.snaps,noRefs,AV.noRef,hh,hpv]
 exact this.at (by decide)
theorem c176 {d:DataV} {dx:List AV} (hd:DataRep d dx) (k v:Int) (s:Bytes) (pv:AV) (h:Heap):∃ B,doCall MX (callW MX) 176 [.agg dx,.ro [.int .i64 k,.int .i64 v,.str s,pv]] h=some (.ret (.bool (d.nm == s)),h++[B]):=by
 obtain ⟨qv,cv,rfl,hp,hc⟩:=hd.dest
 refine ⟨_,openX mode_176 eff_176 (by simp [runW,Tryz.f176] <;> first | exact ⟨rfl,rfl⟩ | rfl)⟩
theorem t175b {l:List DataV} {w:AV} (k v:Int) (s:Bytes) (pv:AV) (hv:SlR DataRep 3 l w) (hl:l.length<1048577):∃ G,runW MX 175 [w,.fn 176 [] [.ro [.int .i64 k,.int .i64 v,.str s,pv]]] []=some (.ret (.int .i64 (ixI (l.findIdx? (fun x:DataV=>x.nm == s)))),G):=by
 obtain ⟨F,hF⟩:∃ F,F=AV.fn 176 [] [.ro [.int .i64 k,.int .i64 v,.str s,pv]]:=⟨_,rfl⟩
 rw [← hF]
 obtain ⟨e,st,hlp,hq⟩:=loop_up (M:=MX) (fid:=175) (N:=19) (C:=callW MX) (c:=loopC Tryz.f175 0) (n:=l.length) (fun i (b:Heap)=>([(0,w),(1,F),(7,.int .i64 l.length),(8,.int .i64 i)],b)) (fun i _=>∀ j (hj:j<l.length),j<i→(fun x:DataV=>x.nm == s) l[j]=false)
  (fun r=>∃ b:Heap,(r=(.ext 0,([(0,w),(1,F),(7,.int .i64 l.length),(8,.int .i64 l.length),(9,.bool false)],b))∧l.findIdx? (fun x:DataV=>x.nm == s)=none)∨(∃ i:Nat,r=(.ret,([(4,.int .i64 i)],b))∧l.findIdx? (fun x:DataV=>x.nm == s)=some i)) (fun i b hi hI=>by
    obtain ⟨e,he,hR⟩:=hv.ix hi
    have hi':=lt_cast hi
    have hw:=wr_next hi hl
    obtain ⟨B,hcall⟩:=c176 hR k v s pv b
    obtain ⟨qv,cv,rfl,hp,hc⟩:=hR.dest
    cases hx:(l[i].nm == s) with
    | true=>rw [hx] at hcall;exact .inr ⟨_,_,by simp [Tryz.f175,hi',he,hcall,hF] <;> exact ⟨rfl,rfl⟩,by simp,b++[B],.inr ⟨i,rfl,fi_some (p:=(fun x:DataV=>x.nm == s)) hi hI hx⟩⟩
    | false=>rw [hx] at hcall;exact .inl ⟨b++[B],by simp [Tryz.f175,hi',he,hcall,hw,hF],fi_step (p:=(fun x:DataV=>x.nm == s)) hi hI hx⟩) (fun b hI=>by
    exact ⟨_,_,by simp [Tryz.f175] <;> exact ⟨rfl,rfl⟩,by simp,b,.inl ⟨rfl,fi_none (p:=(fun x:DataV=>x.nm == s)) fun j hj=>hI j hj hj⟩⟩) [] (fun j _ h0=>by omega)
 simp [Tryz.f175] at hlp
 obtain ⟨b,hq⟩:=hq
 rcases hq with ⟨hq,hs⟩ | ⟨i,hq,hs⟩ <;> cases hq <;> exact ⟨b,by simp [runW,Tryz.f175,hv.len,hlp,hs,ixI]⟩
theorem c175b {l:List DataV} {w:AV} {k v:Int} {s:Bytes} {pv:AV} {ps:List TyV} (hps:SlR TyRep 4 ps pv) (hv:SlR DataRep 3 l w) (hl:l.length<1048577) {id:Nat} {b:Bool} {h:Heap} (hk:h[id]? = some (.var b [.int .i64 k,.int .i64 v,.str s,pv])):doCall MX (callW MX) 175 [w,.fn 176 [] [.hp id 0]] h=some (.ret (.int .i64 (ixI (l.findIdx? (fun x:DataV=>x.nm == s)))),h.set id (.var true [.int .i64 k,.int .i64 v,.str s,pv])):=by
 obtain ⟨G,hG⟩:=t175b k v s pv hv hl
 have hpv:=hps.noRef
 exact snapCall (by simp [mode_175]) (args':=[w,.fn 176 [] [.ro [.int .i64 k,.int .i64 v,.str s,pv]]]) (by simp [snapArgs,hv.noRef,snap_fnT hps hk,AV.noRef,noRefs]) (by simp [hv.noRef,AV.noRef,noRefs,hpv]) (pureX mode_175 eff_175 (by simp [hv.noRef,AV.noRef,noRefs,hpv]) rfl hG _)
theorem c198 {u:TyV} {xs:List AV} (hu:TyRep u xs) {b:Nat} {lk:Bool} {H:Heap} (hb:H[b]? = some (.var lk xs)):doCall MX (callW MX) 198 [.hp b 0] H=some (.ret (.hp H.length 0),H++[.var false [.int .i64 u.v,.nils]]):=by
 obtain ⟨pv,rfl,hp⟩:=hu.dest'
 exact openC mode_198 eff_198 (by simp [runW,Tryz.f198,hb])
theorem c179 {u:TyV} {xs:List AV} (hu:TyRep u xs) {own:Nat} {es:List (Bytes×AV)} {H:Heap} (ho:H[own]? = some (.mp (mpE es))) (p:Bytes) (pm:AV) :
  (u.k=2→doCall MX (callW MX) 179 [.hm own,.str p,.agg xs,pm] H=some (.ret (.tup []),(H++[Blk.var false xs]).set own (.mp (mpE (putE p (.fn 198 [] [.hp H.length 0]) es))))) ∧
  (u.k=1→doCall MX (callW MX) 179 [.hm own,.str p,.agg xs,pm] H=some (.ret (.tup []),H++[Blk.var false xs])) ∧
  (∀ f,u.k=0→lkA (some .string) .nilf pm (.str u.nm) false (H++[Blk.var false xs])=some f→doCall MX (callW MX) 179 [.hm own,.str p,.agg xs,pm] H=some (.ret (.tup []),(H++[Blk.var false xs]).set own (.mp (mpE (putE p f es))))):=by
 obtain ⟨pv,rfl,hp⟩:=hu.dest'
 have ho':=get_app ho [Blk.var false [.int .i64 u.k,.int .i64 u.v,.str u.nm,pv]]
 have hup:=upA_mp ho' p
 refine ⟨fun hk => ?_,fun hk => ?_,fun f hk hf => ?_⟩
 ·have h2:(u.k == 2)=true:=by simp [hk]
  exact openC mode_179 eff_179 (by simp [runW,Tryz.f179,h2,hup])
 ·have h2:(u.k == 2)=false:=by simp [hk]
  have h0:(u.k == 0)=false:=by simp [hk]
  exact openC mode_179 eff_179 (by simp [runW,Tryz.f179,h2,h0])
 ·have h2:(u.k == 2)=false:=by simp [hk]
  have h0:(u.k == 0)=true:=by simp [hk]
  exact openC mode_179 eff_179 (by simp [runW,Tryz.f179,h2,h0,hf,hup])
theorem c177 {u:TyV} {xs:List AV} (hu:TyRep u xs) {pm:AV} {H:Heap}:(u.k≠0→doCall MX (callW MX) 177 [.agg xs,pm] H=some (.ret (.int .i64 u.v),H++[Blk.var false xs])) ∧
  (∀ f b r m w H',u.k=0→f=.fn 198 [] [.hp b 0]→lkA (some .string) .nilf pm (.str u.nm) false (H++[Blk.var false xs])=some f→doCall MX (callW MX) 198 [.hp b 0] (H++[Blk.var false xs])=some (.ret (.hp r 0),H')→H'[r]? = some (.var false [.int .i64 m,w])→doCall MX (callW MX) 177 [.agg xs,pm] H=some (.ret (.int .i64 m),H')):=by
 obtain ⟨pv,rfl,hp⟩:=hu.dest'
 refine ⟨fun hk => ?_,fun f b r m w H' hk hf hl hc hr => ?_⟩
 ·have hk':(u.k == 0)=false:=by simp [hk]
  exact openC mode_177 eff_177 (by simp [runW,Tryz.f177,hk'])
 ·have h0:(u.k == 0)=true:=by simp [hk]
  subst hf
  exact openC mode_177 eff_177 (by simp [runW,Tryz.f177,h0,hl,hc,hr])
def SrtOK (l:List DataV) (lv:AV) (d:Nat) (t:TyV) (s:Sh):Prop:=∀ (u:TyV) (xs:List AV) (params:List Bytes) (args:List TyV) (pm:AV) (S:Nat→Prop) (H:Heap),TyRep u xs→rNodeErr l params u=0→(∀ a∈args,VT l a)→params.length=args.length→repl params args u=t→(∀ x,S x→x<H.length)→EnvAt (CloOK l lv d S H) S H pm params args →
 ∃ v H',doCall MX (callW MX) 144 [lv,.agg xs,pm] H=some (.ret v,H')∧H.length≤H'.length∧(∀ x,x<H.length→H'[x]? = H[x]?)∧SrtAt (shD s) (fun x=>H.length≤x∧x<H'.length) H' v s
section
variable {l:List DataV} {lv:AV} (hl:SlR DataRep 3 l lv)
include hl
theorem c178 {d:Nat} {t:TyV} {s:Sh} (ih:SrtOK l lv d t s) {S:Nat→Prop} {H:Heap} (hS:∀ x,S x→x<H.length) {a b c e:Nat} {la lb lc le:Bool} {u:TyV} {xs:List AV} {pm:AV} {params:List Bytes} {args:List TyV} {k:Nat} (hk:k<u.ps.length) (h2:H[a]? = some (.var la [lv])) (h3:H[b]? = some (.var lb xs)) (h4:TyRep u xs) (h5:H[c]? = some (.var lc [.int .i64 k])) (h6:H[e]? = some (.var le [pm])) (h7:EnvAt (CloOK l lv d S H) S H pm params args) (h8:rNodeErr l params u.ps[k]=0) (h9:∀ x∈args,VT l x) (h10:params.length=args.length) (h11:repl params args u.ps[k]=t) :
  ∃ v H',doCall MX (callW MX) 178 [.hp a 0,.hp b 0,.hp c 0,.hp e 0] H=some (.ret v,H')∧H.length≤H'.length∧(∀ x,x<H.length→H'[x]? = H[x]?)∧SrtAt (shD s) (fun x=>H.length≤x∧x<H'.length) H' v s:=by
 obtain ⟨pv,rfl,hp⟩:=h4.dest'
 obtain ⟨fe,hfe,hR⟩:=hp.ix hk
 obtain ⟨v,H',q1,q2,q3,q4⟩:=ih u.ps[k] fe params args pm S H hR h8 h9 h10 h11 hS h7
 obtain ⟨qv,rfl,hq⟩:=hR.dest'
 have hb:=bef_178_1
 simp [opsF,opsAt,Tryz.f178] at hb
 exact ⟨v,H',openC mode_178 eff_178 (by simp [runW,Tryz.f178,h2,h3,h5,h6,get_of h2,get_of h3,get_of h5,get_of h6,hfe,q1,hb]),q2,q3,q4⟩
theorem var144 {d:Nat} {t:TyV} {s:Sh} (ht:t.k=1) (ih:∀ d',d'<d→SrtOK l lv d' t s) {u:TyV} {xs:List AV} {params:List Bytes} {args:List TyV} {pm:AV} {S:Nat→Prop} {H:Heap} (hu:TyRep u xs) (hk:u.k=0) (hv:rNodeErr l params u=0) (hln:params.length=args.length) (hr:repl params args u=t) (hS:∀ x,S x→x<H.length) (hE:EnvAt (CloOK l lv d S H) S H pm params args) :
  ∃ v H',doCall MX (callW MX) 144 [lv,.agg xs,pm] H=some (.ret v,H')∧H.length≤H'.length∧(∀ x,x<H.length→H'[x]? = H[x]?)∧SrtAt (shD s) (fun x=>H.length≤x∧x<H'.length) H' v s:=by
 obtain ⟨i,hi,hp,hti⟩:∃ i,∃ hi:i<params.length,params[i]=u.nm∧args[i]'(by omega)=t:=by
  cases u with
  | mk k v nm ps=>
   have hk:k=0:=hk
   subst hk
   rw [rNodeErr_zero] at hv
   have hne:=hv.2.1 rfl
   cases hf:params.findIdx? (fun x=>x == nm) with
   | none=>exact absurd hf hne
   | some i=>
    have hil:=fi_lt hf
    have hnm:params[i]=nm:=by
     have h3:=hf
     rw [List.findIdx?_eq_some_iff_getElem] at h3
     exact beq_iff_eq.1 h3.2.1
    refine ⟨i,hil,hnm,?_⟩
    rw [← hr]
    simp only [repl,if_true,hf]
    rw [List.getD_eq_getElem?_getD,List.getElem?_eq_getElem (by omega)]
    rfl
 have hcp:=hE.cells
 rcases hE with ⟨h0,_⟩ | ⟨id,es,hid,rfl,hmp,hfn⟩
 ·rw [h0] at hi;cases hi
 obtain ⟨f,hf,hC⟩:=hfn i _ _ (List.getElem?_eq_getElem hi) (List.getElem?_eq_getElem (by omega))
 rw [hp] at hf
 rw [hti] at hC
 obtain ⟨pv,rfl,hpv⟩:=hu.dest'
 let T:=[Blk.var false [lv],.var false [.int .i64 u.k,.int .i64 u.v,.str u.nm,pv],.var false [.hm id]]
 have hS':∀ x,S x→x<(H++T).length:=fun x hx=>by have:=hS x hx;simp;omega
 have hX:∀ x,S x→(H++T)[x]? = H[x]? := fun x hx=>List.getElem?_append_left (hS x hx)
 have hC':=CloOK.mono d hC (fun _ h=>h) hX
 have hlk:=lkA_mp (get_app hmp T) hf
 cases d with
 | zero=>exact hC.elim
 | succ d=>
  rcases hC' with ⟨h2,_⟩ | ⟨_,a,b,c,e,la,lb,lc,le,u',xs',pm',params',args',k,hk',rfl,s1,s2,s3,s4,g2,g3,g4,g5,g6,g7,g8,g9,g10,g11⟩
  ·omega
  obtain ⟨v,H',q1,q2,q3,q4⟩:=c178 hl (ih d (by omega)) hS' hk' g2 g3 g4 g5 g6 g7 g8 g9 g10 g11
  have h0:(u.k == 0)=true:=by simp [hk]
  simp only [T] at hlk q1
  refine ⟨v,H',openC mode_144 eff_144 ?_,by simp at q2;omega,fun x hx => ?_,SrtAt.mono _ q4 (fun x hx=>⟨by have:=hx.1;simp at this;omega,hx.2⟩) (fun _ _=>rfl)⟩
  ·simp [runW,Tryz.f144,hl.cells,h0,hlk,q1]
  ·rw [q3 x (by simp;omega)]
   exact List.getElem?_append_left hx
theorem ix144 (hll:l.length<1048577) {u:TyV} {pv pm:AV} (hp:SlR TyRep 4 u.ps pv) (H:Heap):doCall MX (callW MX) 175 [lv,.fn 176 [] [.hp (H.length+1) 0]] (H++[Blk.var false [lv],.var false [.int .i64 u.k,.int .i64 u.v,.str u.nm,pv],.var false [pm]])=some (.ret (.int .i64 (ixI (l.findIdx? (fun x:DataV=>x.nm == u.nm)))),H++[Blk.var false [lv],.var true [.int .i64 u.k,.int .i64 u.v,.str u.nm,pv],.var false [pm]]):=by
 have:=c175b (w:=lv) hp hl hll (id:=H.length+1) (b:=false) (h:=H++[Blk.var false [lv],.var false [.int .i64 u.k,.int .i64 u.v,.str u.nm,pv],.var false [pm]]) (k:=u.k) (v:=u.v) (s:=u.nm) (by simp)
 rw [this]
 congr 2
 simp
theorem bit144 (hll:l.length<1048577) {d:Nat} {t:TyV} {u:TyV} {xs:List AV} {params:List Bytes} {args:List TyV} {pm:AV} {S:Nat→Prop} {H:Heap} (hu:TyRep u xs) (hk:u.k=1) (hb:u.nm=bitS) (hv:rNodeErr l params u=0) (hln:params.length=args.length) (hr:repl params args u=t) (h2:(argOf t).k=2) (hS:∀ x,S x→x<H.length) (hE:EnvAt (CloOK l lv d S H) S H pm params args) :
  ∃ v H',doCall MX (callW MX) 144 [lv,.agg xs,pm] H=some (.ret v,H')∧H.length≤H'.length∧(∀ x,x<H.length→H'[x]? = H[x]?)∧SrtAt (shD (.bit (argOf t).v)) (fun x=>H.length≤x∧x<H'.length) H' v (.bit (argOf t).v):=by
 have hcp:=hE.cells
 obtain ⟨pv,rfl,hpv⟩:=hu.dest'
 have h175:=ix144 hl hll (pm:=pm) hpv H
 have hb5:=bef_144_5
 simp [opsF,opsAt,Tryz.f144] at hb5
 have hlen:0<u.ps.length:=by
  cases u with
  | mk k v nm ps=>
   have hk:k=1:=hk
   have hb:nm=bitS:=hb
   subst hk;subst hb
   rw [rNodeErr_zero] at hv
   have:=hv.2.2.1
   simp only [rCount,if_true,beq_self_eq_true] at this
   have:=Option.some.inj this
   show 0<ps.length
   omega
 have harg:argOf t=repl params args u.ps[0]:=by
  cases u with
  | mk k v nm ps=>
   have hk:k=1:=hk
   subst hk
   rw [← hr]
   have hlen:0<ps.length:=hlen
   have h1:¬ ((1:Int)=0):=by decide
   simp only [repl,h1,if_false,repls_map]
   show (ps.map (repl params args)).getD 0 default=_
   rw [List.getD_eq_getElem?_getD,List.getElem?_eq_getElem (by simpa using hlen),List.getElem_map]
   rfl
 have ha0:rNodeErr l params u.ps[0]=0:=by
  cases u with
  | mk k v nm ps=>
   rw [rNodeErr_zero] at hv
   exact hv.2.2.2.2 _ (List.getElem_mem hlen)
 obtain ⟨fe,hfe,hR⟩:=hpv.ix hlen
 have hfe0:ixA 4 pv (.int .i64 (0:Int))=some (.ro fe):=hfe .i64
 obtain ⟨a,ha⟩:∃ a,a=u.ps[0]:=⟨_,rfl⟩
 rw [← ha] at harg ha0 hR
 let T:=[Blk.var false [lv],.var true [.int .i64 u.k,.int .i64 u.v,.str u.nm,pv],.var false [pm]]
 obtain ⟨X,h177⟩:∃ X,doCall MX (callW MX) 177 [.agg fe,pm] (H++T)=some (.ret (.int .i64 (argOf t).v),H++(T++X)):=by
  by_cases hka:a.k=0
  ·-- a parameter
   obtain ⟨i,hi,hp,hti⟩:∃ i,∃ hi:i<params.length,params[i]=a.nm∧args[i]'(by omega)=argOf t:=by
    cases a with
    | mk k v nm ps=>
     have hka:k=0:=hka
     subst hka
     rw [rNodeErr_zero] at ha0
     have hne:=ha0.2.1 rfl
     cases hf:params.findIdx? (fun x=>x == nm) with
     | none=>exact absurd hf hne
     | some i=>
      have hil:=fi_lt hf
      have hnm:params[i]=nm:=by
       have h3:=hf
       rw [List.findIdx?_eq_some_iff_getElem] at h3
       exact beq_iff_eq.1 h3.2.1
      refine ⟨i,hil,hnm,?_⟩
      rw [harg]
      simp only [repl,if_true,hf]
      rw [List.getD_eq_getElem?_getD,List.getElem?_eq_getElem (by omega)]
      rfl
   rcases hE with ⟨h0,_⟩ | ⟨id,es,hid,rfl,hmp,hfn⟩
   ·rw [h0] at hi;cases hi
   obtain ⟨f,hf,hC⟩:=hfn i _ _ (List.getElem?_eq_getElem hi) (List.getElem?_eq_getElem (by omega))
   rw [hp] at hf
   rw [hti] at hC
   cases d with
   | zero=>exact hC.elim
   | succ d=>
    rcases hC with ⟨_,b,lk,u',xs',rfl,s1,g1,g2,g3⟩ | ⟨h1,_⟩
    ·have hlk:=lkA_mp (get_app (get_app hmp T) [Blk.var false fe]) hf
     have g1':=get_app (get_app g1 T) [Blk.var false fe]
     have h198:=c198 g2 g1'
     have h177:=(c177 hR (pm:=.hm id) (H:=H++T)).2 _ b _ u'.v .nils _ hka rfl hlk h198 (by simp)
     rw [g3] at h177
     exact ⟨[Blk.var false fe,.var false [.int .i64 (argOf t).v,.nils]],by rw [h177];simp⟩
    ·omega
  ·have h177:=(c177 hR (pm:=pm) (H:=H++T)).1 hka
   have hva:(argOf t).v=a.v:=by
    rw [harg]
    cases a with
    | mk k v nm ps=>
     have hka:¬ k=0:=hka
     simp only [repl,hka,if_false]
     rfl
   rw [← hva] at h177
   exact ⟨[Blk.var false fe],by rw [h177];simp⟩
 simp only [T] at h177
 obtain ⟨qv,rfl,hq⟩:=hR.dest'
 have h0:(u.k == 0)=false:=by simp [hk]
 have hbn:(u.nm == [66,105,116])=true:=by rw [hb];rfl
 refine ⟨.hp (H.length+(T++X).length) 0,H++(T++X)++[Blk.var false [.int .i64 (argOf t).v,.nils]],openC mode_144 eff_144 ?_,by simp,fun x hx => ?_,?_⟩
 ·simp only [T]
  simp at h177
  simp [runW,Tryz.f144,hl.cells,hcp,h0,hbn,h175,hfe0,h177,hb5,Nat.add_assoc]
 ·rw [List.append_assoc]
  exact List.getElem?_append_left hx
 ·refine ⟨_,rfl,⟨by omega,by simp⟩,?_⟩
  rw [List.getElem?_append_right (by simp)]
  simp
end
theorem CloOK.up {l:List DataV} {lv:AV}:∀ (d:Nat) {S:Nat→Prop} {H:Heap} {f:AV} {t:TyV},CloOK l lv d S H f t→CloOK l lv (d+1) S H f t
 | 0,_,_,_,_,h=>h.elim
 | d+1,S,H,f,t,h=>by
  rcases h with h | ⟨h0,a,b,c,e,la,lb,lc,le,u,xs,pm,params,args,k,hk,h1,s1,s2,s3,s4,h2,h3,h4,h5,h6,h7,h8⟩
  ·exact .inl h
  ·exact .inr ⟨h0,a,b,c,e,la,lb,lc,le,u,xs,pm,params,args,k,hk,h1,s1,s2,s3,s4,h2,h3,h4,h5,h6,h7.mono (fun f t h=>CloOK.up d h) (fun _ h=>h) (fun _ _=>rfl),h8⟩
theorem set_app2 {X Y:Heap} {n:Nat} (A B:Blk) (hn:n<X.length):(X.set n A++Y).set n B=(X++Y).set n B:=by
 rw [← List.set_append_left _ _ hn,List.set_set]
theorem set_app1 {X Y:Heap} {n:Nat} (A:Blk) (hn:n<X.length):X.set n A++Y=(X++Y).set n A:=by
 rw [List.set_append_left _ _ hn]
structure PI (l:List DataV) (lv:AV) (d:Nat) (H:Heap) (u:TyV) (pv pm:AV) (params:List Bytes) (args:List TyV) (ps:List Bytes) (j:Nat) (b:Heap) (es:List (Bytes×AV)):Prop where
 old:∀ x,x<H.length→b[x]? = H[x]?
 ba:b[H.length]? = some (.var false [lv])
 bb:b[H.length+1]? = some (.var true [.int .i64 u.k,.int .i64 u.v,.str u.nm,pv])
 be:b[H.length+2]? = some (.var false [pm])
 bo:b[H.length+3]? = some (.mp (mpE es))
 le:H.length+4≤b.length
 ent:∀ (m:Nat) p t,m<j→ps[m]? = some p→u.ps[m]? = some t→∃ f,getE p es=some f∧CloOK l lv (d+1) (fun x=>x<b.length∧x≠H.length+3) b f (repl params args t)
theorem PI.step {l:List DataV} {lv:AV} {d:Nat} {H:Heap} {u:TyV} {pv pm:AV} {params:List Bytes} {args:List TyV} {ps:List Bytes} {j:Nat} {b:Heap} {es es':List (Bytes×AV)} (h:PI l lv d H u pv pm params args ps j b es) (hnd:ps.Nodup) {p:Bytes} {t:TyV} (hp:ps[j]? = some p) (ht:u.ps[j]? = some t) {X:Heap} (he:∀ q,q≠p→getE q es'=getE q es)
  (hf:∃ f,getE p es'=some f∧CloOK l lv (d+1) (fun x=>x<(b++X).length∧x≠H.length+3) ((b++X).set (H.length+3) (.mp (mpE es'))) f (repl params args t)):PI l lv d H u pv pm params args ps (j+1) ((b++X).set (H.length+3) (.mp (mpE es'))) es':=by
 have hle:=h.le
 have hk:∀ x,x<b.length→x≠H.length+3→((b++X).set (H.length+3) (.mp (mpE es')))[x]? = b[x]? := fun x h1 h2=>by
  rw [List.getElem?_set_ne (fun e=>h2 e.symm),List.getElem?_append_left h1]
 refine ⟨fun x hx=>by rw [hk x (by omega) (by omega)];exact h.old x hx,by rw [hk _ (by omega) (by omega)];exact h.ba,by rw [hk _ (by omega) (by omega)];exact h.bb,by rw [hk _ (by omega) (by omega)];exact h.be,List.getElem?_set_self (by simp;omega),by simp;omega,fun m p' t' hm h1 h2 => ?_⟩
 by_cases hmj:m=j
 ·subst hmj
  rw [hp] at h1;cases h1
  rw [ht] at h2;cases h2
  obtain ⟨f,f1,f2⟩:=hf
  exact ⟨f,f1,CloOK.mono _ f2 (fun x hx=>⟨by rw [List.length_set];exact hx.1,hx.2⟩) (fun _ _=>rfl)⟩
 ·obtain ⟨f,f1,f2⟩:=h.ent m p' t' (by omega) h1 h2
  have hne:p'≠p:=fun e=>by
   subst e
   obtain ⟨a1,a2⟩:=List.getElem?_eq_some_iff.1 h1
   obtain ⟨b1,b2⟩:=List.getElem?_eq_some_iff.1 hp
   exact List.pairwise_iff_getElem.1 hnd m j a1 b1 (by omega) (a2.trans b2.symm)
  exact ⟨f,by rw [he p' hne];exact f1,CloOK.mono _ f2 (fun x hx=>⟨by simp;have:=hx.1;omega,hx.2⟩) (fun x hx=>hk x hx.1 hx.2)⟩
section
variable {l:List DataV} {lv:AV} (hl:SlR DataRep 3 l lv)
include hl
theorem params144 {d:Nat} {H:Heap} {u:TyV} {pv pm:AV} (hu:TyRep u [.int .i64 u.k,.int .i64 u.v,.str u.nm,pv]) (hpv:SlR TyRep 4 u.ps pv) {params:List Bytes} {args:List TyV} {S:Nat→Prop} (hS:∀ x,S x→x<H.length) (hE:EnvAt (CloOK l lv d S H) S H pm params args) (hua:∀ t∈u.ps,rNodeErr l params t=0) (hva:∀ a∈args,VT l a) (hln:params.length=args.length)
  {ps:List Bytes} {qv:AV} (hq:SlR StrRep 1 ps qv) (hnd:ps.Nodup) (hps:ps.length=u.ps.length) (hpl:ps.length<1048577) {i:Nat} :
  ∃ (b:Heap) (es:List (Bytes×AV)),loopH MX 144 118 (callW MX) (loopC Tryz.f144 0) ([(3,.hp H.length 0),(4,.hp (H.length+1) 0),(5,.hp (H.length+2) 0),(7,.int .i64 i),(8,.hm (H.length+3)),(53,qv),(54,.int .i64 ps.length),(55,.int .i64 (0:Nat))],H++[Blk.var false [lv],.var true [.int .i64 u.k,.int .i64 u.v,.str u.nm,pv],.var false [pm],.mp []]) =
   some (.ext 1,([(3,.hp H.length 0),(4,.hp (H.length+1) 0),(5,.hp (H.length+2) 0),(7,.int .i64 i),(8,.hm (H.length+3)),(53,qv),(54,.int .i64 ps.length),(55,.int .i64 ps.length),(56,.bool false)],b))∧PI l lv d H u pv pm params args ps ps.length b es:=by
 have hb13:=bef_144_13
 simp [opsF,opsAt,Tryz.f144] at hb13
 obtain ⟨e,st,hlp,hq'⟩:=loop_up (M:=MX) (fid:=144) (N:=118) (C:=callW MX) (c:=loopC Tryz.f144 0) (n:=ps.length)
  (fun j (b:Heap×List (Bytes×AV))=>([(3,.hp H.length 0),(4,.hp (H.length+1) 0),(5,.hp (H.length+2) 0),(7,.int .i64 i),(8,.hm (H.length+3)),(53,qv),(54,.int .i64 ps.length),(55,.int .i64 j)],b.1))
  (fun j b=>PI l lv d H u pv pm params args ps j b.1 b.2)
  (fun r=>∃ b:Heap×List (Bytes×AV),r=(.ext 1,([(3,.hp H.length 0),(4,.hp (H.length+1) 0),(5,.hp (H.length+2) 0),(7,.int .i64 i),(8,.hm (H.length+3)),(53,qv),(54,.int .i64 ps.length),(55,.int .i64 ps.length),(56,.bool false)],b.1))∧PI l lv d H u pv pm params args ps ps.length b.1 b.2) (fun j b hj hI=>by
    obtain ⟨b,es⟩:=b
    have hI:PI l lv d H u pv pm params args ps j b es:=hI
    have hj':=lt_cast hj
    have hw:=wr_next hj hpl
    obtain ⟨pe,hpe,hpR⟩:=hq.ix hj
    have hpR:pe=[.str ps[j]]:=hpR
    subst hpR
    have hju:j<u.ps.length:=by omega
    obtain ⟨fe,hfe,hfR⟩:=hpv.ix hju
    have hle:=hI.le
    have hn0:=hua _ (List.getElem_mem hju)
    -- the map with the thunk
    let F:=AV.fn 178 [] [.hp H.length 0,.hp (H.length+1) 0,.hp b.length 0,.hp (H.length+2) 0]
    let b1:=(b++[Blk.var false [.int .i64 j]]).set (H.length+3) (.mp (mpE (putE ps[j] F es)))
    have hup:=upA_mp (get_app hI.bo [Blk.var false [.int .i64 j]]) ps[j] F
    have hb1:b1[H.length+3]? = some (.mp (mpE (putE ps[j] F es))):=List.getElem?_set_self (by simp;omega)
    have hk1:∀ x,x<b.length→x≠H.length+3→b1[x]? = b[x]? := fun x h1 h2=>by
     show ((b++_).set _ _)[x]? = _
     rw [List.getElem?_set_ne (fun e=>h2 e.symm),List.getElem?_append_left h1]
    have hbb1:b1[H.length+1]? = some (.var true [.int .i64 u.k,.int .i64 u.v,.str u.nm,pv]):=by rw [hk1 _ (by omega) (by omega)];exact hI.bb
    have hbe1:b1[H.length+2]? = some (.var false [pm]):=by rw [hk1 _ (by omega) (by omega)];exact hI.be
    have hbn1:b1[b.length]? = some (.var false [.int .i64 j]):=by
     show ((b++_).set _ _)[b.length]? = _
     rw [List.getElem?_set_ne (by omega)];simp
    have hb1l:b1.length=b.length+1:=by simp [b1]
    -- what numbers does
    obtain ⟨es',h179,hne,hff⟩:∃ es',doCall MX (callW MX) 179 [.hm (H.length+3),.str ps[j],.agg fe,pm] b1=some (.ret (.tup []),(b++[Blk.var false [.int .i64 j],.var false fe]).set (H.length+3) (.mp (mpE es')))∧(∀ q,q≠ps[j]→getE q es'=getE q es) ∧
      ∃ f,getE ps[j] es'=some f∧CloOK l lv (d+1) (fun x=>x<(b++[Blk.var false [.int .i64 j],.var false fe]).length∧x≠H.length+3) ((b++[Blk.var false [.int .i64 j],.var false fe]).set (H.length+3) (.mp (mpE es'))) f (repl params args u.ps[j]):=by
     obtain ⟨n2,n1,n0⟩:=c179 hfR hb1 ps[j] pm
     have hset:∀ es'',(b1++[Blk.var false fe]).set (H.length+3) (.mp (mpE es''))=(b++[Blk.var false [.int .i64 j],.var false fe]).set (H.length+3) (.mp (mpE es'')):=fun es''=>by
      show ((b++_).set _ _++_).set _ _=_
      rw [set_app2 _ _ (by simp;omega)]
      simp
     have hkk:∀ es'' x,x<b.length→x≠H.length+3→((b++[Blk.var false [.int .i64 j],.var false fe]).set (H.length+3) (.mp (mpE es'')))[x]? = b[x]? := fun es'' x h1 h2=>by
      rw [List.getElem?_set_ne (fun e=>h2 e.symm),List.getElem?_append_left h1]
     have hkH:∀ es'' x,S x→((b++[Blk.var false [.int .i64 j],.var false fe]).set (H.length+3) (.mp (mpE es'')))[x]? = H[x]? := fun es'' x hx=>by
      have:=hS x hx
      rw [hkk es'' x (by omega) (by omega)]
      exact hI.old x (hS x hx)
     have hSS:∀ x,S x→x<(b++[Blk.var false [.int .i64 j],.var false fe]).length∧x≠H.length+3:=fun x hx=>by
      have:=hS x hx
      simp;omega
     have hkind:(u.ps[j].k=0∨u.ps[j].k=1∨u.ps[j].k=2)∧(u.ps[j].k≠0→(repl params args u.ps[j]).k=u.ps[j].k∧(repl params args u.ps[j]).v=u.ps[j].v):=by
      generalize u.ps[j]=t at hn0
      cases t with
      | mk k v nm qs=>
       rw [rNodeErr_zero] at hn0
       refine ⟨?_,fun h => ?_⟩
       ·show k=0∨k=1∨k=2
        have:=hn0.1
        omega
       ·have h:¬ k=0:=h
        simp only [repl,h,if_false]
        exact ⟨rfl,rfl⟩
     obtain ⟨hk3,hkv⟩:=hkind
     rcases hk3 with hk | hk | hk
     ·-- a parameter
      obtain ⟨i',hi',hp',hti⟩:∃ i',∃ hi:i'<params.length,params[i']=u.ps[j].nm∧args[i']'(by omega)=repl params args u.ps[j]:=by
       generalize u.ps[j]=t at hn0 hk
       cases t with
       | mk k v nm qs=>
        have hk:k=0:=hk
        subst hk
        rw [rNodeErr_zero] at hn0
        have hne:=hn0.2.1 rfl
        cases hf:params.findIdx? (fun x=>x == nm) with
        | none=>exact absurd hf hne
        | some i=>
         have hil:=fi_lt hf
         have hnm:params[i]=nm:=by
          have h3:=hf
          rw [List.findIdx?_eq_some_iff_getElem] at h3
          exact beq_iff_eq.1 h3.2.1
         refine ⟨i,hil,hnm,?_⟩
         simp only [repl,if_true,hf]
         rw [List.getD_eq_getElem?_getD,List.getElem?_eq_getElem (by omega)]
         rfl
      rcases hE with ⟨h0,_⟩ | ⟨id,es0,hid,rfl,hmp,hfn⟩
      ·rw [h0] at hi';cases hi'
      obtain ⟨f,hf,hC⟩:=hfn i' _ _ (List.getElem?_eq_getElem hi') (List.getElem?_eq_getElem (by omega))
      rw [hp'] at hf
      rw [hti] at hC
      have hidl:=hS id hid
      have hmp1:(b1++[Blk.var false fe])[id]? = some (.mp (mpE es0)):=by
       rw [List.getElem?_append_left (by omega),hk1 id (by omega) (by omega),hI.old id hidl]
       exact hmp
      refine ⟨putE ps[j] f (putE ps[j] F es),by rw [n0 f hk (lkA_mp hmp1 hf),hset],fun q hq=>by rw [getE_ne hq,getE_ne hq],f,getE_put _ _ _,?_⟩
      exact CloOK.up d (CloOK.mono d hC hSS (hkH _))
     ·-- a thunk
      refine ⟨putE ps[j] F es,by
       rw [n1 hk]
       show some (_,(b++_).set _ _++_)=_
       rw [set_app1 _ (by simp;omega)]
       simp,fun q hq=>getE_ne hq _ _,F,getE_put _ _ _,.inr ⟨by rw [(hkv (by omega)).1];exact hk,H.length,H.length+1,b.length,H.length+2,false,true,false,false,u,_,pm,params,args,j,hju,rfl,⟨by simp;omega,by omega⟩,⟨by simp;omega,by omega⟩,⟨by simp,by omega⟩,⟨by simp;omega,by omega⟩,by rw [hkk _ _ (by omega) (by omega)];exact hI.ba,by rw [hkk _ _ (by omega) (by omega)];exact hI.bb,?_,by rw [List.getElem?_set_ne (by omega)];simp,by rw [hkk _ _ (by omega) (by omega)];exact hI.be,hE.mono (fun f t h=>CloOK.mono d h hSS (hkH _)) hSS (hkH _),hn0,hva,hln,rfl⟩⟩
      exact hu
     ·-- a number
      refine ⟨putE ps[j] (.fn 198 [] [.hp b1.length 0]) (putE ps[j] F es),by rw [n2 hk,hset],fun q hq=>by rw [getE_ne hq,getE_ne hq],_,getE_put _ _ _,.inl ⟨by rw [(hkv (by omega)).1];exact hk,b1.length,false,u.ps[j],fe,rfl,⟨by rw [hb1l];simp,by omega⟩,?_,hfR,(hkv (by omega)).2.symm⟩⟩
      rw [hb1l,List.getElem?_set_ne (by omega)]
      simp
    refine .inl ⟨((b++[Blk.var false [.int .i64 j],.var false fe]).set (H.length+3) (.mp (mpE es')),es'),?_,hI.step hnd (List.getElem?_eq_getElem hj) (List.getElem?_eq_getElem hju) hne hff⟩
    simp only [F] at hup
    have hcp:=hE.cells
    obtain ⟨tv,rfl,htv⟩:=hfR.dest'
    obtain ⟨G,hG⟩:∃ G,G=b1:=⟨_,rfl⟩
    have hG':(b++[Blk.var false [.int .i64 j]]).set (H.length+3) (.mp (mpE (putE ps[j] (.fn 178 [] [.hp H.length 0,.hp (H.length+1) 0,.hp b.length 0,.hp (H.length+2) 0]) es)))=G:=hG.symm
    rw [hG'] at hup
    rw [← hG] at h179 hbb1 hbe1 hbn1
    simp [Tryz.f144,hj',hpe,hup,hw,hb13,hbb1,hbe1,hbn1,get_of hbb1,get_of hbe1,get_of hbn1,hfe,h179]) (fun b hI=>by
    exact ⟨_,_,by simp [Tryz.f144] <;> first | exact ⟨rfl,rfl⟩ | rfl,by simp,b,rfl,hI⟩) (H++[Blk.var false [lv],.var true [.int .i64 u.k,.int .i64 u.v,.str u.nm,pv],.var false [pm],.mp []],[]) ⟨fun x hx=>List.getElem?_append_left hx,by simp,by simp,by simp,by simp [mpE],by simp,fun m p t h=>by omega⟩
 obtain ⟨⟨b,es⟩,hq',hI⟩:=hq'
 cases hq'
 exact ⟨b,es,hlp,hI⟩
end
def RowsAt (N:Nat) (Q:Nat→Prop) (b:Heap) (w:AV) (ns:List Bytes) (ss:List (List Sh)) (k lo:Nat):Prop:=(k=0∧w=.nils)∨∃ q es,k≠0∧¬ Q q∧lo<q∧q<b.length∧w=.hs q k 2 0 k false∧b[q]? = some (.arr 2 false es)∧es.length=k∧∀ (i:Nat) e nm parts,es[i]? = some e→ns[i]? = some nm→ss[i]? = some parts→∃ pv,e=[.str nm,pv]∧PtAt (SrtAt N Q b) Q b pv parts
theorem RowsAt.cells {N:Nat} {Q:Nat→Prop} {b:Heap} {w:AV} {ns:List Bytes} {ss:List (List Sh)} {k lo:Nat} (h:RowsAt N Q b w ns ss k lo):w.cells=some [w]:=by
 rcases h with ⟨_,rfl⟩ | ⟨q,es,_,_,_,_,rfl,_⟩ <;> rfl
theorem RowsAt.mono {N:Nat} {Q Q':Nat→Prop} {b b':Heap} {w:AV} {ns:List Bytes} {ss:List (List Sh)} {k lo:Nat} (h:RowsAt N Q b w ns ss k lo) (hl:b.length≤b'.length) (hQ:∀ x,Q x→Q' x) (hn:∀ x es,Q' x→¬ Q x→b[x]? = some (.arr 2 false es)→False) (hQb:∀ x,Q x→b'[x]? = b[x]?) (ha:∀ x es,lo<x→b[x]? = some (.arr 2 false es)→b'[x]? = b[x]?):RowsAt N Q' b' w ns ss k lo:=by
 rcases h with h | ⟨q,es,h0,h1,h2,h3,h4,h5,h6,h7⟩
 ·exact .inl h
 ·refine .inr ⟨q,es,h0,fun hq=>hn q es hq h1 h5,h2,by omega,h4,by rw [ha q es h2 h5];exact h5,h6,fun i e nm parts a c d => ?_⟩
  obtain ⟨pv,e1,e2⟩:=h7 i e nm parts a c d
  exact ⟨pv,e1,e2.mono (fun v s hv=>SrtAt.mono N hv hQ hQb) hQ hQb⟩
theorem RowsAt.push {N:Nat} {Q:Nat→Prop} {b b1:Heap} {w x:AV} {ns:List Bytes} {ss:List (List Sh)} {k lo:Nat} (h:RowsAt N Q b w ns ss k lo) (hQ:∀ x,Q x→x<b.length) (hlo:lo<b.length) {nm:Bytes} {pv:AV} {parts:List Sh} (hx:b1=b∧x=.sl 2 true [[.str nm,pv]]∨b1=b++[.arr 2 false [[.str nm,pv]]]∧x=.hs b.length 1 2 0 1 false) (hk:ns[k]? = some nm) (hs:ss[k]? = some parts) (hp:PtAt (SrtAt N Q b) Q b pv parts) (hkl:k<1048577) :
  ∃ w' b',apA 2 40 w x b1=some (w',b')∧w'.cells=some [w']∧RowsAt N Q b' w' ns ss (k+1) lo∧b.length≤b'.length∧∀ y,y<b.length→b'[y]? = b[y]? ∨ ∃ es,b[y]? = some (.arr 2 false es)∧¬ Q y∧lo<y:=by
 have hrd:rdElems b1 x=some [[.str nm,pv]]:=by
  rcases hx with ⟨rfl,rfl⟩ | ⟨rfl,rfl⟩
  ·rfl
  ·simp [rdElems,beq_d,ble_d]
 have hsz:szOk 2 x=true:=by rcases hx with ⟨_,rfl⟩ | ⟨_,rfl⟩ <;> simp [szOk,elemSz]
 have hnx:∀ s,x≠.str s:=fun s e=>by rcases hx with ⟨_,h⟩ | ⟨_,h⟩ <;> rw [h] at e <;> cases e
 have hap:∀ n,lenA w=some n→apA 2 40 w x b1=apX 2 40 w [[.str nm,pv]] n b1:=fun n hn=>by
  unfold apA
  cases x with
  | str s=>exact absurd rfl (hnx s)
  | _=>first | simp only [hsz,hrd,hn] | (simp only [rdElems] at hrd;cases hrd)
 have hb1:b.length≤b1.length∧∀ y,y<b.length→b1[y]? = b[y]? := by
  rcases hx with ⟨rfl,_⟩ | ⟨rfl,_⟩
  ·exact ⟨Nat.le_refl _,fun _ _=>rfl⟩
  ·exact ⟨by simp,fun y hy=>List.getElem?_append_left hy⟩
 obtain ⟨hb1l,hb1e⟩:=hb1
 rcases h with ⟨rfl,rfl⟩ | ⟨q,es,h0,h1,h2,h3,rfl,h5,h6,h7⟩
 ·refine ⟨.hs b1.length 1 2 0 1 false,b1++[.arr 2 false [[.str nm,pv]]],?_,rfl,.inr ⟨b1.length,[[.str nm,pv]],by simp,fun hq => ?_,by omega,by simp,rfl,by simp,rfl,fun i e nm' parts' a c d => ?_⟩,by simp;omega,fun y hy=> .inl ?_⟩
  ·rw [hap 0 rfl]
   simp [apX,szOk,elemSz,newArr,beq_d,ble_d,blt_d]
  ·have:=hQ _ hq;omega
  ·match i with
   | 0=>
    simp only [List.getElem?_cons_zero,Option.some.injEq] at a
    rw [hk] at c
    rw [hs] at d
    cases c;cases d
    exact ⟨pv,a.symm,hp.mono (fun v s hv=>SrtAt.mono N hv (fun _ h=>h) (fun x hx=>by rw [List.getElem?_append_left (by have:=hQ x hx;omega)];exact hb1e x (hQ x hx))) (fun _ h=>h) (fun x hx=>by rw [List.getElem?_append_left (by have:=hQ x hx;omega)];exact hb1e x (hQ x hx))⟩
   | i+1=>simp at a
  ·rw [List.getElem?_append_left (by omega)]
   exact hb1e y hy
 ·have e2:(k+1) * 40≤17592186044416:=by omega
  have e3:k+1≤17592186044416:=by omega
  have h5':b1[q]? = some (.arr 2 false es):=by rw [hb1e q h3];exact h5
  have hpres:∀ x,Q x→(b1.set q (.arr 2 false (es++[[.str nm,pv]])))[x]? = b[x]? := fun x hx=>by
   rw [List.getElem?_set_ne (fun e=>h1 (by rw [e];exact hx))]
   exact hb1e x (hQ x hx)
  refine ⟨.hs q (k+1) 2 0 (k+1) false,b1.set q (.arr 2 false (es++[[.str nm,pv]])),?_,rfl,.inr ⟨q,es++[[.str nm,pv]],by simp,h1,h2,by simp;omega,rfl,List.getElem?_set_self (by omega),by simp [h6],fun i e nm' parts' a c d => ?_⟩,by simp;omega,fun y hy => ?_⟩
  ·rw [hap k rfl]
   have e4:List.take k es=es:=List.take_of_length_le (by omega)
   simp [apX,szOk,elemSz,newArr,beq_d,ble_d,blt_d,e2,e3,h5',h6,e4]
  ·by_cases hi:i<es.length
   ·rw [List.getElem?_append_left hi] at a
    obtain ⟨pv',e1,e2⟩:=h7 i e nm' parts' a c d
    exact ⟨pv',e1,e2.mono (fun v s hv=>SrtAt.mono N hv (fun _ h=>h) hpres) (fun _ h=>h) hpres⟩
   ·have hi2:i=k:=by
     have:=(List.getElem?_eq_some_iff.1 a).1
     simp at this
     omega
    subst hi2
    rw [hk] at c
    rw [hs] at d
    cases c;cases d
    have a':[.str nm,pv]=e:=by rw [← h6] at a;simpa using a
    exact ⟨pv,a'.symm,hp.mono (fun v s hv=>SrtAt.mono N hv (fun _ h=>h) hpres) (fun _ h=>h) hpres⟩
  ·by_cases hyq:q=y
   ·subst hyq;exact .inr ⟨es,h5,h1,h2⟩
   ·exact .inl (by rw [List.getElem?_set_ne hyq];exact hb1e y hy)
theorem CurS.done2 {n:Nat} {Q:Nat→Prop} {lo:Nat} {b:Heap} {pv:AV} {parts:List Sh} (h:CurS n Q lo b pv parts):∃ Q':Nat→Prop,(∀ x,Q x→Q' x)∧(∀ x,Q' x→Q x∨lo≤x∧x<b.length∧∃ es,b[x]? = some (.arr 1 false es))∧PtAt (SrtAt n Q' b) Q' b pv parts:=by
 rcases h with h | ⟨q,ptrs,h0,h1,h2,h3,h4,h5,h6,h7⟩
 ·exact ⟨Q,fun _ h=>h,fun x h=> .inl h,.inl h⟩
 ·refine ⟨fun x=>Q x∨x=q,fun x h=> .inl h,fun x hx => ?_,.inr ⟨q,ptrs,h0,.inr rfl,h4,h5,h6,fun k p s a c => ?_⟩⟩
  ·rcases hx with hx | rfl
   ·exact .inl hx
   ·exact .inr ⟨h2,h3,ptrs,h5⟩
  ·obtain ⟨v,e,f⟩:=h7 k p s a c
   exact ⟨v,e,SrtAt.mono n f (fun x h=> .inl h) (fun _ _=>rfl)⟩
structure SI (K:Heap) (N:Nat) (Q:Nat→Prop) (b:Heap) (w:AV) (ns:List Bytes) (ss:List (List Sh)) (k:Nat):Prop where
 ext:∀ x,x<K.length→b[x]? = K[x]?
 o:b[K.length]? = some (.var false [.int .i64 0,w])
 len:K.length<b.length
 q:∀ x,Q x→K.length<x∧x<b.length
 rows:RowsAt N Q b w ns ss k K.length
theorem fields144 {l:List DataV} {lv:AV} {d:Nat} {K:Heap} {a own:Nat} (ha:K[a]? = some (.var false [lv])) {ps:List Bytes} {args:List TyV} (hE:EnvAt (CloOK l lv d (fun x=>x<K.length) K) (fun x=>x<K.length) K (.hm own) ps args) (hva:∀ x∈args,VT l x) (hln:ps.length=args.length)
  {fs:List FieldV} {fv:AV} (hfv:SlR FieldRep 5 fs fv) (hfl:fs.length<1048577) (hfe:∀ f∈fs,rNodeErr l ps f.ty=0) {parts:List Sh} (hpl:parts.length=fs.length) {N:Nat} (hN:∀ x∈parts,shD x≤N) (ih:∀ (m:Nat) f x,fs[m]? = some f→parts[m]? = some x→SrtOK l lv d (repl ps args f.ty) x)
  {Q0:Nat→Prop} {b0:Heap} {w cv:AV} {ns:List Bytes} {ss:List (List Sh)} {k cl:Nat} (h0:SI K N Q0 b0 w ns ss k) {c2:Nat} {nm:Bytes} (hc2:b0[c2]? = some (.var false [.str nm,.nils])) (hc2l:K.length<c2) (hc2q:¬ Q0 c2) :
  ∃ (b:Heap) (Q:Nat→Prop) (pv:AV),loopH MX 144 118 (callW MX) (loopC Tryz.f144 2) ([(3,.hp a 0),(8,.hm own),(11,.hp K.length 0),(14,.hp c2 0),(79,cv),(80,.int .i64 cl),(81,.int .i64 k),(89,fv),(90,.int .i64 fs.length),(91,.int .i64 (0:Nat))],b0) =
   some (.ext 5,([(3,.hp a 0),(8,.hm own),(11,.hp K.length 0),(14,.hp c2 0),(79,cv),(80,.int .i64 cl),(81,.int .i64 k),(89,fv),(90,.int .i64 fs.length),(91,.int .i64 fs.length),(92,.bool false)],b))∧SI K N Q b w ns ss k∧b[c2]? = some (.var false [.str nm,pv])∧¬ Q c2∧CurS N Q (K.length+1) b pv parts:=by
 have hb23:=bef_144_23
 simp [opsF,opsAt,Tryz.f144] at hb23
 have hal:=(List.getElem?_eq_some_iff.1 ha).1
 obtain ⟨e,st,hlp,hq⟩:=loop_up (M:=MX) (fid:=144) (N:=118) (C:=callW MX) (c:=loopC Tryz.f144 2) (n:=fs.length)
  (fun m (b:Heap)=>([(3,.hp a 0),(8,.hm own),(11,.hp K.length 0),(14,.hp c2 0),(79,cv),(80,.int .i64 cl),(81,.int .i64 k),(89,fv),(90,.int .i64 fs.length),(91,.int .i64 m)],b))
  (fun m b=>∃ Q pv,SI K N Q b w ns ss k∧b[c2]? = some (.var false [.str nm,pv])∧¬ Q c2∧CurS N Q (K.length+1) b pv (parts.take m))
  (fun r=>∃ b Q pv,r=(.ext 5,([(3,.hp a 0),(8,.hm own),(11,.hp K.length 0),(14,.hp c2 0),(79,cv),(80,.int .i64 cl),(81,.int .i64 k),(89,fv),(90,.int .i64 fs.length),(91,.int .i64 fs.length),(92,.bool false)],b))∧SI K N Q b w ns ss k∧b[c2]? = some (.var false [.str nm,pv])∧¬ Q c2∧CurS N Q (K.length+1) b pv parts) (fun m b hm hI=>by
    obtain ⟨Q,pv,hS,hcon,hnq,hC⟩:=hI
    obtain ⟨fe,hfe',hR⟩:=hfv.ix hm
    have hm':=lt_cast hm
    have hw:=wr_next hm hfl
    have hmp:m<parts.length:=by omega
    obtain ⟨tx,rfl,htx⟩:=hR
    have hmem:=List.getElem_mem hm
    have hcl:=(List.getElem?_eq_some_iff.1 hcon).1
    have hKb:=hS.len
    let b1:=b++[Blk.var false (.str fs[m].nm::tx)]
    have hK1:∀ x,x<K.length→b1[x]? = K[x]? := fun x hx=>by
     rw [List.getElem?_append_left (by omega)];exact hS.ext x hx
    obtain ⟨v,H',hcall,hlen,hold,hsrt⟩:=ih m _ _ (List.getElem?_eq_getElem hm) (List.getElem?_eq_getElem hmp) fs[m].ty tx ps args (.hm own) (fun x=>x<K.length) b1 htx (hfe _ hmem) hva hln rfl (fun x hx=>by simp [b1];omega) (hE.mono (fun f t h=>CloOK.mono d h (fun _ h=>h) hK1) (fun _ h=>h) hK1)
    have hb1l:b1.length=b.length+1:=by simp [b1]
    have hold':∀ x,x<b.length→H'[x]? = b[x]? := fun x hx=>by
     rw [hold x (by omega)];exact List.getElem?_append_left hx
    obtain ⟨id,hid⟩:=hsrt.hp
    have hQl:∀ x,Q x→x<b.length:=fun x hx=>(hS.q x hx).2
    have hC1:CurS N (fun x=>Q x∨b.length+1≤x∧x<H'.length) (K.length+1) H' pv (parts.take m):=hC.mono (by omega) (fun x h=> .inl h) (fun x h h2=>by rcases h with h | h;exact absurd h h2;omega) (fun x hx=>hold' x (hQl x hx)) (fun x es hx hbx=>hold' x (List.getElem?_eq_some_iff.1 hbx).1)
    obtain ⟨pv',b2,k1,k2,k3,k4,k5⟩:=hC1.push (v:=v) (s:=parts[m]) (fun x hx=>by rcases hx with hx | hx;have:=hQl x hx;omega;omega) (by omega) (SrtAt.mono _ (hsrt.le (hN _ (List.getElem_mem hmp))) (fun x hx=> .inr (by rw [hb1l] at hx;exact hx)) (fun _ _=>rfl)) (by rw [List.length_take];omega)
    have htk:parts.take m++[parts[m]]=parts.take (m+1):=by simp
    rw [htk] at k3
    have hconH:H'[c2]? = some (.var false [.str nm,pv]):=by rw [hold' c2 hcl];exact hcon
    have hcon2:b2[c2]? = some (.var false [.str nm,pv]):=by
     rcases k5 c2 (by omega) with h | ⟨_,h,_⟩
     ·rw [h];exact hconH
     ·rw [hconH] at h;cases h
    have hlast:=get_last b (Blk.var false (.str fs[m].nm::tx))
    have ha1:b1[a]? = some (.var false [lv]):=by rw [hK1 a hal];exact ha
    have hcon1:b1[c2]? = some (.var false [.str nm,pv]):=get_app hcon _
    have m1:(c2∈mods 0 b1 H')=False:=mods_ne0 (by omega) (hold c2 (by omega))
    have hne:¬ c2=H'.length:=by omega
    have hset:∀ x,x≠c2→(b2.set c2 (.var false [.str nm,pv']))[x]? = b2[x]? := fun x hx=>List.getElem?_set_ne (fun e=>hx e.symm)
    have hK2:∀ x,x≤K.length→b2[x]? = b[x]? := fun x hx=>by
     rcases k5 x (by omega) with h | ⟨_,_,_,h⟩
     ·rw [h];exact hold' x (by omega)
     ·omega
    have hQ2:∀ x,(Q x∨b.length+1≤x∧x<H'.length)→x≠c2∧b2[x]? = H'[x]? := fun x hx=>by
     refine ⟨fun e => ?_,?_⟩
     ·subst e
      rcases hx with h | h
      ·exact hnq h
      ·omega
     ·have hxl:x<H'.length:=by
       rcases hx with h | h
       ·have:=hQl x h;omega
       ·exact h.2
      rcases k5 x hxl with h | ⟨_,_,h,_⟩
      ·exact h
      ·exact absurd hx h
    refine .inl ⟨b2.set c2 (.var false [.str nm,pv']),?_,fun x=>Q x∨b.length+1≤x∧x<H'.length,pv',⟨fun x hx => ?_,?_,by simp;omega,fun x hx => ?_,?_⟩,?_,?_,?_⟩
    ·obtain ⟨qv,rfl,hqv⟩:=htx.dest'
     rw [hid] at hcall k1
     have hcc:=hC.cells
     have hcallb:∀ y,b1=y→doCall MX (callW MX) 144 [lv,.agg [.int .i64 fs[m].ty.k,.int .i64 fs[m].ty.v,.str fs[m].ty.nm,qv],.hm own] y=some (.ret (.hp id 0),H'):=fun y hy=>hy ▸ hcall
     have hcall2:=hcallb _ rfl
     have ha2:(b++[Blk.var false [.str fs[m].nm,.int .i64 fs[m].ty.k,.int .i64 fs[m].ty.v,.str fs[m].ty.nm,qv]])[a]? = some (.var false [lv]):=ha1
     have hc21:(b++[Blk.var false [.str fs[m].nm,.int .i64 fs[m].ty.k,.int .i64 fs[m].ty.v,.str fs[m].ty.nm,qv]])[c2]? = some (.var false [.str nm,pv]):=hcon1
     have m1':(c2∈mods 0 (b++[Blk.var false [.str fs[m].nm,.int .i64 fs[m].ty.k,.int .i64 fs[m].ty.v,.str fs[m].ty.nm,qv]]) H')=False:=m1
     simp only [b1] at hcall2
     simp [Tryz.f144,hm',hfe',hlast,get_of hlast,ha2,get_of ha2,hc21,get_of hc21,hcall2,hb23,m1',hne,hcc,bsA,fillE,List.replicate,newArr,noRefs,AV.noRef,k1,k2,hcon2,get_of hcon2,hw]
    ·rw [hset x (by omega),hK2 x (by omega)];exact hS.ext x hx
    ·rw [hset _ (by omega),hK2 _ (by omega)];exact hS.o
    ·rcases hx with h | h
     ·have:=hS.q x h;simp;omega
     ·simp;omega
    ·refine hS.rows.mono (by simp;omega) (fun x h=> .inl h) (fun x es h1 h2 h3 => ?_) (fun x hx => ?_) (fun x es hx hbx => ?_)
     ·have:=(List.getElem?_eq_some_iff.1 h3).1
      rcases h1 with h | h
      ·exact h2 h
      ·omega
     ·obtain ⟨e1,e2⟩:=hQ2 x (.inl hx)
      rw [hset x e1,e2];exact hold' x (hQl x hx)
     ·have hxl:=(List.getElem?_eq_some_iff.1 hbx).1
      have hxc:x≠c2:=fun e=>by rw [e,hcon] at hbx;cases hbx
      rw [hset x hxc]
      rcases k5 x (by omega) with h | ⟨_,h,_⟩
      ·rw [h];exact hold' x hxl
      ·rw [hold' x hxl,hbx] at h;cases h
    ·exact List.getElem?_set_self (by omega)
    ·rintro (h | h)
     ·exact hnq h
     ·omega
    ·refine k3.mono (by simp) (fun _ h=>h) (fun x h1 h2=>absurd h1 h2) (fun x hx=>hset x (hQ2 x hx).1) (fun x es hx hbx=>hset x (fun e=>by rw [e,hcon2] at hbx;cases hbx))) (fun b hI=>by
    obtain ⟨Q,pv,hS,hcon,hnq,hC⟩:=hI
    rw [List.take_of_length_le (by omega)] at hC
    exact ⟨_,_,by simp [Tryz.f144] <;> first | exact ⟨rfl,rfl⟩ | rfl,by simp,b,Q,pv,rfl,hS,hcon,hnq,hC⟩) b0 ⟨Q0,.nils,h0,hc2,hc2q,.inl ⟨by simp,rfl⟩⟩
 obtain ⟨b,Q,pv,hq,g1,g2,g3,g4⟩:=hq
 cases hq
 exact ⟨b,Q,pv,hlp,g1,g2,g3,g4⟩
theorem cons144 {l:List DataV} {lv:AV} {d:Nat} {K:Heap} {a own:Nat} (ha:K[a]? = some (.var false [lv])) {ps:List Bytes} {args:List TyV} (hE:EnvAt (CloOK l lv d (fun x=>x<K.length) K) (fun x=>x<K.length) K (.hm own) ps args) (hva:∀ x∈args,VT l x) (hln:ps.length=args.length)
  {cs:List ConV} {cv:AV} (hcv:SlR ConRep 2 cs cv) (hcl:cs.length<1048577) (hfl:∀ c∈cs,c.fields.length<1048577) (hfe:∀ c∈cs,∀ f∈c.fields,rNodeErr l ps f.ty=0) {ss:List (List Sh)} (hss:ss.length=cs.length) (hsp:∀ (i:Nat) c s,cs[i]? = some c→ss[i]? = some s→s.length=c.fields.length) {N:Nat} (hN:∀ s∈ss,∀ x∈s,shD x≤N)
  (ih:∀ (i:Nat) c s (m:Nat) f x,cs[i]? = some c→ss[i]? = some s→c.fields[m]? = some f→s[m]? = some x→SrtOK l lv d (repl ps args f.ty) x) :
  ∃ (b:Heap) (Q:Nat→Prop) (w:AV),loopH MX 144 118 (callW MX) (loopC Tryz.f144 1) ([(3,.hp a 0),(8,.hm own),(11,.hp K.length 0),(79,cv),(80,.int .i64 cs.length),(81,.int .i64 (0:Nat))],K++[Blk.var false [.int .i64 0,.nils]]) =
   some (.ext 3,([(3,.hp a 0),(8,.hm own),(11,.hp K.length 0),(79,cv),(80,.int .i64 cs.length),(81,.int .i64 cs.length),(82,.bool false)],b))∧SI K N Q b w (cs.map (·.nm)) ss cs.length:=by
 have hb25:=bef_144_25
 simp [opsF,opsAt,Tryz.f144] at hb25
 obtain ⟨e,st,hlp,hq⟩:=loop_up (M:=MX) (fid:=144) (N:=118) (C:=callW MX) (c:=loopC Tryz.f144 1) (n:=cs.length)
  (fun k (b:Heap)=>([(3,.hp a 0),(8,.hm own),(11,.hp K.length 0),(79,cv),(80,.int .i64 cs.length),(81,.int .i64 k)],b))
  (fun k b=>∃ Q w,SI K N Q b w (cs.map (·.nm)) ss k)
  (fun r=>∃ b Q w,r=(.ext 3,([(3,.hp a 0),(8,.hm own),(11,.hp K.length 0),(79,cv),(80,.int .i64 cs.length),(81,.int .i64 cs.length),(82,.bool false)],b))∧SI K N Q b w (cs.map (·.nm)) ss cs.length) (fun k b hk hI=>by
    obtain ⟨Q,w,hS⟩:=hI
    obtain ⟨ce,hce,hR⟩:=hcv.ix hk
    have hk':=lt_cast hk
    have hw:=wr_next hk hcl
    have hks:k<ss.length:=by omega
    obtain ⟨fv,rfl,hfv⟩:=hR.dest
    have hmem:=List.getElem_mem hk
    have hcg:=List.getElem?_eq_getElem hk
    have hsg:=List.getElem?_eq_getElem hks
    have hlen:=hS.len
    obtain ⟨b0,hb0⟩:∃ b0,b0=b++[Blk.var false [.str cs[k].nm,fv],Blk.var false [.str cs[k].nm,.nils]]:=⟨_,rfl⟩
    have hb0l:b0.length=b.length+2:=by rw [hb0];simp
    have hb0o:∀ x,x<b.length→b0[x]? = b[x]? := fun x hx=>by rw [hb0];exact List.getElem?_append_left hx
    have hS0:SI K N Q b0 w (cs.map (·.nm)) ss k:=⟨fun x hx=>by rw [hb0o x (by omega)];exact hS.ext x hx,by rw [hb0o _ (by omega)];exact hS.o,by omega,fun x hx=>by have:=hS.q x hx;omega,hS.rows.mono (by omega) (fun _ h=>h) (fun x es h1 h2=>absurd h1 h2) (fun x hx=>hb0o x (hS.q x hx).2) (fun x es _ hbx=>hb0o x (List.getElem?_eq_some_iff.1 hbx).1)⟩
    have hc2:b0[b.length+1]? = some (.var false [.str cs[k].nm,.nils]):=by rw [hb0];simp
    obtain ⟨b',Q',pv,f1,g1,g2,g3,g4⟩:=fields144 ha hE hva hln hfv (hfl _ hmem) (hfe _ hmem) (hsp k _ _ hcg hsg) (hN _ (List.getElem_mem hks)) (fun m f x h1 h2=>ih k _ _ m f x hcg hsg h1 h2) (cv:=cv) (cl:=cs.length) hS0 hc2 (by omega) (fun h=>by have:=(hS.q _ h).2;omega)
    have hcc:=g4.cells
    obtain ⟨Q2,q1,q2,q3⟩:=g4.done2
    have g2l:=(List.getElem?_eq_some_iff.1 g2).1
    have glen:=g1.len
    have hQ2:∀ x,Q2 x→K.length<x∧x<b'.length:=fun x hx=>by
     rcases q2 x hx with h | ⟨h1,h2,_⟩
     ·exact g1.q x h
     ·omega
    have hrows:=g1.rows.mono (Q':=Q2) (Nat.le_refl _) q1 (fun x es h1 h2 h3=>by
     rcases q2 x h1 with h | ⟨_,_,es',h⟩
     ·exact h2 h
     ·rw [h] at h3;cases h3) (fun _ _=>rfl) (fun _ _ _ _=>rfl)
    have hwc:=hrows.cells
    simp [Tryz.f144,hb0] at f1
    have hlast0:(b++[Blk.var false [.str cs[k].nm,fv]])[b.length]? = some (.var false [.str cs[k].nm,fv]):=get_last _ _
    have hlast1:(b++[Blk.var false [.str cs[k].nm,fv],Blk.var false [.str cs[k].nm,.nils]])[b.length]? = some (.var false [.str cs[k].nm,fv]):=by simp
    have hne:¬ K.length=b'.length:=by omega
    -- with the row x
    have fin:∀ (x:AV) (b1:Heap) ,(b1=b'∧x=.sl 2 true [[.str cs[k].nm,pv]]∨b1=b'++[.arr 2 false [[.str cs[k].nm,pv]]]∧x=.hs b'.length 1 2 0 1 false)→∃ w' b'',apA 2 40 w x b1=some (w',b'')∧w'.cells=some [w']∧b''[K.length]? = some (.var false [.int .i64 0,w])∧SI K N Q2 (b''.set K.length (.var false [.int .i64 0,w'])) w' (cs.map (·.nm)) ss (k+1):=by
     intro x b1 hx
     obtain ⟨w',b'',p1,p2,p3,p4,p5⟩:=hrows.push (fun x hx=>(hQ2 x hx).2) glen hx (by rw [List.getElem?_map,hcg];rfl) hsg q3 (by omega)
     have hset:∀ y,y≠K.length→(b''.set K.length (.var false [.int .i64 0,w']))[y]? = b''[y]? := fun y hy=>List.getElem?_set_ne (fun e=>hy e.symm)
     refine ⟨w',b'',p1,p2,?_,fun y hy => ?_,List.getElem?_set_self (by omega),by simp;omega,fun y hy => ?_,?_⟩
     ·rcases p5 K.length (by omega) with h | ⟨_,h,_⟩
      ·rw [h];exact g1.o
      ·rw [g1.o] at h;cases h
     ·rw [hset y (by omega)]
      rcases p5 y (by omega) with h | ⟨_,_,_,h⟩
      ·rw [h];exact g1.ext y hy
      ·omega
     ·have:=hQ2 y hy
      simp;omega
     ·exact p3.mono (by simp) (fun _ h=>h) (fun y es h1 h2=>absurd h1 h2) (fun y hy=>hset y (by have:=(hQ2 y hy).1;omega)) (fun y es hy _=>hset y (by omega))
    have go:=g1.o
    cases hpn:pv.noRef with
    | true=>
     obtain ⟨w',b'',p1,p2,p3,p4⟩:=fin _ _ (.inl ⟨rfl,rfl⟩)
     exact .inl ⟨b''.set K.length (.var false [.int .i64 0,w']),by simp [Tryz.f144,hk',hce,hlast0,hlast1,hfv.cells,hfv.len,f1,hw,go,get_of go,g2,get_of g2,hb25,hcc,hwc,hpn,bsA,fillE,List.replicate,noRefs,AV.noRef,p1,p2,p3,get_of p3],Q2,w',p4⟩
    | false=>
     obtain ⟨w',b'',p1,p2,p3,p4⟩:=fin _ _ (.inr ⟨rfl,rfl⟩)
     exact .inl ⟨b''.set K.length (.var false [.int .i64 0,w']),by simp [Tryz.f144,hk',hce,hlast0,hlast1,hfv.cells,hfv.len,f1,hw,go,get_of go,g2,get_of g2,hb25,hcc,hwc,hpn,hne,newArr,bsA,fillE,List.replicate,noRefs,AV.noRef,p1,p2,p3,get_of p3],Q2,w',p4⟩) (fun b hI=>by
    obtain ⟨Q,w,hS⟩:=hI
    exact ⟨_,_,by simp [Tryz.f144] <;> first | exact ⟨rfl,rfl⟩ | rfl,by simp,b,Q,w,rfl,hS⟩) (K++[Blk.var false [.int .i64 0,.nils]]) ⟨fun _=>False,.nils,⟨fun x hx=>List.getElem?_append_left hx,by simp,by simp,fun x h=>h.elim,.inl ⟨rfl,rfl⟩⟩⟩
 obtain ⟨b,Q,w,hq,hS⟩:=hq
 cases hq
 exact ⟨b,Q,w,hlp,hS⟩
section
variable {l:List DataV} {lv:AV} (hl:SlR DataRep 3 l lv) (hll:l.length<1048577)
include hl hll
theorem bool144 {u:TyV} {xs:List AV} {pm:AV} (hpm:pm.cells=some [pm]) {H:Heap} (hu:TyRep u xs) (hk:u.k=1) (hb:(u.nm == bitS)=false) (hf:l.findIdx? (fun d=>d.nm == u.nm)=none) {ss:List (List Sh)} (hs2:ss.length=2) (hs0:∀ s∈ss,s=[]) :
  ∃ v H',doCall MX (callW MX) 144 [lv,.agg xs,pm] H=some (.ret v,H')∧H.length≤H'.length∧(∀ x,x<H.length→H'[x]? = H[x]?)∧SrtAt (shD (.cons [falseS,trueS] ss)) (fun x=>H.length≤x∧x<H'.length) H' v (.cons [falseS,trueS] ss):=by
 obtain ⟨pv,rfl,hpv⟩:=hu.dest'
 have h175:=ix144 hl hll (pm:=pm) hpv H
 rw [hf] at h175
 simp only [ixI] at h175
 have h0:(u.k == 0)=false:=by simp [hk]
 have hbn:(u.nm == [66,105,116])=false:=hb
 refine ⟨.hp (H.length+3) 0,H++[Blk.var false [lv],.var true [.int .i64 u.k,.int .i64 u.v,.str u.nm,pv],.var false [pm],.var false [.int .i64 0,.sl 2 true [[.str falseS,.nils],[.str trueS,.nils]]]],openC mode_144 eff_144 ?_,by simp,fun x hx=>List.getElem?_append_left hx,?_⟩
 ·simp [runW,Tryz.f144,hl.cells,hpm,h0,hbn,h175,bsA,fillE,List.replicate,noRefs,AV.noRef,falseS,trueS]
 ·refine ⟨_,rfl,⟨by omega,by simp⟩,_,[[.str falseS,.nils],[.str trueS,.nils]],by simp,rfl,by rw [hs2];rfl,.inl rfl,fun k e nm parts h1 h2 h3 => ?_⟩
  have hp0:=hs0 parts (List.mem_of_getElem? h3)
  match k with
  | 0=>simp at h1 h2;subst h1;subst h2;exact ⟨.nils,rfl,.inl ⟨hp0,rfl⟩⟩
  | 1=>simp at h1 h2;subst h1;subst h2;exact ⟨.nils,rfl,.inl ⟨hp0,rfl⟩⟩
  | k+2=>simp at h1
theorem data144 (hsl:SmL 1048577 l) {d:Nat} {u:TyV} {xs:List AV} {params:List Bytes} {args:List TyV} {pm:AV} {S:Nat→Prop} {H:Heap} (hu:TyRep u xs) (hk:u.k=1) (hb:(u.nm == bitS)=false) (hua:∀ t∈u.ps,rNodeErr l params t=0) (hva:∀ a∈args,VT l a) (hln:params.length=args.length) (hS:∀ x,S x→x<H.length) (hE:EnvAt (CloOK l lv d S H) S H pm params args)
  {i:Nat} (hi:i<l.length) (hf:l.findIdx? (fun d=>d.nm == u.nm)=some i) (hnd:l[i].params.Nodup) (hps:l[i].params.length=u.ps.length) (hva':∀ x∈u.ps.map (repl params args),VT l x) (hfe:∀ c∈l[i].cons,∀ f∈c.fields,rNodeErr l l[i].params f.ty=0) {ss:List (List Sh)} (hss:ss.length=l[i].cons.length) (hsp:∀ (j:Nat) c s,l[i].cons[j]? = some c→ss[j]? = some s→s.length=c.fields.length)
  (hne:l[i].cons≠[]) (ih:∀ (j:Nat) c s (m:Nat) f x,l[i].cons[j]? = some c→ss[j]? = some s→c.fields[m]? = some f→s[m]? = some x→SrtOK l lv (d+1) (repl l[i].params (u.ps.map (repl params args)) f.ty) x) :
  ∃ v H',doCall MX (callW MX) 144 [lv,.agg xs,pm] H=some (.ret v,H')∧H.length≤H'.length∧(∀ x,x<H.length→H'[x]? = H[x]?)∧SrtAt (shD (.cons (l[i].cons.map (·.nm)) ss)) (fun x=>H.length≤x∧x<H'.length) H' v (.cons (l[i].cons.map (·.nm)) ss):=by
 have hcp:=hE.cells
 have hu0:=hu
 obtain ⟨pv,rfl,hpv⟩:=hu.dest'
 have h175:=ix144 hl hll (pm:=pm) hpv H
 rw [hf] at h175
 simp only [ixI] at h175
 have h0:(u.k == 0)=false:=by simp [hk]
 have hbn:(u.nm == [66,105,116])=false:=hb
 obtain ⟨dx,hdx,hdR⟩:=hl.ix hi
 obtain ⟨qv,cv,rfl,hq,hcv⟩:=hdR.dest
 have hsd:=hsl.2 _ (List.getElem_mem hi)
 obtain ⟨K,es,f1,hP⟩:=params144 hl (i:=i) hu0 hpv hS hE hua hva hln hq hnd hps hsd.2.1
 have hE':EnvAt (CloOK l lv (d+1) (fun x=>x<K.length) K) (fun x=>x<K.length) K (.hm (H.length+3)) l[i].params (u.ps.map (repl params args)):=by
  have hle:=hP.le
  refine .inr ⟨H.length+3,es,by omega,rfl,hP.bo,fun m p t h1 h2 => ?_⟩
  rw [List.getElem?_map,Option.map_eq_some_iff] at h2
  obtain ⟨t0,h2,rfl⟩:=h2
  obtain ⟨f,g1,g2⟩:=hP.ent m p t0 (List.getElem?_eq_some_iff.1 h1).1 h1 h2
  exact ⟨f,g1,CloOK.mono _ g2 (fun x hx=>hx.1) (fun _ _=>rfl)⟩
 obtain ⟨b,Q,w,f2,hSI⟩:=cons144 hP.ba hE' hva' (by simp [hps]) hcv hsd.2.2.2.1 (fun c hc=>(hsd.2.2.2.2 c hc).2.1) hfe hss hsp (N:=shDss ss) (fun s hs x hx=>shDss_mem hx hs) ih
 have hle:=hP.le
 have hlen:=hSI.len
 have hext:∀ x,x<H.length→b[x]? = H[x]? := fun x hx=>by rw [hSI.ext x (by omega)];exact hP.old x hx
 refine ⟨.hp K.length 0,b,openC mode_144 eff_144 ?_,by omega,hext,?_⟩
 ·have hni:¬ ((i:Int)<0):=by omega
  have hba:=hP.ba
  have hba2:=get_app hba [Blk.var false [.int .i64 0,.nils]]
  simp [Tryz.f144] at f1 f2
  have hd:=hdx .i64
  simp [runW,Tryz.f144,hl.cells,hcp,h0,hbn,h175,hni,hd,hq.len,hcv.len,f1,f2,hba,get_of hba,hba2,get_of hba2]
 ·rcases hSI.rows with ⟨h,_⟩ | ⟨q,es',h1,h2,h3,h4,rfl,h6,h7,h8⟩
  ·exact absurd (List.eq_nil_of_length_eq_zero h) hne
  ·have ho:=hSI.o
   refine ⟨K.length,rfl,⟨by omega,by omega⟩,_,es',ho,by rw [h7];simp,by rw [hss];simp,.inr ⟨q,⟨by omega,h4⟩,by rw [h7],h6⟩,fun k e nm parts a c e' => ?_⟩
   obtain ⟨pv',e1,e2⟩:=h8 k e nm parts a c e'
   have hQ:∀ x,Q x→H.length≤x∧x<b.length:=fun x hx=>by have:=hSI.q x hx;omega
   exact ⟨pv',e1,e2.mono (fun v s hv=>SrtAt.mono _ hv hQ (fun _ _=>rfl)) hQ (fun _ _=>rfl)⟩
theorem c144 (hsl:SmL 1048577 l) (hd:DV l) (hnd:∀ d∈l,d.params.Nodup) {t:TyV} {s:Sh} (hs:IsSh l t s):VT l t→∀ d,SrtOK l lv d t s:=by
 induction hs with
 | bit t hb hw h2=>
  intro hv d
  induction d using Nat.strongRecOn with
  | ind d ihd=>
   intro u xs params args pm S H hu hnu hva hln hr hS hE
   have ht:t.k=1:=by simp only [isBit,Bool.and_eq_true,decide_eq_true_eq] at hb;exact hb.1
   by_cases hk:u.k=0
   ·exact var144 hl ht ihd hu hk hnu hln hr hS hE
   ·have hkn:u.k=1∧u.nm=bitS:=by
     cases u with
     | mk k v nm ps=>
      have hk:¬ k=0:=hk
      simp only [repl,hk,if_false] at hr
      subst hr
      simp only [isBit,Bool.and_eq_true,decide_eq_true_eq,beq_iff_eq] at hb
      exact hb
    exact bit144 hl hll hu hkn.1 hkn.2 hnu hln hr h2 hS hE
 | cons t ns ss hb hk hn hln' hsp hf ih=>
  intro hv d
  induction d using Nat.strongRecOn with
  | ind d ihd=>
   intro u xs params args pm S H hu hnu hva hln hr hS hE
   have ht:t.k=1:=by rcases hv.kind with h | h;exact h;exact absurd h hk
   by_cases hk0:u.k=0
   ·exact var144 hl ht ihd hu hk0 hnu hln hr hS hE
   ·have hcp:=hE.cells
    have hkn:u.k=1∧(u.nm == bitS)=false∧t.nm=u.nm∧t.ps=u.ps.map (repl params args)∧rCount l 1 u.nm=some u.ps.length∧∀ t∈u.ps,rNodeErr l params t=0:=by
     cases u with
     | mk k v nm ps=>
      have hk0:¬ k=0:=hk0
      simp only [repl,hk0,if_false] at hr
      subst hr
      have ht:k=1:=ht
      subst ht
      rw [rNodeErr_zero] at hnu
      refine ⟨rfl,?_,rfl,?_,hnu.2.2.1,hnu.2.2.2.2⟩
      ·have e:isBit (.mk 1 v nm (repls params args ps))=(nm == bitS):=by
        show (decide ((1:Int)=1)&&(nm == bitS))=(nm == bitS)
        simp
       exact e.symm.trans hb
      ·exact repls_map params args ps
    obtain ⟨hk1,hbn,htn,htp,hrc,hua⟩:=hkn
    simp only [rCount,if_true,hbn,Bool.false_eq_true,if_false] at hrc
    cases hbo:(u.nm == boolS) with
    | true=>
     have hcons:consOf l t=[⟨falseS,[]⟩,⟨trueS,[]⟩]:=by simp only [consOf,htn,hbo,if_true]
     have hfn:l.findIdx? (fun d=>d.nm == u.nm)=none:=by
      rw [List.findIdx?_eq_none_iff]
      intro x hx
      rw [beq_iff_eq.1 hbo]
      exact (hd.nms x hx).2
     rw [hcons] at hn hln' hsp
     subst hn
     have hs0:∀ s∈ss,s=[]:=fun s hs=>by
      obtain ⟨i,hi,rfl⟩:=List.mem_iff_getElem.1 hs
      have hi2:i<2:=by simp at hln';omega
      have:=hsp i _ _ (List.getElem?_eq_getElem (by simpa using hi2)) (List.getElem?_eq_getElem hi)
      have h01:i=0∨i=1:=by omega
      rcases h01 with rfl | rfl <;> exact List.eq_nil_of_length_eq_zero this
     exact bool144 hl hll hcp hu hk1 hbn hfn hln' hs0
    | false=>
     rw [hbo] at hrc
     simp only [Bool.false_eq_true,if_false] at hrc
     rw [Option.map_eq_some_iff] at hrc
     obtain ⟨i,hfi,hpl⟩:=hrc
     have hi:=fi_lt hfi
     have hgd:l.getD i default=l[i]:=by simp [hi]
     rw [hgd] at hpl
     have hcons:consOf l t=l[i].cons.map (replC l[i].params (u.ps.map (repl params args))):=by
      simp only [consOf,htn,hbo,hfi,hgd,htp];rfl
     have hne:l[i].cons≠[]:=fun e=>by
      have:=(hd.con t hv hk hb).2.1
      rw [hcons,e] at this
      exact this rfl
     have hns:ns=l[i].cons.map (·.nm):=by
      rw [hn,hcons,List.map_map]
      rfl
     subst hns
     have hva':∀ x∈u.ps.map (repl params args),VT l x:=fun x hx=>by
      obtain ⟨y,hy,rfl⟩:=List.mem_map.1 hx
      exact rNodeErr_repl hva (by omega) y (hua y hy)
     have hcg:∀ (j:Nat) c,l[i].cons[j]? = some c→(consOf l t)[j]? = some (replC l[i].params (u.ps.map (repl params args)) c):=fun j c h=>by
      rw [hcons,List.getElem?_map,h];rfl
     refine data144 hl hll hsl hu hk1 hbn hua hva hln hS hE hi hfi (hnd _ (List.getElem_mem hi)) hpl hva' (hd.flds _ (List.getElem_mem hi)) (by rw [hln',hcons];simp) (fun j c s h1 h2 => ?_) hne (fun j c s m f x h1 h2 h3 h4 => ?_)
     ·have:=hsp j _ s (hcg j c h1) h2
      simpa [replC] using this
     ·have h3':(replC l[i].params (u.ps.map (repl params args)) c).fields[m]? = some ⟨f.nm,repl l[i].params (u.ps.map (repl params args)) f.ty⟩:=by
       simp only [replC,List.getElem?_map,h3,Option.map_some]
      have hvf:=hd.dok.fld t hv hk hb _ (List.mem_of_getElem? (hcg j c h1)) _ (List.mem_of_getElem? h3')
      exact ih j _ s m _ x (hcg j c h1) h2 h3' h4 hvf (d+1)
end
def WV (H:Heap) (w:AV) (es:List (List AV)):Prop:=(w=.nils∧es=[])∨w=.sl 2 true es∨∃ j,w=.hs j es.length 2 0 es.length false∧H[j]? = some (.arr 2 false es)
theorem WV.app {H:Heap} {w:AV} {es:List (List AV)} (h:WV H w es) (X:Heap):WV (H++X) w es:=by
 rcases h with h | h | ⟨j,h1,h2⟩
 ·exact .inl h
 ·exact .inr (.inl h)
 ·exact .inr (.inr ⟨j,h1,get_app h2 X⟩)
theorem WV.len {H:Heap} {w:AV} {es:List (List AV)} (h:WV H w es) (G:Heap):lenSl w G=some (.val (.int .i64 es.length) G):=by
 rcases h with ⟨rfl,rfl⟩ | rfl | ⟨j,rfl,_⟩ <;> rfl
theorem WV.cells {H:Heap} {w:AV} {es:List (List AV)} (h:WV H w es):w.cells=some [w]:=by
 rcases h with ⟨rfl,rfl⟩ | rfl | ⟨j,rfl,_⟩ <;> rfl
theorem WV.row {H:Heap} {w:AV} {es:List (List AV)} (h:WV H w es) {i:Nat} (hi:i<es.length):∃ p,ixA 2 w (.int .i64 i)=some p∧∀ X,rdCells (H++X) p=some es[i]:=by
 rcases h with ⟨rfl,rfl⟩ | rfl | ⟨j,rfl,h⟩
 ·cases hi
 ·exact ⟨.ro es[i],ixA_sl _ _ _ _ .i64 hi,fun X=>rfl⟩
 ·refine ⟨.ep j es.length 2 i 0,by rw [ixA_hs (kd:=.i64) (hi:=hi),Nat.zero_add],fun X => ?_⟩
  have:=get_app h X
  simp [rd_ep,this,beq_d,hi]
theorem c200 {H:Heap} {b:Nat} {lk:Bool} {nm n:Bytes} {pv:AV} (hb:H[b]? = some (.var lk [.str nm])):doCall MX (callW MX) 200 [.agg [.str n,pv],.hp b 0] H=some (.ret (.bool (n == nm)),H++[.var false [.str n,pv]]):=by
 have hb':=get_app hb [Blk.var false [.str n,pv]]
 exact openC mode_200 eff_200 (by simp [runW,Tryz.f200,hb'])
theorem c199 {H:Heap} {w:AV} {es:List (List AV)} (hw:WV H w es) {ns:List Bytes} (hes:es.length=ns.length) (hln:ns.length<1048577) (hrow:∀ (k:Nat) e nm,es[k]? = some e→ns[k]? = some nm→∃ pv,e=[.str nm,pv]) {b:Nat} {lk:Bool} {nm:Bytes} (hb:H[b]? = some (.var lk [.str nm])) :
  ∃ X,doCall MX (callW MX) 199 [w,.fn 200 [] [.hp b 0]] H=some (.ret (.int .i64 (ixI (ns.findIdx? (fun x=>x == nm)))),H++X):=by
 have hlen:=hw.len
 rw [hes] at hlen
 obtain ⟨e,st,hlp,hq⟩:=loop_up (M:=MX) (fid:=199) (N:=19) (C:=callW MX) (c:=loopC Tryz.f199 0) (n:=ns.length) (fun i (X:Heap)=>([(0,w),(1,.fn 200 [] [.hp b 0]),(7,.int .i64 ns.length),(8,.int .i64 i)],H++X)) (fun i _=>∀ j (hj:j<ns.length),j<i→(fun x=>x == nm) ns[j]=false)
  (fun r=>∃ X:Heap,(r=(.ext 0,([(0,w),(1,.fn 200 [] [.hp b 0]),(7,.int .i64 ns.length),(8,.int .i64 ns.length),(9,.bool false)],H++X))∧ns.findIdx? (fun x=>x == nm)=none)∨(∃ i:Nat,r=(.ret,([(4,.int .i64 i)],H++X))∧ns.findIdx? (fun x=>x == nm)=some i)) (fun i X hi hI=>by
    have hi':=lt_cast hi
    have hwi:=wr_next hi hln
    have hie:i<es.length:=by omega
    obtain ⟨p,hp,hrd⟩:=hw.row hie
    obtain ⟨pv,he⟩:=hrow i _ _ (List.getElem?_eq_getElem hie) (List.getElem?_eq_getElem hi)
    rw [he] at hrd
    have hcall:=c200 (n:=ns[i]) (pv:=pv) (get_app hb X)
    have hrd':=hrd X
    cases hx:(ns[i] == nm) with
    | true=>rw [hx] at hcall;exact .inr ⟨_,_,by simp [Tryz.f199,hi',hp,hrd',hcall] <;> exact ⟨rfl,rfl⟩,by simp,X++[.var false [.str ns[i],pv]],.inr ⟨i,by simp,fi_some (p:=(fun x=>x == nm)) hi hI hx⟩⟩
    | false=>rw [hx] at hcall;exact .inl ⟨X++[.var false [.str ns[i],pv]],by simp [Tryz.f199,hi',hp,hrd',hcall,hwi],fi_step (p:=(fun x=>x == nm)) hi hI hx⟩) (fun X hI=>by
    exact ⟨_,_,by simp [Tryz.f199] <;> exact ⟨rfl,rfl⟩,by simp,X,.inl ⟨rfl,fi_none (p:=(fun x=>x == nm)) fun j hj=>hI j hj hj⟩⟩) [] (fun j _ h0=>by omega)
 simp [Tryz.f199] at hlp
 obtain ⟨X,hq⟩:=hq
 rcases hq with ⟨hq,hs⟩ | ⟨i,hq,hs⟩ <;> cases hq <;> exact ⟨X,openC mode_199 eff_199 (by simp [runW,Tryz.f199,hlen,hlp,hs,ixI])⟩
theorem c182 {H:Heap} {id:Nat} {m:Int} {w:AV} {es:List (List AV)} (hid:H[id]? = some (.var false [.int .i64 m,w])) (hw:WV H w es) {ns:List Bytes} (hes:es.length=ns.length) (hln:ns.length<1048577) (hrow:∀ (k:Nat) e nm,es[k]? = some e→ns[k]? = some nm→∃ pv,e=[.str nm,pv]) (nm:Bytes) :
  ∃ X,doCall MX (callW MX) 182 [.hp id 0,.str nm] H=some (.ret (.int .i64 (ixI (ns.findIdx? (fun x=>x == nm)))),H++X):=by
 obtain ⟨X,hc⟩:=c199 (hw.app [Blk.var false [.str nm]]) hes hln hrow (b:=H.length) (lk:=false) (nm:=nm) (get_last _ _)
 have hid':=get_app hid [Blk.var false [.str nm]]
 exact ⟨[.var false [.str nm]]++X,openC mode_182 eff_182 (by simp [runW,Tryz.f182,hid',hc])⟩
theorem c116 {H:Heap} {id:Nat} {m:Int} {w:AV} {es:List (List AV)} (hid:H[id]? = some (.var false [.int .i64 m,w])) (hw:WV H w es):doCall MX (callW MX) 116 [.hp id 0] H=some (.ret (.bool (es.length == 0)),H):=by
 have hl:=hw.len
 have he:((es.length:Int) == 0)=(es.length == 0):=by
  cases h:es.length with
  | zero=>rfl
  | succ n=>
   have:(((n+1:Nat):Int) == 0)=false:=by simp;omega
   rw [this];rfl
 exact openC mode_116 eff_116 (by simp [runW,Tryz.f116,hid,hl,he])
theorem shl16 (m:Int) (h0:1≤m) (h1:m≤16):shiftBin .shl .i64 1 m=some (.int .i64 ((2 ^ m.toNat:Nat):Int)):=by
 have:m=1∨m=2∨m=3∨m=4∨m=5∨m=6∨m=7∨m=8∨m=9∨m=10∨m=11∨m=12∨m=13∨m=14∨m=15∨m=16:=by omega
 rcases this with rfl | rfl | rfl | rfl | rfl | rfl | rfl | rfl | rfl | rfl | rfl | rfl | rfl | rfl | rfl | rfl <;> rfl
theorem PtAt.len {R:AV→Sh→Prop} {S:Nat→Prop} {H:Heap} {pv:AV} {parts:List Sh} (h:PtAt R S H pv parts):(∀ G,lenSl pv G=some (.val (.int .i64 parts.length) G))∧Go.Am.kdLen (some pv)=.st∧pv.cells=some [pv]:=by
 rcases h with ⟨rfl,rfl⟩ | ⟨q,ptrs,_,_,rfl,_⟩ <;> exact ⟨fun _=>rfl,rfl,rfl⟩
theorem SrtAt.blk {n:Nat} {S:Nat→Prop} {H:Heap} {v:AV} {s:Sh} (h:SrtAt (n+1) S H v s):∃ id m w es,v=.hp id 0∧H[id]? = some (.var false [.int .i64 m,w])∧WV H w es ∧
  match s with
  | .bit k=>m=k∧es=[]
  | .cons ns ss=>es.length=ns.length∧ss.length=ns.length∧∀ (k:Nat) e nm parts,es[k]? = some e→ns[k]? = some nm→ss[k]? = some parts→∃ pv,e=[.str nm,pv]∧PtAt (SrtAt n S H) S H pv parts:=by
 cases s with
 | bit k=>
  obtain ⟨id,rfl,_,h2⟩:=h
  exact ⟨id,k,.nils,[],rfl,h2,.inl ⟨rfl,rfl⟩,rfl,rfl⟩
 | cons ns ss=>
  obtain ⟨id,rfl,_,w,es,h2,h3,h4,h5,h6⟩:=h
  refine ⟨id,0,w,es,rfl,h2,?_,h3,h4,h6⟩
  rcases h5 with h | ⟨j,_,h,hj⟩
  ·exact .inr (.inl h)
  ·exact .inr (.inr ⟨j,h,hj⟩)
theorem parts147 {G:Heap} {id i:Nat} {m:Int} {w:AV} {es:List (List AV)} (hid:G[id]? = some (.var false [.int .i64 m,w])) (hw:WV G w es) {nm:Bytes} {pv:AV} (hei:es[i]? = some [.str nm,pv]) {n:Nat} {S:Nat→Prop} {parts:List Sh} (hS:∀ x,S x→x<G.length) (hP:PtAt (SrtAt n S G) S G pv parts)
  {ps:List TyV} {qv:AV} (hq:SlR TyRep 4 ps qv) (hpl:ps.length<1048577) (hlen:ps.length=parts.length) (ih:∀ (k:Nat) (hk:k<ps.length) (hk2:k<parts.length) (px:List AV) (v:AV) (X:Heap),TyRep ps[k] px→SrtAt n S G v parts[k]→∃ X',doCall MX (callW MX) 147 [v,.agg px] (G++X)=some (.ret (.int .i64 (pErr parts[k] ps[k])),G++X++X')) (X0:Heap) :
  ∃ (X:Heap) (r:Ex×St),loopH MX 147 98 (callW MX) (loopC Tryz.f147 0) ([(0,.hp id 0),(6,.int .i64 i),(74,qv),(75,.int .i64 ps.length),(76,.int .i64 (0:Nat))],G++X0)=some r ∧
   (r=(.ext 1,([(0,.hp id 0),(6,.int .i64 i),(74,qv),(75,.int .i64 ps.length),(76,.int .i64 ps.length),(77,.bool false)],G++X))∧pErrs parts ps=0∨r=(.ret,([(4,.int .i64 (pErrs parts ps))],G++X))∧pErrs parts ps≠0):=by
 have hb18:=bef_147_18
 simp [opsF,opsAt,Tryz.f147] at hb18
 have hie:=(List.getElem?_eq_some_iff.1 hei).1
 have hei':es[i]=[.str nm,pv]:=(List.getElem?_eq_some_iff.1 hei).2
 obtain ⟨e,st,hlp,hq'⟩:=loop_up (M:=MX) (fid:=147) (N:=98) (C:=callW MX) (c:=loopC Tryz.f147 0) (n:=ps.length)
  (fun k (X:Heap)=>([(0,.hp id 0),(6,.int .i64 i),(74,qv),(75,.int .i64 ps.length),(76,.int .i64 k)],G++X))
  (fun k X=>pErrs parts ps=pErrs (parts.drop k) (ps.drop k))
  (fun r=>∃ X,r=(.ext 1,([(0,.hp id 0),(6,.int .i64 i),(74,qv),(75,.int .i64 ps.length),(76,.int .i64 ps.length),(77,.bool false)],G++X))∧pErrs parts ps=0∨r=(.ret,([(4,.int .i64 (pErrs parts ps))],G++X))∧pErrs parts ps≠0) (fun k X hk hI=>by
    have hk':=lt_cast hk
    have hwk:=wr_next hk hpl
    have hk2:k<parts.length:=by omega
    obtain ⟨fe,hfe,hR⟩:=hq.ix hk
    rw [pErrs_drop hk hk2] at hI
    rcases hP with ⟨rfl,rfl⟩ | ⟨q,ptrs,h0,h1,rfl,h3,h4,h5⟩
    ·simp at hk2
    ·have hkp:k<ptrs.length:=by omega
     obtain ⟨v,hv,hs⟩:=h5 k ptrs[k] parts[k] (List.getElem?_eq_getElem hkp) (List.getElem?_eq_getElem hk2)
     have hpk:ptrs[k]? = some [v]:=by rw [List.getElem?_eq_getElem hkp,hv]
     obtain ⟨X',hc⟩:=ih k hk hk2 fe v (X++[Blk.var false fe]) hR hs
     obtain ⟨tv,rfl,htv⟩:=hR.dest'
     have hix:ixA 1 (.hs q parts.length 1 0 parts.length false) (.int .i64 k)=some (.ep q parts.length 1 k 0):=by
      rw [ixA_hs (kd:=.i64) (hi:=hk2),Nat.zero_add]
     have hid':=get_app hid (X++[Blk.var false [.int .i64 ps[k].k,.int .i64 ps[k].v,.str ps[k].nm,tv]])
     have hq3:=get_app h3 (X++[Blk.var false [.int .i64 ps[k].k,.int .i64 ps[k].v,.str ps[k].nm,tv]])
     have hlast:(G++(X++[Blk.var false [.int .i64 ps[k].k,.int .i64 ps[k].v,.str ps[k].nm,tv]]))[G.length+X.length]? = some (.var false [.int .i64 ps[k].k,.int .i64 ps[k].v,.str ps[k].nm,tv]):=by
      rw [← List.append_assoc,← List.length_append];exact get_last _ _
     have e1:G++(X++[Blk.var false [.int .i64 ps[k].k,.int .i64 ps[k].v,.str ps[k].nm,tv]])++X'=G++(X++([Blk.var false [.int .i64 ps[k].k,.int .i64 ps[k].v,.str ps[k].nm,tv]]++X')):=by simp
     rw [e1] at hc
     have key:∀ z:Int,(pErr parts[k] ps[k]=z)→(z=0→codeW MX 147 98 (callW MX) (loopC Tryz.f147 0) ([(0,.hp id 0),(6,.int .i64 i),(74,qv),(75,.int .i64 ps.length),(76,.int .i64 k)],G++X)=some (.nrm,([(0,.hp id 0),(6,.int .i64 i),(74,qv),(75,.int .i64 ps.length),(76,.int .i64 (k+1:Nat))],G++(X++([Blk.var false [.int .i64 ps[k].k,.int .i64 ps[k].v,.str ps[k].nm,tv]]++X'))))) ∧
       (z≠0→codeW MX 147 98 (callW MX) (loopC Tryz.f147 0) ([(0,.hp id 0),(6,.int .i64 i),(74,qv),(75,.int .i64 ps.length),(76,.int .i64 k)],G++X)=some (.ret,([(4,.int .i64 z)],G++(X++([Blk.var false [.int .i64 ps[k].k,.int .i64 ps[k].v,.str ps[k].nm,tv]]++X'))))):=by
      intro z hz
      rw [hz] at hc
      rcases hw with ⟨rfl,rfl⟩ | rfl | ⟨j,rfl,hj⟩
      ·cases hie
      ·have hixw:ixA 2 (.sl 2 true es) (.int .i64 i)=some (.ro [.str nm,.hs q parts.length 1 0 parts.length false]):=by rw [ixA_sl _ _ _ _ .i64 hie,hei']
       refine ⟨fun h => ?_,fun h => ?_⟩
       ·subst h
        simp [Tryz.f147,hk',hfe,hid',get_of hid',hixw,hix,hq3,get_of hq3,h4,hpk,hlast,get_of hlast,hc,hb18,hwk]
       ·have hzb:(z != 0)=true:=by simp [h]
        simp [Tryz.f147,hk',hfe,hid',get_of hid',hixw,hix,hq3,get_of hq3,h4,hpk,hlast,get_of hlast,hc,hb18,hzb]
      ·have hixw:ixA 2 (.hs j es.length 2 0 es.length false) (.int .i64 i)=some (.ep j es.length 2 i 0):=by rw [ixA_hs (kd:=.i64) (hi:=hie),Nat.zero_add]
       have hj':=get_app hj (X++[Blk.var false [.int .i64 ps[k].k,.int .i64 ps[k].v,.str ps[k].nm,tv]])
       refine ⟨fun h => ?_,fun h => ?_⟩
       ·subst h
        simp [Tryz.f147,hk',hfe,hid',get_of hid',hixw,hj',get_of hj',hei,hix,hq3,get_of hq3,h4,hpk,hlast,get_of hlast,hc,hb18,hwk]
       ·have hzb:(z != 0)=true:=by simp [h]
        simp [Tryz.f147,hk',hfe,hid',get_of hid',hixw,hj',get_of hj',hei,hix,hq3,get_of hq3,h4,hpk,hlast,get_of hlast,hc,hb18,hzb]
     obtain ⟨k1,k2⟩:=key _ rfl
     by_cases hz:pErr parts[k] ps[k]=0
     ·rw [if_pos hz] at hI
      exact .inl ⟨_,k1 hz,hI⟩
     ·rw [if_neg hz] at hI
      exact .inr ⟨_,_,k2 hz,by simp,_,.inr ⟨by rw [hI],by rw [hI];exact hz⟩⟩) (fun X hI=>by
    rw [List.drop_length] at hI
    exact ⟨_,_,by simp [Tryz.f147] <;> first | exact ⟨rfl,rfl⟩ | rfl,by simp,X,.inl ⟨rfl,by rw [hI];simp [pErrs]⟩⟩) X0 (by simp)
 obtain ⟨X,hq'⟩:=hq'
 exact ⟨X,_,hlp,hq'⟩
theorem c147 {l:List DataV} (hd:DV l) (p:TyV):∀ (px:List AV),TyRep p px→Sm 1048577 p→∀ (n:Nat) (s:Sh) (t:TyV) (S:Nat→Prop) (H:Heap) (v:AV) (X:Heap),(∀ x,S x→x<H.length)→SrtAt n S H v s→IsSh l t s→VT l t →
  ∃ X',doCall MX (callW MX) 147 [v,.agg px] (H++X)=some (.ret (.int .i64 (pErr s p)),H++X++X'):=by
 induction p using TyV.ind with
 | h k pv nm ps ih=>
  intro px hpx hsp n s t S H v X hS hs hsh hvt
  obtain ⟨s1,s2,s3⟩:=hsp.dest
  cases n with
  | zero=>exact hs.elim
  | succ n=>
   have hsG:SrtAt (n+1) S (H++X) v s:=SrtAt.mono _ hs (fun _ h=>h) (fun x hx=>List.getElem?_append_left (hS x hx))
   have hSG:∀ x,S x→x<(H++X).length:=fun x hx=>by have:=hS x hx;simp;omega
   generalize H++X=G at hsG hSG
   clear hs hS X H
   obtain ⟨id,m,w,es,rfl,hid,hw,hsd⟩:=hsG.blk
   obtain ⟨qv,rfl,hq⟩:=hpx.dest
   have hleaf:(((ps.length:Int) == 0)=true→ps=[]):=fun h=>by
    have:ps.length=0:=by simpa using h
    exact List.eq_nil_of_length_eq_zero this
   have hid':=get_app hid [Blk.var false [.int .i64 k,.int .i64 pv,.str nm,qv]]
   have hw':=hw.app [Blk.var false [.int .i64 k,.int .i64 pv,.str nm,qv]]
   have hlast:=get_last G (Blk.var false [.int .i64 k,.int .i64 pv,.str nm,qv])
   have hnm:=c180 nm s1
   have h116:=c116 hid' hw'
   have hlz:((ps.length:Int) == 0)=decide (ps.length=0):=by
    rw [Bool.eq_iff_iff];simp
   have hb8:=bef_147_8
   simp [opsF,opsAt,Tryz.f147] at hb8
   have hb13:=bef_147_13
   simp [opsF,opsAt,Tryz.f147] at hb13
   by_cases k0:k=0
   ·have e:pErr s (.mk k pv nm ps)=if ps.length=0 then 0 else 10:=by
     subst k0
     simp only [pErr,if_true]
     by_cases hp:ps.length=0 <;> simp [hp] <;> omega
    rw [e]
    have k0b:(k == 0)=true:=by simp [k0]
    exact ⟨_,openC mode_147 eff_147 (by simp [runW,Tryz.f147,hq.len,hlz,k0b] <;> rfl)⟩
   have k0b:(k == 0)=false:=by simp [k0]
   by_cases k1:k=1
   ·have e:pErr s (.mk k pv nm ps)=firstOf [if ps.length=0 then 0 else 10,if isNameS nm then 0 else 4]:=by
     subst k1
     simp only [pErr]
     by_cases hp:ps.length=0 <;> cases hn:isNameS nm <;> simp [hp,firstOf,hn]
     all_goals (have:0<ps.length:=by omega) <;> simp [this]
    rw [e]
    have k1b:(k == 1)=true:=by simp [k1]
    exact ⟨_,openC mode_147 eff_147 (by simp [runW,Tryz.f147,hq.len,hlz,k0b,k1b,hnm,bsA,fillE,List.replicate,noRefs,AV.noRef] <;> rfl)⟩
   have k1b:(k == 1)=false:=by simp [k1]
   by_cases k3:k=3
   ·have k3b:(k == 3)=true:=by simp [k3]
    cases hsh with
    | bit _ hbt hwd _=>
     obtain ⟨rfl,rfl⟩:=hsd
     obtain ⟨P,hP⟩:∃ P:Nat,P=2 ^ (argOf t).v.toNat:=⟨_,rfl⟩
     have hsl:=shl16 _ hwd.1 hwd.2
     have hPb:P≤65536:=by
      rw [hP]
      exact Nat.le_trans (Nat.pow_le_pow_right (by decide) (show (argOf t).v.toNat≤16 by omega)) (by decide)
     have hPp:0<P:=by rw [hP];exact Nat.pow_pos (by decide)
     have e:pErr (.bit (argOf t).v) (.mk k pv nm ps)=firstOf [0,if ps.length=0 then 0 else 10,if 0≤pv∧pv≤(P:Int) - 1 then 0 else 2]:=by
      subst k3
      simp only [pErr,hP]
      by_cases hp:ps.length=0
      ·simp [hp,firstOf]
      ·have:0<ps.length:=by omega
       simp [hp,this,firstOf]
     rw [e]
     rw [← hP] at hsl
     have hwp:wr .i64 ((P:Int) - 1)=(P:Int) - 1:=wr_i64 (by omega) (by omega)
     simp at h116
     exact ⟨_,openC mode_147 eff_147 (by simp [runW,Tryz.f147,hq.len,hlz,k0b,k1b,k3b,h116,hid',get_of hid',hlast,hsl,hwp,hb8,mods_same,bsA,fillE,List.replicate,noRefs,AV.noRef] <;> rfl)⟩
    | cons _ ns ss hbt hk2 hn hln hsp' hf=>
     obtain ⟨he1,he2,he3⟩:=hsd
     have e:pErr (.cons ns ss) (.mk k pv nm ps)=26:=by subst k3;simp [pErr]
     rw [e]
     have hne:0<es.length:=by
      have:=(hd.con t hvt hk2 hbt).2.1
      rw [he1,hn,List.length_map]
      exact List.length_pos_iff.2 this
     have heb:(es.length == 0)=false:=by simp;intro h;rw [h] at hne;simp at hne
     rw [heb] at h116
     exact ⟨_,openC mode_147 eff_147 (by simp [runW,Tryz.f147,hq.len,hlz,k0b,k1b,k3b,h116,hid',get_of hid',hlast,hb8,mods_same,firstOf,bsA,fillE,List.replicate,noRefs,AV.noRef] <;> rfl)⟩
   have k3b:(k == 3)=false:=by simp [k3]
   by_cases k2:k=2
   ·have k2b:(k == 2)=true:=by simp [k2]
    cases hsh with
    | bit _ hbt hwd _=>
     obtain ⟨rfl,rfl⟩:=hsd
     have e:pErr (.bit (argOf t).v) (.mk k pv nm ps)=6:=by subst k2;simp [pErr]
     rw [e]
     obtain ⟨X1,h182⟩:=c182 hid' hw' (ns:=[]) rfl (by simp) (fun k e nm h=>by simp at h) nm
     simp [ixI] at h182
     exact ⟨_,openC mode_147 eff_147 (by simp [runW,Tryz.f147,hq.len,hlz,k0b,k1b,k3b,k2b,h182] <;> rfl)⟩
    | cons _ ns ss hbt hk2 hn hln hsp' hf=>
     obtain ⟨he1,he2,he3⟩:=hsd
     have hco:=hd.con t hvt hk2 hbt
     have hnl:ns.length=(consOf l t).length:=by rw [hn,List.length_map]
     obtain ⟨X1,h182⟩:=c182 hid' hw' he1 (by rw [hnl];have:=hco.1;omega) (fun k e nm' h1 h2=>by
      have hks:k<ss.length:=by have:=(List.getElem?_eq_some_iff.1 h2).1;omega
      obtain ⟨pv',e,_⟩:=he3 k e nm' _ h1 h2 (List.getElem?_eq_getElem hks)
      exact ⟨pv',e⟩) nm
     cases hfi:ns.findIdx? (fun x=>x == nm) with
     | none=>
      rw [hfi] at h182
      simp [ixI] at h182
      have e:pErr (.cons ns ss) (.mk k pv nm ps)=6:=by subst k2;simp [pErr,hfi]
      rw [e]
      exact ⟨_,openC mode_147 eff_147 (by simp [runW,Tryz.f147,hq.len,hlz,k0b,k1b,k3b,k2b,h182] <;> rfl)⟩
     | some i=>
      rw [hfi] at h182
      simp only [ixI] at h182
      have hin:=fi_lt hfi
      have his:i<ss.length:=by omega
      have hie:i<es.length:=by omega
      have hic:i<(consOf l t).length:=by omega
      obtain ⟨rv,hrow,hP⟩:=he3 i es[i] ns[i] ss[i] (List.getElem?_eq_getElem hie) (List.getElem?_eq_getElem hin) (List.getElem?_eq_getElem his)
      have hei:es[i]? = some [.str ns[i],rv]:=by rw [List.getElem?_eq_getElem hie,hrow]
      obtain ⟨hpl1,hpl2,hpl3⟩:=hP.len
      have hgd:ss.getD i []=ss[i]:=by simp [his]
      have hgd':ss[i]?.getD []=ss[i]:=by simp [his]
      have hsl:=hsp' i _ _ (List.getElem?_eq_getElem hic) (List.getElem?_eq_getElem his)
      have hni:¬ ((i:Int)<0):=by omega
      let B:=Blk.var false [.int .i64 k,.int .i64 pv,.str nm,qv]
      have hidX:=get_app hid ([B]++X1)
      have hlX:(G++([B]++X1))[G.length]? = some B:=by
       rw [List.getElem?_append_right (Nat.le_refl _)];simp
      simp only [B,List.cons_append,List.nil_append] at hidX hlX
      by_cases hpl:ps.length=ss[i].length
      ·-- its parts
       have e:pErr (.cons ns ss) (.mk k pv nm ps)=pErrs ss[i] ps:=by
        subst k2;simp [pErr,hfi,hgd,hgd',hpl]
       rw [e]
       obtain ⟨X2,r,f1,f2⟩:=parts147 hid hw hei hSG hP hq s2 hpl (fun j hj hj2 px v X hR hv=>by
        have hjf:j<(consOf l t)[i].fields.length:=by omega
        have h1:=hf i _ _ j _ _ (List.getElem?_eq_getElem hic) (List.getElem?_eq_getElem his) (List.getElem?_eq_getElem hjf) (List.getElem?_eq_getElem hj2)
        exact ih ps[j] (List.getElem_mem hj) px hR (s3 _ (List.getElem_mem hj)) n ss[i][j] _ S G v X hSG hv h1 (hd.dok.fld t hvt hk2 hbt _ (List.getElem_mem hic) _ (List.getElem_mem hjf))) ([B]++X1)
       simp only [B,List.cons_append,List.nil_append] at f1
       simp [Tryz.f147] at f1
       have hpb:((ps.length:Int) != (ss[i].length:Int))=false:=by rw [hpl];simp
       have fin:∀ z,(r=(.ext 1,([(0,.hp id 0),(6,.int .i64 i),(74,qv),(75,.int .i64 ps.length),(76,.int .i64 ps.length),(77,.bool false)],G++X2))∧z=0∨r=(.ret,([(4,.int .i64 z)],G++X2))∧z≠0)→runW MX 147 [.hp id 0,.agg [.int .i64 k,.int .i64 pv,.str nm,qv]] G=some (.ret (.int .i64 z),G++X2):=by
        intro z hz
        rcases hw with ⟨rfl,rfl⟩ | rfl | ⟨j,rfl,hj⟩
        ·cases hie
        ·have hixw:ixA 2 (.sl 2 true es) (.int .i64 i)=some (.ro [.str ns[i],rv]):=by rw [ixA_sl _ _ _ _ .i64 hie,hrow]
         rcases hz with ⟨rfl,rfl⟩ | ⟨rfl,hz⟩ <;> simp [runW,Tryz.f147,hq.len,hq.kdLen,hlz,k0b,k1b,k3b,k2b,h182,hni,hidX,get_of hidX,hlX,get_of hlX,hixw,hpl1,hpl2,hpb,hb13,f1]
        ·have hixw:ixA 2 (.hs j es.length 2 0 es.length false) (.int .i64 i)=some (.ep j es.length 2 i 0):=by rw [ixA_hs (kd:=.i64) (hi:=hie),Nat.zero_add]
         have hjX:=get_app hj ([B]++X1)
         simp only [B,List.cons_append,List.nil_append] at hjX
         rcases hz with ⟨rfl,rfl⟩ | ⟨rfl,hz⟩ <;> simp [runW,Tryz.f147,hq.len,hq.kdLen,hlz,k0b,k1b,k3b,k2b,h182,hni,hidX,get_of hidX,hlX,get_of hlX,hixw,hjX,get_of hjX,hei,hpl1,hpl2,hpb,hb13,f1]
       exact ⟨X2,openC mode_147 eff_147 (fin _ f2)⟩
      ·have e:pErr (.cons ns ss) (.mk k pv nm ps)=10:=by
        subst k2;simp [pErr,hfi,hgd,hgd',hpl]
       rw [e]
       have hpb:((ps.length:Int) != (ss[i].length:Int))=true:=by simp;omega
       refine ⟨[B]++X1,openC mode_147 eff_147 ?_⟩
       simp only [B,List.cons_append,List.nil_append]
       rcases hw with ⟨rfl,rfl⟩ | rfl | ⟨j,rfl,hj⟩
       ·cases hie
       ·have hixw:ixA 2 (.sl 2 true es) (.int .i64 i)=some (.ro [.str ns[i],rv]):=by rw [ixA_sl _ _ _ _ .i64 hie,hrow]
        simp [runW,Tryz.f147,hq.len,hq.kdLen,hlz,k0b,k1b,k3b,k2b,h182,hni,hidX,get_of hidX,hlX,get_of hlX,hixw,hpl1,hpl2,hpb,hb13]
       ·have hixw:ixA 2 (.hs j es.length 2 0 es.length false) (.int .i64 i)=some (.ep j es.length 2 i 0):=by rw [ixA_hs (kd:=.i64) (hi:=hie),Nat.zero_add]
        have hjX:=get_app hj ([B]++X1)
        simp only [B,List.cons_append,List.nil_append] at hjX
        simp [runW,Tryz.f147,hq.len,hq.kdLen,hlz,k0b,k1b,k3b,k2b,h182,hni,hidX,get_of hidX,hlX,get_of hlX,hixw,hjX,get_of hjX,hei,hpl1,hpl2,hpb,hb13]
   ·have k2b:(k == 2)=false:=by simp [k2]
    have e:pErr s (.mk k pv nm ps)=15:=by simp [pErr,k0,k1,k2,k3]
    rw [e]
    exact ⟨_,openC mode_147 eff_147 (by simp [runW,Tryz.f147,hq.len,hlz,k0b,k1b,k3b,k2b] <;> rfl)⟩
end Go.Proofs.Am12
namespace Go.Proofs.Am12
open Go Go.Am
theorem dups_iff:∀ (l prev:List Bytes),dups prev l=false↔l.Nodup∧∀ x∈l,x ∉ prev
 | [],prev=>by simp [dups]
 | x::r,prev=>by
  have hx:(prev.findIdx? (fun y=>y == x)).isSome=decide (x∈prev):=by
   rw [List.findIdx?_isSome,Bool.eq_iff_iff,List.any_eq_true,decide_eq_true_iff]
   exact ⟨fun ⟨y,hy,e⟩=>beq_iff_eq.1 e ▸ hy,fun h=>⟨x,h,beq_self_eq_true x⟩⟩
  simp only [dups,Bool.or_eq_false_iff,hx,decide_eq_false_iff_not,dups_iff r,List.nodup_cons,List.mem_append,List.mem_singleton,List.forall_mem_cons,not_or]
  constructor
  ·rintro ⟨h1,h2,h3⟩
   exact ⟨⟨fun h=>(h3 x h).2 rfl,h2⟩,h1,fun y hy=>(h3 y hy).1⟩
  ·rintro ⟨⟨h1,h2⟩,h3,h4⟩
   exact ⟨h3,h2,fun y hy=>⟨h4 y hy,fun e=>h1 (e ▸ hy)⟩⟩
def sortS (l:List Bytes):List Bytes:=l.mergeSort fun x y=>decide (x≤y)
theorem sortS_perm (l:List Bytes):(sortS l).Perm l:=List.mergeSort_perm l _
theorem sortS_len (l:List Bytes):(sortS l).length=l.length:=(sortS_perm l).length_eq
theorem sortS_le (l:List Bytes):(sortS l).Pairwise (· ≤ ·):=by
 have:=List.pairwise_mergeSort (le:=fun x y:Bytes=>decide (x≤y)) (fun a b c h k=>by
  simp only [decide_eq_true_eq] at *;exact List.le_trans h k) (fun a b=>by
  rw [Bool.or_eq_true,decide_eq_true_eq,decide_eq_true_eq];exact List.le_total a b) l
 exact this.imp fun h=>by simpa using h
theorem compact_nodup {s:List Bytes} (hs:s.Pairwise (· ≤ ·)):(Lib.compact s).length=s.length↔s.Nodup:=by
 have hk:(Lib.compact s).length=s.length↔∀ j,j<s.length→Lib.keeps s.toArray j=true:=by
  unfold Lib.compact Lib.compactUpTo
  rw [List.length_map]
  have := @List.length_filter_eq_length_iff _ (Lib.keeps s.toArray) (List.range s.length)
  rw [List.length_range] at this
  rw [this]
  exact ⟨fun h j hj=>h j (List.mem_range.2 hj),fun h j hj=>h j (List.mem_range.1 hj)⟩
 rw [hk]
 have hg:∀ j (hj:j<s.length),s.toArray[j]! = s[j]:=fun j hj=>by simp [getElem!_pos,hj]
 constructor
 ·intro h
  unfold List.Nodup
  rw [List.pairwise_iff_getElem]
  intro i j hi hj hij e
  rw [List.pairwise_iff_getElem] at hs
  have h1:=h (i+1) (by omega)
  simp only [Lib.keeps,decide_eq_true_eq] at h1
  rcases h1 with h1 | h1
  ·omega
  rw [hg (i+1) (by omega),Nat.add_sub_cancel,hg i hi] at h1
  apply h1
  have a1:s[i]≤s[i+1]:=hs i (i+1) hi (by omega) (by omega)
  by_cases hj1:i+1=j
  ·subst hj1;exact e.symm
  ·have a2:s[i+1]≤s[j]:=hs (i+1) j (by omega) hj (by omega)
   rw [← e] at a2
   exact List.le_antisymm a2 a1
 ·intro h j hj
  simp only [Lib.keeps,decide_eq_true_eq]
  by_cases h0:j=0
  ·exact .inl h0
  ·refine .inr fun e => ?_
   rw [hg j hj,hg (j - 1) (by omega)] at e
   exact List.pairwise_iff_getElem.1 h (j - 1) j (by omega) hj (by omega) e.symm
theorem compact_dups (l:List Bytes):((Lib.compact (sortS l)).length=l.length)↔dups [] l=false:=by
 rw [← sortS_len l,compact_nodup (sortS_le l),(sortS_perm l).nodup_iff,dups_iff]
 simp
end Go.Proofs.Am12
namespace Go.Proofs.Am12
open Go Go.Am
attribute [local simp] cw_skip cw_region cw_seq cw_cond cw_block cw_loop cw_exit cw_ret regionA runOps wantedA opEx xVal xPick xAlloc xBox xBuild xBuildSlice xLoad xStore xNil xBin xUn xConv xIface xFunc xMakeSlice xSlice xFieldAddr xField xIndexAddr xIndex xLookup xUpdate xExtract xBuiltin xPanic xCall
 ev evs ofVal ofCell OR.ofV OR.ofVH OR.ofC putD Tm.get Tm.init Tm.only beq_d ble_d blt_d finish resultA resA binA intBin strBin unA cells_int cells_bool cells_str cells_nilp cells_ro cells_hp cells_ep cells_nils cells_sl cells_hs cells_nilm cells_hm cells_fn cells_nilf cells_agg loopC loopsIn lenSl_nils lenSl_sl lenSl_hs lenSt_str faA_ro faA_hp faA_ep ld1_def ldN_def takeA rd_ro rd_hp rd_ep stA spliceAt zipFst fillC kdRead blkOf noCh okDraw_ld okDraw_l okPairsL loudS kdSh
set_option maxHeartbeats 1000000
attribute [local simp] okDraw_k okPairsM loudOf kdClash mods_at0 mods_at1 mods_at2 mods_at3 mods_at4 mods_at5 mods_at6 kd_move kd_assign kd_pick kd_build kd_nil kd_bin kd_un kd_iface kd_func kd_slice kd_fieldAddr kd_field kd_indexAddr kd_index kd_extract kd_load kd_lookup kd_len kd_max kd_min kd_append kd_callv kd_alloc kd_box kd_bs kd_map kd_ms kd_cv kd_store kd_mapUpdate kd_insert kdLen_nils kdLen_sl kdLen_hs kdLen_str
theorem effX' {f:FuncId} {args:List AV} {h:Heap} {r:CR×Heap} {e:List AV→Heap→Option (CR×Heap)} (hm:MX.mode f = { }) (he:MX.eff f=some e) (hr:e args h=some r):doCall MX (callW MX) f args h=some r:=by
 unfold doCall
 simp only [hm]
 exact callW_eff he hr
theorem ofStrs_my (l:List Bytes):ofStrs (strs l)=some l:=ofStrs_strs l
theorem c149 {Y:Heap} {l:List Bytes} (hl:l≠[]) (hb:l.length<4294967296):doCall MX (callW MX) 149 [.hs Y.length l.length 1 0 l.length false] (Y++[.arr 1 false (strs l)])=some (.ret (.tup []),Y++[.arr 1 false (strs (sortS l))]):=by
 refine effX' mode_149 eff_149 ?_
 have h1:(Y++[Blk.arr 1 false (strs l)])[Y.length]? = some (.arr 1 false (strs l)):=get_last _ _
 have h2:(strs l).length=l.length:=by simp [strs]
 have h0:0<l.length:=List.length_pos_iff.2 hl
 have hc:(Nat.beq (strs l).length l.length&&Nat.beq l.length l.length&&Nat.blt 0 l.length&&Nat.blt l.length 4611686018427387904)=true:=by
  rw [h2]
  simp only [Bool.and_eq_true,nbeq,nblt]
  exact ⟨⟨⟨trivial,trivial⟩,h0⟩,by omega⟩
 simp only [sortA,h1,ofStrs_my,hc]
 have hset:(Y++[Blk.arr 1 false (strs l)]).set Y.length (.arr 1 false (strs (sortS l)))=Y++[.arr 1 false (strs (sortS l))]:=by simp
 exact congrArg (fun z=>some (CR.ret (AV.tup []),z)) hset
theorem c150 {Y:Heap} {B:Blk} {l:List Bytes} (hl:l≠[]) (hb:l.length<4294967296):∃ Z,doCall MX (callW MX) 150 [.hs (Y.length+1) l.length 1 0 l.length false] (Y++[B,.arr 1 false (strs l)])=some (.ret (.hs (Y.length+1) l.length 1 0 (Lib.compact l).length false),Y++[B,Z]):=by
 refine ⟨.arr 1 false (strs (Lib.compact l++List.replicate (l.length - (Lib.compact l).length) [])),effX' mode_150 eff_150 ?_⟩
 ·have h1:(Y++[B,Blk.arr 1 false (strs l)])[Y.length+1]? = some (.arr 1 false (strs l)):=by simp
  have h2:(strs l).length=l.length:=by simp [strs]
  have h0:0<l.length:=List.length_pos_iff.2 hl
  have hc:(Nat.beq (strs l).length l.length&&Nat.beq l.length l.length&&Nat.blt 0 l.length&&Nat.blt l.length 4611686018427387904)=true:=by
   rw [h2]
   simp only [Bool.and_eq_true,nbeq,nblt]
   exact ⟨⟨⟨trivial,trivial⟩,h0⟩,by omega⟩
  simp only [compactA,h1,ofStrs_my,hc]
  have hset:∀ C,(Y++[B,Blk.arr 1 false (strs l)]).set (Y.length+1) C=Y++[B,C]:=fun C=>by simp
  exact congrArg (fun z=>some (CR.ret (AV.hs (Y.length+1) l.length 1 0 (Lib.compact l).length false),z)) (hset _)
theorem u100:und MX.ty 100=some (.slice 9):=by kernel_rfl
theorem c151 {Y:Heap} {l:List Bytes} (hl:l≠[]) (hb:l.length<4294967296):doCall MX (callW MX) 151 [.hs Y.length l.length 1 0 l.length false] (Y++[.arr 1 false (strs l)])=some (.ret (.hs (Y.length+1) l.length 1 0 l.length false),Y++[.arr 1 true (strs l),.arr 1 false (strs l)]):=by
 have h1:(Y++[Blk.arr 1 false (strs l)])[Y.length]? = some (.arr 1 false (strs l)):=get_last _ _
 have h2:(strs l).length=l.length:=by simp [strs]
 have h0:0<l.length:=List.length_pos_iff.2 hl
 have hall:=strs_noRefs l
 have hsn:Am.snap snapN (.hs Y.length l.length 1 0 l.length false) (Y++[Blk.arr 1 false (strs l)])=some (.sl 1 false (strs l),(Y++[Blk.arr 1 false (strs l)]).set Y.length (.arr 1 true (strs l))):=by
  have hb:(Nat.beq (strs l).length l.length&&Nat.beq 1 1&&Nat.ble (0+l.length) (strs l).length&&(strs l).all noRefs)=true:=by
   rw [h2,hall];simp [beq_d,ble_d]
  have:SnapIn 1 (.hs Y.length l.length 1 0 l.length false) (Y++[Blk.arr 1 false (strs l)]) (.sl 1 false (strs l)) ((Y++[Blk.arr 1 false (strs l)]).set Y.length (.arr 1 true (strs l))):=fun n=>by
   simp only [Am.snap,h1,hb]
   have:(strs l).take l.length=strs l:=List.take_of_length_le (by omega)
   simp [this]
  exact this.at (by decide)
 have hset:(Y++[Blk.arr 1 false (strs l)]).set Y.length (.arr 1 true (strs l))=Y++[.arr 1 true (strs l)]:=by simp
 rw [hset] at hsn
 have e2:l.length * 16≤17592186044416:=by omega
 have e3:l.length≤17592186044416:=by omega
 have hne:strs l≠[]:=fun h=>by rw [h] at h2;simp at h2;omega
 have hap:∀ H:Heap,apA 1 16 (.sl 1 true []) (.sl 1 false (strs l)) H=some (.hs H.length l.length 1 0 l.length false,H++[.arr 1 false (strs l)]):=fun H=>by
  have hrd:rdElems H (.sl 1 false (strs l))=some (strs l):=rfl
  cases he:strs l with
  | nil=>exact absurd he hne
  | cons a r=>
   rw [he] at hrd h2
   simp only [List.length_cons] at h2
   simp [apA,apX,szOk,elemSz,lenA,newArr,beq_d,ble_d,blt_d,hrd,h2,e2,e3]
 refine snapCall (by simp [mode_151]) (args':=[.sl 1 false (strs l)]) (h':=Y++[Blk.arr 1 true (strs l)]) (by simp [snapArgs,AV.noRef,hsn]) (by simp [AV.noRef] <;> exact List.all_eq_true.1 hall) ?_
 have hap0:=hap []
 simp only [List.length_nil,List.nil_append] at hap0
 have hcl:=closeStr (H:=[.arr 1 false (strs l)]) (a:=.hs 0 l.length 1 0 l.length false) (l:=l) (.inr ⟨0,hl,rfl,rfl⟩) (Y++[.arr 1 true (strs l)])
 have hnv:nv l (Y++[Blk.arr 1 true (strs l)]).length=.hs (Y.length+1) l.length 1 0 l.length false:=by cases l with
  | nil=>exact absurd rfl hl
  | cons a r=>simp [nv]
 have hnb:nb l=[.arr 1 false (strs l)]:=by cases l with
  | nil=>exact absurd rfl hl
  | cons a r=>rfl
 rw [hnv,hnb] at hcl
 have:=keepX mode_151 eff_151 (by simp [AV.noRef] <;> exact List.all_eq_true.1 hall) (args:=[.sl 1 false (strs l)]) (v:=.hs 0 l.length 1 0 l.length false) (hr:=[.arr 1 false (strs l)]) (h:=Y++[Blk.arr 1 true (strs l)]) (by simp [runW,Tryz.f151,u100,eqA,bsA,fillE,List.replicate,noRefs,AV.noRef,hap0]) hcl
 rw [this]
 simp
theorem c83 {l:List DataV} (hd:DV l) {p:TyV} {px:List AV} (hx:TyRep p px) (hsm:Sm 1048577 p) {n:Nat} {s:Sh} {t:TyV} {S:Nat→Prop} {H:Heap} {v:AV} (hS:∀ x,S x→x<H.length) (hs:SrtAt n S H v s) (hsh:IsSh l t s) (hvt:VT l t) (X:Heap) :
  ∃ X',doCall MX (callW MX) 83 [v,.agg px] (H++X)=some (.ret (.int .i64 (patErr s p)),H++X++X'):=by
 have h145:=c145 hx hsm
 obtain ⟨X2,h147⟩:=c147 hd p px hx hsm n s t S H v (X++[Blk.var false px]) hS hs hsh hvt
 obtain ⟨id,rfl⟩:=hs.hp
 have e1:H++(X++[Blk.var false px])++X2=H++(X++(Blk.var false px::X2)):=by simp
 rw [e1] at h147
 obtain ⟨Y,hY⟩:∃ Y,Y=H++(X++(Blk.var false px::X2)):=⟨_,rfl⟩
 rw [← hY] at h147
 have hbox:Y[H.length+X.length]? = some (.var false px):=by
  rw [hY,← List.append_assoc,← List.length_append,List.getElem?_append_right (Nat.le_refl _),Nat.sub_self];rfl
 have hlast:(H++(X++[Blk.var false px]))[H.length+X.length]? = some (.var false px):=by
  rw [← List.append_assoc,← List.length_append];exact get_last _ _
 unfold patErr
 cases hT:isTree p with
 | false=>
  rw [hT] at h145
  simp at h145
  obtain ⟨qv,rfl,hq⟩:=hx.dest'
  exact ⟨[Blk.var false [.int .i64 p.k,.int .i64 p.v,.str p.nm,qv]],openC mode_83 eff_83 (by simp [runW,Tryz.f83,h145])⟩
 | true=>
  rw [hT] at h145
  simp at h145
  by_cases hz:pErr s p=0
  ·rw [hz] at h147
   have hnl:=isTree_names hT
   have h148:=c148 p px hx hsm (by omega) Y
   have hfin:∃ Z,doCall MX (callW MX) 83 [.hp id 0,.agg px] (H++X)=some (.ret (.int .i64 (if dups [] (namesOf p)=true then 23 else 0)),Y++Z):=by
    obtain ⟨qv,rfl,hq⟩:=hx.dest'
    cases hn:namesOf p with
    | nil=>
     rw [hn] at h148
     simp [nv,nb] at h148
     have h149:doCall MX (callW MX) 149 [.nils] Y=some (.ret (.tup []),Y):=effX' mode_149 eff_149 rfl
     have h151:doCall MX (callW MX) 151 [.nils] Y=some (.ret .nils,Y):=by
      have hcl:=closeStr (H:=[]) (a:=.nils) (l:=[]) (.inl ⟨rfl,rfl⟩) Y
      simp [nv,nb] at hcl
      exact keepX mode_151 eff_151 rfl (v:=.nils) (hr:=[]) (by simp [runW,Tryz.f151,u100,eqA]) hcl
     have h150:doCall MX (callW MX) 150 [.nils] Y=some (.ret .nils,Y):=effX' mode_150 eff_150 rfl
     exact ⟨[],openC mode_83 eff_83 (by simp [runW,Tryz.f83,h145,hlast,h147,hbox,get_of hbox,h148,h149,h150,h151,dups])⟩
    | cons a r=>
     obtain ⟨L,hL⟩:∃ L,L=a::r:=⟨_,rfl⟩
     rw [← hL] at hn ⊢
     have hne:L≠[]:=by rw [hL];exact List.cons_ne_nil _ _
     have hLl:L.length<4294967296:=by rw [← hn];omega
     rw [hn] at h148
     have hnv:nv L Y.length=.hs Y.length L.length 1 0 L.length false:=by rw [hL];rfl
     have hnb:nb L=[.arr 1 false (strs L)]:=by rw [hL];rfl
     rw [hnv,hnb] at h148
     have h149:=c149 (Y:=Y) hne hLl
     have hsl:=sortS_len L
     have hsne:sortS L≠[]:=fun h=>by rw [h] at hsl;exact hne (List.eq_nil_of_length_eq_zero hsl.symm)
     have h151:=c151 (Y:=Y) hsne (by rw [hsl];exact hLl)
     obtain ⟨Z,h150⟩:=c150 (Y:=Y) (B:=.arr 1 true (strs (sortS L))) hsne (by rw [hsl];exact hLl)
     rw [hsl] at h150 h151
     have hcd:=compact_dups L
     cases hdd:dups [] L with
     | true=>
      have hnc:(((Lib.compact (sortS L)).length:Int) == (L.length:Int))=false:=by
       rw [beq_eq_false_iff_ne]
       intro h
       have:=hcd.1 (by omega)
       rw [hdd] at this;cases this
      exact ⟨[.arr 1 true (strs (sortS L)),Z],openC mode_83 eff_83 (by simp [runW,Tryz.f83,h145,hlast,h147,hbox,get_of hbox,h148,h149,h151,h150,hnc])⟩
     | false=>
      have hnc:(((Lib.compact (sortS L)).length:Int) == (L.length:Int))=true:=by
       rw [beq_iff_eq]
       have:=hcd.2 hdd
       omega
      exact ⟨[.arr 1 true (strs (sortS L)),Z],openC mode_83 eff_83 (by simp [runW,Tryz.f83,h145,hlast,h147,hbox,get_of hbox,h148,h149,h151,h150,hnc])⟩
   obtain ⟨Z,hfin⟩:=hfin
   refine ⟨(Blk.var false px::X2)++Z,?_⟩
   rw [hfin,hY]
   simp [hz]
  ·have hzb:(pErr s p != 0)=true:=by simp [hz]
   refine ⟨Blk.var false px::X2,?_⟩
   have e2:H++X++(Blk.var false px::X2)=Y:=by rw [hY,List.append_assoc]
   rw [e2,if_neg (by simp),if_neg hz]
   obtain ⟨qv,rfl,hq⟩:=hx.dest'
   exact openC mode_83 eff_83 (by simp [runW,Tryz.f83,h145,hlast,h147,hzb])
theorem rParams_nd:∀ (l prev:List Bytes),rParams prev l=0→l.Nodup∧∀ x∈l,x ∉ prev
 | [],prev,_=>⟨List.nodup_nil,fun x h=>by cases h⟩
 | x::r,prev,h=>by
  simp only [rParams] at h
  split at h
  ·cases h
  ·split at h
   ·cases h
   ·rename_i h2
    obtain ⟨h3,h4⟩:=rParams_nd r _ h
    have hx:x ∉ prev:=fun hm=>h2 (by
     rw [List.findIdx?_isSome,List.any_eq_true]
     exact ⟨x,hm,beq_self_eq_true x⟩)
    refine ⟨List.nodup_cons.2 ⟨fun hm=>h4 x hm (by simp),h3⟩,fun y hy => ?_⟩
    rcases List.mem_cons.1 hy with rfl | hy
    ·exact hx
    ·exact fun hm=>h4 y hy (List.mem_append.2 (.inl hm))
theorem rDataErr_nd {d:DataV} {l:List DataV} (h:rDataErr d l=0):d.params.Nodup:=by
 have h2:rParams [] d.params=0:=by
  unfold rDataErr at h
  repeat (split at h;first | cases h | skip)
  ·rename_i h2;exact h2
  ·exact h
 exact (rParams_nd _ _ h2).1
theorem dataND {l:List DataV} (h:(rCheckData l).2=0):∀ d∈l,d.params.Nodup:=fun d hdm=>by
 unfold rCheckData at h
 split at h
 ·cases h
 ·obtain ⟨pre,post,e,he⟩:=rDatas_ok l [] h d hdm
  exact rDataErr_nd he
section
variable {l:List DataV} {lv:AV} (hl:SlR DataRep 3 l lv) (hsl:SmL 1048577 l)
include hl hsl
theorem c82 {t:TyV} {xs:List AV} (hx:TyRep t xs) (hst:Sm 1048577 t) (H:Heap) :
  ∃ v H',doCall MX (callW MX) 82 [lv,.agg xs] H=some (.ret (.tup [v,.int .i64 (rBoth l t)]),H')∧(∀ x,x<H.length→H'[x]? = H[x]?)∧(rBoth l t=0→DV l∧VT l t∧IsSh l t (shOf l t)∧∃ n S,(∀ x,S x→x<H'.length)∧SrtAt n S H' v (shOf l t)):=by
 have h143:=c143 hl hsl hx hst
 by_cases hz:rBoth l t=0
 ·obtain ⟨h1,h2,h3⟩:=rBoth_sh hz
  have hd:=dataOK h1
  obtain ⟨v,H',q1,q2,q3,q4⟩:=c144 hl hsl.1 hsl hd (dataND h1) h3 h2 0 t xs [] [] .nilm (fun _=>False) (H++[Blk.var false xs]) hx h2 (fun a h=>by cases h) rfl (repl_nil [] t) (fun x h=>h.elim) (.inl ⟨rfl,rfl⟩)
  obtain ⟨pv,rfl,hp⟩:=hx.dest'
  refine ⟨v,H',openC mode_82 eff_82 ?_,fun x hx=>by rw [q3 x (by simp;omega)];exact List.getElem?_append_left hx,fun _=>⟨hd,h2,h3,_,_,fun x hx=>hx.2,q4⟩⟩
  simp [runW,Tryz.f82,h143,hz,q1]
 ·have hzb:(rBoth l t != 0)=true:=by simp [hz]
  obtain ⟨pv,rfl,hp⟩:=hx.dest'
  exact ⟨.nilp,_,openC mode_82 eff_82 (by simp [runW,Tryz.f82,h143,hzb] <;> rfl),fun x hx=>List.getElem?_append_left hx,fun h=>absurd h hz⟩
theorem c79 {t:TyV} {xs:List AV} (hx:TyRep t xs) (hst:Sm 1048577 t) {arms:List TyV} {av:AV} (ha:SlR TyRep 4 arms av) (hal:arms.length<1048577) (has:∀ p∈arms,Sm 1048577 p) (H:Heap) :
  ∃ v H',doCall MX (callW MX) 79 [lv,.agg xs,av] H=some (.ret (.tup [v,.int .i64 (rCheckArms l t arms).1,.int .i64 (rCheckArms l t arms).2]),H')∧∀ x,x<H.length→H'[x]? = H[x]? := by
 obtain ⟨v,H1,h82,hold,hok⟩:=c82 hl hsl hx hst (H++[Blk.var false xs])
 have hlt:H.length<H1.length:=by
  have h1:=hold H.length (by simp)
  rw [get_last] at h1
  exact (List.getElem?_eq_some_iff.1 h1).1
 have ho1:∀ x,x<H.length→H1[x]? = H[x]? := fun x hx=>by
  rw [hold x (by simp;omega)];exact List.getElem?_append_left hx
 have ho2:∀ (X:Heap) x,x<H.length→(H1++X)[x]? = H[x]? := fun X x hx=>by
  rw [List.getElem?_append_left (by omega)];exact ho1 x hx
 obtain ⟨pv,rfl,hp⟩:=hx.dest'
 unfold rCheckArms
 by_cases hz:rBoth l t=0
 ·rw [if_pos hz]
  obtain ⟨hd,hv,hsh,n,S,hS,hs⟩:=hok hz
  rw [hz] at h82
  by_cases h0:arms.length=0
  ·rw [if_pos h0]
   have g0:¬ ((0:Int)<(arms.length:Int)):=by omega
   have g1:(arms.length:Int)≤12:=by omega
   have e0:arms=[]:=List.eq_nil_of_length_eq_zero h0
   exact ⟨.nilp,H1,openC mode_79 eff_79 (by simp [runW,Tryz.f79,h82,ha.len,e0,bsA,fillE,List.replicate,noRefs,AV.noRef,firstOf]),ho1⟩
  ·rw [if_neg h0]
   have g0:(0:Int)<(arms.length:Int):=by omega
   by_cases h12:12<arms.length
   ·rw [if_pos h12]
    have g1:¬ ((arms.length:Int)≤12):=by omega
    have g2:¬ (arms.length≤12):=by omega
    have g3:0<arms.length:=by omega
    exact ⟨.nilp,H1,openC mode_79 eff_79 (by simp [runW,Tryz.f79,h82,ha.len,g0,g1,g2,g3,bsA,fillE,List.replicate,noRefs,AV.noRef,firstOf]),ho1⟩
   ·rw [if_neg h12]
    have g1:(arms.length:Int)≤12:=by omega
    have g2:arms.length≤12:=by omega
    have g3:0<arms.length:=by omega
    obtain ⟨e,st,hlp,hq⟩:=loop_up (M:=MX) (fid:=79) (N:=50) (C:=callW MX) (c:=loopC Tryz.f79 0) (n:=arms.length)
     (fun i (X:Heap)=>([(9,v),(34,av),(35,.int .i64 arms.length),(36,.int .i64 i)],H1++X))
     (fun i X=>rArms (shOf l t) 0 arms=rArms (shOf l t) i (arms.drop i))
     (fun r=>∃ X,(r=(.ext 0,([(9,v),(34,av),(35,.int .i64 arms.length),(36,.int .i64 arms.length),(37,.bool false)],H1++X))∧rArms (shOf l t) 0 arms=(0,0))∨(r=(.ret,([(6,.nilp),(7,.int .i64 (rArms (shOf l t) 0 arms).1),(8,.int .i64 (rArms (shOf l t) 0 arms).2)],H1++X)))) (fun i X hi hI=>by
       have hi':=lt_cast hi
       have hw:=wr_next hi hal
       obtain ⟨fe,hfe,hR⟩:=ha.ix hi
       obtain ⟨X',hc⟩:=c83 hd hR (has _ (List.getElem_mem hi)) hS hs hsh hv (X++[Blk.var false fe])
       rw [List.drop_eq_getElem_cons hi] at hI
       simp only [rArms] at hI
       obtain ⟨tv,rfl,htv⟩:=hR.dest'
       obtain ⟨id,rfl⟩:=hs.hp
       have e1:H1++(X++[Blk.var false [.int .i64 arms[i].k,.int .i64 arms[i].v,.str arms[i].nm,tv]])++X'=H1++(X++(Blk.var false [.int .i64 arms[i].k,.int .i64 arms[i].v,.str arms[i].nm,tv]::X')):=by simp
       rw [e1] at hc
       have hlast:(H1++(X++[Blk.var false [.int .i64 arms[i].k,.int .i64 arms[i].v,.str arms[i].nm,tv]]))[H1.length+X.length]? = some (.var false [.int .i64 arms[i].k,.int .i64 arms[i].v,.str arms[i].nm,tv]):=by
        rw [← List.append_assoc,← List.length_append];exact get_last _ _
       by_cases hz2:patErr (shOf l t) arms[i]=0
       ·rw [if_pos hz2] at hI
        rw [hz2] at hc
        exact .inl ⟨X++(Blk.var false [.int .i64 arms[i].k,.int .i64 arms[i].v,.str arms[i].nm,tv]::X'),by simp [Tryz.f79,hi',hfe,hlast,hc,hw],hI⟩
       ·rw [if_neg hz2] at hI
        have hzb:(patErr (shOf l t) arms[i] != 0)=true:=by simp [hz2]
        refine .inr ⟨_,_,by simp [Tryz.f79,hi',hfe,hlast,hc,hzb] <;> first | exact ⟨rfl,rfl⟩ | rfl,by simp,X++(Blk.var false [.int .i64 arms[i].k,.int .i64 arms[i].v,.str arms[i].nm,tv]::X'),.inr ?_⟩
        rw [hI]) (fun X hI=>by
       rw [List.drop_length] at hI
       exact ⟨_,_,by simp [Tryz.f79] <;> first | exact ⟨rfl,rfl⟩ | rfl,by simp,X,.inl ⟨rfl,by rw [hI];rfl⟩⟩) [] (by simp)
    obtain ⟨X,hq⟩:=hq
    simp [Tryz.f79] at hlp
    obtain ⟨id,rfl⟩:=hs.hp
    rcases hq with ⟨hq,hr⟩ | hq
    ·cases hq
     rw [hr]
     exact ⟨.hp id 0,H1++X,openC mode_79 eff_79 (by simp [runW,Tryz.f79,h82,ha.len,g0,g1,g2,g3,bsA,fillE,List.replicate,noRefs,AV.noRef,firstOf,hlp]),ho2 X⟩
    ·cases hq
     exact ⟨.nilp,H1++X,openC mode_79 eff_79 (by simp [runW,Tryz.f79,h82,ha.len,g0,g1,g2,g3,bsA,fillE,List.replicate,noRefs,AV.noRef,firstOf,hlp]),ho2 X⟩
 ·rw [if_neg hz]
  have hzb:(rBoth l t != 0)=true:=by simp [hz]
  have hfo:∀ a b,firstOf [rBoth l t,a,b]=rBoth l t:=fun a b=>by simp [firstOf,hz]
  exact ⟨.nilp,H1,openC mode_79 eff_79 (by simp [runW,Tryz.f79,h82,ha.len,hfo,hzb,bsA,fillE,List.replicate,noRefs,AV.noRef]),ho1⟩
end
inductive DvRep:TyV→List AV→Prop where
 | nil (v:Int) (nm:Bytes):DvRep (.mk 0 v nm []) [.str nm,.int .i64 v,.nils]
 | sl (v:Int) (nm:Bytes) (ps:List TyV) (ex:Bool) (es:List (List AV)) (hl:es.length=ps.length) (h:∀ (i:Nat) t e,ps[i]? = some t→es[i]? = some e→DvRep t e) :
   DvRep (.mk 0 v nm ps) [.str nm,.int .i64 v,.sl 3 ex es]
theorem DvRep.dest {k v:Int} {nm:Bytes} {ps:List TyV} {xs:List AV} (h:DvRep (.mk k v nm ps) xs):k=0∧∃ pv,xs=[.str nm,.int .i64 v,pv]∧SlR DvRep 3 ps pv:=by
 cases h with
 | nil=>exact ⟨rfl,_,rfl,.inl ⟨rfl,rfl⟩⟩
 | sl _ _ _ ex es hl h=>exact ⟨rfl,_,rfl,.inr ⟨ex,es,rfl,hl,h⟩⟩
theorem DvRep.dest' {t:TyV} {xs:List AV} (h:DvRep t xs):∃ pv,xs=[.str t.nm,.int .i64 t.v,pv]∧SlR DvRep 3 t.ps pv:=by
 cases t
 exact h.dest.2
theorem DvRep.k0 {t:TyV} {xs:List AV} (h:DvRep t xs):t.k=0:=by
 cases t
 exact h.dest.1
theorem DvRep.intro {v:Int} {nm:Bytes} {ps:List TyV} {pv:AV} (h:SlR DvRep 3 ps pv):DvRep (.mk 0 v nm ps) [.str nm,.int .i64 v,pv]:=by
 rcases h with ⟨rfl,rfl⟩ | ⟨ex,es,rfl,hl,h⟩
 ·exact .nil v nm
 ·exact .sl v nm ps ex es hl h
theorem DvRep.noRefs {t:TyV} {xs:List AV} (h:DvRep t xs):noRefs xs=true:=by
 obtain ⟨pv,rfl,hp⟩:=h.dest'
 simp [Am.noRefs,AV.noRef,hp.noRef]
mutual
def same:TyV→TyV→Bool
 | .mk k v nm ps,t=>decide (k=t.k)&&(decide (v=t.v)&&((nm == t.nm)&&(decide (ps.length=t.ps.length)&&sames ps t.ps)))
def sames:List TyV→List TyV→Bool
 | [],_=>true
 | p::r,q=>same p (q.headD default)&&sames r q.tail
end
theorem sames_drop {ss ps:List TyV} {j:Nat} (hj:j<ps.length) (hs:j<ss.length):sames (ps.drop j) (ss.drop j)=(same ps[j] ss[j]&&sames (ps.drop (j+1)) (ss.drop (j+1))):=by
 rw [List.drop_eq_getElem_cons hj,List.drop_eq_getElem_cons hs]
 simp only [sames,List.headD_cons,List.tail_cons]
theorem same_rfl (t:TyV):same t t=true:=by
 induction t using TyV.ind with
 | h k v nm ps ih=>
  have key:∀ (l:List TyV),(∀ p∈l,p∈ps)→sames l l=true:=by
   intro l
   induction l with
   | nil=>intro _;rfl
   | cons p r ihr=>
    intro hm
    simp only [sames,List.headD_cons,List.tail_cons,ih p (hm p (by simp)),ihr (fun q hq=>hm q (by simp [hq])),Bool.and_self]
  simp only [same]
  simp [TyV.k,TyV.v,TyV.nm,TyV.ps,key ps (fun _ h=>h)]
mutual
def fitsV:TyV→TyV→Bool
 | .mk k pv nm ps,v=>if k=3 then (v.nm == [])&&decide (v.v=pv) else if k=2 then (v.nm == nm)&&(decide (v.ps.length=ps.length)&&fitsVs ps v.ps) else true
def fitsVs:List TyV→List TyV→Bool
 | [],_=>true
 | p::r,q=>fitsV p (q.headD default)&&fitsVs r q.tail
end
theorem fitsVs_drop {ss ps:List TyV} {j:Nat} (hj:j<ps.length) (hs:j<ss.length):fitsVs (ps.drop j) (ss.drop j)=(fitsV ps[j] ss[j]&&fitsVs (ps.drop (j+1)) (ss.drop (j+1))):=by
 rw [List.drop_eq_getElem_cons hj,List.drop_eq_getElem_cons hs]
 simp only [fitsVs,List.headD_cons,List.tail_cons]
theorem c120 (t:TyV):∀ (xs:List AV) (d c:Int),DvRep t xs→Sm 1048577 t→0≤d→d≤41→0≤c→c≤201→∀ h,doCall MX (callW MX) 120 [.agg xs,.int .i64 d,.int .i64 c] h=some (.ret (.int .i64 (tyIn t d c)),h):=by
 induction t using TyV.ind with
 | h k v nm ps ih=>
  intro xs d c hx hs d0 d1 c0 c1 h
  have hn:([AV.agg xs,.int .i64 d,.int .i64 c]:List AV).all AV.noRef=true:=by simp [AV.noRef,hx.noRefs]
  obtain ⟨rfl,pv,rfl,hp⟩:=hx.dest
  obtain ⟨s1,s2,s3⟩:=hs.dest
  have wc:wr .i64 (c+1)=c+1:=wr_i64 (by omega) (by omega)
  have wd:wr .i64 (d+1)=d+1:=wr_i64 (by omega) (by omega)
  refine pureX mode_120 eff_120 hn rfl (hr:=[.var false [.str nm,.int .i64 v,pv]]) ?_ h
  by_cases h1:40<d
  ·simp [runW,Tryz.f120,wc,h1,tyIn]
  ·by_cases h2:200<c+1
   ·simp [runW,Tryz.f120,wc,h1,h2,tyIn]
   ·by_cases h3:200<(ps.length:Int)
    ·simp [runW,Tryz.f120,wc,h1,h2,h3,hp.len,tyIn]
    ·obtain ⟨e,st,hlp,hq⟩:=loop_up (M:=MX) (fid:=120) (N:=43) (C:=callW MX) (c:=loopC Tryz.f120 0) (n:=ps.length) (fun i (b:Int)=>([(1,.int .i64 d),(2,.int .i64 b),(3,.hp 0 0),(7,.int .i64 i)],[.var false [.str nm,.int .i64 v,pv]]))
      (fun i b=>tyIns ps (d+1) (c+1)=tyIns (ps.drop i) (d+1) b∧0≤b∧b≤201)
      (fun r=>∃ (i:Nat) (x:AV),r=(.ext 0,([(1,.int .i64 d),(2,.int .i64 (tyIns ps (d+1) (c+1))),(3,.hp 0 0),(7,.int .i64 i),(30,x)],[.var false [.str nm,.int .i64 v,pv]]))) (fun i b hi hI=>by
        obtain ⟨e,he,hR⟩:=hp.ix hi
        have hi':=lt_cast hi
        have hw:=wr_next hi s2
        obtain ⟨i1,i2,i3⟩:=hI
        have hdr:ps.drop i=ps[i]::ps.drop (i+1):=List.drop_eq_getElem_cons hi
        rw [hdr] at i1
        simp only [tyIns] at i1
        have hrec:=ih ps[i] (List.getElem_mem hi) e (d+1) b hR (s3 _ (List.getElem_mem hi)) (by omega) (by omega) i2 i3
        obtain ⟨q,hq,hq'⟩:=hR.dest'
        subst hq
        by_cases hb:b≤200
        ·rw [if_pos hb] at i1
         have hrange:=tyIn_range ps[i] (d+1) b i2 i3
         exact .inl ⟨tyIn ps[i] (d+1) b,by simp [Tryz.f120,hp.len,hi',he,hb,hw,wd,hrec],i1,hrange⟩
        ·rw [if_neg hb] at i1
         exact .inr ⟨_,_,by simp [Tryz.f120,hp.len,hi',hb] <;> exact ⟨rfl,rfl⟩,by simp,i,_,by rw [i1]⟩) (fun b hI=>by
        obtain ⟨i1,i2,i3⟩:=hI
        rw [List.drop_length] at i1
        simp only [tyIns] at i1
        exact ⟨_,_,by simp [Tryz.f120,hp.len] <;> exact ⟨rfl,rfl⟩,by simp,ps.length,_,by rw [i1]⟩) (c+1) ⟨by simp,by omega,by omega⟩
     obtain ⟨i,x,hq⟩:=hq
     cases hq
     simp [Tryz.f120] at hlp
     simp [runW,Tryz.f120,wc,h1,h2,h3,hp.len,hlp,tyIn]
theorem c70 {t:TyV} {xs:List AV} (hx:DvRep t xs) (hs:Sm 1048577 t) (h:Heap):doCall MX (callW MX) 70 [.agg xs] h=some (.ret (.bool (isTree t)),h):=by
 have hn:([AV.agg xs]:List AV).all AV.noRef=true:=by simp [AV.noRef,hx.noRefs]
 have hc:=c120 t xs 1 0 hx hs (by omega) (by omega) (by omega) (by omega)
 obtain ⟨pv,rfl,hp⟩:=hx.dest'
 exact pureX mode_70 eff_70 hn rfl (hr:=[.var false [.str t.nm,.int .i64 t.v,pv]]) (by simp [runW,Tryz.f70,hc,isTree]) h
theorem c18 (t:TyV):∀ (u:TyV) (xs ys:List AV),DvRep t xs→DvRep u ys→Sm 1048577 t→∀ h,doCall MX (callW MX) 18 [.agg xs,.agg ys] h=some (.ret (.bool (same t u)),h):=by
 induction t using TyV.ind with
 | h k v nm ps ih=>
  intro u xs ys hx hy hs h
  have hn:([AV.agg xs,.agg ys]:List AV).all AV.noRef=true:=by simp [AV.noRef,hx.noRefs,hy.noRefs]
  obtain ⟨s1,s2,s3⟩:=hs.dest
  have hb6:=bef_18_6
  simp [opsF,opsAt,Tryz.f18] at hb6
  have hku:=hy.k0
  obtain ⟨rfl,pv,rfl,hp⟩:=hx.dest
  obtain ⟨qv,rfl,hq⟩:=hy.dest'
  suffices hh:∃ hr,runW MX 18 [.agg [.str nm,.int .i64 v,pv],.agg [.str u.nm,.int .i64 u.v,qv]] []=some (.ret (.bool (same (.mk 0 v nm ps) u)),hr) by
   obtain ⟨hr,hh⟩:=hh
   exact pureX mode_18 eff_18 hn rfl hh h
  simp only [same]
  rw [hku]
  by_cases h0:(0:Int)=0
  ·have d0:decide ((0:Int)=0)=true:=decide_eq_true h0
   have b0:True:=trivial
   by_cases h1:v=u.v
   ·have d1:decide (v=u.v)=true:=decide_eq_true h1
    have b1:(v != u.v)=false:=by simp [h1]
    cases h2:nm == u.nm with
    | true=>
     have b2:(nm != u.nm)=false:=by simp only [bne,h2,Bool.not_true]
     by_cases h3:ps.length=u.ps.length
     ·have d3:decide (ps.length=u.ps.length)=true:=decide_eq_true h3
      have hl3:((ps.length:Int) != (u.ps.length:Int))=false:=by rw [h3];simp
      obtain ⟨e,st,hlp,hq'⟩:=loop_up (M:=MX) (fid:=18) (N:=46) (C:=callW MX) (c:=loopC Tryz.f18 0) (n:=ps.length) (fun i (_:Unit)=>([(2,.hp 0 0),(3,.hp 1 0),(5,.int .i64 i)],[.var false [.str nm,.int .i64 v,pv],.var false [.str u.nm,.int .i64 u.v,qv]]))
       (fun i _=>sames ps u.ps=sames (ps.drop i) (u.ps.drop i))
       (fun r=>(r=(.ext 0,([(2,.hp 0 0),(3,.hp 1 0),(5,.int .i64 ps.length),(31,.bool false)],[.var false [.str nm,.int .i64 v,pv],.var false [.str u.nm,.int .i64 u.v,qv]]))∧sames ps u.ps=true)∨(r=(.ret,([(4,.bool false)],[.var false [.str nm,.int .i64 v,pv],.var false [.str u.nm,.int .i64 u.v,qv]]))∧sames ps u.ps=false)) (fun i b hi hI=>by
         obtain ⟨e,he,hR⟩:=hp.ix hi
         have hiu:i<u.ps.length:=by omega
         obtain ⟨e2,he2,hR2⟩:=hq.ix hiu
         have hi':=lt_cast hi
         have hw:=wr_next hi s2
         rw [sames_drop hi hiu] at hI
         have hrec:=ih ps[i] (List.getElem_mem hi) u.ps[i] e e2 hR hR2 (s3 _ (List.getElem_mem hi))
         obtain ⟨q1,rfl,hq1⟩:=hR.dest'
         obtain ⟨q2,rfl,hq2⟩:=hR2.dest'
         cases hs:same ps[i] u.ps[i] with
         | true=>
          rw [hs] at hI hrec
          exact .inl ⟨(),by simp [Tryz.f18,hp.len,hi',he,he2,hrec,hw,hb6,noRefs,AV.noRef,hq1.noRef,hq2.noRef],by simpa using hI⟩
         | false=>
          rw [hs] at hI hrec
          exact .inr ⟨_,_,by simp [Tryz.f18,hp.len,hi',he,he2,hrec,hb6,noRefs,AV.noRef,hq1.noRef,hq2.noRef] <;> first | exact ⟨rfl,rfl⟩ | rfl,by simp,.inr ⟨rfl,by simpa using hI⟩⟩) (fun b hI=>by
         rw [List.drop_length] at hI
         exact ⟨_,_,by simp [Tryz.f18,hp.len] <;> first | exact ⟨rfl,rfl⟩ | rfl,by simp,.inl ⟨rfl,by rw [hI];rfl⟩⟩) () (by simp)
      simp [Tryz.f18] at hlp
      simp only [d0,d1,d3,Bool.true_and]
      rcases hq' with ⟨hq',hr⟩ | ⟨hq',hr⟩ <;> rw [hr] <;> cases hq' <;> exact ⟨_,by simp [runW,Tryz.f18,hp.len,hq.len,b0,b1,h2,hl3,hlp] <;> rfl⟩
     ·have hl3:((ps.length:Int) != (u.ps.length:Int))=true:=by simp;omega
      have d3:decide (ps.length=u.ps.length)=false:=decide_eq_false h3
      simp only [d0,d1,d3,Bool.true_and,Bool.false_and]
      exact ⟨_,by simp [runW,Tryz.f18,hp.len,hq.len,b0,b1,h2,hl3] <;> rfl⟩
    | false=>
     have b2:(nm != u.nm)=true:=by simp only [bne,h2,Bool.not_false]
     simp only [d0,d1,Bool.true_and,Bool.false_and]
     exact ⟨_,by simp [runW,Tryz.f18,b0,b1,h2] <;> rfl⟩
   ·have d1:decide (v=u.v)=false:=decide_eq_false h1
    have b1:(v != u.v)=true:=by simp [h1]
    simp only [d0,d1,Bool.true_and,Bool.false_and]
    cases h2:nm == u.nm <;> exact ⟨_,by simp [runW,Tryz.f18,b0,b1,h2] <;> rfl⟩
  ·have d0:decide ((0:Int)=0)=false:=decide_eq_false h0
   simp only [d0,Bool.false_and]
   exact absurd rfl h0
      
theorem c45 (t:TyV):∀ (u:TyV) (xs ys:List AV),TyRep t xs→TyRep u ys→Sm 1048577 t→∀ h,doCall MX (callW MX) 45 [.agg xs,.agg ys] h=some (.ret (.bool (same t u)),h):=by
 induction t using TyV.ind with
 | h k v nm ps ih=>
  intro u xs ys hx hy hs h
  have hn:([AV.agg xs,.agg ys]:List AV).all AV.noRef=true:=by simp [AV.noRef,hx.noRefs,hy.noRefs]
  obtain ⟨s1,s2,s3⟩:=hs.dest
  have hb6:=bef_45_6
  simp [opsF,opsAt,Tryz.f45] at hb6
  skip
  obtain ⟨pv,rfl,hp⟩:=hx.dest
  obtain ⟨qv,rfl,hq⟩:=hy.dest'
  suffices hh:∃ hr,runW MX 45 [.agg [.int .i64 k,.int .i64 v,.str nm,pv],.agg [.int .i64 u.k,.int .i64 u.v,.str u.nm,qv]] []=some (.ret (.bool (same (.mk k v nm ps) u)),hr) by
   obtain ⟨hr,hh⟩:=hh
   exact pureX mode_45 eff_45 hn rfl hh h
  simp only [same]
  skip
  by_cases h0:k=u.k
  ·have d0:decide (k=u.k)=true:=decide_eq_true h0
   have b0:(k != u.k)=false:=by simp [h0]
   by_cases h1:v=u.v
   ·have d1:decide (v=u.v)=true:=decide_eq_true h1
    have b1:(v != u.v)=false:=by simp [h1]
    cases h2:nm == u.nm with
    | true=>
     have b2:(nm != u.nm)=false:=by simp only [bne,h2,Bool.not_true]
     by_cases h3:ps.length=u.ps.length
     ·have d3:decide (ps.length=u.ps.length)=true:=decide_eq_true h3
      have hl3:((ps.length:Int) != (u.ps.length:Int))=false:=by rw [h3];simp
      obtain ⟨e,st,hlp,hq'⟩:=loop_up (M:=MX) (fid:=45) (N:=53) (C:=callW MX) (c:=loopC Tryz.f45 0) (n:=ps.length) (fun i (_:Unit)=>([(2,.hp 0 0),(3,.hp 1 0),(5,.int .i64 i)],[.var false [.int .i64 k,.int .i64 v,.str nm,pv],.var false [.int .i64 u.k,.int .i64 u.v,.str u.nm,qv]]))
       (fun i _=>sames ps u.ps=sames (ps.drop i) (u.ps.drop i))
       (fun r=>(r=(.ext 0,([(2,.hp 0 0),(3,.hp 1 0),(5,.int .i64 ps.length),(38,.bool false)],[.var false [.int .i64 k,.int .i64 v,.str nm,pv],.var false [.int .i64 u.k,.int .i64 u.v,.str u.nm,qv]]))∧sames ps u.ps=true)∨(r=(.ret,([(4,.bool false)],[.var false [.int .i64 k,.int .i64 v,.str nm,pv],.var false [.int .i64 u.k,.int .i64 u.v,.str u.nm,qv]]))∧sames ps u.ps=false)) (fun i b hi hI=>by
         obtain ⟨e,he,hR⟩:=hp.ix hi
         have hiu:i<u.ps.length:=by omega
         obtain ⟨e2,he2,hR2⟩:=hq.ix hiu
         have hi':=lt_cast hi
         have hw:=wr_next hi s2
         rw [sames_drop hi hiu] at hI
         have hrec:=ih ps[i] (List.getElem_mem hi) u.ps[i] e e2 hR hR2 (s3 _ (List.getElem_mem hi))
         obtain ⟨q1,rfl,hq1⟩:=hR.dest'
         obtain ⟨q2,rfl,hq2⟩:=hR2.dest'
         cases hs:same ps[i] u.ps[i] with
         | true=>
          rw [hs] at hI hrec
          exact .inl ⟨(),by simp [Tryz.f45,hp.len,hi',he,he2,hrec,hw,hb6,noRefs,AV.noRef,hq1.noRef,hq2.noRef],by simpa using hI⟩
         | false=>
          rw [hs] at hI hrec
          exact .inr ⟨_,_,by simp [Tryz.f45,hp.len,hi',he,he2,hrec,hb6,noRefs,AV.noRef,hq1.noRef,hq2.noRef] <;> first | exact ⟨rfl,rfl⟩ | rfl,by simp,.inr ⟨rfl,by simpa using hI⟩⟩) (fun b hI=>by
         rw [List.drop_length] at hI
         exact ⟨_,_,by simp [Tryz.f45,hp.len] <;> first | exact ⟨rfl,rfl⟩ | rfl,by simp,.inl ⟨rfl,by rw [hI];rfl⟩⟩) () (by simp)
      simp [Tryz.f45] at hlp
      simp only [d0,d1,d3,Bool.true_and]
      rcases hq' with ⟨hq',hr⟩ | ⟨hq',hr⟩ <;> rw [hr] <;> cases hq' <;> exact ⟨_,by simp [runW,Tryz.f45,hp.len,hq.len,b0,b1,h2,hl3,hlp] <;> rfl⟩
     ·have hl3:((ps.length:Int) != (u.ps.length:Int))=true:=by simp;omega
      have d3:decide (ps.length=u.ps.length)=false:=decide_eq_false h3
      simp only [d0,d1,d3,Bool.true_and,Bool.false_and]
      exact ⟨_,by simp [runW,Tryz.f45,hp.len,hq.len,b0,b1,h2,hl3] <;> rfl⟩
    | false=>
     have b2:(nm != u.nm)=true:=by simp only [bne,h2,Bool.not_false]
     simp only [d0,d1,Bool.true_and,Bool.false_and]
     exact ⟨_,by simp [runW,Tryz.f45,b0,b1,h2] <;> rfl⟩
   ·have d1:decide (v=u.v)=false:=decide_eq_false h1
    have b1:(v != u.v)=true:=by simp [h1]
    simp only [d0,d1,Bool.true_and,Bool.false_and]
    cases h2:nm == u.nm <;> exact ⟨_,by simp [runW,Tryz.f45,b0,b1,h2] <;> rfl⟩
  ·have d0:decide (k=u.k)=false:=decide_eq_false h0
   simp only [d0,Bool.false_and]
   have b0:(k != u.k)=true:=by simp [h0]
   exact ⟨_,by simp [runW,Tryz.f45,b0] <;> rfl⟩
mutual
def exactV:TyV→TyV
 | .mk _ v nm ps=>if nm == [] then .mk 3 v [] [] else .mk 2 0 nm (exactVs ps)
def exactVs:List TyV→List TyV
 | []=>[]
 | p::r=>exactV p::exactVs r
end
theorem exactVs_map:∀ ps,exactVs ps=ps.map exactV
 | []=>rfl
 | p::r=>by simp [exactVs,exactVs_map r]
theorem c49 (t:TyV):∀ (xs:List AV),DvRep t xs→Sm 1048577 t→∃ ys,DvRep (id t) ys∧∀ h,doCall MX (callW MX) 49 [.agg xs] h=some (.ret (.agg ys),h):=by
 induction t using TyV.ind with
 | h k v nm ps ih=>
  intro xs hx hs
  have hn:([AV.agg xs]:List AV).all AV.noRef=true:=by simp [AV.noRef,hx.noRefs]
  obtain ⟨rfl,pv,rfl,hp⟩:=hx.dest
  obtain ⟨s1,s2,s3⟩:=hs.dest
  have hb:=bef_49_6
  simp [opsF,opsAt,Tryz.f49] at hb
  obtain ⟨e,st,hlp,hq⟩:=loop_up (M:=MX) (fid:=49) (N:=26) (C:=callW MX) (c:=loopC Tryz.f49 0) (n:=ps.length)
   (fun i (b:AV×Heap×List (List AV))=>([(1,.hp 0 0),(2,.hp 1 0),(3,.hp 2 0),(4,.int .i64 i)],Blk.var false [AV.str nm,AV.int .i64 v,pv]::Blk.var false [AV.str [],AV.int .i64 0,AV.nils]::Blk.var false [AV.str nm,AV.int .i64 v,b.1]::b.2.1))
   (fun i b=>AccIn 3 3 b.2.1 b.1 b.2.2∧b.2.2.length=((ps.map id).take i).length∧∀ (j:Nat) t e,((ps.map id).take i)[j]? = some t→b.2.2[j]? = some e→DvRep t e)
   (fun r=>∃ b:AV×Heap×List (List AV),r=(.ext 0,([(1,.hp 0 0),(2,.hp 1 0),(3,.hp 2 0),(4,.int .i64 ps.length),(11,.bool false)],Blk.var false [AV.str nm,AV.int .i64 v,pv]::Blk.var false [AV.str [],AV.int .i64 0,AV.nils]::Blk.var false [AV.str nm,AV.int .i64 v,b.1]::b.2.1)) ∧
     AccIn 3 3 b.2.1 b.1 b.2.2∧b.2.2.length=(ps.map id).length∧∀ (j:Nat) t e,(ps.map id)[j]? = some t→b.2.2[j]? = some e→DvRep t e) (fun i b hi hI=>by
     obtain ⟨a,rest,es⟩:=b
     obtain ⟨i1,i2,i3⟩:=hI
     simp only at i1 i2 i3
     obtain ⟨e,he,hR⟩:=hp.ix hi
     have hi':=lt_cast hi
     have hw:=wr_next hi s2
     have him:i<(ps.map id).length:=by simpa using hi
     obtain ⟨ys,hys,hcall⟩:=ih ps[i] (List.getElem_mem hi) e hR (s3 _ (List.getElem_mem hi))
     have hys':DvRep (ps.map id)[i] ys:=by simpa using hys
     obtain ⟨j1,j2⟩:=rep_push i2 i3 hys'
     rw [take_push him] at j1 j2
     have hlen:es.length<16777215:=by rw [i2,List.length_take,List.length_map];exact Nat.lt_of_le_of_lt (Nat.min_le_right _ _) (Nat.lt_of_lt_of_le s2 (by decide))
     obtain ⟨qv,rfl,hqv⟩:=hR.dest'
     obtain ⟨a',rest',hap,hacc⟩:=AccIn.push (byt:=48) (P:=[Blk.var false [AV.str nm,AV.int .i64 v,pv],Blk.var false [AV.str [],AV.int .i64 0,AV.nils],Blk.var false [AV.str nm,AV.int .i64 v,a]]) (rest:=rest) ys true (i1) (by decide) (by decide) hlen
     simp only [List.cons_append,List.nil_append,id] at hap
     have hyn:=hys.noRefs
     have hys:DvRep ps[i] ys:=hys
     obtain ⟨qy,rfl,hqy⟩:=hys.dest'
     exact .inl ⟨(a',rest',_),by simp [Tryz.f49,hp.len,hi',he,hcall,bsA,fillE,List.replicate,hyn,hap,hacc.cells,hw,hb,noRefs,AV.noRef,hqv.noRef,hqy.noRef],hacc,j1,j2⟩) (fun b hI=>by
     obtain ⟨a,rest,es⟩:=b
     obtain ⟨i1,i2,i3⟩:=hI
     rw [List.take_of_length_le (by simp)] at i2 i3
     exact ⟨_,_,by simp [Tryz.f49,hp.len] <;> first | exact ⟨rfl,rfl⟩ | rfl,by simp,(a,rest,es),rfl,i1,i2,i3⟩) (.nils,[],[]) ⟨.nil _ _ _,by simp,fun j t e h=>by simp at h⟩
  obtain ⟨⟨a,rest,es⟩,hq,i1,i2,i3⟩:=hq
  cases hq
  simp [Tryz.f49] at hlp
  obtain ⟨v',rest',hsn,hrep,heq⟩:=acc_end (P:=[Blk.var false [AV.str nm,AV.int .i64 v,pv],Blk.var false [AV.str nm,AV.int .i64 v,a],Blk.var false [AV.str nm,AV.int .i64 v,a]]) (fun a e h=>DvRep.noRefs h) i1 i2 i3
  have fin:∀ (hrun:runW MX 49 [.agg [.str nm,.int .i64 v,pv]] []=some (.ret (.agg [.str nm,.int .i64 v,a]),[Blk.var false [AV.str nm,AV.int .i64 v,pv],Blk.var false [AV.str nm,AV.int .i64 v,a],Blk.var false [AV.str nm,AV.int .i64 v,a]]++rest)) h,
    doCall MX (callW MX) 49 [.agg [.str nm,.int .i64 v,pv]] h=some (.ret (.agg [.str nm,.int .i64 v,v']),h):=fun hrun h=>by
   cases hna:a.noRef with
   | true=>
    have:=heq hna
    subst this
    exact pureX mode_49 eff_49 hn (by simp [AV.noRef,noRefs,hna]) hrun h
   | false=>
    exact pureS mode_49 eff_49 hn (by simp [AV.noRef,noRefs,hna]) ((SnapIn.agg (by simp [noRefs,AV.noRef,hna]) (.cons (.flat rfl _) (.cons (.flat rfl _) (.cons hsn (.nil _))))).at (by decide)) (by simp [AV.noRef,noRefs,hrep.noRef]) hrun h
  refine ⟨_,?_,fin (by simp [runW,Tryz.f49,hlp,resA])⟩
  have:=DvRep.intro (v:=v) (nm:=nm) hrep
  simpa using this
theorem c46 (t:TyV):∀ (xs:List AV),DvRep t xs→Sm 1048577 t→∃ ys,TyRep (exactV t) ys∧∀ h,doCall MX (callW MX) 46 [.agg xs] h=some (.ret (.agg ys),h):=by
 induction t using TyV.ind with
 | h k v nm ps ih=>
  intro xs hx hs
  have hn:([AV.agg xs]:List AV).all AV.noRef=true:=by simp [AV.noRef,hx.noRefs]
  obtain ⟨rfl,pv,rfl,hp⟩:=hx.dest
  obtain ⟨s1,s2,s3⟩:=hs.dest
  have hb:=bef_46_7
  simp [opsF,opsAt,Tryz.f46] at hb
  cases h0:nm == [] with
  | true=>
   refine ⟨[.int .i64 3,.int .i64 v,.str [],.nils],by simp only [exactV,h0];exact TyRep.intro (.inl ⟨rfl,rfl⟩),fun h=>pureX mode_46 eff_46 hn rfl (hr:=[Blk.var false [AV.str nm,AV.int .i64 v,pv],Blk.var false [.int .i64 3,.int .i64 v,.str [],.nils]]) (by simp [runW,Tryz.f46,h0,resA]) h⟩
  | false=>
   obtain ⟨e,st,hlp,hq⟩:=loop_up (M:=MX) (fid:=46) (N:=33) (C:=callW MX) (c:=loopC Tryz.f46 0) (n:=ps.length)
    (fun i (b:AV×Heap×List (List AV))=>([(1,.hp 0 0),(2,.hp 1 0),(3,.hp 2 0),(4,.int .i64 i)],Blk.var false [AV.str nm,AV.int .i64 v,pv]::Blk.var false [AV.int .i64 0,AV.int .i64 0,AV.str [],AV.nils]::Blk.var false [AV.int .i64 2,AV.int .i64 0,AV.str nm,b.1]::b.2.1))
    (fun i b=>AccIn 4 3 b.2.1 b.1 b.2.2∧b.2.2.length=((ps.map exactV).take i).length∧∀ (j:Nat) t e,((ps.map exactV).take i)[j]? = some t→b.2.2[j]? = some e→TyRep t e)
    (fun r=>∃ b:AV×Heap×List (List AV),r=(.ext 0,([(1,.hp 0 0),(2,.hp 1 0),(3,.hp 2 0),(4,.int .i64 ps.length),(18,.bool false)],Blk.var false [AV.str nm,AV.int .i64 v,pv]::Blk.var false [AV.int .i64 0,AV.int .i64 0,AV.str [],AV.nils]::Blk.var false [AV.int .i64 2,AV.int .i64 0,AV.str nm,b.1]::b.2.1)) ∧
      AccIn 4 3 b.2.1 b.1 b.2.2∧b.2.2.length=(ps.map exactV).length∧∀ (j:Nat) t e,(ps.map exactV)[j]? = some t→b.2.2[j]? = some e→TyRep t e) (fun i b hi hI=>by
      obtain ⟨a,rest,es⟩:=b
      obtain ⟨i1,i2,i3⟩:=hI
      simp only at i1 i2 i3
      obtain ⟨e,he,hR⟩:=hp.ix hi
      have hi':=lt_cast hi
      have hw:=wr_next hi s2
      have him:i<(ps.map exactV).length:=by simpa using hi
      obtain ⟨ys,hys,hcall⟩:=ih ps[i] (List.getElem_mem hi) e hR (s3 _ (List.getElem_mem hi))
      have hys':TyRep (ps.map exactV)[i] ys:=by simpa using hys
      obtain ⟨j1,j2⟩:=rep_push i2 i3 hys'
      rw [take_push him] at j1 j2
      have hlen:es.length<16777215:=by rw [i2,List.length_take,List.length_map];exact Nat.lt_of_le_of_lt (Nat.min_le_right _ _) (Nat.lt_of_lt_of_le s2 (by decide))
      obtain ⟨qv,rfl,hqv⟩:=hR.dest'
      obtain ⟨a',rest',hap,hacc⟩:=AccIn.push (byt:=56) (P:=[Blk.var false [AV.str nm,AV.int .i64 v,pv],Blk.var false [AV.int .i64 0,AV.int .i64 0,AV.str [],AV.nils],Blk.var false [AV.int .i64 2,AV.int .i64 0,AV.str nm,a]]) (rest:=rest) ys true (i1) (by decide) (by decide) hlen
      simp only [List.cons_append,List.nil_append,id] at hap
      have hyn:=hys.noRefs
      skip
      obtain ⟨qy,rfl,hqy⟩:=hys.dest'
      exact .inl ⟨(a',rest',_),by simp [Tryz.f46,hp.len,hi',he,hcall,bsA,fillE,List.replicate,hyn,hap,hacc.cells,hw,hb,noRefs,AV.noRef,hqv.noRef,hqy.noRef],hacc,j1,j2⟩) (fun b hI=>by
      obtain ⟨a,rest,es⟩:=b
      obtain ⟨i1,i2,i3⟩:=hI
      rw [List.take_of_length_le (by simp)] at i2 i3
      exact ⟨_,_,by simp [Tryz.f46,hp.len] <;> first | exact ⟨rfl,rfl⟩ | rfl,by simp,(a,rest,es),rfl,i1,i2,i3⟩) (.nils,[],[]) ⟨.nil _ _ _,by simp,fun j t e h=>by simp at h⟩
   obtain ⟨⟨a,rest,es⟩,hq,i1,i2,i3⟩:=hq
   cases hq
   simp [Tryz.f46] at hlp
   obtain ⟨v',rest',hsn,hrep,heq⟩:=acc_end (P:=[Blk.var false [AV.str nm,AV.int .i64 v,pv],Blk.var false [AV.int .i64 2,AV.int .i64 0,AV.str nm,a],Blk.var false [AV.int .i64 2,AV.int .i64 0,AV.str nm,a]]) (fun a e h=>TyRep.noRefs h) i1 i2 i3
   have fin:∀ (hrun:runW MX 46 [.agg [.str nm,.int .i64 v,pv]] []=some (.ret (.agg [.int .i64 2,.int .i64 0,.str nm,a]),[Blk.var false [AV.str nm,AV.int .i64 v,pv],Blk.var false [AV.int .i64 2,AV.int .i64 0,AV.str nm,a],Blk.var false [AV.int .i64 2,AV.int .i64 0,AV.str nm,a]]++rest)) h,
     doCall MX (callW MX) 46 [.agg [.str nm,.int .i64 v,pv]] h=some (.ret (.agg [.int .i64 2,.int .i64 0,.str nm,v']),h):=fun hrun h=>by
    cases hna:a.noRef with
    | true=>
     have:=heq hna
     subst this
     exact pureX mode_46 eff_46 hn (by simp [AV.noRef,noRefs,hna]) hrun h
    | false=>
     exact pureS mode_46 eff_46 hn (by simp [AV.noRef,noRefs,hna]) ((SnapIn.agg (by simp [noRefs,AV.noRef,hna]) (.cons (.flat rfl _) (.cons (.flat rfl _) (.cons (.flat rfl _) (.cons hsn (.nil _)))))).at (by decide)) (by simp [AV.noRef,noRefs,hrep.noRef]) hrun h
   refine ⟨_,?_,fin (by simp [runW,Tryz.f46,h0,hp.len,hlp,resA])⟩
   simp only [exactV,h0,exactVs_map]
   exact TyRep.intro hrep
theorem c96 (t:TyV):∀ (xs:List AV),DvRep t xs→Sm 1048577 t→∃ ys,TyRep (exactV t) ys∧∀ h,doCall MX (callW MX) 96 [.agg xs] h=some (.ret (.agg ys),h):=by
 induction t using TyV.ind with
 | h k v nm ps ih=>
  intro xs hx hs
  have hn:([AV.agg xs]:List AV).all AV.noRef=true:=by simp [AV.noRef,hx.noRefs]
  obtain ⟨rfl,pv,rfl,hp⟩:=hx.dest
  obtain ⟨s1,s2,s3⟩:=hs.dest
  have hb:=bef_96_7
  simp [opsF,opsAt,Tryz.f96] at hb
  cases h0:nm == [] with
  | true=>
   refine ⟨[.int .i64 3,.int .i64 v,.str [],.nils],by simp only [exactV,h0];exact TyRep.intro (.inl ⟨rfl,rfl⟩),fun h=>pureX mode_96 eff_96 hn rfl (hr:=[Blk.var false [AV.str nm,AV.int .i64 v,pv],Blk.var false [.int .i64 3,.int .i64 v,.str [],.nils]]) (by simp [runW,Tryz.f96,h0,resA]) h⟩
  | false=>
   obtain ⟨e,st,hlp,hq⟩:=loop_up (M:=MX) (fid:=96) (N:=31) (C:=callW MX) (c:=loopC Tryz.f96 0) (n:=ps.length)
    (fun i (b:AV×Heap×List (List AV))=>([(2,.hp 1 0),(3,.hp 2 0),(16,pv),(17,.int .i64 ps.length),(18,.int .i64 i)],Blk.var false [AV.str nm,AV.int .i64 v,pv]::Blk.var false [AV.int .i64 0,AV.int .i64 0,AV.str [],AV.nils]::Blk.var false [AV.int .i64 2,AV.int .i64 0,AV.str nm,b.1]::b.2.1))
    (fun i b=>AccIn 4 3 b.2.1 b.1 b.2.2∧b.2.2.length=((ps.map exactV).take i).length∧∀ (j:Nat) t e,((ps.map exactV).take i)[j]? = some t→b.2.2[j]? = some e→TyRep t e)
    (fun r=>∃ b:AV×Heap×List (List AV),r=(.ext 0,([(2,.hp 1 0),(3,.hp 2 0),(16,pv),(17,.int .i64 ps.length),(18,.int .i64 ps.length),(19,.bool false)],Blk.var false [AV.str nm,AV.int .i64 v,pv]::Blk.var false [AV.int .i64 0,AV.int .i64 0,AV.str [],AV.nils]::Blk.var false [AV.int .i64 2,AV.int .i64 0,AV.str nm,b.1]::b.2.1)) ∧
      AccIn 4 3 b.2.1 b.1 b.2.2∧b.2.2.length=(ps.map exactV).length∧∀ (j:Nat) t e,(ps.map exactV)[j]? = some t→b.2.2[j]? = some e→TyRep t e) (fun i b hi hI=>by
      obtain ⟨a,rest,es⟩:=b
      obtain ⟨i1,i2,i3⟩:=hI
      simp only at i1 i2 i3
      obtain ⟨e,he,hR⟩:=hp.ix hi
      have hi':=lt_cast hi
      have hw:=wr_next hi s2
      have him:i<(ps.map exactV).length:=by simpa using hi
      obtain ⟨ys,hys,hcall⟩:=ih ps[i] (List.getElem_mem hi) e hR (s3 _ (List.getElem_mem hi))
      have hys':TyRep (ps.map exactV)[i] ys:=by simpa using hys
      obtain ⟨j1,j2⟩:=rep_push i2 i3 hys'
      rw [take_push him] at j1 j2
      have hlen:es.length<16777215:=by rw [i2,List.length_take,List.length_map];exact Nat.lt_of_le_of_lt (Nat.min_le_right _ _) (Nat.lt_of_lt_of_le s2 (by decide))
      obtain ⟨qv,rfl,hqv⟩:=hR.dest'
      obtain ⟨a',rest',hap,hacc⟩:=AccIn.push (byt:=56) (P:=[Blk.var false [AV.str nm,AV.int .i64 v,pv],Blk.var false [AV.int .i64 0,AV.int .i64 0,AV.str [],AV.nils],Blk.var false [AV.int .i64 2,AV.int .i64 0,AV.str nm,a]]) (rest:=rest++[Blk.var false [.str ps[i].nm,.int .i64 ps[i].v,qv]]) ys true (i1.grow _) (by decide) (by decide) hlen
      simp only [List.cons_append,List.nil_append,id] at hap
      have hyn:=hys.noRefs
      skip
      obtain ⟨qy,rfl,hqy⟩:=hys.dest'
      exact .inl ⟨(a',rest',_),by simp [Tryz.f96,hp.len,hi',he,hcall,bsA,fillE,List.replicate,hyn,hap,hacc.cells,hw,hb,noRefs,AV.noRef,hqv.noRef,hqy.noRef],hacc,j1,j2⟩) (fun b hI=>by
      obtain ⟨a,rest,es⟩:=b
      obtain ⟨i1,i2,i3⟩:=hI
      rw [List.take_of_length_le (by simp)] at i2 i3
      exact ⟨_,_,by simp [Tryz.f96,hp.len] <;> first | exact ⟨rfl,rfl⟩ | rfl,by simp,(a,rest,es),rfl,i1,i2,i3⟩) (.nils,[],[]) ⟨.nil _ _ _,by simp,fun j t e h=>by simp at h⟩
   obtain ⟨⟨a,rest,es⟩,hq,i1,i2,i3⟩:=hq
   cases hq
   simp [Tryz.f96] at hlp
   obtain ⟨v',rest',hsn,hrep,heq⟩:=acc_end (P:=[Blk.var false [AV.str nm,AV.int .i64 v,pv],Blk.var false [AV.int .i64 2,AV.int .i64 0,AV.str nm,a],Blk.var false [AV.int .i64 2,AV.int .i64 0,AV.str nm,a]]) (fun a e h=>TyRep.noRefs h) i1 i2 i3
   have fin:∀ (hrun:runW MX 96 [.agg [.str nm,.int .i64 v,pv]] []=some (.ret (.agg [.int .i64 2,.int .i64 0,.str nm,a]),[Blk.var false [AV.str nm,AV.int .i64 v,pv],Blk.var false [AV.int .i64 2,AV.int .i64 0,AV.str nm,a],Blk.var false [AV.int .i64 2,AV.int .i64 0,AV.str nm,a]]++rest)) h,
     doCall MX (callW MX) 96 [.agg [.str nm,.int .i64 v,pv]] h=some (.ret (.agg [.int .i64 2,.int .i64 0,.str nm,v']),h):=fun hrun h=>by
    cases hna:a.noRef with
    | true=>
     have:=heq hna
     subst this
     exact pureX mode_96 eff_96 hn (by simp [AV.noRef,noRefs,hna]) hrun h
    | false=>
     exact pureS mode_96 eff_96 hn (by simp [AV.noRef,noRefs,hna]) ((SnapIn.agg (by simp [noRefs,AV.noRef,hna]) (.cons (.flat rfl _) (.cons (.flat rfl _) (.cons (.flat rfl _) (.cons hsn (.nil _)))))).at (by decide)) (by simp [AV.noRef,noRefs,hrep.noRef]) hrun h
   refine ⟨_,?_,fin (by simp [runW,Tryz.f96,h0,hp.len,hlp,resA])⟩
   simp only [exactV,h0,exactVs_map]
   exact TyRep.intro hrep
theorem c39 (p:TyV):∀ (u:TyV) (xs ys:List AV),TyRep p xs→DvRep u ys→Sm 1048577 p→∀ h,doCall MX (callW MX) 39 [.agg xs,.agg ys] h=some (.ret (.bool (fitsV p u)),h):=by
 induction p using TyV.ind with
 | h k v nm ps ih=>
  intro u xs ys hx hy hs h
  have hn:([AV.agg xs,.agg ys]:List AV).all AV.noRef=true:=by simp [AV.noRef,hx.noRefs,hy.noRefs]
  obtain ⟨s1,s2,s3⟩:=hs.dest
  have hb:=bef_39_10
  simp [opsF,opsAt,Tryz.f39] at hb
  obtain ⟨pv,rfl,hp⟩:=hx.dest
  obtain ⟨qv,rfl,hq⟩:=hy.dest'
  suffices hh:∃ hr,runW MX 39 [.agg [.int .i64 k,.int .i64 v,.str nm,pv],.agg [.str u.nm,.int .i64 u.v,qv]] []=some (.ret (.bool (fitsV (.mk k v nm ps) u)),hr) by
   obtain ⟨hr,hh⟩:=hh
   exact pureX mode_39 eff_39 hn rfl hh h
  simp only [fitsV]
  by_cases k3:k=3
  ·have k3b:(k == 3)=true:=by simp [k3]
   rw [if_pos k3]
   have hvb:decide (u.v=v)=(u.v == v):=by rw [Bool.eq_iff_iff];simp
   rw [hvb]
   cases h0:u.nm == [] with
   | true=>exact ⟨_,by simp [runW,Tryz.f39,k3b,h0] <;> rfl⟩
   | false=>exact ⟨_,by simp [runW,Tryz.f39,k3b,h0] <;> rfl⟩
  ·have k3b:(k == 3)=false:=by simp [k3]
   rw [if_neg k3]
   by_cases k2:k=2
   ·have k2b:(k == 2)=true:=by simp [k2]
    rw [if_pos k2]
    cases h0:u.nm == nm with
    | false=>exact ⟨_,by simp [runW,Tryz.f39,k3b,k2b,h0] <;> rfl⟩
    | true=>
     by_cases h3:u.ps.length=ps.length
     ·have hl3:((u.ps.length:Int) != (ps.length:Int))=false:=by rw [h3];simp
      have d3:decide (u.ps.length=ps.length)=true:=decide_eq_true h3
      obtain ⟨e,st,hlp,hq'⟩:=loop_up (M:=MX) (fid:=39) (N:=55) (C:=callW MX) (c:=loopC Tryz.f39 0) (n:=ps.length) (fun i (_:Unit)=>([(2,.hp 0 0),(3,.hp 1 0),(5,.int .i64 i)],[.var false [.int .i64 k,.int .i64 v,.str nm,pv],.var false [.str u.nm,.int .i64 u.v,qv]]))
       (fun i _=>fitsVs ps u.ps=fitsVs (ps.drop i) (u.ps.drop i))
       (fun r=>(r=(.ext 1,([(2,.hp 0 0),(3,.hp 1 0),(5,.int .i64 ps.length),(40,.bool false)],[.var false [.int .i64 k,.int .i64 v,.str nm,pv],.var false [.str u.nm,.int .i64 u.v,qv]]))∧fitsVs ps u.ps=true)∨(r=(.ret,([(4,.bool false)],[.var false [.int .i64 k,.int .i64 v,.str nm,pv],.var false [.str u.nm,.int .i64 u.v,qv]]))∧fitsVs ps u.ps=false)) (fun i b hi hI=>by
         obtain ⟨e,he,hR⟩:=hp.ix hi
         have hiu:i<u.ps.length:=by omega
         obtain ⟨e2,he2,hR2⟩:=hq.ix hiu
         have hi':=lt_cast hi
         have hw:=wr_next hi s2
         rw [fitsVs_drop hi hiu] at hI
         have hrec:=ih ps[i] (List.getElem_mem hi) u.ps[i] e e2 hR hR2 (s3 _ (List.getElem_mem hi))
         obtain ⟨q1,rfl,hq1⟩:=hR.dest'
         obtain ⟨q2,rfl,hq2⟩:=hR2.dest'
         cases hs:fitsV ps[i] u.ps[i] with
         | true=>
          rw [hs] at hI hrec
          exact .inl ⟨(),by simp [Tryz.f39,hp.len,hi',he,he2,hrec,hw,hb,noRefs,AV.noRef,hq1.noRef,hq2.noRef],by simpa using hI⟩
         | false=>
          rw [hs] at hI hrec
          exact .inr ⟨_,_,by simp [Tryz.f39,hp.len,hi',he,he2,hrec,hb,noRefs,AV.noRef,hq1.noRef,hq2.noRef] <;> first | exact ⟨rfl,rfl⟩ | rfl,by simp,.inr ⟨rfl,by simpa using hI⟩⟩) (fun b hI=>by
         rw [List.drop_length] at hI
         exact ⟨_,_,by simp [Tryz.f39,hp.len] <;> first | exact ⟨rfl,rfl⟩ | rfl,by simp,.inl ⟨rfl,by rw [hI];rfl⟩⟩) () (by simp)
      simp [Tryz.f39] at hlp
      simp only [d3,Bool.true_and]
      rcases hq' with ⟨hq',hr⟩ | ⟨hq',hr⟩ <;> rw [hr] <;> cases hq' <;> exact ⟨_,by simp [runW,Tryz.f39,k3b,k2b,h0,hp.len,hq.len,hl3,hlp] <;> rfl⟩
     ·have hl3:((u.ps.length:Int) != (ps.length:Int))=true:=by simp;omega
      have d3:decide (u.ps.length=ps.length)=false:=decide_eq_false h3
      simp only [d3,Bool.true_and,Bool.false_and]
      exact ⟨_,by simp [runW,Tryz.f39,k3b,k2b,h0,hp.len,hq.len,hl3] <;> rfl⟩
   ·have k2b:(k == 2)=false:=by simp [k2]
    rw [if_neg k2]
    exact ⟨_,by simp [runW,Tryz.f39,k3b,k2b] <;> rfl⟩
theorem c23 {arms:List TyV} {av:AV} (ha:SlR TyRep 4 arms av) (hal:arms.length<1048577) (has:∀ p∈arms,Sm 1048577 p) {u:TyV} {ys:List AV} (hy:DvRep u ys) (h:Heap):doCall MX (callW MX) 23 [av,.agg ys] h=some (.ret (.int .i64 (ixI (arms.findIdx? (fun p=>fitsV p u)))),h):=by
 have hn:([av,.agg ys]:List AV).all AV.noRef=true:=by simp [AV.noRef,ha.noRef,hy.noRefs]
 have hb:=bef_23_4
 simp [opsF,opsAt,Tryz.f23] at hb
 have h39:=fun {p:TyV} {px:List AV} (hR:TyRep p px) (hs:Sm 1048577 p)=>c39 p u px ys hR hy hs
 obtain ⟨qv,rfl,hq⟩:=hy.dest'
 obtain ⟨e,st,hlp,hq'⟩:=loop_up (M:=MX) (fid:=23) (N:=19) (C:=callW MX) (c:=loopC Tryz.f23 0) (n:=arms.length) (fun i (_:Unit)=>([(0,av),(3,.hp 0 0),(5,.int .i64 i)],[.var false [.str u.nm,.int .i64 u.v,qv]]))
  (fun i _=>∀ j (hj:j<arms.length),j<i→(fun p=>fitsV p u) arms[j]=false)
  (fun r=>(r=(.ext 0,([(0,av),(3,.hp 0 0),(5,.int .i64 arms.length),(9,.bool false)],[.var false [.str u.nm,.int .i64 u.v,qv]]))∧arms.findIdx? (fun p=>fitsV p u)=none)∨(∃ i:Nat,r=(.ret,([(4,.int .i64 i)],[.var false [.str u.nm,.int .i64 u.v,qv]]))∧arms.findIdx? (fun p=>fitsV p u)=some i)) (fun i b hi hI=>by
    obtain ⟨e,he,hR⟩:=ha.ix hi
    have hi':=lt_cast hi
    have hw:=wr_next hi hal
    have hrec:=h39 hR (has _ (List.getElem_mem hi))
    obtain ⟨q1,rfl,hq1⟩:=hR.dest'
    cases hs:fitsV arms[i] u with
    | true=>rw [hs] at hrec;exact .inr ⟨_,_,by simp [Tryz.f23,ha.len,hi',he,hrec,hb,noRefs,AV.noRef,hq.noRef,hq1.noRef] <;> first | exact ⟨rfl,rfl⟩ | rfl,by simp,.inr ⟨i,rfl,fi_some (p:=(fun p=>fitsV p u)) hi hI hs⟩⟩
    | false=>rw [hs] at hrec;exact .inl ⟨(),by simp [Tryz.f23,ha.len,hi',he,hrec,hw,hb,noRefs,AV.noRef,hq.noRef,hq1.noRef],fi_step (p:=(fun p=>fitsV p u)) hi hI hs⟩) (fun b hI=>by
    exact ⟨_,_,by simp [Tryz.f23,ha.len] <;> first | exact ⟨rfl,rfl⟩ | rfl,by simp,.inl ⟨rfl,fi_none (p:=(fun p=>fitsV p u)) fun j hj=>hI j hj hj⟩⟩) () (fun j _ h0=>by omega)
 simp [Tryz.f23] at hlp
 rcases hq' with ⟨hq',hs⟩ | ⟨i,hq',hs⟩ <;> cases hq' <;> exact pureX mode_23 eff_23 hn rfl (hr:=_) (by simp [runW,Tryz.f23,hlp,hs,ixI] <;> rfl) h
mutual
def vErr (s:Sh):TyV→Int
 | .mk _ v nm ps=>match s with
  | .bit n=>if (nm == [])=true∧ps.length=0 then (if 0≤v∧v≤((2 ^ n.toNat:Nat):Int) - 1 then 0 else 2) else 3
  | .cons ns ss=>match ns.findIdx? (fun x=>x == nm) with
   | none=>6
   | some i=>if v≠0 then 3 else if ps.length≠(ss.getD i []).length then 10 else vErrs (ss.getD i []) ps
def vErrs (ss:List Sh):List TyV→Int
 | []=>0
 | p::r=>if vErr (ss.headD default) p=0 then vErrs ss.tail r else vErr (ss.headD default) p
end
theorem vErrs_drop {ss:List Sh} {ps:List TyV} {j:Nat} (hj:j<ps.length) (hs:j<ss.length):vErrs (ss.drop j) (ps.drop j)=if vErr ss[j] ps[j]=0 then vErrs (ss.drop (j+1)) (ps.drop (j+1)) else vErr ss[j] ps[j]:=by
 rw [List.drop_eq_getElem_cons hj,List.drop_eq_getElem_cons hs]
 simp only [vErrs,List.headD_cons,List.tail_cons]
 first | rfl | (split <;> rfl)
theorem vErrs_zero:∀ {ss:List Sh} {ps:List TyV},ps.length=ss.length→(vErrs ss ps=0↔∀ (i:Nat) x p,ss[i]? = some x→ps[i]? = some p→vErr x p=0)
 | [],[],_=>by simp [vErrs]
 | x::ss,p::ps,h=>by
  show (if vErr x p=0 then vErrs ss ps else vErr x p)=0↔_
  have ih:=vErrs_zero (ss:=ss) (ps:=ps) (by simpa using h)
  by_cases h0:vErr x p=0
  ·rw [if_pos h0,ih]
   constructor
   ·intro g i y q h1 h2
    cases i with
    | zero=>simp at h1 h2;rw [← h1,← h2];exact h0
    | succ i=>exact g i y q (by simpa using h1) (by simpa using h2)
   ·intro g i y q h1 h2
    exact g (i+1) y q (by simpa using h1) (by simpa using h2)
  ·rw [if_neg h0]
   exact ⟨fun g=>absurd g h0,fun g=>g 0 x p rfl rfl⟩
 | [],p::ps,h=>by simp at h
 | x::ss,[],h=>by simp at h
theorem pErrs_zero:∀ {ss:List Sh} {ps:List TyV},ps.length=ss.length→(pErrs ss ps=0↔∀ (i:Nat) x p,ss[i]? = some x→ps[i]? = some p→pErr x p=0)
 | [],[],_=>by simp [pErrs]
 | x::ss,p::ps,h=>by
  show (if pErr x p=0 then pErrs ss ps else pErr x p)=0↔_
  have ih:=pErrs_zero (ss:=ss) (ps:=ps) (by simpa using h)
  by_cases h0:pErr x p=0
  ·rw [if_pos h0,ih]
   constructor
   ·intro g i y q h1 h2
    cases i with
    | zero=>simp at h1 h2;rw [← h1,← h2];exact h0
    | succ i=>exact g i y q (by simpa using h1) (by simpa using h2)
   ·intro g i y q h1 h2
    exact g (i+1) y q (by simpa using h1) (by simpa using h2)
  ·rw [if_neg h0]
   exact ⟨fun g=>absurd g h0,fun g=>g 0 x p rfl rfl⟩
 | [],p::ps,h=>by simp at h
 | x::ss,[],h=>by simp at h
section
variable {l:List DataV} {lv:AV} (hl:SlR DataRep 3 l lv) (hsl:SmL 1048577 l) (hok:DOK l)
include hl hsl hok
theorem c71 (u:TyV):∀ (px:List AV),DvRep u px→Sm 1048577 u→∀ (s:Sh) (t:TyV) (xs:List AV),TyRep t xs→Sm 1048577 t→VT l t→IsSh l t s→∀ h,doCall MX (callW MX) 71 [lv,.agg xs,.agg px] h=some (.ret (.int .i64 (vErr s u)),h):=by
 induction u using TyV.ind with
 | h k v nm ps ih=>
  intro px hpx hsp s t xs hx hst hv hs h
  have hn:([lv,AV.agg xs,AV.agg px]:List AV).all AV.noRef=true:=by simp [AV.noRef,hx.noRefs,hl.noRef,hpx.noRefs]
  obtain ⟨s1,s2,s3⟩:=hsp.dest
  have hB:=c66 hx
  cases hs with
  | bit _ hb hw hk2=>
   have hb4:=bef_71_4
   simp [opsF,opsAt,Tryz.f71] at hb4
   obtain ⟨rfl,qv,rfl,hq⟩:=hpx.dest
   obtain ⟨pv,rfl,hp⟩:=hx.dest'
   have hb1:=hok.bit t hv hb
   obtain ⟨e,he,hR⟩:=hp.ix (i:=0) (by omega)
   have hag:argOf t=t.ps[0]'(by omega):=by simp [argOf,hb1]
   rw [← hag] at hR
   obtain ⟨qv2,rfl,hq2⟩:=hR.dest'
   have he0:ixA 4 pv (.int .i64 (0:Int))=some (.ro [.int .i64 (argOf t).k,.int .i64 (argOf t).v,.str (argOf t).nm,qv2]):=he .i64
   have hF:=c121 v (argOf t).v (by omega) (by omega)
   have e:vErr (.bit (argOf t).v) (.mk 0 v nm ps)=if (nm == [])=true∧ps.length=0 then (if decide (0≤v∧v≤((2 ^ (argOf t).v.toNat:Nat):Int) - 1)=true then 0 else 2) else 3:=by
    simp only [vErr,decide_eq_true_eq]
   rw [e]
   generalize decide (0≤v∧v≤((2 ^ (argOf t).v.toNat:Nat):Int) - 1)=D at hF
   refine pureX mode_71 eff_71 hn rfl (hr:=[Blk.var false [AV.int .i64 t.k,AV.int .i64 t.v,AV.str t.nm,pv],Blk.var false [AV.str nm,AV.int .i64 v,qv]]) ?_ h
   cases h0:nm == [] with
   | false=>simp [runW,Tryz.f71,hB,hb,h0]
   | true=>
    by_cases hL:ps.length=0
    ·have hL':¬ (0<(ps.length:Int)):=by omega
     have hL2:¬ (0<ps.length):=by omega
     cases D <;> simp [runW,Tryz.f71,hB,hb,h0,hq.len,hL',hL2,hL,he0,hF,hb4,noRefs,AV.noRef]
    ·have hL':(0<(ps.length:Int)):=by omega
     have hL2:0<ps.length:=by omega
     simp [runW,Tryz.f71,hB,hb,h0,hq.len,hL',hL2,hL]
  | cons _ ns ss hb hk hnn hll hs0 hf0=>
   obtain ⟨w,hw,h68⟩:=c68 hl hsl hx hst (hok.has t hv hk hb)
   have hcsm:=consOf_sm hsl hst (by decide)
   have hvf:=hok.fld t hv hk hb
   have h72:=c72 nm hw hcsm.1
   have hfi:ns.findIdx? (fun x=>x == nm)=(consOf l t).findIdx? (fun x=>x.nm == nm):=by rw [hnn,List.findIdx?_map];rfl
   have hb7:=bef_71_13
   simp [opsF,opsAt,Tryz.f71] at hb7
   have hb12:=bef_71_18
   simp [opsF,opsAt,Tryz.f71] at hb12
   obtain ⟨rfl,qv,rfl,hq⟩:=hpx.dest
   obtain ⟨pv,rfl,hp⟩:=hx.dest'
   obtain ⟨hr,hc⟩:∃ hr,runW MX 71 [lv,.agg [.int .i64 t.k,.int .i64 t.v,.str t.nm,pv],.agg [.str nm,.int .i64 v,qv]] []=some (.ret (.int .i64 (vErr (.cons ns ss) (.mk 0 v nm ps))),hr):=by
    cases hf:(consOf l t).findIdx? (fun x=>x.nm == nm) with
    | none=>
     have hpe:vErr (.cons ns ss) (.mk 0 v nm ps)=6:=by simp [vErr,hfi,hf]
     rw [hpe]
     exact ⟨_,by simp [runW,Tryz.f71,hB,hb,h68,h72,hf,ixI] <;> rfl⟩
    | some i=>
     have hi:=fi_lt hf
     have hi0:¬ ((i:Int)<0):=by omega
     have hi2:i<ss.length:=by omega
     obtain ⟨ce,hce,hcR⟩:=hw.ix hi
     obtain ⟨fv,rfl,hfv⟩:=hcR.dest
     have hsc:=hcsm.2 _ (List.getElem_mem hi)
     have hsl2:=hs0 i _ _ (List.getElem?_eq_getElem hi) (List.getElem?_eq_getElem hi2)
     have hpe:vErr (.cons ns ss) (.mk 0 v nm ps)=if v≠0 then 3 else if ps.length≠(consOf l t)[i].fields.length then 10 else vErrs ss[i] ps:=by simp [vErr,hfi,hf,hi2,hsl2]
     rw [hpe]
     by_cases hv0:v=0
     ·have hv0b:(v != 0)=false:=by simp [hv0]
      rw [if_neg (fun h=>h hv0)]
      by_cases hL:ps.length=(consOf l t)[i].fields.length
      ·have hL':((ps.length:Int) != ((consOf l t)[i].fields.length:Int))=false:=by simp [hL]
       have hLs:ps.length=ss[i].length:=by omega
       rw [if_neg (fun h=>h hL)]
       obtain ⟨e,st,hlp,hq0⟩:=loop_up (M:=MX) (fid:=71) (N:=79) (C:=callW MX) (c:=loopC Tryz.f71 0) (n:=ps.length)
        (fun j (_:Unit)=>([(0,lv),(5,.hp 1 0),(7,w),(8,.int .i64 i),(9,.int .i64 j)],[Blk.var false [AV.int .i64 t.k,AV.int .i64 t.v,AV.str t.nm,pv],Blk.var false [AV.str nm,AV.int .i64 v,qv]]))
        (fun j _=>vErrs ss[i] ps=vErrs (ss[i].drop j) (ps.drop j))
        (fun r=>(r=(.ext 0,([(0,lv),(5,.hp 1 0),(7,w),(8,.int .i64 i),(9,.int .i64 ps.length),(57,.bool false)],[Blk.var false [AV.int .i64 t.k,AV.int .i64 t.v,AV.str t.nm,pv],Blk.var false [AV.str nm,AV.int .i64 v,qv]]))∧vErrs ss[i] ps=0) ∨
          (r=(.ret,([(6,.int .i64 (vErrs ss[i] ps))],[Blk.var false [AV.int .i64 t.k,AV.int .i64 t.v,AV.str t.nm,pv],Blk.var false [AV.str nm,AV.int .i64 v,qv]])))) (fun j b hj hJ=>by
          have hjf:j<(consOf l t)[i].fields.length:=by omega
          have hjs:j<ss[i].length:=by omega
          obtain ⟨fe,hfe,hfR⟩:=hfv.ix hjf
          obtain ⟨pe,hpe,hpR⟩:=hq.ix hj
          have hj':=lt_cast hj
          have hwj:=wr_next hj s2
          have hmf:=List.getElem_mem hjf
          obtain ⟨tx,rfl,htx⟩:=hfR
          have hrec:=ih ps[j] (List.getElem_mem hj) pe hpR (s3 _ (List.getElem_mem hj)) ss[i][j] (consOf l t)[i].fields[j].ty tx htx (hsc.2.2 _ hmf).2 (hvf _ (List.getElem_mem hi) _ hmf) (hf0 i _ _ j _ _ (List.getElem?_eq_getElem hi) (List.getElem?_eq_getElem hi2) (List.getElem?_eq_getElem hjf) (List.getElem?_eq_getElem hjs))
          obtain ⟨q1,rfl,hq1⟩:=htx.dest'
          obtain ⟨q2,rfl,hq2⟩:=hpR.dest'
          rw [vErrs_drop hj hjs] at hJ
          by_cases h0:vErr ss[i][j] ps[j]=0
          ·rw [if_pos h0] at hJ
           exact .inl ⟨(),by simp [Tryz.f71,hq.len,hj',hce,hfe,hpe,hrec,h0,hwj,hb12,noRefs,AV.noRef,hl.noRef,hq1.noRef,hq2.noRef],hJ⟩
          ·rw [if_neg h0] at hJ
           have hne:(vErr ss[i][j] ps[j] != 0)=true:=by simp [h0]
           exact .inr ⟨_,_,by simp [Tryz.f71,hq.len,hj',hce,hfe,hpe,hrec,hne,hb12,noRefs,AV.noRef,hl.noRef,hq1.noRef,hq2.noRef] <;> first | exact ⟨rfl,rfl⟩ | rfl,by simp,.inr (by rw [hJ])⟩) (fun b hJ=>by
          rw [List.drop_length] at hJ
          simp only [vErrs] at hJ
          exact ⟨_,_,by simp [Tryz.f71,hq.len] <;> first | exact ⟨rfl,rfl⟩ | rfl,by simp,.inl ⟨rfl,hJ⟩⟩) () (by simp)
       simp [Tryz.f71] at hlp
       rcases hq0 with ⟨hq0,hz⟩ | hq0 <;> cases hq0
       ·exact ⟨_,by simp [runW,Tryz.f71,hB,hb,h68,h72,hf,ixI,hi0,hce,hv0b,hq.len,hfv.len,hq.kdLen,hfv.kdLen,hb7,hL',hlp,hz] <;> rfl⟩
       ·exact ⟨_,by simp [runW,Tryz.f71,hB,hb,h68,h72,hf,ixI,hi0,hce,hv0b,hq.len,hfv.len,hq.kdLen,hfv.kdLen,hb7,hL',hlp] <;> rfl⟩
      ·have hL':((ps.length:Int) != ((consOf l t)[i].fields.length:Int))=true:=by simp;omega
       rw [if_pos hL]
       exact ⟨_,by simp [runW,Tryz.f71,hB,hb,h68,h72,hf,ixI,hi0,hce,hv0b,hq.len,hfv.len,hq.kdLen,hfv.kdLen,hb7,hL'] <;> rfl⟩
     ·have hv0b:(v != 0)=true:=by simp [hv0]
      rw [if_pos hv0]
      exact ⟨_,by simp [runW,Tryz.f71,hB,hb,h68,h72,hf,ixI,hi0,hce,hv0b] <;> rfl⟩
   exact pureX mode_71 eff_71 hn rfl hc h
def valErr (s:Sh) (u:TyV):Int:=if isTree u=true then vErr s u else 8
theorem c22 {u:TyV} {px:List AV} (hpx:DvRep u px) (hsp:Sm 1048577 u) {s:Sh} {t:TyV} {xs:List AV} (hx:TyRep t xs) (hst:Sm 1048577 t) (hv:VT l t) (hs:IsSh l t s) (h:Heap) :
  doCall MX (callW MX) 22 [lv,.agg xs,.agg px] h=some (.ret (.int .i64 (valErr s u)),h):=by
 have hn:([lv,AV.agg xs,AV.agg px]:List AV).all AV.noRef=true:=by simp [AV.noRef,hx.noRefs,hl.noRef,hpx.noRefs]
 have h70:=c70 hpx hsp
 have h71:=c71 hl hsl hok u px hpx hsp s t xs hx hst hv hs
 obtain ⟨qv,rfl,hq⟩:=hpx.dest'
 obtain ⟨pv,rfl,hp⟩:=hx.dest'
 unfold valErr
 cases hT:isTree u with
 | true=>rw [hT] at h70;exact pureX mode_22 eff_22 hn rfl (hr:=_) (by simp [runW,Tryz.f22,h70,h71] <;> rfl) h
 | false=>rw [hT] at h70;exact pureX mode_22 eff_22 hn rfl (hr:=_) (by simp [runW,Tryz.f22,h70] <;> rfl) h
end
theorem c188 {t:TyV} {xs:List AV} (hx:DvRep t xs):∃ pv,SlR DvRep 3 t.ps pv∧∀ h,doCall MX (callW MX) 188 [.agg xs] h=some (.ret pv,h):=by
 have hn:([AV.agg xs]:List AV).all AV.noRef=true:=by simp [AV.noRef,hx.noRefs]
 obtain ⟨pv,rfl,hp⟩:=hx.dest'
 exact ⟨pv,hp,fun h=>pureX mode_188 eff_188 hn hp.noRef (hr:=[Blk.var false [.str t.nm,.int .i64 t.v,pv]]) (by simp [runW,Tryz.f188]) h⟩
theorem c214 (t:TyV):∀ (xs:List AV) (d c:Int) (B:Blk) (G:Heap),DvRep t xs→Sm 1048577 t→0≤d→d≤41→0≤c→c≤200 →
  ∃ G',doCall MX (callW MX) 214 [.agg xs,.int .i64 d,.hp 2 0,.hp 1 0,.hp 3 0] (B::Blk.var false [AV.fn 188 [] []]::Blk.var false [AV.int .i64 c]::Blk.var false [AV.fn 214 [] [.hp 2 0,.hp 1 0,.hp 3 0]]::G) =
   some (.ret (.bool (lgT t d c).1),B::Blk.var false [AV.fn 188 [] []]::Blk.var false [AV.int .i64 (lgT t d c).2]::Blk.var false [AV.fn 214 [] [.hp 2 0,.hp 1 0,.hp 3 0]]::G'):=by
 induction t using TyV.ind with
 | h k v nm ps ih=>
  intro xs d c B G hx hs d0 d1 c0 c1
  have h188:=c188 hx
  obtain ⟨rfl,pv,rfl,hp0⟩:=hx.dest
  obtain ⟨s1,s2,s3⟩:=hs.dest
  obtain ⟨pv2,hp,h188⟩:=h188
  replace hp:SlR DvRep 3 ps pv2:=hp
  have wc:wr .i64 (c+1)=c+1:=wr_i64 (by omega) (by omega)
  have wd:wr .i64 (d+1)=d+1:=wr_i64 (by omega) (by omega)
  have goal:∀ r G',runW MX 214 [.agg [.str nm,.int .i64 v,pv],.int .i64 d,.hp 2 0,.hp 1 0,.hp 3 0] (B::Blk.var false [AV.fn 188 [] []]::Blk.var false [AV.int .i64 c]::Blk.var false [AV.fn 214 [] [.hp 2 0,.hp 1 0,.hp 3 0]]::G) =
    some (.ret (.bool r.1),B::Blk.var false [AV.fn 188 [] []]::Blk.var false [AV.int .i64 r.2]::Blk.var false [AV.fn 214 [] [.hp 2 0,.hp 1 0,.hp 3 0]]::G')→(lgT (.mk 0 v nm ps) d c)=r →
    ∃ G',doCall MX (callW MX) 214 [.agg [.str nm,.int .i64 v,pv],.int .i64 d,.hp 2 0,.hp 1 0,.hp 3 0] (B::Blk.var false [AV.fn 188 [] []]::Blk.var false [AV.int .i64 c]::Blk.var false [AV.fn 214 [] [.hp 2 0,.hp 1 0,.hp 3 0]]::G) =
     some (.ret (.bool (lgT (.mk 0 v nm ps) d c).1),B::Blk.var false [AV.fn 188 [] []]::Blk.var false [AV.int .i64 (lgT (.mk 0 v nm ps) d c).2]::Blk.var false [AV.fn 214 [] [.hp 2 0,.hp 1 0,.hp 3 0]]::G'):=fun r G' h e=>by
   rw [e];exact ⟨G',openX mode_214 eff_214 h⟩
  by_cases e1:200<c+1
  ·exact goal (false,c+1) _ (by simp [runW,Tryz.f214,wc,e1] <;> rfl) (by simp [lgT,e1])
  ·by_cases e2:40<d
   ·exact goal (false,c+1) _ (by simp [runW,Tryz.f214,wc,e1,e2] <;> rfl) (by simp [lgT,e1,e2])
   ·have e:lgT (.mk 0 v nm ps) d c=lgs ps (d+1) (c+1):=by simp [lgT,e1,e2]
    obtain ⟨ee,st,hlp,hq⟩:=loop_up (M:=MX) (fid:=214) (N:=33) (C:=callW MX) (c:=loopC Tryz.f214 0) (n:=ps.length)
     (fun i (b:Int×Heap)=>([(1,.int .i64 d),(4,.hp 3 0),(20,pv2),(21,.int .i64 ps.length),(22,.int .i64 i)],B::Blk.var false [AV.fn 188 [] []]::Blk.var false [AV.int .i64 b.1]::Blk.var false [AV.fn 214 [] [.hp 2 0,.hp 1 0,.hp 3 0]]::b.2))
     (fun i b=>0≤b.1∧b.1≤200∧lgs ps (d+1) (c+1)=lgs (ps.drop i) (d+1) b.1)
     (fun r=>∃ b:Int×Heap,(r=(.ext 0,([(1,.int .i64 d),(4,.hp 3 0),(20,pv2),(21,.int .i64 ps.length),(22,.int .i64 ps.length),(23,.bool false)],B::Blk.var false [AV.fn 188 [] []]::Blk.var false [AV.int .i64 b.1]::Blk.var false [AV.fn 214 [] [.hp 2 0,.hp 1 0,.hp 3 0]]::b.2))∧lgs ps (d+1) (c+1)=(true,b.1)) ∨
       (r=(.ret,([(7,.bool false)],B::Blk.var false [AV.fn 188 [] []]::Blk.var false [AV.int .i64 b.1]::Blk.var false [AV.fn 214 [] [.hp 2 0,.hp 1 0,.hp 3 0]]::b.2))∧lgs ps (d+1) (c+1)=(false,b.1))) (fun i b hi hI=>by
       obtain ⟨cc,G1⟩:=b
       obtain ⟨i0,i1,i2⟩:=hI
       simp only at i0 i1 i2
       obtain ⟨e,he,hR⟩:=hp.ix hi
       have hi':=lt_cast hi
       have hw:=wr_next hi s2
       have hmem:=List.getElem_mem hi
       have hrec:=fun G=>ih ps[i] hmem e (d+1) cc B G hR (s3 _ hmem) (by omega) (by omega) i0 i1
       obtain ⟨r1,r2,r3⟩:=lgT_range ps[i] (d+1) cc i0 i1
       obtain ⟨qv,rfl,hqv⟩:=hR.dest'
       obtain ⟨G2,hcall⟩:=hrec (G1++[Blk.var false [AV.str ps[i].nm,AV.int .i64 ps[i].v,qv]])
       have hdr:ps.drop i=ps[i]::ps.drop (i+1):=List.drop_eq_getElem_cons hi
       rw [hdr] at i2
       simp only [lgs] at i2
       cases hb:(lgT ps[i] (d+1) cc).1 with
       | true=>
        rw [hb] at hcall i2
        exact .inl ⟨((lgT ps[i] (d+1) cc).2,G2),by simp [Tryz.f214,hi',he,wd,hcall,hw],by simp only;omega,r3 hb,by simpa using i2⟩
       | false=>
        rw [hb] at hcall i2
        exact .inr ⟨_,_,by simp [Tryz.f214,hi',he,wd,hcall] <;> first | exact ⟨rfl,rfl⟩ | rfl,by simp,((lgT ps[i] (d+1) cc).2,G2),.inr ⟨rfl,by simpa using i2⟩⟩) (fun b hI=>by
       obtain ⟨cc,G1⟩:=b
       obtain ⟨i0,i1,i2⟩:=hI
       rw [List.drop_length] at i2
       exact ⟨_,_,by simp [Tryz.f214] <;> first | exact ⟨rfl,rfl⟩ | rfl,by simp,(cc,G1),.inl ⟨rfl,i2⟩⟩) (c+1,G++[Blk.var false [AV.str nm,AV.int .i64 v,pv]]) ⟨by simp;omega,by simp;omega,by simp⟩
    simp [Tryz.f214] at hlp
    obtain ⟨⟨cc,G1⟩,hq⟩:=hq
    rcases hq with ⟨hq,hz⟩ | ⟨hq,hz⟩ <;> cases hq
    ·exact goal (true,cc) G1 (by simp [runW,Tryz.f214,wc,e1,e2,h188,hp.len,hlp]) (by rw [e,hz])
    ·exact goal (false,cc) G1 (by simp [runW,Tryz.f214,wc,e1,e2,h188,hp.len,hlp]) (by rw [e,hz])
theorem c187 {t:TyV} {xs:List AV} (hx:DvRep t xs) (hs:Sm 1048577 t) (h:Heap):doCall MX (callW MX) 187 [.agg xs,.fn 188 [] []] h=some (.ret (.int .i64 (if isTree t then 0 else 8)),h):=by
 have hn:([AV.agg xs,.fn 188 [] []]:List AV).all AV.noRef=true:=by simp [AV.noRef,hx.noRefs,noRefs]
 have h214:=fun B G=>c214 t xs 1 0 B G hx hs (by decide) (by decide) (by decide) (by decide)
 obtain ⟨pv,rfl,hp⟩:=hx.dest'
 obtain ⟨G',hcall⟩:=h214 (Blk.var false [.str t.nm,.int .i64 t.v,pv]) []
 rw [lgT_isTree] at hcall
 cases hT:isTree t <;> rw [hT] at hcall <;> exact pureX mode_187 eff_187 hn rfl (by simp [runW,Tryz.f187,hcall] <;> rfl) h
theorem each219 {α:Type} {R:α→List AV→Prop} {l:List α} {v:AV} (hv:SlR R 3 l v) (hl:l.length<1048577) (hR:∀ a e,R a e→e.length=3) {g:FuncId} {cap:List AV} (hp:MX.prim g=none) (Inv:Nat→Heap→Prop) (Out:Nat→Int→Heap→Prop)
  (hstep:∀ (i:Nat) (hi:i<l.length) e H,R l[i] e→Inv i H→∃ err H',doCall MX (callW MX) g (.int .i64 i::.agg e::cap) (H++[Blk.var false e])=some (.ret (.int .i64 err),H')∧(err=0→Inv (i+1) H')∧(err≠0→Out i err H'))
  (H0:Heap) (h0:Inv 0 H0):∃ (i:Nat) (err:Int) (H':Heap),doCall MX (callW MX) 219 [v,.fn g [] cap] H0=some (.ret (.tup [.int .i64 i,.int .i64 err]),H')∧((err=0∧i=0∧Inv l.length H')∨(err≠0∧i<l.length∧Out i err H')):=by
 obtain ⟨e,st,hlp,hq⟩:=loop_up (M:=MX) (fid:=219) (N:=25) (C:=callW MX) (c:=loopC Tryz.f219 0) (n:=l.length)
  (fun i (b:Heap)=>([(1,AV.fn g [] cap),(9,v),(10,.int .i64 l.length),(11,.int .i64 i)],b)) (fun i b=>Inv i b)
  (fun r=>∃ b:Heap,(r=(.ext 0,([(1,AV.fn g [] cap),(9,v),(10,.int .i64 l.length),(11,.int .i64 l.length),(12,.bool false)],b))∧Inv l.length b)∨∃ (i:Nat) (err:Int),r=(.ret,([(4,.int .i64 i),(5,.int .i64 err)],b))∧err≠0∧i<l.length∧Out i err b) (fun i b hi hI=>by
    obtain ⟨e,he,hRe⟩:=hv.ix hi
    have hi':=lt_cast hi
    have hw:=wr_next hi hl
    have hle:=hR _ _ hRe
    have ht:e.take 3=e:=List.take_of_length_le (by omega)
    obtain ⟨err,H',h1,h2,h3⟩:=hstep i hi e b hRe hI
    by_cases hz:err=0
    ·exact .inl ⟨H',by simp [Tryz.f219,hi',he,hle,ht,hp,h1,hz,hw],h2 hz⟩
    ·have hne:(err != 0)=true:=by simp [hz]
     exact .inr ⟨_,_,by simp [Tryz.f219,hi',he,hle,ht,hp,h1,hne] <;> first | exact ⟨rfl,rfl⟩ | rfl,by simp,H',.inr ⟨i,err,rfl,hz,hi,h3 hz⟩⟩) (fun b hI=>by
    exact ⟨_,_,by simp [Tryz.f219] <;> first | exact ⟨rfl,rfl⟩ | rfl,by simp,b,.inl ⟨rfl,hI⟩⟩) H0 h0
 simp [Tryz.f219] at hlp
 obtain ⟨b,hq⟩:=hq
 rcases hq with ⟨hq,hI⟩ | ⟨i,err,hq,h1,h2,h3⟩ <;> cases hq
 ·exact ⟨0,0,b,openX mode_219 eff_219 (by simp [runW,Tryz.f219,hv.len,hlp]),.inl ⟨rfl,rfl,hI⟩⟩
 ·exact ⟨i,err,b,openX mode_219 eff_219 (by simp [runW,Tryz.f219,hv.len,hlp]),.inr ⟨h1,h2,h3⟩⟩
def WW (H:Heap) (w:AV) (es:List (List AV)):Prop:=(w=.nils∧es=[])∨w=.sl 3 true es∨∃ j,w=.hs j es.length 3 0 es.length false∧H[j]? = some (.arr 3 false es)
theorem WW.app {H:Heap} {w:AV} {es:List (List AV)} (h:WW H w es) (X:Heap):WW (H++X) w es:=by
 rcases h with h | h | ⟨j,h1,h2⟩
 ·exact .inl h
 ·exact .inr (.inl h)
 ·exact .inr (.inr ⟨j,h1,get_app h2 X⟩)
theorem WW.len {H:Heap} {w:AV} {es:List (List AV)} (h:WW H w es) (G:Heap):lenSl w G=some (.val (.int .i64 es.length) G):=by
 rcases h with ⟨rfl,rfl⟩ | rfl | ⟨j,rfl,_⟩ <;> rfl
theorem WW.cells {H:Heap} {w:AV} {es:List (List AV)} (h:WW H w es):w.cells=some [w]:=by
 rcases h with ⟨rfl,rfl⟩ | rfl | ⟨j,rfl,_⟩ <;> rfl
theorem WW.row {H:Heap} {w:AV} {es:List (List AV)} (h:WW H w es) {i:Nat} (hi:i<es.length):∃ p,ixA 3 w (.int .i64 i)=some p∧∀ X,rdCells (H++X) p=some es[i]:=by
 rcases h with ⟨rfl,rfl⟩ | rfl | ⟨j,rfl,h⟩
 ·cases hi
 ·exact ⟨.ro es[i],ixA_sl _ _ _ _ .i64 hi,fun X=>rfl⟩
 ·refine ⟨.ep j es.length 3 i 0,by rw [ixA_hs (kd:=.i64) (hi:=hi),Nat.zero_add],fun X => ?_⟩
  have:=get_app h X
  simp [rd_ep,this,beq_d,hi]
theorem c247 {H:Heap} {b:Nat} {lk:Bool} {nm n:Bytes} {fv pv:AV} (hb:H[b]? = some (.var lk [.str nm])):doCall MX (callW MX) 247 [.agg [.str n,fv,pv],.hp b 0] H=some (.ret (.bool (n == nm)),H++[.var false [.str n,fv,pv]]):=by
 have hb':=get_app hb [Blk.var false [.str n,fv,pv]]
 exact openC mode_247 eff_247 (by simp [runW,Tryz.f247,hb'])
theorem c246 {H:Heap} {w:AV} {es:List (List AV)} (hw:WW H w es) {ns:List Bytes} (hes:es.length=ns.length) (hln:ns.length<1048577) (hrow:∀ (k:Nat) e nm,es[k]? = some e→ns[k]? = some nm→∃ fv pv,e=[.str nm,fv,pv]) {b:Nat} {lk:Bool} {nm:Bytes} (hb:H[b]? = some (.var lk [.str nm])) :
  ∃ X,doCall MX (callW MX) 246 [w,.fn 247 [] [.hp b 0]] H=some (.ret (.int .i64 (ixI (ns.findIdx? (fun x=>x == nm)))),H++X):=by
 have hlen:=hw.len
 rw [hes] at hlen
 obtain ⟨e,st,hlp,hq⟩:=loop_up (M:=MX) (fid:=246) (N:=19) (C:=callW MX) (c:=loopC Tryz.f246 0) (n:=ns.length) (fun i (X:Heap)=>([(0,w),(1,.fn 247 [] [.hp b 0]),(7,.int .i64 ns.length),(8,.int .i64 i)],H++X)) (fun i _=>∀ j (hj:j<ns.length),j<i→(fun x=>x == nm) ns[j]=false)
  (fun r=>∃ X:Heap,(r=(.ext 0,([(0,w),(1,.fn 247 [] [.hp b 0]),(7,.int .i64 ns.length),(8,.int .i64 ns.length),(9,.bool false)],H++X))∧ns.findIdx? (fun x=>x == nm)=none)∨(∃ i:Nat,r=(.ret,([(4,.int .i64 i)],H++X))∧ns.findIdx? (fun x=>x == nm)=some i)) (fun i X hi hI=>by
    have hi':=lt_cast hi
    have hwi:=wr_next hi hln
    have hie:i<es.length:=by omega
    obtain ⟨p,hp,hrd⟩:=hw.row hie
    obtain ⟨fv,pv,he⟩:=hrow i _ _ (List.getElem?_eq_getElem hie) (List.getElem?_eq_getElem hi)
    rw [he] at hrd
    have hcall:=c247 (n:=ns[i]) (fv:=fv) (pv:=pv) (get_app hb X)
    have hrd':=hrd X
    cases hx:(ns[i] == nm) with
    | true=>rw [hx] at hcall;exact .inr ⟨_,_,by simp [Tryz.f246,hi',hp,hrd',hcall] <;> exact ⟨rfl,rfl⟩,by simp,X++[.var false [.str ns[i],fv,pv]],.inr ⟨i,by simp,fi_some (p:=(fun x=>x == nm)) hi hI hx⟩⟩
    | false=>rw [hx] at hcall;exact .inl ⟨X++[.var false [.str ns[i],fv,pv]],by simp [Tryz.f246,hi',hp,hrd',hcall,hwi],fi_step (p:=(fun x=>x == nm)) hi hI hx⟩) (fun X hI=>by
    exact ⟨_,_,by simp [Tryz.f246] <;> exact ⟨rfl,rfl⟩,by simp,X,.inl ⟨rfl,fi_none (p:=(fun x=>x == nm)) fun j hj=>hI j hj hj⟩⟩) [] (fun j _ h0=>by omega)
 simp [Tryz.f246] at hlp
 obtain ⟨X,hq⟩:=hq
 rcases hq with ⟨hq,hs⟩ | ⟨i,hq,hs⟩ <;> cases hq <;> exact ⟨X,openC mode_246 eff_246 (by simp [runW,Tryz.f246,hlen,hlp,hs,ixI])⟩
theorem c218 {H:Heap} {id:Nat} {m:Int} {w:AV} {es:List (List AV)} (hid:H[id]? = some (.var false [.int .i64 m,w])) (hw:WW H w es) {ns:List Bytes} (hes:es.length=ns.length) (hln:ns.length<1048577) (hrow:∀ (k:Nat) e nm,es[k]? = some e→ns[k]? = some nm→∃ fv pv,e=[.str nm,fv,pv]) (nm:Bytes) :
  ∃ X,doCall MX (callW MX) 218 [.hp id 0,.str nm] H=some (.ret (.int .i64 (ixI (ns.findIdx? (fun x=>x == nm)))),H++X):=by
 obtain ⟨X,hc⟩:=c246 (hw.app [Blk.var false [.str nm]]) hes hln hrow (b:=H.length) (lk:=false) (nm:=nm) (get_last _ _)
 have hid':=get_app hid [Blk.var false [.str nm]]
 exact ⟨[.var false [.str nm]]++X,openC mode_218 eff_218 (by simp [runW,Tryz.f218,hid',hc])⟩
theorem ShAt.blk {n:Nat} {S:Nat→Prop} {H:Heap} {v:AV} {s:Sh} (h:ShAt (n+1) S H v s):∃ id m w es,v=.hp id 0∧H[id]? = some (.var false [.int .i64 m,w])∧WW H w es ∧
  match s with
  | .bit k=>m=k∧es=[]∧w=.nils
  | .cons ns ss=>w≠.nils∧es.length=ns.length∧ss.length=ns.length∧∀ (k:Nat) e nm parts,es[k]? = some e→ns[k]? = some nm→ss[k]? = some parts→∃ fv pv,e=[.str nm,fv,pv]∧PtAt (ShAt n S H) S H pv parts:=by
 cases s with
 | bit k=>
  obtain ⟨id,rfl,_,h2⟩:=h
  exact ⟨id,k,.nils,[],rfl,h2,.inl ⟨rfl,rfl⟩,rfl,rfl,rfl⟩
 | cons ns ss=>
  obtain ⟨id,rfl,_,w,es,h2,h3,h4,h5,h6⟩:=h
  refine ⟨id,0,w,es,rfl,h2,?_,?_,h3,h4,h6⟩
  ·rcases h5 with h | ⟨j,_,h,hj⟩
   ·exact .inr (.inl h)
   ·exact .inr (.inr ⟨j,h,hj⟩)
  ·rcases h5 with rfl | ⟨j,_,rfl,hj⟩ <;> intro e <;> cases e
theorem c220 {n:Nat} {S:Nat→Prop} {G:Heap} {b:Nat} {lk:Bool} {nm:Bytes} {fv pv:AV} {parts:List Sh} (hb:G[b]? = some (.var lk [.str nm,fv,pv])) (hP:PtAt (ShAt n S G) S G pv parts) {i:Nat} (hi:i<parts.length) {u:TyV} {px:List AV} (hu:DvRep u px) {z:Int} (ih:∀ v,ShAt n S G v parts[i]→∃ X,doCall MX (callW MX) 189 [v,.agg px] (G++[.var false px])=some (.ret (.int .i64 z),G++[.var false px]++X)) :
  ∃ X,doCall MX (callW MX) 220 [.int .i64 i,.agg px,.hp b 0] G=some (.ret (.int .i64 z),G++X):=by
 have hb1:=bef_220_1
 simp [opsF,opsAt,Tryz.f220] at hb1
 rcases hP with ⟨rfl,rfl⟩ | ⟨q,ptrs,h0,h1,rfl,h3,h4,h5⟩
 ·simp at hi
 ·have hkp:i<ptrs.length:=by omega
  obtain ⟨v,hv,hs⟩:=h5 i ptrs[i] parts[i] (List.getElem?_eq_getElem hkp) (List.getElem?_eq_getElem hi)
  have hpk:ptrs[i]? = some [v]:=by rw [List.getElem?_eq_getElem hkp,hv]
  obtain ⟨X,hc⟩:=ih v hs
  have hix:ixA 1 (.hs q parts.length 1 0 parts.length false) (.int .i64 i)=some (.ep q parts.length 1 i 0):=by
   rw [ixA_hs (kd:=.i64) (hi:=hi),Nat.zero_add]
  have hb':=get_app hb [Blk.var false px]
  have h3':=get_app h3 [Blk.var false px]
  have hlast:=get_last G (Blk.var false px)
  obtain ⟨qv,rfl,hq⟩:=hu.dest'
  exact ⟨[Blk.var false [.str u.nm,.int .i64 u.v,qv]]++X,openC mode_220 eff_220 (by simp at hc;simp [runW,Tryz.f220,hb',get_of hb',h3',get_of h3',hix,h4,hpk,hlast,get_of hlast,hc,hb1])⟩
theorem c189 {l:List DataV} (hd:DV l) (u:TyV):∀ (px:List AV),DvRep u px→Sm 1048577 u→∀ (n:Nat) (s:Sh) (t:TyV) (S:Nat→Prop) (H:Heap) (v:AV) (X:Heap),(∀ x,S x→x<H.length)→ShAt n S H v s→IsSh l t s→VT l t →
  ∃ X',doCall MX (callW MX) 189 [v,.agg px] (H++X)=some (.ret (.int .i64 (vErr s u)),H++X++X'):=by
 induction u using TyV.ind with
 | h k uv nm ps ih=>
  intro px hpx hsp n s t S H v X hS hs hsh hvt
  obtain ⟨s1,s2,s3⟩:=hsp.dest
  cases n with
  | zero=>exact hs.elim
  | succ n=>
   have hsG:ShAt (n+1) S (H++X) v s:=ShAt.mono _ hs (fun _ h=>h) (fun x hx=>List.getElem?_append_left (hS x hx))
   have hSG:∀ x,S x→x<(H++X).length:=fun x hx=>by have:=hS x hx;simp;omega
   generalize H++X=G at hsG hSG
   clear hs hS X H
   obtain ⟨id,m,w,es,rfl,hid,hw,hsd⟩:=hsG.blk
   obtain ⟨rfl,qv,rfl,hq⟩:=hpx.dest
   have hid':=get_app hid [Blk.var false [.str nm,.int .i64 uv,qv]]
   have hw':=hw.app [Blk.var false [.str nm,.int .i64 uv,qv]]
   have hlast:=get_last G (Blk.var false [.str nm,.int .i64 uv,qv])
   have hlz:((ps.length:Int) == 0)=decide (ps.length=0):=by
    rw [Bool.eq_iff_iff];simp
   have hb2:=bef_189_2
   simp [opsF,opsAt,Tryz.f189] at hb2
   have hb7:=bef_189_7
   simp [opsF,opsAt,Tryz.f189] at hb7
   cases hsh with
   | bit _ hbt hwd _=>
    obtain ⟨rfl,rfl,rfl⟩:=hsd
    have h216:=(c216 hid').1 rfl
    obtain ⟨P,hP⟩:∃ P:Nat,P=2 ^ (argOf t).v.toNat:=⟨_,rfl⟩
    have hsl:=shl16 _ hwd.1 hwd.2
    have hPb:P≤65536:=by
     rw [hP]
     exact Nat.le_trans (Nat.pow_le_pow_right (by decide) (show (argOf t).v.toNat≤16 by omega)) (by decide)
    have hPp:0<P:=by rw [hP];exact Nat.pow_pos (by decide)
    have e:vErr (.bit (argOf t).v) (.mk 0 uv nm ps)=firstOf [if (nm == [])=true then (if ps.length=0 then 0 else 3) else 3,if 0≤uv∧uv≤(P:Int) - 1 then 0 else 2]:=by
     simp only [vErr,hP]
     cases h0:nm == [] <;> by_cases hp:ps.length=0 <;> simp [hp,firstOf]
    rw [e]
    rw [← hP] at hsl
    have hwp:wr .i64 ((P:Int) - 1)=(P:Int) - 1:=wr_i64 (by omega) (by omega)
    cases h0:nm == [] with
    | true=>exact ⟨_,openC mode_189 eff_189 (by simp [runW,Tryz.f189,hq.len,hq.kdLen,hlz,h0,h216,c196,hid',get_of hid',hlast,hsl,hwp,hb2,bsA,fillE,List.replicate,noRefs,AV.noRef] <;> rfl)⟩
    | false=>exact ⟨_,openC mode_189 eff_189 (by simp [runW,Tryz.f189,hq.len,hq.kdLen,hlz,h0,h216,c196,hid',get_of hid',hlast,hsl,hwp,hb2,bsA,fillE,List.replicate,noRefs,AV.noRef] <;> rfl)⟩
   | cons _ ns ss hbt hk2 hn hln hsp' hf=>
    obtain ⟨hwn,he1,he2,he3⟩:=hsd
    have hco:=hd.con t hvt hk2 hbt
    have hnl:ns.length=(consOf l t).length:=by rw [hn,List.length_map]
    have hcv:ConsV w es.length:=by
     rcases hw with ⟨h,_⟩ | h | ⟨j,h,_⟩
     ·exact absurd h hwn
     ·rw [h];exact .sl es
     ·rw [h];exact .hs j _
    have h216:=(c216 hid').2 _ hcv
    obtain ⟨X1,h218⟩:=c218 hid' hw' he1 (by rw [hnl];have:=hco.1;omega) (fun k e nm' h1 h2=>by
     have hks:k<ss.length:=by have:=(List.getElem?_eq_some_iff.1 h2).1;omega
     obtain ⟨fv',pv',e,_⟩:=he3 k e nm' _ h1 h2 (List.getElem?_eq_getElem hks)
     exact ⟨fv',pv',e⟩) nm
    cases hfi:ns.findIdx? (fun x=>x == nm) with
    | none=>
     rw [hfi] at h218
     simp [ixI] at h218
     have e:vErr (.cons ns ss) (.mk 0 uv nm ps)=6:=by simp [vErr,hfi]
     rw [e]
     exact ⟨_,openC mode_189 eff_189 (by simp [runW,Tryz.f189,h216,h218] <;> rfl)⟩
    | some i=>
     rw [hfi] at h218
     simp only [ixI] at h218
     have hin:=fi_lt hfi
     have his:i<ss.length:=by omega
     have hie:i<es.length:=by omega
     have hic:i<(consOf l t).length:=by omega
     obtain ⟨rf,rv,hrow,hP⟩:=he3 i es[i] ns[i] ss[i] (List.getElem?_eq_getElem hie) (List.getElem?_eq_getElem hin) (List.getElem?_eq_getElem his)
     have hei:es[i]? = some [.str ns[i],rf,rv]:=by rw [List.getElem?_eq_getElem hie,hrow]
     obtain ⟨hpl1,hpl2,hpl3⟩:=hP.len
     have hgd:ss[i]?.getD []=ss[i]:=by simp [his]
     have hsl:=hsp' i _ _ (List.getElem?_eq_getElem hic) (List.getElem?_eq_getElem his)
     have hni:¬ ((i:Int)<0):=by omega
     let B:=Blk.var false [.str nm,.int .i64 uv,qv]
     let R:=Blk.var false [.str ns[i],rf,rv]
     have hidX:=get_app hid ([B]++X1)
     have hlX:(G++([B]++X1))[G.length]? = some B:=by
      rw [List.getElem?_append_right (Nat.le_refl _)];simp
     have hlX2:(G++([B]++(X1++[R])))[G.length]? = some B:=by
      rw [List.getElem?_append_right (Nat.le_refl _)];simp
     have hRX:(G++([B]++(X1++[R])))[G.length+(X1.length+1)]? = some R:=by
      rw [List.getElem?_append_right (by omega)];simp
     have e:vErr (.cons ns ss) (.mk 0 uv nm ps)=if uv≠0 then 3 else if ps.length≠ss[i].length then 10 else vErrs ss[i] ps:=by simp [vErr,hfi,hgd]
     rw [e]
     simp only [B,R,List.cons_append,List.nil_append] at hidX hlX hlX2 hRX
     -- the walk up to the parts
     have pre:∀ (z:Int) (T:Heap),((uv≠0∧z=3∧T=X1++[R])∨(uv=0∧ps.length≠ss[i].length∧z=10∧T=X1++[R])∨(uv=0∧ps.length=ss[i].length∧∃ j:Int,doCall MX (callW MX) 219 [qv,.fn 220 [] [.hp (G.length+(X1.length+1)) 0]] (G++Blk.var false [.str nm,.int .i64 uv,qv]::(X1++[Blk.var false [.str ns[i],rf,rv]]))=some (.ret (.tup [.int .i64 j,.int .i64 z]),G++Blk.var false [.str nm,.int .i64 uv,qv]::T))) →
       runW MX 189 [.hp id 0,.agg [.str nm,.int .i64 uv,qv]] G=some (.ret (.int .i64 z),G++Blk.var false [.str nm,.int .i64 uv,qv]::T):=by
      intro z T hz
      rcases hw with ⟨rfl,rfl⟩ | rfl | ⟨j,rfl,hj⟩
      ·cases hie
      ·have hixw:ixA 3 (.sl 3 true es) (.int .i64 i)=some (.ro [.str ns[i],rf,rv]):=by rw [ixA_sl _ _ _ _ .i64 hie,hrow]
       rcases hz with ⟨h1,rfl,rfl⟩ | ⟨h1,h2,rfl,rfl⟩ | ⟨h1,h2,j2,h3⟩
       ·have u0:(uv == 0)=false:=by simp [h1]
        cases hpb:((ps.length:Int) == (ss[i].length:Int)) <;> simp [runW,Tryz.f189,h216,h218,hni,hidX,get_of hidX,hlX,get_of hlX,hlX2,get_of hlX2,hRX,get_of hRX,hixw,hpl1,hpl2,hpb,hq.len,hq.kdLen,u0,hb7,firstOf,bsA,fillE,List.replicate,noRefs,AV.noRef,R]
       ·have u0:(uv == 0)=true:=by simp [h1]
        have hpb:((ps.length:Int) == (ss[i].length:Int))=false:=by rw [beq_eq_false_iff_ne];omega
        simp [runW,Tryz.f189,h216,h218,hni,hidX,get_of hidX,hlX,get_of hlX,hlX2,get_of hlX2,hRX,get_of hRX,hixw,hpl1,hpl2,hpb,hq.len,hq.kdLen,u0,hb7,firstOf,bsA,fillE,List.replicate,noRefs,AV.noRef,R]
       ·have u0:(uv == 0)=true:=by simp [h1]
        have hpb:((ps.length:Int) == (ss[i].length:Int))=true:=by rw [beq_iff_eq];omega
        simp [runW,Tryz.f189,h216,h218,hni,hidX,get_of hidX,hlX,get_of hlX,hlX2,get_of hlX2,hRX,get_of hRX,hixw,hpl1,hpl2,hpb,hq.len,hq.kdLen,u0,hb7,firstOf,bsA,fillE,List.replicate,noRefs,AV.noRef,h3]
      ·have hixw:ixA 3 (.hs j es.length 3 0 es.length false) (.int .i64 i)=some (.ep j es.length 3 i 0):=by rw [ixA_hs (kd:=.i64) (hi:=hie),Nat.zero_add]
       have hjX:=get_app hj ([B]++X1)
       simp only [B,List.cons_append,List.nil_append] at hjX
       rcases hz with ⟨h1,rfl,rfl⟩ | ⟨h1,h2,rfl,rfl⟩ | ⟨h1,h2,j2,h3⟩
       ·have u0:(uv == 0)=false:=by simp [h1]
        cases hpb:((ps.length:Int) == (ss[i].length:Int)) <;> simp [runW,Tryz.f189,h216,h218,hni,hidX,get_of hidX,hlX,get_of hlX,hlX2,get_of hlX2,hRX,get_of hRX,hixw,hjX,get_of hjX,hei,hpl1,hpl2,hpb,hq.len,hq.kdLen,u0,hb7,firstOf,bsA,fillE,List.replicate,noRefs,AV.noRef,R]
       ·have u0:(uv == 0)=true:=by simp [h1]
        have hpb:((ps.length:Int) == (ss[i].length:Int))=false:=by rw [beq_eq_false_iff_ne];omega
        simp [runW,Tryz.f189,h216,h218,hni,hidX,get_of hidX,hlX,get_of hlX,hlX2,get_of hlX2,hRX,get_of hRX,hixw,hjX,get_of hjX,hei,hpl1,hpl2,hpb,hq.len,hq.kdLen,u0,hb7,firstOf,bsA,fillE,List.replicate,noRefs,AV.noRef,R]
       ·have u0:(uv == 0)=true:=by simp [h1]
        have hpb:((ps.length:Int) == (ss[i].length:Int))=true:=by rw [beq_iff_eq];omega
        simp [runW,Tryz.f189,h216,h218,hni,hidX,get_of hidX,hlX,get_of hlX,hlX2,get_of hlX2,hRX,get_of hRX,hixw,hjX,get_of hjX,hei,hpl1,hpl2,hpb,hq.len,hq.kdLen,u0,hb7,firstOf,bsA,fillE,List.replicate,noRefs,AV.noRef,h3]
     by_cases hu0:uv=0
     ·rw [if_neg (fun h=>h hu0)]
      by_cases hpl:ps.length=ss[i].length
      ·rw [if_neg (fun h=>h hpl)]
       let K:=G++Blk.var false [.str nm,.int .i64 uv,qv]::(X1++[Blk.var false [.str ns[i],rf,rv]])
       obtain ⟨i',err,H',hc,hres⟩:=each219 hq s2 (fun a e h=>by obtain ⟨q,rfl,_⟩:=h.dest';rfl) (g:=220) (cap:=[.hp (G.length+(X1.length+1)) 0]) prim_220
        (fun j Hh=>∃ T,Hh=K++T∧vErrs ss[i] ps=vErrs (ss[i].drop j) (ps.drop j)) (fun j err Hh=>∃ T,Hh=K++T∧err=vErrs ss[i] ps) (fun j hj e Hh hR hI=>by
          obtain ⟨T,rfl,hT⟩:=hI
          have hj2:j<ss[i].length:=by omega
          have hjf:j<(consOf l t)[i].fields.length:=by omega
          rw [vErrs_drop hj hj2] at hT
          have hSK:∀ x,S x→(K++T++[Blk.var false e])[x]? = G[x]? := fun x hx=>by
           show (G++_++T++_)[x]? = _
           rw [List.append_assoc,List.append_assoc];exact List.getElem?_append_left (hSG x hx)
          have hKb:(K++T++[Blk.var false e])[G.length+(X1.length+1)]? = some (.var false [.str ns[i],rf,rv]):=by
           have hKl:K.length=G.length+(X1.length+2):=by simp [K]
           rw [List.append_assoc,List.getElem?_append_left (by omega)]
           exact hRX
          obtain ⟨X',h220⟩:=c220 (z:=vErr ss[i][j] ps[j]) hKb (hP.mono (fun v s h=>ShAt.mono n h (fun _ h=>h) hSK) (fun _ h=>h) hSK) hj2 hR (fun v hv=>by
           have h1:=hf i _ _ j _ _ (List.getElem?_eq_getElem hic) (List.getElem?_eq_getElem his) (List.getElem?_eq_getElem hjf) (List.getElem?_eq_getElem hj2)
           exact ih ps[j] (List.getElem_mem hj) e hR (s3 _ (List.getElem_mem hj)) n ss[i][j] _ S _ v [Blk.var false e] (fun x hx=>by have:=hSG x hx;simp [K];omega) hv h1 (hd.dok.fld t hvt hk2 hbt _ (List.getElem_mem hic) _ (List.getElem_mem hjf)))
          refine ⟨_,_,h220,fun hz=>⟨T++([Blk.var false e]++X'),by simp,?_⟩,fun hz=>⟨T++([Blk.var false e]++X'),by simp,?_⟩⟩
          ·rw [if_pos hz] at hT;exact hT
          ·rw [if_neg hz] at hT;exact hT.symm) K ⟨[],by simp,by simp⟩
       rcases hres with ⟨rfl,rfl,T,rfl,hT⟩ | ⟨hne,_,T,rfl,hT⟩
       ·rw [List.drop_length] at hT
        have hT0:vErrs ss[i] ps=0:=by rw [hT];simp [vErrs]
        rw [hT0]
        refine ⟨Blk.var false [.str nm,.int .i64 uv,qv]::((X1++[R])++T),openC mode_189 eff_189 (pre _ _ (.inr (.inr ⟨hu0,hpl,((0:Nat):Int),?_⟩)))⟩
        rw [hc];simp [K,R]
       ·rw [← hT]
        refine ⟨Blk.var false [.str nm,.int .i64 uv,qv]::((X1++[R])++T),openC mode_189 eff_189 (pre _ _ (.inr (.inr ⟨hu0,hpl,(i':Int),?_⟩)))⟩
        rw [hc];simp [K,R]
      ·rw [if_pos hpl]
       exact ⟨_,openC mode_189 eff_189 (pre _ _ (.inr (.inl ⟨hu0,hpl,rfl,rfl⟩)))⟩
     ·rw [if_pos hu0]
      exact ⟨_,openC mode_189 eff_189 (pre _ _ (.inl ⟨hu0,rfl,rfl⟩))⟩
section
variable {l:List DataV} {lv:AV} (hl:SlR DataRep 3 l lv) (hsl:SmL 1048577 l)
include hl hsl
theorem c174b {t:TyV} {xs:List AV} (hx:TyRep t xs) (hst:Sm 1048577 t) (hz:rBoth l t=0) (H:Heap) :
  ∃ v H',doCall MX (callW MX) 174 [lv,.agg xs] H=some (.ret (.tup [v,.agg [lv,.nils],.int .i64 0]),H')∧(∀ x,x<H.length→H'[x]? = H[x]?)∧H.length≤H'.length∧∃ n S,(∀ x,S x→x<H'.length)∧ShAt n S H' v (shOf l t):=by
 obtain ⟨hD,hv,hs⟩:=rBoth_sh hz
 have hd:=dataOK hD
 have hz2:=hz
 unfold rBoth at hz2
 rw [if_pos hD] at hz2
 unfold rTypeErr at hz2
 have hT:rTreeErr l [] t=0:=by
  by_cases h:rTreeErr l [] t=0
  ·exact h
  ·rw [if_neg h] at hz2;exact absurd hz2 h
 rw [if_pos hT] at hz2
 have hE:(expE l 40 t 0).2=0:=by
  by_cases h:(expE l 40 t 0).2=0
  ·exact h
  ·rw [if_neg h] at hz2;exact absurd hz2 h
 rw [if_pos hE] at hz2
 have hW:1≤shW (shOf l t)∧shW (shOf l t)≤16:=by
  by_cases h:1≤shW (shOf l t)∧shW (shOf l t)≤16
  ·exact h
  ·rw [if_neg h] at hz2;cases hz2
 have h193:=c193 hl hsl
 have hb12:=bef_174_12
 simp [opsF,opsAt,Tryz.f174] at hb12
 have h194:=fun h=>c194 hl hsl.1 (params:=[]) (pr:=.nils) (.inl ⟨rfl,rfl⟩) (by simp) (fun d hdm=>(hsl.2 d hdm).2.1) hd.nms hx hst h
 have h195:=c195 hl hsl hd 40 (by omega)
 rw [show (41 - ((40:Nat):Int))=1 from rfl] at h195
 have hx0:=hx
 obtain ⟨pv,rfl,hp⟩:=hx.dest'
 let G:=H++[Blk.var false [.int .i64 t.k,.int .i64 t.v,.str t.nm,pv],Blk.var false [.nils,.nils],Blk.var false [lv,.nils],Blk.var false [.int .i64 0]]
 have hc:G[H.length+3]? = some (.var false [.int .i64 0]):=by simp [G]
 obtain ⟨v,H',hcall,hlen,hold,hpost⟩:=h195 t _ hx0 hst hv G 0 (H.length+3) hc (by omega) (by omega)
 have hGl:G.length=H.length+4:=by simp [G]
 have r7:H'[H.length+2]? = some (.var false [lv,.nils]):=by rw [hold _ (by omega) (by omega)];simp [G]
 have r5:H'[H.length+1]? = some (.var false [.nils,.nils]):=by rw [hold _ (by omega) (by omega)];simp [G]
 simp only [G] at hcall
 obtain ⟨g1,g3⟩:=hpost hE
 generalize shOf l t=s at hs g3 hW
 obtain ⟨X,hw⟩:=c197 hd 41 s t _ H' v [] (fun x hx=>hx.2) g3 hs hv
 rw [List.append_nil] at hw
 obtain ⟨id,hid⟩:=g3.hp
 have r7':=get_app r7 X
 have r5':=get_app r5 X
 have m1:((H.length+2)∈mods 0 (H'++X) ((H'++X).set (H.length+1) (.var false [lv,.nils])))=False:=mods_ne0 (by simp;omega) (by rw [List.getElem?_set_ne (by omega)])
 have r5'':((H'++X).set (H.length+1) (.var false [lv,.nils]))[H.length+1]? = some (.var false [lv,.nils]):=List.getElem?_set_self (by simp;omega)
 rw [hE] at hcall
 have hkeep:∀ x,x<H'.length→x≠H.length+1→((H'++X).set (H.length+1) (.var false [lv,.nils]))[x]? = H'[x]? := fun x h1 h2=>by
  rw [List.getElem?_set_ne (fun e=>h2 e.symm),List.getElem?_append_left h1]
 refine ⟨v,(H'++X).set (H.length+1) (.var false [lv,.nils]),openC mode_174 eff_174 ?_,fun x hx => ?_,by simp;omega,_,_,fun x hx => ?_,ShAt.mono _ g3 (fun _ h=>h) (fun x hx=>hkeep x hx.2 (by have:=hx.1;omega))⟩
 ·subst hid
  have hWd:decide (1≤shW s∧shW s≤16)=true:=by simp [hW]
  simp [runW,Tryz.f174,h193,hD,h194,hT,hcall,hw,c196,hWd,hW,r7',r5',get_of r7',get_of r5',m1,r5'',get_of r5'',hl.cells,hb12,bsA,fillE,List.replicate,noRefs,AV.noRef]
 ·rw [hkeep x (by omega) (by omega),hold x (by omega) (by omega)]
  exact List.getElem?_append_left hx
 ·have:=hx.2
  simp;omega
noncomputable def rValue (l:List DataV) (t u:TyV):Int:=if rBoth l t=0 then valErr (shOf l t) u else rBoth l t
theorem c159 {t:TyV} {xs:List AV} (hx:TyRep t xs) (hst:Sm 1048577 t) {u:TyV} {ys:List AV} (hu:DvRep u ys) (hsu:Sm 1048577 u) (H:Heap) :
  ∃ v H',doCall MX (callW MX) 159 [lv,.agg xs,.agg ys] H=some (.ret (.tup [v,.int .i64 (rValue l t u)]),H'):=by
 have h187:=c187 hu hsu
 have hu0:=hu
 unfold rValue
 by_cases hz:rBoth l t=0
 ·rw [if_pos hz]
  obtain ⟨hD,hv,hs⟩:=rBoth_sh hz
  have hd:=dataOK hD
  obtain ⟨v,H1,h174,hold,hlen,n,S,hS,hsh⟩:=c174b hl hsl hx hst hz (H++[.var false xs,.var false ys])
  have hb:H1[H.length+1]? = some (.var false ys):=by rw [hold _ (by simp)];simp
  have hb2:=get_app hb [Blk.var false [lv,.nils]]
  obtain ⟨X,h189⟩:=c189 hd u ys hu hsu n _ t S H1 v [Blk.var false [lv,.nils]] hS hsh hs hv
  obtain ⟨id,rfl⟩:=hsh.hp
  obtain ⟨pv,rfl,hp⟩:=hx.dest'
  obtain ⟨qv,rfl,hq⟩:=hu.dest'
  unfold valErr
  cases hT:isTree u with
  | true=>
   rw [hT] at h187
   simp at h187 h189
   exact ⟨_,_,openC mode_159 eff_159 (by simp [runW,Tryz.f159,h174,hl.cells,h187,hb2,get_of hb2,h189] <;> exact ⟨rfl,rfl⟩)⟩
  | false=>
   rw [hT] at h187
   simp at h187
   exact ⟨_,_,openC mode_159 eff_159 (by simp [runW,Tryz.f159,h174,hl.cells,h187,hb2,get_of hb2] <;> exact ⟨rfl,rfl⟩)⟩
 ·rw [if_neg hz]
  obtain ⟨v,H1,h174⟩:=c174 hl hsl hx hst (H++[.var false xs,.var false ys])
  have hzb:(rBoth l t == 0)=false:=by simp [hz]
  obtain ⟨pv,rfl,hp⟩:=hx.dest'
  obtain ⟨qv,rfl,hq⟩:=hu.dest'
  exact ⟨_,_,openC mode_159 eff_159 (by simp [runW,Tryz.f159,h174,hl.cells,hzb] <;> exact ⟨rfl,rfl⟩)⟩
theorem c95 {t:TyV} {xs:List AV} (hx:TyRep t xs) (hst:Sm 1048577 t) {u:TyV} {ys:List AV} (hu:DvRep u ys) (hsu:Sm 1048577 u) (h:Heap):doCall MX (callW MX) 95 [lv,.agg xs,.agg ys] h=some (.ret (.int .i64 (rValue l t u)),h):=by
 have hn:([lv,AV.agg xs,AV.agg ys]:List AV).all AV.noRef=true:=by simp [AV.noRef,hx.noRefs,hl.noRef,hu.noRefs]
 obtain ⟨v,H',hc⟩:=c159 hl hsl hx hst hu hsu [.var false xs,.var false ys]
 obtain ⟨pv,rfl,hp⟩:=hx.dest'
 obtain ⟨qv,rfl,hq⟩:=hu.dest'
 exact pureX mode_95 eff_95 hn rfl (hr:=_) (by simp [runW,Tryz.f95,hc] <;> rfl) h
end
theorem c63 {k:TaskV} {xs:List AV} (hx:TaskRep k xs) (hsk:SmT 1048577 k) (H:Heap):∃ v H',doCall MX (callW MX) 63 [.agg xs] H=some (.ret (.tup [v,.int .i64 (rCheckArms k.data k.ty k.arms).2]),H')∧∀ x,x<H.length→H'[x]? = H[x]? := by
 obtain ⟨dv,pv,av,rfl,hd,hp,ht,ha⟩:=hx.dest
 obtain ⟨s1,s2,s3,s4⟩:=hsk
 obtain ⟨v,H',hc,hold⟩:=c79 hd s1 ht s2 ha s3 s4 (H++[.var false [dv,.int .i64 k.ty.k,.int .i64 k.ty.v,.str k.ty.nm,pv,av]])
 exact ⟨v,H',openC mode_63 eff_63 (by simp [runW,Tryz.f63,hc]),fun x hx=>by rw [hold x (by simp;omega)];exact List.getElem?_append_left hx⟩
theorem c12 {k:TaskV} {xs:List AV} (hx:TaskRep k xs) (hsk:SmT 1048577 k) (h:Heap):doCall MX (callW MX) 12 [.agg xs] h=some (.ret (.int .i64 (rCheckArms k.data k.ty k.arms).2),h):=by
 have h32:=c32 hx hsk (okF k.data)
 obtain ⟨dv,pv,av,rfl,hd,hp,ht,ha⟩:=hx.dest
 exact pureX mode_12 eff_12 (by simp [AV.noRef,noRefs,hd.noRef,hp.noRef,ha.noRef]) rfl (hr:=_) (by simp [runW,Tryz.f12,h32] <;> rfl) h
noncomputable def rOpen (k:TaskV) (u:TyV):Int:=if (rCheckArms k.data k.ty k.arms).2=0 then rValue k.data k.ty u else (rCheckArms k.data k.ty k.arms).2
theorem c93 {k:TaskV} {xs:List AV} (hx:TaskRep k xs) (hsk:SmT 1048577 k) {u:TyV} {ys:List AV} (hu:DvRep u ys) (hsu:Sm 1048577 u) (h:Heap):doCall MX (callW MX) 93 [.agg xs,.agg ys] h=some (.ret (.int .i64 (rOpen k u)),h):=by
 obtain ⟨v,H',h63,hold⟩:=c63 hx hsk [.var false xs,.var false ys]
 have hb0:H'[0]? = some (.var false xs):=hold 0 (by simp)
 have hb1:H'[1]? = some (.var false ys):=hold 1 (by simp)
 have hyn:=hu.noRefs
 obtain ⟨dv,pv,av,rfl,hd,hp,ht,ha⟩:=hx.dest
 obtain ⟨s1,s2,s3,s4⟩:=hsk
 have h95:=c95 hd s1 ht s2 hu hsu
 have hn:([AV.agg [dv,.int .i64 k.ty.k,.int .i64 k.ty.v,.str k.ty.nm,pv,av],AV.agg ys]:List AV).all AV.noRef=true:=by simp [AV.noRef,noRefs,hd.noRef,hp.noRef,ha.noRef,hyn]
 obtain ⟨qv,rfl,hq⟩:=hu.dest'
 unfold rOpen
 by_cases hz:(rCheckArms k.data k.ty k.arms).2=0
 ·rw [if_pos hz]
  rw [hz] at h63
  exact pureX mode_93 eff_93 hn rfl (hr:=_) (by simp [runW,Tryz.f93,h63,hb0,get_of hb0,hb1,get_of hb1,h95] <;> rfl) h
 ·rw [if_neg hz]
  have hzb:((rCheckArms k.data k.ty k.arms).2 != 0)=true:=by simp [hz]
  exact pureX mode_93 eff_93 hn rfl (hr:=_) (by simp [runW,Tryz.f93,h63,hzb] <;> rfl) h
theorem vErr_cons {ns:List Bytes} {ss:List (List Sh)} {k v:Int} {nm:Bytes} {ps:List TyV} (h:vErr (.cons ns ss) (.mk k v nm ps)=0):∃ i,ns.findIdx? (fun x=>x == nm)=some i∧v=0∧ps.length=(ss.getD i []).length∧vErrs (ss.getD i []) ps=0:=by
 simp only [vErr] at h
 split at h
 ·cases h
 ·rename_i i hi
  refine ⟨i,hi,?_⟩
  by_cases h1:v=0
  ·rw [if_neg (fun g=>g h1)] at h
   by_cases h2:ps.length=(ss.getD i []).length
   ·rw [if_neg (fun g=>g h2)] at h
    exact ⟨h1,h2,h⟩
   ·rw [if_pos h2] at h;cases h
  ·rw [if_pos h1] at h;cases h
theorem vErr_bit {n k v:Int} {nm:Bytes} {ps:List TyV} (h:vErr (.bit n) (.mk k v nm ps)=0):nm=[]∧ps=[]∧0≤v∧v≤((2 ^ n.toNat:Nat):Int) - 1:=by
 simp only [vErr] at h
 by_cases h1:(nm == [])=true∧ps.length=0
 ·rw [if_pos h1] at h
  by_cases h2:0≤v∧v≤((2 ^ n.toNat:Nat):Int) - 1
  ·exact ⟨beq_iff_eq.1 h1.1,List.eq_nil_of_length_eq_zero h1.2,h2.1,h2.2⟩
  ·rw [if_neg h2] at h;cases h
 ·rw [if_neg h1] at h;cases h
theorem pErr_ok {s:Sh} {k v:Int} {nm:Bytes} {ps:List TyV} (h:pErr s (.mk k v nm ps)=0) :
  (k=0∧ps=[])∨(k=1∧ps=[])∨(k=3∧ps=[]∧∃ n,s=.bit n)∨(k=2∧∃ ns ss i,s=.cons ns ss∧ns.findIdx? (fun x=>x == nm)=some i∧ps.length=(ss.getD i []).length∧pErrs (ss.getD i []) ps=0):=by
 have hnil:¬ 0<ps.length→ps=[]:=fun h=>List.eq_nil_of_length_eq_zero (by omega)
 simp only [pErr] at h
 by_cases k0:k=0
 ·rw [if_pos k0] at h
  by_cases hp:0<ps.length
  ·rw [if_pos hp] at h;cases h
  ·exact .inl ⟨k0,hnil hp⟩
 ·rw [if_neg k0] at h
  by_cases k1:k=1
  ·rw [if_pos k1] at h
   by_cases hp:0<ps.length
   ·rw [if_pos hp] at h;cases h
   ·exact .inr (.inl ⟨k1,hnil hp⟩)
  ·rw [if_neg k1] at h
   by_cases k3:k=3
   ·rw [if_pos k3] at h
    cases s with
    | bit n=>
     simp only at h
     by_cases hp:0<ps.length
     ·rw [if_pos hp] at h;cases h
     ·exact .inr (.inr (.inl ⟨k3,hnil hp,n,rfl⟩))
    | cons ns ss=>cases h
   ·rw [if_neg k3] at h
    by_cases k2:k=2
    ·rw [if_pos k2] at h
     cases s with
     | bit n=>cases h
     | cons ns ss=>
      simp only at h
      split at h
      ·cases h
      ·rename_i i hi
       by_cases hl:ps.length=(ss.getD i []).length
       ·rw [if_neg (fun g=>g hl)] at h
        exact .inr (.inr (.inr ⟨k2,ns,ss,i,rfl,hi,hl,h⟩))
       ·rw [if_pos hl] at h;cases h
    ·rw [if_neg k2] at h;cases h
theorem both_make {s:Sh} {v:Int} {nm:Bytes} {ps:List TyV} {u:TyV} (hp:pErr s (.mk 2 v nm ps)=0) (hu:vErr s u=0) (hn:u.nm=nm):∃ xs:List Sh,ps.length=xs.length∧u.ps.length=xs.length∧(∀ (i:Nat) x p,xs[i]? = some x→ps[i]? = some p→pErr x p=0)∧∀ (i:Nat) x p,xs[i]? = some x→u.ps[i]? = some p→vErr x p=0:=by
 rcases pErr_ok hp with ⟨h,_⟩ | ⟨h,_⟩ | ⟨h,_⟩ | ⟨_,ns,ss,i,rfl,h1,h2,h3⟩
 ·cases h
 ·cases h
 ·cases h
 ·cases u with
  | mk k uv unm ups=>
   have hn:unm=nm:=hn
   subst hn
   obtain ⟨j,g1,g2,g3,g4⟩:=vErr_cons hu
   rw [h1] at g1
   cases g1
   exact ⟨ss.getD i [],h2,g3,(pErrs_zero h2).1 h3,(vErrs_zero g3).1 g4⟩
theorem c91 (p:TyV):∀ (u:TyV) (s:Sh) (xs ys:List AV),TyRep p xs→DvRep u ys→Sm 1048577 p→pErr s p=0→vErr s u=0→∀ h,doCall MX (callW MX) 91 [.agg xs,.agg ys] h=some (.ret (.bool (fitsV p u)),h):=by
 induction p using TyV.ind with
 | h k v nm ps ih=>
  intro u s xs ys hx hy hs hpe hve h
  have hn:([AV.agg xs,.agg ys]:List AV).all AV.noRef=true:=by simp [AV.noRef,hx.noRefs,hy.noRefs]
  obtain ⟨s1,s2,s3⟩:=hs.dest
  have hb:=bef_91_8
  simp [opsF,opsAt,Tryz.f91] at hb
  obtain ⟨pv,rfl,hp⟩:=hx.dest
  obtain ⟨qv,rfl,hq⟩:=hy.dest'
  suffices hh:∃ hr,runW MX 91 [.agg [.int .i64 k,.int .i64 v,.str nm,pv],.agg [.str u.nm,.int .i64 u.v,qv]] []=some (.ret (.bool (fitsV (.mk k v nm ps) u)),hr) by
   obtain ⟨hr,hh⟩:=hh
   exact pureX mode_91 eff_91 hn rfl hh h
  simp only [fitsV]
  rcases pErr_ok hpe with ⟨rfl,rfl⟩ | ⟨rfl,rfl⟩ | ⟨rfl,rfl,n,rfl⟩ | ⟨rfl,_⟩
  ·exact ⟨_,by simp [runW,Tryz.f91] <;> rfl⟩
  ·exact ⟨_,by simp [runW,Tryz.f91] <;> rfl⟩
  ·have hun:u.nm=[]:=by cases u;exact (vErr_bit hve).1
   have hvb:decide (u.v=v)=(v == u.v):=by rw [Bool.eq_iff_iff];simp;exact eq_comm
   rw [hun,hvb]
   exact ⟨_,by simp [runW,Tryz.f91] <;> rfl⟩
  ·have k3:¬ ((2:Int)=3):=by decide
   rw [if_neg k3,if_pos rfl]
   cases h0:u.nm == nm with
   | false=>
    have h0':(nm == u.nm)=false:=by rw [beq_eq_false_iff_ne] at h0 ⊢;exact fun e=>h0 e.symm
    by_cases hl0:ps.length=0
    ·have e0:ps=[]:=List.eq_nil_of_length_eq_zero hl0
     subst e0
     obtain ⟨e,st,hlp,hq'⟩:=loop_up (M:=MX) (fid:=91) (N:=48) (C:=callW MX) (c:=loopC Tryz.f91 0) (n:=0) (fun i (_:Unit)=>([(2,.hp 0 0),(3,.hp 1 0),(19,.int .i64 (0:Nat)),(20,.int .i64 i)],[.var false [.int .i64 2,.int .i64 v,.str nm,pv],.var false [.str u.nm,.int .i64 u.v,qv]])) (fun _ _=>True)
      (fun r=>r=(.ext 1,([(2,.hp 0 0),(3,.hp 1 0),(19,.int .i64 (0:Nat)),(20,.int .i64 (0:Nat)),(21,.bool false)],[.var false [.int .i64 2,.int .i64 v,.str nm,pv],.var false [.str u.nm,.int .i64 u.v,qv]]))) (fun i b hi _=>by omega) (fun b _=>by
        exact ⟨_,_,by simp [Tryz.f91] <;> first | exact ⟨rfl,rfl⟩ | rfl,by simp,rfl⟩) () trivial
     cases hq'
     simp [Tryz.f91] at hlp
     have hpl:∀ h,lenSl pv h=some (.val (.int .i64 0) h):=fun h=>hp.len h
     exact ⟨_,by simp [runW,Tryz.f91,hpl,hlp,h0'] <;> rfl⟩
    ·obtain ⟨e,st,hlp,hq'⟩:=loop_up (M:=MX) (fid:=91) (N:=48) (C:=callW MX) (c:=loopC Tryz.f91 0) (n:=ps.length) (fun i (_:Unit)=>([(2,.hp 0 0),(3,.hp 1 0),(19,.int .i64 ps.length),(20,.int .i64 i)],[.var false [.int .i64 2,.int .i64 v,.str nm,pv],.var false [.str u.nm,.int .i64 u.v,qv]])) (fun i _=>i=0)
      (fun r=>r=(.ret,([(4,.bool false)],[.var false [.int .i64 2,.int .i64 v,.str nm,pv],.var false [.str u.nm,.int .i64 u.v,qv]]))) (fun i b hi hI=>by
        subst hI
        have hi':(0:Int)<(ps.length:Int):=by omega
        have hi'':0<ps.length:=hi
        exact .inr ⟨_,_,by simp [Tryz.f91,hi',hi'',h0',hb] <;> first | exact ⟨rfl,rfl⟩ | rfl,by simp,rfl⟩) (fun b hI=>absurd hI hl0) () rfl
     cases hq'
     simp [Tryz.f91] at hlp
     exact ⟨_,by simp [runW,Tryz.f91,hp.len,hlp] <;> rfl⟩
   | true=>
    have hun:=beq_iff_eq.1 h0
    have h0':(nm == u.nm)=true:=by rw [hun];exact beq_self_eq_true nm
    obtain ⟨zs,l1,l2,g1,g2⟩:=both_make hpe hve hun
    have h3:u.ps.length=ps.length:=by omega
    have d3:decide (u.ps.length=ps.length)=true:=decide_eq_true h3
    obtain ⟨e,st,hlp,hq'⟩:=loop_up (M:=MX) (fid:=91) (N:=48) (C:=callW MX) (c:=loopC Tryz.f91 0) (n:=ps.length) (fun i (_:Unit)=>([(2,.hp 0 0),(3,.hp 1 0),(19,.int .i64 ps.length),(20,.int .i64 i)],[.var false [.int .i64 2,.int .i64 v,.str nm,pv],.var false [.str u.nm,.int .i64 u.v,qv]]))
     (fun i _=>fitsVs ps u.ps=fitsVs (ps.drop i) (u.ps.drop i))
     (fun r=>(r=(.ext 1,([(2,.hp 0 0),(3,.hp 1 0),(19,.int .i64 ps.length),(20,.int .i64 ps.length),(21,.bool false)],[.var false [.int .i64 2,.int .i64 v,.str nm,pv],.var false [.str u.nm,.int .i64 u.v,qv]]))∧fitsVs ps u.ps=true)∨(r=(.ret,([(4,.bool false)],[.var false [.int .i64 2,.int .i64 v,.str nm,pv],.var false [.str u.nm,.int .i64 u.v,qv]]))∧fitsVs ps u.ps=false)) (fun i b hi hI=>by
       obtain ⟨e,he,hR⟩:=hp.ix hi
       have hiu:i<u.ps.length:=by omega
       have hiz:i<zs.length:=by omega
       obtain ⟨e2,he2,hR2⟩:=hq.ix hiu
       have hi':=lt_cast hi
       have hw:=wr_next hi s2
       rw [fitsVs_drop hi hiu] at hI
       have hrec:=ih ps[i] (List.getElem_mem hi) u.ps[i] zs[i] e e2 hR hR2 (s3 _ (List.getElem_mem hi)) (g1 i _ _ (List.getElem?_eq_getElem hiz) (List.getElem?_eq_getElem hi)) (g2 i _ _ (List.getElem?_eq_getElem hiz) (List.getElem?_eq_getElem hiu))
       obtain ⟨q1,rfl,hq1⟩:=hR.dest'
       obtain ⟨q2,rfl,hq2⟩:=hR2.dest'
       cases hs:fitsV ps[i] u.ps[i] with
       | true=>
        rw [hs] at hI hrec
        exact .inl ⟨(),by simp [Tryz.f91,hi',he,he2,hrec,hw,hb,h0',noRefs,AV.noRef,hq1.noRef,hq2.noRef],by simpa using hI⟩
       | false=>
        rw [hs] at hI hrec
        exact .inr ⟨_,_,by simp [Tryz.f91,hi',he,he2,hrec,hb,h0',noRefs,AV.noRef,hq1.noRef,hq2.noRef] <;> first | exact ⟨rfl,rfl⟩ | rfl,by simp,.inr ⟨rfl,by simpa using hI⟩⟩) (fun b hI=>by
       rw [List.drop_length] at hI
       exact ⟨_,_,by simp [Tryz.f91] <;> first | exact ⟨rfl,rfl⟩ | rfl,by simp,.inl ⟨rfl,by rw [hI];rfl⟩⟩) () (by simp)
    simp [Tryz.f91] at hlp
    simp only [d3,Bool.true_and]
    rcases hq' with ⟨hq',hr⟩ | ⟨hq',hr⟩ <;> rw [hr] <;> cases hq' <;> exact ⟨_,by simp [runW,Tryz.f91,h0',hp.len,hlp] <;> rfl⟩
theorem snap_fnV {f:FuncId} {id:Nat} {v:Int} {s:Bytes} {pv:AV} {h:Heap} {b:Bool} {ps:List TyV} (hps:SlR DvRep 3 ps pv) (hh:h[id]? = some (.var b [.str s,.int .i64 v,pv])):snap snapN (.fn f [] [.hp id 0]) h=some (.fn f [] [.ro [.str s,.int .i64 v,pv]],h.set id (.var true [.str s,.int .i64 v,pv])):=by
 have hpv:=hps.noRef
 have:SnapIn 9 (.fn f [] [.hp id 0]) h (.fn f [] [.ro [.str s,.int .i64 v,pv]]) (h.set id (.var true [.str s,.int .i64 v,pv])):=fun n=>by
  rcases hps with ⟨_,rfl⟩ | ⟨ex,es,rfl,_⟩ <;> simp [AV.noRef] at hpv <;> simp [Am.snap,Am.snaps,noRefs,AV.noRef,hh,hpv]
 exact this.at (by decide)
theorem c62 {arms:List TyV} {av:AV} (ha:SlR TyRep 4 arms av) (hal:arms.length<1048577) (has:∀ p∈arms,Sm 1048577 p) {u:TyV} {ys:List AV} (hy:DvRep u ys) {s:Sh} (hpe:∀ p∈arms,pErr s p=0) (hve:vErr s u=0) (h:Heap):doCall MX (callW MX) 62 [av,.agg ys] h=some (.ret (.int .i64 (ixI (arms.findIdx? (fun p=>fitsV p u)))),h):=by
 have hn:([av,.agg ys]:List AV).all AV.noRef=true:=by simp [AV.noRef,ha.noRef,hy.noRefs]
 have hyn:=hy.noRefs
 have h115:∀ (p:TyV) (px:List AV),TyRep p px→Sm 1048577 p→pErr s p=0→∀ H,∃ B,doCall MX (callW MX) 115 [.agg px,.ro ys] H=some (.ret (.bool (fitsV p u)),H++[B]):=fun p px hR hs hpe H=>by
  have h91:=c91 p u s px ys hR hy hs hpe hve
  obtain ⟨q1,rfl,hq1⟩:=hR.dest'
  obtain ⟨q2,rfl,hq2⟩:=hy.dest'
  exact ⟨_,openC mode_115 eff_115 (by simp [runW,Tryz.f115,h91] <;> first | exact ⟨rfl,rfl⟩ | rfl)⟩
 obtain ⟨F,hF⟩:∃ F,F=AV.fn 115 [] [.ro ys]:=⟨_,rfl⟩
 obtain ⟨G,hG⟩:∃ G,runW MX 114 [av,.fn 115 [] [.ro ys]] []=some (.ret (.int .i64 (ixI (arms.findIdx? (fun p=>fitsV p u)))),G):=by
  rw [← hF]
  obtain ⟨e,st,hlp,hq⟩:=loop_up (M:=MX) (fid:=114) (N:=19) (C:=callW MX) (c:=loopC Tryz.f114 0) (n:=arms.length) (fun i (b:Heap)=>([(0,av),(1,F),(7,.int .i64 arms.length),(8,.int .i64 i)],b)) (fun i _=>∀ j (hj:j<arms.length),j<i→(fun p=>fitsV p u) arms[j]=false)
   (fun r=>∃ b:Heap,(r=(.ext 0,([(0,av),(1,F),(7,.int .i64 arms.length),(8,.int .i64 arms.length),(9,.bool false)],b))∧arms.findIdx? (fun p=>fitsV p u)=none)∨(∃ i:Nat,r=(.ret,([(4,.int .i64 i)],b))∧arms.findIdx? (fun p=>fitsV p u)=some i)) (fun i b hi hI=>by
     obtain ⟨e,he,hR⟩:=ha.ix hi
     have hi':=lt_cast hi
     have hw:=wr_next hi hal
     have hmem:=List.getElem_mem hi
     obtain ⟨B,hcall⟩:=h115 arms[i] e hR (has _ hmem) (hpe _ hmem) b
     obtain ⟨q1,rfl,hq1⟩:=hR.dest'
     cases hx:fitsV arms[i] u with
     | true=>rw [hx] at hcall;exact .inr ⟨_,_,by simp [Tryz.f114,hi',he,hcall,hF] <;> exact ⟨rfl,rfl⟩,by simp,b++[B],.inr ⟨i,rfl,fi_some (p:=(fun p=>fitsV p u)) hi hI hx⟩⟩
     | false=>rw [hx] at hcall;exact .inl ⟨b++[B],by simp [Tryz.f114,hi',he,hcall,hw,hF],fi_step (p:=(fun p=>fitsV p u)) hi hI hx⟩) (fun b hI=>by
     exact ⟨_,_,by simp [Tryz.f114] <;> exact ⟨rfl,rfl⟩,by simp,b,.inl ⟨rfl,fi_none (p:=(fun p=>fitsV p u)) fun j hj=>hI j hj hj⟩⟩) [] (fun j _ h0=>by omega)
  simp [Tryz.f114] at hlp
  obtain ⟨b,hq⟩:=hq
  rcases hq with ⟨hq,hs⟩ | ⟨i,hq,hs⟩ <;> cases hq <;> exact ⟨b,by simp [runW,Tryz.f114,ha.len,hlp,hs,ixI]⟩
 obtain ⟨q2,rfl,hq2⟩:=hy.dest'
 have h114:doCall MX (callW MX) 114 [av,.fn 115 [] [.hp 0 0]] [.var false [.str u.nm,.int .i64 u.v,q2]]=some (.ret (.int .i64 (ixI (arms.findIdx? (fun p=>fitsV p u)))),[.var true [.str u.nm,.int .i64 u.v,q2]]):=by
  have hsn:=snap_fnV (f:=115) (id:=0) (b:=false) (h:=[.var false [.str u.nm,.int .i64 u.v,q2]]) hq2 rfl
  exact snapCall (by simp [mode_114]) (args':=[av,.fn 115 [] [.ro [.str u.nm,.int .i64 u.v,q2]]]) (by simp [snapArgs,ha.noRef,hsn,AV.noRef,noRefs]) (by simp [ha.noRef,AV.noRef,noRefs,hq2.noRef]) (pureX mode_114 eff_114 (by simp [ha.noRef,AV.noRef,noRefs,hq2.noRef]) rfl hG _)
 exact pureX mode_62 eff_62 hn rfl (hr:=_) (by simp [runW,Tryz.f62,h114] <;> rfl) h
theorem u32:und MX.ty 32=some (.slice 34):=by kernel_rfl
def ClnR (ps:List TyV) (r:AV) (X:Heap) (n:Nat):Prop:=(ps=[]∧X=[]∧(r=.nils∨r=.sl 3 true []))∨∃ es,ps≠[]∧r=.hs n ps.length 3 0 ps.length false∧X=[.arr 3 false es]∧es.length=ps.length∧∀ (j:Nat) p e,ps[j]? = some p→es[j]? = some e→DvRep p e
theorem c163 {ps:List TyV} {v:AV} (hv:SlR DvRep 3 ps v) (hl:ps.length<1048577) (h:Heap):∃ r X,doCall MX (callW MX) 163 [v] h=some (.ret r,h++X)∧ClnR ps r X h.length:=by
 have hn:([v]:List AV).all AV.noRef=true:=by simp [hv.noRef]
 rcases hv with ⟨rfl,rfl⟩ | ⟨ex,es,rfl,h1,h2⟩
 ·refine ⟨.nils,[],?_,.inl ⟨rfl,rfl,.inl rfl⟩⟩
  have hcl:=closeStr (H:=[]) (a:=.nils) (l:=[]) (.inl ⟨rfl,rfl⟩) h
  simp only [nv,nb] at hcl
  exact keepX mode_163 eff_163 hn (v:=.nils) (hr:=[]) (by simp [runW,Tryz.f163,u32,eqA]) hcl
 ·have hnr:es.all noRefs=true:=reps_noRefs h1 h2 (fun a e h=>h.noRefs)
  by_cases he:es=[]
  ·subst he
   have h0:ps=[]:=List.eq_nil_of_length_eq_zero h1.symm
   refine ⟨.sl 3 true [],[],?_,.inl ⟨h0,rfl,.inr rfl⟩⟩
   have hcl:closeRes true h (.sl 3 true []) []=some (.sl 3 true [],h++[]):=rfl
   have hap:apA 3 48 (.sl 3 true []) (.sl 3 ex []) []=some (.sl 3 true [],[]):=by
    simp [apA,apX,szOk,elemSz,lenA,rdElems,beq_d,ble_d,blt_d]
   exact keepX mode_163 eff_163 hn (v:=.sl 3 true []) (hr:=[]) (by simp [runW,Tryz.f163,u32,eqA,bsA,fillE,List.replicate,noRefs,AV.noRef,hap]) hcl
  ·have hne:ps≠[]:=fun e=>he (List.eq_nil_of_length_eq_zero (by rw [h1,e];rfl))
   obtain ⟨x,r,hxr⟩:=List.exists_cons_of_ne_nil he
   refine ⟨.hs h.length ps.length 3 0 ps.length false,[.arr 3 false es],?_,.inr ⟨es,hne,rfl,rfl,h1,h2⟩⟩
   have hap:apA 3 48 (.sl 3 true []) (.sl 3 ex es) []=some (.hs 0 ps.length 3 0 ps.length false,[.arr 3 false es]):=by
    have e2:ps.length * 48≤17592186044416:=by omega
    have e3:ps.length≤17592186044416:=by omega
    have hrd:rdElems [] (.sl 3 ex es)=some es:=rfl
    rw [← h1] at e2 e3 ⊢
    subst hxr
    simp [apA,apX,szOk,elemSz,lenA,newArr,beq_d,ble_d,blt_d,hrd] at e2 e3 ⊢
    simp [e2,e3]
   have hcl:closeRes true h (.hs 0 ps.length 3 0 ps.length false) [.arr 3 false es]=some (.hs h.length ps.length 3 0 ps.length false,h++[.arr 3 false es]):=by
    have ht:topV (.hs 0 ps.length 3 0 ps.length false)=[0]:=rfl
    have hrl:∀ b,relocV b [0] (.hs 0 ps.length 3 0 ps.length false)=some (.hs b ps.length 3 0 ps.length false):=fun b=>by
     simp [relocV,relocA,relocC,posOf,beq_d]
    have hset:Am.settle [0] [.arr 3 false es]=some [.arr 3 false es]:=by simp only [Am.settle,List.getElem?_cons_zero,hnr]
    have hkb:keptBlks [.arr 3 false es] [0]=some [.arr 3 false es]:=by simp only [keptBlks,List.getElem?_cons_zero,Blk.noRef,hnr]
    simp only [Am.closeRes,ht,hset,hrl,hkb]
    simp [Am.distinct]
   exact keepX mode_163 eff_163 hn (v:=.hs 0 ps.length 3 0 ps.length false) (hr:=[.arr 3 false es]) (by simp [runW,Tryz.f163,u32,eqA,bsA,fillE,List.replicate,noRefs,AV.noRef,hap]) hcl
theorem c113 (t:TyV):∀ (xs:List AV),DvRep t xs→Sm 1048577 t→∃ ys,DvRep t ys∧∀ h,doCall MX (callW MX) 113 [.agg xs] h=some (.ret (.agg ys),h):=by
 induction t using TyV.ind with
 | h k v nm ps ih=>
  intro xs hx hs
  have hn:([AV.agg xs]:List AV).all AV.noRef=true:=by simp [AV.noRef,hx.noRefs]
  obtain ⟨rfl,pv,rfl,hp⟩:=hx.dest
  obtain ⟨s1,s2,s3⟩:=hs.dest
  have hb:=bef_113_5
  simp [opsF,opsAt,Tryz.f113] at hb
  obtain ⟨r,X,h163,hr⟩:=c163 hp s2 [Blk.var false [AV.str nm,AV.int .i64 v,pv],Blk.var false [AV.str [],AV.int .i64 0,AV.nils]]
  rcases hr with ⟨rfl,rfl,hr⟩ | ⟨es0,hne,rfl,rfl,h1,h2⟩
  ·-- no parts
   obtain ⟨e,st,hlp,hq⟩:=loop_up (M:=MX) (fid:=113) (N:=25) (C:=callW MX) (c:=loopC Tryz.f113 0) (n:=0)
    (fun i (_:Unit)=>([(1,.hp 0 0),(2,.hp 1 0),(10,r),(11,.int .i64 (0:Nat)),(12,.int .i64 i)],[Blk.var false [AV.str nm,AV.int .i64 v,r],Blk.var false [AV.str [],AV.int .i64 0,AV.nils]]))
    (fun _ _=>True) (fun q=>q=(.ext 0,([(1,.hp 0 0),(2,.hp 1 0),(10,r),(11,.int .i64 (0:Nat)),(12,.int .i64 (0:Nat)),(13,.bool false)],[Blk.var false [AV.str nm,AV.int .i64 v,r],Blk.var false [AV.str [],AV.int .i64 0,AV.nils]]))) (fun i b hi=>by omega) (fun b _=>by
      exact ⟨_,_,by simp [Tryz.f113] <;> first | exact ⟨rfl,rfl⟩ | rfl,by simp,rfl⟩) () trivial
   cases hq
   simp [Tryz.f113] at hlp
   have hrl:∀ h,lenSl r h=some (.val (.int .i64 0) h):=fun h=>by rcases hr with rfl | rfl <;> rfl
   have hrc:r.cells=some [r]:=by rcases hr with rfl | rfl <;> rfl
   have hrn:r.noRef=true:=by rcases hr with rfl | rfl <;> rfl
   simp at h163
   refine ⟨[.str nm,.int .i64 v,r],DvRep.intro (by rcases hr with rfl | rfl;exact .inl ⟨rfl,rfl⟩;exact .inr ⟨true,[],rfl,rfl,fun i a e h=>by simp at h⟩),fun h=>pureX mode_113 eff_113 hn (by simp [AV.noRef,noRefs,hrn]) (hr:=[Blk.var false [AV.str nm,AV.int .i64 v,r],Blk.var false [AV.str nm,AV.int .i64 v,r]]) (by simp [runW,Tryz.f113,h163,hrc,hrl,hlp,resA]) h⟩
  ·obtain ⟨e,st,hlp,hq⟩:=loop_up (M:=MX) (fid:=113) (N:=25) (C:=callW MX) (c:=loopC Tryz.f113 0) (n:=ps.length)
    (fun i (b:List (List AV)×Heap)=>([(1,.hp 0 0),(2,.hp 1 0),(10,.hs 2 ps.length 3 0 ps.length false),(11,.int .i64 ps.length),(12,.int .i64 i)],Blk.var false [AV.str nm,AV.int .i64 v,.hs 2 ps.length 3 0 ps.length false]::Blk.var false [AV.str [],AV.int .i64 0,AV.nils]::.arr 3 false b.1::b.2))
    (fun _ b=>b.1.length=ps.length∧∀ (j:Nat) p e,ps[j]? = some p→b.1[j]? = some e→DvRep p e)
    (fun q=>∃ b:List (List AV)×Heap,q=(.ext 0,([(1,.hp 0 0),(2,.hp 1 0),(10,.hs 2 ps.length 3 0 ps.length false),(11,.int .i64 ps.length),(12,.int .i64 ps.length),(13,.bool false)],Blk.var false [AV.str nm,AV.int .i64 v,.hs 2 ps.length 3 0 ps.length false]::Blk.var false [AV.str [],AV.int .i64 0,AV.nils]::.arr 3 false b.1::b.2))∧b.1.length=ps.length∧∀ (j:Nat) p e,ps[j]? = some p→b.1[j]? = some e→DvRep p e) (fun i b hi hI=>by
      obtain ⟨es,rest⟩:=b
      obtain ⟨i1,i2⟩:=hI
      simp only at i1 i2
      have hi':=lt_cast hi
      have hw:=wr_next hi s2
      have hie:i<es.length:=by omega
      have hR:=i2 i _ _ (List.getElem?_eq_getElem hi) (List.getElem?_eq_getElem hie)
      obtain ⟨ys,hys,hcall⟩:=ih ps[i] (List.getElem_mem hi) _ hR (s3 _ (List.getElem_mem hi))
      obtain ⟨qv,hqe,hqv⟩:=hR.dest'
      have hei:es[i]? = some [.str ps[i].nm,.int .i64 ps[i].v,qv]:=by rw [List.getElem?_eq_getElem hie,hqe]
      rw [hqe] at hcall
      obtain ⟨qy,rfl,hqy⟩:=hys.dest'
      have hix:ixA 3 (.hs 2 ps.length 3 0 ps.length false) (.int .i64 i)=some (.ep 2 ps.length 3 i 0):=by
       rw [ixA_hs (kd:=.i64) (hi:=hi),Nat.zero_add]
      have m1:∀ (A B:Heap) (X Y:Blk) (b0 b1:Blk),(0∈mods 0 (b0::b1::X::A) (b0::b1::Y::A))=False:=fun A B X Y b0 b1=>mods_ne0 (by simp) rfl
      refine .inl ⟨(es.set i [.str ps[i].nm,.int .i64 ps[i].v,qy],rest++[Blk.var false [.str ps[i].nm,.int .i64 ps[i].v,qv]]),?_,by simpa using i1,fun j p e g1 g2 => ?_⟩
      ·simp [Tryz.f113,hi',hix,i1,hei,hcall,hw,hb,noRefs,AV.noRef,hqv.noRef]
      ·by_cases hj:j=i
       ·subst hj
        rw [List.getElem?_set_self hie] at g2
        cases g2
        rw [List.getElem?_eq_getElem hi] at g1
        cases g1
        exact hys
       ·rw [List.getElem?_set_ne (fun e=>hj e.symm)] at g2
        exact i2 j p e g1 g2) (fun b hI=>by
      exact ⟨_,_,by simp [Tryz.f113] <;> first | exact ⟨rfl,rfl⟩ | rfl,by simp,b,rfl,hI⟩) (es0,[]) ⟨h1,h2⟩
   obtain ⟨⟨es,rest⟩,hq,i1,i2⟩:=hq
   cases hq
   simp [Tryz.f113] at hlp
   simp at h163
   have hacc:AccIn 3 2 (.arr 3 false es::rest) (.hs 2 ps.length 3 0 ps.length false) es:=.inr ⟨0,fun e=>hne (List.eq_nil_of_length_eq_zero (by rw [← i1,e];rfl)),by rw [i1],rfl⟩
   obtain ⟨v',rest',hsn,hrep,heq⟩:=acc_end (P:=[Blk.var false [AV.str nm,AV.int .i64 v,.hs 2 ps.length 3 0 ps.length false],Blk.var false [AV.str nm,AV.int .i64 v,.hs 2 ps.length 3 0 ps.length false]]) (fun a e h=>DvRep.noRefs h) hacc i1 i2
   refine ⟨[.str nm,.int .i64 v,v'],DvRep.intro hrep,fun h => ?_⟩
   exact pureS mode_113 eff_113 hn (by simp [AV.noRef,noRefs]) ((SnapIn.agg (by simp [noRefs,AV.noRef]) (.cons (.flat rfl _) (.cons (.flat rfl _) (.cons hsn (.nil _))))).at (by decide)) (by simp [AV.noRef,noRefs,hrep.noRef]) (by simp [runW,Tryz.f113,h163,hlp,resA]) h
def BdRep (b:Bytes×TyV) (e:List AV):Prop:=∃ ys,e=.str b.1::ys∧DvRep b.2 ys
theorem BdRep.noRefs {b:Bytes×TyV} {e:List AV} (h:BdRep b e):noRefs e=true:=by
 obtain ⟨ys,rfl,hy⟩:=h
 have:=hy.noRefs
 simp [Am.noRefs,AV.noRef] at this ⊢
 exact this
mutual
def bnd:TyV→TyV→List (Bytes×TyV)
 | .mk k _ nm ps,u=>if k=1 then [(nm,u)] else bnds ps u.ps
def bnds:List TyV→List TyV→List (Bytes×TyV)
 | [],_=>[]
 | p::r,q=>bnd p (q.headD default)++bnds r q.tail
end
theorem bnds_take {ps us:List TyV} {i:Nat} (hi:i<ps.length) (hu:i<us.length):bnds (ps.take (i+1)) us=bnds (ps.take i) us++bnd ps[i] us[i]:=by
 induction i generalizing ps us with
 | zero=>
  cases ps with
  | nil=>cases hi
  | cons p r=>cases us with
   | nil=>cases hu
   | cons u us=>simp [bnds]
 | succ i ih=>
  cases ps with
  | nil=>cases hi
  | cons p r=>cases us with
   | nil=>cases hu
   | cons u us=>
    simp only [List.take_succ_cons,bnds,List.headD_cons,List.tail_cons,List.getElem_cons_succ]
    rw [ih (by simpa using hi) (by simpa using hu),List.append_assoc]
theorem bnd_len (p:TyV):∀ u,(bnd p u).length=(namesOf p).length:=by
 induction p using TyV.ind with
 | h k v nm ps ih=>
  intro u
  have key:∀ (l:List TyV),(∀ p∈l,p∈ps)→∀ us,(bnds l us).length=(namesOfs l).length:=by
   intro l
   induction l with
   | nil=>intro _ us;rfl
   | cons p r ihr=>
    intro hm us
    simp only [bnds,namesOfs,List.length_append,ih p (hm p (by simp)),ihr (fun q hq=>hm q (by simp [hq]))]
  simp only [bnd,namesOf]
  by_cases h1:k=1
  ·rw [if_pos h1,if_pos h1];rfl
  ·rw [if_neg h1,if_neg h1];exact key ps (fun _ h=>h) _
theorem bnds_len {ps us:List TyV}:(bnds ps us).length=(namesOfs ps).length:=by
 induction ps generalizing us with
 | nil=>rfl
 | cons p r ih=>simp only [bnds,namesOfs,List.length_append,bnd_len,ih]
theorem fitsVs_all:∀ {ps us:List TyV},ps.length=us.length→fitsVs ps us=true→∀ (i:Nat) p u,ps[i]? = some p→us[i]? = some u→fitsV p u=true
 | [],[],_,_=>fun i p u h=>by simp at h
 | p::ps,u::us,hl,h=>by
  simp only [fitsVs,List.headD_cons,List.tail_cons,Bool.and_eq_true] at h
  intro i q w h1 h2
  cases i with
  | zero=>simp at h1 h2;rw [← h1,← h2];exact h.1
  | succ i=>exact fitsVs_all (by simpa using hl) h.2 i q w (by simpa using h1) (by simpa using h2)
 | [],_::_,hl,_=>by simp at hl
 | _::_,[],hl,_=>by simp at hl
theorem fits_make {s:Sh} {k v:Int} {nm:Bytes} {ps:List TyV} {u:TyV} (hp:pErr s (.mk k v nm ps)=0) (hu:vErr s u=0) (hf:fitsV (.mk k v nm ps) u=true) (hk:k≠1):∃ xs:List Sh,(ps=[]∨ps.length=u.ps.length∧ps.length=xs.length)∧(∀ (i:Nat) x p,xs[i]? = some x→ps[i]? = some p→pErr x p=0)∧(∀ (i:Nat) x p,xs[i]? = some x→u.ps[i]? = some p→vErr x p=0)∧∀ (i:Nat) p w,ps[i]? = some p→u.ps[i]? = some w→fitsV p w=true:=by
 rcases pErr_ok hp with ⟨_,rfl⟩ | ⟨h,_⟩ | ⟨_,rfl,_⟩ | ⟨rfl,_⟩
 ·exact ⟨[],.inl rfl,fun i x p h=>by simp at h,fun i x p h=>by simp at h,fun i p w h=>by simp at h⟩
 ·exact absurd h hk
 ·exact ⟨[],.inl rfl,fun i x p h=>by simp at h,fun i x p h=>by simp at h,fun i p w h=>by simp at h⟩
 ·simp only [fitsV] at hf
  rw [if_neg (by decide),if_pos trivial,Bool.and_eq_true,Bool.and_eq_true] at hf
  obtain ⟨h1,h2,h3⟩:=hf
  obtain ⟨xs,l1,l2,g1,g2⟩:=both_make hp hu (beq_iff_eq.1 h1)
  exact ⟨xs,.inr ⟨by omega,l1⟩,g1,g2,fitsVs_all (by omega) h3⟩
theorem SlR.app {α:Type} {R:α→List AV→Prop} {sz:Nat} {l:List α} {v:AV} (hv:SlR R sz l v) (H:Heap):∃ es,rdElems H v=some es∧szOk sz v=true∧es.length=l.length∧∀ (i:Nat) a e,l[i]? = some a→es[i]? = some e→R a e:=hv.rd H
theorem c47 (p:TyV):∀ (u:TyV) (s:Sh) (xs ys:List AV),TyRep p xs→DvRep u ys→Sm 1048577 p→Sm 1048577 u→pErr s p=0→vErr s u=0→fitsV p u=true→(namesOf p).length<1048577→∃ w,SlR BdRep 4 (bnd p u) w∧∀ h,doCall MX (callW MX) 47 [.agg xs,.agg ys] h=some (.ret w,h):=by
 induction p using TyV.ind with
 | h k v nm ps ih=>
  intro u s xs ys hx hy hs hsu hpe hve hfi hlen
  have hn:([AV.agg xs,.agg ys]:List AV).all AV.noRef=true:=by simp [AV.noRef,hx.noRefs,hy.noRefs]
  obtain ⟨s1,s2,s3⟩:=hs.dest
  obtain ⟨u2,u3⟩:=hsu.parts
  have hcopy:=c49 u ys hy hsu
  have hb2:=bef_47_2
  simp [opsF,opsAt,Tryz.f47] at hb2
  have hb7:=bef_47_7
  simp [opsF,opsAt,Tryz.f47] at hb7
  obtain ⟨pv,rfl,hp⟩:=hx.dest
  obtain ⟨qv,rfl,hq⟩:=hy.dest'
  by_cases k1:k=1
  ·subst k1
   obtain ⟨zs,hzs,hcall⟩:=hcopy
   have hz0:DvRep u zs:=hzs
   obtain ⟨zv,rfl,hzv⟩:=hz0.dest'
   refine ⟨.sl 4 true [[.str nm,.str u.nm,.int .i64 u.v,zv]],?_,fun h=>pureX mode_47 eff_47 hn (by simp [AV.noRef,noRefs,hzv.noRef]) (hr:=[Blk.var false [AV.int .i64 1,AV.int .i64 v,AV.str nm,pv],Blk.var false [.str u.nm,.int .i64 u.v,qv]]) (by simp [runW,Tryz.f47,hcall,hb2,bsA,fillE,List.replicate,noRefs,AV.noRef,hzv.noRef,hq.noRef]) h⟩
   simp only [bnd,if_true]
   exact .inr ⟨true,_,rfl,rfl,fun i a e h1 h2=>by
    cases i with
    | zero=>simp at h1 h2;subst h1;subst h2;exact ⟨_,rfl,hz0⟩
    | succ i=>simp at h1⟩
  ·have k1':(k == 1)=false:=by simp [k1]
   have hnm:namesOf (.mk k v nm ps)=namesOfs ps:=by simp [namesOf,k1]
   have hbd:bnd (.mk k v nm ps) u=bnds ps u.ps:=by simp [bnd,k1]
   rw [hnm] at hlen
   rw [hbd]
   obtain ⟨zs,hz,g1,g2,g3⟩:=fits_make hpe hve hfi k1
   obtain ⟨e,st,hlp,hq0⟩:=loop_up (M:=MX) (fid:=47) (N:=37) (C:=callW MX) (c:=loopC Tryz.f47 0) (n:=ps.length)
    (fun i (b:AV×Heap×List (List AV))=>([(2,.hp 0 0),(3,.hp 1 0),(5,b.1),(6,.int .i64 i)],Blk.var false [AV.int .i64 k,AV.int .i64 v,AV.str nm,pv]::Blk.var false [.str u.nm,.int .i64 u.v,qv]::b.2.1))
    (fun i b=>AccIn 4 2 b.2.1 b.1 b.2.2∧b.2.2.length=(bnds (ps.take i) u.ps).length∧∀ (j:Nat) t e,(bnds (ps.take i) u.ps)[j]? = some t→b.2.2[j]? = some e→BdRep t e)
    (fun r=>∃ b:AV×Heap×List (List AV),r=(.ext 0,([(2,.hp 0 0),(3,.hp 1 0),(5,b.1),(6,.int .i64 ps.length),(20,.bool false)],Blk.var false [AV.int .i64 k,AV.int .i64 v,AV.str nm,pv]::Blk.var false [.str u.nm,.int .i64 u.v,qv]::b.2.1)) ∧
      AccIn 4 2 b.2.1 b.1 b.2.2∧b.2.2.length=(bnds ps u.ps).length∧∀ (j:Nat) t e,(bnds ps u.ps)[j]? = some t→b.2.2[j]? = some e→BdRep t e) (fun i b hi hI=>by
      obtain ⟨a,rest,es⟩:=b
      obtain ⟨i1,i2,i3⟩:=hI
      simp only at i1 i2 i3
      have hlz:ps.length=u.ps.length∧ps.length=zs.length:=by
       rcases hz with h | h
       ·rw [h] at hi;cases hi
       ·exact h
      have hiu:i<u.ps.length:=by omega
      have hiz:i<zs.length:=by omega
      obtain ⟨e,he,hR⟩:=hp.ix hi
      obtain ⟨e2,he2,hR2⟩:=hq.ix hiu
      have hi':=lt_cast hi
      have hw:=wr_next hi s2
      have hml:=namesOf_mem_len (List.getElem_mem hi)
      obtain ⟨w,hwr,hcall⟩:=ih ps[i] (List.getElem_mem hi) u.ps[i] zs[i] e e2 hR hR2 (s3 _ (List.getElem_mem hi)) (u3 _ (List.getElem_mem hiu)) (g1 i _ _ (List.getElem?_eq_getElem hiz) (List.getElem?_eq_getElem hi)) (g2 i _ _ (List.getElem?_eq_getElem hiz) (List.getElem?_eq_getElem hiu)) (g3 i _ _ (List.getElem?_eq_getElem hi) (List.getElem?_eq_getElem hiu)) (by omega)
      obtain ⟨q1,rfl,hq1⟩:=hR.dest'
      obtain ⟨q2,rfl,hq2⟩:=hR2.dest'
      obtain ⟨xs,x1,x2,x3,x4⟩:=hwr.rd ([Blk.var false [AV.int .i64 k,AV.int .i64 v,AV.str nm,pv],Blk.var false [.str u.nm,.int .i64 u.v,qv]]++(rest))
      obtain ⟨j1,j2⟩:=rep_pushs i2 i3 x3 x4
      rw [← bnds_take hi hiu] at j1 j2
      have htl:(bnds (ps.take i) u.ps).length≤(namesOfs ps).length:=by rw [bnds_len];exact namesOfs_len ps i
      have hwl:(bnd ps[i] u.ps[i]).length≤(namesOfs ps).length:=by rw [bnd_len];exact hml
      obtain ⟨a',rest',hap,hacc⟩:=acc_app (byt:=64) (P:=[Blk.var false [AV.int .i64 k,AV.int .i64 v,AV.str nm,pv],Blk.var false [.str u.nm,.int .i64 u.v,qv]]) (rest:=rest) (i1) x1 x2 hwr.nstr (by decide) (by decide) (by omega)
      simp only [List.cons_append,List.nil_append] at hap
      exact .inl ⟨(a',rest',es++xs),by simp [Tryz.f47,hp.len,hq.len,hi',he,he2,hcall,hap,hw,hb7,noRefs,AV.noRef,hq1.noRef,hq2.noRef],hacc,j1,j2⟩) (fun b hI=>by
      obtain ⟨a,rest,es⟩:=b
      obtain ⟨i1,i2,i3⟩:=hI
      rw [List.take_length] at i2 i3
      exact ⟨_,_,by simp [Tryz.f47,hp.len] <;> first | exact ⟨rfl,rfl⟩ | rfl,by simp,(a,rest,es),rfl,i1,i2,i3⟩) (.nils,[],[]) ⟨.nil _ _ _,by simp [bnds],fun j t e h=>by simp [bnds] at h⟩
   obtain ⟨⟨a,rest,es⟩,hq0,i1,i2,i3⟩:=hq0
   cases hq0
   simp [Tryz.f47] at hlp
   obtain ⟨v',rest',hsn,hrep,heq⟩:=acc_end (P:=[Blk.var false [AV.int .i64 k,AV.int .i64 v,AV.str nm,pv],Blk.var false [.str u.nm,.int .i64 u.v,qv]]) (fun a e h=>BdRep.noRefs h) i1 i2 i3
   exact ⟨v',hrep,fun h=>pureT mode_47 eff_47 hn hsn (by decide) hrep.noRef heq (by simp [runW,Tryz.f47,k1',hp.len,hlp]) h⟩
theorem c94 (p:TyV):∀ (u:TyV) (s:Sh) (xs ys:List AV),TyRep p xs→DvRep u ys→Sm 1048577 p→Sm 1048577 u→pErr s p=0→vErr s u=0→fitsV p u=true→(namesOf p).length<1048577→∃ w,SlR BdRep 4 (bnd p u) w∧∀ h,doCall MX (callW MX) 94 [.agg xs,.agg ys] h=some (.ret w,h):=by
 induction p using TyV.ind with
 | h k v nm ps ih=>
  intro u s xs ys hx hy hs hsu hpe hve hfi hlen
  have hn:([AV.agg xs,.agg ys]:List AV).all AV.noRef=true:=by simp [AV.noRef,hx.noRefs,hy.noRefs]
  obtain ⟨s1,s2,s3⟩:=hs.dest
  obtain ⟨u2,u3⟩:=hsu.parts
  have hcopy:=c113 u ys hy hsu
  have hb2:=bef_94_2
  simp [opsF,opsAt,Tryz.f94] at hb2
  have hb7:=bef_94_7
  simp [opsF,opsAt,Tryz.f94] at hb7
  obtain ⟨pv,rfl,hp⟩:=hx.dest
  obtain ⟨qv,rfl,hq⟩:=hy.dest'
  by_cases k1:k=1
  ·subst k1
   obtain ⟨zs,hzs,hcall⟩:=hcopy
   have hz0:DvRep u zs:=hzs
   obtain ⟨zv,rfl,hzv⟩:=hz0.dest'
   refine ⟨.sl 4 true [[.str nm,.str u.nm,.int .i64 u.v,zv]],?_,fun h=>pureX mode_94 eff_94 hn (by simp [AV.noRef,noRefs,hzv.noRef]) (hr:=[Blk.var false [AV.int .i64 1,AV.int .i64 v,AV.str nm,pv],Blk.var false [.str u.nm,.int .i64 u.v,qv]]) (by simp [runW,Tryz.f94,hcall,hb2,bsA,fillE,List.replicate,noRefs,AV.noRef,hzv.noRef,hq.noRef]) h⟩
   simp only [bnd,if_true]
   exact .inr ⟨true,_,rfl,rfl,fun i a e h1 h2=>by
    cases i with
    | zero=>simp at h1 h2;subst h1;subst h2;exact ⟨_,rfl,hz0⟩
    | succ i=>simp at h1⟩
  ·have k1':(k == 1)=false:=by simp [k1]
   have hnm:namesOf (.mk k v nm ps)=namesOfs ps:=by simp [namesOf,k1]
   have hbd:bnd (.mk k v nm ps) u=bnds ps u.ps:=by simp [bnd,k1]
   rw [hnm] at hlen
   rw [hbd]
   obtain ⟨zs,hz,g1,g2,g3⟩:=fits_make hpe hve hfi k1
   obtain ⟨e,st,hlp,hq0⟩:=loop_up (M:=MX) (fid:=94) (N:=36) (C:=callW MX) (c:=loopC Tryz.f94 0) (n:=ps.length)
    (fun i (b:AV×Heap×List (List AV))=>([(3,.hp 1 0),(5,b.1),(18,pv),(19,.int .i64 ps.length),(20,.int .i64 i)],Blk.var false [AV.int .i64 k,AV.int .i64 v,AV.str nm,pv]::Blk.var false [.str u.nm,.int .i64 u.v,qv]::b.2.1))
    (fun i b=>AccIn 4 2 b.2.1 b.1 b.2.2∧b.2.2.length=(bnds (ps.take i) u.ps).length∧∀ (j:Nat) t e,(bnds (ps.take i) u.ps)[j]? = some t→b.2.2[j]? = some e→BdRep t e)
    (fun r=>∃ b:AV×Heap×List (List AV),r=(.ext 0,([(3,.hp 1 0),(5,b.1),(18,pv),(19,.int .i64 ps.length),(20,.int .i64 ps.length),(21,.bool false)],Blk.var false [AV.int .i64 k,AV.int .i64 v,AV.str nm,pv]::Blk.var false [.str u.nm,.int .i64 u.v,qv]::b.2.1)) ∧
      AccIn 4 2 b.2.1 b.1 b.2.2∧b.2.2.length=(bnds ps u.ps).length∧∀ (j:Nat) t e,(bnds ps u.ps)[j]? = some t→b.2.2[j]? = some e→BdRep t e) (fun i b hi hI=>by
      obtain ⟨a,rest,es⟩:=b
      obtain ⟨i1,i2,i3⟩:=hI
      simp only at i1 i2 i3
      have hlz:ps.length=u.ps.length∧ps.length=zs.length:=by
       rcases hz with h | h
       ·rw [h] at hi;cases hi
       ·exact h
      have hiu:i<u.ps.length:=by omega
      have hiz:i<zs.length:=by omega
      obtain ⟨e,he,hR⟩:=hp.ix hi
      obtain ⟨e2,he2,hR2⟩:=hq.ix hiu
      have hi':=lt_cast hi
      have hw:=wr_next hi s2
      have hml:=namesOf_mem_len (List.getElem_mem hi)
      obtain ⟨w,hwr,hcall⟩:=ih ps[i] (List.getElem_mem hi) u.ps[i] zs[i] e e2 hR hR2 (s3 _ (List.getElem_mem hi)) (u3 _ (List.getElem_mem hiu)) (g1 i _ _ (List.getElem?_eq_getElem hiz) (List.getElem?_eq_getElem hi)) (g2 i _ _ (List.getElem?_eq_getElem hiz) (List.getElem?_eq_getElem hiu)) (g3 i _ _ (List.getElem?_eq_getElem hi) (List.getElem?_eq_getElem hiu)) (by omega)
      obtain ⟨q1,rfl,hq1⟩:=hR.dest'
      obtain ⟨q2,rfl,hq2⟩:=hR2.dest'
      obtain ⟨xs,x1,x2,x3,x4⟩:=hwr.rd ([Blk.var false [AV.int .i64 k,AV.int .i64 v,AV.str nm,pv],Blk.var false [.str u.nm,.int .i64 u.v,qv]]++(rest++[Blk.var false [AV.int .i64 ps[i].k,AV.int .i64 ps[i].v,AV.str ps[i].nm,q1]]))
      obtain ⟨j1,j2⟩:=rep_pushs i2 i3 x3 x4
      rw [← bnds_take hi hiu] at j1 j2
      have htl:(bnds (ps.take i) u.ps).length≤(namesOfs ps).length:=by rw [bnds_len];exact namesOfs_len ps i
      have hwl:(bnd ps[i] u.ps[i]).length≤(namesOfs ps).length:=by rw [bnd_len];exact hml
      obtain ⟨a',rest',hap,hacc⟩:=acc_app (byt:=64) (P:=[Blk.var false [AV.int .i64 k,AV.int .i64 v,AV.str nm,pv],Blk.var false [.str u.nm,.int .i64 u.v,qv]]) (rest:=rest++[Blk.var false [AV.int .i64 ps[i].k,AV.int .i64 ps[i].v,AV.str ps[i].nm,q1]]) (i1.grow _) x1 x2 hwr.nstr (by decide) (by decide) (by omega)
      simp only [List.cons_append,List.nil_append] at hap
      exact .inl ⟨(a',rest',es++xs),by simp [Tryz.f94,hp.len,hq.len,hi',he,he2,hcall,hap,hw,hb7,noRefs,AV.noRef,hq1.noRef,hq2.noRef],hacc,j1,j2⟩) (fun b hI=>by
      obtain ⟨a,rest,es⟩:=b
      obtain ⟨i1,i2,i3⟩:=hI
      rw [List.take_length] at i2 i3
      exact ⟨_,_,by simp [Tryz.f94,hp.len] <;> first | exact ⟨rfl,rfl⟩ | rfl,by simp,(a,rest,es),rfl,i1,i2,i3⟩) (.nils,[],[]) ⟨.nil _ _ _,by simp [bnds],fun j t e h=>by simp [bnds] at h⟩
   obtain ⟨⟨a,rest,es⟩,hq0,i1,i2,i3⟩:=hq0
   cases hq0
   simp [Tryz.f94] at hlp
   obtain ⟨v',rest',hsn,hrep,heq⟩:=acc_end (P:=[Blk.var false [AV.int .i64 k,AV.int .i64 v,AV.str nm,pv],Blk.var false [.str u.nm,.int .i64 u.v,qv]]) (fun a e h=>BdRep.noRefs h) i1 i2 i3
   exact ⟨v',hrep,fun h=>pureT mode_94 eff_94 hn hsn (by decide) hrep.noRef heq (by simp [runW,Tryz.f94,k1',hp.len,hlp]) h⟩
mutual
def repB (l:List (Bytes×TyV)):TyV→TyV
 | .mk k v nm ps=>if k=1 then exactV (l.getD ((l.findIdx? (fun b=>b.1 == nm)).getD 0) default).2 else .mk k v nm (repBs l ps)
def repBs (l:List (Bytes×TyV)):List TyV→List TyV
 | []=>[]
 | p::r=>repB l p::repBs l r
end
theorem repBs_map (l:List (Bytes×TyV)):∀ ps,repBs l ps=ps.map (repB l)
 | []=>rfl
 | p::r=>by simp [repBs,repBs_map l r]
theorem c48 {l:List (Bytes×TyV)} {w:AV} (hw:SlR BdRep 4 l w) (hll:l.length<1048577) (hsv:∀ b∈l,Sm 1048577 b.2) (t:TyV):∀ (xs:List AV),TyRep t xs→Sm 1048577 t→(∀ n∈namesOf t,(l.findIdx? (fun b=>b.1 == n)).isSome=true)→∃ ys,TyRep (repB l t) ys∧∀ h,doCall MX (callW MX) 48 [.agg xs,w] h=some (.ret (.agg ys),h):=by
 induction t using TyV.ind with
 | h k v nm ps ih=>
  intro xs hx hs hall
  have hn:([AV.agg xs,w]:List AV).all AV.noRef=true:=by simp [AV.noRef,hx.noRefs,hw.noRef]
  obtain ⟨pv,rfl,hp⟩:=hx.dest
  obtain ⟨s1,s2,s3⟩:=hs.dest
  have hb5:=bef_48_5
  simp [opsF,opsAt,Tryz.f48] at hb5
  have hb:=bef_48_12
  simp [opsF,opsAt,Tryz.f48] at hb
  by_cases k1:k=1
  ·subst k1
   have hfs:=hall nm (by simp [namesOf])
   obtain ⟨e2,st2,hlp2,hq2⟩:=loop_up (M:=MX) (fid:=48) (N:=53) (C:=callW MX) (c:=loopC Tryz.f48 0) (n:=l.length)
    (fun i (_:Unit)=>([(1,w),(2,.hp 0 0),(4,.hp 1 0),(5,.int .i64 i)],[Blk.var false [AV.int .i64 1,AV.int .i64 v,AV.str nm,pv],Blk.var false [AV.int .i64 0,AV.int .i64 0,AV.str [],AV.nils]]))
    (fun i _=>∀ j (hj:j<l.length),j<i→(fun b:Bytes×TyV=>b.1 == nm) l[j]=false)
    (fun r=>∃ (i:Nat) (ys:List AV),r=(.ret,([(4,.hp 1 0)],[Blk.var false [AV.int .i64 1,AV.int .i64 v,AV.str nm,pv],Blk.var false ys]))∧l.findIdx? (fun b=>b.1 == nm)=some i∧TyRep (exactV (l.getD i default).2) ys) (fun i b hi hI=>by
      obtain ⟨e,he,hR⟩:=hw.ix hi
      have hi':=lt_cast hi
      have hwi:=wr_next hi hll
      obtain ⟨vs,rfl,hv⟩:=hR
      obtain ⟨ys,hys,hcall⟩:=c46 l[i].2 vs hv (hsv _ (List.getElem_mem hi))
      obtain ⟨qv,rfl,hqv⟩:=hv.dest'
      cases hx:(l[i].1 == nm) with
      | false=>exact .inl ⟨(),by simp [Tryz.f48,hw.len,hi',he,hx,hwi,hb5],fi_step (p:=fun b:Bytes×TyV=>b.1 == nm) hi hI hx⟩
      | true=>
       have hgd:TyRep (exactV (l.getD i default).2) ys:=by simpa [hi] using hys
       obtain ⟨qy,rfl,hqy⟩:=hys.dest'
       exact .inr ⟨_,_,by simp [Tryz.f48,hw.len,hi',he,hx,hcall,hb5] <;> first | exact ⟨rfl,rfl⟩ | rfl,by simp,i,_,rfl,fi_some (p:=fun b:Bytes×TyV=>b.1 == nm) hi hI hx,hgd⟩) (fun b hI=>by
      have:=fi_none (p:=fun b:Bytes×TyV=>b.1 == nm) (l:=l) fun j hj=>hI j hj hj
      rw [this] at hfs
      cases hfs) () (fun j _ h0=>by omega)
   obtain ⟨i,ys,hq2,hf,hys⟩:=hq2
   cases hq2
   simp [Tryz.f48] at hlp2
   refine ⟨ys,by simp only [repB,if_true,hf];exact hys,fun h => ?_⟩
   obtain ⟨qy,rfl,hqy⟩:=hys.dest'
   exact pureX mode_48 eff_48 hn (by simp [AV.noRef,noRefs,hqy.noRef]) (hr:=_) (by simp [runW,Tryz.f48,hlp2,resA] <;> rfl) h
  ·have k1':(k == 1)=false:=by simp [k1]
   obtain ⟨e,st,hlp,hq⟩:=loop_up (M:=MX) (fid:=48) (N:=53) (C:=callW MX) (c:=loopC Tryz.f48 1) (n:=ps.length)
    (fun i (b:AV×Heap×List (List AV))=>([(1,w),(2,.hp 0 0),(4,.hp 1 0),(6,.hp 2 0),(7,.int .i64 i)],Blk.var false [AV.int .i64 k,AV.int .i64 v,AV.str nm,pv]::Blk.var false [AV.int .i64 0,AV.int .i64 0,AV.str [],AV.nils]::Blk.var false [AV.int .i64 k,AV.int .i64 v,AV.str nm,b.1]::b.2.1))
    (fun i b=>AccIn 4 3 b.2.1 b.1 b.2.2∧b.2.2.length=((ps.map (repB l)).take i).length∧∀ (j:Nat) t e,((ps.map (repB l)).take i)[j]? = some t→b.2.2[j]? = some e→TyRep t e)
    (fun r=>∃ b:AV×Heap×List (List AV),r=(.ext 2,([(1,w),(2,.hp 0 0),(4,.hp 1 0),(6,.hp 2 0),(7,.int .i64 ps.length),(37,.bool false)],Blk.var false [AV.int .i64 k,AV.int .i64 v,AV.str nm,pv]::Blk.var false [AV.int .i64 0,AV.int .i64 0,AV.str [],AV.nils]::Blk.var false [AV.int .i64 k,AV.int .i64 v,AV.str nm,b.1]::b.2.1)) ∧
      AccIn 4 3 b.2.1 b.1 b.2.2∧b.2.2.length=(ps.map (repB l)).length∧∀ (j:Nat) t e,(ps.map (repB l))[j]? = some t→b.2.2[j]? = some e→TyRep t e) (fun i b hi hI=>by
      obtain ⟨a,rest,es⟩:=b
      obtain ⟨i1,i2,i3⟩:=hI
      simp only at i1 i2 i3
      obtain ⟨e,he,hR⟩:=hp.ix hi
      have hi':=lt_cast hi
      have hwi:=wr_next hi s2
      have him:i<(ps.map (repB l)).length:=by simpa using hi
      have hnm:namesOf (.mk k v nm ps)=namesOfs ps:=by simp [namesOf,k1]
      obtain ⟨ys,hys,hcall⟩:=ih ps[i] (List.getElem_mem hi) e hR (s3 _ (List.getElem_mem hi)) (fun n hn=>hall n (by
       rw [hnm]
       have h1:=namesOfs_append (ps.take (i+1)) (ps.drop (i+1))
       rw [List.take_append_drop] at h1
       rw [h1,namesOfs_take hi]
       simp [hn]))
      have hys':TyRep (ps.map (repB l))[i] ys:=by simpa using hys
      obtain ⟨j1,j2⟩:=rep_push i2 i3 hys'
      rw [take_push him] at j1 j2
      have hlen:es.length<16777215:=by rw [i2,List.length_take,List.length_map];exact Nat.lt_of_le_of_lt (Nat.min_le_right _ _) (Nat.lt_of_lt_of_le s2 (by decide))
      obtain ⟨a',rest',hap,hacc⟩:=AccIn.push (byt:=56) (P:=[Blk.var false [AV.int .i64 k,AV.int .i64 v,AV.str nm,pv],Blk.var false [AV.int .i64 0,AV.int .i64 0,AV.str [],AV.nils],Blk.var false [AV.int .i64 k,AV.int .i64 v,AV.str nm,a]]) ys true i1 (by decide) (by decide) hlen
      simp only [List.cons_append,List.nil_append] at hap
      have hyn:=hys.noRefs
      have hyl:=hys.len
      obtain ⟨qv,rfl,hqv⟩:=hR.dest'
      exact .inl ⟨(a',rest',es++[ys]),by simp [Tryz.f48,hp.len,hi',he,hcall,bsA,fillE,List.replicate,hyl,hyn,hap,hacc.cells,hwi,hb,noRefs,AV.noRef,hqv.noRef,hw.noRef],hacc,j1,j2⟩) (fun b hI=>by
      obtain ⟨a,rest,es⟩:=b
      obtain ⟨i1,i2,i3⟩:=hI
      rw [List.take_of_length_le (by simp)] at i2 i3
      exact ⟨_,_,by simp [Tryz.f48,hp.len] <;> first | exact ⟨rfl,rfl⟩ | rfl,by simp,(a,rest,es),rfl,i1,i2,i3⟩) (.nils,[],[]) ⟨.nil _ _ _,by simp,fun j t e h=>by simp at h⟩
   obtain ⟨⟨a,rest,es⟩,hq,i1,i2,i3⟩:=hq
   cases hq
   simp [Tryz.f48] at hlp
   obtain ⟨v',rest',hsn,hrep,heq⟩:=acc_end (P:=[Blk.var false [AV.int .i64 k,AV.int .i64 v,AV.str nm,pv],Blk.var false [AV.int .i64 k,AV.int .i64 v,AV.str nm,a],Blk.var false [AV.int .i64 k,AV.int .i64 v,AV.str nm,a]]) (fun a e h=>TyRep.noRefs h) i1 i2 i3
   have hrun:runW MX 48 [.agg [.int .i64 k,.int .i64 v,.str nm,pv],w] []=some (.ret (.agg [.int .i64 k,.int .i64 v,.str nm,a]),[Blk.var false [AV.int .i64 k,AV.int .i64 v,AV.str nm,pv],Blk.var false [AV.int .i64 k,AV.int .i64 v,AV.str nm,a],Blk.var false [AV.int .i64 k,AV.int .i64 v,AV.str nm,a]]++rest):=by
    simp [runW,Tryz.f48,k1',hlp,resA]
   refine ⟨_,by simp only [repB,k1,if_false,repBs_map];exact TyRep.intro hrep,fun h => ?_⟩
   cases hna:a.noRef with
   | true=>
    have:=heq hna
    subst this
    exact pureX mode_48 eff_48 hn (by simp [AV.noRef,noRefs,hna]) hrun h
   | false=>
    exact pureS mode_48 eff_48 hn (by simp [AV.noRef,noRefs,hna]) ((SnapIn.agg (by simp [noRefs,AV.noRef,hna]) (.cons (.flat rfl _) (.cons (.flat rfl _) (.cons (.flat rfl _) (.cons hsn (.nil _)))))).at (by decide)) (by simp [AV.noRef,noRefs,hrep.noRef]) hrun h
end Go.Proofs.Am12
