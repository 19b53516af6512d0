/- Part 17. -/
import Derived.Test.YtggemipepaajmaaGreatSam16
set_option linter.all false
set_option maxHeartbeats 1000000
namespace Go.Proofs.Am12
open Go Go.Am Tryz
section
attribute [local simp] Dc Bn Ec Dd CQ Dx Dy Ey BZ Ap Bh Av Gb FR EN HO D9 A5 FN EO HP HQ xUn FC EA FT BG DQ BH EB BI EC Ce Ca Bv BL EP Eo
 ev evs C4 DP OR.ofV OR.D4 OR.ofC Fg Tm.get Tm.init Tm.only Ay A6 Bt finish CK DS Hb D3 D7 unA Bz Bc B6 Bd Cp Cq Cr Be Cs Ct Bf Cu Cv Bg B7 AL CP Bb Cn Co Bx Ez E0 E1 Dz D0 Fo F7 F8 Fp stA BA DY Bo DR FD Gp B8 C1 CI FU Gq
attribute [local simp] DE CT Cb Bl DF DG DH DI DJ DK DL Ef Cg Eg Dh FW FX Gi Di Eh Dj BQ Dk BR Dl B9 Ei Ch FY FZ Fa Ci Dm Dn Fb Gj Fc Gk Gl Dp BS Cj CA Dq Dr Ck
theorem HZ:∀(i:Nat) (ns:List Bytes) (ss:List (List Sh)),C7 ns ss=C7 (ns.take i) (ss.take i)++C7 (ns.drop i) (ss.drop i)
 | 0,ns,ss=>by simp[C7]
 | i+1,ns,[]=>by simp[C7]
 | i+1,[],s::ss=>by
  have:=HZ i [] ss;simp only[List.take_nil,List.drop_nil]at this;simp only[List.take_nil,List.drop_nil,List.take_succ_cons,List.drop_succ_cons,C7,CO,List.tail_nil];rw[this]
 | i+1,n::ns,s::ss=>by
  simp only[List.take_succ_cons,List.drop_succ_cons,C7,CO,Lo,Ll];rw[<- HZ i ns ss]
theorem Ow{ns:List Bytes}{ss:List (List Sh)}{i:Nat}(h1:i<ns.length)(h2:i<ss.length):C7 (ns.take (i+1)) (ss.take (i+1))=C7 (ns.take i) (ss.take i)++(Bk ss[i]).map fun ps=> .mk 0 0 ns[i] ps:=by
 rw[HZ i (ns.take (i+1)) (ss.take (i+1))];rw[List.take_take,List.take_take,Ns (Nat.le_succ i)]
 congr 1
 have e1:(ns.take (i+1)).drop i=[ns[i]]:=by
  rw[List.drop_take,EJ h1,show i+1 - i=1 by omega];rfl
 have e2:(ss.take (i+1)).drop i=[ss[i]]:=by
  rw[List.drop_take,EJ h2,show i+1 - i=1 by omega];rfl
 rw[e1,e2];simp[C7]
theorem jF{ns:List Bytes}{ss:List (List Sh)}(h1:ss.length=ns.length)(h2:ns≠[])(h3:ns.length<1048577)(h4:∀ s∈ss,s.length<1048577)(hok:∀ s∈ss,∀ x∈s,Ok64 x):Ok64 (.cons ns ss):=by
 intro σ g cap M P f V con n S H v b hs hS hM hV hP;cases n with
 | zero=>exact absurd hs (fun h=>h)
 | succ n=>
  have hs0:=hs;obtain⟨id,rfl,hSid,w,es,hid,hel,hsl,hw,hrow⟩:=hs;have hwv:∀ G,Ext M H G->WV G w es:=fun G x=>by
   rcases hw with⟨rfl,_⟩ | ⟨j,hj,rfl,hj2⟩
   .exact .inr (.inl rfl)
   .exact .inr (.inr ⟨j,rfl,x.keep hj2 (hS j hj) fun _ _ e=>by cases e⟩)
  have h116:=c116 hid (hwv H (Ext.refl H));have hne:¬ (es.length=0):=by rw[hel];intro h;exact h2 (EH h)
  have heb:(es.length == 0)=false:=by simpa using hne
  have hwc:=(hwv H (Ext.refl H)).cells;have hwl:=(hwv H (Ext.refl H)).len;have hVc:∀ u∈C7 ns ss,V u:=hV;obtain⟨e,st,hlp,hq⟩:=AQ (M:=MX) (fid:=64) (N:=38) (C:=AG MX) (c:=AL f64 1) (n:=es.length)
   (fun i (c:σ×AE)=>([(1,.fn g [] cap),(27,w),(28,.int .i64 es.length),(29,.int .i64 i)],c.2))
   (fun i c=>walk f b (C7 (ns.take i) (ss.take i))=(c.1,true)/\P c.1 c.2/\Ext M H c.2)
   (fun r=>∃ c:σ×AE,(r=(.ext 2,([(1,.fn g [] cap),(27,w),(28,.int .i64 es.length),(29,.int .i64 es.length),(30,.bool false)],c.2))/\walk f b (C7 ns ss)=(c.1,true)/\P c.1 c.2/\Ext M H c.2)\/(r=(.ret,([(4,.bool false)],c.2))/\walk f b (C7 ns ss)=(c.1,false)/\P c.1 c.2/\Ext M H c.2)) (fun i c hi hI=>by
     obtain⟨b',H1⟩:=c;obtain⟨i1,i2,i3⟩:=hI;simp only at i1 i2 i3;have hi':=Aa hi;have hwr:=AZ hi (show es.length<1048577 by omega);have hin:i<ns.length:=(by omega);have his:i<ss.length:=(by omega);obtain⟨pv,he,hpt⟩:=hrow i es[i] ns[i] ss[i] (AO hi) (AO hin) (AO his);have hpt1:=hpt.ext i3 hS;obtain⟨_,_,hpc⟩:=hpt.len;obtain⟨p,hix,hrd⟩:=(hwv H1 i3).row hi;have hrd0:=hrd [];rw[Hg,he]at hrd0;have hX:Ext NoM H1 (H1++[.var false [.str ns[i],pv]]):=Ext.app _ _;have hmem:=An his;have hsub:∀ ps∈Bk ss[i],V (.mk 0 0 ns[i] ps):=fun ps hps=>hVc _ (by
      rw[HZ (i+1) ns ss,Ow hin his];simp only[H6,E3];exact .inl (.inr ⟨ps,hps,rfl⟩))
     obtain⟨H2,c1,c2,c3⟩:=c117 (hok _ hmem) (h4 _ hmem) ns[i] con hS ss[i].length (H1++[.var false [.str ns[i],pv]]) pv [] .AI b' (by simp) (hpt1.ext hX (fun x _ h=>h)) (.inl ⟨rfl,rfl⟩) (fun x hx=>by have:=hM x hx;have:=i3.len;simp;omega) (by simpa using hsub) (con.keep b' H1 _ i2 hX);have hseg:((Bk (ss[i].drop ([]:List TyV).length)).map fun ps=>TyV.mk 0 0 ns[i] ([]++ps))=(Bk ss[i]).map fun ps=> .mk 0 0 ns[i] ps:=rfl
     rw[hseg]at c1 c2;have hnext:walk f b (C7 (ns.take (i+1)) (ss.take (i+1)))=walk f b' ((Bk ss[i]).map fun ps=> .mk 0 0 ns[i] ps):=by
      rw[Ow hin his,I9,i1];rfl
     have hx':=i3.trans (hX.any.trans c3);cases hf:(walk f b' ((Bk ss[i]).map fun ps=>TyV.mk 0 0 ns[i] ps)).2 with
     | true=>
      rw[hf]at c1;exact .inl ⟨((walk f b' ((Bk ss[i]).map fun ps=>TyV.mk 0 0 ns[i] ps)).1,H2),by simp[f64,hi',hix,hrd0,hpc,c1,hwr,bsA,Ag,List.replicate],by rw[hnext,<- hf],c2,hx'⟩
     | false=>
      rw[hf]at c1;have hst:=Ue (show walk f b (C7 (ns.take (i+1)) (ss.take (i+1)))=((walk f b' ((Bk ss[i]).map fun ps=>TyV.mk 0 0 ns[i] ps)).1,false) by rw[hnext,<- hf]) (C7 (ns.drop (i+1)) (ss.drop (i+1)));rw[<- HZ]at hst;exact .inr ⟨_,_,by simp[f64,hi',hix,hrd0,hpc,c1,bsA,Ag,List.replicate] <;> first | exact⟨rfl,rfl⟩ | rfl,by simp,((walk f b' ((Bk ss[i]).map fun ps=>TyV.mk 0 0 ns[i] ps)).1,H2),.inr ⟨rfl,hst,c2,hx'⟩⟩) (fun c hI=>by
     obtain⟨b',H1⟩:=c;obtain⟨i1,i2,i3⟩:=hI;simp only at i1 i2 i3;rw[DU (by omega),DU (by omega)]at i1;exact⟨_,_,by simp[f64] <;> first | exact⟨rfl,rfl⟩ | rfl,by simp,(b',H1),.inl ⟨rfl,i1,i2,i3⟩⟩) (b,H) ⟨by simp[C7,walk],hP,Ext.refl H⟩
  simp[f64]at hlp;rw[heb]at h116;have hall:Cw (.cons ns ss)=C7 ns ss:=by simp[Cw]
  rw[hall];obtain⟨⟨b',H1⟩,hq⟩:=hq;rcases hq with⟨hq,hz,g2,g3⟩ | ⟨hq,hz,g2,g3⟩ <;> cases hq <;> rw[hz] <;>
   exact⟨H1,CU U9 YX (by simp[AJ,f64,h116,hid,hwc,hwl,hlp]),g2,g3⟩
theorem c64{s:Sh}(h:ShW s):Ok64 s:=by
 induction h with
 | bit m h0 h1=>
  intro σ g cap M P f V con n S H v b hs hS hM hV hP;exact jD con hs h0 h1 hS hV hP
 | cons ns ss h1 h2 h3 h4 h5 h6 h7 ih=>exact jF h1 h2 h3 h4 ih
end
section
theorem S5{l:List AK}{params:List Bytes}:∀(r prev:List CZ),Fh l params prev r=0->(r.map (·.nm)).Nodup/\∀ c∈r,∀ g∈prev,g.nm≠c.nm
 | [],_,_=>⟨List.nodup_nil,fun f hf=>by cases hf⟩
 | c::r,prev,h=>by
  simp only[Fh]at h;split at h
  .cases h
  .split at h
   .cases h
   .split at h
    .cases h
    .rename_i h0;split at h
     .cases h
     .split at h
      .cases h
      .split at h
       .obtain⟨g1,g2⟩:=S5 r _ h;have hc:∀ g∈prev,g.nm≠c.nm:=fun g hg e=>by
         apply h0;rw[Nj,List.any_eq_true];exact⟨g,hg,by simp[e]⟩
        refine⟨?_,fun d hd => ?_⟩
        .rw[Hj,Me];refine⟨fun hm => ?_,g1⟩;obtain⟨d,hd,e⟩:=E3.1 hm;exact g2 d hd c (by simp) e.symm
        .rcases CF.1 hd with rfl | hd
         .exact hc
         .exact fun g hg=>g2 d hd g (by simp[hg])
       .rename_i h3;exact absurd h h3
theorem aR{l:List AK}(h:(A0 l).2=0):∀ d∈l,(d.cons.map (·.nm)).Nodup:=by
 intro d hd;have h1:∃ pre,Bj d pre=0:=by
  unfold A0 at h;split at h
  .cases h
  .obtain⟨pre,post,e,he⟩:=I4 l [] h d hd;exact⟨pre,he⟩
 obtain⟨pre,h1⟩:=h1;have h2:Fh pre d.params [] d.cons=0:=by
  unfold Bj at h1
  repeat (split at h1;first | cases h1 | skip)
  .exact h1
  .rename_i h3;exact absurd h1 h3
 exact(S5 _ _ h2).1
theorem XQ{l:List AK}(h:(A0 l).2=0)(t:TyV):((AN l t).map (·.nm)).Nodup:=by
 unfold AN;split
 .simp only[Hj,List.map_nil];decide
 .split
  .rename_i i hi;have hil:=Gh hi;have hg:l.getD i default=l[i]:=(by simp[hil]);rw[hg,List.map_map];exact aR h _ (An hil)
  .exact List.nodup_nil
theorem Uf{l:List AK}(h:(A0 l).2=0)(hsl:SmL 1048577 l){t:TyV}{s:Sh}(hs:DT l t s):VT l t->Sm 1048577 t->ShW s:=by
 have hd:=He h;induction hs with
 | bit t hb hw h2=>exact fun _ _=> .bit _ hw.1 hw.2
 | cons t ns ss hb hk hn hl hsp hf ih=>
  intro hv hst;obtain⟨c1,c2,c3⟩:=hd.con t hv hk hb;have hsm:=F3 hsl hst (by decide);have hlen:ns.length=(AN l t).length:=by rw[hn,FB]
  refine .cons ns ss (hl.trans hlen.symm) (fun e=>c2 (EH (by rw[<- hlen,e];rfl))) (by omega) (fun s hs => ?_) (fun s hs x hx => ?_) (by rw[hn];exact XQ h t) (fun n hnm => ?_)
  .obtain⟨i,hi,rfl⟩:=Gt hs;rw[hsp i _ _ (AO (by omega)) (AO hi)];have:=c3 _ (An (show i<(AN l t).length by omega));omega
  .obtain⟨i,hi,rfl⟩:=Gt hs;obtain⟨j,hj,rfl⟩:=Gt hx;have hci:=AO (l:=AN l t) (i:=i) (by omega);have hfl:=hsp i _ _ hci (AO hi);have hfj:=AO (l:=((AN l t)[i]'(by omega)).fields) (i:=j) (by omega);have hcm:=An (show i<(AN l t).length by omega);have hfm:=Bs hfj;exact ih i _ _ j _ _ hci (AO hi) hfj (AO hj) (hd.dok.fld t hv hk hb _ hcm _ hfm) ((hsm.2 _ hcm).2.2 _ hfm).2
  .rw[hn]at hnm;obtain⟨c,hc,rfl⟩:=E3.1 hnm;exact(hsm.2 c hc).1
theorem JA:∀(xs:List Sh) (ps:List TyV),ps∈Bk xs->ps.length=xs.length/\∀(j:Nat) x p,xs[j]? = some x->ps[j]? = some p->p∈Cw x
 | [],ps,h=>by
  simp[Bk]at h;subst h;exact⟨rfl,fun j x p h=>by simp at h⟩
 | x::r,ps,h=>by
  simp only[Bk,List.mem_flatMap,E3]at h;obtain⟨v,hv,qs,hq,rfl⟩:=h;obtain⟨h1,h2⟩:=JA r qs hq;refine⟨by simp[h1],fun j y p a b => ?_⟩;cases j with
  | zero=>simp at a b;subst a;subst b;exact hv
  | succ j=>exact h2 j y p (by simpa using a) (by simpa using b)
theorem Kr:∀(ns:List Bytes) (ss:List (List Sh)) (u:TyV),ss.length=ns.length->u∈C7 ns ss->∃ i,∃(h1:i<ns.length) (h2:i<ss.length),∃ ps∈Bk ss[i],u=.mk 0 0 ns[i] ps
 | _,[],u,_,h=>by simp[C7]at h
 | [],_::_,u,h,_=>by simp at h
 | n::ns,s::ss,u,hl,h=>by
  simp only[C7,Ll,Lo,H6,E3]at h;rcases h with⟨ps,hps,rfl⟩ | h
  .exact⟨0,by simp,by simp,ps,hps,rfl⟩
  .obtain⟨i,h1,h2,ps,hps,rfl⟩:=Kr ns ss u (by simpa using hl) h;exact⟨i+1,by simpa using h1,by simpa using h2,ps,by simpa using hps,by simp⟩
theorem RB{s:Sh}(h:ShW s):∀ u∈Cw s,GM s u=0/\Sm 1048577 u/\u.k=0:=by
 induction h with
 | bit m h0 h1=>
  intro u hu;simp only[Cw,E3,Ia]at hu;obtain⟨i,hi,rfl⟩:=hu;refine⟨?_,.mk _ _ _ _ (by decide) (by decide) (fun p hp=>by cases hp),rfl⟩;have hpos:0<2 ^ m.toNat:=Nat.pow_pos (by decide);simp only[GM];rw[if_pos ⟨rfl,rfl⟩,if_pos ⟨by omega,by omega⟩]
 | cons ns ss h1 h2 h3 h4 h5 h6 h7 ih=>
  intro u hu;have hu:u∈C7 ns ss:=hu;obtain⟨i,g1,g2,ps,hps,rfl⟩:=Kr ns ss u h1 hu;obtain⟨p1,p2⟩:=JA _ _ hps;have hmem:=An g2;have hfi:ns.findIdx? (fun x=>x == ns[i])=some i:=by
   rw[Gr];refine⟨g1,by simp,fun j hj => ?_⟩;simp only[Bool.not_eq_true,beq_eq_false_iff_ne];exact(Li.1 h6) j i (by omega) g1 hj
  have hgd:ss.getD i []=ss[i]:=by simp[g2]
  have hsub:∀(j:Nat) x p,ss[i][j]? = some x->ps[j]? = some p->GM x p=0/\Sm 1048577 p/\p.k=0:=fun j x p a b=>ih _ hmem x (Bs a) p (p2 j x p a b)
  refine⟨?_,.mk _ _ _ _ (h7 _ (An g1)) (by rw[p1];exact h4 _ hmem) (fun p hp => ?_),rfl⟩
  .simp only[GM,hfi,hgd];rw[if_neg (by simp),if_neg (by rw[p1];simp)];exact(LV p1).2 fun j x p a b=>(hsub j x p a b).1
  .obtain⟨j,hj,rfl⟩:=Gt hp;exact(hsub j _ _ (AO (by omega)) (AO hj)).2.1
end
section
attribute [local simp] Dc Bn Ec Dd CQ Dx Dy Ey BZ Ap Bh Av Gb FR EN HO D9 A5 FN EO HP HQ xUn FC EA FT BG DQ BH EB BI EC Ce Ca Bv BL EP Eo
 ev evs C4 DP OR.ofV OR.D4 OR.ofC Fg Tm.get Tm.init Tm.only Ay A6 Bt finish CK DS Hb D3 D7 unA Bz Bc B6 Bd Cp Cq Cr Be Cs Ct Bf Cu Cv Bg B7 AL CP Bb Cn Co Bx Ez E0 E1 Dz D0 Fo F7 F8 Fp stA BA DY Bo DR FD Gp B8 C1 CI FU Gq
attribute [local simp] DE CT Cb Bl DF DG DH DI DJ DK DL Ef Cg Eg Dh FW FX Gi Di Eh Dj BQ Dk BR Dl B9 Ei Ch FY FZ Fa Ci Dm Dn Fb Gj Fc Gk Gl Dp BS Cj CA Dq Dr Ck
theorem aU{H:AE}{u:TyV}{row:List AV}(hr:Fy H u row):∃ row' H',A4 u row'/\Ext NoM H H'/\H'.length=H.length/\∀(f:FuncId) (pre:List AV) (r:CR×AE),(MX.mode f).fresh=true->pre.all AV.AA=true->AH MX (AG MX) f (pre++[.agg row']) H'=some r->AH MX (AG MX) f (pre++[.agg row]) H=some r:=by
 obtain⟨row',H',a1,a2,a3,a4,a5,a6⟩:=Ov hr;have happ:∀(pre:List AV),pre.all AV.AA=true->∀(x:AV) (G:AE),Aq (pre++[x]) G=(Aq [x] G).map fun q=>(pre++q.1,q.2):=by
  intro pre;induction pre with
  | nil=>intro _ x G;cases h:Aq [x] G <;> simp[h]
  | cons a r ih=>
   intro hn x G;simp only[Hk,Ba]at hn;rw[Ej,Aq,hn.1];simp only[ih hn.2];cases h:Aq [x] G <;> simp
 refine⟨row',H',a2,a3.ext,a4,fun f pre r hm hp hc => ?_⟩;cases hn:AF row with
 | true=>
  obtain⟨rfl,rfl⟩:=a6 hn;exact hc
 | false=>
  have hs:snap C0 (.agg row) H=some (.agg row',H'):=(BC.agg hn a1).at (by decide);have hx:Aq [.agg row] H=some ([.agg row'],H'):=by
   simp only[Aq,AV.AA,hn,hs]
  refine EG hm (by rw[happ pre hp,hx];rfl) ?_ hc;rw[List.all_append,hp];simp[AV.AA,a2.AF]
abbrev tcs(k:EM)(dv pv av:AV):List AV:=[dv,.int .i64 k.ty.k,.int .i64 k.ty.v,.str k.ty.nm,pv,av]
abbrev VS(s:Sh)(u:TyV):Prop:=GM s u=0/\Sm 1048577 u/\u.k=0
theorem MP{k:EM}(hsk:SmT 1048577 k)(h:(A8 k.data k.ty k.arms).2=0):ShW (CE k.data k.ty)/\DT k.data k.ty (CE k.data k.ty)/\VT k.data k.ty/\(A0 k.data).2=0:=by
 have h1:DM k.data k.ty=0:=by
  unfold A8 at h;split at h
  .rename_i h1;exact h1
  .exact h
 obtain⟨a,b,c⟩:=GK h1;exact⟨Uf a hsk.1 c b hsk.2.1,c,b,a⟩
section
variable{k:EM}{xs:List AV}(hx:D5 k xs)(hsk:SmT 1048577 k)
include hx hsk
theorem XR(h:(A8 k.data k.ty k.arms).2=0):∀ p∈k.arms,CB (CE k.data k.ty) p=0:=fun p hp=>
 (QA ((JU h).2.2.2 p hp)).2.1
end
abbrev aV(k:EM)(u:TyV):Option Nat:=k.arms.findIdx? fun p=>C6 p u
def CV(n:Int)(xs:List AV):Prop:=xs=[.int .i64 n]
theorem Ks(n:Int)(xs:List AV)(h:CV n xs):AF xs=true:=by subst h;rfl
def zs(l:List Int)(i:Nat):List Int:=((List.range i).filter fun(j:Nat)=>l.getD j 0 == 0).map fun(j:Nat)=>(j:Int)
end
section
mutual
def shN:Sh->Nat
 | .bit _=>1
 | .cons _ ss=>1+LD ss
def LD:List (List Sh)->Nat
 | []=>0
 | s::r=>LZ s+LD r
def LZ:List Sh->Nat
 | []=>0
 | x::r=>shN x+LZ r
end
mutual
def shX:Sh->Nat
 | .bit n=>n.toNat
 | .cons _ ss=>(ME ss.length).toNat+JB ss
def JB:List (List Sh)->Nat
 | []=>0
 | s::r=>max (K4 s) (JB r)
def K4:List Sh->Nat
 | []=>0
 | x::r=>shX x+K4 r
end
theorem gG{l:List AK}{rec:Rec}(hr:∀ t c s,DT l t s->(rec t c).2=0->(rec t c).1=c+shN s):∀(fs:List DB) (ss:List Sh) c,ss.length=fs.length->(∀(j:Nat) f y,fs[j]? = some f->ss[j]? = some y->DT l f.ty y)->(eFs rec fs c).2=0->(eFs rec fs c).1=c+LZ ss
 | [],[],c,_,_,_=>by simp[eFs,LZ]
 | f::r,x::ss,c,hl,hs,h=>by
  simp only[eFs]at h ⊢;split at h
  .rename_i hz;rw[if_pos hz];have h1:=hr f.ty c x (hs 0 _ _ rfl rfl) hz;rw[gG hr r ss _ (by simpa using hl) (fun j f y a b=>hs (j+1) f y (by simpa using a) (by simpa using b)) h,h1];simp only[LZ];omega
  .rename_i hz;exact absurd h hz
 | [],_::_,_,h,_,_=>by simp at h
 | _::_,[],_,h,_,_=>by simp at h
theorem gH{l:List AK}{rec:Rec}(hr:∀ t c s,DT l t s->(rec t c).2=0->(rec t c).1=c+shN s):∀(cs:List CZ) (ss:List (List Sh)) c,ss.length=cs.length->(∀(i:Nat) k s,cs[i]? = some k->ss[i]? = some s->s.length=k.fields.length/\∀(j:Nat) f y,k.fields[j]? = some f->s[j]? = some y->DT l f.ty y)->(eCs rec cs c).2=0->(eCs rec cs c).1=c+LD ss
 | [],[],c,_,_,_=>by simp[eCs,LD]
 | k::r,s::ss,c,hl,hs,h=>by
  simp only[eCs]at h ⊢;split at h
  .rename_i hz;rw[if_pos hz];obtain⟨a1,a2⟩:=hs 0 _ _ rfl rfl;have h1:=gG hr k.fields s c a1 a2 hz;rw[gH hr r ss _ (by simpa using hl) (fun i k s a b=>hs (i+1) k s (by simpa using a) (by simpa using b)) h,h1];simp only[LD];omega
  .rename_i hz;exact absurd h hz
 | [],_::_,_,h,_,_=>by simp at h
 | _::_,[],_,h,_,_=>by simp at h
theorem V3{l:List AK}{r:Option Rec}(hr:∀ rec,r=some rec->∀ t c s,DT l t s->(rec t c).2=0->(rec t c).1=c+shN s)(t:TyV)(c:Int)(s:Sh)(hs:DT l t s)(h:(EF l r t c).2=0):(EF l r t c).1=c+shN s:=by
 unfold EF at h ⊢;split at h
 .cases h
 rename_i g1;rw[if_neg g1];split at h
 .cases h
 rename_i g2;rw[if_neg g2];split at h
 .cases h
 rename_i g3;rw[if_neg g3];split at h
 .cases h
 rename_i g4;rw[if_neg g4];split at h
 .cases h
 rename_i g5;rw[if_neg g5];cases r with
 | none=>cases h
 | some rec=>
  simp only at h ⊢;cases hs with
  | bit _ hb hw h2=>rw[if_pos hb];simp[shN]
  | cons _ ns ss hb hk hn hl h3 hf=>
   have hbn:¬ (EV t=true):=(by rw[hb];decide);rw[if_neg hbn]at h ⊢;rw[gH (hr rec rfl) _ ss _ hl (fun i k s a b=>⟨h3 i k s a b,fun j f y d e=>hf i k s j f y a b d e⟩) h];simp only[shN];omega
theorem Ug(l:List AK):∀ n t c s,DT l t s->(EX l n t c).2=0->(EX l n t c).1=c+shN s
 | 0=>fun t c s hs h=>V3 (fun rec h=>by cases h) t c s hs h
 | n+1=>fun t c s hs h=>V3 (fun rec h=>by cases h;exact Ug l n) t c s hs h
theorem V4(n:Nat):0<=ME n/\ME n<=4:=by
 unfold ME
 repeat (split;first | exact⟨by decide,by decide⟩ | skip)
 exact⟨by decide,by decide⟩
theorem V5:∀(ss:List Sh) (a:Int),0<=a->(∀ x∈ss,shW x=shX x)->a+K4 ss<9223372036854775808->G9 ss a=a+K4 ss
 | [],a,_,_,_=>by simp[G9,K4]
 | x::r,a,h0,hs,hb=>by
  simp only[K4]at hb ⊢;have hx:=hs x (by simp);have hw:NI a (shW x)=a+shX x:=by
   rw[hx];exact BU (by omega) (by omega)
  simp only[G9,hw];rw[V5 r _ (by omega) (fun y hy=>hs y (by simp[hy])) (by omega)];omega
theorem S6:∀(ss:List (List Sh)) (m:Int),0<=m->(∀ s∈ss,G9 s 0=K4 s)->Fl ss m=max m (JB ss)
 | [],m,h0,_=>by simp only[Fl,JB];omega
 | s::r,m,h0,hs=>by
  have hx:=hs s (by simp);simp only[Fl,JB,hx];rw[S6 r _ (by split <;> omega) (fun y hy=>hs y (by simp[hy]))];split <;> omega
theorem S7{x:Sh}:∀{r:List Sh},x∈r->shN x<=LZ r
 | y::r,h=>by
  simp only[LZ];rcases CF.1 h with rfl | h
  .omega
  .have:=S7 h;omega
theorem Mt{s:List Sh}:∀{r:List (List Sh)},s∈r->LZ s<=LD r
 | y::r,h=>by
  simp only[LD];rcases CF.1 h with rfl | h
  .omega
  .have:=Mt h;omega
theorem Nd:∀{r:List Sh},(∀ x∈r,shX x<=16 * shN x)->K4 r<=16 * LZ r
 | [],_=>by simp[K4,LZ]
 | y::r,h=>by
  simp only[K4,LZ];have h1:=h y (by simp);have h2:=Nd (r:=r) (fun x hx=>h x (by simp[hx]));omega
theorem Ox:∀{r:List (List Sh)},(∀ s∈r,K4 s<=16 * LZ s)->JB r<=16 * LD r
 | [],_=>by simp[JB,LD]
 | y::r,h=>by
  simp only[JB,LD];have h1:=h y (by simp);have h2:=Ox (r:=r) (fun x hx=>h x (by simp[hx]));omega
theorem aW{s:Sh}(h:ShW s):shX s<=16 * shN s:=by
 induction h with
 | bit m h0 h1=>simp only[shX,shN];omega
 | cons ns ss h1 h2 h3 h4 h5 h6 h7 ih=>
  simp only[shX,shN];have:=V4 ss.length;have:=Ox (r:=ss) fun s hs=>Nd fun x hx=>ih s hs x hx
  omega
theorem jG{s:Sh}(h:ShW s)(hb:shN s<=1000):shW s=shX s:=by
 induction h with
 | bit m h0 h1=>simp only[shW,shX];omega
 | cons ns ss h1 h2 h3 h4 h5 h6 h7 ih=>
  simp only[shN]at hb;have hs:∀ s∈ss,G9 s 0=K4 s:=fun s hs=>by
   have hl:=Mt hs;rw[V5 s 0 (by decide) (fun x hx=>ih s hs x hx (by have:=S7 hx;omega)) (by have:=Nd (r:=s) fun x hx=>aW (h5 s hs x hx);omega)];omega
  have hr:=S6 ss 0 (by decide) hs;have hx:=Ox (r:=ss) fun s hs=>Nd fun x hx=>aW (h5 s hs x hx)
  have ht:=V4 ss.length;simp only[shW,shX,hr];have:max (0:Int) (JB ss)=JB ss:=by omega
  rw[this];unfold NI;rw[BU (by omega) (by omega)];omega
theorem F4(x:Sh)(r:List Sh):(Bk (x::r)).length=(Cw x).length * (Bk r).length:=by
 simp only[Bk,List.length_flatMap,FB];induction Cw x with
 | nil=>simp
 | cons a t ih=>simp only[Hj,List.sum_cons,DC,ih,GI];omega
theorem JV(ns:List Bytes)(s:List Sh)(r:List (List Sh)):(C7 ns (s::r)).length=(Bk s).length+(C7 ns.tail r).length:=by
 simp[C7]
theorem Oy(m:Int):(Cw (.bit m)).length=2 ^ m.toNat:=by simp[Cw]
theorem S8:∀(ps:List Sh),(∀ x∈ps,(Cw x).length<=2 ^ shX x)->(Bk ps).length<=2 ^ K4 ps
 | [],_=>by simp[Bk,K4]
 | x::r,h=>by
  rw[F4];simp only[K4,Nat.pow_add];exact Lm (h x (by simp)) (S8 r fun y hy=>h y (by simp[hy]))
theorem S9:∀(ss:List (List Sh)) (ns:List Bytes) (m:Nat),(∀ s∈ss,(Bk s).length<=2 ^ m)->(C7 ns ss).length<=ss.length * 2 ^ m
 | [],ns,m,_=>by simp[C7]
 | s::r,ns,m,h=>by
  rw[JV];have h1:=h s (by simp);have h2:=S9 r ns.tail m fun y hy=>h y (by simp[hy])
  simp only[DC,GI];omega
theorem QD{s:List Sh}:∀{r:List (List Sh)},s∈r->K4 s<=JB r
 | y::r,h=>by
  simp only[JB];rcases CF.1 h with rfl | h
  .omega
  .have:=QD h;omega
theorem eV(n:Nat)(h:n<=16):n<=2 ^ (ME n).toNat:=by
 have:∀ m:Fin 17,m.1<=2 ^ (ME m.1).toNat:=by decide
 exact this ⟨n,by omega⟩
inductive aX:Sh->Prop
 | bit (m:Int):aX (.bit m)
 | cons (ns:List Bytes) (ss:List (List Sh)) (h1:ss.length<=16) (h2:∀ s∈ss,∀ x∈s,aX x):aX (.cons ns ss)
theorem eW{s:Sh}(h:aX s):(Cw s).length<=2 ^ shX s:=by
 induction h with
 | bit m=>rw[Oy];exact Cd _
 | cons ns ss h1 h2 ih=>
  have h3:=S9 ss ns (JB ss) fun s hs=>Cz (S8 s fun x hx=>ih s hs x hx) (Lj (by decide) (QD hs))
  simp only[Cw,shX,Nat.pow_add];exact Cz h3 (GF _ (eV _ h1))
theorem eX{l:List AK}(hd:DV l){t:TyV}{s:Sh}(hs:DT l t s):VT l t->aX s:=by
 induction hs with
 | bit t hb hw h2=>exact fun _=> .bit _
 | cons t ns ss hb hk hn hl hsp hf ih=>
  intro hv;obtain⟨c1,c2,c3⟩:=hd.con t hv hk hb;refine .cons _ _ (by omega) fun s hs x hx => ?_
  obtain⟨i,hi,rfl⟩:=Gt hs;obtain⟨j,hj,rfl⟩:=Gt hx;have hci:=AO (l:=AN l t) (i:=i) (by omega);have hfl:=hsp i _ _ hci (AO hi);have hfj:=AO (l:=((AN l t)[i]'(by omega)).fields) (i:=j) (by omega);exact ih i _ _ j _ _ hci (AO hi) hfj (AO hj) (hd.dok.fld t hv hk hb _ (An _) _ (Bs hfj))
theorem Kt{l:List AK}{t:TyV}(hsl:SmL 1048577 l)(hst:Sm 1048577 t)(h:DM l t=0):(Cw (CE l t)).length<=65536:=by
 obtain⟨a,b,c⟩:=GK h;have hw:=Uf a hsl c b hst;have h16:=eX (He a) c b;unfold DM at h;rw[if_pos a]at h;unfold Fw at h;split at h
 .split at h
  .rename_i hz;split at h
   .rename_i hr;have hN:=Ug l 40 t 0 _ c hz;have hR:=(IL l 40 t 0 (by decide) (by decide)).2.2 hz;have hX:=jG hw (by omega);have hle:=eW h16;refine Cz hle ?_;exact Cz (Lj (by decide) (show shX (CE l t)<=16 by omega)) (by decide)
   .cases h
  .rename_i hz;exact absurd h hz
 .rename_i hz;exact absurd h hz
end
section
attribute [local simp] Dc Bn Ec Dd CQ Dx Dy Ey BZ Ap Bh Av Gb FR EN HO D9 A5 FN EO HP HQ xUn FC EA FT BG DQ BH EB BI EC Ce Ca Bv BL EP Eo
 ev evs C4 DP OR.ofV OR.D4 OR.ofC Fg Tm.get Tm.init Tm.only Ay A6 Bt finish CK DS Hb D3 D7 unA Bz Bc B6 Bd Cp Cq Cr Be Cs Ct Bf Cu Cv Bg B7 AL CP Bb Cn Co Bx Ez E0 E1 Dz D0 Fo F7 F8 Fp stA BA DY Bo DR FD Gp B8 C1 CI FU Gq
attribute [local simp] DE CT Cb Bl DF DG DH DI DJ DK DL Ef Cg Eg Dh FW FX Gi Di Eh Dj BQ Dk BR Dl B9 Ei Ch FY FZ Fa Ci Dm Dn Fb Gj Fc Gk Gl Dp BS Cj CA Dq Dr Ck
theorem RC(n:Int):wr .i64 n=n.bmod 18446744073709551616:=by
 rw[Int.bmod_def];have e:(((18446744073709551616:Nat):Int)+1) / 2=9223372036854775808:=by decide
 have e2:((18446744073709551616:Nat):Int)=18446744073709551616:=rfl;rw[e,e2];show(match decide (0<=n/\n<9223372036854775808)with
  | true=>n
  | false=>match decide (n % 18446744073709551616<9223372036854775808)with
   | true=>n % 18446744073709551616
   | false=>n % 18446744073709551616 - 18446744073709551616)=_
 by_cases h:0<=n/\n<9223372036854775808
 .rw[decide_eq_true h];have:n % 18446744073709551616=n:=Int.emod_eq_of_lt h.1 (by omega);rw[this,if_pos h.2]
 .rw[decide_eq_false h];by_cases h2:n % 18446744073709551616<9223372036854775808
  .rw[decide_eq_true h2,if_pos h2]
  .rw[decide_eq_false h2,if_neg h2]
theorem eY(p q:Nat):wr .i64 (wr .i64 (p:Int) * wr .i64 (q:Int))=wr .i64 ((p * q:Nat):Int):=by
 simp only[RC,Int.bmod_mul_bmod,Int.mul_bmod_bmod,Int.natCast_mul]
theorem eZ(p q:Nat):wr .i64 (wr .i64 (p:Int)+wr .i64 (q:Int))=wr .i64 ((p+q:Nat):Int):=by
 simp only[RC,Int.bmod_add_bmod,Int.add_bmod_bmod,Int.natCast_add]
theorem IV{n:Nat}(h:n<9223372036854775808):wr .i64 (n:Int)=n:=BU (by omega) (by omega)
abbrev cn(s:Sh):Nat:=(Cw s).length
abbrev cnP(ps:List Sh):Nat:=(Bk ps).length
def cnC:List (List Sh)->Nat
 | []=>0
 | s::r=>cnP s+cnC r
theorem RD:∀(ss:List (List Sh)) (ns:List Bytes),(C7 ns ss).length=cnC ss
 | [],ns=>by simp[C7,cnC]
 | s::r,ns=>by rw[JV,RD r];rfl
theorem aY{s:List Sh}{j:Nat}(hj:j<s.length):cnP (s.drop j)=cn s[j] * cnP (s.drop (j+1)):=by
 rw[EJ hj];exact F4 _ _
theorem TA{ss:List (List Sh)}{j:Nat}(hj:j<ss.length):cnC (ss.drop j)=cnP ss[j]+cnC (ss.drop (j+1)):=by
 rw[EJ hj];rfl
section
variable{l:List AK}{lv:AV}(hl:SlR Ah 3 l lv)(hsl:SmL 1048577 l)(hok:DOK l)
include hl hsl hok
theorem c69{t:TyV}{ns:List Bytes}{ss:List (List Sh)}(hst:Sm 1048577 t)(hv:VT l t)(hs:DT l t (.cons ns ss))(ih:∀ s∈ss,∀ x∈s,∀(t:TyV) (xs:List AV),AU t xs->Sm 1048577 t->VT l t->DT l t x->∀ h,AH MX (AG MX) 21 [lv,.agg xs] h=some (.ret (.int .i64 (wr .i64 (cn x))),h))
 {i:Nat} (hi:i<(AN l t).length) (hi2:i<ss.length) {cx:List AV} (hcx:Ed (AN l t)[i] cx) (h:AE):AH MX (AG MX) 69 [lv,.agg cx] h=some (.ret (.int .i64 (wr .i64 (cnP ss[i]))),h):=by
 cases hs with
 | cons _ _ _ hb hk hnn hll hs0 hf0=>
 have hn2:([lv,AV.agg cx]:List AV).all AV.AA=true:=by simp[AV.AA,HG _ _ hcx,hl.AA]
 have hcsm:=F3 hsl hst (by decide);have hvf:=hok.fld t hv hk hb;obtain⟨fv,rfl,hfv⟩:=hcx.dest;have f1:=hs0 i _ _ (AO hi) (AO hi2);have f2:=fun j f y=>hf0 i _ _ j f y (AO hi) (AO hi2)
 have hsc:=hcsm.2 _ (An hi);obtain⟨e,st,hlp,hq⟩:=AQ (M:=MX) (fid:=69) (N:=25) (C:=AG MX) (c:=AL f69 0) (n:=(AN l t)[i].fields.length)
  (fun j (p:Nat)=>([(0,lv),(3,.hp 0 0),(5,.int .i64 (wr .i64 p)),(6,.int .i64 j)],[Blk.var false [AV.str (AN l t)[i].nm,fv]]))
  (fun j p=>cnP ss[i]=p * cnP (ss[i].drop j))
  (fun r=>r=(.ext 0,([(0,lv),(3,.hp 0 0),(5,.int .i64 (wr .i64 (cnP ss[i]))),(6,.int .i64 (AN l t)[i].fields.length),(11,.bool false)],[Blk.var false [AV.str (AN l t)[i].nm,fv]]))) (fun j p hj hJ=>by
    obtain⟨fe,hfe,hfR⟩:=hfv.ix hj;have hj':=Aa hj;have hwj:=AZ hj hsc.2.1;have hmf:=An hj;have hjs:j<ss[i].length:=(by omega);obtain⟨tx,rfl,htx⟩:=hfR;have hrec:=ih ss[i] (An hi2) ss[i][j] (An hjs) (AN l t)[i].fields[j].ty tx htx (hsc.2.2 _ hmf).2 (hvf _ (An hi) _ hmf) (f2 j _ _ (AO hj) (AO hjs));obtain⟨qv,rfl,hqv⟩:=htx.AY;rw[aY hjs]at hJ;have hm:=eY p (cn ss[i][j]);exact .inl ⟨p * cn ss[i][j],by simp only[cn]at hrec hm ⊢;simp[f69,hfv.len,hj',hfe,hrec,hwj];simpa using hm,by rw[hJ,Nat.mul_assoc]⟩) (fun p hJ=>by
    rw[Jr (by omega)]at hJ;simp only[cnP,Bk,PU,Nat.mul_one]at hJ;exact⟨_,_,by simp[f69,hfv.len] <;> first | exact⟨rfl,rfl⟩ | rfl,by simp,by simp only[cnP];rw[hJ]⟩) 1 (by simp)
 cases hq;simp[f69]at hlp;rw[show wr .i64 1=1 from rfl]at hlp;exact Ae b7 iA hn2 rfl (hr:=[Blk.var false [AV.str (AN l t)[i].nm,fv]]) (by simp[AJ,f69,hlp]) h
theorem c21(s:Sh):∀(t:TyV) (xs:List AV),AU t xs->Sm 1048577 t->VT l t->DT l t s->∀ h,AH MX (AG MX) 21 [lv,.agg xs] h=some (.ret (.int .i64 (wr .i64 (cn s))),h):=by
 induction s using Sh.ind with
 | hb n=>
  intro t xs hx hst hv hs h;have hn:([lv,AV.agg xs]:List AV).all AV.AA=true:=by simp[AV.AA,hx.AF,hl.AA]
  have hB:=c66 hx;obtain⟨pv,rfl,hp⟩:=hx.AY;cases hs with
  | bit _ hb hw=>
   have hb1:=hok.bit t hv hb;obtain⟨e,he,hR⟩:=hp.ix (i:=0) (by omega);have hag:BX t=t.ps[0]'(by omega):=(by simp[BX,hb1]);rw[<- hag]at hR;obtain⟨qv,rfl,hq⟩:=hR.AY;have h67:=c67 (BX t).v (by omega) (by omega);have hle:(2:Nat) ^ (BX t).v.toNat<=65536:=Cz (Lj (by decide) (show(BX t).v.toNat<=16 by omega)) (by decide);have hcn:wr .i64 ((cn (.bit (BX t).v):Nat):Int)=((2 ^ (BX t).v.toNat:Nat):Int):=by
    rw[cn,Oy];exact IV (by omega)
   rw[hcn];simp only[Nq]at he;exact Ae U5 YS hn rfl (hr:=[Blk.var false [AV.int .i64 t.k,AV.int .i64 t.v,AV.str t.nm,pv]]) (by simp at h67;simp[AJ,f21,hB,hb,he,h67]) h
 | hc ns ss ih=>
  intro t xs hx hst hv hs h;have h69:=fun i hi hi2 cx hcx=>c69 hl hsl hok hst hv hs ih (i:=i) hi hi2 (cx:=cx) hcx
  cases hs with
  | cons _ _ _ hb hk hnn hll hs0 hf0=>
  have hn:([lv,AV.agg xs]:List AV).all AV.AA=true:=by simp[AV.AA,hx.AF,hl.AA]
  have hB:=c66 hx;obtain⟨w,hw,h68⟩:=c68 hl hsl hx hst (hok.has t hv hk hb);have hcsm:=F3 hsl hst (by decide);obtain⟨pv,rfl,hp⟩:=hx.AY;obtain⟨e,st,hlp,hq⟩:=AQ (M:=MX) (fid:=21) (N:=34) (C:=AG MX) (c:=AL f21 0) (n:=(AN l t).length)
   (fun i (p:Nat)=>([(0,lv),(5,w),(6,.int .i64 (wr .i64 p)),(7,.int .i64 i)],[Blk.var false [AV.int .i64 t.k,AV.int .i64 t.v,AV.str t.nm,pv]]))
   (fun i p=>cnC ss=p+cnC (ss.drop i))
   (fun r=>r=(.ext 0,([(0,lv),(5,w),(6,.int .i64 (wr .i64 (cnC ss))),(7,.int .i64 (AN l t).length),(22,.bool false)],[Blk.var false [AV.int .i64 t.k,AV.int .i64 t.v,AV.str t.nm,pv]]))) (fun i p hi hI=>by
     obtain⟨ce,hce,hcR⟩:=hw.ix hi;have hi':=Aa hi;have hwi:=AZ hi hcsm.1;have hi2:i<ss.length:=(by omega);have hW:=h69 i hi hi2 ce hcR;obtain⟨fv,rfl,hfv⟩:=hcR.dest;rw[TA hi2]at hI;have hm:=eZ p (cnP ss[i]);exact .inl ⟨p+cnP ss[i],by simp only[cnP]at hW hm ⊢;simp[f21,hw.len,hi',hce,hW,hwi];simpa using hm,by rw[hI,Ju]⟩) (fun p hI=>by
     rw[Jr (by omega)]at hI;simp only[cnC,HL]at hI;exact⟨_,_,by simp[f21,hw.len] <;> first | exact⟨rfl,rfl⟩ | rfl,by simp,by rw[hI]⟩) 0 (by simp)
  cases hq;simp[f21]at hlp;rw[show wr .i64 0=0 from rfl]at hlp;have hcn:cn (.cons ns ss)=cnC ss:=by simp only[cn,Cw,RD]
  rw[hcn];exact Ae U5 YS hn rfl (hr:=[Blk.var false [AV.int .i64 t.k,AV.int .i64 t.v,AV.str t.nm,pv]]) (by simp[AJ,f21,hB,hb,h68,hlp]) h
end
theorem c13{k:EM}{xs:List AV}(hx:D5 k xs)(hsk:SmT 1048577 k)(hE:(A8 k.data k.ty k.arms).2=0)(h:AE):AH MX (AG MX) 13 [.agg xs] h=some (.ret (.bool (decide (cn (CE k.data k.ty)<=300))),h):=by
 have h1:DM k.data k.ty=0:=(JU hE).1;obtain⟨a,b,c⟩:=GK h1;have hle:=Kt hsk.1 hsk.2.1 h1;have hxn:AF xs=true:=by obtain⟨dv,pv,av,rfl,hd,hp,ht,ha⟩:=hx.dest;simp[AV.AA,AF,hd.AA,hp.AA,ha.AA]
 obtain⟨dv,pv,av,rfl,hd,hp,ht,ha⟩:=hx.dest;have h21:=c21 hd hsk.1 (He a).dok _ k.ty _ ht hsk.2.1 b c;rw[IV (show cn (CE k.data k.ty)<9223372036854775808 by simp only[cn];omega)]at h21;have hdec:decide (((cn (CE k.data k.ty):Nat):Int)<=300)=decide (cn (CE k.data k.ty)<=300):=by
  rw[decide_eq_decide];omega
 rw[<- hdec];exact Ae bn gl (by simp[AV.AA,hxn]) rfl (hr:=_) (by simp[AJ,f13,h21] <;> rfl) h
theorem ms_32(n:Nat)(hn:n<1048577)(h:AE):Gx MX.ty 32 (.int .i64 n) (.int .i64 n) h=some (Aw h 3 (List.replicate n [.str [],.int .i64 0,.AI])):=by
 have e1:und MX.ty 32=some (.slice 34):=by kernel_rfl
 have e2:siz MX.ty 34=3:=by kernel_rfl
 have e3:byt MX.ty 34=48:=by kernel_rfl
 have e4:EL MX.ty 34=some [.str [],.int .i64 0,.AI]:=by kernel_rfl
 have h1:(n:Int)<17592186044416:=by omega
 have h2:48 * (n:Int)<=17592186044416:=by omega
 unfold Gx;simp only[e1,Am.intOf,e2,e3,e4];simp[Aw,h1,h2]
theorem ShW.pos{s:Sh}(h:ShW s):0<cn s:=by
 induction h with
 | bit m h0 h1=>rw[cn,Oy];exact Nat.pow_pos (by decide)
 | cons ns ss h1 h2 h3 h4 h5 h6 h7 ih=>
  have hp:∀(r:List Sh),(∀ x∈r,0<cn x)->0<cnP r:=by
   intro r;induction r with
   | nil=>intro _;simp[cnP,Bk]
   | cons x r ihr=>
    intro hr;rw[cnP,F4];exact Nat.mul_pos (hr x (by simp)) (ihr fun y hy=>hr y (by simp[hy]))
  cases ss with
  | nil=>exact absurd (EH (by simpa using h1.symm)) h2
  | cons s r=>
   have h8:cn (.cons ns (s::r))=cnP s+(C7 ns.tail r).length:=(by simp only[cn,Cw,JV]);rw[h8];have:=hp s fun x hx=>ih s (by simp) x hx
   omega
theorem V6{r:List Sh}(h:∀ x∈r,ShW x):0<cnP r:=by
 induction r with
 | nil=>simp[cnP,Bk]
 | cons x r ih=>
  rw[cnP,F4];exact Nat.mul_pos (h x (by simp)).pos (ih fun y hy=>h y (by simp[hy]))
theorem RE{s:List Sh}:∀{r:List (List Sh)},s∈r->cnP s<=cnC r
 | y::r,h=>by
  simp only[cnC];rcases CF.1 h with rfl | h
  .omega
  .have:=RE h;omega
theorem RF{x:Sh}:∀{r:List Sh},(∀ y∈r,ShW y)->x∈r->cn x<=cnP r
 | y::r,hw,h=>by
  rw[cnP,F4];rcases CF.1 h with rfl | h
  .exact Nat.le_mul_of_pos_right _ (V6 fun y hy=>hw y (by simp[hy]))
  .exact Cz (RF (fun y hy=>hw y (by simp[hy])) h) (Nat.le_mul_of_pos_left _ (hw y (by simp)).pos)
theorem XS(x:Sh)(r:List Sh)(m:Nat)(h:m<cn x * cnP r):∃(h1:m / cnP r<cn x) (h2:m % cnP r<cnP r),(Bk (x::r))[m]? = some ((Cw x)[m / cnP r]::(Bk r)[m % cnP r]):=by
 have hp:0<cnP r:=by
  rcases Nat.eq_zero_or_pos (cnP r)with h0 | h0
  .rw[h0,Nat.mul_zero]at h;omega
  .exact h0
 have h1:m / cnP r<cn x:=Nat.div_lt_of_lt_mul (by rw[Nat.mul_comm];exact h);have h2:=LH m hp;refine⟨h1,h2,?_⟩;have key:∀(L:List TyV) (m:Nat) (h:m<L.length * cnP r) (h1:m / cnP r<L.length),(L.flatMap fun v=>(Bk r).map fun ps=>v::ps)[m]? = some (L[m / cnP r]::(Bk r)[m % cnP r]'(LH m hp)):=by
  intro L;induction L with
  | nil=>intro m h;simp at h
  | cons v L ih=>
   intro m h h1;rw[List.flatMap_cons];by_cases hm:m<cnP r
   .rw[A9 (by simpa using hm)];have e1:m / cnP r=0:=Nat.div_eq_of_lt hm;have e2:m % cnP r=m:=Nat.mod_eq_of_lt hm;simp only[e1,e2,List.getElem_cons_zero,Fe,AO hm,FM]
   .have hm:cnP r<=m:=(by omega);rw[En (by simpa using hm)];have hl:((Bk r).map fun ps=>v::ps).length=cnP r:=(by simp);rw[hl];have hlt:m - cnP r<L.length * cnP r:=by
     rw[DC,GI]at h;omega
    have e1:(m - cnP r) / cnP r=m / cnP r - 1:=(by rw[Nat.div_eq_sub_div hp hm,Nat.add_sub_cancel]);have e2:(m - cnP r) % cnP r=m % cnP r:=(Nat.mod_eq_sub_mod hm).symm;have hd:0<m / cnP r:=Nat.div_pos hm hp;have hlt2:(m - cnP r) / cnP r<L.length:=(by rw[e1];rw[DC]at h1;omega);rw[ih (m - cnP r) hlt hlt2];simp only[e1,e2]
    congr 2
    rw[List.getElem_cons,dif_neg (by omega)]
 simp only[Bk];exact key _ m h h1
theorem MQ(x:Sh)(r:List Sh):cnP (x::r)=cn x * cnP r:=F4 x r
def dn(n i:Nat):Int:=(n:Int) - 1 - i
theorem ef{ns:List Bytes}{ss:List (List Sh)}(hl:ss.length=ns.length){i:Nat}(h1:i<ns.length)(h2:i<ss.length){m:Nat}(h:m<cnP ss[i]):(C7 (ns.drop i) (ss.drop i))[m]? = some (.mk 0 0 ns[i] ((Bk ss[i])[m]'h)):=by
 have e1:ns.drop i=ns[i]::ns.drop (i+1):=EJ h1;have e2:ss.drop i=ss[i]::ss.drop (i+1):=EJ h2;rw[e1,e2];simp only[C7,Ll,Lo];rw[A9 (by simpa using h)];simp
theorem aZ{ns:List Bytes}{ss:List (List Sh)}(hl:ss.length=ns.length){i:Nat}(h1:i<ns.length)(h2:i<ss.length){m:Nat}(h:cnP ss[i]<=m):(C7 (ns.drop i) (ss.drop i))[m]? = (C7 (ns.drop (i+1)) (ss.drop (i+1)))[m - cnP ss[i]]? := by
 have e1:ns.drop i=ns[i]::ns.drop (i+1):=EJ h1;have e2:ss.drop i=ss[i]::ss.drop (i+1):=EJ h2;rw[e1,e2];simp only[C7,Ll,Lo];rw[En (by simpa using h)];simp
structure AtI(ps:List Sh)(m:Nat)(es:List (List AV))(j:Nat):Prop where
 len:es.length=ps.length
 le:j<=ps.length
 r3:∀ e∈es,e.length=3
 rep:∀(q:List TyV),(Bk (ps.drop j))[m % cnP (ps.drop j)]? = some q->∀(i:Nat) p e,q[i]? = some p->es[j+i]? = some e->A4 p e
theorem AtI.next{ps:List Sh}(hw:∀ x∈ps,ShW x){m:Nat}{es:List (List AV)}{j:Nat}(h:AtI ps m es (j+1)){hj:j<ps.length}{row:List AV}{hlt:m / cnP (ps.drop (j+1)) % cn ps[j]<cn ps[j]}(hr:A4 ((Cw ps[j])[m / cnP (ps.drop (j+1)) % cn ps[j]]'hlt) row):AtI ps m (es.set j row) j:=by
 obtain⟨h1,h2,h4,h3⟩:=h;refine⟨by simp[h1],by omega,fun e he=>by
  rcases QM he with he | rfl
  .exact h4 e he
  .obtain⟨v,rfl,_⟩:=hr.AY;rfl,fun q hq i p e hp he => ?_⟩
 have e1:ps.drop j=ps[j]::ps.drop (j+1):=EJ hj;have hwd:∀ x∈ps.drop (j+1),ShW x:=fun x hx=>hw x (List.mem_of_mem_drop hx)
 have hP:=V6 hwd;have hc:=(hw _ (An hj)).pos;rw[e1]at hq;have hm:m % cnP (ps[j]::ps.drop (j+1))<cn ps[j] * cnP (ps.drop (j+1)):=by
  rw[MQ];exact LH _ (Nat.mul_pos hc hP)
 obtain⟨g1,g2,g3⟩:=XS ps[j] (ps.drop (j+1)) _ hm;rw[g3]at hq;simp only[AM]at hq;subst hq;have d1:m % cnP (ps[j]::ps.drop (j+1)) / cnP (ps.drop (j+1))=m / cnP (ps.drop (j+1)) % cn ps[j]:=by
  rw[MQ,Nat.mul_comm,Nat.mod_mul_right_div_self]
 have d2:m % cnP (ps[j]::ps.drop (j+1)) % cnP (ps.drop (j+1))=m % cnP (ps.drop (j+1)):=by
  rw[MQ,Nat.mod_mul_left_mod]
 cases i with
 | zero=>
  simp only[Gs,AM]at hp;rw[HL,CM (by omega)]at he;simp only[AM]at he;subst he;subst hp;simp only[d1];exact hr
 | succ i=>
  simp only[Jq]at hp;rw[BP (by omega)]at he;refine h3 _ ?_ i p e hp (by rw[<- he];congr 1;omega);rw[<- d2];exact AO _
theorem AtI.div{ps:List Sh}{m j:Nat}(hj:j<ps.length):m / cnP (ps.drop (j+1)) / cn ps[j]=m / cnP (ps.drop j):=by
 rw[Nat.div_div_eq_div_mul,EJ hj,MQ,Nat.mul_comm]
theorem jH(a b:Nat)(hb:0<b)(ha:a<9223372036854775808):wr .i64 ((a:Int).tdiv b)=((a / b:Nat):Int):=by
 rw[show(a:Int).tdiv b=((a / b:Nat):Int)from rfl];exact IV (Hf (Nat.div_le_self a b) ha)
theorem jI(a b:Nat):((a:Int).tmod b)=((a % b:Nat):Int):=rfl
theorem jJ{a b:Nat}(h:b<=a)(ha:a<9223372036854775808):wr .i64 ((a:Int) - (b:Int))=((a - b:Nat):Int):=by
 rw[show(a:Int) - (b:Int)=((a - b:Nat):Int) by omega];exact IV (by omega)
section
variable{l:List AK}{lv:AV}(hl:SlR Ah 3 l lv)(hsl:SmL 1048577 l)(hok:DOK l)
include hl hsl hok
def At25(l:List AK)(lv:AV)(x:Sh):Prop:=∀(t:TyV) (xs:List AV) (n:Nat) (hn:n<cn x),AU t xs->Sm 1048577 t->VT l t->DT l t x->∃ ys,A4 ((Cw x)[n]'hn) ys/\∀ h,AH MX (AG MX) 25 [lv,.agg xs,.int .i64 n] h=some (.ret (.agg ys),h)
theorem eg{t:TyV}{xs:List AV}(hx:AU t xs)(hst:Sm 1048577 t)(hv:VT l t){ns:List Bytes}{ss:List (List Sh)}(hs:DT l t (.cons ns ss))(hw:ShW (.cons ns ss))(hb:cn (.cons ns ss)<=65536){w:AV}(hwr:SlR Ed 2 (AN l t) w){n:Nat}(hn:n<cn (.cons ns ss))(T:AE) :
 ∃(i m:Nat) (h1:i<ns.length) (h2:i<ss.length) (h3:m<cnP ss[i]),(Cw (.cons ns ss))[n]=.mk 0 0 ns[i] ((Bk ss[i])[m]'h3)/\cnP ss[i]<=65536 /\
  E5 MX 25 83 (AG MX) (AL f25 0) ([(0,lv),(2,.int .i64 n),(6,.hp 1 0),(7,w),(8,.int .i64 (0:Nat))],T)=some (.ext 0,([(0,lv),(2,.int .i64 m),(6,.hp 1 0),(7,w),(8,.int .i64 i),(27,.bool false)],T)):=by
 have h69:=fun i hi hi2 cx hcx=>c69 hl hsl hok hst hv hs (fun s _ x _=>c21 hl hsl hok x) (i:=i) hi hi2 (cx:=cx) hcx
 have hcn:cn (.cons ns ss)=cnC ss:=by simp only[cn,Cw,RD]
 cases hw with
 | cons _ _ w1 w2 w3 w4 w5 w6 w7=>
 cases hs with
 | cons _ _ _ hb' hk hnn hll hs0 hf0=>
 have hcsm:=F3 hsl hst (by decide);have hle:∀ i (hi:i<ss.length),cnP ss[i]<=65536:=fun i hi=>by
  have:=RE (An hi);omega
 obtain⟨e,st,hlp,hq⟩:=AQ (M:=MX) (fid:=25) (N:=83) (C:=AG MX) (c:=AL f25 0) (n:=ss.length)
  (fun i (m:Nat)=>([(0,lv),(2,.int .i64 m),(6,.hp 1 0),(7,w),(8,.int .i64 i)],T))
  (fun i m=>m<cnC (ss.drop i)/\m<=n/\(C7 ns ss)[n]? = (C7 (ns.drop i) (ss.drop i))[m]?)
  (fun r=>∃(i m:Nat) (h1:i<ns.length) (h2:i<ss.length) (h3:m<cnP ss[i]),(C7 ns ss)[n]? = some (.mk 0 0 ns[i] ((Bk ss[i])[m]'h3))/\r=(.ext 0,([(0,lv),(2,.int .i64 m),(6,.hp 1 0),(7,w),(8,.int .i64 i),(27,.bool false)],T))) (fun i m hi hI=>by
    obtain⟨j1,j0,j2⟩:=hI;have hin:i<ns.length:=(by omega);have hic:i<(AN l t).length:=(by omega);obtain⟨ce,hce,hcR⟩:=hwr.ix hic;have hwi:=AZ (show i<ns.length by omega) w3;have hW:=h69 i hic hi ce hcR;have hli:=hle i hi;rw[IV (show cnP ss[i]<9223372036854775808 by omega)]at hW;obtain⟨fv,rfl,hfv⟩:=hcR.dest;by_cases hge:cnP ss[i]<=m
    .have hgi:((m:Int) ≥ (cnP ss[i]:Int)):=(by omega);have hsub:=jJ hge (show m<9223372036854775808 by omega);refine .inl ⟨m - cnP ss[i],by simp only[cnP]at hW hgi hsub ⊢;simp[f25,hce,hW,hgi,hsub,hwi],?_,by omega,by rw[j2,aZ w1 hin hi hge]⟩;rw[TA hi]at j1;omega
    .have hgi:¬ ((m:Int) ≥ (cnP ss[i]:Int)):=(by omega);refine .inr ⟨_,_,by simp only[cnP]at hW hgi ⊢;simp[f25,hce,hW,hgi] <;> first | exact⟨rfl,rfl⟩ | rfl,by simp,i,m,hin,hi,by omega,by rw[j2,ef w1 hin hi (by omega)],rfl⟩) (fun m hI=>by
    obtain⟨j1,_,_⟩:=hI;rw[Jr (Cd _)]at j1;simp[cnC]at j1) n ⟨by rw[Je,<- hcn];exact hn,Cd _,rfl⟩
 obtain⟨i,m,h1,h2,h3,h4,h5⟩:=hq;cases h5;refine⟨i,m,h1,h2,h3,?_,hle i h2,hlp⟩;have hl':n<(C7 ns ss).length:=hn;rw[AO hl']at h4;simp only[AM]at h4;simpa[Cw]using h4
end
theorem eh{n i:Nat}(hi:i<n):dn n i=((n - 1 - i:Nat):Int)/\(dn n i ≥ 0):=by
 unfold dn;constructor <;> omega
section
variable{l:List AK}{lv:AV}(hl:SlR Ah 3 l lv)(hsl:SmL 1048577 l)(hok:DOK l)
include hl hsl hok
theorem ei{t:TyV}(hst:Sm 1048577 t)(hv:VT l t){ns:List Bytes}{ss:List (List Sh)}(hs:DT l t (.cons ns ss))(hw:ShW (.cons ns ss))(ih:∀ s∈ss,∀ x∈s,At25 l lv x){w:AV}(hwr:SlR Ed 2 (AN l t) w){i:Nat}(h2:i<ss.length)(hbd:cnP ss[i]<=65536){m:Nat}(hm:m<cnP ss[i])(B0 B1:Blk) :
 ∃(es:List (List AV)) (T:AE) (z:Int),AtI ss[i] m es 0/\E5 MX 25 83 (AG MX) (AL f25 1) ([(0,lv),(2,.int .i64 m),(6,.hp 1 0),(7,w),(8,.int .i64 i),(9,.hs 2 ss[i].length 3 0 ss[i].length false),(10,.int .i64 (dn ss[i].length 0))],B0::B1::.arr 3 false (List.replicate ss[i].length [.str [],.int .i64 0,.AI])::[])=some (.ext 2,([(0,lv),(2,.int .i64 z),(6,.hp 1 0),(7,w),(8,.int .i64 i),(9,.hs 2 ss[i].length 3 0 ss[i].length false),(10,.int .i64 (-1)),(49,.bool false)],B0::B1::.arr 3 false es::T)):=by
 have hbf:=WY;simp[Ab,Az,f25]at hbf;cases hw with
 | cons _ _ w1 w2 w3 w4 w5 w6 w7=>
 cases hs with
 | cons _ _ _ hb' hk hnn hll hs0 hf0=>
 have hcsm:=F3 hsl hst (by decide);have hic:i<(AN l t).length:=by omega
 obtain⟨ce,hce,hcR⟩:=hwr.ix hic;obtain⟨fv,rfl,hfv⟩:=hcR.dest;have hvf:=hok.fld t hv hk hb';have hsc:=hcsm.2 _ (An hic);have f1:=hs0 i _ _ (AO hic) (AO h2);have f2:=fun j f y=>hf0 i _ _ j f y (AO hic) (AO h2)
 have hmem:=An h2;obtain⟨P,hP⟩:∃ P,P=ss[i]:=⟨_,rfl⟩;rw[<- hP]at f1 f2 hm hbd hmem ⊢;have hwP:=w5 P hmem;have hPl:=w4 P hmem;obtain⟨e,st,hlp,hq⟩:=AQ (M:=MX) (fid:=25) (N:=83) (C:=AG MX) (c:=AL f25 1) (n:=P.length)
  (fun q (b:List (List AV)×AE)=>([(0,lv),(2,.int .i64 ((m / cnP (P.drop (P.length - q)):Nat):Int)),(6,.hp 1 0),(7,w),(8,.int .i64 i),(9,.hs 2 P.length 3 0 P.length false),(10,.int .i64 (dn P.length q))],B0::B1::.arr 3 false b.1::b.2))
  (fun q b=>q<=P.length/\AtI P m b.1 (P.length - q))
  (fun r=>∃(b:List (List AV)×AE) (z:Int),AtI P m b.1 0/\r=(.ext 2,([(0,lv),(2,.int .i64 z),(6,.hp 1 0),(7,w),(8,.int .i64 i),(9,.hs 2 P.length 3 0 P.length false),(10,.int .i64 (-1)),(49,.bool false)],B0::B1::.arr 3 false b.1::b.2))) (fun q b hq hI=>by
    obtain⟨es,T⟩:=b;obtain⟨j0,j1⟩:=hI;simp only at j1;obtain⟨d1,d2⟩:=eh hq;obtain⟨j,hj⟩:∃ j,j=P.length - 1 - q:=⟨_,rfl⟩;rw[<- hj]at d1;have e1:P.length - q=j+1:=(by omega);have e2:P.length - (q+1)=j:=(by omega);have hjP:j<P.length:=(by omega);rw[e1]at j1;simp only[e1,e2];have hjf:j<(AN l t)[i].fields.length:=(by omega);obtain⟨fe,hfe,hfR⟩:=hfv.ix hjf;obtain⟨tx,rfl,htx⟩:=hfR;have hmf:=An hjf;have hsh:=f2 j _ _ (AO hjf) (AO hjP);have hvt:=hvf _ (An hic) _ hmf;have hsf:=(hsc.2.2 _ hmf).2;have hpos:=(hwP _ (An hjP)).pos;have hcle:cn P[j]<=65536:=Cz (RF hwP (An hjP)) hbd;have h21:=c21 hl hsl hok P[j] _ tx htx hsf hvt hsh;rw[IV (show cn P[j]<9223372036854775808 by omega)]at h21;have hlt:m / cnP (P.drop (j+1)) % cn P[j]<cn P[j]:=LH _ hpos;obtain⟨ys,hys,h25⟩:=ih P hmem P[j] (An hjP) _ tx _ hlt htx hsf hvt hsh;have hnx:=AtI.next hwP j1 (hj:=hjP) hys;obtain⟨u,hu⟩:∃ u,u=(Cw P[j])[m / cnP (P.drop (j+1)) % cn P[j]]'hlt:=⟨_,rfl⟩;rw[<- hu]at hys;obtain⟨yv,rfl,hyv⟩:=hys.AY;have hmle:m / cnP (P.drop (j+1))<=m:=Nat.div_le_self _ _;have hdv:=jH (m / cnP (P.drop (j+1))) (cn P[j]) hpos (by omega);rw[AtI.div hjP]at hdv;have hmd:=jI (m / cnP (P.drop (j+1))) (cn P[j]);have hne:¬ (cn P[j]=0):=(by omega);obtain⟨c,hc⟩:∃ c,c=cn P[j]:=⟨_,rfl⟩;obtain⟨D,hD⟩:∃ D,D=m / cnP (P.drop (j+1)):=⟨_,rfl⟩;obtain⟨D',hD'⟩:∃ D',D'=m / cnP (P.drop j):=⟨_,rfl⟩;rw[<- hc]at hne hmd hdv h21 h25;rw[<- hD]at hmd hdv h25 ⊢;rw[<- hD']at hdv ⊢;simp only[Int.natCast_emod]at h25;simp at hdv;have hix:ixA 3 (.hs 2 P.length 3 0 P.length false) (.int .i64 (j:Int))=some (.ep 2 P.length 3 j 0):=by
     rw[ED (kd:=.i64) (hi:=hjP),DW]
    have hel:es.length=P.length:=j1.len;have hej:∃ r,es[j]? = some r/\r.length=3:=⟨_,AO (show j<es.length by omega),j1.r3 _ (An _)⟩;obtain⟨r,her,hrl⟩:=hej;obtain⟨a1,a2,a3,rfl⟩:∃ a1 a2 a3,r=[a1,a2,a3]:=by
     match r,hrl with
     | [a1,a2,a3],_=>exact⟨a1,a2,a3,rfl⟩
    have hwd:wr .i64 ((j:Int) - 1)=dn P.length (q+1):=by
     rw[show(j:Int) - 1=dn P.length (q+1) by unfold dn;omega];by_cases h0:0<=dn P.length (q+1)
     .exact BU h0 (by unfold dn;omega)
     .have:dn P.length (q+1) = -1:=(by unfold dn at h0 ⊢;omega);rw[this];decide
    obtain⟨qv,rfl,hqv⟩:=htx.AY;refine .inl ⟨(es.set j [.str u.nm,.int .i64 u.v,yv],T++[.var false [.int .i64 (AN l t)[i].fields[j].ty.k,.int .i64 (AN l t)[i].fields[j].ty.v,.str (AN l t)[i].fields[j].ty.nm,qv]]),?_,by omega,hnx⟩;simp[f25,d1,hce,hfe,h21,hmd,hne,h25,hdv,hix,hel,her,hwd,hbf,hl.AA,hqv.AA,AF,AV.AA])
    (fun b hI=>by
    obtain⟨es,T⟩:=b;obtain⟨_,j1⟩:=hI;have hd:dn P.length P.length = -1:=(by unfold dn;omega);exact⟨_,_,by simp[f25,hd] <;> first | exact⟨rfl,rfl⟩ | rfl,by simp,(es,T),_,by simpa using j1,rfl⟩) (List.replicate P.length [.str [],.int .i64 0,.AI],[]) ⟨by omega,by simp,by omega,fun e he=>by rw[(List.mem_replicate.1 he).2];rfl,fun q hq i p e hp he=>by
     simp only[Nat.sub_zero,DD]at hq;have hq':q∈Bk []:=Bs hq;simp[Bk]at hq';subst hq';simp at hp⟩
 obtain⟨⟨es,T⟩,z,q1,q2⟩:=hq;simp only[A1]at q1 q2;obtain⟨rfl,rfl⟩:=q2;refine⟨es,T,z,q1,?_⟩;have e0:m / cnP (P.drop (P.length - 0))=m:=by simp[cnP,Bk]
 simp only[e0]at hlp;exact hlp
end
section
variable{l:List AK}{lv:AV}(hl:SlR Ah 3 l lv)(hsl:SmL 1048577 l)(hok:DOK l)
include hl hsl hok
theorem c25(s:Sh):ShW s->cn s<=65536->At25 l lv s:=by
 intro hw;induction hw with
 | bit n h0 h1=>
  intro hb t xs m hm hx hst hv hs;have hn:([lv,AV.agg xs,.int .i64 m]:List AV).all AV.AA=true:=by simp[AV.AA,hx.AF,hl.AA]
  have hB:=c66 hx;obtain⟨pv,rfl,hp⟩:=hx.AY;have hib:EV t=true:=by cases hs;assumption
  refine⟨[.str [],.int .i64 m,.AI],?_,fun h=>Ae U6 YT hn rfl (hr:=_) (by simp[AJ,f25,hB,hib] <;> rfl) h⟩;have:(Cw (.bit n))[m]=.mk 0 m [] []:=by simp[Cw]
  rw[this];exact A4.intro (.inl ⟨rfl,rfl⟩)
 | cons ns ss w1 w2 w3 w4 w5 w6 w7 ih=>
  intro hb t xs m hm hx hst hv hs;have hW:ShW (.cons ns ss):=.cons ns ss w1 w2 w3 w4 w5 w6 w7;have hn:([lv,AV.agg xs,.int .i64 m]:List AV).all AV.AA=true:=by simp[AV.AA,hx.AF,hl.AA]
  have hB:=c66 hx;have hcn:cn (.cons ns ss)=cnC ss:=by simp only[cn,Cw,RD]
  have hib:EV t=false:=by cases hs;assumption
  have hk:t.k≠2:=by cases hs;assumption
  obtain⟨w,hwr,h68⟩:=c68 hl hsl hx hst (hok.has t hv hk hib);have hih:∀ s∈ss,∀ x∈s,At25 l lv x:=fun s hs' x hx'=>ih s hs' x hx' (by
   have h1:=RF (w5 s hs') hx';have h2:=RE hs';omega)
  obtain⟨pv,rfl,hp⟩:=hx.AY;obtain⟨i,q,h1,h2,h3,h4,h5,hl1⟩:=eg hl hsl hok hx hst hv hs hW hb hwr hm [Blk.var false [.int .i64 t.k,.int .i64 t.v,.str t.nm,pv],Blk.var false [.str [],.int .i64 0,.AI]];obtain⟨es,T,z,g1,hl2⟩:=ei hl hsl hok hst hv hs hW hih hwr h2 h5 h3 (Blk.var false [.int .i64 t.k,.int .i64 t.v,.str t.nm,pv]) (Blk.var false [.str [],.int .i64 0,.AI]);have hms:=ms_32 ss[i].length (w4 _ (An h2));have hic:i<(AN l t).length:=by
   cases hs with
   | cons _ _ _ _ _ hnn hll _ _=>omega
  have hnm:(AN l t)[i].nm=ns[i]/\(AN l t)[i].fields.length=ss[i].length:=by
   cases hs with
   | cons _ _ _ _ _ hnn hll hs0 _=>
    refine⟨?_,(hs0 i _ _ (AO hic) (AO h2)).symm⟩;simp[hnn]
  obtain⟨n1,n2⟩:=hnm;obtain⟨ce,hce,hcR⟩:=hwr.ix hic;obtain⟨fv,rfl,hfv⟩:=hcR.dest;rw[n1]at hce;have hfl:=hfv.len;rw[n2]at hfl;simp[f25]at hl1 hl2;have hdn:dn ss[i].length 0=(ss[i].length:Int) - 1:=by unfold dn;omega
  rw[hdn]at hl2;have hwd:wr .i64 ((ss[i].length:Int) - 1)=(ss[i].length:Int) - 1:=by
   by_cases h0:0<=(ss[i].length:Int) - 1
   .exact BU h0 (by have:=w4 _ (An h2);omega)
   .have:(ss[i].length:Int) - 1 = -1:=(by omega);rw[this];decide
  obtain⟨g2,g3,g4,g5⟩:=g1;have hq:(Bk (ss[i].drop 0))[q % cnP (ss[i].drop 0)]? = some (Bk ss[i])[q]:=by
   rw[Je,Nat.mod_eq_of_lt h3];exact AO h3
  have hpl:=(JA _ _ (An h3)).1;have hrep:∀(j:Nat) p e,((Bk ss[i])[q])[j]? = some p->es[j]? = some e->A4 p e:=fun j p e a b=>g5 _ hq j p e a (by rw[DW];exact b)
  have hnr:es.all AF=true:=BN (by rw[g2,hpl]) hrep (fun a e h=>h.AF);have hsn:BC 9 (.agg [.str ns[i],.int .i64 0,.hs 2 ss[i].length 3 0 ss[i].length false]) (Blk.var false [.int .i64 t.k,.int .i64 t.v,.str t.nm,pv]::Blk.var false [.str ns[i],.int .i64 0,.hs 2 ss[i].length 3 0 ss[i].length false]::.arr 3 false es::T) (.agg [.str ns[i],.int .i64 0,.sl 3 false es]) (Blk.var false [.int .i64 t.k,.int .i64 t.v,.str t.nm,pv]::Blk.var false [.str ns[i],.int .i64 0,.hs 2 ss[i].length 3 0 ss[i].length false]::.arr 3 true es::T):=by
   refine(BC.agg rfl (BK.cons (BC.flat (c:=.str ns[i]) rfl _) (BK.cons (BC.flat (c:=.int .i64 0) rfl _) (BK.cons (K:=1) (fun n => ?_) (BK.nil _))))).mono (by decide);have hb:(Nat.beq es.length ss[i].length&&Nat.beq 3 3&&Nat.ble (0+ss[i].length) es.length&&es.all AF)=true:=by
    rw[hnr,g2];simp[Ay,A6]
   simp[Am.snap,hb,<- g2,hnr]
  refine⟨[.str ns[i],.int .i64 0,.sl 3 false es],?_,fun h=>Jj U6 YT hn rfl (hsn.at (by decide)) (by simp[AV.AA,AF] <;> exact ER.1 hnr) (hr:=_) (by
   simp[AJ,f25,hB,hib,h68,hl1,hce,hfl,hms,Aw,hwd,hl2] <;> rfl) h⟩
  rw[h4];exact A4.intro (.inr ⟨false,es,rfl,by rw[g2,hpl],hrep⟩)
end
section
variable{k:EM}{xs:List AV}(hx:D5 k xs)(hsk:SmT 1048577 k)
include hx hsk
theorem c38(hE:(A8 k.data k.ty k.arms).2=0):∃ w,SlR A4 3 (Cw (CE k.data k.ty)) w/\∀ h,AH MX (AG MX) 38 [.agg xs] h=some (.ret w,h):=by
 have h1:DM k.data k.ty=0:=(JU hE).1;obtain⟨a,b,c⟩:=GK h1;have hle:=Kt hsk.1 hsk.2.1 h1;obtain⟨hw,_,_,_⟩:=MP hsk hE;have hxn:AF xs=true:=by obtain⟨dv,pv,av,rfl,hd,hp,ht,ha⟩:=hx.dest;simp[AV.AA,AF,hd.AA,hp.AA,ha.AA]
 obtain⟨dv,pv,av,rfl,hd,hp,ht,ha⟩:=hx.dest;have h21:=c21 hd hsk.1 (He a).dok _ k.ty _ ht hsk.2.1 b c;rw[IV (show cn (CE k.data k.ty)<9223372036854775808 by simp only[cn];omega)]at h21;have h25:=c25 hd hsk.1 (He a).dok _ hw hle;obtain⟨L,hL⟩:∃ L,L=Cw (CE k.data k.ty):=⟨_,rfl⟩;have hcn:cn (CE k.data k.ty)=L.length:=by rw[hL]
 rw[hcn]at h21;have h25':∀(n:Nat) (hn:n<L.length),∃ ys,A4 L[n] ys/\∀ h,AH MX (AG MX) 25 [dv,.agg [.int .i64 k.ty.k,.int .i64 k.ty.v,.str k.ty.nm,pv],.int .i64 n] h=some (.ret (.agg ys),h):=fun n hn=>by
  subst hL;exact h25 k.ty _ n hn ht hsk.2.1 b c
 rw[<- hL]at hle ⊢;obtain⟨e,st,hlp,hq⟩:=AQ (M:=MX) (fid:=38) (N:=26) (C:=AG MX) (c:=AL f38 0) (n:=L.length)
  (fun i (b:AV×AE×List (List AV))=>([(1,.hp 0 0),(3,b.1),(4,.int .i64 L.length),(5,.int .i64 i)],Blk.var false (tcs k dv pv av)::b.2.1))
  (fun i b=>Ak 3 1 b.2.1 b.1 b.2.2/\b.2.2.length=(L.take i).length/\∀(j:Nat) t e,(L.take i)[j]? = some t->b.2.2[j]? = some e->A4 t e)
  (fun r=>∃ b:AV×AE×List (List AV),r=(.ext 0,([(1,.hp 0 0),(3,b.1),(4,.int .i64 L.length),(5,.int .i64 L.length),(13,.bool false)],Blk.var false (tcs k dv pv av)::b.2.1))/\Ak 3 1 b.2.1 b.1 b.2.2/\b.2.2.length=L.length/\∀(j:Nat) t e,L[j]? = some t->b.2.2[j]? = some e->A4 t e) (fun i b hi hI=>by
    obtain⟨a,rest,es⟩:=b;obtain⟨i1,i2,i3⟩:=hI;simp only at i1 i2 i3;have hi':=Aa hi;have hwr:=AZ hi (show L.length<1048577 by omega);obtain⟨ys,hys,hc25⟩:=h25' i hi;have hyn:=hys.AF;obtain⟨j1,j2⟩:=EU i2 i3 hys;rw[Cf hi]at j1 j2;obtain⟨yv,rfl,hyv⟩:=hys.AY;obtain⟨a',rest',hap,hacc⟩:=Ak.push (byt:=48) (P:=[Blk.var false (tcs k dv pv av)]) [.str L[i].nm,.int .i64 L[i].v,yv] true i1 (by decide) (by decide) (by rw[i2,GH];omega);simp only[Ej,Ev]at hap;exact .inl ⟨(a',rest',es++[[.str L[i].nm,.int .i64 L[i].v,yv]]),by simp[f38,hi',hc25,hwr,hap,bsA,Ag,List.replicate,AF,AV.AA,hyv.AA],hacc,j1,j2⟩) (fun b hI=>by
    obtain⟨a,rest,es⟩:=b;obtain⟨i1,i2,i3⟩:=hI;rw[Gu]at i2 i3;exact⟨_,_,by simp[f38] <;> first | exact⟨rfl,rfl⟩ | rfl,by simp,(a,rest,es),rfl,i1,i2,i3⟩) (.AI,[],[]) ⟨Ak.nil _ _ _,by simp,fun j t e h=>by simp at h⟩
 obtain⟨⟨a,rest,es⟩,hq,q1,q2,q3⟩:=hq;simp only at q1 q2 q3 hq;cases hq;simp[f38]at hlp;obtain⟨v',rest',hsn,hrep,heq⟩:=JQ (P:=[Blk.var false (tcs k dv pv av)]) (fun a e h=>h.AF) q1 q2 q3;exact⟨v',hrep,fun h=>Jk bu gv (by simp[AV.AA,hxn]) hsn (by decide) hrep.AA heq (by simp[AJ,f38,h21,hlp]) h⟩
end
end
section
end
section
attribute [local simp] Dc Bn Ec Dd CQ Dx Dy Ey BZ Ap Bh Av Gb FR EN HO D9 A5 FN EO HP HQ xUn FC EA FT BG DQ BH EB BI EC Ce Ca Bv BL EP Eo
 ev evs C4 DP OR.ofV OR.D4 OR.ofC Fg Tm.get Tm.init Tm.only Ay A6 Bt finish CK DS Hb D3 D7 unA Bz Bc B6 Bd Cp Cq Cr Be Cs Ct Bf Cu Cv Bg B7 AL CP Bb Cn Co Bx Ez E0 E1 Dz D0 Fo F7 F8 Fp stA BA DY Bo DR FD Gp B8 C1 CI FU Gq
attribute [local simp] DE CT Cb Bl DF DG DH DI DJ DK DL Ef Cg Eg Dh FW FX Gi Di Eh Dj BQ Dk BR Dl B9 Ei Ch FY FZ Fa Ci Dm Dn Fb Gj Fc Gk Gl Dp BS Cj CA Dq Dr Ck
theorem Mu{l:List AK}{w:AV}(hw:SlR Ah 3 l w){ps:List TyV}{pv:AV}(hp:SlR AU 4 ps pv){es:List (List AV)}(hnr:es.all AF=true){id m:Nat}(hm:m<=es.length){lk:Bool}{H:AE}(hH:H[id]? = some (.arr 4 lk es)){kk vv:Int}{nm:Bytes} :
 Aq [.agg [w,.int .i64 kk,.int .i64 vv,.str nm,pv,.hs id es.length 4 0 m false]] H=some ([.agg [w,.int .i64 kk,.int .i64 vv,.str nm,pv,.sl 4 false (es.take m)]],H.set id (.arr 4 true es)):=by
 have h6:BC 1 (.hs id es.length 4 0 m false) H (.sl 4 false (es.take m)) (H.set id (.arr 4 true es)):=fun n=>by
  have hb:(Nat.beq es.length es.length&&Nat.beq 4 4&&Nat.ble (0+m) es.length&&es.all AF)=true:=by
   rw[hnr];simp[Ay,A6,hm]
  simp only[Am.snap,hH,hb];simp
 have hn:AF [w,.int .i64 kk,.int .i64 vv,.str nm,pv,.hs id es.length 4 0 m false]=false:=by simp[AF,AV.AA,hw.AA,hp.AA]
 have hs:=(BC.agg hn (BK.cons (SlR.OK hw H) (BK.cons (BC.flat (c:=.int .i64 kk) rfl H) (BK.cons (BC.flat (c:=.int .i64 vv) rfl H) (BK.cons (BC.flat (c:=.str nm) rfl H) (BK.cons (SlR.OK hp H) (BK.cons h6 (BK.nil _)))))))).at (by decide);have hn':AV.AA (.agg [w,.int .i64 kk,.int .i64 vv,.str nm,pv,.hs id es.length 4 0 m false])=false:=hn;simp only[Aq,hn',hs]
theorem own1{k:EM}{xs:List AV}(hx:D5 k xs)(hsk:SmT 1048577 k):∃ xs',D5 k xs'/\∀ R:AE,∃ O Y Y',AH MX (AG MX) 15 [.agg xs] R=some (.ret (.agg O),R++Y)/\∀(F:FuncId) (r:AV),(MX.mode F).fresh=true->(∀ h,AH MX (AG MX) F [.agg xs'] h=some (.ret r,h))->AH MX (AG MX) F [.agg O] (R++Y)=some (.ret r,R++Y'):=by
 obtain⟨w0,pv,es,hw0,hpv,ht,hel,her,hc⟩:=c15 hx hsk;rcases hc with⟨h0,h15⟩ | ⟨h0,h15⟩
 .exact⟨_,⟨w0,_,.sl 4 true [],rfl,hw0,ht,.inr ⟨true,[],rfl,by rw[h0];rfl,fun i a e h=>by rw[h0]at h;simp at h⟩⟩,fun R=>⟨_,[],[],by rw[Hg];exact h15 R,fun F r _ h=>by rw[Hg];exact h R⟩⟩
 .have hnr:es.all AF=true:=BN hel her (fun a e h=>h.AF);refine⟨_,⟨w0,_,.sl 4 false es,rfl,hw0,ht,.inr ⟨false,es,rfl,hel,her⟩⟩,fun R=>⟨_,_,[.arr 4 true es],h15 R,fun F r hm h => ?_⟩⟩;have hs:=Mu hw0 hpv hnr (id:=R.length) (m:=es.length) (Cd _) (lk:=false) (H:=R++[.arr 4 false es]) (by simp) (kk:=k.ty.k) (vv:=k.ty.v) (nm:=k.ty.nm);rw[hel,<- hel,Gu]at hs;have hset:(R++[Blk.arr 4 false es]).set R.length (.arr 4 true es)=R++[.arr 4 true es]:=by simp
  rw[hset]at hs;rw[<- hel];refine EG hm hs ?_ (h _);simp[AV.AA,AF,hw0.AA,hpv.AA] <;> exact ER.1 hnr
theorem aa:MX.prim 10=some (Ig [([],.bool true)]):=rfl
end
section
theorem gI{l:List AK}{rec:Rec}{D:Nat}(hr:∀ t c s,DT l t s->(rec t c).2=0->shD s<=D):∀(fs:List DB) (ss:List Sh) c,ss.length=fs.length->(∀(j:Nat) f y,fs[j]? = some f->ss[j]? = some y->DT l f.ty y)->(eFs rec fs c).2=0->On ss<=D
 | [],[],c,_,_,_=>by simp[On]
 | f::r,x::ss,c,hl,hs,h=>by
  simp only[eFs]at h;split at h
  .rename_i hz;have h1:=hr f.ty c x (hs 0 _ _ rfl rfl) hz;have h2:=gI hr r ss _ (by simpa using hl) (fun j f y a b=>hs (j+1) f y (by simpa using a) (by simpa using b)) h;simp only[On];omega
  .rename_i hz;exact absurd h hz
 | [],_::_,_,h,_,_=>by simp at h
 | _::_,[],_,h,_,_=>by simp at h
theorem gJ{l:List AK}{rec:Rec}{D:Nat}(hr:∀ t c s,DT l t s->(rec t c).2=0->shD s<=D):∀(cs:List CZ) (ss:List (List Sh)) c,ss.length=cs.length->(∀(i:Nat) k s,cs[i]? = some k->ss[i]? = some s->s.length=k.fields.length/\∀(j:Nat) f y,k.fields[j]? = some f->s[j]? = some y->DT l f.ty y)->(eCs rec cs c).2=0->KT ss<=D
 | [],[],c,_,_,_=>by simp[KT]
 | k::r,s::ss,c,hl,hs,h=>by
  simp only[eCs]at h;split at h
  .rename_i hz;obtain⟨a1,a2⟩:=hs 0 _ _ rfl rfl;have h1:=gI hr k.fields s c a1 a2 hz;have h2:=gJ hr r ss _ (by simpa using hl) (fun i k s a b=>hs (i+1) k s (by simpa using a) (by simpa using b)) h;simp only[KT];omega
  .rename_i hz;exact absurd h hz
 | [],_::_,_,h,_,_=>by simp at h
 | _::_,[],_,h,_,_=>by simp at h
theorem V7{l:List AK}{r:Option Rec}{D:Nat}(hr:∀ rec,r=some rec->∀ t c s,DT l t s->(rec t c).2=0->shD s<=D)(t:TyV)(c:Int)(s:Sh)(hs:DT l t s)(h:(EF l r t c).2=0):r≠none/\shD s<=D+1:=by
 unfold EF at h;split at h
 .cases h
 split at h
 .cases h
 split at h
 .cases h
 split at h
 .cases h
 split at h
 .cases h
 cases r with
 | none=>cases h
 | some rec=>
  refine⟨by simp,?_⟩;simp only at h;cases hs with
  | bit _ hb hw h2=>simp[shD]
  | cons _ ns ss hb hk hn hl h3 hf=>
   have hbn:¬ (EV t=true):=(by rw[hb];decide);rw[if_neg hbn]at h;have:=gJ (hr rec rfl) _ ss _ hl (fun i k s a b=>⟨h3 i k s a b,fun j f y d e=>hf i k s j f y a b d e⟩) h;simp only[shD];omega
theorem Uh(l:List AK):∀ n t c s,DT l t s->(EX l n t c).2=0->shD s<=n
 | 0=>fun t c s hs h=>absurd rfl (V7 (D:=0) (r:=none) (fun rec h=>by cases h) t c s hs h).1
 | n+1=>fun t c s hs h=>(V7 (D:=n) (fun rec h=>by cases h;exact Uh l n) t c s hs h).2
theorem V8:∀{ps:List TyV} {xs:List Sh},ps.length=xs.length->(∀(j:Nat) x p,xs[j]? = some x->ps[j]? = some p->cnt p<=shN x/\dp p<=shD x)->K3 ps<=LZ xs/\dps ps<=On xs
 | [],[],_,_=>by simp[K3,LZ,dps,On]
 | p::ps,x::xs,hl,h=>by
  obtain⟨h1,h2⟩:=h 0 x p rfl rfl;obtain⟨h3,h4⟩:=V8 (ps:=ps) (xs:=xs) (by simpa using hl) fun j x p a b=>h (j+1) x p (by simpa using a) (by simpa using b)
  simp only[K3,LZ,dps,On];omega
 | [],_::_,h,_=>by simp at h
 | _::_,[],h,_=>by simp at h
theorem ab{s:Sh}(h:ShW s):∀ u∈Cw s,cnt u<=shN s/\dp u<=shD s:=by
 induction h with
 | bit m h0 h1=>
  intro u hu;simp only[Cw,E3,Ia]at hu;obtain⟨i,hi,rfl⟩:=hu;simp[cnt,K3,dp,dps,shN,shD]
 | cons ns ss h1 h2 h3 h4 h5 h6 h7 ih=>
  intro u hu;obtain⟨i,g1,g2,ps,hps,rfl⟩:=Kr ns ss u h1 hu;obtain⟨p1,p2⟩:=JA _ _ hps;have hm:=An g2;obtain⟨q1,q2⟩:=V8 p1 fun j x p a b=>ih _ hm x (Bs a) p (p2 j x p a b)
  have a1:=Mt hm;have a2:∀{s:List Sh} {r:List (List Sh)},s∈r->On s<=KT r:=by
   intro s r;induction r with
   | nil=>intro h;cases h
   | cons y r ih=>
    intro h;simp only[KT];rcases CF.1 h with rfl | h
    .omega
    .have:=ih h;omega
  have a3:=a2 hm;simp only[cnt,dp,shN,shD];omega
theorem TB{l:List AK}{t:TyV}(hsl:SmL 1048577 l)(hst:Sm 1048577 t)(h:DM l t=0):∀ u∈Cw (CE l t),LW (CE l t) u=0:=by
 obtain⟨a,b,c⟩:=GK h;have hw:=Uf a hsl c b hst;unfold DM at h;rw[if_pos a]at h;unfold Fw at h;split at h
 .split at h
  .rename_i hz;intro u hu;have hN:=Ug l 40 t 0 _ c hz;have hR:=(IL l 40 t 0 (by decide) (by decide)).2.2 hz;have hD:=Uh l 40 t 0 _ c hz;obtain⟨c1,c2⟩:=ab hw u hu;have ht:=(Ss u 1 0 (by decide) (by decide)).1 ⟨by omega,by omega⟩;have hT:A7 u=true:=by
    unfold A7;rw[ht,decide_eq_true_iff];omega
   unfold LW;rw[if_pos hT];exact(RB hw u hu).1
  .rename_i hz;exact absurd h hz
 .rename_i hz;exact absurd h hz
end
section
attribute [local simp] Dc Bn Ec Dd CQ Dx Dy Ey BZ Ap Bh Av Gb FR EN HO D9 A5 FN EO HP HQ xUn FC EA FT BG DQ BH EB BI EC Ce Ca Bv BL EP Eo
 ev evs C4 DP OR.ofV OR.D4 OR.ofC Fg Tm.get Tm.init Tm.only Ay A6 Bt finish CK DS Hb D3 D7 unA Bz Bc B6 Bd Cp Cq Cr Be Cs Ct Bf Cu Cv Bg B7 AL CP Bb Cn Co Bx Ez E0 E1 Dz D0 Fo F7 F8 Fp stA BA DY Bo DR FD Gp B8 C1 CI FU Gq
attribute [local simp] DE CT Cb Bl DF DG DH DI DJ DK DL Ef Cg Eg Dh FW FX Gi Di Eh Dj BQ Dk BR Dl B9 Ei Ch FY FZ Fa Ci Dm Dn Fb Gj Fc Gk Gl Dp BS Cj CA Dq Dr Ck
end
section
end
section
attribute [local simp] Dc Bn Ec Dd CQ Dx Dy Ey BZ Ap Bh Av Gb FR EN HO D9 A5 FN EO HP HQ xUn FC EA FT BG DQ BH EB BI EC Ce Ca Bv BL EP Eo
 ev evs C4 DP OR.ofV OR.D4 OR.ofC Fg Tm.get Tm.init Tm.only Ay A6 Bt finish CK DS Hb D3 D7 unA Bz Bc B6 Bd Cp Cq Cr Be Cs Ct Bf Cu Cv Bg B7 AL CP Bb Cn Co Bx Ez E0 E1 Dz D0 Fo F7 F8 Fp stA BA DY Bo DR FD Gp B8 C1 CI FU Gq
attribute [local simp] DE CT Cb Bl DF DG DH DI DJ DK DL Ef Cg Eg Dh FW FX Gi Di Eh Dj BQ Dk BR Dl B9 Ei Ch FY FZ Fa Ci Dm Dn Fb Gj Fc Gk Gl Dp BS Cj CA Dq Dr Ck
inductive KV where
 | unk (no:List Int)
 | num (n:Int)
 | con (i:Nat) (ps:List KV)
 deriving Inhabited
mutual
def noK:Sh->KV
 | .bit _=> .unk []
 | .cons _ ss=>V9 ss
def V9:List (List Sh)->KV
 | []=> .unk []
 | [p]=> .con 0 (noKs p)
 | _::_::_=> .unk []
def noKs:List Sh->List KV
 | []=>[]
 | s::r=>noK s::noKs r
end
theorem MR:∀ l:List Sh,noKs l=l.map noK
 | []=>rfl
 | s::r=>by rw[noKs,MR r];rfl
def SrI:Nat->Sh->AV->Prop
 | 0,_,_=>False
 | _+1,.bit m,v=>v=.ro [.int .i64 m,.AI]/\1<=m/\m<=16
 | n+1,.cons ns ss,v=>∃ cv,v=.ro [.int .i64 0,cv]/\ss.length=ns.length/\(0<ns.length/\ns.length<1048577)/\(∀ p∈ss,p.length<1048577)/\SlR (fun(c:Bytes×List Sh) xs=>∃ pv,xs=[.str c.1,pv]/\SlR (fun s ys=>∃ u,ys=[u]/\SrI n s u) 1 c.2 pv) 2 (ns.zip ss) cv
def SrX(s:Sh)(v:AV):Prop:=∃ n,SrI n s v
def PtX(s:Sh)(ys:List AV):Prop:=∃ u,ys=[u]/\SrX s u
def ConX(c:Bytes×List Sh)(xs:List AV):Prop:=∃ pv,xs=[.str c.1,pv]/\SlR PtX 1 c.2 pv
theorem SrX.bit{m:Int}{v:AV}(h:SrX (.bit m) v):v=.ro [.int .i64 m,.AI]/\1<=m/\m<=16:=by
 obtain⟨n,h⟩:=h;cases n with
 | zero=>exact h.elim
 | succ n=>exact h
theorem SrX.cons{ns:List Bytes}{ss:List (List Sh)}{v:AV}(h:SrX (.cons ns ss) v):∃ cv,v=.ro [.int .i64 0,cv]/\ss.length=ns.length/\(0<ns.length/\ns.length<1048577)/\(∀ p∈ss,p.length<1048577)/\SlR ConX 2 (ns.zip ss) cv:=by
 obtain⟨n,h⟩:=h;cases n with
 | zero=>exact h.elim
 | succ n=>
  obtain⟨cv,h1,h2,h3,h4,h5⟩:=h;exact⟨cv,h1,h2,h3,h4,h5.mono fun c xs ⟨pv,g1,g2⟩=>⟨pv,g1,g2.mono fun s ys ⟨u,k1,k2⟩=>⟨u,k1,n,k2⟩⟩⟩
theorem SrX.ro{s:Sh}{v:AV}(h:SrX s v):∃ cs,v=.ro cs:=by
 cases s with
 | bit m=>exact⟨_,h.bit.1⟩
 | cons ns ss=>obtain⟨cv,h1,_⟩:=h.cons;exact⟨_,h1⟩
theorem SrX.AA{s:Sh}{v:AV}(h:SrX s v):v.AA=true:=by
 obtain⟨cs,rfl⟩:=h.ro;rfl
inductive Cl:Sh->KV->AV->Prop where
 | unk {s:Sh} {sv:AV} {no:List Int} {nov:AV} (hs:SrX s sv) (hn:SlR CV 1 no nov) (hb:no.length<1048577):Cl s (.unk no) (.ro [sv,.int .i64 (-1),.int .i64 (-1),nov,.AI])
 | num {w:Int} {sv:AV} {m:Int} (hs:SrX (.bit w) sv) (hm:0<=m):Cl (.bit w) (.num m) (.ro [sv,.int .i64 (-1),.int .i64 m,.AI,.AI])
 | con {ns:List Bytes} {ss:List (List Sh)} {sv:AV} {i:Nat} {parts:List Sh} {ps:List KV} {pv:AV} (vs:List AV) (hs:SrX (.cons ns ss) sv) (hi:ss[i]? = some parts) (hl:ps.length=parts.length) (hv:vs.length=ps.length)
  (hp:(vs=[]/\pv=.AI)\/∃ ex,pv=.sl 1 ex (vs.map fun v=>[v])) (h:∀(j:Nat) s k v,parts[j]? = some s->ps[j]? = some k->vs[j]? = some v->Cl s k v) :
  Cl (.cons ns ss) (.con i ps) (.ro [sv,.int .i64 i,.int .i64 (-1),.AI,pv])
def PK(c:Sh×KV)(xs:List AV):Prop:=∃ u,xs=[u]/\Cl c.1 c.2 u
theorem Cl.ro{s:Sh}{k:KV}{v:AV}(h:Cl s k v):∃ cs,v=.ro cs:=by cases h <;> exact⟨_,rfl⟩
theorem Cl.AA{s:Sh}{k:KV}{v:AV}(h:Cl s k v):v.AA=true:=by cases h <;> rfl
theorem Cl.intro{ns:List Bytes}{ss:List (List Sh)}{sv:AV}{i:Nat}{parts:List Sh}{ps:List KV}{pv:AV}(hs:SrX (.cons ns ss) sv)(hi:ss[i]? = some parts)(hl:ps.length=parts.length)(h:SlR PK 1 (parts.zip ps) pv):Cl (.cons ns ss) (.con i ps) (.ro [sv,.int .i64 i,.int .i64 (-1),.AI,pv]):=by
 have hz:(parts.zip ps).length=ps.length:=by simp;omega
 rcases h with⟨h0,rfl⟩ | ⟨ex,es,rfl,h1,h2⟩
 .have hp0:ps=[]:=EH (by rw[<- hz,h0];rfl);subst hp0;exact .con [] hs hi hl rfl (.inl ⟨rfl,rfl⟩) (fun j s k v _ _ h=>by simp at h)
 .have hget:∀(j:Nat) e,es[j]? = some e->∃ s k u,parts[j]? = some s/\ps[j]? = some k/\e=[u]/\Cl s k u:=fun j e he=>by
   have hj:j<ps.length:=by
    have:=(Ac.1 he).1;omega
   have hzj:(parts.zip ps)[j]? = some (parts[j]'(by omega),ps[j]):=by
    rw[AO (by omega)];simp
   obtain⟨u,g1,g2⟩:=h2 j _ e hzj he;exact⟨_,_,u,AO (by omega),AO hj,g1,g2⟩
  have hmap:(es.map fun e=>e.headD .undef).map (fun v=>[v])=es:=by
   apply Mc (by simp);intro j a b;obtain⟨s,k,u,_,_,g,_⟩:=hget j _ (AO b);simp[g]
  refine .con (es.map fun e=>e.headD .undef) hs hi hl (by simp;omega) (.inr ⟨ex,by rw[hmap]⟩) (fun j s k v a b c => ?_);simp only[Fe,D6]at c;obtain⟨e,e1,e2⟩:=c;obtain⟨s',k',u,g1,g2,g3,g4⟩:=hget j e e1;rw[a]at g1;rw[b]at g2;cases g1;cases g2;subst g3;subst e2;exact g4
theorem Cl.dest{s:Sh}{i:Nat}{ps:List KV}{v:AV}(h:Cl s (.con i ps) v):∃ ns ss sv parts pv,s=.cons ns ss/\v=.ro [sv,.int .i64 i,.int .i64 (-1),.AI,pv]/\SrX (.cons ns ss) sv/\ss[i]? = some parts/\ps.length=parts.length/\SlR PK 1 (parts.zip ps) pv:=by
 cases h with
 | @con ns ss sv _ parts _ pv vs hs hi hl hv hp h=>
  refine⟨ns,ss,sv,parts,pv,rfl,rfl,hs,hi,hl,?_⟩;have hz:(parts.zip ps).length=ps.length:=by simp;omega
  rcases hp with⟨rfl,rfl⟩ | ⟨ex,rfl⟩
  .exact .inl ⟨EH (by rw[hz,<- hv];rfl),rfl⟩
  .refine .inr ⟨ex,_,rfl,by simp;omega,fun j c e a b => ?_⟩;simp only[Fe,D6]at b;obtain⟨u,u1,u2⟩:=b;have hj:j<(parts.zip ps).length:=(Ac.1 a).1;rw[AO hj,GW]at a;cases a;exact⟨u,u2.symm,h j _ _ u (AO (by simp at hj;omega)) (AO (by omega)) u1⟩
theorem Cl.sort{s:Sh}{k:KV}{v:AV}(h:Cl s k v):∃ sv a b c d,v=.ro [sv,a,b,c,d]/\SrX s sv:=by
 cases h with
 | unk hs _ _=>exact⟨_,_,_,_,_,rfl,hs⟩
 | num hs _=>exact⟨_,_,_,_,_,rfl,hs⟩
 | con _ hs _ _ _ _ _=>exact⟨_,_,_,_,_,rfl,hs⟩
theorem IW{K id:Nat}{b b':Bool}{cs cs' cs2:List AV}{h h':AE}(hk:h[id]? = some (.var b cs))(hs:BK K cs h cs' h')(hk':h'[id]? = some (.var b' cs2)):BC (K+1) (.hp id 0) h (.ro cs') (h'.set id (.var true cs')):=fun n=>by
 show snap ((n+K)+1) _ _=_;simp only[snap,hk,hs n,hk',Je]
theorem c129{n:Nat}{ns:List Bytes}{ss:List (List Sh)}{i:Nat}{parts:List Sh}{sv:AV}(hsn:SrI (n+1) (.cons ns ss) sv)(hi:ss[i]? = some parts)(ih:∀ s∈parts,∀ u,SrI n s u->∃ kv,Cl s (noK s) kv/\∀ h,AH MX (AG MX) 76 [u] h=some (.ret kv,h))(a b c d:AV) :
 ∃ kv,Cl (.cons ns ss) (.con i (parts.map noK)) kv/\∀ h,AH MX (AG MX) 129 [.ro [sv,a,b,c,d],.int .i64 i] h=some (.ret kv,h):=by
 have hsv:SrX (.cons ns ss) sv:=⟨n+1,hsn⟩;obtain⟨cv,rfl,hl,hsz,hsp,hcv⟩:=hsn;have hil:i<ss.length:=(Ac.1 hi).1;have hiz:i<(ns.zip ss).length:=by simp;omega
 have hpl:parts.length<1048577:=hsp _ (Bs hi);obtain⟨e,he,pv,hR,hpv⟩:=hcv.ix hiz;have hpe:((ns.zip ss)[i]'hiz).2=parts:=by
  rw[GW];simp only;rw[AO hil]at hi;exact Option.some.inj hi
 rw[hpe]at hpv;subst hR;have hb:=Wq;simp[Ab,Az,Tryz.f129]at hb;obtain⟨e,st,hlp,hq⟩:=AQ (M:=MX) (fid:=129) (N:=44) (C:=AG MX) (c:=AL Tryz.f129 0) (n:=parts.length)
  (fun j (b:AV×AE×List (List AV))=>([(5,.hp 0 0),(25,pv),(26,.int .i64 parts.length),(27,.int .i64 j)],.var false [.ro [.int .i64 0,cv],.int .i64 i,.int .i64 (-1),.AI,b.1]::b.2.1))
  (fun j b=>Ak 1 1 b.2.1 b.1 b.2.2/\b.2.2.length=(parts.take j).length/\∀(m:Nat) s e,(parts.take j)[m]? = some s->b.2.2[m]? = some e->∃ u,e=[u]/\Cl s (noK s) u)
  (fun r=>∃ b:AV×AE×List (List AV),r=(.ext 0,([(5,.hp 0 0),(25,pv),(26,.int .i64 parts.length),(27,.int .i64 parts.length),(28,.bool false)],.var false [.ro [.int .i64 0,cv],.int .i64 i,.int .i64 (-1),.AI,b.1]::b.2.1)) /\
    Ak 1 1 b.2.1 b.1 b.2.2/\b.2.2.length=parts.length/\∀(m:Nat) s e,parts[m]? = some s->b.2.2[m]? = some e->∃ u,e=[u]/\Cl s (noK s) u) (fun j b hj hI=>by
    obtain⟨w,rest,es⟩:=b;obtain⟨i1,i2,i3⟩:=hI;simp only at i1 i2 i3;obtain⟨e,he',u,rfl,hu⟩:=hpv.ix hj;have hj':=Aa hj;have hw:=AZ hj hpl;obtain⟨kv,hkv,hcall⟩:=ih parts[j] (An hj) u hu;obtain⟨j1,j2⟩:=EU (R:=fun s e=>∃ u,e=[u]/\Cl s (noK s) u) i2 i3 (a:=parts[j]) (e:=[kv]) ⟨kv,rfl,hkv⟩;rw[Cf hj]at j1 j2;have hlen:es.length<16777215:=(by rw[i2];simp;omega);obtain⟨a',rest',hap,hacc⟩:=Ak.push (byt:=8) (P:=[.var false [.ro [.int .i64 0,cv],.int .i64 i,.int .i64 (-1),.AI,w]]) [kv] true i1 (by decide) (by decide) hlen;simp only[Ej,Ev]at hap;obtain⟨cs,rfl⟩:=SrX.ro ⟨n,hu⟩;obtain⟨ks,rfl⟩:=hkv.ro;have hc:=hacc.cells;exact .inl ⟨(a',rest',es++[[.ro ks]]),by simp[Tryz.f129,hj',he',hcall,hw,hap,bsA,Ag,hb,hc,AF,AV.AA],hacc,j1,j2⟩) (fun b hI=>by
    obtain⟨w,rest,es⟩:=b;obtain⟨i1,i2,i3⟩:=hI;rw[Gu]at i2 i3;exact⟨_,_,by simp[Tryz.f129] <;> first | exact⟨rfl,rfl⟩ | rfl,by simp,(w,rest,es),rfl,i1,i2,i3⟩) (.AI,[],[]) ⟨Ak.nil _ _ _,by simp,fun m s e h=>by simp at h⟩
 obtain⟨⟨w,rest,es⟩,hq,q1,q2,q3⟩:=hq;cases hq;simp[Tryz.f129]at hlp;simp only at q1 q2 q3;obtain⟨v',rest',s1,s2,s3⟩:=JQ (P:=[.var false [.ro [.int .i64 0,cv],.int .i64 i,.int .i64 (-1),.AI,w]]) (R:=fun s e=>∃ u,e=[u]/\Cl s (noK s) u) (fun s e ⟨u,h1,h2⟩=>by subst h1;simp[AF,h2.AA]) q1 q2 q3;simp only[Ej,Ev]at s1;have hrep:Cl (.cons ns ss) (.con i (parts.map noK)) (.ro [.ro [.int .i64 0,cv],.int .i64 i,.int .i64 (-1),.AI,v']):=Cl.intro hsv hi (by simp) (by
  rcases s2 with⟨h0,h1⟩ | ⟨ex,es',h0,h1,h2⟩
  .subst h0;exact .inl ⟨rfl,h1⟩
  .refine .inr ⟨ex,es',h0,by simp[h1],fun m c e g1 g2 => ?_⟩;have hm:m<parts.length:=by
    have:=(Ac.1 g1).1;simp at this;exact this
   rw[AO (by simp;exact hm),GW]at g1;cases g1;simpa[PK]using h2 m _ e (AO hm) g2)
 refine⟨_,hrep,fun h=>Jk R8 cY (by simp[AV.AA]) (IW (b':=false) (cs2:=[.ro [.int .i64 0,cv],.int .i64 i,.int .i64 (-1),.AI,w]) (id:=0) rfl (.cons (.flat rfl _) (.cons (.flat rfl _) (.cons (.flat rfl _) (.cons (.flat rfl _) (.cons s1 (.nil _)))))) rfl) (by decide) hrep.AA (fun h=>by cases h) (hr:=_) (by simp[AJ,Tryz.f129,he,hpv.len,hlp] <;> rfl) h⟩
theorem c76:∀(n:Nat) (s:Sh) (v:AV),SrI n s v->∃ kv,Cl s (noK s) kv/\∀ h,AH MX (AG MX) 76 [v] h=some (.ret kv,h)
 | 0,s,v,h=>h.elim
 | n+1,.bit m,v,h=>by
  have hs:SrX (.bit m) v:=⟨n+1,h⟩;have e:=hs.bit.1;subst e;have hk:Cl (.bit m) (.unk []) _:=Cl.unk hs (nov:=.AI) (.inl ⟨rfl,rfl⟩) (by decide);exact⟨_,hk,fun h=>Jk NY T6 (by simp[AV.AA]) (IW (b:=false) (b':=false) (id:=0) (cs2:=[.ro [.int .i64 m,.AI],.int .i64 (-1),.int .i64 (-1),.AI,.AI]) rfl (.cons (.flat rfl _) (.cons (.flat rfl _) (.cons (.flat rfl _) (.cons (.flat rfl _) (.cons (.flat rfl _) (.nil _)))))) rfl) (by decide) hk.AA (fun h=>by cases h) (hr:=_) (by simp[AJ,f76] <;> rfl) h⟩
 | n+1,.cons ns ss,v,h=>by
  have hs:SrX (.cons ns ss) v:=⟨n+1,h⟩;obtain⟨cv,rfl,hl,hsz,hsp,hcv⟩:=hs.cons;have hzl:(ns.zip ss).length=ss.length:=by simp;omega
  by_cases h1:ss.length=1
  .obtain⟨parts,rfl⟩:∃ p,ss=[p]:=by
    match ss,h1 with
    | [p],_=>exact⟨p,rfl⟩
   obtain⟨kv,hk,hcall⟩:=c129 h (i:=0) (parts:=parts) rfl (fun s hsm u hu=>c76 n s u hu) (.int .i64 (-1)) (.int .i64 (-1)) .AI .AI;refine⟨kv,by rw[noK,V9,MR];exact hk,fun h => ?_⟩;have hc:∀ H,AH MX (AG MX) 129 [.hp 0 0,.int .i64 0] (.var false [.ro [.int .i64 0,cv],.int .i64 (-1),.int .i64 (-1),.AI,.AI]::H)=some (.ret kv,.var true [.ro [.int .i64 0,cv],.int .i64 (-1),.int .i64 (-1),.AI,.AI]::H):=fun H=>by
    have hsn:=(IW (b:=false) (b':=false) (id:=0) (h:=.var false [.ro [.int .i64 0,cv],.int .i64 (-1),.int .i64 (-1),.AI,.AI]::H) (cs2:=[.ro [.int .i64 0,cv],.int .i64 (-1),.int .i64 (-1),.AI,.AI]) rfl (.cons (.flat rfl _) (.cons (.flat rfl _) (.cons (.flat rfl _) (.cons (.flat rfl _) (.cons (.flat rfl _) (.nil _)))))) rfl).at (by decide);exact EG (by simp[R8]) (by simp[Aq,hsn,AV.AA]) (by simp[AV.AA]) (hcall _)
   exact Ae NY T6 (by simp[AV.AA]) hk.AA (hr:=_) (by simp[AJ,f76,hcv.len,hzl,hc] <;> rfl) h
  .have hno:noK (.cons ns ss)=.unk []:=by
    match ss,h1 with
    | [],_=>rfl
    | _::_::_,_=>rfl
   have h1':((ss.length:Int) == 1)=false:=(by rw[beq_eq_false_iff_ne];omega);have hk:Cl (.cons ns ss) (.unk []) _:=Cl.unk hs (nov:=.AI) (.inl ⟨rfl,rfl⟩) (by decide);exact⟨_,by rw[hno];exact hk,fun h=>Jk NY T6 (by simp[AV.AA]) (IW (b:=false) (b':=false) (id:=0) (cs2:=[.ro [.int .i64 0,cv],.int .i64 (-1),.int .i64 (-1),.AI,.AI]) rfl (.cons (.flat rfl _) (.cons (.flat rfl _) (.cons (.flat rfl _) (.cons (.flat rfl _) (.cons (.flat rfl _) (.nil _)))))) rfl) (by decide) hk.AA (fun h=>by cases h) (hr:=_) (by simp[AJ,f76,hcv.len,hzl,h1'] <;> rfl) h⟩
theorem c190{l:List Int}{v:AV}(hv:SlR CV 1 l v)(hl:l.length<1048577)(n:Int)(h:AE):AH MX (AG MX) 190 [v,.int .i64 n] h=some (.ret (.int .i64 (ixI (l.findIdx? (fun x=>n == x)))),h):=by
 obtain⟨e,st,hlp,hq⟩:=AQ (M:=MX) (fid:=190) (N:=19) (C:=AG MX) (c:=AL Tryz.f190 0) (n:=l.length)
  (fun i (_:Unit)=>([(0,v),(1,.int .i64 n),(7,.int .i64 l.length),(8,.int .i64 i)],[]))
  (fun i _=>∀ j (hj:j<l.length),j<i->(fun x=>n == x) l[j]=false)
  (fun r=>(r=(.ext 0,([(0,v),(1,.int .i64 n),(7,.int .i64 l.length),(8,.int .i64 l.length),(9,.bool false)],[]))/\l.findIdx? (fun x=>n == x)=none)\/(∃ i:Nat,r=(.ret,([(4,.int .i64 i)],[]))/\l.findIdx? (fun x=>n == x)=some i)) (fun i b hi hI=>by
    have hi':=Aa hi;have hwr:=AZ hi hl;obtain⟨e,he,hR⟩:=hv.ix hi;subst hR;cases hz:n == l[i]with
    | true=>exact .inr ⟨_,_,by simp[Tryz.f190,hi',he,hz] <;> first | exact⟨rfl,rfl⟩ | rfl,by simp,.inr ⟨i,rfl,FH (p:=fun x=>n == x) hi hI hz⟩⟩
    | false=>exact .inl ⟨(),by simp[Tryz.f190,hi',he,hz,hwr],FJ (p:=fun x=>n == x) hi hI hz⟩) (fun b hI=>by
    exact⟨_,_,by simp[Tryz.f190] <;> first | exact⟨rfl,rfl⟩ | rfl,by simp,.inl ⟨rfl,FI (p:=fun x=>n == x) fun j hj=>hI j hj hj⟩⟩) () (fun j _ h0=>by omega)
 simp[Tryz.f190]at hlp;rcases hq with⟨hq,hr⟩ | ⟨i,hq,hr⟩ <;> cases hq <;> rw[hr] <;> exact Ae ZF dL (by simp[AV.AA,hv.AA]) rfl (hr:=[]) (by simp[AJ,Tryz.f190,hv.len,hlp,ixI]) h
theorem c166{l:List Int}{v:AV}(hv:SlR CV 1 l v)(hl:l.length<1048577)(n:Int)(h:AE):AH MX (AG MX) 166 [v,.int .i64 n] h=some (.ret (.bool (l.contains n)),h):=by
 have hc:=c190 hv hl n;have hd:decide (ixI (l.findIdx? (fun x=>n == x)) ≥ 0)=l.contains n:=by
  cases hf:l.findIdx? (fun x=>n == x)with
  | none=>
   rw[Nh]at hf;cases hx:l.contains n with
   | false=>rfl
   | true=>
    have:=hf n (Nl.1 hx);simp at this
  | some i=>
   rw[Gr]at hf;obtain⟨h1,h2,_⟩:=hf;have:n=l[i]:=(by simpa using h2);have hx:l.contains n=true:=Nl.2 (this ▸ An h1);rw[hx];simp[ixI]
 rw[<- hd];exact Ae Yz c8 (by simp[AV.AA,hv.AA]) rfl (hr:=[]) (by simp[AJ,f166,hc]) h
theorem c131{w:Int}{k:KV}{v:AV}(hk:Cl (.bit w) k v){m:Int}(hm:0<=m):∃ u,Cl (.bit w) (.num m) u/\∀ h,AH MX (AG MX) 131 [v,.int .i64 m] h=some (.ret u,h):=by
 obtain⟨sv,a,b,c,d,rfl,hs⟩:=hk.sort;obtain⟨rfl,_⟩:=hs.bit;have hr:Cl (.bit w) (.num m) _:=Cl.num hs hm;exact⟨_,hr,fun h=>Jk Yp cZ (by simp[AV.AA]) (IW (b:=false) (b':=false) (id:=0) (cs2:=[.ro [.int .i64 w,.AI],.int .i64 (-1),.int .i64 m,.AI,.AI]) rfl (.cons (.flat rfl _) (.cons (.flat rfl _) (.cons (.flat rfl _) (.cons (.flat rfl _) (.cons (.flat rfl _) (.nil _)))))) rfl) (by decide) hr.AA (fun h=>by cases h) (hr:=_) (by simp[AJ,f131] <;> rfl) h⟩
def Gc:KV->List Int
 | .unk no=>no
 | _=>[]
def JC(w:Int)(k:KV):Int:=((2 ^ w.toNat:Nat):Int) - (Gc k).length
theorem Cl.JW{w:Int}{k:KV}{v:AV}(hk:Cl (.bit w) k v):∃ nov a,v=.ro [.ro [.int .i64 w,.AI],.int .i64 (-1),.int .i64 a,nov,.AI]/\SlR CV 1 (Gc k) nov/\(Gc k).length<1048577/\1<=w/\w<=16/\((a = -1/\k=.unk (Gc k))\/(0<=a/\k=.num a)):=by
 cases hk with
 | unk hs hn hb=>obtain⟨rfl,h1,h2⟩:=hs.bit;exact⟨_,_,rfl,hn,hb,h1,h2,.inl ⟨rfl,rfl⟩⟩
 | num hs hm=>obtain⟨rfl,h1,h2⟩:=hs.bit;exact⟨_,_,rfl,.inl ⟨rfl,rfl⟩,by simp[Gc],h1,h2,.inr ⟨hm,rfl⟩⟩
theorem jK{n:Int}(h : -4611686018427387904<=n)(h2:n<4611686018427387904):wr .i64 n=n:=by
 rw[RC,Int.bmod_def];split <;> omega
theorem c132{w:Int}{k:KV}{v:AV}(hk:Cl (.bit w) k v)(h:AE):AH MX (AG MX) 132 [v] h=some (.ret (.int .i64 (JC w k)),h):=by
 obtain⟨nov,a,rfl,hno,hn,h1,h2,_⟩:=hk.JW;have hb:=Wr;simp[Ab,Az,f132]at hb;have hp:(2:Nat) ^ w.toNat<=2 ^ 16:=Lj (by decide) (by omega);have hsh:=Vz w h1 h2;obtain⟨P,hP⟩:∃ P:Nat,P=2 ^ w.toNat:=⟨_,rfl⟩;rw[<- hP]at hp hsh;obtain⟨L,hL⟩:∃ L:Nat,L=(Gc k).length:=⟨_,rfl⟩;have hw:wr .i64 ((P:Int) - (L:Int))=(P:Int) - L:=jK (by omega) (by omega);unfold JC;rw[<- hP,<- hL];have hlen:=hno.len;rw[<- hL]at hlen;exact Ae Yq cg (by simp[AV.AA]) rfl (hr:=[]) (by simp[AJ,f132,hsh,hlen,hw,hb,AF,AV.AA,hno.AA,hno.C5]) h
def JD(i:Nat):Sh×KV->Option (Sh×KV)
 | (.cons _ ss,.con c ps)=>((ss.getD c []).zip ps)[i]?
 | _=>none
def atK:List Nat->Sh×KV->Option (Sh×KV)
 | [],x=>some x
 | i::r,x=>(JD i x).bind (atK r)
def DX(l:List Nat):List Int:=l.map fun(i:Nat)=>(i:Int)
theorem Cl.step{x y:Sh×KV}{v:AV}{i:Nat}(hk:Cl x.1 x.2 v)(hx:JD i x=some y):∃ sv a b pv,v=.ro [sv,.int .i64 a,.int .i64 b,.AI,pv]/\sv.AA=true/\pv.AA=true/\∃ u,(∀ kd,ixA 1 pv (.int kd i)=some (.ro [u]))/\Cl y.1 y.2 u:=by
 obtain⟨s,k⟩:=x;cases k with
 | unk no=>cases s <;> cases hx
 | num n=>cases s <;> cases hx
 | con c ps=>
  obtain⟨ns,ss,sv,parts,pv,rfl,rfl,h1,h2,h3,h4⟩:=hk.dest;simp only[JD,List.getD,h2,GG]at hx;obtain⟨hi,e⟩:=Ac.1 hx;obtain⟨e',he,u,rfl,hu⟩:=h4.ix hi;rw[e]at hu;exact⟨sv,_,_,pv,rfl,h1.AA,h4.AA,u,he,hu⟩
theorem c127{x y:Sh×KV}{v pv:AV}{path:List Nat}(hk:Cl x.1 x.2 v)(hp:SlR CV 1 (DX path) pv)(hl:path.length<1048577)(hy:atK path x=some y):∃ u,Cl y.1 y.2 u/\∀ h,AH MX (AG MX) 127 [v,pv] h=some (.ret u,h):=by
 have hnl:(DX path).length=path.length:=by simp[DX]
 obtain⟨e,st,hlp,hq⟩:=AQ (M:=MX) (fid:=127) (N:=22) (C:=AG MX) (c:=AL f127 0) (n:=path.length)
  (fun i (b:(Sh×KV)×AV)=>([(0,b.2),(7,pv),(8,.int .i64 path.length),(9,.int .i64 i)],[]))
  (fun i b=>Cl b.1.1 b.1.2 b.2/\atK (path.drop i) b.1=some y)
  (fun r=>∃ u,r=(.ext 0,([(0,u),(7,pv),(8,.int .i64 path.length),(9,.int .i64 path.length),(10,.bool false)],[]))/\Cl y.1 y.2 u) (fun i b hi hI=>by
    obtain⟨x,v⟩:=b;obtain⟨i1,i2⟩:=hI;simp only at i1 i2;have hi':=Aa hi;have hwr:=AZ hi hl;obtain⟨e,he,hR⟩:=hp.ix (i:=i) (by omega);have hel:(DX path)[i]'(by omega)=(path[i]:Int):=(by simp[DX]);rw[hel]at hR;subst hR;rw[EJ hi,atK]at i2;obtain⟨z,hz,i2⟩:=Gd.1 i2;obtain⟨sv,a,b,qv,rfl,n1,n2,u,hu,hku⟩:=i1.step hz;obtain⟨us,rfl⟩:=hku.ro;exact .inl ⟨(z,.ro us),by simp[f127,hi',he,hu,hwr],hku,i2⟩) (fun b hI=>by
    obtain⟨x,v⟩:=b;obtain⟨i1,i2⟩:=hI;simp only at i1 i2;rw[DD,atK]at i2;cases i2;exact⟨_,_,by simp[f127] <;> first | exact⟨rfl,rfl⟩ | rfl,by simp,v,rfl,i1⟩) (x,v) ⟨hk,hy⟩
 simp[f127]at hlp;obtain⟨u,hq,hu⟩:=hq;cases hq;obtain⟨us,rfl⟩:=hu.ro;obtain⟨vs,rfl⟩:=hk.ro;have hlen:=hp.len;rw[hnl]at hlen;exact⟨_,hu,fun h=>Ae Yo cX (by simp[AV.AA,hp.AA]) rfl (hr:=[]) (by simp[AJ,f127,hlen,hlp]) h⟩
def Gv:List Nat->KV->KV->KV
 | [],_,own=>own
 | i::r,.con c ps,own=> .con c (ps.set i (Gv r (ps.getD i default) own))
 | _::_,k,_=>k
theorem jL{α:Type}{R:α->List AV->Prop}{sz:Nat}{l:List α}{v:AV}(hv:SlR R sz l v)(hi:0<l.length):∃ w,slA sz v (some (.int .i64 1)) none none=some w/\SlR R sz (l.drop 1) w:=by
 rcases hv with⟨rfl,rfl⟩ | ⟨ex,es,rfl,hl,hr⟩
 .simp at hi
 .have h0:(1:Int)<=es.length:=by omega
  have h1:Fq (es.length:Int) es.length=some es.length:=by simp[Fq]
  have h2:Fq 1 es.length=some 1:=by simp[Fq,h0]
  refine⟨.sl sz ex ((es.drop 1).take (es.length - 1)),by simp[slA,C8,Go.Am.intOf,h1,h2,Ay,K0],.inr ⟨_,_,rfl,by simp[hl],fun j a e h3 h4 => ?_⟩⟩;have e1:(es.drop 1).take (es.length - 1)=es.drop 1:=DU (by simp);rw[e1]at h4;rw[IZ]at h3 h4;exact hr _ a e h3 h4
theorem eq172(a:Nat)(b:Bool)(c:List (List AV)):eqA (und MX.ty 172) (.sl a b c) .AI=some false:=by
 have:und MX.ty 172=some (.slice 124):=by kernel_rfl
 rw[this];rfl
theorem c168{α:Type}{R:α->List AV->Prop}{l:List α}{v:AV}(hv:SlR R 1 l v)(hl:l.length<1048577)(h0:l≠[])(H:AE):∃ es:List (List AV),es.length=l.length/\(∀(i:Nat) a e,l[i]? = some a->es[i]? = some e->R a e)/\AH MX (AG MX) 168 [v] H=some (.ret (.hs H.length es.length 1 0 es.length false),H++[.arr 1 false es]):=by
 obtain⟨es,h1,h2,h3⟩:=KP (byt:=8) hv (by decide) (by decide) hl H;rcases h3 with⟨hn,_⟩ | ⟨_,h3⟩
 .exact absurd hn h0
 .refine⟨es,h1,h2,CU Y4 dA ?_⟩;rcases hv with⟨hn,_⟩ | ⟨ex,es',rfl,_,_⟩
  .exact absurd hn h0
  .simp[AJ,f168,bsA,Ag,h3,eq172]
theorem c128{own:KV}{y:Sh×KV}{ov:AV}(ho:Cl y.1 own ov):∀(path:List Nat) (x:Sh×KV) (v pv:AV),Cl x.1 x.2 v->SlR CV 1 (DX path) pv->path.length<1048577->atK path x=some y->∃ u,Cl x.1 (Gv path x.2 own) u/\∀ h,AH MX (AG MX) 128 [v,pv,ov] h=some (.ret u,h)
 | [],x,v,pv,hk,hp,_,hy=>by
  cases hy;obtain⟨os,rfl⟩:=ho.ro;exact⟨_,ho,fun h=>Ae R7 VJ (by simp[AV.AA,hp.AA,hk.AA]) rfl (hr:=[]) (by simp[AJ,Tryz.f128,hp.len,DX]) h⟩
 | i::r,(s,k),v,pv,hk,hp,hl,hy=>by
  simp only[DC]at hl;rw[atK]at hy;obtain⟨z,hz,hy⟩:=Gd.1 hy;have hb:=Wp;simp[Ab,Az,Tryz.f128]at hb;cases k with
  | unk no=>cases s <;> cases hz
  | num n=>cases s <;> cases hz
  | con c ps=>
   obtain⟨ns,ss,sv,parts,qv,rfl,rfl,hs,hc,hpl,hq⟩:=hk.dest;simp only[JD,List.getD,hc,GG]at hz;obtain⟨hi,hze⟩:=Ac.1 hz;have hiz:i<parts.length/\i<ps.length:=(by simp at hi;omega);rw[GW]at hze;subst hze;obtain⟨cv,hsv,_,_,hsp,_⟩:=hs.cons;have hpb:parts.length<1048577:=hsp _ (Bs hc);have hzl:(parts.zip ps).length=parts.length:=(by simp;omega);have hzn:parts.zip ps≠[]:=fun e=>by rw[e]at hzl;simp at hzl;omega
   obtain⟨e0,he0,u0,rfl,hu0⟩:=hq.ix hi;rw[GW]at hu0;obtain⟨e1,he1,hR1⟩:=hp.ix (i:=0) (by simp[DX]);have hR1':e1=[.int .i64 (i:Int)]:=hR1;subst hR1';obtain⟨p1,hsl,hp1⟩:=jL hp (by simp[DX]);have hp1':SlR CV 1 (DX r) p1:=hp1;obtain⟨u,hu,hcall⟩:=c128 ho r _ u0 p1 hu0 hp1' (by omega) hy;obtain⟨es,hel,her,h168⟩:=c168 hq (by omega) hzn [.var false [sv,.int .i64 c,.int .i64 (-1),.AI,qv]];have hie:i<es.length:=(by omega);have hlen1:(DX (i::r)).length=r.length+1:=(by simp[DX]);obtain⟨us,rfl⟩:=hu.ro;obtain⟨us0,rfl⟩:=hu0.ro;obtain⟨os,rfl⟩:=ho.ro;have hsn:=hs.AA;obtain⟨svs,rfl⟩:=hs.ro;have hnr:(es.set i [.ro us]).all AF=true:=by
    rw[ER];intro e he;rcases QM he with he | rfl
    .obtain⟨j,hj,rfl⟩:=Gt he;obtain⟨w,hw,hkw⟩:=her j _ _ (AO (by omega)) (AO hj);rw[hw];simp[AF,hkw.AA]
    .rfl
   have hgd:ps.getD i default=ps[i]'hiz.2:=(by simp[List.getD,AO hiz.2]);have hrep:Cl (.cons ns ss) (Gv (i::r) (.con c ps) own) (.ro [.ro svs,.int .i64 c,.int .i64 (-1),.AI,.sl 1 false (es.set i [.ro us])]):=by
    rw[Gv,hgd];refine Cl.intro hs hc (by simp;omega) (.inr ⟨false,_,rfl,by simp;omega,fun j a e g1 g2 => ?_⟩);have hj:j<parts.length:=by
     have:=(Ac.1 g1).1;simp at this;omega
    rw[AO (by simp;omega),GW]at g1;cases g1;by_cases hji:j=i
    .subst hji;rw[CM (by omega)]at g2;cases g2;refine⟨_,rfl,?_⟩;simpa using hu
    .rw[BP (fun e=>hji e.symm)]at g2;have:=her j (parts[j],ps[j]'(by omega)) e (by rw[AO (by omega),GW]) g2;simpa[List.getElem_set_ne (fun e=>hji e.symm)]using this
   refine⟨_,hrep,fun h=>Jk R7 VJ (by simp[AV.AA,hp.AA]) (v:=.hp 0 0) (IW (K:=7) (b:=false) (b':=false) (id:=0) (cs:=[.ro svs,.int .i64 c,.int .i64 (-1),.AI,.hs 1 es.length 1 0 es.length false]) (cs2:=[.ro svs,.int .i64 c,.int .i64 (-1),.AI,.hs 1 es.length 1 0 es.length false]) (h:=[.var false [.ro svs,.int .i64 c,.int .i64 (-1),.AI,.hs 1 es.length 1 0 es.length false],.arr 1 false (es.set i [.ro us])]) (h':=[.var false [.ro svs,.int .i64 c,.int .i64 (-1),.AI,.hs 1 es.length 1 0 es.length false],.arr 1 true (es.set i [.ro us])]) rfl ?_ rfl) (by decide) hrep.AA (fun h=>by cases h) ?_ h⟩
   .refine(BK.cons (.flat rfl _) (.cons (.flat rfl _) (.cons (.flat rfl _) (.cons (.flat rfl _) (.cons (K:=1) (c':=.sl 1 false (es.set i [.ro us])) (fun n => ?_) (.nil _)))))).mono (by decide);have hb2:(Nat.beq (es.set i [.ro us]).length es.length&&Nat.beq 1 1&&Nat.ble (0+es.length) (es.set i [.ro us]).length&&(es.set i [.ro us]).all AF)=true:=(by simp only[hnr];simp[Ay,A6]);show snap (n+1) _ _=_;simp only[snap,Jq,Gs,hb2];simp[DU]
   .have hll:=hp.len;obtain⟨M,hM⟩:∃ M,M=(DX (i::r)).length:=⟨_,rfl⟩;rw[<- hM]at hll;have hgt:((M:Int) == 0)=false:=(by rw[beq_eq_false_iff_ne];omega);simp only[Ej,Ev]at h168;have hixw:ixA 1 (.hs 1 es.length 1 0 es.length false) (.int .i64 i)=some (.ep 1 es.length 1 i 0):=(by rw[ED (kd:=.i64) (hi:=hie),DW]);obtain⟨w0,hw0,_⟩:=her i _ _ (AO hi) (AO hie);have hesi:es[i]? = some [w0]:=(by rw[AO hie,hw0]);have he1':ixA 1 pv (.int .i64 0)=some (.ro [.int .i64 (i:Int)]):=he1 .i64;simp[AJ,Tryz.f128,hll,hgt,h168,he1',he0,hsl,hcall,hb,AF,AV.AA,hp.AA,hp1.AA,hq.AA,hixw,hesi] <;> rfl
theorem jM:und MX.ty 39=some (.slice 3):=by kernel_rfl
theorem undY3:und MX.ty 3=some (.int .i64):=by kernel_rfl
theorem ae:EL MX.ty 3=some [.int .i64 0]:=by kernel_rfl
theorem gK:siz MX.ty 3=1:=by kernel_rfl
theorem bytY3:byt MX.ty 3=8:=by kernel_rfl
theorem ej(n:Nat)(z:Int)(hz:z=n)(h0:0<n)(h1:n<=16777216)(H:AE):Ad MX.ty .append [39,3] [.AI,.int .i64 z] H=some (.val (.hs H.length n 1 0 n false) (H++[.arr 1 false (List.replicate n [.int .i64 0])])):=by
 have hn:(0:Int)<=z/\z<=17592186044416:=by omega
 obtain⟨y,ys,hy,hl⟩:∃ y ys,List.replicate n [AV.int .i64 0]=y::ys/\ys.length+1=n:=by
  cases n with
  | zero=>omega
  | succ m=>exact⟨_,_,List.replicate_succ,by simp⟩
 have hd:decide ((0:Int)<=z/\z<=17592186044416)=true:=decide_eq_true hn;have ht:z.toNat=n:=by omega
 have hadd:Nu MX.ty 3 true (.int .i64 z) H=some (y::ys):=by
  unfold Nu;simp only[ae,gK,hd,ht,hy];rfl
 have hs:Bu 1 AV.AI=true:=rfl;have b1:(0+(y::ys).length) * 8<=17592186044416:=Cz (Lm (show 0+(y::ys).length<=16777216 by simp;omega) (Cd 8)) (by decide);have b2:0+(y::ys).length<=17592186044416:=Cz (show 0+(y::ys).length<=16777216 by simp;omega) (by decide);have hc:(Bu 1 AV.AI&&Nat.blt 0 1&&Nat.ble ((0+(y::ys).length) * 8) 17592186044416&&Nat.ble (0+(y::ys).length) 17592186044416&&(some [AV.int .i64 0]).isSome)=true:=by
  rw[HR.2 b1,HR.2 b2];rfl
 unfold Ad;simp only[undY3,Io];unfold NL;simp only[jM,hadd,Fs,gK,bytY3,ae,hc];rw[hy];have hl2:(y::ys).length=n:=hl;simp only[OR.D4,Aw,hl2]
theorem wr0:wr .i64 0=0:=rfl
theorem Oz(h:AE):fq .AI h=some (.val (.int .i64 0) h):=rfl
theorem c192z(H:AE):AH MX (AG MX) 192 [.AI,.int .i64 0] H=some (.ret .AI,H):=CU SR Vd (by simp[AJ,f192,Oz,wr0])
theorem c192(n:Nat)(z:Int)(hz:z=n)(h0:0<n)(h1:n<=16777216)(H:AE):AH MX (AG MX) 192 [.AI,.int .i64 z] H=some (.ret (.hs H.length n 1 0 0 false),H++[.arr 1 false (List.replicate n [.int .i64 0])]):=by
 have g0:decide (z<0)=false:=decide_eq_false (by omega);have g1:decide (0<z)=true:=decide_eq_true (by omega);have hw:wr .i64 z=z:=BU (by omega) (by omega);have hap:=ej n z hz h0 h1 H;have hs1:slA 1 .AI none (some (.int .i64 0)) none=some .AI:=rfl;have hs2:slA 1 (.hs H.length n 1 0 n false) none (some (.int .i64 0)) none=some (.hs H.length n 1 0 0 false):=by
  simp[slA,C8,Go.Am.intOf,Fq,K0,Ay]
 refine CU SR Vd ?_;have e0:(z<0)=False:=by rw[eq_iff_iff];exact⟨fun h=>by omega,fun h=>h.elim⟩
 have e1:(0<z)=True:=by rw[eq_iff_iff];exact⟨fun _=>trivial,fun _=>by omega⟩
 simp[AJ,f192,e0,e1,hw,hap,hs1,hs2,Oz,wr0]
def IX(N:Nat)(H:AE)(w:AV)(es:List (List AV)):Prop:=(N=0/\w=.AI/\H=[]/\es=[])\/(0<N/\es.length<=N/\w=.hs 0 N 1 0 es.length false/\H=[.arr 1 false (es++List.replicate (N - es.length) [.int .i64 0])])
theorem IX.cells{N:Nat}{H:AE}{w:AV}{es:List (List AV)}(h:IX N H w es):w.cells=some [w]:=by
 rcases h with⟨_,rfl,_,_⟩ | ⟨_,_,rfl,_⟩ <;> rfl
theorem IX.push{N:Nat}{H:AE}{w x:AV}{es xs:List (List AV)}(h:IX N H w es)(hN:N<=16777216)(hx:∀ H,Ax H x=some xs)(hs:Bu 1 x=true)(hnx:∀ b,x≠.str b)(hl:es.length+xs.length<=N):∃ w' H',apA 1 8 w x H=some (w',H')/\IX N H' w' (es++xs):=by
 have hap:∀ n,Fs w=some n->apA 1 8 w x H=apX 1 8 w xs n H:=fun n hl=>by
  unfold apA;cases x with
  | str b=>exact absurd rfl (hnx b)
  | _=>first | simp only[hs,hx,hl] | (have:=hx [];simp only[Ax]at this;cases this)
 rcases h with⟨rfl,rfl,rfl,rfl⟩ | ⟨h0,h1,rfl,rfl⟩
 .have:xs=[]:=EH (by simpa using hl);subst this;exact⟨.AI,[],by rw[hap 0 rfl];rfl,.inl ⟨rfl,rfl,rfl,rfl⟩⟩
 .rw[hap es.length rfl];cases xs with
  | nil=>
   refine⟨.hs 0 N 1 0 es.length false,[.arr 1 false (es++List.replicate (N - es.length) [.int .i64 0])],?_,.inr ⟨h0,by simpa using h1,by simp,by simp⟩⟩;have b1:es.length * 8<=17592186044416:=(by omega);have b2:es.length<=17592186044416:=(by omega);simp[apX,Bu,BF,Ay,A6,Bt,b1,b2]
  | cons y ys=>
   simp only[DC]at hl;have b1:(es.length+(ys.length+1)) * 8<=17592186044416:=(by omega);have b2:es.length+(ys.length+1)<=17592186044416:=(by omega);have e1:es.length+(N - es.length)=N:=(by omega);have e2:¬ es.length=N:=(by omega);have e3:¬ N<es.length+(ys.length+1):=(by omega);refine⟨.hs 0 N 1 0 (es.length+(ys.length+1)) false,[.arr 1 false ((es++y::ys)++List.replicate (N - (es.length+(ys.length+1))) [.int .i64 0])],?_,.inr ⟨h0,by simp;omega,by simp,by simp⟩⟩;have e4:N - es.length - (ys.length+1)=N - (es.length+(ys.length+1)):=(by omega);have e5:List.drop (es.length+(ys.length+1)) es=[]:=Jr (by omega);simp[apX,Bu,BF,Ay,A6,Bt,b1,b2,e1,e2,e3,hl,h1,List.take_append,List.drop_append,e4,e5]
theorem SlR.rdU{α:Type}{R:α->List AV->Prop}{sz:Nat}{l:List α}{v:AV}(hv:SlR R sz l v):∃ es,(∀ H,Ax H v=some es)/\Bu sz v=true/\(∀ b,v≠.str b)/\es.length=l.length/\∀(i:Nat) a e,l[i]? = some a->es[i]? = some e->R a e:=by
 rcases hv with⟨rfl,rfl⟩ | ⟨ex,es,rfl,hl,hr⟩
 .exact⟨[],fun _=>rfl,rfl,(fun b h=>by cases h),rfl,fun i a e h=>by simp at h⟩
 .exact⟨es,fun _=>rfl,by simp[Bu,BF,Ay],(fun b h=>by cases h),hl,hr⟩
theorem TC{α:Type}{R:α->List AV->Prop}{l m:List α}{es fs:List (List AV)}(h1:es.length=l.length)(h2:∀(i:Nat) a e,l[i]? = some a->es[i]? = some e->R a e)(h3:fs.length=m.length)(h4:∀(i:Nat) a e,m[i]? = some a->fs[i]? = some e->R a e):(es++fs).length=(l++m).length/\∀(i:Nat) a e,(l++m)[i]? = some a->(es++fs)[i]? = some e->R a e:=by
 refine⟨by simp[h1,h3],fun i a e a1 a2 => ?_⟩;by_cases hi:i<l.length
 .rw[A9 hi]at a1;rw[A9 (by omega)]at a2;exact h2 i a e a1 a2
 .rw[En (by omega)]at a1;rw[En (by omega)]at a2;rw[h1]at a2;exact h4 _ a e a1 a2
def TD(a b:Int):Nat->Int
 | 0=>0
 | 1=>a
 | _=>a+b
def QE(a b:List (List AV)):Nat->List (List AV)
 | 0=>[]
 | 1=>a
 | _=>a++b
theorem c172{a b:List Int}{av bv:AV}(ha:SlR CV 1 a av)(hb:SlR CV 1 b bv)(hla:a.length<1048577)(hlb:b.length<1048577):∃ w,SlR CV 1 (a++b) w/\∀ ex h,AH MX (AG MX) 172 [.sl 1 ex [[av],[bv]]] h=some (.ret w,h):=by
 obtain⟨ea,a1,a2,a3,a4,a5⟩:=SlR.rdU ha;obtain⟨eb,b1,b2,b3,b4,b5⟩:=SlR.rdU hb;obtain⟨r1,r2⟩:=TC a4 a5 b4 b5;have hR:∀ a e,CV a e->AF e=true:=Ks;have hnr:=BN r1 r2 hR;obtain⟨N,hN⟩:∃ N,N=a.length+b.length:=⟨_,rfl⟩;have hrun:∀ ex,∃ w H',AJ MX 172 [.sl 1 ex [[av],[bv]]] []=some (.ret w,H')/\IX N H' w (ea++eb):=fun ex=>by
  obtain⟨V,hV⟩:∃ V,V=AV.sl 1 ex [[av],[bv]]:=⟨_,rfl⟩;have hlen:∀ H,Bi V H=some (.val (.int .i64 2) H):=fun H=>by subst hV;rfl
  have hx0:ixA 1 V (.int .i64 0)=some (.ro [av]):=by subst hV;rfl
  have hx1:ixA 1 V (.int .i64 1)=some (.ro [bv]):=by subst hV;rfl
  rw[<- hV];have ca:=ha.cells;have cb:=hb.cells;obtain⟨x,hx⟩:∃ x:Int,x=a.length:=⟨_,rfl⟩;obtain⟨y,hy⟩:∃ y:Int,y=b.length:=⟨_,rfl⟩;obtain⟨z,hz⟩:∃ z:Int,z=x+y:=⟨_,rfl⟩;have hlx:∀ H,Bi av H=some (.val (.int .i64 x) H):=fun H=>by rw[hx];exact ha.len H
  have hly:∀ H,Bi bv H=some (.val (.int .i64 y) H):=fun H=>by rw[hy];exact hb.len H
  have hw1:wr .i64 1=1:=rfl;have hw2:wr .i64 2=2:=rfl;obtain⟨e,st,hlp,hq⟩:=AQ (M:=MX) (fid:=172) (N:=36) (C:=AG MX) (c:=AL f172 0) (n:=2)
   (fun i (_:Unit)=>([(0,V),(3,.int .i64 (TD x y i)),(9,V),(10,.int .i64 2),(11,.int .i64 i)],[])) (fun _ _=>True)
   (fun r=>r=(.ext 0,([(0,V),(3,.int .i64 z),(9,V),(10,.int .i64 2),(11,.int .i64 2),(12,.bool false)],[]))) (fun i _ hi _=>by
     match i,hi with
     | 0,_=>
      have hw:wr .i64 x=x:=BU (by omega) (by omega);have hg:¬ (x<0):=(by omega);exact .inl ⟨(),by simp[f172,hx0,TD,hlx,hw,hg,ca,hw1,hw2],trivial⟩
     | 1,_=>
      have hw:wr .i64 (x+y)=x+y:=BU (by omega) (by omega);have hg:¬ (x+y<0):=(by omega);exact .inl ⟨(),by simp[f172,hx1,TD,hly,hw,hg,cb,hw1,hw2],trivial⟩) (fun _ _=>by
     exact⟨_,_,by simp[f172] <;> first | exact⟨rfl,rfl⟩ | rfl,by simp,by simp[TD,hz]⟩) () trivial
  cases hq;simp[f172,TD]at hlp;have hgrow:∃ w0 H0,AH MX (AG MX) 192 [.AI,.int .i64 z] []=some (.ret w0,H0)/\IX N H0 w0 []:=by
   by_cases hz0:N=0
   .have z0:z=0:=(by omega);rw[hz0,z0];exact⟨.AI,[],c192z [],.inl ⟨rfl,rfl,rfl,rfl⟩⟩
   .exact⟨_,_,c192 N z (by omega) (by omega) (by omega) [],.inr ⟨by omega,by simp,rfl,by simp⟩⟩
  obtain⟨w0,H0,hg1,hg2⟩:=hgrow;obtain⟨e,st,hlp2,hq⟩:=AQ (M:=MX) (fid:=172) (N:=36) (C:=AG MX) (c:=AL f172 1) (n:=2)
   (fun i (b:AV×AE)=>([(6,b.1),(25,V),(26,.int .i64 2),(27,.int .i64 i)],b.2)) (fun i b=>IX N b.2 b.1 (QE ea eb i))
   (fun r=>∃ w H',r=(.ext 2,([(6,w),(25,V),(26,.int .i64 2),(27,.int .i64 2),(28,.bool false)],H'))/\IX N H' w (ea++eb)) (fun i b hi hI=>by
     obtain⟨w,H⟩:=b
     match i,hi with
     | 0,_=>
      obtain⟨w',H',h1,h2⟩:=IX.push hI (by omega) a1 a2 a3 (by simp[QE];omega);have hc:=h2.cells;exact .inl ⟨(w',H'),by simp[f172,hx0,h1,ca,hc,hw1,hw2],by simpa[QE]using h2⟩
     | 1,_=>
      obtain⟨w',H',h1,h2⟩:=IX.push hI (by omega) b1 b2 b3 (by simp[QE];omega);have hc:=h2.cells;exact .inl ⟨(w',H'),by simp[f172,hx1,h1,cb,hc,hw1,hw2],by simpa[QE]using h2⟩) (fun b hI=>by
     obtain⟨w,H⟩:=b;exact⟨_,_,by simp[f172] <;> first | exact⟨rfl,rfl⟩ | rfl,by simp,w,H,rfl,by simpa[QE]using hI⟩) (w0,H0) hg2
  obtain⟨w,H',hq,hG⟩:=hq;cases hq;simp[f172]at hlp2;exact⟨w,H',by simp[AJ,f172,hlen,hlp,hg1,hg2.cells,hG.cells,hlp2],hG⟩
 by_cases hz:N=0
 .have ea0:ea=[]:=EH (by omega);have hab:a++b=[]:=EH (by rw[E2];omega);refine⟨.AI,.inl ⟨hab,rfl⟩,fun ex h => ?_⟩;obtain⟨w,H',h1,h2⟩:=hrun ex;rcases h2 with⟨_,rfl,_,_⟩ | ⟨h0,_⟩
  .exact Ae SP Va (by simp[AV.AA]) rfl h1 h
  .omega
 .refine⟨.sl 1 false (ea++eb),.inr ⟨false,_,rfl,r1,r2⟩,fun ex h => ?_⟩;obtain⟨w,H',h1,h2⟩:=hrun ex;rcases h2 with⟨h0,_⟩ | ⟨h0,g1,rfl,rfl⟩
  .exact absurd h0 hz
  .have hl:(ea++eb).length=N:=(by simp;omega);rw[hl,Nat.sub_self]at h1;simp only[List.replicate_zero,Hg]at h1;refine Jj SP Va (by simp[AV.AA]) rfl (hr':=[.arr 1 true (ea++eb)]) ?_ rfl h1 h;have hb2:(Nat.beq (ea++eb).length N&&Nat.beq 1 1&&Nat.ble (0+N) (ea++eb).length&&(ea++eb).all AF)=true:=(by rw[hl,hnr];simp[Ay,A6]);show snap (9999999+1) _ _=_;simp only[snap,Gs,hb2];have ht:List.take N (ea++eb)=ea++eb:=DU (by omega);simp[ht]
theorem c133{w:Int}{k:KV}{l:List Int}{v lv:AV}(hk:Cl (.bit w) k v)(hl:SlR CV 1 l lv)(h12:(Gc k).length+l.length<1048577):∃ u,Cl (.bit w) (.unk (Gc k++l)) u/\∀ h,AH MX (AG MX) 133 [v,lv] h=some (.ret u,h):=by
 obtain⟨nov,a,rfl,hno,h1,_⟩:=hk.JW;have h2:l.length<1048577:=by omega
 have hs:SrX (.bit w) (.ro [.int .i64 w,.AI]):=by
  obtain⟨sv,_,_,_,_,e,hs⟩:=hk.sort;cases e;exact hs
 obtain⟨q,hq,hcall⟩:=c172 hno hl h1 h2;have hb:=Ws;simp[Ab,Az,f133]at hb;have hr:Cl (.bit w) (.unk (Gc k++l)) _:=Cl.unk hs hq (by simp;omega);have hqn:=hq.AA;have hqf:q.flat=true:=by rcases hq with⟨_,rfl⟩ | ⟨_,_,rfl,_⟩ <;> rfl
 have hc:=hq.cells;have hcn:=hno.cells;have hcl:=hl.cells;exact⟨_,hr,fun h=>Jk SB cj (by simp[AV.AA,hl.AA]) (IW (b:=false) (b':=false) (id:=0) (cs2:=[.ro [.int .i64 w,.AI],.int .i64 (-1),.int .i64 (-1),q,.AI]) rfl (.cons (.flat rfl _) (.cons (.flat rfl _) (.cons (.flat rfl _) (.cons (.flat hqf _) (.cons (.flat rfl _) (.nil _)))))) rfl) (by decide) hr.AA (fun h=>by cases h) (hr:=_) (by simp[AJ,f133,bsA,Ag,hcall,hb,hc,hcn,hcl,AF,AV.AA,hno.AA,hl.AA,hqn] <;> rfl) h⟩
end
section
attribute [local simp] Dc Bn Ec Dd CQ Dx Dy Ey BZ Ap Bh Av Gb FR EN HO D9 A5 FN EO HP HQ xUn FC EA FT BG DQ BH EB BI EC Ce Ca Bv BL EP Eo
 ev evs C4 DP OR.ofV OR.D4 OR.ofC Fg Tm.get Tm.init Tm.only Ay A6 Bt finish CK DS Hb D3 D7 unA Bz Bc B6 Bd Cp Cq Cr Be Cs Ct Bf Cu Cv Bg B7 AL CP Bb Cn Co Bx Ez E0 E1 Dz D0 Fo F7 F8 Fp stA BA DY Bo DR FD Gp B8 C1 CI FU Gq
attribute [local simp] DE CT Cb Bl DF DG DH DI DJ DK DL Ef Cg Eg Dh FW FX Gi Di Eh Dj BQ Dk BR Dl B9 Ei Ch FY FZ Fa Ci Dm Dn Fb Gj Fc Gk Gl Dp BS Cj CA Dq Dr Ck
namespace Lg
theorem LU{H:AE}{id m n:Nat}{es:List (List AV)}{row:List AV}(h:H[id]? = some (.arr 4 false es))(hn:H[n]? = some (.arr 4 false [row]))(hm:m<=es.length)(hm0:es≠[])(hl:m<4294967296) :
 ∃ es3,apA 4 56 (.hs id es.length 4 0 m false) (.hs n 1 4 0 1 false) H=some (.hs id es3.length 4 0 (m+1) false,H.set id (.arr 4 false es3))/\m+1<=es3.length/\es3.length<=max es.length (m+1)/\(∀ j,j<m->es3[j]? = es[j]?)/\es3[m]? = some row:=by
 have hrd:Ax H (.hs n 1 4 0 1 false)=some [row]:=by simp[Ax,hn,Ay,A6]
 have e2:(m+1) * 56<=17592186044416:=by omega
 have e3:m+1<=17592186044416:=by omega
 by_cases hme:m=es.length
 .subst hme;refine⟨es++[row],?_,by simp,by simp,fun j hj=>A9 hj,by simp⟩;simp[apA,apX,hrd,Bu,BF,Fs,Aw,Ay,A6,Bt,e2,e3,h]
 .have hml:m<es.length:=by omega
  have hlen:(es.take m++[row]++es.drop (m+1)).length=es.length:=by simp;omega
  refine⟨es.take m++[row]++es.drop (m+1),?_,by rw[hlen];omega,by rw[hlen];omega,fun j hj => ?_,?_⟩
  .rw[hlen];have b1:Nat.beq m es.length=false:=(by rw[No];simp[Br];omega);have b2:decide (es.length<m+1)=false:=(by simp;omega);have b3:decide (m+1<=es.length)=true:=(by simp;omega);simp[apA,apX,hrd,Bu,BF,Fs,Aw,Ay,A6,Bt,e2,e3,h,hme,Jg hml,b2,b3,show ¬ es.length<m+1 by omega,show m+1<=es.length by omega]
  .rw[CO,A9 (by simp;omega),K5 hj]
  .rw[CO,En (by simp;omega)];simp[Ns (Jg hml)]
def HA(st:List (TyV×Int))(es:List (List AV)):Prop:=st.length<=es.length/\∀(i:Nat) q e,st[i]? = some q->es[i]? = some e->∃ xs,A4 q.1 xs/\e=xs++[.int .i64 q.2]
theorem c103{p:TyV}{pv:AV}(H:AE):AH MX (AG MX) 103 [.agg [.str p.nm,.int .i64 p.v,pv]] H=some (.ret pv,H++[.var false [.str p.nm,.int .i64 p.v,pv]]):=by
 exact BE Yf cM (by simp[AJ,f103])
theorem af{H0:AE}{p:TyV}{pv:AV}(hp:SlR A4 3 p.ps pv)(hpl:p.ps.length<1048577){d:Int}(hd0:0<=d)(hd1:d<=40){k:Nat}{st:List (TyV×Int)}{x0:AV}{L:Nat}{B0:Blk}{es:List (List AV)}{rest:AE}(hL:(B0::.arr 4 false es::rest)[L]? = some (.var false [.str p.nm,.int .i64 p.v,x0,.int .i64 d]))(hrep:HA st es)(hne:es≠[])(hL2:2<=L)(hsz:es.length<=1+k * 1048577)(hst:st.length<=1+k * 1048577)(hk:k<=200) :
 ∃(es':List (List AV)) (rest':AE),E5 MX 102 54 (AG MX) (AL f102 1) ([(1,.fn 103 [] []),(5,.int .i64 (k+1:Nat)),(6,.hs 1 es.length 4 0 st.length false),(7,.hp L 0),(39,pv),(40,.int .i64 p.ps.length),(41,.int .i64 (0:Nat))],B0::.arr 4 false es::rest) =
  some (.ext 2,([(1,.fn 103 [] []),(5,.int .i64 (k+1:Nat)),(6,.hs 1 es'.length 4 0 (st.length+p.ps.length) false),(7,.hp L 0),(39,pv),(40,.int .i64 p.ps.length),(41,.int .i64 p.ps.length),(42,.bool false)],B0::.arr 4 false es'::rest')) /\
  HA (st++p.ps.map fun y=>(y,d+1)) es'/\es'≠[]/\es'.length<=1+(k+1) * 1048577:=by
 have wD:wr .i64 (d+1)=d+1:=BU (by omega) (by omega);obtain⟨e,s,hlp,hq⟩:=AQ (M:=MX) (fid:=102) (N:=54) (C:=AG MX) (c:=AL f102 1) (n:=p.ps.length)
  (fun j (b:List (List AV)×AE)=>([(1,.fn 103 [] []),(5,.int .i64 (k+1:Nat)),(6,.hs 1 b.1.length 4 0 (st.length+j) false),(7,.hp L 0),(39,pv),(40,.int .i64 p.ps.length),(41,.int .i64 j)],B0::.arr 4 false b.1::b.2))
  (fun j b=>(B0::.arr 4 false b.1::b.2)[L]? = some (.var false [.str p.nm,.int .i64 p.v,x0,.int .i64 d])/\HA (st++(p.ps.take j).map fun y=>(y,d+1)) b.1/\b.1≠[]/\b.1.length<=1+k * 1048577+j)
  (fun r=>∃ b:List (List AV)×AE,r=(.ext 2,([(1,.fn 103 [] []),(5,.int .i64 (k+1:Nat)),(6,.hs 1 b.1.length 4 0 (st.length+p.ps.length) false),(7,.hp L 0),(39,pv),(40,.int .i64 p.ps.length),(41,.int .i64 p.ps.length),(42,.bool false)],B0::.arr 4 false b.1::b.2)) /\
    HA (st++p.ps.map fun y=>(y,d+1)) b.1/\b.1≠[]/\b.1.length<=1+(k+1) * 1048577) (fun j b hj hI=>by
    obtain⟨es1,r1⟩:=b;obtain⟨i1,i2,i3,i4⟩:=hI;simp only at i1 i2 i3 i4;have hj':=Aa hj;have hw:=AZ hj hpl;obtain⟨fe,hfe,hR⟩:=hp.ix hj;obtain⟨qv,rfl,hqv⟩:=hR.AY;let H1:=B0::.arr 4 false es1::(r1++[Blk.var false [.str p.ps[j].nm,.int .i64 p.ps[j].v,qv],.arr 4 false [[.str p.ps[j].nm,.int .i64 p.ps[j].v,qv,.int .i64 (d+1)]]]);have hlen:(st++(p.ps.take j).map fun y=>(y,d+1)).length=st.length+j:=(by simp;omega);have i2a:=i2.1;rw[hlen]at i2a;obtain⟨es3,a1,a2,a3,a4,a5⟩:=LU (H:=H1) (id:=1) (n:=r1.length+3) (row:=[.str p.ps[j].nm,.int .i64 p.ps[j].v,qv,.int .i64 (d+1)]) rfl (by simp[H1]) i2a i3 (by omega);have hset:H1.set 1 (.arr 4 false es3)=B0::.arr 4 false es3::(r1++[Blk.var false [.str p.ps[j].nm,.int .i64 p.ps[j].v,qv],.arr 4 false [[.str p.ps[j].nm,.int .i64 p.ps[j].v,qv,.int .i64 (d+1)]]]):=rfl;rw[hset]at a1;simp only[H1]at a1;have hLl:=(Ac.1 i1).1;simp only[DC]at hLl;obtain⟨L',rfl⟩:∃ L',L=L'+2:=⟨L - 2,by omega⟩;have i1':r1[L']? = some (.var false [.str p.nm,.int .i64 p.v,x0,.int .i64 d]):=(by simpa using i1);have hL':∀ T:AE,(B0::.arr 4 false es1::(r1++T))[L'+2]? = some (.var false [.str p.nm,.int .i64 p.v,x0,.int .i64 d]):=fun T=>by
     show(r1++T)[L']? = _;rw[A9 (by omega)];exact i1'
    have hL'':∀ T:AE,(r1++T)[L']? = some (.var false [.str p.nm,.int .i64 p.v,x0,.int .i64 d]):=fun T=>by
     rw[A9 (by omega)];exact i1'
    refine .inl ⟨(es3,r1++[Blk.var false [.str p.ps[j].nm,.int .i64 p.ps[j].v,qv],.arr 4 false [[.str p.ps[j].nm,.int .i64 p.ps[j].v,qv,.int .i64 (d+1)]]]),?_,hL'' _,⟨?_,?_⟩,fun h => ?_,?_⟩
    .simp[f102,hj',hfe,hw,wD,hL'',hqv.cells,Aw,bsA,Ag,List.replicate,AF,AV.AA,hqv.AA,a1,Ju]
    .simp;omega
    .intro i q e' h1 h2;rw[<- Cf (by omega),Md,<- CO]at h1;by_cases hi:i<st.length+j
     .rw[A9 (by rw[hlen];exact hi)]at h1;rw[a4 i hi]at h2;exact i2.2 i q e' h1 h2
     .have:i=st.length+j:=by
       have:=(Ac.1 h1).1;simp at this;omega
      subst this;rw[En (by rw[hlen];omega),hlen]at h1;simp at h1;rw[a5]at h2;cases h2;subst h1;exact⟨_,hR,rfl⟩
    .have h:es3=[]:=h;rw[h]at a2;simp at a2
    .simp only;omega) (fun b hI=>by
    obtain⟨es1,r1⟩:=b;obtain⟨i1,i2,i3,i4⟩:=hI;rw[Gu]at i2;simp only at i1 i2 i3 i4;exact⟨_,_,by simp[f102] <;> first | exact⟨rfl,rfl⟩ | rfl,by simp,(es1,r1),rfl,i2,i3,by simp only;omega⟩) (es,rest) ⟨hL,by simpa using hrep,hne,by simpa using hsz⟩
 obtain⟨⟨es',r'⟩,rfl',g1,g2,g3⟩:=hq;cases rfl';exact⟨es',r',hlp,g1,g2,g3⟩
structure Wk(p:TyV)(k:Nat)(st:List (TyV×Int))(es:List (List AV)):Prop where
 rep:HA st es
 ne:es≠[]
 le:es.length<=1+k * 1048577
 sl:st.length<=1+k * 1048577
 k2:k<=200
 sm:∀ q∈st,Sm 1048577 q.1/\0<=q.2/\q.2<=41
 ok:A7 p=true↔okS k st
theorem wk0{p:TyV}{pv:AV}(hx:A4 p [.str p.nm,.int .i64 p.v,pv])(hs:Sm 1048577 p):Wk p 0 [(p,1)] [[.str p.nm,.int .i64 p.v,pv,.int .i64 1]] where
 rep:=⟨by simp,fun i q e h1 h2=>by
  match i with
  | 0=>simp at h1 h2;subst h1;subst h2;exact⟨_,hx,rfl⟩
  | i+1=>simp at h1⟩
 ne:=List.cons_ne_nil _ _
 le:=by rw[PU];omega
 sl:=by rw[PU];omega
 k2:=H7 _
 sm:=fun q hq=>by simp at hq;subst hq;exact⟨hs,by simp,by simp⟩
 ok:=by
  rw[LS];simp only[okS,IY,PX];constructor
  .rintro⟨h1,h2⟩;exact⟨by omega,by omega,fun q hq=>by cases hq⟩
  .rintro⟨h1,h2,_⟩;omega
section
variable{B0:Blk}{k m:Nat}{es:List (List AV)}{rest:AE}{junk:List (Nat×AV)}{x:TyV}{qv:AV}{d:Int}
theorem jN(hm:m<4294967296):slA 4 (.hs 1 es.length 4 0 (m+1) false) none (some (.int .i64 m)) none=some (.hs 1 es.length 4 0 m false):=by
 have u1:Fq (m:Int) (m+1)=some m:=by
  have:decide ((0:Int)<=m/\(m:Int)<=((m+1:Nat):Int))=true:=by simp;omega
  simp only[Fq,this,Int.toNat_natCast]
 have u2:Fq (0:Int) m=some 0:=by
  have:decide ((0:Int)<=0/\(0:Int)<=(m:Int))=true:=by simp
  simp only[Fq,this,Int.toNat_zero]
 simp[slA,C8,Go.Am.intOf,u1,u2,Ay,K0]
theorem Su(hm:m<4294967296){T:AE}:AX MX 102 54 (AG MX) (sub (AL f102 0) [0]) ((1,.fn 103 [] [])::(5,.int .i64 k)::(6,.hs 1 es.length 4 0 (m+1) false)::junk,T)=some (.nrm,([(1,.fn 103 [] []),(5,.int .i64 k),(6,.hs 1 es.length 4 0 (m+1) false),(15,.bool true)],T)):=by
 have hgt:(0:Int)<(m:Int)+1:=by omega
 simp[f102,sub,hgt]
theorem Sv(hm:m<4294967296)(hq:SlR A4 3 x.ps qv)(hei:es[m]? = some [.str x.nm,.int .i64 x.v,qv,.int .i64 d]):AX MX 102 54 (AG MX) (sub (AL f102 0) [1,0,0]) ([(1,.fn 103 [] []),(5,.int .i64 k),(6,.hs 1 es.length 4 0 (m+1) false),(15,.bool true)],B0::.arr 4 false es::rest)=some (.nrm,([(1,.fn 103 [] []),(5,.int .i64 k),(6,.hs 1 es.length 4 0 (m+1) false),(7,.hp (rest.length+2) 0)],B0::.arr 4 false es::(rest++[Blk.var false [.str x.nm,.int .i64 x.v,qv,.int .i64 d]]))):=by
 have w1:wr .i64 ((m:Int)+1 - 1)=m:=by rw[QT];exact BU (by omega) (by omega)
 have w1':wr .i64 (m:Int)=m:=BU (by omega) (by omega);have hix:ixA 4 (.hs 1 es.length 4 0 (m+1) false) (.int .i64 m)=some (.ep 1 es.length 4 m 0):=by
  rw[ED (kd:=.i64) (hi:=Nat.lt_succ_self _),DW]
 simp[f102,sub,w1,w1',hix,hei]
theorem Sw(hm:m<4294967296){q:AV}{T:AE}:AX MX 102 54 (AG MX) (sub (AL f102 0) [1,0,1,0]) ([(1,.fn 103 [] []),(5,.int .i64 k),(6,.hs 1 es.length 4 0 (m+1) false),(7,q)],T)=some (.nrm,([(1,.fn 103 [] []),(5,.int .i64 k),(6,.hs 1 es.length 4 0 m false),(7,q)],T)):=by
 have w1:wr .i64 ((m:Int)+1 - 1)=m:=by rw[QT];exact BU (by omega) (by omega)
 have w1':wr .i64 (m:Int)=m:=BU (by omega) (by omega);have hsl:=jN (es:=es) hm;simp[f102,sub,w1,w1',hsl]
theorem Sx(hk:k<=200){v q:AV}{T:AE}:AX MX 102 54 (AG MX) (sub (AL f102 0) [1,0,1,1,0]) ([(1,.fn 103 [] []),(5,.int .i64 k),(6,v),(7,q)],T)=some (.nrm,([(1,.fn 103 [] []),(5,.int .i64 (k+1:Nat)),(6,v),(7,q)],T)):=by
 have w2:wr .i64 ((k:Int)+1)=(k:Int)+1:=BU (by omega) (by omega);simp[f102,sub,w2]
theorem WA:AL f102 0=.seq (sub (AL f102 0) [0]) (.block 1 (.seq (sub (AL f102 0) [1,0,0]) (.seq (sub (AL f102 0) [1,0,1,0]) (.seq (sub (AL f102 0) [1,0,1,1,0]) (sub (AL f102 0) [1,0,1,1,1]))))):=rfl
theorem aC(hk:k+1<=200)(hd0:0<=d)(hd:d<=40)(hq:SlR A4 3 x.ps qv){v:AV}{r:Ex×St}
 (f1:E5 MX 102 54 (AG MX) (AL f102 1) ([(1,.fn 103 [] []),(5,.int .i64 (k+1:Nat)),(6,v),(7,.hp (rest.length+2) 0),(39,qv),(40,.int .i64 x.ps.length),(41,.int .i64 (0:Nat))],B0::.arr 4 false es::(rest++[Blk.var false [.str x.nm,.int .i64 x.v,qv,.int .i64 d],.var false [.str x.nm,.int .i64 x.v,qv]]))=some r) {s:St} (hr:r=(.ext 2,s)) :
 AX MX 102 54 (AG MX) (sub (AL f102 0) [1,0,1,1,1]) ([(1,.fn 103 [] []),(5,.int .i64 (k+1:Nat)),(6,v),(7,.hp (rest.length+2) 0)],B0::.arr 4 false es::(rest++[Blk.var false [.str x.nm,.int .i64 x.v,qv,.int .i64 d]]))=some (.nrm,s):=by
 subst hr;have hk2:¬ (200:Int)<(k:Int)+1:=by omega
 have hd2:¬ (40:Int)<d:=by omega
 have h103:=fun H=>c103 (p:=x) (pv:=qv) H
 simp[f102]at f1;simp[f102,sub,hk2,hd2,h103,hq.len,f1]
theorem aD(hd0:0<=d)(hov:¬ (k+1<=200/\d<=40)){v:AV} :
 AX MX 102 54 (AG MX) (sub (AL f102 0) [1,0,1,1,1]) ([(1,.fn 103 [] []),(5,.int .i64 (k+1:Nat)),(6,v),(7,.hp (rest.length+2) 0)],B0::.arr 4 false es::(rest++[Blk.var false [.str x.nm,.int .i64 x.v,qv,.int .i64 d]]))=some (.ret,([(4,.int .i64 8)],B0::.arr 4 false es::(rest++[Blk.var false [.str x.nm,.int .i64 x.v,qv,.int .i64 d]]))):=by
 by_cases hk:k+1<=200
 .have hk2:¬ (200:Int)<(k:Int)+1:=by omega
  have hd2:(40:Int)<d:=by omega
  simp[f102,sub,hk2,hd2]
 .have hk2:(200:Int)<(k:Int)+1:=by omega
  simp[f102,sub,hk2]
theorem ag(hm:m<4294967296)(hk:k+1<=200)(hd0:0<=d)(hd:d<=40)(hq:SlR A4 3 x.ps qv)(hei:es[m]? = some [.str x.nm,.int .i64 x.v,qv,.int .i64 d]){r:Ex×St}
 (f1:E5 MX 102 54 (AG MX) (AL f102 1) ([(1,.fn 103 [] []),(5,.int .i64 (k+1:Nat)),(6,.hs 1 es.length 4 0 m false),(7,.hp (rest.length+2) 0),(39,qv),(40,.int .i64 x.ps.length),(41,.int .i64 (0:Nat))],B0::.arr 4 false es::(rest++[Blk.var false [.str x.nm,.int .i64 x.v,qv,.int .i64 d],.var false [.str x.nm,.int .i64 x.v,qv]]))=some r) {s:St} (hr:r=(.ext 2,s)) :
 AX MX 102 54 (AG MX) (AL f102 0) ((1,.fn 103 [] [])::(5,.int .i64 k)::(6,.hs 1 es.length 4 0 (m+1) false)::junk,B0::.arr 4 false es::rest)=some (.nrm,s):=by
 rw[WA];exact Ai (Su hm) (I6 (Ai (Sv hm hq hei) (Ai (Sw hm) (Ai (Sx (Nat.le_of_succ_le hk)) (aC hk hd0 hd hq f1 hr)))))
theorem ek(hm:m<4294967296)(hk0:k<=200)(hd0:0<=d)(hq:SlR A4 3 x.ps qv)(hei:es[m]? = some [.str x.nm,.int .i64 x.v,qv,.int .i64 d])(hov:¬ (k+1<=200/\d<=40)) :
 ∃ T,AX MX 102 54 (AG MX) (AL f102 0) ((1,.fn 103 [] [])::(5,.int .i64 k)::(6,.hs 1 es.length 4 0 (m+1) false)::junk,B0::.arr 4 false es::rest)=some (.ret,([(4,.int .i64 8)],T)):=by
 rw[WA];exact⟨_,Ai (Su hm) (HB (Ai (Sv hm hq hei) (Ai (Sw hm) (Ai (Sx hk0) (aD hd0 hov)))))⟩
theorem jO{w:AV}(hw:∀ h,Bi w h=some (.val (.int .i64 0) h)){T:AE}:AX MX 102 54 (AG MX) (AL f102 0) ((1,.fn 103 [] [])::(5,.int .i64 k)::(6,w)::junk,T)=some (.ext 0,([(1,.fn 103 [] []),(5,.int .i64 k),(6,w),(15,.bool false)],T)):=by
 simp[f102,hw]
end
theorem c102{p:TyV}{px:List AV}(hx:A4 p px)(hs:Sm 1048577 p)(h:AE):AH MX (AG MX) 102 [.agg px,.fn 103 [] []] h=some (.ret (.int .i64 (if A7 p=true then 0 else 8)),h):=by
 have hn:([AV.agg px,.fn 103 [] []]:List AV).all AV.AA=true:=by simp[AV.AA,hx.AF,AF]
 have hx0:=hx;obtain⟨pv,rfl,hp⟩:=hx.AY;obtain⟨B0,hB0⟩:∃ B0,B0=Blk.var false [AV.str p.nm,AV.int .i64 p.v,pv]:=⟨_,rfl⟩;obtain⟨e,s,hlp,hq⟩:=Mn (M:=MX) (fid:=102) (N:=54) (C:=AG MX) (c:=AL f102 0)
  (fun(b:Nat×List (TyV×Int)×List (List AV)×AE×List (Nat×AV))=>((1,.fn 103 [] [])::(5,.int .i64 b.1)::(6,.hs 1 b.2.2.1.length 4 0 b.2.1.length false)::b.2.2.2.2,B0::.arr 4 false b.2.2.1::b.2.2.2.1))
  (fun b=>Wk p b.1 b.2.1 b.2.2.1)
  (fun b=>IY b.2.1)
  (fun r=>(∃(k:Nat) (w:AV) (T:AE),r=(.ext 0,([(1,.fn 103 [] []),(5,.int .i64 k),(6,w),(15,.bool false)],T))/\A7 p=true)\/∃ T,r=(.ret,([(4,.int .i64 8)],T))/\A7 p=false) (fun b hI=>by
    obtain⟨k,st,es,rest,junk⟩:=b;have hI':Wk p k st es:=hI;obtain⟨i1,i2,i3,i4,i5,i6,i7⟩:=hI';clear hI;rcases List.eq_nil_or_concat st with rfl | ⟨st',⟨x,d⟩,rfl⟩
    .exact .inr ⟨_,_,jO (fun h=>rfl),by simp,.inl ⟨k,_,_,rfl,i7.2 ⟨by simp[IY];omega,fun q hq=>by cases hq⟩⟩⟩
    .rw[List.concat_eq_append]at *;have hll:(st'++[(x,d)]).length=st'.length+1:=(by simp);have i1a:=i1.1;rw[hll]at i4 i1a;have hie:st'.length<es.length:=(by omega);obtain⟨xs,hxr,hrow⟩:=i1.2 st'.length (x,d) es[st'.length] (by simp) (AO hie);obtain⟨qv,rfl,hq⟩:=hxr.AY;have hei:es[st'.length]? = some [.str x.nm,.int .i64 x.v,qv,.int .i64 d]:=(by rw[AO hie,hrow];rfl);obtain⟨hsx,hd0,hd1⟩:=i6 (x,d) (by simp);have hd0:0<=d:=hd0;have hd1:d<=41:=hd1;have hsx:Sm 1048577 x:=hsx;by_cases hov:k+1<=200/\d<=40
     .obtain⟨hk,hd⟩:=hov;have hps:=hsx.parts;have hL:(B0::.arr 4 false es::(rest++[Blk.var false [.str x.nm,.int .i64 x.v,qv,.int .i64 d],.var false [.str x.nm,.int .i64 x.v,qv]]))[rest.length+2]? = some (.var false [.str x.nm,.int .i64 x.v,qv,.int .i64 d]):=(by simp);have hrep':HA st' es:=⟨by omega,fun i q e h1 h2=>i1.2 i q e (by rw[A9 (Ac.1 h1).1];exact h1) h2⟩;obtain⟨es',rest',f1,f2,f3,f4⟩:=af (H0:=[]) hq hps.1 hd0 hd (k:=k) hL hrep' i2 (by omega) i3 (by omega) (by omega);have hwk:Wk p (k+1) (st'++x.ps.map fun y=>(y,d+1)) es':=by
       refine⟨f2,f3,f4,?_,by omega,fun q hq' => ?_,?_⟩
       .rw[E2,FB];omega
       .rcases H6.1 hq' with h | h
        .exact i6 q (by simp[h])
        .obtain⟨y,hy,rfl⟩:=E3.1 h;exact⟨hps.2 y hy,by show 0<=d+1;omega,by show d+1<=41;omega⟩
       .rw[i7,ML];exact⟨fun h=>h.2.2,fun h=>⟨hk,hd,h⟩⟩
      have hround:=ag (junk:=junk) (by omega) hk hd0 hd hq hei f1 rfl;refine .inl ⟨(k+1,st'++x.ps.map fun y=>(y,d+1),es',rest',[(7,.hp (rest.length+2) 0),(39,qv),(40,.int .i64 x.ps.length),(41,.int .i64 x.ps.length),(42,.bool false)]),?_,hwk,?_⟩
      .simp only[hll,E2,FB];exact hround
      .show IY (st'++x.ps.map fun y=>(y,d+1))<IY (st'++[(x,d)]);rw[I5,I5,MK];cases x;simp[IY,cnt,TyV.ps]
     .have hT:A7 p=false:=by
       rw[No];intro h;have:=ML.1 (i7.1 h);exact hov ⟨this.1,this.2.1⟩
      obtain⟨T,hover⟩:=ek (B0:=B0) (rest:=rest) (junk:=junk) (k:=k) (by omega) i5 hd0 hq hei hov;refine .inr ⟨_,_,?_,by simp,.inr ⟨T,rfl,hT⟩⟩;simp only[hll];exact hover) (0,[(p,1)],[[.str p.nm,.int .i64 p.v,pv,.int .i64 1]],[],[]) (wk0 hx0 hs)
 rw[hB0]at hlp;simp[f102]at hlp
 suffices hh:∃ hr,AJ MX 102 [.agg [.str p.nm,.int .i64 p.v,pv],.fn 103 [] []] []=some (.ret (.int .i64 (if A7 p=true then 0 else 8)),hr) by
  obtain⟨hr,hh⟩:=hh;exact Ae Ye cL hn rfl hh h
 rcases hq with⟨k,w,T,hq,hT⟩ | ⟨T,hq,hT⟩
 .cases hq;exact⟨T,by simp[AJ,f102,bsA,Ag,List.replicate,Aw,AF,AV.AA,hlp,hT]⟩
 .cases hq;exact⟨T,by simp[AJ,f102,bsA,Ag,List.replicate,Aw,AF,AV.AA,hlp,hT]⟩
end Lg
end
section
attribute [local simp] Dc Bn Ec Dd CQ Dx Dy Ey BZ Ap Bh Av Gb FR EN HO D9 A5 FN EO HP HQ xUn FC EA FT BG DQ BH EB BI EC Ce Ca Bv BL EP Eo
 ev evs C4 DP OR.ofV OR.D4 OR.ofC Fg Tm.get Tm.init Tm.only Ay A6 Bt finish CK DS Hb D3 D7 unA Bz Bc B6 Bd Cp Cq Cr Be Cs Ct Bf Cu Cv Bg B7 AL CP Bb Cn Co Bx Ez E0 E1 Dz D0 Fo F7 F8 Fp stA BA DY Bo DR FD Gp B8 C1 CI FU Gq
attribute [local simp] DE CT Cb Bl DF DG DH DI DJ DK DL Ef Cg Eg Dh FW FX Gi Di Eh Dj BQ Dk BR Dl B9 Ei Ch FY FZ Fa Ci Dm Dn Fb Gj Fc Gk Gl Dp BS Cj CA Dq Dr Ck
structure Ha where
 nm:Bytes
 num:Int
 nx:Int
 deriving Inhabited
def HH(c:Ha)(xs:List AV):Prop:=xs=[.str c.nm,.int .i64 c.num,.int .i64 c.nx]
structure A2 where
 arm:Int
 path:List Int
 cases:List Ha
 other:Int
 deriving Inhabited
def GR(v:A2)(xs:List AV):Prop:=∃ pv cv,xs=[.int .i64 v.arm,pv,cv,.int .i64 v.other]/\SlR CV 1 v.path pv/\SlR HH 3 v.cases cv
def SmN(v:A2):Prop:=v.path.length<1048577/\v.cases.length<1048577
theorem La(c:Ha)(xs:List AV)(h:HH c xs):AF xs=true:=by subst h;rfl
theorem c98{t:List A2}{tv:AV}(ht:SlR GR 4 t tv)(h:AE):AH MX (AG MX) 98 [tv] h=some (.ret (.int .i64 (if t.length=0 then 10 else if 400<t.length then 8 else 0)),h):=by
 by_cases h0:t.length=0
 .have g0:¬ (0<t.length):=by omega
  rw[if_pos h0];exact Ae Qr T7 (by simp[ht.AA]) rfl (hr:=[]) (by simp[AJ,f98,ht.len,h0,bsA,Ag,List.replicate,AF,AV.AA,Al]) h
 .have g0:0<t.length:=by omega
  rw[if_neg h0];by_cases h4:400<t.length
  .have g1:¬ ((t.length:Int)<=400):=(by omega);have g2:¬ (t.length<=400):=(by omega);rw[if_pos h4];exact Ae Qr T7 (by simp[ht.AA]) rfl (hr:=[]) (by simp[AJ,f98,ht.len,g0,g1,g2,bsA,Ag,List.replicate,AF,AV.AA,Al]) h
  .have g1:((t.length:Int)<=400):=(by omega);have g2:t.length<=400:=(by omega);rw[if_neg h4];exact Ae Qr T7 (by simp[ht.AA]) rfl (hr:=[]) (by simp[AJ,f98,ht.len,g0,g1,g2,bsA,Ag,List.replicate,AF,AV.AA,Al]) h
theorem c101{l:List Int}{v:AV}(hv:SlR CV 1 l v)(hl:l.length<1048577)(H:AE):∃ es:List (List AV),es.length=l.length/\(∀(i:Nat) a e,l[i]? = some a->es[i]? = some e->CV a e)/\((l=[]/\es=[]/\AH MX (AG MX) 101 [v] H=some (.ret (.sl 1 true []),H))\/(l≠[]/\es≠[]/\AH MX (AG MX) 101 [v] H=some (.ret (.hs H.length es.length 1 0 es.length false),H++[.arr 1 false es]))):=by
 obtain⟨es,h1,h2,h3⟩:=KP (byt:=8) hv (by decide) (by decide) hl H;refine⟨es,h1,h2,?_⟩;rcases h3 with⟨hn,h3⟩ | ⟨hn,h3⟩
 .exact .inl ⟨hn,EH (by rw[h1,hn];rfl),CU R3 VG (by simp[AJ,f101,bsA,Ag,h3])⟩
 .exact .inr ⟨hn,fun e=>by rw[e]at h1;exact hn (EH h1.symm),CU R3 VG (by simp[AJ,f101,bsA,Ag,h3])⟩
def O5(sz:Nat)(H:AE)(a:AV)(es:List (List AV)):Prop:=(es=[]/\a=.sl sz true [])\/∃ id lk,es≠[]/\a=.hs id es.length sz 0 es.length false/\H[id]? = some (.arr sz lk es)
theorem O5.keeps{sz:Nat}{H H':AE}{a:AV}{es:List (List AV)}(h:O5 sz H a es)(hn:es.all AF=true)(k:CY H H'):O5 sz H' a es:=by
 rcases h with h | ⟨id,lk,g0,g1,g2⟩
 .exact .inl h
 .obtain⟨lk',g3⟩:=k id sz lk es g2 hn;exact .inr ⟨id,lk',g0,g1,g3⟩
theorem O5.snap{α:Type}{R:α->List AV->Prop}{l:List α}{sz:Nat}{H:AE}{a:AV}{es:List (List AV)}(hR:∀ a e,R a e->AF e=true)(h:O5 sz H a es)(hl:es.length=l.length)(hr:∀(i:Nat) a e,l[i]? = some a->es[i]? = some e->R a e) :
 ∃ v' H',BC 1 a H v' H'/\SlR R sz l v'/\CY H H'/\GJ H H':=by
 rcases h with⟨h0,rfl⟩ | ⟨id,lk,g0,g1,g2⟩
 .have hc:l=[]:=EH (by rw[<- hl,h0];rfl);exact⟨_,H,.flat (c:=.sl sz true []) rfl _,.inr ⟨true,[],rfl,by rw[hc];rfl,fun i a e h=>by rw[hc]at h;simp at h⟩,CY.refl H,GJ.refl H⟩
 .exact K1.snap hR (.inr ⟨id,lk,g0,g1,g2⟩) hl hr
def F5(H:AE)(v:A2)(e:List AV):Prop:=∃ pw pes ca ces,e=[.int .i64 v.arm,pw,ca,.int .i64 v.other]/\O5 1 H pw pes/\pes.length=v.path.length/\(∀(j:Nat) t e,v.path[j]? = some t->pes[j]? = some e->CV t e)/\O5 3 H ca ces/\ces.length=v.cases.length/\∀(j:Nat) t e,v.cases[j]? = some t->ces[j]? = some e->HH t e
theorem F5.keeps{H H':AE}{v:A2}{e:List AV}(h:F5 H v e)(k:CY H H'):F5 H' v e:=by
 obtain⟨pw,pes,ca,ces,h1,h2,h2a,h2b,h3,h4,h5⟩:=h;exact⟨pw,pes,ca,ces,h1,h2.keeps (BN h2a h2b Ks) k,h2a,h2b,h3.keeps (BN h4 h5 La) k,h4,h5⟩
theorem F5.snap{H:AE}{v:A2}{e:List AV}(h:F5 H v e):∃ e' H',BK 5 e H e' H'/\GR v e'/\CY H H'/\GJ H H':=by
 obtain⟨pw,pes,ca,ces,rfl,h2,h2a,h2b,h3,h4,h5⟩:=h;obtain⟨p',H1,a1,a2,a3,a4⟩:=h2.snap Ks h2a h2b;obtain⟨v',H',s1,s2,s3,s4⟩:=(h3.keeps (BN h4 h5 La) a3).snap La h4 h5;exact⟨[.int .i64 v.arm,p',v',.int .i64 v.other],H',.cons (.flat rfl _) (.cons a1 (.cons s1 (.cons (.flat (c:=.int .i64 v.other) rfl _) (.nil _)))),⟨p',v',rfl,a2,s2⟩,a3.trans s3,a4.trans s4⟩
theorem O6:∀{l:List A2} {es:List (List AV)} {H:AE},es.length=l.length->(∀(j:Nat) d e,l[j]? = some d->es[j]? = some e->F5 H d e) ->
 ∃ es' H',CS (6+l.length) es H es' H'/\es'.length=l.length/\(∀(j:Nat) d e,l[j]? = some d->es'[j]? = some e->GR d e)/\CY H H'/\GJ H H'
 | [],[],H,_,_=>⟨[],H,(CS.nil H).mono (by decide),rfl,fun j d e h=>by simp at h,CY.refl H,GJ.refl H⟩
 | d::l,e::es,H,hl,hp=>by
  obtain⟨e',H1,s1,s2,s3,s4⟩:=(hp 0 d e rfl rfl).snap;obtain⟨es',H2,t1,t2,t3,t4,t5⟩:=O6 (l:=l) (es:=es) (H:=H1) (by simpa using hl) (fun j d' e' h1 h2=>(hp (j+1) d' e' (by simpa using h1) (by simpa using h2)).keeps s3);refine⟨e'::es',H2,(CS.cons s1 t1).mono (by simp only[DC];omega),by simp[t2],fun j d' e'' h1 h2 => ?_,s3.trans t4,s4.trans t5⟩;cases j with
  | zero=>simp at h1 h2;exact h1 ▸ h2 ▸ s2
  | succ j=>exact t3 j d' e'' (by simpa using h1) (by simpa using h2)
 | [],_::_,_,hl,_=>by simp at hl
 | _::_,[],_,hl,_=>by simp at hl
theorem c51{l:List A2}{v:AV}(hv:SlR GR 4 l v)(hll:l.length<1048577)(hsl:∀ d∈l,SmN d):∃ w,SlR GR 4 l w/\∀ h,AH MX (AG MX) 51 [v] h=some (.ret w,h):=by
 obtain⟨e,st,hlp,hq⟩:=AQ (M:=MX) (fid:=51) (N:=36) (C:=AG MX) (c:=AL f51 0) (n:=l.length)
  (fun i (b:AV×AE×List (List AV))=>([(0,v),(3,b.1),(4,.int .i64 i)],b.2.1))
  (fun i b=>Ak 4 0 b.2.1 b.1 b.2.2/\b.2.2.length=(l.take i).length/\∀(j:Nat) t e,(l.take i)[j]? = some t->b.2.2[j]? = some e->F5 b.2.1 t e)
  (fun r=>∃ b:AV×AE×List (List AV),r=(.ext 0,([(0,v),(3,b.1),(4,.int .i64 l.length),(9,.bool false)],b.2.1)) /\
    Ak 4 0 b.2.1 b.1 b.2.2/\b.2.2.length=l.length/\∀(j:Nat) t e,l[j]? = some t->b.2.2[j]? = some e->F5 b.2.1 t e) (fun i b hi hI=>by
    obtain⟨a,pre,es⟩:=b;obtain⟨i1,i2,i3⟩:=hI;simp only at i1 i2 i3;obtain⟨e,he,hR⟩:=hv.ix hi;have hi':=Aa hi;have hw:=AZ hi hll;obtain⟨s1,s2⟩:=hsl _ (An hi);obtain⟨pv,cv,rfl,hp,hc⟩:=hR;have hpc:=hp.cells;have hcc:=hc.cells;have hlen:es.length<16777215:=(by rw[i2];exact Hf (List.length_take_le _ _) (by omega));have IJ:∀(A L:AE),CY A (A++L):=fun A L id sz lk es h _=>⟨lk,Af h L⟩
    obtain⟨pes,p1,p2,p3⟩:=c101 hp s1 (pre++[Blk.var false [AV.int .i64 l[i].arm,pv,cv,.int .i64 l[i].other]]);have fin:∀(pw ca:AV) (ces:List (List AV)) (G H:AE) (x:AV),ces.length=l[i].cases.length->(∀(j:Nat) t e,l[i].cases[j]? = some t->ces[j]? = some e->HH t e)->O5 1 G pw pes->O5 3 G ca ces->CY pre G->CY G H->Ak 4 0 H a es->Ax H x=some [[AV.int .i64 l[i].arm,pw,ca,.int .i64 l[i].other]]->Bu 4 x=true->(∀ b,x≠.str b) ->
     ∃ a' H',apA 4 64 a x H=some (a',H')/\Ak 4 0 H' a' (es++[[AV.int .i64 l[i].arm,pw,ca,.int .i64 l[i].other]])/\(es++[[AV.int .i64 l[i].arm,pw,ca,.int .i64 l[i].other]]).length=(l.take (i+1)).length/\∀(j:Nat) t e,(l.take (i+1))[j]? = some t->(es++[[AV.int .i64 l[i].arm,pw,ca,.int .i64 l[i].other]])[j]? = some e->F5 H' t e:=by
     intro pw ca ces G H x q1 q2 hpw hca hk0 hk hacc hrd hsz hst;obtain⟨a',H',h1,h2,h3⟩:=Q3 (byt:=64) hacc hrd hsz hst (by simp) (by decide) (by decide) (by simp;omega);have e0:F5 G l[i] [AV.int .i64 l[i].arm,pw,ca,.int .i64 l[i].other]:=⟨pw,pes,ca,ces,rfl,hpw,p1,p2,hca,q1,q2⟩;obtain⟨j1,j2⟩:=EU (R:=F5 G) i2 (fun j t e g1 g2=>(i3 j t e g1 g2).keeps hk0) e0;rw[Cf hi]at j1 j2;have keepL:∀(sz:Nat) (a:AV) (es:List (List AV)),sz≠4->O5 sz H a es->O5 sz H' a es:=fun sz a es hs h=>by
      rcases h with h | ⟨id,lk,g0,g1,g2⟩
      .exact .inl h
      .exact .inr ⟨id,lk,g0,g1,h3 id _ g2 (fun lk' es' e=>by cases e;exact hs rfl)⟩
     have keepP:∀ t e,F5 H t e->F5 H' t e:=fun t e h=>by
      obtain⟨q1,q2,q3,q4,q5,q6,q7,q8,q9,q10⟩:=h;exact⟨q1,q2,q3,q4,q5,keepL 1 _ _ (by decide) q6,q7,q8,keepL 3 _ _ (by decide) q9,q10⟩
     exact⟨a',H',h1,h2,j1,fun j t e g1 g2=>keepP t e ((j2 j t e g1 g2).keeps hk)⟩
    rcases p3 with⟨hpn,hpe,h101⟩ | ⟨hpn,hpe,h101⟩
    .obtain⟨ces,q1,q2,q3⟩:=KP (byt:=32) hc (by decide) (by decide) s2 (pre++[Blk.var false [AV.int .i64 l[i].arm,.sl 1 true [],cv,.int .i64 l[i].other]]);rcases q3 with⟨hn,q3⟩ | ⟨hn,q3⟩
     .have hce:ces=[]:=EH (by rw[q1,hn];rfl);obtain⟨a',H',f1,f2,f3,f4⟩:=fin (.sl 1 true []) (.sl 3 true []) ces (pre++[Blk.var false [AV.int .i64 l[i].arm,.sl 1 true [],.sl 3 true [],.int .i64 l[i].other]]) (pre++[Blk.var false [AV.int .i64 l[i].arm,.sl 1 true [],.sl 3 true [],.int .i64 l[i].other]]) (.sl 4 true [[AV.int .i64 l[i].arm,.sl 1 true [],.sl 3 true [],.int .i64 l[i].other]]) q1 q2 (.inl ⟨hpe,rfl⟩) (.inl ⟨hce,rfl⟩) (IJ _ _) (CY.refl _) (i1.grow _) rfl (by simp[Bu,BF]) (fun b h=>by cases h);exact .inl ⟨(a',H',es++[[AV.int .i64 l[i].arm,.sl 1 true [],.sl 3 true [],.int .i64 l[i].other]]),by simp[f51,hv.len,hi',he,h101,hpc,hcc,q3,bsA,Ag,List.replicate,AF,AV.AA,f1,hw],f2,f3,f4⟩
     .have hne:ces≠[]:=fun e=>by rw[e]at q1;exact hn (EH q1.symm)
      have hpl:(pre++[Blk.var false [AV.int .i64 l[i].arm,.sl 1 true [],cv,.int .i64 l[i].other]]).length=pre.length+1:=(by simp);rw[hpl]at q3;let ca:=AV.hs (pre.length+1) ces.length 3 0 ces.length false;let G:AE:=pre++[Blk.var false [AV.int .i64 l[i].arm,.sl 1 true [],ca,.int .i64 l[i].other],.arr 3 false ces];have hgl:G.length=pre.length+2:=(by simp[G]);obtain⟨a',H',f1,f2,f3,f4⟩:=fin (.sl 1 true []) ca ces G (G++[.arr 4 false [[AV.int .i64 l[i].arm,.sl 1 true [],ca,.int .i64 l[i].other]]]) (.hs G.length 1 4 0 1 false) q1 q2 (.inl ⟨hpe,rfl⟩) (.inr ⟨pre.length+1,false,hne,rfl,by simp only[G];exact gb7⟩) (IJ _ _) (IJ _ _) (by simp only[G,CO];exact i1.grow _) (by simp only[Ax,BD];simp) (by simp[Bu,BF]) (fun b h=>by cases h);rw[hgl]at f1;simp only[G,ca,CO,Ej,Ev]at f1 q3;exact .inl ⟨(a',H',es++[[AV.int .i64 l[i].arm,.sl 1 true [],ca,.int .i64 l[i].other]]),by simp[f51,hv.len,hi',he,h101,hpc,hcc,q3,bsA,Ag,List.replicate,Aw,AF,AV.AA,f1,hw],f2,f3,f4⟩
    .have hpl0:(pre++[Blk.var false [AV.int .i64 l[i].arm,pv,cv,.int .i64 l[i].other]]).length=pre.length+1:=(by simp);rw[hpl0]at h101;obtain⟨ces,q1,q2,q3⟩:=KP (byt:=32) hc (by decide) (by decide) s2 (pre++[Blk.var false [AV.int .i64 l[i].arm,.hs (pre.length+1) pes.length 1 0 pes.length false,cv,.int .i64 l[i].other],.arr 1 false pes]);simp only[CO,Ej,Ev]at h101;rcases q3 with⟨hn,q3⟩ | ⟨hn,q3⟩
     .have hce:ces=[]:=EH (by rw[q1,hn];rfl);let pw:=AV.hs (pre.length+1) pes.length 1 0 pes.length false;let G:AE:=pre++[Blk.var false [AV.int .i64 l[i].arm,pw,.sl 3 true [],.int .i64 l[i].other],.arr 1 false pes];have hgl:G.length=pre.length+2:=(by simp[G]);obtain⟨a',H',f1,f2,f3,f4⟩:=fin pw (.sl 3 true []) ces G (G++[.arr 4 false [[AV.int .i64 l[i].arm,pw,.sl 3 true [],.int .i64 l[i].other]]]) (.hs G.length 1 4 0 1 false) q1 q2 (.inr ⟨pre.length+1,false,hpe,rfl,by simp only[G];exact gb7⟩) (.inl ⟨hce,rfl⟩) (IJ _ _) (IJ _ _) (by simp only[G,CO];exact i1.grow _) (by simp only[Ax,BD];simp) (by simp[Bu,BF]) (fun b h=>by cases h);rw[hgl]at f1;simp only[G,pw,CO,Ej,Ev]at f1 q3;exact .inl ⟨(a',H',es++[[AV.int .i64 l[i].arm,pw,.sl 3 true [],.int .i64 l[i].other]]),by simp[f51,hv.len,hi',he,h101,hpc,hcc,q3,bsA,Ag,List.replicate,Aw,AF,AV.AA,f1,hw],f2,f3,f4⟩
     .have hne:ces≠[]:=fun e=>by rw[e]at q1;exact hn (EH q1.symm)
      let pw:=AV.hs (pre.length+1) pes.length 1 0 pes.length false;have hpl:(pre++[Blk.var false [AV.int .i64 l[i].arm,.hs (pre.length+1) pes.length 1 0 pes.length false,cv,.int .i64 l[i].other],.arr 1 false pes]).length=pre.length+2:=(by simp);rw[hpl]at q3;let ca:=AV.hs (pre.length+2) ces.length 3 0 ces.length false;let G:AE:=pre++[Blk.var false [AV.int .i64 l[i].arm,pw,ca,.int .i64 l[i].other],.arr 1 false pes,.arr 3 false ces];have hgl:G.length=pre.length+3:=(by simp[G]);have gb8:G[pre.length+2]? = some (.arr 3 false ces):=(by simp only[G];rw[En (by omega)];simp);obtain⟨a',H',f1,f2,f3,f4⟩:=fin pw ca ces G (G++[.arr 4 false [[AV.int .i64 l[i].arm,pw,ca,.int .i64 l[i].other]]]) (.hs G.length 1 4 0 1 false) q1 q2 (.inr ⟨pre.length+1,false,hpe,rfl,by simp only[G];exact gb7⟩) (.inr ⟨pre.length+2,false,hne,rfl,gb8⟩) (IJ _ _) (IJ _ _) (by simp only[G,CO];exact i1.grow _) (by simp only[Ax,BD];simp) (by simp[Bu,BF]) (fun b h=>by cases h);rw[hgl]at f1;simp only[G,pw,ca,CO,Ej,Ev]at f1 q3;exact .inl ⟨(a',H',es++[[AV.int .i64 l[i].arm,pw,ca,.int .i64 l[i].other]]),by simp[f51,hv.len,hi',he,h101,hpc,hcc,q3,bsA,Ag,List.replicate,Aw,AF,AV.AA,f1,hw],f2,f3,f4⟩) (fun b hI=>by
    obtain⟨a,rest,es⟩:=b;obtain⟨i1,i2,i3⟩:=hI;rw[Gu]at i2 i3;exact⟨_,_,by simp[f51,hv.len] <;> first | exact⟨rfl,rfl⟩ | rfl,by simp,(a,rest,es),rfl,i1,i2,i3⟩) (.AI,[],[]) ⟨.nil _ _ _,by simp,fun j t e h=>by simp at h⟩
 obtain⟨⟨a,rest,es⟩,hq,i1,i2,i3⟩:=hq;cases hq;simp[f51]at hlp;have hrun:AJ MX 51 [v] []=some (.ret a,rest):=by simp[AJ,f51,hlp]
 simp only at i1 i2 i3;rcases i1 with⟨h0,rfl⟩ | ⟨j,h0,rfl,h2⟩
 .have:l=[]:=EH (by rw[<- i2,h0];rfl);exact⟨.AI,.inl ⟨this,rfl⟩,fun h=>Ae Qp T5 (by simp[hv.AA]) rfl hrun h⟩
 .obtain⟨es',H',s1,s2,s3,s4,s5⟩:=O6 i2 i3;simp only[DW]at hrun;by_cases hall:es.all AF=true
  .have hacc:Ak 4 ([]:AE).length rest (.hs j es.length 4 0 es.length false) es:=.inr ⟨j,h0,by simp,h2⟩;have hrep:∀(k:Nat) d e,l[k]? = some d->es[k]? = some e->GR d e:=fun k d e g1 g2=>by
    obtain⟨pw,pes,ca,ces,rfl,q1,q1a,q1b,q2,q3,q4⟩:=i3 k d e g1 g2;have hne:AF [AV.int .i64 d.arm,pw,ca,.int .i64 d.other]=true:=ER.1 hall _ (Bs g2);rcases q1 with⟨q6,rfl⟩ | ⟨_,_,_,rfl,_⟩
    .rcases q2 with⟨q5,rfl⟩ | ⟨_,_,_,rfl,_⟩
     .have hc:d.cases=[]:=EH (by rw[<- q3,q5];rfl);have hp:d.path=[]:=EH (by rw[<- q1a,q6];rfl);exact⟨_,_,rfl,.inr ⟨true,[],rfl,by rw[hp];rfl,fun i a e h=>by rw[hp]at h;simp at h⟩,.inr ⟨true,[],rfl,by rw[hc];rfl,fun i a e h=>by rw[hc]at h;simp at h⟩⟩
     .simp[AF,AV.AA]at hne
    .simp[AF,AV.AA]at hne
   exact⟨_,Ak.rep i2 hrep false,fun h=>Jj Qp T5 (by simp[hv.AA]) rfl (hacc.snap (n:=9999999) hall h0) rfl hrun h⟩
  .obtain⟨lk2,es2,hk2,hkl⟩:=s5 j 4 false es h2;refine⟨_,Ak.rep s2 s3 false,fun h=>Jj Qp T5 (by simp[hv.AA]) rfl (hr':=H'.set j (.arr 4 true es')) ?_ rfl hrun h⟩;have hse:GS (C0 - 1) es rest=some (es',H'):=by
    have h9:=(s1.mono (show 6+l.length<=C0 - 1 by simp only[C0];omega)) 0
    rwa [DW]at h9
   have ha:es.all AF=false:=(by simpa using hall);have hb1:(Nat.beq es.length es.length&&Nat.beq 4 4&&Nat.ble (0+es.length) es.length&&es.all AF)=false:=(by simp[A6,ha]);have hb2:(Nat.beq es.length es.length&&Nat.beq 4 4&&Nat.ble (0+es.length) es.length)=true:=(by simp[A6]);have hb3:(Nat.beq 4 4&&Nat.beq es2.length es.length)=true:=(by rw[hkl];simp);have hl':es'.length=es.length:=(by rw[s2,i2]);clear hlp;show Am.snap ((C0 - 1)+1) _ _=_;simp only[Am.snap,h2,hb1,hb2,hse,hk2,hb3];rw[<- hl'];simp[ha]
def Gw:TyV->List Int->Option TyV
 | u,[]=>some u
 | u,i::r=>if 0<=i/\i<=(u.ps.length:Int) - 1 then Gw (u.ps.getD i.toNat default) r else none
def Iu(u:TyV)(c:Ha):Bool:=(c.nm == u.nm)&&(c.nm != []||c.num == u.v)
def goV(t:List A2)(at':Nat)(nx:Int):(Int×Int) ⊕ Nat:=if nx<=at' then .inl (0,9)else if(t.length:Int)<=nx then .inl (0,6)else .inr nx.toNat
def KU(t:List A2)(u:TyV)(at':Nat):(Int×Int) ⊕ Nat:=
 if(t.getD at' default).cases.length=0 then .inl ((t.getD at' default).arm,0)else match Gw u (t.getD at' default).path with
  | none=> .inl (0,14)
  | some w=>match(t.getD at' default).cases.findIdx? (Iu w)with
   | some i=>goV t at' ((t.getD at' default).cases.getD i default).nx
   | none=>if(t.getD at' default).other = -1 then .inl (0,12)else goV t at' (t.getD at' default).other
inductive ByR(t:List A2)(u:TyV):Nat->Int×Int->Prop
 | done {a:Nat} {r:Int×Int} (h:KU t u a=.inl r):ByR t u a r
 | step {a b:Nat} {r:Int×Int} (h:KU t u a=.inr b) (hr:ByR t u b r):ByR t u a r
theorem ByR.unique{t:List A2}{u:TyV}{a:Nat}{r s:Int×Int}(h:ByR t u a r):ByR t u a s->r=s:=by
 induction h with
 | done h=>
  intro h2;cases h2 with
  | done h3=>rw[h]at h3;simpa using h3
  | step h3 _=>rw[h]at h3;cases h3
 | step h _ ih=>
  intro h2;cases h2 with
  | done h3=>rw[h]at h3;cases h3
  | step h3 h4=>rw[h]at h3;simp only[Sum.inr.injEq]at h3;subst h3;exact ih h4
open Classical in
noncomputable def byV(t:List A2)(u:TyV):Int×Int:=if h:∃ r,ByR t u 0 r then Classical.choose h else(0,0)
theorem ah{t:List A2}{u:TyV}{r:Int×Int}(h:ByR t u 0 r):byV t u=r:=by
 have hx:∃ r,ByR t u 0 r:=⟨r,h⟩;unfold byV;rw[dif_pos hx];exact(Classical.choose_spec hx).unique h
theorem MS{t:List A2}{a b:Nat}{nx:Int}(h:goV t a nx=.inr b):a<b/\b<t.length/\nx=b:=by
 unfold goV at h;split at h
 .cases h
 .split at h
  .cases h
  .simp only[Sum.inr.injEq]at h;omega
theorem XT{t:List A2}{u:TyV}{a b:Nat}(h:KU t u a=.inr b):a<b/\b<t.length:=by
 unfold KU at h;split at h
 .cases h
 .split at h
  .cases h
  .split at h
   .exact⟨(MS h).1,(MS h).2.1⟩
   .split at h
    .cases h
    .exact⟨(MS h).1,(MS h).2.1⟩
theorem c160{u:TyV}{ys:List AV}(hu:A4 u ys)(hsu:Sm 1048577 u){l:List Int}{pv:AV}(hp:SlR CV 1 l pv)(hl:l.length<1048577):∃ zs,(∀ w,Gw u l=some w->A4 w zs)/\(∃ w0,A4 w0 zs)/\∀ h,AH MX (AG MX) 160 [.agg ys,pv] h=some (.ret (.tup [.agg zs,.bool (Gw u l).isSome]),h):=by
 have hn:([.agg ys,pv]:List AV).all AV.AA=true:=by simp[AV.AA,hu.AF,hp.AA]
 obtain⟨e,st,hlp,hq⟩:=AQ (M:=MX) (fid:=160) (N:=29) (C:=AG MX) (c:=AL f160 0) (n:=l.length)
  (fun i (b:TyV×AV)=>([(2,.hp 0 0),(4,.hp 1 0),(8,pv),(9,.int .i64 l.length),(10,.int .i64 i)],[Blk.var false [.str b.1.nm,.int .i64 b.1.v,b.2],.var false [.str [],.int .i64 0,.AI]]))
  (fun i b=>A4 b.1 [.str b.1.nm,.int .i64 b.1.v,b.2]/\Sm 1048577 b.1/\Gw u l=Gw b.1 (l.drop i))
  (fun r=>∃(b:TyV×AV),A4 b.1 [.str b.1.nm,.int .i64 b.1.v,b.2]/\((r=(.ext 0,([(2,.hp 0 0),(4,.hp 1 0),(8,pv),(9,.int .i64 l.length),(10,.int .i64 l.length),(11,.bool false)],[Blk.var false [.str b.1.nm,.int .i64 b.1.v,b.2],.var false [.str [],.int .i64 0,.AI]]))/\Gw u l=some b.1)\/(r=(.ret,([(4,.hp 1 0),(5,.bool false)],[Blk.var false [.str b.1.nm,.int .i64 b.1.v,b.2],.var false [.str b.1.nm,.int .i64 b.1.v,b.2]]))/\Gw u l=none))) (fun i b hi hI=>by
    obtain⟨w,q⟩:=b;obtain⟨i1,i2,i3⟩:=hI;simp only at i1 i2 i3;have hi':=Aa hi;have hwr:=AZ hi hl;obtain⟨e,he,hR⟩:=hp.ix hi;subst hR;obtain⟨z,hz⟩:∃ z,z=l[i]:=⟨_,rfl⟩;rw[EJ hi,<- hz]at i3;rw[<- hz]at he;obtain⟨q2,e2,hq⟩:=i1.AY;simp only[LG,true_and,and_true]at e2;subst e2;have hlq:=hq.len;obtain⟨m,hm⟩:∃ m:Int,m=(w.ps.length:Int):=⟨_,rfl⟩;rw[<- hm]at hlq;have hps:=i2.parts;have hsub:wr .i64 (m - 1)=m - 1:=by
     by_cases h0:0<=m - 1
     .exact BU h0 (by omega)
     .have:m - 1 = -1:=(by omega);rw[this];decide
    simp only[Gw]at i3;by_cases hc:0<=z/\z<=m - 1
    .rw[if_pos (by rw[<- hm];exact hc)]at i3;obtain⟨j,hj⟩:∃ j:Nat,z=j:=⟨z.toNat,by omega⟩;have hjl:j<w.ps.length:=(by omega);obtain⟨e3,he3,hR3⟩:=hq.ix hjl;have hd:decide (0<=z/\z<=m - 1)=true:=decide_eq_true hc;have hg:w.ps.getD z.toNat default=w.ps[j]:=(by rw[hj];simp[hjl]);rw[hg]at i3;obtain⟨q3,rfl,hq3⟩:=hR3.AY;rw[<- hj]at he3;have hqc:=hq3.cells;exact .inl ⟨(w.ps[j],q3),by simp[f160,hi',he,hlq,hsub,hc,he3,hqc,hwr],hR3,hps.2 _ (An hjl),i3⟩
    .rw[if_neg (by rw[<- hm];exact hc)]at i3;have hqc:=hq.cells;refine .inr ⟨_,_,by simp[f160,hi',he,hlq,hsub,hc,hqc] <;> first | exact⟨rfl,rfl⟩ | rfl,by simp,(w,q),i1,.inr ⟨rfl,i3⟩⟩) (fun b hI=>by
    obtain⟨w,q⟩:=b;obtain⟨i1,i2,i3⟩:=hI;rw[DD]at i3;exact⟨_,_,by simp[f160] <;> first | exact⟨rfl,rfl⟩ | rfl,by simp,(w,q),i1,.inl ⟨rfl,i3⟩⟩) (u,ys.getD 2 .AI) (by
    obtain⟨q,rfl,hq⟩:=hu.AY;exact⟨hu,hsu,rfl⟩)
 obtain⟨q0,rfl,hq0⟩:=hu.AY;obtain⟨⟨w,q⟩,b1,hq⟩:=hq;simp only[List.getD_cons_succ,List.getD_cons_zero]at hlp;simp[f160]at hlp;have hbn:=b1.AF;obtain⟨q2,e2,hq2⟩:=b1.AY;simp only[LG,true_and,and_true]at e2;subst e2;have hqc:=hq2.cells;rcases hq with⟨hq,hr⟩ | ⟨hq,hr⟩ <;> cases hq
 .refine⟨[.str w.nm,.int .i64 w.v,q],fun w' h' => ?_,⟨w,b1⟩,fun h => ?_⟩
  .rw[hr]at h';cases h';exact b1
  .rw[hr];exact Ae SK VV hn (by simp[AV.AA,AF,hq2.AA]) (hr:=_) (by simp[AJ,f160,hp.len,hlp,hqc] <;> rfl) h
 .refine⟨[.str w.nm,.int .i64 w.v,q],fun w' h' => ?_,⟨w,b1⟩,fun h => ?_⟩
  .rw[hr]at h';cases h'
  .rw[hr];exact Ae SK VV hn (by simp[AV.AA,AF,hq2.AA]) (hr:=_) (by simp[AJ,f160,hp.len,hlp] <;> rfl) h
theorem c162{u:TyV}{q:AV}{c:Ha}(H:AE):∃ B,AH MX (AG MX) 162 [.agg [.str c.nm,.int .i64 c.num,.int .i64 c.nx],.ro [.str u.nm,.int .i64 u.v,q]] H=some (.ret (.bool (Iu u c)),H++[B]):=by
 refine⟨.var false [.str c.nm,.int .i64 c.num,.int .i64 c.nx],BE Yy cz ?_⟩;have hf:Iu u c=((c.nm == u.nm)&&(!c.nm.isEmpty||c.num == u.v)):=by
  unfold Iu;cases c.nm <;> rfl
 rw[hf];cases h1:c.nm == u.nm <;> cases h2:c.nm.isEmpty <;> cases h3:c.num == u.v <;> simp[AJ,f162,h1,h2,h3]
theorem c161{cs:List Ha}{cv:AV}(hc:SlR HH 3 cs cv)(hl:cs.length<1048577){u:TyV}{q:AV}(hq:SlR A4 3 u.ps q){id:Nat}{H:AE}(hb:H[id]? = some (.var false [.str u.nm,.int .i64 u.v,q])) :
 AH MX (AG MX) 161 [cv,.fn 162 [] [.hp id 0]] H=some (.ret (.int .i64 (ixI (cs.findIdx? (Iu u)))),H.set id (.var true [.str u.nm,.int .i64 u.v,q])):=by
 obtain⟨F,hF⟩:∃ F,F=AV.fn 162 [] [.ro [.str u.nm,.int .i64 u.v,q]]:=⟨_,rfl⟩;obtain⟨G,hG⟩:∃ G,AJ MX 161 [cv,.fn 162 [] [.ro [.str u.nm,.int .i64 u.v,q]]] []=some (.ret (.int .i64 (ixI (cs.findIdx? (Iu u)))),G):=by
  rw[<- hF];obtain⟨e,st,hlp,hq⟩:=AQ (M:=MX) (fid:=161) (N:=19) (C:=AG MX) (c:=AL f161 0) (n:=cs.length) (fun i (b:AE)=>([(0,cv),(1,F),(7,.int .i64 cs.length),(8,.int .i64 i)],b)) (fun i _=>∀ j (hj:j<cs.length),j<i->(Iu u) cs[j]=false)
   (fun r=>∃ b:AE,(r=(.ext 0,([(0,cv),(1,F),(7,.int .i64 cs.length),(8,.int .i64 cs.length),(9,.bool false)],b))/\cs.findIdx? (Iu u)=none)\/(∃ i:Nat,r=(.ret,([(4,.int .i64 i)],b))/\cs.findIdx? (Iu u)=some i)) (fun i b hi hI=>by
     obtain⟨e,he,hR⟩:=hc.ix hi;subst hR;have hi':=Aa hi;have hw:=AZ hi hl;obtain⟨B,hcall⟩:=c162 (u:=u) (q:=q) (c:=cs[i]) b;cases hx:Iu u cs[i]with
     | true=>rw[hx]at hcall;exact .inr ⟨_,_,by simp[f161,hi',he,hcall,hF] <;> exact⟨rfl,rfl⟩,by simp,b++[B],.inr ⟨i,rfl,FH (p:=Iu u) hi hI hx⟩⟩
     | false=>rw[hx]at hcall;exact .inl ⟨b++[B],by simp[f161,hi',he,hcall,hw,hF],FJ (p:=Iu u) hi hI hx⟩) (fun b hI=>by
     exact⟨_,_,by simp[f161] <;> exact⟨rfl,rfl⟩,by simp,b,.inl ⟨rfl,FI (p:=Iu u) fun j hj=>hI j hj hj⟩⟩) [] (fun j _ h0=>by omega)
  simp[f161]at hlp;obtain⟨b,hq⟩:=hq;rcases hq with⟨hq,hs⟩ | ⟨i,hq,hs⟩ <;> cases hq <;> exact⟨b,by simp[AJ,f161,hc.len,hlp,hs,ixI]⟩
 have hsn:=S2 (f:=162) (id:=id) (b:=false) (h:=H) hq hb;exact EG (by simp[SL]) (args':=[cv,.fn 162 [] [.ro [.str u.nm,.int .i64 u.v,q]]]) (by simp[Aq,hc.AA,hsn,AV.AA,AF]) (by simp[hc.AA,AV.AA,AF,hq.AA]) (Ae SL cy (by simp[hc.AA,AV.AA,AF,hq.AA]) rfl hG _)
theorem en:AL f100 0=.block 1 (.seq (sub (AL f100 0) [0,0]) (.seq (sub (AL f100 0) [0,1,0]) (.seq (sub (AL f100 0) [0,1,1,0]) (.seq (sub (AL f100 0) [0,1,1,1,0]) (.seq (sub (AL f100 0) [0,1,1,1,1,0]) (.seq (sub (AL f100 0) [0,1,1,1,1,1,0]) (.seq (sub (AL f100 0) [0,1,1,1,1,1,1,0]) (sub (AL f100 0) [0,1,1,1,1,1,1,1])))))))):=rfl
section
variable{tv:AV}{B:Blk}{T:AE}{a m:Nat}{arm other:Int}{pv cv:AV}
theorem jP(hix:∀ kd,ixA 4 tv (.int kd (a:Int))=some (.ro [.int .i64 arm,pv,cv,.int .i64 other]))(hpc:pv.cells=some [pv])(hcc:cv.cells=some [cv]) :
 AX MX 100 63 (AG MX) (sub (AL f100 0) [0,0]) ([(0,tv),(3,.hp 0 0),(6,.int .i64 a)],B::T)=some (.nrm,([(0,tv),(3,.hp 0 0),(6,.int .i64 a),(7,.hp (T.length+1) 0)],B::(T++[.var false [.int .i64 arm,pv,cv,.int .i64 other]]))):=by
 simp[f100,sub,hix,hpc,hcc]
theorem eo(hcl:∀ h,Bi cv h=some (.val (.int .i64 0) h)):AX MX 100 63 (AG MX) (sub (AL f100 0) [0,1,0]) ([(0,tv),(3,.hp 0 0),(6,.int .i64 a),(7,.hp (T.length+1) 0)],B::(T++[(Blk.var false [AV.int IntKind.i64 arm,pv,cv,AV.int IntKind.i64 other])]))=some (.ret,([(4,.int .i64 arm),(5,.int .i64 0)],B::(T++[(Blk.var false [AV.int IntKind.i64 arm,pv,cv,AV.int IntKind.i64 other])]))):=by
 simp[f100,sub,hcl]
theorem jQ{z:Int}(hz:z≠0)(hcl:∀ h,Bi cv h=some (.val (.int .i64 z) h)):AX MX 100 63 (AG MX) (sub (AL f100 0) [0,1,0]) ([(0,tv),(3,.hp 0 0),(6,.int .i64 a),(7,.hp (T.length+1) 0)],B::(T++[(Blk.var false [AV.int IntKind.i64 arm,pv,cv,AV.int IntKind.i64 other])]))=some (.nrm,([(0,tv),(3,.hp 0 0),(6,.int .i64 a),(7,.hp (T.length+1) 0),(20,.bool false)],B::(T++[(Blk.var false [AV.int IntKind.i64 arm,pv,cv,AV.int IntKind.i64 other])]))):=by
 have hzb:(z == 0)=false:=by simp[hz]
 simp[f100,sub,hcl,hzb]
theorem jR{y1 y2 y3 z1 z2 z3:AV}{ok:Bool}(hc3:z3.cells=some [z3])(hc1:z1.cells=some [z1])(hc2:z2.cells=some [z2])(h160:∀ h,AH MX (AG MX) 160 [.agg [y1,y2,y3],pv] h=some (.ret (.tup [.agg [z1,z2,z3],.bool ok]),h)) :
 AX MX 100 63 (AG MX) (sub (AL f100 0) [0,1,1,0]) ([(0,tv),(3,.hp 0 0),(6,.int .i64 a),(7,.hp (T.length+1) 0),(20,.bool false)],Blk.var false [y1,y2,y3]::(T++[(Blk.var false [AV.int IntKind.i64 arm,pv,cv,AV.int IntKind.i64 other])]))=some (.nrm,([(0,tv),(3,.hp 0 0),(6,.int .i64 a),(7,.hp (T.length+1) 0),(8,.hp (T.length+2) 0),(9,.bool ok)],Blk.var false [y1,y2,y3]::(T++[(Blk.var false [AV.int IntKind.i64 arm,pv,cv,AV.int IntKind.i64 other]),.var false [z1,z2,z3]]))):=by
 simp[f100,sub,h160,AV.cells,hc1,hc2,hc3]
theorem ai{ok:Bool}{H:AE}:AX MX 100 63 (AG MX) (sub (AL f100 0) [0,1,1,1,0]) ([(0,tv),(3,.hp 0 0),(6,.int .i64 a),(7,.hp (T.length+1) 0),(8,.hp (T.length+2) 0),(9,.bool ok)],H)=some (match ok with
 | false=>(.ret,([(4,.int .i64 0),(5,.int .i64 14)],H))
 | true=>(.nrm,([(0,tv),(3,.hp 0 0),(6,.int .i64 a),(7,.hp (T.length+1) 0),(8,.hp (T.length+2) 0),(31,.bool false)],H))):=by
 cases ok <;> simp[f100,sub]
theorem jS{P:Blk}:AX MX 100 63 (AG MX) (sub (AL f100 0) [0,1,1,1,1,0]) ([(0,tv),(3,.hp 0 0),(6,.int .i64 a),(7,.hp (T.length+1) 0),(8,.hp (T.length+2) 0),(31,.bool false)],B::(T++[(Blk.var false [AV.int IntKind.i64 arm,pv,cv,AV.int IntKind.i64 other]),P]))=some (.nrm,([(0,tv),(3,.hp 0 0),(6,.int .i64 a),(7,.hp (T.length+1) 0),(8,.hp (T.length+2) 0),(10,.int .i64 other)],B::(T++[(Blk.var false [AV.int IntKind.i64 arm,pv,cv,AV.int IntKind.i64 other]),P]))):=by
 simp[f100,sub]
theorem jT{P P':Blk}{o:Option Nat}{c1 c2:Nat->AV}{nx:Nat->Int}(h161:AH MX (AG MX) 161 [cv,.fn 162 [] [.hp (T.length+2) 0]] (B::(T++[(Blk.var false [AV.int IntKind.i64 arm,pv,cv,AV.int IntKind.i64 other]),P]))=some (.ret (.int .i64 (ixI o)),B::(T++[(Blk.var false [AV.int IntKind.i64 arm,pv,cv,AV.int IntKind.i64 other]),P'])))(hix:∀ i,o=some i->∀ kd,ixA 3 cv (.int kd (i:Int))=some (.ro [c1 i,c2 i,.int .i64 (nx i)])) :
 ∃ junk,AX MX 100 63 (AG MX) (sub (AL f100 0) [0,1,1,1,1,1,0]) ([(0,tv),(3,.hp 0 0),(6,.int .i64 a),(7,.hp (T.length+1) 0),(8,.hp (T.length+2) 0),(10,.int .i64 other)],B::(T++[(Blk.var false [AV.int IntKind.i64 arm,pv,cv,AV.int IntKind.i64 other]),P]))=some (match o with
  | some i=>(.nrm,((0,tv)::(3,.hp 0 0)::(6,.int .i64 a)::(10,.int .i64 (nx i))::junk,B::(T++[(Blk.var false [AV.int IntKind.i64 arm,pv,cv,AV.int IntKind.i64 other]),P'])))
  | none=>if other = -1 then(.ret,([(4,.int .i64 0),(5,.int .i64 12)],B::(T++[(Blk.var false [AV.int IntKind.i64 arm,pv,cv,AV.int IntKind.i64 other]),P'])))else(.nrm,((0,tv)::(3,.hp 0 0)::(6,.int .i64 a)::(10,.int .i64 other)::junk,B::(T++[(Blk.var false [AV.int IntKind.i64 arm,pv,cv,AV.int IntKind.i64 other]),P'])))):=by
 cases o with
 | some i=>
  have hix:=hix i rfl;have hi:((i:Int) ≥ 0):=by omega
  exact⟨[],by simp[f100,sub,h161,ixI,hix,hi]⟩
 | none=>
  by_cases ho:other = -1
  .subst ho;exact⟨[],by simp[f100,sub,h161,ixI]⟩
  .have hob:(other == -1)=false:=(by simp[ho]);exact⟨[(47,.bool false)],by simp[f100,sub,h161,ixI,ho,hob]⟩
theorem jU{t:List A2}{nx:Int}{junk:List (Nat×AV)}{H:AE}(htl:∀ h,Bi tv h=some (.val (.int .i64 t.length) h)) :
 AX MX 100 63 (AG MX) (sub (AL f100 0) [0,1,1,1,1,1,1,0]) ((0,tv)::(3,.hp 0 0)::(6,.int .i64 a)::(10,.int .i64 nx)::junk,H)=some (match goV t a nx with
  | .inl r=>(.ret,([(4,.int .i64 0),(5,.int .i64 r.2)],H))
  | .inr b=>(.nrm,([(0,tv),(3,.hp 0 0),(10,.int .i64 nx),(12,.int .i64 0),(60,.bool false)],H))):=by
 unfold goV;by_cases h1:nx<=a
 .have g1:¬ (nx > (a:Int)):=by omega
  rw[if_pos h1];simp[f100,sub,htl,g1,h1,bsA,Ag,List.replicate,AF,AV.AA,Al]
 .have g1:(nx > (a:Int)):=by omega
  rw[if_neg h1];by_cases h2:(t.length:Int)<=nx
  .have g2:¬ (nx<(t.length:Int)):=(by omega);rw[if_pos h2];simp[f100,sub,htl,g1,g2,h1,bsA,Ag,List.replicate,AF,AV.AA,Al]
  .have g2:(nx<(t.length:Int)):=(by omega);rw[if_neg h2];simp[f100,sub,htl,g1,g2,bsA,Ag,List.replicate,AF,AV.AA,Al]
theorem jV{nx:Int}{H:AE}:AX MX 100 63 (AG MX) (sub (AL f100 0) [0,1,1,1,1,1,1,1]) ([(0,tv),(3,.hp 0 0),(10,.int .i64 nx),(12,.int .i64 0),(60,.bool false)],H)=some (.nrm,([(0,tv),(3,.hp 0 0),(6,.int .i64 nx)],H)):=by
 simp[f100,sub]
end
theorem et{t:List A2}{a:Nat}{nx:Int}{r:Int×Int}(h:goV t a nx=.inl r):r.1=0:=by
 unfold goV at h;split at h
 .cases h;rfl
 .split at h
  .cases h;rfl
  .cases h
section
variable{t:List A2}{tv:AV}(ht:SlR GR 4 t tv)(hst:∀ n∈t,SmN n){u:TyV}{q:AV}(hu:A4 u [.str u.nm,.int .i64 u.v,q])(hsu:Sm 1048577 u)
include ht hst hu hsu
theorem aj{a:Nat}(ha:a<t.length)(T:AE):∃ T',AX MX 100 63 (AG MX) (AL f100 0) ([(0,tv),(3,.hp 0 0),(6,.int .i64 a)],Blk.var false [.str u.nm,.int .i64 u.v,q]::T)=some (match KU t u a with
 | .inl r=>(.ret,([(4,.int .i64 r.1),(5,.int .i64 r.2)],Blk.var false [.str u.nm,.int .i64 u.v,q]::T'))
 | .inr b=>(.nrm,([(0,tv),(3,.hp 0 0),(6,.int .i64 b)],Blk.var false [.str u.nm,.int .i64 u.v,q]::T'))):=by
 rw[en];obtain⟨e,he,pv,cv,rfl,hp,hc⟩:=ht.ix ha;have hg:t.getD a default=t[a]:=by simp[ha]
 obtain⟨l1,l2⟩:=hst _ (An ha);have kA:=jP (T:=T) (B:=Blk.var false [.str u.nm,.int .i64 u.v,q]) he hp.cells hc.cells;unfold KU;rw[hg];by_cases h0:t[a].cases.length=0
 .rw[if_pos h0];have hcl:=hc.len;rw[h0]at hcl;exact⟨_,HB (Ai kA (GQ (eo hcl)))⟩
 .rw[if_neg h0];have kB:=jQ (tv:=tv) (B:=Blk.var false [.str u.nm,.int .i64 u.v,q]) (T:=T) (a:=a) (arm:=t[a].arm) (other:=t[a].other) (pv:=pv) (z:=(t[a].cases.length:Int)) (by omega) hc.len;obtain⟨zs,z1,⟨w0,z2⟩,h160⟩:=c160 hu hsu hp l1;obtain⟨y3,rfl,hy3⟩:=z2.AY;obtain⟨y1,hy1⟩:∃ y1,y1=AV.str w0.nm:=⟨_,rfl⟩;obtain⟨y2,hy2⟩:∃ y2,y2=AV.int .i64 w0.v:=⟨_,rfl⟩;rw[<- hy1,<- hy2]at h160 z1;have kC0:=fun(ok:Bool) (h160:∀ h,AH MX (AG MX) 160 [.agg [.str u.nm,.int .i64 u.v,q],pv] h=some (.ret (.tup [.agg [y1,y2,y3],.bool ok]),h))=>jR (tv:=tv) (T:=T) (a:=a) (arm:=t[a].arm) (other:=t[a].other) (pv:=pv) (cv:=cv) hy3.cells (by rw[hy1];rfl) (by rw[hy2];rfl) h160
  cases hw:Gw u t[a].path with
  | none=>
   rw[hw]at h160;exact⟨_,HB (Ai kA (Ai kB (Ai (kC0 false h160) (GQ ai))))⟩
  | some w=>
   rw[hw]at h160;have hwR:=z1 w hw;obtain⟨qw,e2,hqw⟩:=hwR.AY;simp only[LG,and_true]at e2;have kC:=kC0 true h160;obtain⟨e21,e22,e23⟩:=e2;rw[e21,e22,e23]at kC;have kD:=ai (tv:=tv) (T:=T) (a:=a) (ok:=true) (H:=Blk.var false [.str u.nm,.int .i64 u.v,q]::(T++[Blk.var false [.int .i64 t[a].arm,pv,cv,.int .i64 t[a].other],.var false [.str w.nm,.int .i64 w.v,qw]]));have kE:=jS (tv:=tv) (B:=Blk.var false [.str u.nm,.int .i64 u.v,q]) (T:=T) (a:=a) (arm:=t[a].arm) (other:=t[a].other) (pv:=pv) (cv:=cv) (P:=.var false [.str w.nm,.int .i64 w.v,qw]);have h161:=c161 hc l2 hqw (id:=T.length+2) (H:=Blk.var false [.str u.nm,.int .i64 u.v,q]::(T++[Blk.var false [.int .i64 t[a].arm,pv,cv,.int .i64 t[a].other],.var false [.str w.nm,.int .i64 w.v,qw]])) (by simp);have hset:(Blk.var false [.str u.nm,.int .i64 u.v,q]::(T++[Blk.var false [.int .i64 t[a].arm,pv,cv,.int .i64 t[a].other],.var false [.str w.nm,.int .i64 w.v,qw]])).set (T.length+2) (.var true [.str w.nm,.int .i64 w.v,qw])=Blk.var false [.str u.nm,.int .i64 u.v,q]::(T++[Blk.var false [.int .i64 t[a].arm,pv,cv,.int .i64 t[a].other],.var true [.str w.nm,.int .i64 w.v,qw]]):=(by simp);rw[hset]at h161;obtain⟨junk,kF⟩:=jT (tv:=tv) (a:=a) (c1:=fun i=> .str (t[a].cases.getD i default).nm) (c2:=fun i=> .int .i64 (t[a].cases.getD i default).num) (nx:=fun i=>(t[a].cases.getD i default).nx) h161 (fun i hi=>by
    obtain⟨hlt,_⟩:=Gr.1 hi;obtain⟨e,he,hR⟩:=hc.ix hlt;have hg2:t[a].cases.getD i default=t[a].cases[i]:=(by simp[hlt]);simp only[hg2];rw[HH]at hR;rw[<- hR];exact he)
   simp only;have fin:∀(nx:Int) (junk:List (Nat×AV)) (H:AE),AX MX 100 63 (AG MX) (.seq (sub (AL f100 0) [0,1,1,1,1,1,1,0]) (sub (AL f100 0) [0,1,1,1,1,1,1,1])) ((0,tv)::(3,.hp 0 0)::(6,.int .i64 a)::(10,.int .i64 nx)::junk,H)=some (match goV t a nx with
    | .inl r=>(.ret,([(4,.int .i64 r.1),(5,.int .i64 r.2)],H))
    | .inr b=>(.nrm,([(0,tv),(3,.hp 0 0),(6,.int .i64 b)],H))):=fun nx junk H=>by
    have kG:=jU (a:=a) (nx:=nx) (junk:=junk) (H:=H) ht.len;cases hgo:goV t a nx with
    | inl r=>
     rw[hgo]at kG;simp only at kG ⊢;rw[et hgo];exact GQ kG
    | inr b=>
     rw[hgo]at kG;simp only at kG ⊢;rw[<- (MS hgo).2.2];exact Ai kG jV
   cases hf:t[a].cases.findIdx? (Iu w)with
   | some i=>
    rw[hf]at kF;simp only at kF ⊢;have k1:=fin (t[a].cases.getD i default).nx junk (Blk.var false [.str u.nm,.int .i64 u.v,q]::(T++[Blk.var false [.int .i64 t[a].arm,pv,cv,.int .i64 t[a].other],.var true [.str w.nm,.int .i64 w.v,qw]]));refine⟨T++[Blk.var false [.int .i64 t[a].arm,pv,cv,.int .i64 t[a].other],.var true [.str w.nm,.int .i64 w.v,qw]],?_⟩;have k2:=Ai kA (Ai kB (Ai kC (Ai kD (Ai kE (Ai kF k1)))));cases hgo:goV t a (t[a].cases.getD i default).nx with
    | inl r=>rw[hgo]at k2;exact HB k2
    | inr b=>rw[hgo]at k2;exact I6 k2
   | none=>
    rw[hf]at kF;simp only at kF ⊢;by_cases ho:t[a].other = -1
    .rw[if_pos ho]at kF ⊢;exact⟨_,HB (Ai kA (Ai kB (Ai kC (Ai kD (Ai kE (GQ kF))))))⟩
    .rw[if_neg ho]at kF ⊢;have k1:=fin t[a].other junk (Blk.var false [.str u.nm,.int .i64 u.v,q]::(T++[Blk.var false [.int .i64 t[a].arm,pv,cv,.int .i64 t[a].other],.var true [.str w.nm,.int .i64 w.v,qw]]));refine⟨T++[Blk.var false [.int .i64 t[a].arm,pv,cv,.int .i64 t[a].other],.var true [.str w.nm,.int .i64 w.v,qw]],?_⟩;have k2:=Ai kA (Ai kB (Ai kC (Ai kD (Ai kE (Ai kF k1)))));cases hgo:goV t a t[a].other with
     | inl r=>rw[hgo]at k2;exact HB k2
     | inr b=>rw[hgo]at k2;exact I6 k2
theorem c100(h0:0<t.length):(∃ r,ByR t u 0 r)/\∀ h,AH MX (AG MX) 100 [tv,.agg [.str u.nm,.int .i64 u.v,q]] h=some (.ret (.tup [.int .i64 (byV t u).1,.int .i64 (byV t u).2]),h):=by
 have hn:([tv,.agg [.str u.nm,.int .i64 u.v,q]]:List AV).all AV.AA=true:=by
  have:=hu.AF;simp only[Hk,List.all_nil,AV.AA,ht.AA,this,Mf]
 obtain⟨e,st,hlp,hq⟩:=Mn (M:=MX) (fid:=100) (N:=63) (C:=AG MX) (c:=AL f100 0)
  (fun(b:Nat×AE)=>([(0,tv),(3,.hp 0 0),(6,.int .i64 b.1)],Blk.var false [.str u.nm,.int .i64 u.v,q]::b.2))
  (fun b=>b.1<t.length/\∀ r,ByR t u b.1 r->ByR t u 0 r)
  (fun b=>t.length - b.1)
  (fun r=>∃(z:Int×Int) (T:AE),ByR t u 0 z/\r=(.ret,([(4,.int .i64 z.1),(5,.int .i64 z.2)],Blk.var false [.str u.nm,.int .i64 u.v,q]::T))) (fun b hI=>by
    obtain⟨a,T⟩:=b;obtain⟨i1,i2⟩:=hI;simp only at i1 i2;obtain⟨T',hr⟩:=aj ht hst hu hsu i1 T;cases hx:KU t u a with
    | inl r=>
     rw[hx]at hr;exact .inr ⟨_,_,hr,by simp,r,T',i2 r (.done hx),rfl⟩
    | inr b=>
     rw[hx]at hr;obtain⟨g1,g2⟩:=XT hx;exact .inl ⟨(b,T'),hr,⟨g2,fun r h=>i2 r (.step hx h)⟩,by show t.length - b<t.length - a;omega⟩) (0,[]) ⟨h0,fun r h=>h⟩
 obtain⟨z,T,hz,hq⟩:=hq;cases hq;simp[f100]at hlp;refine⟨⟨z,hz⟩,fun h => ?_⟩;rw[ah hz];exact Ae R1 cK hn rfl (hr:=_) (by simp[AJ,f100,hlp] <;> rfl) h
noncomputable def rBy(t:List A2)(u:TyV):Int×Int:=if t.length=0 then(0,10)else if 400<t.length then(0,8)else if A7 u=true then byV t u else(0,8)
theorem c52(h:AE):AH MX (AG MX) 52 [tv,.agg [.str u.nm,.int .i64 u.v,q]] h=some (.ret (.tup [.int .i64 (rBy t u).1,.int .i64 (rBy t u).2]),h):=by
 have hb:=Zt;simp[Ab,Az,f52]at hb;have hun:=hu.AF;have hn:([tv,.agg [.str u.nm,.int .i64 u.v,q]]:List AV).all AV.AA=true:=by
  simp only[Hk,List.all_nil,AV.AA,ht.AA,hun,Mf]
 have h98:=c98 ht;have h102:=Lg.c102 hu hsu;have hqn:q.AA=true:=by simpa[AF,AV.AA]using hun
 unfold rBy;by_cases h0:t.length=0
 .simp only[if_pos h0]at h98 ⊢;cases hT:A7 u <;> rw[hT]at h102 <;> simp at h102 <;> exact Ae NX Qq hn rfl (hr:=_) (by simp[AJ,f52,h98,h102,hb,bsA,Ag,List.replicate,AF,AV.AA,Al,ht.AA,hqn] <;> rfl) h
 .simp only[if_neg h0]at h98 ⊢;by_cases h4:400<t.length
  .simp only[if_pos h4]at h98 ⊢;cases hT:A7 u <;> rw[hT]at h102 <;> simp at h102 <;> exact Ae NX Qq hn rfl (hr:=_) (by simp[AJ,f52,h98,h102,hb,bsA,Ag,List.replicate,AF,AV.AA,Al,ht.AA,hqn] <;> rfl) h
  .simp only[if_neg h4]at h98 ⊢;have h100:=(c100 ht hst hu hsu (by omega)).2;cases hT:A7 u with
   | true=>
    rw[hT]at h102;simp at h102;rw[if_pos rfl];exact Ae NX Qq hn rfl (hr:=_) (by simp[AJ,f52,h98,h102,h100,hb,bsA,Ag,List.replicate,AF,AV.AA,Al,ht.AA,hqn] <;> rfl) h
   | false=>
    rw[hT]at h102;simp at h102;rw[if_neg (by decide)];exact Ae NX Qq hn rfl (hr:=_) (by simp[AJ,f52,h98,h102,hb,bsA,Ag,List.replicate,AF,AV.AA,Al,ht.AA,hqn] <;> rfl) h
end
noncomputable def Hm(t:List A2)(k:EM)(u:TyV):Bool:=decide ((byV t u).2=0)&&((byV t u).1 == ixI (aV k u))
noncomputable abbrev stepG(t:List A2)(k:EM):Int->TyV->Int×Bool:=fun b u=>match Hm t k u with
 | true=>(wr .i64 (b+1),true)
 | false=>(b,false)
theorem gL(t:List A2)(k:EM):∀(l:List TyV) (b:Int),0<=b->b+l.length<1000000000->walk (stepG t k) b l=(match l.findIdx? (fun u => !Hm t k u)with
 | none=>(b+l.length,true)
 | some j=>(b+j,false))
 | [],b,_,_=>by simp[walk]
 | u::l,b,h0,h1=>by
  simp only[walk,List.findIdx?_cons];simp only[DC]at h1 ⊢;cases hg:Hm t k u with
  | true=>
   have:stepG t k b u=(b+1,true):=(by simp only[stepG,hg];rw[BU (by omega) (by omega)]);rw[this];simp only[andThen];rw[gL t k l (b+1) (by omega) (by omega)];cases hf:l.findIdx? (fun u => !Hm t k u)with
   | none=>simp;omega
   | some j=>simp;omega
  | false=>
   have:stepG t k b u=(b,false):=(by simp only[stepG,hg]);rw[this];simp[andThen]
section
variable{t:List A2}{tv:AV}(ht:SlR GR 4 t tv)(hst:∀ n∈t,SmN n)(ht0:0<t.length)
variable{k:EM}{dv pv av:AV}(ha:SlR AU 4 k.arms av)(hal:k.arms.length<1048577)(has:∀ p∈k.arms,Sm 1048577 p){s:Sh}(hpe:∀ p∈k.arms,CB s p=0)
include ht hst ht0 ha hal has hpe
theorem con99{tb kb o:Nat}(n1:tb≠o)(n2:kb≠o) :
 Con 99 [.hp tb 0,.hp kb 0,.hp o 0] (fun x=>x=o) (fun(b:Int) H=>H[tb]? = some (.var false [tv])/\H[kb]? = some (.var false (tcs k dv pv av))/\H[o]? = some (.var false [.int .i64 b])) (stepG t k) (VS s):=by
 refine⟨rfl,NZ,fun b H u row hP hr hv => ?_,fun b H H' hP x => ?_⟩
 .obtain⟨p1,p2,p3⟩:=hP;obtain⟨rv,rfl,hrc⟩:=row3 hr;have htn:=ht.AA;have htc:=ht.cells;have hX:Ext NoM H (H++[.var false [.str u.nm,.int .i64 u.v,rv]]):=Ext.app _ _;have e1:=Af p1 [.var false [.str u.nm,.int .i64 u.v,rv]];have e2:=Af p2 [.var false [.str u.nm,.int .i64 u.v,rv]];obtain⟨row',H',b1,b2,b3,b4⟩:=aU (hr.ext hX);have b10:=b1;obtain⟨q',e',hq'⟩:=b10.AY;subst e';have h100:=b4 100 [tv] _ (by simp[R1]) (by simp[htn]) ((c100 ht hst b1 hv.2.1 ht0).2 H');simp at h100;have f2:=b2.var e2 (fun h=>h);have fx:=b2.var (BD H (.var false [.str u.nm,.int .i64 u.v,rv])) (fun h=>h);have f3:=(hX.trans b2).var p3 (fun h=>h);have f1:=b2.var e1 (fun h=>h);obtain⟨z,hz⟩:∃ z,z=byV t u:=⟨_,rfl⟩;rw[<- hz]at h100;by_cases hz2:z.2=0
  .rw[hz2]at h100;obtain⟨row2,H2,d1,d2,d3,d4⟩:=aU ((hr.ext hX).ext b2);have h62:=d4 62 [av] _ (by simp[U8]) (by simp[ha.AA]) (c62 ha hal has d1 hpe hv.1 H2);simp at h62;have g1:=d2.var f1 (fun h=>h);have g2:=d2.var f2 (fun h=>h);have g3:=d2.var f3 (fun h=>h);have hlo:=(Ac.1 g3).1;obtain⟨x,hx⟩:∃ x,x=ixI (aV k u):=⟨_,rfl⟩;have h62:AH MX (AG MX) 62 [av,.agg [.str u.nm,.int .i64 u.v,rv]] H'=some (.ret (.int .i64 x),H2):=(by rw[hx];exact h62);cases hg:z.1 == x with
   | true=>
    have hgv:Hm t k u=true:=(by unfold Hm;rw[<- hz,<- hx,hz2,hg];rfl);have hgn:(z.1 != x)=false:=(by simp[bne,hg]);have hs:Ext (fun y=>y=o) H2 (H2.set o (.var false [.int .i64 (wr .i64 (b+1))])):=Ext.set (M:=fun y=>y=o) g3 rfl (fun _ _ e=>by cases e) (fun _ _ e=>by cases e);refine⟨H2.set o (.var false [.int .i64 (wr .i64 (b+1))]),CU NZ T8 ?_,?_,(hX.trans (b2.trans d2)).any.trans hs⟩
    .simp[AJ,f99,hrc,e1,htc,h100,f2,fx,AW fx,h62,hgn,g3,AW g3,hlo,stepG,hgv]
    .simp only[stepG,hgv];exact⟨hs.var g1 n1,hs.var g2 n2,CM hlo⟩
   | false=>
    have hgv:Hm t k u=false:=(by unfold Hm;rw[<- hz,<- hx,hg];simp);have hgn:(z.1 != x)=true:=(by simp[bne,hg]);refine⟨H2,CU NZ T8 ?_,?_,(hX.trans (b2.trans d2)).any⟩
    .simp[AJ,f99,hrc,e1,htc,h100,f2,fx,AW fx,h62,hgn,stepG,hgv]
    .simp only[stepG,hgv];exact⟨g1,g2,g3⟩
  .have hzb:(z.2 != 0)=true:=(by simp[hz2]);have hgv:Hm t k u=false:=(by unfold Hm;rw[<- hz,decide_eq_false hz2];rfl);refine⟨H',CU NZ T8 ?_,?_,(hX.trans b2).any⟩
   .simp[AJ,f99,hrc,e1,htc,h100,hzb,stepG,hgv]
   .simp only[stepG,hgv];exact⟨f1,f2,f3⟩
 .obtain⟨p1,p2,p3⟩:=hP;exact⟨x.var p1 (fun h=>h),x.var p2 (fun h=>h),x.var p3 (fun h=>h)⟩
end
noncomputable def KW(k:EM)(t:List A2):Int:=if(A8 k.data k.ty k.arms).2=0 then(if t.length=0 then 10 else if 400<t.length then 8 else 0)else(A8 k.data k.ty k.arms).2
section
variable{k:EM}{xs:List AV}(hx:D5 k xs)(hsk:SmT 1048577 k){t:List A2}{tv:AV}(ht:SlR GR 4 t tv)(hst:∀ n∈t,SmN n)
include hx hsk ht hst
theorem c50(h:AE):AH MX (AG MX) 50 [.agg xs,tv] h=some (.ret (.tup [.int .i64 (if KW k t=0 then(match(Cw (CE k.data k.ty)).findIdx? (fun u => !Hm t k u)with | none=>0 | some j=>(j:Int))else 0),.int .i64 (if KW k t=0 then(match(Cw (CE k.data k.ty)).findIdx? (fun u => !Hm t k u)with | none=>0 | some _=>19)else KW k t)]),h):=by
 have hx0:=hx;have hxn:AF xs=true:=by obtain⟨dv,pv,av,rfl,hd,hp,ht,ha⟩:=hx.dest;simp[AV.AA,AF,hd.AA,hp.AA,ha.AA]
 have hn:([.agg xs,tv]:List AV).all AV.AA=true:=by simp[AV.AA,hxn,ht.AA]
 obtain⟨dv,pv,av,rfl,hd,hp,hty,ha⟩:=hx.dest;have hsk0:=hsk;obtain⟨s1,s2,s3,s4⟩:=hsk;have h98:=c98 ht;have htc:=ht.cells;obtain⟨v,H1,h63,hold,hok⟩:=c63 hx0 hsk0 [.var false (tcs k dv pv av),.var false [tv]];have b0:H1[0]? = some (.var false (tcs k dv pv av)):=hold 0 (by simp);have b1:H1[1]? = some (.var false [tv]):=hold 1 (by simp);have l1:=(Ac.1 b1).1;have h98':∀ h,AH MX (AG MX) 98 [tv] h=some (.ret (.int .i64 (if t.length=0 then 10 else if 400<t.length then 8 else 0)),h):=h98;obtain⟨te,hte⟩:∃ te:Int,te=(if t.length=0 then 10 else if 400<t.length then 8 else 0):=⟨_,rfl⟩;rw[<- hte]at h98';have hrT:KW k t=Al [(A8 k.data k.ty k.arms).2,te]:=by
  unfold KW;rw[<- hte];by_cases hE:(A8 k.data k.ty k.arms).2=0
  .rw[if_pos hE,hE];by_cases h2:te=0 <;> simp[Al,h2]
  .rw[if_neg hE];simp[Al,hE]
 by_cases hz:KW k t=0
 .simp only[if_pos hz];have hE:(A8 k.data k.ty k.arms).2=0:=by
   unfold KW at hz;split at hz
   .rename_i h;exact h
   .exact hz
  have ht0:0<t.length:=by
   unfold KW at hz;rw[if_pos hE]at hz;split at hz
   .cases hz
   .omega
  have hfo:=hrT.symm.trans hz;rw[hE]at h63 hfo;obtain⟨m,S,hS,hs⟩:=hok hE;obtain⟨hw,hsh,hvt,hcd⟩:=MP hsk0 hE;have hlen:=Kt s1 s2 (JU hE).1;have hX:Ext NoM H1 (H1++[.var false [.int .i64 0]]):=Ext.app _ _;have hcon:=con99 (dv:=dv) (pv:=pv) ht hst ht0 ha s3 s4 (XR hx0 hsk0 hE) (tb:=1) (kb:=0) (o:=H1.length) (by omega) (by omega);obtain⟨H2,c1,c2,c3⟩:=c64 hw Int 99 _ (fun x=>x=H1.length) _ _ _ hcon m S (H1++[.var false [.int .i64 0]]) v 0 (BT.ext m hs hX (fun x _ h=>h)) (fun x hx h=>by have:=hS x hx;omega) (fun x hx=>by simp;omega) (fun u hu=>RB hw u hu) ⟨Af b1 _,Af b0 _,BD _ _⟩;rw[gL t k _ 0 (by omega) (by omega)]at c1 c2;obtain⟨_,_,c2⟩:=c2;cases hf:(Cw (CE k.data k.ty)).findIdx? (fun u => !Hm t k u)with
  | none=>
   rw[hf]at c1;simp at c1;exact Ae NW T4 hn rfl (hr:=_) (by simp[AJ,f50,hd.cells,hp.cells,ha.cells,htc,h63,b1,h98',hfo,bsA,Ag,List.replicate,AF,AV.AA,c1] <;> rfl) h
  | some j=>
   rw[hf]at c1 c2;simp at c1 c2;exact Ae NW T4 hn rfl (hr:=_) (by simp[AJ,f50,hd.cells,hp.cells,ha.cells,htc,h63,b1,h98',hfo,bsA,Ag,List.replicate,AF,AV.AA,c1,c2,AW c2] <;> rfl) h
 .simp only[if_neg hz];have hzb:(KW k t != 0)=true:=by simp[hz]
  rw[hrT]at hzb ⊢;exact Ae NW T4 hn rfl (hr:=_) (by simp[AJ,f50,hd.cells,hp.cells,ha.cells,htc,h63,b1,h98',hzb,bsA,Ag,List.replicate,AF,AV.AA] <;> rfl) h
end
theorem QF{l:List AK}{w:AV}(hw:SlR Ah 3 l w){ps:List TyV}{pv:AV}(hp:SlR AU 4 ps pv){es:List (List AV)}(hnr:es.all AF=true){id:Nat}{lk:Bool}{H:AE}(hH:H[id]? = some (.arr 4 lk es)){kk vv:Int}{nm:Bytes}{y:AV}(hy:y.AA=true) :
 Aq [.agg [w,.int .i64 kk,.int .i64 vv,.str nm,pv,.hs id es.length 4 0 es.length false],y] H=some ([.agg [w,.int .i64 kk,.int .i64 vv,.str nm,pv,.sl 4 false es],y],H.set id (.arr 4 true es)):=by
 have h:=Mu hw hp hnr (m:=es.length) (Cd _) hH (kk:=kk) (vv:=vv) (nm:=nm);rw[Gu]at h;have hn:AV.AA (.agg [w,.int .i64 kk,.int .i64 vv,.str nm,pv,.hs id es.length 4 0 es.length false])=false:=by simp[AF,AV.AA,hw.AA,hp.AA]
 simp only[Aq,hn]at h ⊢;cases hs:snap C0 (.agg [w,.int .i64 kk,.int .i64 vv,.str nm,pv,.hs id es.length 4 0 es.length false]) H with
 | none=>rw[hs]at h;simp at h
 | some x=>
  rw[hs]at h;simp only[AM,A1,LG,and_true]at h;simp only[hy,h.1,h.2]
theorem own2{k:EM}{xs:List AV}(hx:D5 k xs)(hsk:SmT 1048577 k){y:AV}(hy:y.AA=true):∃ xs',D5 k xs'/\∀ R:AE,∃ O Y Y',AH MX (AG MX) 15 [.agg xs] R=some (.ret (.agg O),R++Y)/\∀(F:FuncId) (r:AV),(MX.mode F).fresh=true->(∀ h,AH MX (AG MX) F [.agg xs',y] h=some (.ret r,h))->AH MX (AG MX) F [.agg O,y] (R++Y)=some (.ret r,R++Y'):=by
 obtain⟨w0,pv,es,hw0,hpv,ht,hel,her,hc⟩:=c15 hx hsk;rcases hc with⟨h0,h15⟩ | ⟨h0,h15⟩
 .exact⟨_,⟨w0,_,.sl 4 true [],rfl,hw0,ht,.inr ⟨true,[],rfl,by rw[h0];rfl,fun i a e h=>by rw[h0]at h;simp at h⟩⟩,fun R=>⟨_,[],[],by rw[Hg];exact h15 R,fun F r _ h=>by rw[Hg];exact h R⟩⟩
 .have hnr:es.all AF=true:=BN hel her (fun a e h=>h.AF);refine⟨_,⟨w0,_,.sl 4 false es,rfl,hw0,ht,.inr ⟨false,es,rfl,hel,her⟩⟩,fun R=>⟨_,_,[.arr 4 true es],h15 R,fun F r hm h => ?_⟩⟩;have hs:=QF hw0 hpv hnr (id:=R.length) (lk:=false) (H:=R++[.arr 4 false es]) (by simp) (kk:=k.ty.k) (vv:=k.ty.v) (nm:=k.ty.nm) hy;have hset:(R++[Blk.arr 4 false es]).set R.length (.arr 4 true es)=R++[.arr 4 true es]:=by simp
  rw[hset]at hs;rw[<- hel];refine EG hm hs ?_ (h _);simp[AV.AA,AF,hw0.AA,hpv.AA,hy]
end
section
open Go.Proofs.YtggemipepaajmaaGreat
end
section
attribute [local simp] Dc Bn Ec Dd CQ Dx Dy Ey BZ Ap Bh Av Gb FR EN HO D9 A5 FN EO HP HQ xUn FC EA FT BG DQ BH EB BI EC Ce Ca Bv BL EP Eo
 ev evs C4 DP OR.ofV OR.D4 OR.ofC Fg Tm.get Tm.init Tm.only Ay A6 Bt finish CK DS Hb D3 D7 unA Bz Bc B6 Bd Cp Cq Cr Be Cs Ct Bf Cu Cv Bg B7 AL CP Bb Cn Co Bx Ez E0 E1 Dz D0 Fo F7 F8 Fp stA BA DY Bo DR FD Gp B8 C1 CI FU Gq
attribute [local simp] DE CT Cb Bl DF DG DH DI DJ DK DL Ef Cg Eg Dh FW FX Gi Di Eh Dj BQ Dk BR Dl B9 Ei Ch FY FZ Fa Ci Dm Dn Fb Gj Fc Gk Gl Dp BS Cj CA Dq Dr Ck
def HD(f:TyV->Sh->KV->Bool):List TyV->List Sh->List KV->Bool
 | [],_,_=>true
 | p::r,ss,ks=>f p (ss.headD default) (ks.headD default)&&HD f r ss.tail ks.tail
theorem XU{f:TyV->Sh->KV->Bool}{ps:List TyV}{ss:List Sh}{ks:List KV}{j:Nat}(h1:j<ps.length)(h2:j<ss.length)(h3:j<ks.length):HD f (ps.drop j) (ss.drop j) (ks.drop j)=(f ps[j] ss[j] ks[j]&&HD f (ps.drop (j+1)) (ss.drop (j+1)) (ks.drop (j+1))):=by
 rw[EJ h1,EJ h2,EJ h3];rfl
def Ui(v:Int):KV->Bool
 | .num n=>n == v
 | .unk no => !no.contains v
 | .con _ _=>true
def Jm:Sh->KV->Option (Bytes×List Sh×List KV)
 | .cons ns ss,.con i qs=>some (ns.getD i [],ss.getD i [],qs)
 | _,_=>none
def oneK:Sh->KV->Bool
 | .bit w,q=>JC w q == 1
 | .cons _ _,_=>false
def XV(v:Int)(s:Sh):KV->Bool
 | .num n=>n == v
 | .unk no=>oneK s (.unk no) && !no.contains v
 | .con _ _=>false
mutual
def Dv:TyV->Sh->KV->Bool
 | .mk k v nm ps,s,kv=>if k=3 then Ui v kv else if k=2 then(match Jm s kv with
  | some x=>(x.1 == nm)&&TE ps x.2.1 x.2.2
  | none=>true)
  else true
def TE:List TyV->List Sh->List KV->Bool
 | [],_,_=>true
 | p::r,ss,ks=>Dv p (ss.headD default) (ks.headD default)&&TE r ss.tail ks.tail
end
theorem Ku:∀ ps ss ks,TE ps ss ks=HD Dv ps ss ks
 | [],_,_=>by rw[TE,HD]
 | p::r,ss,ks=>by rw[TE,HD,Ku r]
mutual
def D2:TyV->Sh->KV->Bool
 | .mk k v nm ps,s,kv=>if k=3 then XV v s kv else if k=2 then(match Jm s kv with
  | some x=>(x.1 == nm)&&O7 ps x.2.1 x.2.2
  | none=>false)
  else true
def O7:List TyV->List Sh->List KV->Bool
 | [],_,_=>true
 | p::r,ss,ks=>D2 p (ss.headD default) (ks.headD default)&&O7 r ss.tail ks.tail
end
theorem JX:∀ ps ss ks,O7 ps ss ks=HD D2 ps ss ks
 | [],_,_=>by rw[O7,HD]
 | p::r,ss,ks=>by rw[O7,HD,JX r]
theorem c167{g:FuncId}(hpg:MX.prim g=none)(hmg:MX.mode g = { fresh:=true }){f:TyV->Sh->KV->Bool}{ns:List Bytes}{ss:List (List Sh)}{i:Nat}{qs:List KV}{u:AV}(hk:Cl (.cons ns ss) (.con i qs) u){parts:List Sh}(hi:ss[i]? = some parts){k v:Int}{nm:Bytes}{ps:List TyV}{pv:AV}(hp:SlR AU 4 ps pv)(hpl:ps.length<1048577)(hl:ps.length=parts.length)
 (ih:∀(j:Nat) p s q (e:List AV) (w:AV),ps[j]? = some p->parts[j]? = some s->qs[j]? = some q->AU p e->Cl s q w->∀ h,AH MX (AG MX) g [w,.agg e] h=some (.ret (.bool (f p s q)),h)) (h:AE) :
 AH MX (AG MX) 167 [u,.agg [.int .i64 k,.int .i64 v,.str nm,pv],.fn g [] []] h=some (.ret (.bool (HD f ps parts qs)),h):=by
 obtain⟨ns',ss',sv,parts',qv,e1,rfl,hs,hc,hql,hq⟩:=hk.dest;cases e1;rw[hi]at hc;cases hc;have hb:=Wy;simp[Ab,Az,f167]at hb;have hsn:=hs.AA;obtain⟨svs,rfl⟩:=hs.ro;obtain⟨F,hF⟩:∃ F,F=AV.fn g [] []:=⟨_,rfl⟩;have hFn:F.AA=true:=by subst hF;rfl
 have hFc:F.cells=some [F]:=by subst hF;rfl
 obtain⟨U,hU⟩:∃ U,U=[AV.ro svs,.int .i64 i,.int .i64 (-1),.AI,qv]:=⟨_,rfl⟩;obtain⟨e,st,hlp,hq'⟩:=AQ (M:=MX) (fid:=167) (N:=29) (C:=AG MX) (c:=AL f167 0) (n:=ps.length)
  (fun j (b:AE)=>([(0,.ro [.ro svs,.int .i64 i,.int .i64 (-1),.AI,qv]),(2,.fn g [] []),(10,pv),(11,.int .i64 ps.length),(12,.int .i64 j)],b))
  (fun j _=>HD f ps parts qs=HD f (ps.drop j) (parts.drop j) (qs.drop j))
  (fun r=>(∃ b:AE,r=(.ext 0,([(0,.ro [.ro svs,.int .i64 i,.int .i64 (-1),.AI,qv]),(2,.fn g [] []),(10,pv),(11,.int .i64 ps.length),(12,.int .i64 ps.length),(13,.bool false)],b))/\HD f ps parts qs=true)\/(∃ b:AE,r=(.ret,([(6,.bool false)],b))/\HD f ps parts qs=false)) (fun j b hj hI=>by
    have hj':=Aa hj;have hw:=AZ hj hpl;obtain⟨e,he,hR⟩:=hp.ix hj;have hjp:j<parts.length:=(by omega);have hjq:j<qs.length:=(by omega);obtain⟨e2,he2,w,rfl,hw2⟩:=hq.ix (i:=j) (by simp;omega);rw[GW]at hw2;rw[XU hj hjp hjq]at hI;have hrec:=ih j ps[j] parts[j] qs[j] e w (AO hj) (AO hjp) (AO hjq) hR hw2;obtain⟨ws,rfl⟩:=hw2.ro;obtain⟨q1,rfl,hq1⟩:=hR.AY;have hq1n:=hq1.AA;cases hs:f ps[j] parts[j] qs[j]with
    | true=>
     rw[hs]at hI hrec;exact .inl ⟨b++[.var false [.int .i64 ps[j].k,.int .i64 ps[j].v,.str ps[j].nm,q1]],by simp[f167,hj',he,he2,hrec,hw,hb,hpg,hmg,AF,AV.AA,hq1n,BD,Fu],by simpa using hI⟩
    | false=>
     rw[hs]at hI hrec;exact .inr ⟨_,_,by simp[f167,hj',he,he2,hrec,hb,hpg,hmg,AF,AV.AA,hq1n,BD,Fu] <;> first | exact⟨rfl,rfl⟩ | rfl,by simp,.inr ⟨_,rfl,by simpa using hI⟩⟩) (fun b hI=>by
    rw[DD]at hI;exact⟨_,_,by simp[f167] <;> first | exact⟨rfl,rfl⟩ | rfl,by simp,.inl ⟨b,rfl,by rw[hI];rfl⟩⟩) [.var false [.int .i64 k,.int .i64 v,.str nm,pv]] (by simp)
 simp[f167]at hlp;rcases hq' with⟨b,hq',hr⟩ | ⟨b,hq',hr⟩ <;> cases hq' <;> rw[hr] <;> exact Ae Y0 c9 (by simp[AV.AA,AF,hp.AA]) rfl (hr:=b) (by simp[AJ,f167,hp.len,hlp]) h
theorem ak{ns:List Bytes}{ss:List (List Sh)}{cv:AV}(hcv:SlR ConX 2 (ns.zip ss) cv)(hl:ss.length=ns.length){i:Nat}(hi:i<ns.length):∃ qv,(∀ kd,ixA 2 cv (.int kd i)=some (.ro [.str (ns.getD i []),qv]))/\qv.AA=true:=by
 obtain⟨e,he,pv,hR,hp⟩:=hcv.ix (i:=i) (by simp;omega);rw[GW]at hR;have:ns.getD i []=ns[i]:=by simp[List.getD,AO hi]
 rw[this];exact⟨pv,by rw[<- hR];exact he,hp.AA⟩
theorem F6{s:Sh}{v:Int}{nm:Bytes}{ps:List TyV}(h:CB s (.mk 2 v nm ps)=0):∃ ns ss i,s=.cons ns ss/\ns.findIdx? (fun x=>x == nm)=some i/\ps.length=(ss.getD i []).length/\FV (ss.getD i []) ps=0:=by
 rcases Hs h with⟨h,_⟩ | ⟨h,_⟩ | ⟨h,_⟩ | ⟨_,h⟩
 .cases h
 .cases h
 .cases h
 .exact h
def NdS:Nat->Sh->Prop
 | 0,_=>True
 | _+1,.bit _=>True
 | n+1,.cons ns ss=>ns.Nodup/\∀ p∈ss,∀ s∈p,NdS n s
def NdX(s:Sh):Prop:=∀ n,NdS n s
theorem NdX.nodup{ns:List Bytes}{ss:List (List Sh)}(h:NdX (.cons ns ss)):ns.Nodup:=(h 1).1
theorem NdX.part{ns:List Bytes}{ss:List (List Sh)}(h:NdX (.cons ns ss)){i:Nat}{parts:List Sh}(hi:ss[i]? = some parts){s:Sh}(hs:s∈parts):NdX s:=fun n=>(h (n+1)).2 parts (Bs hi) s hs
theorem Ds{ns:List Bytes}(hn:ns.Nodup){i j:Nat}{nm:Bytes}(h:ns.findIdx? (fun x=>x == nm)=some j)(hi:i<ns.length)(hg:ns.getD i []=nm):i=j:=by
 rw[Gr]at h;obtain⟨h1,h2,_⟩:=h;have e1:ns[j]=nm:=by simpa using h2
 have e2:ns[i]=nm:=by simpa[List.getD,AO hi]using hg
 have hp:=Li.1 hn;rcases Nat.lt_trichotomy i j with h | h | h
 .exact absurd (e2.trans e1.symm) (hp i j hi h1 h)
 .exact h
 .exact absurd (e1.trans e2.symm) (hp j i h1 hi h)
theorem c123(p:TyV):∀(s:Sh) (q:KV) (u:AV) (px:List AV),Cl s q u->NdX s->AU p px->Sm 1048577 p->CB s p=0->∀ h,AH MX (AG MX) 123 [u,.agg px] h=some (.ret (.bool (Dv p s q)),h):=by
 induction p using TyV.ind with
 | h k v nm ps ih=>
  intro s q u px hk hnd hx hsm hpe h;obtain⟨s1,s2,s3⟩:=hsm.dest;obtain⟨pv,rfl,hp⟩:=hx.dest;have hb3:=Wi;simp[Ab,Az,f123]at hb3;have hb5:=Wj;simp[Ab,Az,f123]at hb5;have hn:([u,AV.agg [.int .i64 k,.int .i64 v,.str nm,pv]]:List AV).all AV.AA=true:=by simp[AV.AA,AF,hk.AA,hp.AA]
  suffices hh:∃ hr,AJ MX 123 [u,AV.agg [.int .i64 k,.int .i64 v,.str nm,pv]] []=some (.ret (.bool (Dv (.mk k v nm ps) s q)),hr) by
   obtain⟨hr,hh⟩:=hh;exact Ae R5 cU hn rfl hh h
  obtain⟨us,rfl⟩:=hk.ro;rcases Hs hpe with⟨rfl,rfl⟩ | ⟨rfl,rfl⟩ | ⟨rfl,rfl,n,rfl⟩ | ⟨rfl,_⟩
  .exact⟨_,by simp[AJ,f123,Dv] <;> rfl⟩
  .exact⟨_,by simp[AJ,f123,Dv] <;> rfl⟩
  .obtain⟨nov,a,e,hno,hnl,_,_,hq⟩:=hk.JW;cases e;have hv:0<=v:=by
    simp[CB]at hpe;exact hpe.1
   have h166:=c166 hno hnl v;rcases hq with⟨ha,hq⟩ | ⟨ha,hq⟩
   .subst ha;have hm:Dv (.mk 3 v nm []) (.bit n) q = !(Gc q).contains v:=(by rw[hq];simp[Dv,Ui,Gc]);have hv1:((-1:Int) == v)=false:=(by rw[beq_eq_false_iff_ne];omega);rw[hm];exact⟨_,by simp[AJ,f123,hv1,h166,hb3,AF,AV.AA,hno.AA,hp.AA] <;> rfl⟩
   .subst hq;have hm:Dv (.mk 3 v nm []) (.bit n) (.num a)=(a == v):=(by simp[Dv,Ui]);have ha1:(a == (-1:Int))=false:=(by rw[beq_eq_false_iff_ne];omega);rw[hm];cases hav:a == v with
    | true=>exact⟨_,by simp[AJ,f123,hav,ha1,h166,hb3,AF,AV.AA,hno.AA,hp.AA] <;> rfl⟩
    | false=>exact⟨_,by simp[AJ,f123,hav,ha1,h166,hb3,AF,AV.AA,hno.AA,hp.AA] <;> rfl⟩
  .obtain⟨ns,ss,j,rfl,hj,hpl,hpes⟩:=F6 hpe;cases q with
   | num n=>cases hk
   | unk no=>
    cases hk with
    | unk hs hno hnl=>
     have hm:Dv (.mk 2 v nm ps) (.cons ns ss) (.unk no)=true:=(by simp[Dv,Jm]);rw[hm];exact⟨_,by simp[AJ,f123,hb5,AF,AV.AA,hp.AA] <;> rfl⟩
   | con i qs=>
    obtain⟨ns',ss',sv,parts,qv,e1,e2,hs,hi,hql,hqv⟩:=hk.dest;cases e1;obtain⟨cv,rfl,hsl,_,_,hcv⟩:=hs.cons;have hil:=(Ac.1 hi).1;obtain⟨qw,hix,hqw⟩:=ak hcv hsl (i:=i) (by omega);have hm:Dv (.mk 2 v nm ps) (.cons ns ss) (.con i qs)=((ns.getD i [] == nm)&&HD Dv ps parts qs):=by
     simp[Dv,Ku,Jm,List.getD,hi]
    obtain⟨NM,hNM⟩:∃ x,x=ns.getD i []:=⟨_,rfl⟩;simp only[<- hNM]at hix;rw[<- hNM]at hm;have hne:((i:Int) == -1)=false:=(by rw[beq_eq_false_iff_ne];omega);rw[hm];cases hnm:NM == nm with
    | false=>
     cases e2;exact⟨_,by simp[AJ,f123,hb5,hix,hnm,hne,AF,AV.AA,hp.AA,hqv.AA,hqw] <;> rfl⟩
    | true=>
     have hij:i=j:=Ds hnd.nodup hj (by omega) (hNM ▸ beq_iff_eq.1 hnm);subst hij;have hgp:ss.getD i []=parts:=(by simp[List.getD,hi]);rw[hgp]at hpl hpes;have h167:=c167 (g:=123) (by simp) R5 (f:=Dv) hk hi hp s2 hpl (k:=2) (v:=v) (nm:=nm) (fun m p' s' q' e w g1 g2 g3 hR hw=>by
      have hm:=(Ac.1 g1);have:=ih p' (Bs g1) s' q' w e hw (hnd.part hi (Bs g2)) hR (s3 _ (Bs g1)) ((Es hpl).1 hpes m _ _ g2 g1);exact this)
     cases e2;exact⟨_,by simp[AJ,f123,hb5,hix,hnm,hne,h167,AF,AV.AA,hp.AA,hqv.AA,hqw] <;> rfl⟩
theorem c124(p:TyV):∀(s:Sh) (q:KV) (u:AV) (px:List AV),Cl s q u->NdX s->AU p px->Sm 1048577 p->CB s p=0->∀ h,AH MX (AG MX) 124 [u,.agg px] h=some (.ret (.bool (D2 p s q)),h):=by
 induction p using TyV.ind with
 | h k v nm ps ih=>
  intro s q u px hk hnd hx hsm hpe h;obtain⟨s1,s2,s3⟩:=hsm.dest;obtain⟨pv,rfl,hp⟩:=hx.dest;have hb3:=Wl;simp[Ab,Az,f124]at hb3;have hb5:=Wm;simp[Ab,Az,f124]at hb5;have hn:([u,AV.agg [.int .i64 k,.int .i64 v,.str nm,pv]]:List AV).all AV.AA=true:=by simp[AV.AA,AF,hk.AA,hp.AA]
  suffices hh:∃ hr,AJ MX 124 [u,AV.agg [.int .i64 k,.int .i64 v,.str nm,pv]] []=some (.ret (.bool (D2 (.mk k v nm ps) s q)),hr) by
   obtain⟨hr,hh⟩:=hh;exact Ae R6 cV hn rfl hh h
  obtain⟨us,rfl⟩:=hk.ro;rcases Hs hpe with⟨rfl,rfl⟩ | ⟨rfl,rfl⟩ | ⟨rfl,rfl,n,rfl⟩ | ⟨rfl,_⟩
  .exact⟨_,by simp[AJ,f124,D2] <;> rfl⟩
  .exact⟨_,by simp[AJ,f124,D2] <;> rfl⟩
  .obtain⟨nov,a,e,hno,hnl,_,_,hq⟩:=hk.JW;cases e;have hv:0<=v:=by
    simp[CB]at hpe;exact hpe.1
   have h166:=c166 hno hnl v;rcases hq with⟨ha,hq⟩ | ⟨ha,hq⟩
   .subst ha;have h132:=c132 hk;obtain⟨L,hL⟩:∃ L,L=JC n q:=⟨_,rfl⟩;have hm:D2 (.mk 3 v nm []) (.bit n) q=((L == 1) && !(Gc q).contains v):=(by rw[hL,hq];simp[D2,XV,oneK,Gc]);rw[<- hL]at h132;have hv1:((-1:Int) == v)=false:=(by rw[beq_eq_false_iff_ne];omega);rw[hm];cases hL1:L == 1 with
    | true=>exact⟨_,by simp[AJ,f124,hv1,h166,h132,hL1,hb3,AF,AV.AA,hno.AA,hp.AA] <;> rfl⟩
    | false=>exact⟨_,by simp[AJ,f124,hv1,h166,h132,hL1,hb3,AF,AV.AA,hno.AA,hp.AA] <;> rfl⟩
   .subst hq;have hm:D2 (.mk 3 v nm []) (.bit n) (.num a)=(a == v):=(by simp[D2,XV]);have ha1:(a == (-1:Int))=false:=(by rw[beq_eq_false_iff_ne];omega);rw[hm];cases hav:a == v with
    | true=>exact⟨_,by simp[AJ,f124,hav,ha1,h166,hb3,AF,AV.AA,hno.AA,hp.AA] <;> rfl⟩
    | false=>exact⟨_,by simp[AJ,f124,hav,ha1,h166,hb3,AF,AV.AA,hno.AA,hp.AA] <;> rfl⟩
  .obtain⟨ns,ss,j,rfl,hj,hpl,hpes⟩:=F6 hpe;cases q with
   | num n=>cases hk
   | unk no=>
    cases hk with
    | unk hs hno hnl=>
     have hm:D2 (.mk 2 v nm ps) (.cons ns ss) (.unk no)=false:=(by simp[D2,Jm]);rw[hm];exact⟨_,by simp[AJ,f124,hb5,AF,AV.AA,hp.AA] <;> rfl⟩
   | con i qs=>
    obtain⟨ns',ss',sv,parts,qv,e1,e2,hs,hi,hql,hqv⟩:=hk.dest;cases e1;obtain⟨cv,rfl,hsl,_,_,hcv⟩:=hs.cons;have hil:=(Ac.1 hi).1;obtain⟨qw,hix,hqw⟩:=ak hcv hsl (i:=i) (by omega);have hm:D2 (.mk 2 v nm ps) (.cons ns ss) (.con i qs)=((ns.getD i [] == nm)&&HD D2 ps parts qs):=by
     simp[D2,JX,Jm,List.getD,hi]
    obtain⟨NM,hNM⟩:∃ x,x=ns.getD i []:=⟨_,rfl⟩;simp only[<- hNM]at hix;rw[<- hNM]at hm;have hne:((i:Int) != -1)=true:=(by rw[bne_iff_ne];omega);rw[hm];cases hnm:NM == nm with
    | false=>
     cases e2;exact⟨_,by simp[AJ,f124,hb5,hix,hnm,hne,AF,AV.AA,hp.AA,hqv.AA,hqw] <;> rfl⟩
    | true=>
     have hij:i=j:=Ds hnd.nodup hj (by omega) (hNM ▸ beq_iff_eq.1 hnm);subst hij;have hgp:ss.getD i []=parts:=(by simp[List.getD,hi]);rw[hgp]at hpl hpes;have h167:=c167 (g:=124) (by simp) R6 (f:=D2) hk hi hp s2 hpl (k:=2) (v:=v) (nm:=nm) (fun m p' s' q' e w g1 g2 g3 hR hw=>by
      have hm:=(Ac.1 g1);have:=ih p' (Bs g1) s' q' w e hw (hnd.part hi (Bs g2)) hR (s3 _ (Bs g1)) ((Es hpl).1 hpes m _ _ g2 g1);exact this)
     cases e2;exact⟨_,by simp[AJ,f124,hb5,hix,hnm,hne,h167,AF,AV.AA,hp.AA,hqv.AA,hqw] <;> rfl⟩
end
end Go.Proofs.Am12
