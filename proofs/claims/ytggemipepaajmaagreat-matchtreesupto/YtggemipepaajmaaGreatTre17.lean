/- Part 17. -/
import Derived.Test.YtggemipepaajmaaGreatTre16
set_option linter.all false
set_option maxHeartbeats 1000000
namespace Go.Proofs.Am12
open Go Go.Am Tryz
section
attribute [local simp] C7 Br EW DL CG Dd Du Eu BZ Ar Bg Al GV FF EF HE D4 Ax FB EG HF HG xUn E7 D5 FG BF DH BG D6 BH D7 Ce CX Bw BJ EH Ej
 ev evs C4 DE OR.ofV OR.Dz OR.ofC FP Tm.get Tm.init Tm.only A1 A8 CM finish CF DJ HR Dy D3 unA B7 Bb B8 Bc Co Cp Cq Bd Cr Cs Be Ct Cu Bf B9 AL CQ Ba Cm Cn B6 Ev Ew Ey Dv Dw Fl F8 F9 Fm stA Ay Db Bn DI E8 Gt Bs C6 CI FI Gu
attribute [local simp] CJ Bi Bt BN DQ DR DS DT DU DW DX Ec Cg Ed Dh FR FT Gf Di Ee Dj BO Dk BP Dl CD Ef Ch FU FV FW Ci Dm Dn FX Gg FY Gh Gi Dp BQ Cj CE Dq Dr Ck
end
section
open Go.Proofs.YtggemipepaajmaaGreat
end
section
attribute [local simp] C7 Br EW DL CG Dd Du Eu BZ Ar Bg Al GV FF EF HE D4 Ax FB EG HF HG xUn E7 D5 FG BF DH BG D6 BH D7 Ce CX Bw BJ EH Ej
 ev evs C4 DE OR.ofV OR.Dz OR.ofC FP Tm.get Tm.init Tm.only A1 A8 CM finish CF DJ HR Dy D3 unA B7 Bb B8 Bc Co Cp Cq Bd Cr Cs Be Ct Cu Bf B9 AL CQ Ba Cm Cn B6 Ev Ew Ey Dv Dw Fl F8 F9 Fm stA Ay Db Bn DI E8 Gt Bs C6 CI FI Gu
attribute [local simp] CJ Bi Bt BN DQ DR DS DT DU DW DX Ec Cg Ed Dh FR FT Gf Di Ee Dj BO Dk BP Dl CD Ef Ch FU FV FW Ci Dm Dn FX Gg FY Gh Gi Dp BQ Cj CE Dq Dr Ck
def GP(f:TyV->Sh->KV->Bool):List TyV->List Sh->List KV->Bool
 | [],_,_=>true
 | p::r,ss,ks=>f p (ss.headD default) (ks.headD default)&&GP f r ss.tail ks.tail
theorem Lz{f:TyV->Sh->KV->Bool}{ps:List TyV}{ss:List Sh}{ks:List KV}{j:Nat}(h1:j<ps.length)(h2:j<ss.length)(h3:j<ks.length):GP f (ps.drop j) (ss.drop j) (ks.drop j)=(f ps[j] ss[j] ks[j]&&GP f (ps.drop (j+1)) (ss.drop (j+1)) (ks.drop (j+1))):=by
 rw[De h1,De h2,De h3];rfl
def Vf(v:Int):KV->Bool
 | .num n=>n == v
 | .unk no => !no.contains v
 | .con _ _=>true
def Jo:Sh->KV->Option (Bytes×List Sh×List KV)
 | .cons ns ss,.con i qs=>some (ns.getD i [],ss.getD i [],qs)
 | _,_=>none
def oneK:Sh->KV->Bool
 | .bit w,q=>Gj w q == 1
 | .cons _ _,_=>false
def Sw(v:Int)(s:Sh):KV->Bool
 | .num n=>n == v
 | .unk no=>oneK s (.unk no) && !no.contains v
 | .con _ _=>false
mutual
def CU:TyV->Sh->KV->Bool
 | .mk k v nm ps,s,kv=>if k=3 then Vf v kv else if k=2 then(match Jo s kv with
  | some x=>(x.1 == nm)&&Rc ps x.2.1 x.2.2
  | none=>true)
  else true
def Rc:List TyV->List Sh->List KV->Bool
 | [],_,_=>true
 | p::r,ss,ks=>CU p (ss.headD default) (ks.headD default)&&Rc r ss.tail ks.tail
end
theorem KC:∀ ps ss ks,Rc ps ss ks=GP CU ps ss ks
 | [],_,_=>by rw[Rc,GP]
 | p::r,ss,ks=>by rw[Rc,GP,KC r]
mutual
def Dt:TyV->Sh->KV->Bool
 | .mk k v nm ps,s,kv=>if k=3 then Sw v s kv else if k=2 then(match Jo s kv with
  | some x=>(x.1 == nm)&&Nq ps x.2.1 x.2.2
  | none=>false)
  else true
def Nq:List TyV->List Sh->List KV->Bool
 | [],_,_=>true
 | p::r,ss,ks=>Dt p (ss.headD default) (ks.headD default)&&Nq r ss.tail ks.tail
end
theorem Ki:∀ ps ss ks,Nq ps ss ks=GP Dt ps ss ks
 | [],_,_=>by rw[Nq,GP]
 | p::r,ss,ks=>by rw[Nq,GP,Ki r]
theorem c167{g:FuncId}(hpg:MX.prim g=none)(hmg:MX.mode g = { fresh:=true }){f:TyV->Sh->KV->Bool}{ns:List Bytes}{ss:List (List Sh)}{i:Nat}{qs:List KV}{u:AV}(hk:CY (.cons ns ss) (.con i qs) u){parts:List Sh}(hi:ss[i]? = some parts){k v:Int}{nm:Bytes}{ps:List TyV}{pv:AV}(hp:SlR AR 4 ps pv)(hpl:ps.length<1048577)(hl:ps.length=parts.length)
 (ih:∀(j:Nat) p s q (e:List AV) (w:AV),ps[j]? = some p->parts[j]? = some s->qs[j]? = some q->AR p e->CY s q w->∀ h,AI MX (AE MX) g [w,.agg e] h=some (.ret (.bool (f p s q)),h)) (h:AF) :
 AI MX (AE MX) 167 [u,.agg [.int .i64 k,.int .i64 v,.str nm,pv],.fn g [] []] h=some (.ret (.bool (GP f ps parts qs)),h):=by
 obtain⟨ns',ss',sv,parts',qv,e1,rfl,hs,hc,hql,hq⟩:=hk.dest;cases e1;rw[hi]at hc;cases hc;have hb:=VE;simp[Aa,An,f167]at hb;have hsn:=hs.AA;obtain⟨svs,rfl⟩:=hs.ro;obtain⟨F,hF⟩:∃ F,F=AV.fn g [] []:=⟨_,rfl⟩;have hFn:F.AA=true:=by subst hF;rfl
 have hFc:F.cells=some [F]:=by subst hF;rfl
 obtain⟨U,hU⟩:∃ U,U=[AV.ro svs,.int .i64 i,.int .i64 (-1),.AH,qv]:=⟨_,rfl⟩;obtain⟨e,st,hlp,hq'⟩:=AU (M:=MX) (fid:=167) (N:=29) (C:=AE MX) (c:=AL f167 0) (n:=ps.length)
  (fun j (b:AF)=>([(0,.ro [.ro svs,.int .i64 i,.int .i64 (-1),.AH,qv]),(2,.fn g [] []),(10,pv),(11,.int .i64 ps.length),(12,.int .i64 j)],b))
  (fun j _=>GP f ps parts qs=GP f (ps.drop j) (parts.drop j) (qs.drop j))
  (fun r=>(∃ b:AF,r=(.ext 0,([(0,.ro [.ro svs,.int .i64 i,.int .i64 (-1),.AH,qv]),(2,.fn g [] []),(10,pv),(11,.int .i64 ps.length),(12,.int .i64 ps.length),(13,.bool false)],b))/\GP f ps parts qs=true)\/(∃ b:AF,r=(.ret,([(6,.bool false)],b))/\GP f ps parts qs=false)) (fun j b hj hI=>by
    have hj':=AZ hj;have hw:=AY hj hpl;obtain⟨e,he,hR⟩:=hp.ix hj;have hjp:j<parts.length:=(by omega);have hjq:j<qs.length:=(by omega);obtain⟨e2,he2,w,rfl,hw2⟩:=hq.ix (i:=j) (by simp;omega);rw[D9]at hw2;rw[Lz hj hjp hjq]at hI;have hrec:=ih j ps[j] parts[j] qs[j] e w (AW hj) (AW hjp) (AW hjq) hR hw2;obtain⟨ws,rfl⟩:=hw2.ro;obtain⟨q1,rfl,hq1⟩:=hR.Ab;have hq1n:=hq1.AA;cases hs:f ps[j] parts[j] qs[j]with
    | true=>
     rw[hs]at hI hrec;exact .inl ⟨b++[.var false [.int .i64 ps[j].k,.int .i64 ps[j].v,.str ps[j].nm,q1]],by simp[f167,hj',he,he2,hrec,hw,hb,hpg,hmg,AG,AV.AA,hq1n,BR,FJ],by simpa using hI⟩
    | false=>
     rw[hs]at hI hrec;exact .inr ⟨_,_,by simp[f167,hj',he,he2,hrec,hb,hpg,hmg,AG,AV.AA,hq1n,BR,FJ] <;> first | exact⟨rfl,rfl⟩ | rfl,by simp,.inr ⟨_,rfl,by simpa using hI⟩⟩) (fun b hI=>by
    rw[C3]at hI;exact⟨_,_,by simp[f167] <;> first | exact⟨rfl,rfl⟩ | rfl,by simp,.inl ⟨b,rfl,by rw[hI];rfl⟩⟩) [.var false [.int .i64 k,.int .i64 v,.str nm,pv]] (by simp)
 simp[f167]at hlp;rcases hq' with⟨b,hq',hr⟩ | ⟨b,hq',hr⟩ <;> cases hq' <;> rw[hr] <;> exact Af W1 Zr (by simp[AV.AA,AG,hp.AA]) rfl (hr:=b) (by simp[AJ,f167,hp.len,hlp]) h
theorem YM{ns:List Bytes}{ss:List (List Sh)}{cv:AV}(hcv:SlR ConX 2 (ns.zip ss) cv)(hl:ss.length=ns.length){i:Nat}(hi:i<ns.length):∃ qv,(∀ kd,ixA 2 cv (.int kd i)=some (.ro [.str (ns.getD i []),qv]))/\qv.AA=true:=by
 obtain⟨e,he,pv,hR,hp⟩:=hcv.ix (i:=i) (by simp;omega);rw[D9]at hR;have:ns.getD i []=ns[i]:=by simp[List.getD,AW hi]
 rw[this];exact⟨pv,by rw[<- hR];exact he,hp.AA⟩
theorem FO{s:Sh}{v:Int}{nm:Bytes}{ps:List TyV}(h:CA s (.mk 2 v nm ps)=0):∃ ns ss i,s=.cons ns ss/\ns.findIdx? (fun x=>x == nm)=some i/\ps.length=(ss.getD i []).length/\FC (ss.getD i []) ps=0:=by
 rcases I3 h with⟨h,_⟩ | ⟨h,_⟩ | ⟨h,_⟩ | ⟨_,h⟩
 .cases h
 .cases h
 .cases h
 .exact h
def NdS:Nat->Sh->Prop
 | 0,_=>True
 | _+1,.bit _=>True
 | n+1,.cons ns ss=>ns.Nodup/\∀ p∈ss,∀ s∈p,NdS n s
def NdX(s:Sh):Prop:=∀ n,NdS n s
theorem NdX.nodup{ns:List Bytes}{ss:List (List Sh)}(h:NdX (.cons ns ss)):ns.Nodup:=(h 1).1
theorem NdX.part{ns:List Bytes}{ss:List (List Sh)}(h:NdX (.cons ns ss)){i:Nat}{parts:List Sh}(hi:ss[i]? = some parts){s:Sh}(hs:s∈parts):NdX s:=fun n=>(h (n+1)).2 parts (C2 hi) s hs
theorem Cy{ns:List Bytes}(hn:ns.Nodup){i j:Nat}{nm:Bytes}(h:ns.findIdx? (fun x=>x == nm)=some j)(hi:i<ns.length)(hg:ns.getD i []=nm):i=j:=by
 rw[I8]at h;obtain⟨h1,h2,_⟩:=h;have e1:ns[j]=nm:=by simpa using h2
 have e2:ns[i]=nm:=by simpa[List.getD,AW hi]using hg
 have hp:=Mf.1 hn;rcases Nat.lt_trichotomy i j with h | h | h
 .exact absurd (e2.trans e1.symm) (hp i j hi h1 h)
 .exact h
 .exact absurd (e1.trans e2.symm) (hp j i h1 hi h)
theorem c123(p:TyV):∀(s:Sh) (q:KV) (u:AV) (px:List AV),CY s q u->NdX s->AR p px->Sm 1048577 p->CA s p=0->∀ h,AI MX (AE MX) 123 [u,.agg px] h=some (.ret (.bool (CU p s q)),h):=by
 induction p using TyV.ind with
 | h k v nm ps ih=>
  intro s q u px hk hnd hx hsm hpe h;obtain⟨s1,s2,s3⟩:=hsm.dest;obtain⟨pv,rfl,hp⟩:=hx.dest;have hb3:=Us;simp[Aa,An,f123]at hb3;have hb5:=Ut;simp[Aa,An,f123]at hb5;have hn:([u,AV.agg [.int .i64 k,.int .i64 v,.str nm,pv]]:List AV).all AV.AA=true:=by simp[AV.AA,AG,hk.AA,hp.AA]
  suffices hh:∃ hr,AJ MX 123 [u,AV.agg [.int .i64 k,.int .i64 v,.str nm,pv]] []=some (.ret (.bool (CU (.mk k v nm ps) s q)),hr) by
   obtain⟨hr,hh⟩:=hh;exact Af Qi ZW hn rfl hh h
  obtain⟨us,rfl⟩:=hk.ro;rcases I3 hpe with⟨rfl,rfl⟩ | ⟨rfl,rfl⟩ | ⟨rfl,rfl,n,rfl⟩ | ⟨rfl,_⟩
  .exact⟨_,by simp[AJ,f123,CU] <;> rfl⟩
  .exact⟨_,by simp[AJ,f123,CU] <;> rfl⟩
  .obtain⟨nov,a,e,hno,hnl,_,_,hq⟩:=hk.I4;cases e;have hv:0<=v:=by
    simp[CA]at hpe;exact hpe.1
   have h166:=c166 hno hnl v;rcases hq with⟨ha,hq⟩ | ⟨ha,hq⟩
   .subst ha;have hm:CU (.mk 3 v nm []) (.bit n) q = !(DB q).contains v:=(by rw[hq];simp[CU,Vf,DB]);have hv1:((-1:Int) == v)=false:=(by rw[beq_eq_false_iff_ne];omega);rw[hm];exact⟨_,by simp[AJ,f123,hv1,h166,hb3,AG,AV.AA,hno.AA,hp.AA] <;> rfl⟩
   .subst hq;have hm:CU (.mk 3 v nm []) (.bit n) (.num a)=(a == v):=(by simp[CU,Vf]);have ha1:(a == (-1:Int))=false:=(by rw[beq_eq_false_iff_ne];omega);rw[hm];cases hav:a == v with
    | true=>exact⟨_,by simp[AJ,f123,hav,ha1,h166,hb3,AG,AV.AA,hno.AA,hp.AA] <;> rfl⟩
    | false=>exact⟨_,by simp[AJ,f123,hav,ha1,h166,hb3,AG,AV.AA,hno.AA,hp.AA] <;> rfl⟩
  .obtain⟨ns,ss,j,rfl,hj,hpl,hpes⟩:=FO hpe;cases q with
   | num n=>cases hk
   | unk no=>
    cases hk with
    | unk hs hno hnl=>
     have hm:CU (.mk 2 v nm ps) (.cons ns ss) (.unk no)=true:=(by simp[CU,Jo]);rw[hm];exact⟨_,by simp[AJ,f123,hb5,AG,AV.AA,hp.AA] <;> rfl⟩
   | con i qs=>
    obtain⟨ns',ss',sv,parts,qv,e1,e2,hs,hi,hql,hqv⟩:=hk.dest;cases e1;obtain⟨cv,rfl,hsl,_,_,hcv⟩:=hs.cons;have hil:=(Ae.1 hi).1;obtain⟨qw,hix,hqw⟩:=YM hcv hsl (i:=i) (by omega);have hm:CU (.mk 2 v nm ps) (.cons ns ss) (.con i qs)=((ns.getD i [] == nm)&&GP CU ps parts qs):=by
     simp[CU,KC,Jo,List.getD,hi]
    obtain⟨NM,hNM⟩:∃ x,x=ns.getD i []:=⟨_,rfl⟩;simp only[<- hNM]at hix;rw[<- hNM]at hm;have hne:((i:Int) == -1)=false:=(by rw[beq_eq_false_iff_ne];omega);rw[hm];cases hnm:NM == nm with
    | false=>
     cases e2;exact⟨_,by simp[AJ,f123,hb5,hix,hnm,hne,AG,AV.AA,hp.AA,hqv.AA,hqw] <;> rfl⟩
    | true=>
     have hij:i=j:=Cy hnd.nodup hj (by omega) (hNM ▸ beq_iff_eq.1 hnm);subst hij;have hgp:ss.getD i []=parts:=(by simp[List.getD,hi]);rw[hgp]at hpl hpes;have h167:=c167 (g:=123) (by simp) Qi (f:=CU) hk hi hp s2 hpl (k:=2) (v:=v) (nm:=nm) (fun m p' s' q' e w g1 g2 g3 hR hw=>by
      have hm:=(Ae.1 g1);have:=ih p' (C2 g1) s' q' w e hw (hnd.part hi (C2 g2)) hR (s3 _ (C2 g1)) ((Ea hpl).1 hpes m _ _ g2 g1);exact this)
     cases e2;exact⟨_,by simp[AJ,f123,hb5,hix,hnm,hne,h167,AG,AV.AA,hp.AA,hqv.AA,hqw] <;> rfl⟩
theorem c124(p:TyV):∀(s:Sh) (q:KV) (u:AV) (px:List AV),CY s q u->NdX s->AR p px->Sm 1048577 p->CA s p=0->∀ h,AI MX (AE MX) 124 [u,.agg px] h=some (.ret (.bool (Dt p s q)),h):=by
 induction p using TyV.ind with
 | h k v nm ps ih=>
  intro s q u px hk hnd hx hsm hpe h;obtain⟨s1,s2,s3⟩:=hsm.dest;obtain⟨pv,rfl,hp⟩:=hx.dest;have hb3:=Uu;simp[Aa,An,f124]at hb3;have hb5:=Uv;simp[Aa,An,f124]at hb5;have hn:([u,AV.agg [.int .i64 k,.int .i64 v,.str nm,pv]]:List AV).all AV.AA=true:=by simp[AV.AA,AG,hk.AA,hp.AA]
  suffices hh:∃ hr,AJ MX 124 [u,AV.agg [.int .i64 k,.int .i64 v,.str nm,pv]] []=some (.ret (.bool (Dt (.mk k v nm ps) s q)),hr) by
   obtain⟨hr,hh⟩:=hh;exact Af Qj ZX hn rfl hh h
  obtain⟨us,rfl⟩:=hk.ro;rcases I3 hpe with⟨rfl,rfl⟩ | ⟨rfl,rfl⟩ | ⟨rfl,rfl,n,rfl⟩ | ⟨rfl,_⟩
  .exact⟨_,by simp[AJ,f124,Dt] <;> rfl⟩
  .exact⟨_,by simp[AJ,f124,Dt] <;> rfl⟩
  .obtain⟨nov,a,e,hno,hnl,_,_,hq⟩:=hk.I4;cases e;have hv:0<=v:=by
    simp[CA]at hpe;exact hpe.1
   have h166:=c166 hno hnl v;rcases hq with⟨ha,hq⟩ | ⟨ha,hq⟩
   .subst ha;have h132:=c132 hk;obtain⟨L,hL⟩:∃ L,L=Gj n q:=⟨_,rfl⟩;have hm:Dt (.mk 3 v nm []) (.bit n) q=((L == 1) && !(DB q).contains v):=(by rw[hL,hq];simp[Dt,Sw,oneK,DB]);rw[<- hL]at h132;have hv1:((-1:Int) == v)=false:=(by rw[beq_eq_false_iff_ne];omega);rw[hm];cases hL1:L == 1 with
    | true=>exact⟨_,by simp[AJ,f124,hv1,h166,h132,hL1,hb3,AG,AV.AA,hno.AA,hp.AA] <;> rfl⟩
    | false=>exact⟨_,by simp[AJ,f124,hv1,h166,h132,hL1,hb3,AG,AV.AA,hno.AA,hp.AA] <;> rfl⟩
   .subst hq;have hm:Dt (.mk 3 v nm []) (.bit n) (.num a)=(a == v):=(by simp[Dt,Sw]);have ha1:(a == (-1:Int))=false:=(by rw[beq_eq_false_iff_ne];omega);rw[hm];cases hav:a == v with
    | true=>exact⟨_,by simp[AJ,f124,hav,ha1,h166,hb3,AG,AV.AA,hno.AA,hp.AA] <;> rfl⟩
    | false=>exact⟨_,by simp[AJ,f124,hav,ha1,h166,hb3,AG,AV.AA,hno.AA,hp.AA] <;> rfl⟩
  .obtain⟨ns,ss,j,rfl,hj,hpl,hpes⟩:=FO hpe;cases q with
   | num n=>cases hk
   | unk no=>
    cases hk with
    | unk hs hno hnl=>
     have hm:Dt (.mk 2 v nm ps) (.cons ns ss) (.unk no)=false:=(by simp[Dt,Jo]);rw[hm];exact⟨_,by simp[AJ,f124,hb5,AG,AV.AA,hp.AA] <;> rfl⟩
   | con i qs=>
    obtain⟨ns',ss',sv,parts,qv,e1,e2,hs,hi,hql,hqv⟩:=hk.dest;cases e1;obtain⟨cv,rfl,hsl,_,_,hcv⟩:=hs.cons;have hil:=(Ae.1 hi).1;obtain⟨qw,hix,hqw⟩:=YM hcv hsl (i:=i) (by omega);have hm:Dt (.mk 2 v nm ps) (.cons ns ss) (.con i qs)=((ns.getD i [] == nm)&&GP Dt ps parts qs):=by
     simp[Dt,Ki,Jo,List.getD,hi]
    obtain⟨NM,hNM⟩:∃ x,x=ns.getD i []:=⟨_,rfl⟩;simp only[<- hNM]at hix;rw[<- hNM]at hm;have hne:((i:Int) != -1)=true:=(by rw[bne_iff_ne];omega);rw[hm];cases hnm:NM == nm with
    | false=>
     cases e2;exact⟨_,by simp[AJ,f124,hb5,hix,hnm,hne,AG,AV.AA,hp.AA,hqv.AA,hqw] <;> rfl⟩
    | true=>
     have hij:i=j:=Cy hnd.nodup hj (by omega) (hNM ▸ beq_iff_eq.1 hnm);subst hij;have hgp:ss.getD i []=parts:=(by simp[List.getD,hi]);rw[hgp]at hpl hpes;have h167:=c167 (g:=124) (by simp) Qj (f:=Dt) hk hi hp s2 hpl (k:=2) (v:=v) (nm:=nm) (fun m p' s' q' e w g1 g2 g3 hR hw=>by
      have hm:=(Ae.1 g1);have:=ih p' (C2 g1) s' q' w e hw (hnd.part hi (C2 g2)) hR (s3 _ (C2 g1)) ((Ea hpl).1 hpes m _ _ g2 g1);exact this)
     cases e2;exact⟨_,by simp[AJ,f124,hb5,hix,hnm,hne,h167,AG,AV.AA,hp.AA,hqv.AA,hqw] <;> rfl⟩
def Re:KV->Bool
 | .unk _=>true
 | _=>false
def Rf:KV->Option (List KV)
 | .con _ qs=>some qs
 | _=>none
mutual
def Ez:TyV->KV->Option (List Nat)
 | .mk k _ _ ps,q=>if k=3 then(if Re q then some []else none)else if k=2 then(match Rf q with
  | some qs=>Fs ps qs 0
  | none=>some [])
  else none
def Fs:List TyV->List KV->Nat->Option (List Nat)
 | [],_,_=>none
 | p::r,qs,i=>match Ez p (qs.headD default)with
  | some path=>some (i::path)
  | none=>Fs r qs.tail (i+1)
end
theorem Nr{ps:List TyV}{qs:List KV}{j:Nat}(h1:j<ps.length)(h2:j<qs.length):Fs (ps.drop j) (qs.drop j) j=match Ez ps[j] qs[j]with
 | some path=>some (j::path)
 | none=>Fs (ps.drop (j+1)) (qs.drop (j+1)) (j+1):=by
 rw[De h1,De h2,Fs];rfl
theorem P3{p:TyV}:∀{l:List TyV},p∈l->dp p<=dps l
 | q::r,h=>by
  rw[dps];rcases Cd.1 h with rfl | h
  .exact HM _ _
  .exact DD (P3 h) (Hj _ _)
theorem Oy{N:Nat}:∀{ps:List TyV} {qs:List KV} {i:Nat} {path:List Nat},(∀ p∈ps,∀ q path,Ez p q=some path->path.length<=N)->Fs ps qs i=some path->path.length<=N+1
 | [],_,_,_,_,h=>by rw[Fs]at h;cases h
 | p::r,qs,i,path,hp,h=>by
  rw[Fs]at h;split at h
  .rename_i w hw;cases h;have:=hp p (by simp) _ _ hw;simp;omega
  .exact Oy (fun p' hp'=>hp p' (Mh _ hp')) h
theorem Jp(p:TyV):∀ q path,Ez p q=some path->path.length<=dp p:=by
 induction p using TyV.ind with
 | h k v nm ps ih=>
  intro q path h;rw[Ez]at h;split at h
  .split at h
   .cases h;simp
   .cases h
  .split at h
   .split at h
    .have:=Oy (N:=dps ps) (fun p hp q path hq=>DD (ih p hp q path hq) (P3 hp)) h;rw[dp];omega
    .cases h;simp
   .cases h
theorem H6{f:TyV->Sh->KV->Bool}:∀{ps:List TyV} {ss:List Sh} {ks:List KV} {j:Nat} {p:TyV} {s:Sh} {k:KV},GP f ps ss ks=true->ps[j]? = some p->ss[j]? = some s->ks[j]? = some k->f p s k=true
 | [],_,_,_,_,_,_,_,h,_,_=>by simp at h
 | p::r,ss,ks,0,_,_,_,h,h1,h2,h3=>by
  cases ss with
  | nil=>simp at h2
  | cons s ss=>cases ks with
   | nil=>simp at h3
   | cons k ks=>
    simp at h1 h2 h3;subst h1;subst h2;subst h3;rw[GP,BU]at h;exact h.1
 | p::r,ss,ks,j+1,_,_,_,h,h1,h2,h3=>by
  cases ss with
  | nil=>simp at h2
  | cons s ss=>cases ks with
   | nil=>simp at h3
   | cons k ks=>
    rw[GP,BU]at h;exact H6 (j:=j) h.2 (by simpa using h1) (by simpa using h2) (by simpa using h3)
theorem Im{v:Int}{nm:Bytes}{ps:List TyV}{ns:List Bytes}{ss:List (List Sh)}{i:Nat}{qs:List KV}(h:CU (.mk 2 v nm ps) (.cons ns ss) (.con i qs)=true):ns.getD i []=nm/\GP CU ps (ss.getD i []) qs=true:=by
 rw[CU,if_neg (by decide),if_pos rfl]at h;simp only[Jo]at h;rw[BU,KC]at h;exact⟨beq_iff_eq.1 h.1,h.2⟩
def AskR(r:Option (List Nat))(v:AV):Prop:=∃ w,(∃ path,r=some path/\v=.tup [w,.bool true]/\SlR Az 1 (BX path) w)\/(r=none/\v=.tup [.AH,.bool false])
theorem UD{path:List Nat}{w:AV}(hw:SlR Az 1 (BX path) w)(hl:path.length<1048577)(i:Nat)(H:AF):∃ w' H',apA 1 8 (.sl 1 true [[.int .i64 i]]) w H=some (w',H')/\w'.cells=some [w']/\∃ w2 H2,BB 1 w' H' w2 H2/\SlR Az 1 (BX (i::path)) w2/\(w'.AA=true->w'=w2):=by
 obtain⟨es,h1,h2,h3,h4,h5⟩:=SlR.rdU hw;have hap:apA 1 8 (.sl 1 true [[.int .i64 i]]) w H=apX 1 8 (.sl 1 true [[.int .i64 i]]) es 1 H:=by
  unfold apA;rcases hw with⟨_,rfl⟩ | ⟨_,_,rfl,_⟩ <;> simp only[h1,h2,F6] <;> rfl
 rw[hap];have hnl:(BX path).length=path.length:=by simp[BX]
 have e1:CC 1 (.sl 1 true [[AV.int .i64 i]])=true:=by simp[CC,BM]
 have hone:∀(m:Nat) a e,(BX [i])[m]? = some a->([[AV.int .i64 i]]:List (List AV))[m]? = some e->Az a e:=fun m a e g1 g2=>by
  match m with
  | 0=>simp[BX]at g1 g2;subst g1;exact g2.symm
  | m+1=>simp[BX]at g1
 obtain⟨r1,r2⟩:=Ra (es:=[[AV.int .i64 i]]) (l:=BX [i]) rfl hone h4 h5;have hcat:BX [i]++BX path=BX (i::path):=rfl;rw[hcat]at r1 r2;cases es with
 | nil=>
  have hp0:path=[]:=E5 (by simpa[hnl]using h4.symm);subst hp0;refine⟨_,H,by simp[apX,e1,FQ] <;> exact⟨rfl,rfl⟩,rfl,.sl 1 true [[.int .i64 i]],H,fun n=>rfl,.inr ⟨true,_,rfl,rfl,hone⟩,fun _=>rfl⟩
 | cons y ys=>
  have hl2:ys.length+1=path.length:=by rw[<- hnl,<- h4];rfl
  have b1:(1+(ys.length+1)) * 8<=17592186044416:=DD (Ku (show 1+(ys.length+1)<=1048577 by omega) (CZ 8)) (by decide);have b2:1+(ys.length+1)<=17592186044416:=DD (show 1+(ys.length+1)<=1048577 by omega) (by decide);have hnr:([AV.int .i64 i]::y::ys).all AG=true:=C5 r1 r2 Ow;have hacc:Ai 1 H.length [.arr 1 false ([AV.int .i64 i]::y::ys)] (.hs H.length (ys.length+2) 1 0 (ys.length+2) false) ([AV.int .i64 i]::y::ys):=.inr ⟨0,by simp,by simp,rfl⟩;refine⟨.hs H.length (ys.length+2) 1 0 (ys.length+2) false,H++[.arr 1 false ([AV.int .i64 i]::y::ys)],by simp[apX,e1,FQ,A3,A8,b1,b2],rfl,_,_,fun n=>hacc.snap hnr (by simp),.inr ⟨false,_,rfl,r1,r2⟩,fun h=>by cases h⟩
theorem c126(p:TyV):∀(s:Sh) (q:KV) (u:AV) (px:List AV),CY s q u->NdX s->AR p px->Sm 1048577 p->CA s p=0->dp p<1048577->CU p s q=true->∃ r,AskR (Ez p q) r/\∀ h,AI MX (AE MX) 126 [u,.agg px] h=some (.ret r,h):=by
 induction p using TyV.ind with
 | h k v nm ps ih=>
  intro s q u px hk hnd hx hsm hpe hdp hmay;obtain⟨s1,s2,s3⟩:=hsm.dest;obtain⟨pv,rfl,hp⟩:=hx.dest;have hb3:=Ux;simp[Aa,An,f126]at hb3;have hb10:=SH;simp[Aa,An,f126]at hb10;have hn:([u,AV.agg [.int .i64 k,.int .i64 v,.str nm,pv]]:List AV).all AV.AA=true:=by simp[AV.AA,AG,hk.AA,hp.AA]
  have hflat:∀ ok,(∃ hr,AJ MX 126 [u,AV.agg [.int .i64 k,.int .i64 v,.str nm,pv]] []=some (.ret (.tup [.AH,.bool ok]),hr))->∀ h,AI MX (AE MX) 126 [u,AV.agg [.int .i64 k,.int .i64 v,.str nm,pv]] h=some (.ret (.tup [.AH,.bool ok]),h):=fun ok ⟨hr,hh⟩ h=>Af NK Pp hn rfl hh h
  have hyes:AskR (some []) (.tup [.AH,.bool true]):=⟨.AH,.inl ⟨[],rfl,rfl,.inl ⟨rfl,rfl⟩⟩⟩;have hno:AskR none (.tup [.AH,.bool false]):=⟨.AH,.inr ⟨rfl,rfl⟩⟩;obtain⟨us,rfl⟩:=hk.ro;rcases I3 hpe with⟨rfl,rfl⟩ | ⟨rfl,rfl⟩ | ⟨rfl,rfl,n,rfl⟩ | ⟨rfl,_⟩
  .exact⟨_,by simpa[Ez]using hno,hflat false ⟨_,by simp[AJ,f126] <;> rfl⟩⟩
  .exact⟨_,by simpa[Ez]using hno,hflat false ⟨_,by simp[AJ,f126] <;> rfl⟩⟩
  .obtain⟨nov,a,e,hnv,hnl,_,_,hq⟩:=hk.I4;cases e;rcases hq with⟨ha,hq⟩ | ⟨ha,hq⟩
   .subst ha;have hm:Ez (.mk 3 v nm []) q=some []:=(by rw[hq];simp[Ez,Re]);rw[hm];exact⟨_,hyes,hflat true ⟨_,by simp[AJ,f126,hb3,AG,AV.AA,hnv.AA,hp.AA] <;> rfl⟩⟩
   .subst hq;have hm:Ez (.mk 3 v nm []) (.num a)=none:=(by simp[Ez,Re]);have ha1:(a == (-1:Int))=false:=(by rw[beq_eq_false_iff_ne];omega);rw[hm];exact⟨_,hno,hflat false ⟨_,by simp[AJ,f126,ha1,hb3,AG,AV.AA,hnv.AA,hp.AA] <;> rfl⟩⟩
  .obtain⟨ns,ss,j,rfl,hj,hpl,hpes⟩:=FO hpe;cases q with
   | num n=>cases hk
   | unk no=>
    cases hk with
    | unk hs hno' hnl=>
     have hm:Ez (.mk 2 v nm ps) (.unk no)=some []:=(by simp[Ez,Rf]);rw[hm];exact⟨_,hyes,hflat true ⟨_,by simp[AJ,f126] <;> rfl⟩⟩
   | con i qs=>
    obtain⟨ns',ss',sv,parts,qv,e1,e2,hs,hi,hql,hqv⟩:=hk.dest;cases e1;have hil:=(Ae.1 hi).1;obtain⟨hm1,hm2⟩:=Im hmay;obtain⟨cv,_,hsl,_,_,_⟩:=hs.cons;have hij:i=j:=Cy hnd.nodup hj (by omega) hm1;subst hij;have hgp:ss.getD i []=parts:=(by simp[List.getD,hi]);rw[hgp]at hpl hpes hm2;have hm:Ez (.mk 2 v nm ps) (.con i qs)=Fs ps qs 0:=(by simp[Ez,Rf]);rw[hm];have hdps:∀ p∈ps,dp p<1048577:=fun p hp=>by
     have:=P3 hp;rw[dp]at hdp;omega
    have hne:((i:Int) == -1)=false:=(by rw[beq_eq_false_iff_ne];omega);cases e2;have hsvn:=hs.AA;obtain⟨svs,rfl⟩:=hs.ro;obtain⟨e,st,hlp,hq'⟩:=AU (M:=MX) (fid:=126) (N:=52) (C:=AE MX) (c:=AL f126 0) (n:=ps.length)
     (fun m (b:AF)=>([(0,.ro [.ro svs,.int .i64 i,.int .i64 (-1),.AH,qv]),(27,pv),(28,.int .i64 ps.length),(29,.int .i64 m)],b))
     (fun m _=>Fs ps qs 0=Fs (ps.drop m) (qs.drop m) m)
     (fun r=>(∃ b:AF,r=(.ext 1,([(0,.ro [.ro svs,.int .i64 i,.int .i64 (-1),.AH,qv]),(27,pv),(28,.int .i64 ps.length),(29,.int .i64 ps.length),(30,.bool false)],b))/\Fs ps qs 0=none)\/(∃(b:AF) (w w2:AV) (H2:AF) (path:List Nat),r=(.ret,([(4,w),(5,.bool true)],b))/\Fs ps qs 0=some path/\w.cells=some [w]/\BB 1 w b w2 H2/\SlR Az 1 (BX path) w2/\(w.AA=true->w=w2))) (fun m b hm' hI=>by
       have hjp:m<parts.length:=(by omega);have hjq:m<qs.length:=(by omega);have hjz:m<(parts.zip qs).length:=(by simp;omega);have hj':=AZ hm';have hw:=AY hm' s2;obtain⟨e,he,hR⟩:=hp.ix hm';obtain⟨e2,he2,w,rfl,hw2⟩:=hqv.ix (i:=m) hjz;rw[D9]at hw2;rw[Nr hm' hjq]at hI;have gp:=AW hm';have gs:=AW hjp;have gq:=AW hjq;have hmem:=Ap hm';obtain⟨r,hr,hrec⟩:=ih ps[m] hmem parts[m] qs[m] w e hw2 (hnd.part hi (Ap hjp)) hR (s3 _ hmem) ((Ea hpl).1 hpes m _ _ gs gp) (hdps _ hmem) (H6 hm2 gp gs gq);obtain⟨ws,rfl⟩:=hw2.ro;obtain⟨q1,rfl,hq1⟩:=hR.Ab;have hq1n:=hq1.AA;obtain⟨w',⟨path,hpath,rfl,hw'⟩ | ⟨hnone,rfl⟩⟩:=hr
       .have hlen:=Jp _ _ _ hpath;have hdpm:=hdps _ hmem;obtain⟨w1,H1,a1,a2,w2,H2,a3,a4,a5⟩:=UD hw' (by omega) m (b++[.var false [.int .i64 ps[m].k,.int .i64 ps[m].v,.str ps[m].nm,q1]]);have hwn:=hw'.AA;have hwc:=hw'.cells;rw[hpath]at hI;exact .inr ⟨_,_,by simp[f126,hj',he,he2,hrec,hb10,AG,AV.AA,hq1n,BR,FJ,bsA,Aq,a1,a2,hwn,hwc] <;> first | exact⟨rfl,rfl⟩ | rfl,by simp,.inr ⟨H1,w1,w2,H2,m::path,rfl,hI,a2,a3,a4,a5⟩⟩
       .rw[hnone]at hI;exact .inl ⟨b++[.var false [.int .i64 ps[m].k,.int .i64 ps[m].v,.str ps[m].nm,q1]],by simp[f126,hj',he,he2,hrec,hw,hb10,AG,AV.AA,hq1n,BR,FJ],hI⟩) (fun b hI=>by
       rw[C3,Fs]at hI;exact⟨_,_,by simp[f126] <;> first | exact⟨rfl,rfl⟩ | rfl,by simp,.inl ⟨b,rfl,hI⟩⟩) [.var false [.int .i64 2,.int .i64 v,.str nm,pv]] (by simp)
    simp[f126]at hlp;rcases hq' with⟨b,hq',hr⟩ | ⟨b,w,w2,H2,path,hq',hr,b1,b2,b3,b4⟩
    .cases hq';rw[hr];exact⟨_,hno,hflat false ⟨_,by simp[AJ,f126,hne,hp.len,hlp] <;> rfl⟩⟩
    .cases hq';rw[hr];refine⟨.tup [w2,.bool true],⟨w2,.inl ⟨path,rfl,rfl,b3⟩⟩,fun h => ?_⟩;have hrun:AJ MX 126 [.ro [.ro svs,.int .i64 i,.int .i64 (-1),.AH,qv],AV.agg [.int .i64 2,.int .i64 v,.str nm,pv]] []=some (.ret (.tup [w,.bool true]),b):=by
      simp[AJ,f126,hne,hp.len,hlp] <;> rfl
     cases hwn:w.AA with
     | true=>
      have:=b4 hwn;subst this;exact Af NK Pp hn (by simp[AV.AA,AG,hwn]) hrun h
     | false=>
      exact Hu NK Pp hn (BB.tup (by simp[AG,hwn]) (.cons b2 (.cons (.flat rfl _) (.nil _)))) (by decide) (by simp[AV.AA,AG,b3.AA]) (fun h=>by simp[AV.AA,AG,hwn]at h) hrun h
def nAt:List Nat->TyV->Int×Bool
 | [],p=>(p.v,p.k == 3)
 | i::r,p=>if p.k=2/\i<p.ps.length then nAt r (p.ps.getD i default)else(0,false)
theorem c169{path:List Nat}{pv:AV}(hp:SlR Az 1 (BX path) pv)(hl:path.length<1048577){p:TyV}{px:List AV}(hx:AR p px)(h:AF):AI MX (AE MX) 169 [.agg px,pv] h=some (.ret (.tup [.int .i64 (nAt path p).1,.bool (nAt path p).2]),h):=by
 have hnl:(BX path).length=path.length:=by simp[BX]
 obtain⟨qv,rfl,hq⟩:=hx.Ab;have hb8:=VF;simp[Aa,An,f169]at hb8;obtain⟨e,st,hlp,hq'⟩:=AU (M:=MX) (fid:=169) (N:=35) (C:=AE MX) (c:=AL f169 0) (n:=path.length)
  (fun i (b:TyV×AV)=>([(2,.hp 0 0),(8,pv),(9,.int .i64 path.length),(10,.int .i64 i)],[.var false [.int .i64 b.1.k,.int .i64 b.1.v,.str b.1.nm,b.2]]))
  (fun i b=>SlR AR 4 b.1.ps b.2/\nAt path p=nAt (path.drop i) b.1)
  (fun r=>(∃ b:TyV×AV,r=(.ext 0,([(2,.hp 0 0),(8,pv),(9,.int .i64 path.length),(10,.int .i64 path.length),(11,.bool false)],[.var false [.int .i64 b.1.k,.int .i64 b.1.v,.str b.1.nm,b.2]]))/\nAt path p=(b.1.v,b.1.k == 3))\/(∃ H,r=(.ret,([(4,.int .i64 0),(5,.bool false)],H))/\nAt path p=(0,false))) (fun i b hi hI=>by
    obtain⟨c,w⟩:=b;obtain⟨i1,i2⟩:=hI;simp only at i1 i2;rw[De hi,nAt]at i2;have hel:(BX path)[i]'(by omega)=(path[i]:Int):=(by simp[BX]);by_cases hc:c.k=2/\path[i]<c.ps.length
    .rw[if_pos hc]at i2;have hgd:c.ps.getD path[i] default=c.ps[path[i]]'hc.2:=(by simp[List.getD,AW hc.2]);rw[hgd]at i2;obtain⟨hc1,hc2⟩:=hc;have hlt:((path[i]:Int) ≥ (c.ps.length:Int))=False:=(by rw[eq_iff_iff];exact⟨fun h=>by omega,fun h=>h.elim⟩);have hlt2:((c.ps.length:Int)<=(path[i]:Int))=False:=(by rw[eq_iff_iff];exact⟨fun h=>by omega,fun h=>h.elim⟩);have hlt3:(c.ps.length<=path[i])=False:=(by rw[eq_iff_iff];exact⟨fun h=>by omega,fun h=>h.elim⟩);have hi':=AZ hi;have hwr:=AY hi hl;obtain⟨e,he,hR⟩:=hp.ix (i:=i) (by omega);rw[hel]at hR;subst hR;obtain⟨e2,he2,hR2⟩:=i1.ix hc2;obtain⟨q2,rfl,hq2⟩:=hR2.Ab;exact .inl ⟨(c.ps[path[i]],q2),by simp[f169,hi',he,hc1,i1.len,hlt,hlt2,hlt3,he2,hwr],hq2,i2⟩
    .rw[if_neg hc]at i2;have hi':=AZ hi;obtain⟨e,he,hR⟩:=hp.ix (i:=i) (by omega);rw[hel]at hR;subst hR;by_cases hc1:c.k=2
     .have hge:(c.ps.length<=path[i]):=by
       apply Decidable.byContradiction;intro hh;exact hc ⟨hc1,by omega⟩
      have hge2:((c.ps.length:Int)<=(path[i]:Int))=True:=(by rw[eq_iff_iff];exact⟨fun _=>trivial,fun _=>by omega⟩);exact .inr ⟨_,_,by simp[f169,hi',he,hc1,i1.len,hge,hge2] <;> first | exact⟨rfl,rfl⟩ | rfl,by simp,.inr ⟨_,rfl,i2⟩⟩
     .have hne:(c.k == 2)=false:=(by rw[beq_eq_false_iff_ne];exact hc1);exact .inr ⟨_,_,by simp[f169,hi',he,hc1,hne,bne] <;> first | exact⟨rfl,rfl⟩ | rfl,by simp,.inr ⟨_,rfl,i2⟩⟩) (fun b hI=>by
    obtain⟨c,w⟩:=b;obtain⟨i1,i2⟩:=hI;simp only at i1 i2;rw[C3,nAt]at i2;exact⟨_,_,by simp[f169] <;> first | exact⟨rfl,rfl⟩ | rfl,by simp,.inl ⟨(c,w),rfl,i2⟩⟩) (p,qv) ⟨hq,rfl⟩
 simp[f169]at hlp;have hlen:=hp.len;rw[hnl]at hlen;rcases hq' with⟨⟨c,w⟩,hq',hr⟩ | ⟨H,hq',hr⟩ <;> cases hq' <;> rw[hr]
 .exact Af Qx Te (by simp[AV.AA,AG,hq.AA,hp.AA]) (by simp[AV.AA,AG]) (hr:=_) (by simp[AJ,f169,hlen,hlp,hb8] <;> rfl) h
 .exact Af Qx Te (by simp[AV.AA,AG,hq.AA,hp.AA]) (by simp[AV.AA,AG]) (hr:=_) (by simp[AJ,f169,hlen,hlp] <;> rfl) h
theorem c173:∀(path:List Nat) (p:TyV) (px:List AV) (pv:AV),AR p px->SlR Az 1 (BX path) pv->∀ h,AI MX (AE MX) 173 [.agg px,pv] h=some (.ret (.tup [.int .i64 (nAt path p).1,.bool (nAt path p).2]),h)
 | [],p,px,pv,hx,hp,h=>by
  obtain⟨qv,rfl,hq⟩:=hx.Ab;have hb2:=VG;simp[Aa,An,f173]at hb2;have hl:∀ H,BI pv H=some (.val (.int .i64 0) H):=fun H=>hp.len H
  simp only[nAt];exact Af LD MZ (by simp[AV.AA,AG,hq.AA,hp.AA]) (by simp[AV.AA,AG]) (hr:=_) (by simp[AJ,f173,hl,hb2] <;> rfl) h
 | i::r,p,px,pv,hx,hp,h=>by
  obtain⟨qv,rfl,hq⟩:=hx.Ab;have hb3:=VH;simp[Aa,An,f173]at hb3;have hb5:=VI;simp[Aa,An,f173]at hb5;obtain⟨M,hM⟩:∃ M,M=(BX (i::r)).length:=⟨_,rfl⟩;have hl:∀ H,BI pv H=some (.val (.int .i64 M) H):=fun H=>by rw[hM];exact hp.len H
  have hM0:((M:Int) == 0)=false:=by rw[beq_eq_false_iff_ne];simp[hM,BX];omega
  obtain⟨e1,he1,hR1⟩:=hp.ix (i:=0) (by simp[BX]);have hR1':e1=[.int .i64 (i:Int)]:=hR1;subst hR1';have he1':ixA 1 pv (.int .i64 0)=some (.ro [.int .i64 (i:Int)]):=he1 .i64;obtain⟨p1,hsl,hp1⟩:=Sv hp (by simp[BX]);have hp1':SlR Az 1 (BX r) p1:=hp1;rw[nAt];have hn:([AV.agg [.int .i64 p.k,.int .i64 p.v,.str p.nm,qv],pv]:List AV).all AV.AA=true:=by simp[AV.AA,AG,hq.AA,hp.AA]
  by_cases hc1:p.k=2
  .by_cases hc2:i<p.ps.length
   .rw[if_pos ⟨hc1,hc2⟩];have hgd:p.ps.getD i default=p.ps[i]:=(by simp[List.getD,AW hc2]);rw[hgd];obtain⟨e2,he2,hR2⟩:=hq.ix hc2;have hrec:=c173 r p.ps[i] e2 p1 hR2 hp1';obtain⟨q2,rfl,hq2⟩:=hR2.Ab;have hlt2:((p.ps.length:Int)<=(i:Int))=False:=(by rw[eq_iff_iff];exact⟨fun h=>by omega,fun h=>h.elim⟩);have hlt3:(p.ps.length<=i)=False:=(by rw[eq_iff_iff];exact⟨fun h=>by omega,fun h=>h.elim⟩);exact Af LD MZ hn (by simp[AV.AA,AG]) (hr:=_) (by simp[AJ,f173,hl,hM0,hc1,he1',hq.len,hq.Ca,hlt2,hlt3,he2,hsl,hrec,hb3,hb5,AG,AV.AA,hp.AA,hp1.AA,hq.AA,hq2.AA] <;> rfl) h
   .rw[if_neg (fun h=>hc2 h.2)];have hge2:((p.ps.length:Int)<=(i:Int))=True:=(by rw[eq_iff_iff];exact⟨fun _=>trivial,fun _=>by omega⟩);have hge3:(p.ps.length<=i)=True:=(by rw[eq_iff_iff];exact⟨fun _=>trivial,fun _=>by omega⟩);exact Af LD MZ hn (by simp[AV.AA,AG]) (hr:=_) (by simp[AJ,f173,hl,hM0,hc1,he1',hq.len,hq.Ca,hge2,hge3,hb3,AG,AV.AA,hp.AA,hq.AA] <;> rfl) h
  .rw[if_neg (fun h=>hc1 h.1)];have hne:(p.k != 2)=true:=(by rw[bne_iff_ne];exact hc1);exact Af LD MZ hn (by simp[AV.AA,AG]) (hr:=_) (by simp[AJ,f173,hl,hM0,hc1,hne,hb3,AG,AV.AA,hp.AA,hq.AA] <;> rfl) h
theorem c114m{s:Sh}{q:KV}{u:AV}(hk:CY s q u)(hnd:NdX s){arms:List TyV}{av:AV}(ha:SlR AR 4 arms av)(hal:arms.length<1048577)(has:∀ p∈arms,Sm 1048577 p)(hpe:∀ p∈arms,CA s p=0)(h:AF):AI MX (AE MX) 114 [av,.fn 123 [u] []] h=some (.ret (.int .i64 (ixI (arms.findIdx? (fun p=>CU p s q)))),h):=by
 obtain⟨us,rfl⟩:=hk.ro;obtain⟨e,st,hlp,hq⟩:=AU (M:=MX) (fid:=114) (N:=19) (C:=AE MX) (c:=AL f114 0) (n:=arms.length) (fun i (b:AF)=>([(0,av),(1,.fn 123 [.ro us] []),(7,.int .i64 arms.length),(8,.int .i64 i)],b)) (fun i _=>∀ j (hj:j<arms.length),j<i->(fun p=>CU p s q) arms[j]=false)
  (fun r=>∃ b:AF,(r=(.ext 0,([(0,av),(1,.fn 123 [.ro us] []),(7,.int .i64 arms.length),(8,.int .i64 arms.length),(9,.bool false)],b))/\arms.findIdx? (fun p=>CU p s q)=none)\/(∃ i:Nat,r=(.ret,([(4,.int .i64 i)],b))/\arms.findIdx? (fun p=>CU p s q)=some i)) (fun i b hi hI=>by
    obtain⟨e,he,hR⟩:=ha.ix hi;have hi':=AZ hi;have hw:=AY hi hal;have hmem:=Ap hi;have hcall:=c123 arms[i] s q _ e hk hnd hR (has _ hmem) (hpe _ hmem);obtain⟨q1,rfl,hq1⟩:=hR.Ab;cases hx:CU arms[i] s q with
    | true=>rw[hx]at hcall;exact .inr ⟨_,_,by simp[f114,hi',he,hcall] <;> exact⟨rfl,rfl⟩,by simp,b,.inr ⟨i,rfl,Fc (p:=(fun p=>CU p s q)) hi hI hx⟩⟩
    | false=>rw[hx]at hcall;exact .inl ⟨b,by simp[f114,hi',he,hcall,hw],Ff (p:=(fun p=>CU p s q)) hi hI hx⟩) (fun b hI=>by
    exact⟨_,_,by simp[f114] <;> exact⟨rfl,rfl⟩,by simp,b,.inl ⟨rfl,Fe (p:=(fun p=>CU p s q)) fun j hj=>hI j hj hj⟩⟩) [] (fun j _ h0=>by omega)
 simp[f114]at hlp;obtain⟨b,hq⟩:=hq;rcases hq with⟨hq,hs⟩ | ⟨i,hq,hs⟩ <;> cases hq <;> exact Af Wg ZS (by simp[ha.AA,AV.AA,AG]) rfl (hr:=b) (by simp[AJ,f114,ha.len,hlp,hs,ixI]) h
theorem effY{f:FuncId}{args:List AV}{h:AF}{r:CR×AF}{e:List AV->AF->Option (CR×AF)}(hm:MX.mode f = { })(he:MX.eff f=some e)(hr:e args h=some r):AI MX (AE MX) f args h=some r:=by
 unfold AI;simp only[hm];exact Lr he hr
def KT(l:List Int):List Int:=l.mergeSort fun x y=>decide (x<=y)
def La(l:List Int):List Int:=Lib.compact (KT l)
theorem Oz(l:List Int):(KT l).length=l.length:=by simp[KT]
theorem Jq(l:List Int):(La l).length<=l.length:=DD (Jc _) (Nat.le_of_eq (Oz l))
theorem c170{H:AF}{id:Nat}{l:List Int}(hid:H[id]? = some (.arr 1 false (A6 l)))(hl:l≠[])(hb:l.length<4294967296):AI MX (AE MX) 170 [.hs id l.length 1 0 l.length false] H=some (.ret (.tup []),H.set id (.arr 1 false (A6 (KT l)))):=by
 refine effY Qy Tf ?_;have h2:(A6 l).length=l.length:=Bh l;have h0:0<l.length:=Kr.2 hl;have hc:(Nat.beq (A6 l).length l.length&&Nat.beq l.length l.length&&Nat.blt 0 l.length&&Nat.blt l.length 4611686018427387904)=true:=by
  rw[h2];simp only[BU,Bl,FQ];exact⟨⟨⟨trivial,trivial⟩,h0⟩,by omega⟩
 simp only[Qd,hid,Je,hc];rfl
theorem c171{H:AF}{id:Nat}{l:List Int}(hid:H[id]? = some (.arr 1 false (A6 l)))(hl:l≠[])(hb:l.length<4294967296):AI MX (AE MX) 171 [.hs id l.length 1 0 l.length false] H=some (.ret (.hs id l.length 1 0 (Lib.compact l).length false),H.set id (.arr 1 false (A6 (Lib.compact l++List.replicate (l.length - (Lib.compact l).length) 0)))):=by
 refine effY Qz Tg ?_;have h2:(A6 l).length=l.length:=Bh l;have h0:0<l.length:=Kr.2 hl;have hc:(Nat.beq (A6 l).length l.length&&Nat.beq l.length l.length&&Nat.blt 0 l.length&&Nat.blt l.length 4611686018427387904)=true:=by
  rw[h2];simp only[BU,Bl,FQ];exact⟨⟨⟨trivial,trivial⟩,h0⟩,by omega⟩
 simp only[Jf,hid,Je,hc]
theorem c170n(H:AF):AI MX (AE MX) 170 [.AH] H=some (.ret (.tup []),H):=effY Qy Tf rfl
theorem c171n(H:AF):AI MX (AE MX) 171 [.AH] H=some (.ret .AH,H):=effY Qz Tg rfl
def HI(path:List Nat)(s:Sh)(q:KV)(no:List Int)(p:TyV):Option Int:=if(nAt path p).2&&(CU p s q && !no.contains (nAt path p).1)then some (nAt path p).1 else none
def Fh(path:List Nat)(s:Sh)(q:KV)(no:List Int)(arms:List TyV):List Int:=arms.filterMap (HI path s q no)
def L0(base:Nat)(H:AF)(w:AV)(l:List Int):Prop:=(l=[]/\w=.AH)\/∃ j gen lk ms,base<=j/\w=.hs j gen 1 0 l.length false/\H[j]? = some (.arr 1 lk (A6 ms))/\ms.length=gen/\l.length<=gen/\ms.take l.length=l
theorem c130{s:Sh}{q:KV}{u:AV}(hk:CY s q u)(hnd:NdX s){arms:List TyV}{av:AV}(ha:SlR AR 4 arms av)(hal:arms.length<1048577)(has:∀ p∈arms,Sm 1048577 p)(hpe:∀ p∈arms,CA s p=0){path:List Nat}{pv:AV}(hp:SlR Az 1 (BX path) pv)(hl:path.length<1048577){w:Int}{k':KV}(hy:atK path (s,q)=some (.bit w,k'))
 {H:AF} {B:Nat} {nv lv:AV} (hB:H[B]? = some (.var false [av,nv,lv])):∃ x H',AI MX (AE MX) 130 [.hp B 0,u,pv] H=some (.ret x,H')/\H.length<=H'.length/\(∀ j,j<H.length->H'[j]? = H[j]?)/\L0 H.length H' x (La (Fh path s q (DB k') arms)):=by
 obtain⟨us,rfl⟩:=hk.ro;obtain⟨ku,hku,h127⟩:=c127 (x:=(s,q)) hk hp hl hy;obtain⟨nov,a,rfl,hno,hnl,_,_,_⟩:=hku.I4;obtain⟨no,hnoe⟩:∃ no,no=DB k':=⟨_,rfl⟩;rw[<- hnoe]at hno hnl ⊢;have hstep:∀(i:Nat) (hi:i<arms.length),Fh path s q no (arms.take (i+1))=Fh path s q no (arms.take i)++(HI path s q no arms[i]).toList:=fun i hi=>by
  rw[<- Cf hi,Fh,List.filterMap_append,<- Fh];cases hc:HI path s q no arms[i] <;> simp[hc]
 have hcl:∀ i,(Fh path s q no (arms.take i)).length<=arms.length:=fun i=>DD (PE _ _) (by simp;omega)
 obtain⟨e,st,hlp,hq⟩:=AU (M:=MX) (fid:=130) (N:=53) (C:=AE MX) (c:=AL f130 0) (n:=arms.length)
  (fun i (b:AV×AF)=>([(1,.ro us),(2,pv),(7,b.1),(15,av),(16,.int .i64 arms.length),(17,.int .i64 i)],b.2))
  (fun i b=>∃ rest,b.2=H++rest/\Ai 1 H.length rest b.1 (A6 (Fh path s q no (arms.take i))))
  (fun r=>∃(w:AV) (b:AF),r=(.ext 0,([(1,.ro us),(2,pv),(7,w),(15,av),(16,.int .i64 arms.length),(17,.int .i64 arms.length),(18,.bool false)],b))/\∃ rest,b=H++rest/\Ai 1 H.length rest w (A6 (Fh path s q no arms))) (fun i b hi hI=>by
    obtain⟨w,b⟩:=b;obtain⟨rest,i1,i2⟩:=hI;simp only at i1 i2;have hclen:=hcl i;have hst:=hstep i hi;have hi':=AZ hi;have hwr:=AY hi hal;obtain⟨e,he,hR⟩:=ha.ix hi;have hmem:=Ap hi;have h123:=c123 arms[i] s q _ e hk hnd hR (has _ hmem) (hpe _ hmem);have h169:=c169 hp hl hR;have h166:=c166 hno hnl (nAt path arms[i]).1;obtain⟨q1,rfl,hq1⟩:=hR.Ab;have hq1n:=hq1.AA;obtain⟨X,hX⟩:∃ X,X=Blk.var false [.int .i64 arms[i].k,.int .i64 arms[i].v,.str arms[i].nm,q1]:=⟨_,rfl⟩;have hco:HI path s q no arms[i]=if(nAt path arms[i]).2&&(CU arms[i] s q && !no.contains (nAt path arms[i]).1)then some (nAt path arms[i]).1 else none:=rfl
    rcases hn:nAt path arms[i]with⟨n,is⟩;simp only[hn]at h169 h166 hco;have hgr:=i2.grow [X];have hgo:∀ v,HI path s q no arms[i]=v->v=none->∃ rest',b++[X]=H++rest'/\Ai 1 H.length rest' w (A6 (Fh path s q no (arms.take (i+1)))):=fun v h1 h2=>by
     rw[hst,h1,h2];exact⟨rest++[X],by rw[i1,EM],by simpa using hgr⟩
    cases is with
    | false=>
     simp at hco;exact .inl ⟨(w,b++[X]),by simp[f130,hi',he,h169,hwr,BR,FJ,AG,AV.AA,hX],hgo _ hco rfl⟩
    | true=>
     cases hmy:CU arms[i] s q with
     | false=>
      rw[hmy]at h123 hco;simp at hco;exact .inl ⟨(w,b++[X]),by simp[f130,hi',he,h169,h123,hwr,BR,FJ,AG,AV.AA,hX],hgo _ hco rfl⟩
     | true=>
      rw[hmy]at h123 hco;cases hct:no.contains n with
      | true=>
       rw[hct]at h166 hco;simp at hco;exact .inl ⟨(w,b++[X]),by simp[f130,hi',he,h169,h123,h127,h166,hwr,BR,FJ,AG,AV.AA,hX],hgo _ hco rfl⟩
      | false=>
       rw[hct]at h166 hco;simp at hco;obtain⟨a',rest',hap,hacc⟩:=Ai.push (byt:=8) (P:=H) [.int .i64 n] true hgr (by decide) (by decide) (by rw[Bh];omega);rw[<- EM,<- i1]at hap;rw[hX]at hap;have hc:=hacc.cells;refine .inl ⟨(a',H++rest'),by simp[f130,hi',he,h169,h123,h127,h166,hwr,BR,FJ,AG,AV.AA,hap,hc,bsA,Aq],rest',rfl,?_⟩;rw[hst,hco];simpa[A6]using hacc) (fun b hI=>by
    obtain⟨w,b⟩:=b;rw[HL]at hI;exact⟨_,_,by simp[f130] <;> first | exact⟨rfl,rfl⟩ | rfl,by simp,w,b,rfl,hI⟩) (.AH,H) ⟨[],by simp,by simp[Fh,A6,Ai.nil]⟩
 simp[f130]at hlp;have hcl':=hcl arms.length;rw[HL]at hcl';obtain⟨x,b,hq,rest,rfl,hacc⟩:=hq;cases hq;obtain⟨cs,hcs⟩:∃ cs,cs=Fh path s q no arms:=⟨_,rfl⟩;rw[<- hcs]at hacc hcl' ⊢;rcases hacc with⟨h0,rfl⟩ | ⟨j,h0,rfl,hj⟩
 .have hcs0:cs=[]:=by simpa[A6]using h0
  have h170:=c170n (H++rest);have h171:=c171n (H++rest);refine⟨.AH,H++rest,CV Qm TT (by simp[AJ,f130,hB,ha.len,hlp,h170,h171]),by simp,fun j hj=>BA hj,.inl ⟨by rw[hcs0];exact E5 (Lk.1 (Jq [])),rfl⟩⟩
 .have hcs0:cs≠[]:=fun h=>h0 (by rw[h];rfl)
  have hid:(H++rest)[H.length+j]? = some (.arr 1 false (A6 cs)):=by rw[EL (by omega)];simpa using hj
  rw[Bh]at hlp;have h170:=c170 hid hcs0 (by omega);obtain⟨Y,hY⟩:∃ Y,Y=(H++rest).set (H.length+j) (.arr 1 false (A6 (KT cs))):=⟨_,rfl⟩;have hidl:H.length+j<(H++rest).length:=(Ae.1 hid).1;have hid2:Y[H.length+j]? = some (.arr 1 false (A6 (KT cs))):=by rw[hY,ER hidl]
  have hsl:=Oz cs;have h171:=c171 hid2 (fun h=>hcs0 (E5 (by rw[<- hsl,h];rfl))) (by omega);rw[<- hY]at h170;rw[hsl]at h171;have hcm:(Lib.compact (KT cs)).length<=cs.length:=Jq cs;refine⟨_,_,CV Qm TT (by simp[AJ,f130,hB,ha.len,hlp,h170,h171] <;> exact⟨rfl,rfl⟩),?_,fun x hx => ?_,.inr ⟨H.length+j,cs.length,false,Lib.compact (KT cs)++List.replicate (cs.length - (Lib.compact (KT cs)).length) 0,by omega,rfl,?_,by simp;omega,hcm,by simp[La]⟩⟩
  .simp[hY]
  .rw[BT (by omega),hY,BT (by omega),BA hx]
  .rw[ER (by rw[hY,Fy];exact hidl)]
def H7(H:AF)(c:Nat)(cs:List HQ)(cv:AV):Prop:=(cs=[]/\cv=.AH)\/∃ ces,cs≠[]/\cv=.hs c cs.length 3 0 cs.length false/\H[c]? = some (.arr 3 false ces)/\ces.length=cs.length/\∀(j:Nat) t e,cs[j]? = some t->ces[j]? = some e->I5 t e
def YN(H:AF)(c:Nat)(v:BE)(e:List AV):Prop:=∃ pv cv,e=[.int .i64 v.arm,pv,cv,.int .i64 v.other]/\SlR Az 1 v.path pv/\H7 H c v.cases cv
def CK(O:Nat->Prop)(H:AF)(B:Nat)(nv:AV)(ns:List BE):Prop:=(ns=[]/\nv=.AH)\/∃ J es,ns≠[]/\J≠B/\O J/\nv=.hs J ns.length 4 0 ns.length false/\H[J]? = some (.arr 4 false es)/\es.length=ns.length /\
 ∃ cid:Nat->Nat,(∀ i j v w,ns[i]? = some v->ns[j]? = some w->v.cases≠[]->w.cases≠[]->cid i=cid j->i=j)/\(∀ i v,ns[i]? = some v->v.cases≠[]->cid i≠B/\cid i≠J/\O (cid i))/\∀(i:Nat) v e,ns[i]? = some v->es[i]? = some e->YN H (cid i) v e
def Ft(O:Nat->Prop)(H:AF)(B:Nat)(av:AV)(lg:Bool)(ns:List BE):Prop:=O B/\(∀ x,O x->x<H.length)/\∃ nv,H[B]? = some (.var false [av,nv,.bool lg])/\CK O H B nv ns
theorem CK.cells{O:Nat->Prop}{H:AF}{B:Nat}{nv:AV}{ns:List BE}(h:CK O H B nv ns):nv.cells=some [nv]:=by
 rcases h with⟨_,rfl⟩ | ⟨_,_,_,_,_,rfl,_⟩ <;> rfl
theorem CK.len{O:Nat->Prop}{H:AF}{B:Nat}{nv:AV}{ns:List BE}(h:CK O H B nv ns)(X:AF):BI nv X=some (.val (.int .i64 ns.length) X):=by
 rcases h with⟨rfl,rfl⟩ | ⟨_,_,_,_,_,rfl,_⟩ <;> rfl
theorem CK.Ca{O:Nat->Prop}{H:AF}{B:Nat}{nv:AV}{ns:List BE}(h:CK O H B nv ns):Ca (some nv)=.st:=by
 rcases h with⟨rfl,rfl⟩ | ⟨_,_,_,_,_,rfl,_⟩ <;> rfl
theorem H7.mono{H H':AF}{c:Nat}{cs:List HQ}{cv:AV}(h:H7 H c cs cv)(hh:cs≠[]->H'[c]? = H[c]?):H7 H' c cs cv:=by
 rcases h with h | ⟨ces,h0,h1,h2,h3⟩
 .exact .inl h
 .exact .inr ⟨ces,h0,h1,by rw[hh h0];exact h2,h3⟩
theorem CK.mono{O O':Nat->Prop}{H H':AF}{B:Nat}{nv:AV}{ns:List BE}(h:CK O H B nv ns)(hO:∀ x,O x->O' x)(hh:∀ x,O x->x≠B->H'[x]? = H[x]?):CK O' H' B nv ns:=by
 rcases h with h | ⟨J,es,h0,h1,h2,h3,h4,h5,cid,h6,h7,h8⟩
 .exact .inl h
 .refine .inr ⟨J,es,h0,h1,hO _ h2,h3,by rw[hh J h2 h1];exact h4,h5,cid,h6,fun i v g1 g2 => ?_,fun i v e g1 g2 => ?_⟩
  .obtain⟨k1,k2,k3⟩:=h7 i v g1 g2;exact⟨k1,k2,hO _ k3⟩
  .obtain⟨pv,cv,k1,k2,k3⟩:=h8 i v e g1 g2;exact⟨pv,cv,k1,k2,k3.mono fun hc=>hh _ (h7 i v g1 hc).2.2 (h7 i v g1 hc).1⟩
theorem CK.push{O:Nat->Prop}{H:AF}{B:Nat}{nv pv:AV}{ns:List BE}(h:CK O H B nv ns)(hO:∀ x,O x->x<H.length)(hBl:B<H.length){v:BE}(hv:SlR Az 1 v.path pv)(hc:v.cases=[])(hl:ns.length<1048577)(ex:Bool) :
 ∃ nv' H',apA 4 64 nv (.sl 4 ex [[.int .i64 v.arm,pv,.AH,.int .i64 v.other]]) H=some (nv',H')/\H.length<=H'.length/\(∀ x,x<H.length->¬ (O x/\x≠B)->H'[x]? = H[x]?)/\CK (fun x=>O x\/(H.length<=x/\x<H'.length)) H' B nv' (ns++[v]):=by
 obtain⟨e,he⟩:∃ e:List AV,e=[.int .i64 v.arm,pv,.AH,.int .i64 v.other]:=⟨_,rfl⟩;rw[<- he];have hnode:∀ X c,YN X c v e:=fun X c=>⟨pv,.AH,he,hv,.inl ⟨hc,rfl⟩⟩
 have hrd:∀ X,A7 X (.sl 4 ex [e])=some [e]:=fun _=>rfl
 rcases h with⟨rfl,rfl⟩ | ⟨J,es,h0,h1,h2,rfl,h4,h5,cid,h6,h7,h8⟩
 .refine⟨.hs H.length 1 4 0 1 false,H++[.arr 4 false [e]],?_,by simp,fun x hx _=>BA hx,.inr ⟨H.length,[e],by simp,by omega,.inr ⟨CZ _,by simp⟩,rfl,by simp,rfl,fun _=>0,fun i j v' w' g1 g2 g3 _ _ => ?_,fun i v' g1 g2 => ?_,fun i v' e' g1 g2 => ?_⟩⟩
  .simp[apA,apX,hrd,CC,BM,F6,A3,A1,A8,CM]
  .cases i with
   | zero=>simp at g1;subst g1;exact absurd hc g3
   | succ i=>simp at g1
  .cases i with
   | zero=>simp at g1;subst g1;exact absurd hc g2
   | succ i=>simp at g1
  .cases i with
   | zero=>simp at g1 g2;subst g1;subst g2;exact hnode _ _
   | succ i=>simp at g1
 .have hJ:=hO J h2;have e2:(ns.length+1) * 64<=17592186044416:=DD (Ku (show ns.length+1<=1048577 by omega) (CZ 64)) (by decide);have e3:ns.length+1<=17592186044416:=DD (show ns.length+1<=1048577 by omega) (by decide);have e4:List.take ns.length es=es:=DC (by omega);refine⟨.hs J (ns.length+1) 4 0 (ns.length+1) false,H.set J (.arr 4 false (es++[e])),?_,by simp,fun x hx hn => ?_,.inr ⟨J,es++[e],by simp,h1,.inl h2,by simp,ER hJ,by simp[h5],cid,fun i j v' w' g1 g2 g3 g4 g5 => ?_,fun i v' g1 g2 => ?_,fun i v' e' g1 g2 => ?_⟩⟩
  .simp[apA,apX,hrd,CC,BM,F6,A3,A1,A8,CM,e2,e3,h4,h5,e4]
  .rw[BT (fun e=>hn ⟨by rw[<- e];exact h2,by rw[<- e];exact h1⟩)]
  .have hi:i<ns.length:=by
    apply Decidable.byContradiction;intro hh;rw[EL (by omega)]at g1;have:=C2 g1;simp at this;subst this;exact g3 hc
   have hj:j<ns.length:=by
    apply Decidable.byContradiction;intro hh;rw[EL (by omega)]at g2;have:=C2 g2;simp at this;subst this;exact g4 hc
   rw[BA hi]at g1;rw[BA hj]at g2;exact h6 i j v' w' g1 g2 g3 g4 g5
  .have hi:i<ns.length:=by
    apply Decidable.byContradiction;intro hh;rw[EL (by omega)]at g1;have:=C2 g1;simp at this;subst this;exact g2 hc
   rw[BA hi]at g1;obtain⟨k1,k2,k3⟩:=h7 i v' g1 g2;exact⟨k1,k2,.inl k3⟩
  .by_cases hi:i<ns.length
   .rw[BA hi]at g1;rw[BA (by omega)]at g2;obtain⟨pv',cv',k1,k2,k3⟩:=h8 i v' e' g1 g2;exact⟨pv',cv',k1,k2,k3.mono fun hcc=>BT (fun e=>(h7 i v' g1 hcc).2.1 e.symm)⟩
   .rw[EL (by omega)]at g1;rw[EL (by omega)]at g2;have m1:=C2 g1;have m2:=C2 g2;simp at m1 m2;subst m1;subst m2;exact hnode _ _
theorem c125{O:Nat->Prop}{H:AF}{B:Nat}{av pv:AV}{lg:Bool}{ns:List BE}(h:Ft O H B av lg ns)(hav:av.AA=true){v:BE}(hv:SlR Az 1 v.path pv)(hc:v.cases=[])(hl:ns.length<1048576) :
 ∃ H' O',AI MX (AE MX) 125 [.hp B 0,.agg [.int .i64 v.arm,pv,.AH,.int .i64 v.other]] H=some (.ret (.int .i64 ns.length),H')/\Ft O' H' B av (lg||ns.length == 400) (ns++[v])/\H.length<=H'.length/\(∀ x,O x->O' x)/\(∀ x,O' x->O x\/H.length<=x)/\∀ x,x<H.length->¬ O x->H'[x]? = H[x]? := by
 obtain⟨hO,hOl,nv,hB,hn⟩:=h;have hBl:=hOl B hO;have hb:=Uw;simp[Aa,An,Tryz.f125]at hb;obtain⟨X,hX⟩:∃ X,X=Blk.var false [.int .i64 v.arm,pv,.AH,.int .i64 v.other]:=⟨_,rfl⟩;obtain⟨h1,e1⟩:∃ h1,h1=H++[X]:=⟨_,rfl⟩;have hB1:h1[B]? = some (.var false [av,nv,.bool lg]):=by rw[e1,BA hBl];exact hB
 have hl1:h1.length=H.length+1:=by rw[e1];simp
 obtain⟨h2,e2⟩:∃ h2,h2=h1.set B (.var false [av,nv,.bool (lg||ns.length == 400)]):=⟨_,rfl⟩;have hB2:h2[B]? = some (.var false [av,nv,.bool (lg||ns.length == 400)]):=by rw[e2,ER (by omega)]
 have hX2:h2[H.length]? = some (.var false [.int .i64 v.arm,pv,.AH,.int .i64 v.other]):=by rw[e2,BT (by omega),e1,BR,hX]
 have hl2:h2.length=H.length+1:=by rw[e2,Fy,hl1]
 have hn2:CK O h2 B nv ns:=hn.mono (fun _ h=>h) (fun x hx hxB=>by rw[e2,BT (fun e=>hxB e.symm),e1,BA (hOl x hx)]);obtain⟨nv',h3,hap,l3,f3,n3⟩:=hn2.push (fun x hx=>by have:=hOl x hx;omega) (by omega) hv hc (by omega) true;have hB3:h3[B]? = some (.var false [av,nv,.bool (lg||ns.length == 400)]):=by rw[f3 B (by omega) (fun h=>h.2 rfl)];exact hB2
 obtain⟨h4,e4⟩:∃ h4,h4=h3.set B (.var false [av,nv',.bool (lg||ns.length == 400)]):=⟨_,rfl⟩;have hB4:h4[B]? = some (.var false [av,nv',.bool (lg||ns.length == 400)]):=by rw[e4,ER (by omega)]
 have hl4:h4.length=h3.length:=by rw[e4,Fy]
 refine⟨h4,fun x=>O x\/(h2.length<=x/\x<h3.length),CV Wl ZY ?_,⟨.inl hO,fun x hx => ?_,nv',hB4,n3.mono (fun _ h=>h) (fun x hx hxB=>by rw[e4,BT (fun e=>hxB e.symm)])⟩,by omega,fun x h=> .inl h,fun x hx => ?_,fun x hx hno => ?_⟩
 .have hnl:=hn.len;have hk1:=hn.Ca;have hk3:=n3.Ca;have hnl4:∀ Y,BI nv' Y=some (.val (.int .i64 ((ns.length:Int)+1)) Y):=fun Y=>by
   have:=n3.len Y;simpa using this
  have hnc:=hn.cells;have hnc':=n3.cells;have hvc:=hv.cells;have hw:wr .i64 (ns.length:Int)=ns.length:=Cl (by omega) (by omega);rw[hX]at e1;cases lg with
  | true=>
   simp only[Bool.true_or]at e2 hB2 hB3 e4 hB4;simp[AJ,Tryz.f125,<- e1,hB1,<- e2,hB2,hX2,hap,hB3,<- e4,hB4,hnl4,hw,hnc,hnc',hvc,bsA,Aq,hb,AG,AV.AA,hv.AA]
  | false=>
   have hq:((ns.length:Int) == 400)=(ns.length == 400):=(by rw[Kt];simp;omega);simp only[JK]at e2 hB2 hB3 e4 hB4;obtain⟨g,hg⟩:∃ g,g=(ns.length == 400):=⟨_,rfl⟩;rw[<- hg]at e2 hB2 hB3 e4 hB4 hq;simp[AJ,Tryz.f125,<- e1,hB1,hnl,hq,<- e2,hB2,hX2,hap,hB3,<- e4,hB4,hnl4,hw,hnc,hnc',hvc,bsA,Aq,hb,AG,AV.AA,hv.AA]
 .rcases hx with hx | hx
  .have:=hOl x hx;omega
  .omega
 .rcases hx with hx | hx
  .exact .inl hx
  .exact .inr (by omega)
 .have hxB:x≠B:=fun e=>hno (by rw[e];exact hO)
  rw[e4,BT (fun e=>hxB e.symm),f3 x (by omega) (fun h=>hno h.1),e2,BT (fun e=>hxB e.symm),e1,BA hx]
theorem c116b{m:Int}(H:AF):AI MX (AE MX) 116 [.ro [.int .i64 m,.AH]] H=some (.ret (.bool true),H):=CV NI Pn (by simp[AJ,f116])
theorem c116c{α:Type}{R:α->List AV->Prop}{l:List α}{m:Int}{cv:AV}(hc:SlR R 2 l cv)(hl:l≠[])(H:AF):AI MX (AE MX) 116 [.ro [.int .i64 m,cv]] H=some (.ret (.bool false),H):=by
 have h0:((l.length:Int) == 0)=false:=by
  rw[beq_eq_false_iff_ne];have:=Kr.2 hl;omega
 exact CV NI Pn (by simp[AJ,f116,hc.len,h0])
theorem H7.push{H:AF}{c:Nat}{cs:List HQ}{cv:AV}(h:H7 H c cs cv)(hl:cs.length<1048577)(x:HQ)(ex:Bool) :
 ∃ c' cv' H',apA 3 32 cv (.sl 3 ex [[.str x.nm,.int .i64 x.num,.int .i64 x.nx]]) H=some (cv',H')/\H7 H' c' (cs++[x]) cv'/\cv'.cells=some [cv']/\H.length<=H'.length/\((cs=[]/\c'=H.length/\H.length<H'.length/\∀ j,j<H.length->H'[j]? = H[j]?)\/(cs≠[]/\c'=c/\c<H.length/\∀ j,j≠c->H'[j]? = H[j]?)):=by
 obtain⟨e,he⟩:∃ e:List AV,e=[.str x.nm,.int .i64 x.num,.int .i64 x.nx]:=⟨_,rfl⟩;rw[<- he];have hx:I5 x e:=he;have hrd:∀ X,A7 X (.sl 3 ex [e])=some [e]:=fun _=>rfl
 rcases h with⟨rfl,rfl⟩ | ⟨ces,h0,rfl,h2,h3,h4⟩
 .refine⟨H.length,.hs H.length 1 3 0 1 false,H++[.arr 3 false [e]],?_,.inr ⟨[e],by simp,rfl,by simp,rfl,fun j t e' g1 g2 => ?_⟩,rfl,by simp,.inl ⟨rfl,rfl,by simp,fun j hj=>BA hj⟩⟩
  .simp[apA,apX,hrd,CC,BM,F6,A3,A1,A8,CM]
  .cases j with
   | zero=>simp at g1 g2;subst g1;subst g2;exact hx
   | succ j=>simp at g1
 .have e2:(cs.length+1) * 32<=17592186044416:=DD (Ku (show cs.length+1<=1048577 by omega) (CZ 32)) (by decide);have e3:cs.length+1<=17592186044416:=DD (show cs.length+1<=1048577 by omega) (by decide);have e4:List.take cs.length ces=ces:=DC (by omega);have hc:=(Ae.1 h2).1;obtain⟨p1,p2⟩:=E9 h3 h4 hx;refine⟨c,.hs c (cs.length+1) 3 0 (cs.length+1) false,H.set c (.arr 3 false (ces++[e])),?_,.inr ⟨ces++[e],by simp,by simp,ER hc,p1,p2⟩,rfl,by simp,.inr ⟨h0,rfl,hc,fun j hj=>BT (fun e=>hj e.symm)⟩⟩;simp[apA,apX,hrd,CC,BM,F6,A3,A1,A8,CM,e2,e3,h2,h3,e4]
theorem Fi{α:Type}{l:List α}{i k:Nat}{a w:α}(h:(l.set i a)[k]? = some w):(k=i/\w=a)\/(k≠i/\l[k]? = some w):=by
 by_cases hk:k=i
 .subst hk;have hl:k<l.length:=by
   have:=(Ae.1 h).1;simpa using this
  rw[ER hl]at h;cases h;exact .inl ⟨rfl,rfl⟩
 .rw[BT (fun e=>hk e.symm)]at h;exact .inr ⟨hk,h⟩
theorem CK.get{O:Nat->Prop}{H:AF}{B:Nat}{nv:AV}{ns:List BE}(h:CK O H B nv ns)(hOl:∀ x,O x->x<H.length)(hBl:B<H.length){i:Nat}{v:BE}(hi:ns[i]? = some v) :
 ∃ J es pv cv,ixA 4 nv (.int .i64 i)=some (.ep J ns.length 4 i 0)/\J≠B/\O J/\H[J]? = some (.arr 4 false es)/\es.length=ns.length/\es[i]? = some [.int .i64 v.arm,pv,cv,.int .i64 v.other]/\SlR Az 1 v.path pv /\
  (∀ oth,CK O (H.set J (.arr 4 false (es.set i [.int .i64 v.arm,pv,cv,.int .i64 oth]))) B nv (ns.set i { v with other:=oth })) /\
  (v.cases.length<1048577->∀ x ex,∃ cv' H',apA 3 32 cv (.sl 3 ex [[.str x.nm,.int .i64 x.num,.int .i64 x.nx]]) H=some (cv',H')/\cv'.cells=some [cv']/\H.length<=H'.length/\H'[J]? = H[J]? /\ H'[B]? = H[B]? /\ (∀ j,j<H.length->¬ O j->H'[j]? = H[j]?) /\
    CK (fun y=>O y\/(H.length<=y/\y<H'.length)) (H'.set J (.arr 4 false (es.set i [.int .i64 v.arm,pv,cv',.int .i64 v.other]))) B nv (ns.set i { v with cases:=v.cases++[x] })):=by
 rcases h with⟨rfl,rfl⟩ | ⟨J,es,h0,h1,h2,rfl,h4,h5,cid,h6,h7,h8⟩
 .simp at hi
 .have hil:=(Ae.1 hi).1;have hJ:=hOl J h2;have hei:es[i]? = some (es[i]'(by omega)):=AW _;obtain⟨pv,cv,k1,k2,k3⟩:=h8 i v _ hi hei;rw[k1]at hei;refine⟨J,es,pv,cv,by rw[EX (kd:=.i64) (hi:=hil),D1],h1,h2,h4,h5,hei,k2,fun oth => ?_,fun hvl x ex => ?_⟩
  .refine .inr ⟨J,_,fun hh=>h0 (by simpa using hh),h1,h2,by simp,ER hJ,by simp[h5],cid,fun a b y z g1 g2 g3 g4 g5 => ?_,fun a y g1 g2 => ?_,fun a y e g1 g2 => ?_⟩
   .have q1:∃ y',ns[a]? = some y'/\y'.cases≠[]:=by
     rcases Fi g1 with⟨rfl,rfl⟩ | ⟨_,g⟩
     .exact⟨v,hi,g3⟩
     .exact⟨y,g,g3⟩
    have q2:∃ y',ns[b]? = some y'/\y'.cases≠[]:=by
     rcases Fi g2 with⟨rfl,rfl⟩ | ⟨_,g⟩
     .exact⟨v,hi,g4⟩
     .exact⟨z,g,g4⟩
    obtain⟨y',a1,a2⟩:=q1;obtain⟨z',b1,b2⟩:=q2;exact h6 a b y' z' a1 b1 a2 b2 g5
   .rcases Fi g1 with⟨rfl,rfl⟩ | ⟨_,g⟩
    .exact h7 _ v hi g2
    .exact h7 _ y g g2
   .rcases Fi g1 with⟨rfl,rfl⟩ | ⟨hne,g⟩
    .rw[ER (by omega)]at g2;cases g2;exact⟨pv,cv,rfl,k2,k3.mono fun hc=>BT (fun e=>(h7 _ v hi hc).2.1 e.symm)⟩
    .rw[BT (fun e=>hne e.symm)]at g2;obtain⟨pv',cv',m1,m2,m3⟩:=h8 a y e g g2;exact⟨pv',cv',m1,m2,m3.mono fun hc=>BT (fun e=>(h7 _ y g hc).2.1 e.symm)⟩
  .obtain⟨c',cv',H',p1,p2,p3,p4,p5⟩:=k3.push hvl x ex;have hkeep:∀ j,j<H.length->(v.cases≠[]->j≠cid i)->H'[j]? = H[j]? := fun j hj hne=>by
    rcases p5 with⟨_,_,_,q⟩ | ⟨q0,_,_,q⟩
    .exact q j hj
    .exact q j (hne q0)
   have hcJ:c'≠J/\c'≠B/\(O c'\/(H.length<=c'/\c'<H'.length)):=by
    rcases p5 with⟨_,rfl,q,_⟩ | ⟨q0,rfl,_,_⟩
    .exact⟨by omega,by omega,.inr ⟨CZ _,q⟩⟩
    .obtain⟨a1,a2,a3⟩:=h7 i v hi q0;exact⟨a2,a1,.inl a3⟩
   have hci:∀ b w,b≠i->ns[b]? = some w->w.cases≠[]->cid b≠c'/\(v.cases≠[]->cid b≠cid i):=fun b w hb hw hc=>by
    have hinj:v.cases≠[]->cid b≠cid i:=fun hv e=>hb (h6 b i w v hw hi hc hv e)
    refine⟨fun e => ?_,hinj⟩;rcases p5 with⟨_,rfl,_,_⟩ | ⟨q0,rfl,_,_⟩
    .have:=hOl _ (h7 b w hw hc).2.2;omega
    .exact hinj q0 e
   refine⟨cv',H',p1,p3,p4,hkeep J hJ fun hc=>fun e=>(h7 i v hi hc).2.1 e.symm,hkeep B hBl fun hc=>fun e=>(h7 i v hi hc).1 e.symm,fun j hj hO=>hkeep j hj fun hc=>fun e=>hO (by rw[e];exact(h7 i v hi hc).2.2),?_⟩;refine .inr ⟨J,_,fun hh=>h0 (by simpa using hh),h1,.inl h2,by simp,ER (by omega),by simp[h5],fun b=>if b=i then c' else cid b,fun a b y z g1 g2 g3 g4 g5 => ?_,fun a y g1 g2 => ?_,fun a y e g1 g2 => ?_⟩
   .rcases Fi g1 with⟨rfl,rfl⟩ | ⟨ha,ga⟩
    .rcases Fi g2 with⟨rfl,rfl⟩ | ⟨hb,gb⟩
     .rfl
     .simp only[if_pos rfl,if_neg hb]at g5;exact absurd g5.symm (hci b z hb gb g4).1
    .rcases Fi g2 with⟨rfl,rfl⟩ | ⟨hb,gb⟩
     .simp only[if_pos rfl,if_neg ha]at g5;exact absurd g5 (hci a y ha ga g3).1
     .simp only[if_neg ha,if_neg hb]at g5;exact h6 a b y z ga gb g3 g4 g5
   .rcases Fi g1 with⟨rfl,rfl⟩ | ⟨ha,ga⟩
    .simp only[if_pos rfl];exact⟨hcJ.2.1,hcJ.1,hcJ.2.2⟩
    .simp only[if_neg ha];obtain⟨a1,a2,a3⟩:=h7 a y ga g2;exact⟨a1,a2,.inl a3⟩
   .rcases Fi g1 with⟨rfl,rfl⟩ | ⟨ha,ga⟩
    .rw[ER (by omega)]at g2;cases g2;simp only[if_pos rfl];exact⟨pv,cv',rfl,k2,p2.mono fun _=>BT (fun e=>hcJ.1 e.symm)⟩
    .rw[BT (fun e=>ha e.symm)]at g2;simp only[if_neg ha];obtain⟨pv',cv2,m1,m2,m3⟩:=h8 a y e ga g2;refine⟨pv',cv2,m1,m2,m3.mono fun hc => ?_⟩;obtain⟨a1,a2,a3⟩:=h7 a y ga hc;rw[BT (fun e=>a2 e.symm)];exact hkeep _ (hOl _ a3) fun hv=>(hci a y ha ga hc).2 hv
def GZ(arms:List TyV)(s:Sh)(q:KV)(path:List Nat):List ((Bytes×Int)×KV)×Option KV:=match atK path (s,q)with
 | some (.cons ns ss,_)=>((List.range ss.length).map fun i=>((ns.getD i [],0),F1 path q (.con i ((ss.getD i []).map noK))),none)
 | some (.bit w,k')=>((La (Fh path s q (DB k') arms)).map fun n=>(([],n),F1 path q (.num n)),
  if((La (Fh path s q (DB k') arms)).length:Int)<Gj w k' then some (F1 path q (.unk (DB k'++La (Fh path s q (DB k') arms))))else none)
 | none=>([],none)
def goF(rec:KV->Nat->Option (List BE)):List ((Bytes×Int)×KV)->Nat->Option (List HQ×List BE)
 | [],_=>some ([],[])
 | (lab,k)::r,b=>match rec k b with
  | none=>none
  | some ns=>match goF rec r (b+ns.length)with
   | none=>none
   | some (cs,ms)=>some (⟨lab.1,lab.2,b⟩::cs,ns++ms)
def N9(rec:KV->Nat->Option (List BE))(path:List Nat)(oth:Option KV)(b:Nat)(cs:List HQ)(ms:List BE):Option (List BE):=match oth with
 | none=>some (⟨-1,BX path,cs,-1⟩::ms)
 | some ko=>match rec ko (b+ms.length)with
  | none=>none
  | some ms2=>some (⟨-1,BX path,cs,(b+ms.length:Nat)⟩::(ms++ms2))
def GN(rec:KV->Nat->Option (List BE))(path:List Nat)(kids:List ((Bytes×Int)×KV)×Option KV)(b:Nat):Option (List BE):=match goF rec kids.1 b with
 | none=>none
 | some (cs,ms)=>N9 rec path kids.2 b cs ms
def BK(arms:List TyV)(s:Sh):Nat->KV->Nat->Option (List BE)
 | 0,_,_=>none
 | n+1,q,b=>if 400<=b then none else match arms.findIdx? (fun p=>CU p s q)with
  | none=>some [⟨-1,[],[],-1⟩]
  | some a=>if Dt (arms.getD a default) s q then some [⟨a,[],[],-1⟩]
   else GN (BK arms s n) ((Ez (arms.getD a default) q).getD []) (GZ arms s q ((Ez (arms.getD a default) q).getD [])) (b+1)
theorem Lb{rec:KV->Nat->Option (List BE)}{kids:List ((Bytes×Int)×KV)}{i b:Nat}(hi:i<kids.length):goF rec (kids.drop i) b=match rec kids[i].2 b with
 | none=>none
 | some ns=>match goF rec (kids.drop (i+1)) (b+ns.length)with
  | none=>none
  | some (cs,ms)=>some (⟨kids[i].1.1,kids[i].1.2,b⟩::cs,ns++ms):=by
 rw[De hi];rfl
theorem UE{rec:KV->Nat->Option (List BE)}(hr:∀ k b ns,rec k b=some ns->b+ns.length<=400):∀{kids:List ((Bytes×Int)×KV)} {b:Nat} {cs:List HQ} {ms:List BE},b<=400->goF rec kids b=some (cs,ms)->b+ms.length<=400
 | [],b,cs,ms,hb,h=>by
  rw[goF]at h;cases h;simpa using hb
 | (lab,k)::r,b,cs,ms,hb,h=>by
  rw[goF]at h;split at h
  .cases h
  .rename_i ns hns;split at h
   .cases h
   .rename_i cs' ms' hgo;cases h;have h1:=hr k b ns hns;have h2:=UE hr h1 hgo;simp only[FZ];omega
theorem Hf(arms:List TyV)(s:Sh):∀ n q b ns,BK arms s n q b=some ns->b+ns.length<=400
 | 0,_,_,_,h=>by cases h
 | n+1,q,b,ns,h=>by
  rw[BK]at h;split at h
  .cases h
  .rename_i hb;split at h
   .cases h;simp;omega
   .split at h
    .cases h;simp;omega
    .unfold GN at h;split at h
     .cases h
     .rename_i cs ms hgo;have h1:=UE (Hf arms s n) (by omega) hgo;unfold N9 at h;split at h
      .cases h;simp;omega
      .split at h
       .cases h
       .rename_i ms2 hm2;cases h;have h2:=Hf arms s n _ _ _ hm2;simp;omega
theorem Kj:∀{ps:List TyV} {qs:List KV} {i:Nat} {path:List Nat},ps.length<=qs.length->Fs ps qs i=some path->∃ j p q r,ps[j]? = some p/\qs[j]? = some q/\Ez p q=some r/\path=(i+j)::r
 | [],_,_,_,_,h=>by rw[Fs]at h;cases h
 | p::ps,[],_,_,hl,_=>by simp at hl
 | p::ps,q::qs,i,path,hl,h=>by
  rw[Fs]at h;split at h
  .rename_i w hw;cases h;exact⟨0,p,q,w,rfl,rfl,hw,rfl⟩
  .obtain⟨j,p',q',r,h1,h2,h3,h4⟩:=Kj (by simpa using hl) h;exact⟨j+1,p',q',r,by simpa using h1,by simpa using h2,h3,by rw[h4];congr 1;omega⟩
theorem eU(p:TyV):∀(s:Sh) (q:KV) (u:AV) (path:List Nat),CY s q u->NdX s->CA s p=0->CU p s q=true->Ez p q=some path->∃ y,atK path (s,q)=some y:=by
 induction p using TyV.ind with
 | h k v nm ps ih=>
  intro s q u path hk hnd hpe hmay ha;rw[Ez]at ha;split at ha
  .split at ha
   .cases ha;exact⟨_,rfl⟩
   .cases ha
  .split at ha
   .rename_i k2;subst k2;split at ha
    .rename_i qs hqs;cases q with
     | unk no=>cases hqs
     | num n=>cases hqs
     | con i qs'=>
      cases hqs;obtain⟨ns,ss,j,rfl,hj,hpl,hpes⟩:=FO hpe;obtain⟨ns',ss',sv,parts,qv,e1,e2,hs,hi,hql,hqv⟩:=hk.dest;cases e1;obtain⟨hm1,hm2⟩:=Im hmay;obtain⟨cv,_,hsl,_⟩:=hs.cons;have hil:=(Ae.1 hi).1;have hij:i=j:=Cy hnd.nodup hj (by omega) hm1;subst hij;have hgp:ss.getD i []=parts:=(by simp[List.getD,hi]);rw[hgp]at hpl hpes hm2;obtain⟨m,p',q',r,h1,h2,h3,rfl⟩:=Kj (by omega) ha;have hmp:=(Ae.1 h1).1;have hmq:=(Ae.1 h2).1;have hms:m<parts.length:=(by omega);have hsm:=AW hms;obtain⟨e,he,w,_,hw⟩:=hqv.ix (i:=m) (by simp;omega);rw[D9]at hw;have hq':qs[m]=q':=(by rw[AW hmq]at h2;exact Option.some.inj h2);obtain⟨y,hy⟩:=ih p' (C2 h1) parts[m] q' w r (hq' ▸ hw) (hnd.part hi (Ap hms)) ((Ea hpl).1 hpes m _ _ hsm h1) (H6 hm2 h1 hsm h2) h3;refine⟨y,?_⟩;rw[D1,atK];simp only[JF,hgp];rw[AW (by simp;omega),D9,hq'];exact hy
    .cases ha;exact⟨_,rfl⟩
   .cases ha
mutual
def Cz:KV->Nat
 | .unk no=>no.length
 | .num _=>0
 | .con _ ps=>L1 ps
def L1:List KV->Nat
 | []=>0
 | k::r=>max (Cz k) (L1 r)
end
theorem I6{k:KV}:∀{l:List KV},k∈l->Cz k<=L1 l
 | q::r,h=>by
  rw[L1];rcases Cd.1 h with rfl | h
  .exact HM _ _
  .exact DD (I6 h) (Hj _ _)
theorem KD{N:Nat}:∀{l:List KV},(∀ k∈l,Cz k<=N)->L1 l<=N
 | [],_=>HN _
 | q::r,h=>by
  rw[L1];exact Nat.max_le.2 ⟨h q (by simp),KD fun k hk=>h k (Mh _ hk)⟩
theorem Ns:∀{path:List Nat} {x y:Sh×KV},atK path x=some y->Cz y.2<=Cz x.2
 | [],x,y,h=>by cases h;exact CZ _
 | i::r,(s,k),y,h=>by
  rw[atK]at h;obtain⟨z,hz,h⟩:=Gd.1 h;refine DD (Ns h) ?_;cases k with
  | unk no=>cases s <;> cases hz
  | num n=>cases s <;> cases hz
  | con c ps=>
   cases s with
   | bit w=>cases hz
   | cons ns ss=>
    simp only[JF]at hz;obtain⟨hi,he⟩:=Ae.1 hz;rw[D9]at he;subst he;have hip:i<ps.length:=(by simp at hi;omega);show Cz (ps[i]'hip)<=Cz (.con c ps);rw[Cz];exact I6 (Ap _)
theorem GH{own:KV}:∀{path:List Nat} {k:KV},Cz (F1 path k own)<=max (Cz k) (Cz own)
 | [],k=>Hj _ _
 | i::r,.unk no=>HM _ _
 | i::r,.num n=>HM _ _
 | i::r,.con c ps=>by
  rw[F1,Cz];refine KD fun k hk => ?_
  rcases S5 hk with hk | rfl
  .rw[Cz];exact DD (I6 hk) (HM _ _)
  .refine DD GH ?_;refine Nat.max_le.2 ⟨?_,Hj _ _⟩;by_cases hi:i<ps.length
   .have:ps.getD i default=ps[i]:=(by simp[List.getD,AW hi]);rw[this,Cz];exact DD (I6 (Ap hi)) (HM _ _)
   .have:ps.getD i default=default:=(by simp[List.getD,P9 (Nat.le_of_not_lt hi)]);rw[this];exact HN _
theorem Nt(s:Sh):Cz (noK s)=0:=by
 induction s using Sh.ind with
 | hb n=>rfl
 | hc ns ss ih=>
  match ss,ih with
  | [],_=>rfl
  | [p],ih=>
   rw[noK,UC,Cz,LZ];refine Lk.1 (KD fun k hk => ?_);obtain⟨x,hx,rfl⟩:=F5.1 hk;rw[ih p (by simp) x hx];exact CZ _
  | _::_::_,_=>rfl
theorem ax{B N J at_:Nat}{u pv part cv asv kidv nv qw cas cas':AV}{nm:Bytes}{X X2 X3:AF}{len i arm oth r:Int}{lgv:AV}{av:AV}{es:List (List AV)}{pvn:AV}
 (hi:decide (i<len)=true) (hix:ixA 2 cv (.int .i64 i)=some (.ro [.str nm,qw])) (hqw:qw.cells=some [qw])
 (hu:u.AA=true) (hpv:pv.AA=true) (hpart:part.AA=true) (hasv:asv.AA=true) (hkid:kidv.AA=true)
 (h129:∀ h,AI MX (AE MX) 129 [part,.int .i64 i] h=some (.ret asv,h)) (h128:∀ h,AI MX (AE MX) 128 [u,pv,asv] h=some (.ret kidv,h))
 (h75:AI MX (AE MX) 75 [.hp B 0,kidv] (X++[.var false [.str nm,qw]])=some (.ret (.int .i64 r),X2))
 (hB:X2[B]? = some (.var false [av,nv,lgv])) (hat:ixA 4 nv (.int .i64 at_)=some (.ep J N 4 at_ 0)) (hJ:X2[J]? = some (.arr 4 false es)) (hN:es.length=N) (hes:es[at_]? = some [.int .i64 arm,pvn,cas,.int .i64 oth])
 (hX:X2[X.length]? = some (.var false [.str nm,qw]))
 (hap:apA 3 32 cas (.sl 3 true [[.str nm,.int .i64 0,.int .i64 r]]) X2=some (cas',X3)) (hcc:cas'.cells=some [cas']) (hJ3:X3[J]? = some (.arr 4 false es)) (hBl:B<X2.length) (hB3:X3[B]? = X2[B]?) (hw:wr .i64 (i+1)=i+1) :
 AO MX 75 176 (AE MX) (AL f75 0) ([(0,.hp B 0),(1,u),(6,pv),(8,.int .i64 at_),(9,part),(77,cv),(78,.int .i64 len),(79,.int .i64 i)],X)=some (.nrm,([(0,.hp B 0),(1,u),(6,pv),(8,.int .i64 at_),(9,part),(77,cv),(78,.int .i64 len),(79,.int .i64 (i+1))],X3.set J (.arr 4 false (es.set at_ [.int .i64 arm,pvn,cas',.int .i64 oth])))):=by
 have hb:=Uk;simp[Aa,An,f75]at hb;have hm:=Cx hBl hB3;simp[f75,hi,hix,hqw,h129,h128,h75,hB,hat,hJ,hN,hes,hX,hap,hcc,hJ3,hw,hb,AG,AV.AA,hu,hpv,hpart,hasv,hkid,bsA,Aq,BR,FJ,hm]
theorem ay{B N J L G at_:Nat}{u pv part lw isv kidv nv cas cas':AV}{lk:Bool}{X X2 X3:AF}{len i arm oth r n:Int}{k:Nat}{lgv:AV}{av:AV}{es ls:List (List AV)}{pvn:AV}
 (hi:decide (i<len)=true) (hix:ixA 1 lw (.int .i64 i)=some (.ep L G 1 k 0)) (hL:X[L]? = some (.arr 1 lk ls)) (hG:ls.length=G) (hls:ls[k]? = some [.int .i64 n])
 (hu:u.AA=true) (hpv:pv.AA=true) (hpart:part.AA=true) (hisv:isv.AA=true) (hkid:kidv.AA=true)
 (h131:∀ h,AI MX (AE MX) 131 [part,.int .i64 n] h=some (.ret isv,h)) (h128:∀ h,AI MX (AE MX) 128 [u,pv,isv] h=some (.ret kidv,h))
 (h75:AI MX (AE MX) 75 [.hp B 0,kidv] X=some (.ret (.int .i64 r),X2))
 (hB:X2[B]? = some (.var false [av,nv,lgv])) (hat:ixA 4 nv (.int .i64 at_)=some (.ep J N 4 at_ 0)) (hJ:X2[J]? = some (.arr 4 false es)) (hN:es.length=N) (hes:es[at_]? = some [.int .i64 arm,pvn,cas,.int .i64 oth])
 (hap:apA 3 32 cas (.sl 3 true [[.str [],.int .i64 n,.int .i64 r]]) X2=some (cas',X3)) (hcc:cas'.cells=some [cas']) (hJ3:X3[J]? = some (.arr 4 false es)) (hBl:B<X2.length) (hB3:X3[B]? = X2[B]?) (hw:wr .i64 (i+1)=i+1) :
 AO MX 75 176 (AE MX) (AL f75 1) ([(0,.hp B 0),(1,u),(6,pv),(8,.int .i64 at_),(9,part),(13,lw),(119,lw),(120,.int .i64 len),(121,.int .i64 i)],X)=some (.nrm,([(0,.hp B 0),(1,u),(6,pv),(8,.int .i64 at_),(9,part),(13,lw),(119,lw),(120,.int .i64 len),(121,.int .i64 (i+1))],X3.set J (.arr 4 false (es.set at_ [.int .i64 arm,pvn,cas',.int .i64 oth])))):=by
 have hb:=Ul;simp[Aa,An,f75]at hb;have hm:=Cx hBl hB3;simp[f75,hi,hix,hL,hG,hls,h131,h128,h75,hB,hat,hJ,hN,hes,hap,hcc,hJ3,hw,hb,AG,AV.AA,hu,hpv,hpart,hisv,hkid,bsA,Aq,BR,FJ,hm]
def Frame(O:Nat->Prop)(H:AF)(O':Nat->Prop)(H':AF):Prop:=H.length<=H'.length/\(∀ x,O x->O' x)/\(∀ x,O' x->O x\/H.length<=x)/\∀ x,x<H.length->¬ O x->H'[x]? = H[x]?
theorem Frame.refl(O:Nat->Prop)(H:AF):Frame O H O H:=⟨CZ _,fun _ h=>h,fun _ h=> .inl h,fun _ _ _=>rfl⟩
theorem Frame.trans{O O1 O2:Nat->Prop}{H H1 H2:AF}(h:Frame O H O1 H1)(k:Frame O1 H1 O2 H2):Frame O H O2 H2:=by
 obtain⟨a1,a2,a3,a4⟩:=h;obtain⟨b1,b2,b3,b4⟩:=k;refine⟨DD a1 b1,fun x hx=>b2 x (a2 x hx),fun x hx => ?_,fun x hx hn => ?_⟩
 .rcases b3 x hx with h | h
  .exact a3 x h
  .exact .inr (DD a1 h)
 .rw[b4 x (by omega) (fun h=>by
   rcases a3 x h with h | h
   .exact hn h
   .omega)]
  exact a4 x hx hn
theorem Frame.app(O:Nat->Prop)(H:AF)(l:AF):Frame O H O (H++l):=⟨by simp,fun _ h=>h,fun _ h=> .inl h,fun _ hx _=>BA hx⟩
theorem Ft.app{O:Nat->Prop}{H:AF}{B:Nat}{av:AV}{lg:Bool}{ns:List BE}(h:Ft O H B av lg ns)(l:AF):Ft O (H++l) B av lg ns:=by
 obtain⟨h1,h2,nv,h3,h4⟩:=h;refine⟨h1,fun x hx=>by have:=h2 x hx;simp;omega,nv,by rw[BA (h2 B h1)];exact h3,h4.mono (fun _ h=>h) fun x hx _=>BA (h2 x hx)⟩
theorem Ft.keep{O:Nat->Prop}{H H':AF}{B:Nat}{av:AV}{lg:Bool}{ns:List BE}(h:Ft O H B av lg ns)(hl:H.length<=H'.length)(hk:∀ x,O x->H'[x]? = H[x]?):Ft O H' B av lg ns:=by
 obtain⟨h1,h2,nv,h3,h4⟩:=h;exact⟨h1,fun x hx=>by have:=h2 x hx;omega,nv,by rw[hk B h1];exact h3,h4.mono (fun _ h=>h) fun x hx _=>hk x hx⟩
theorem Ft.case{O:Nat->Prop}{H:AF}{B:Nat}{av:AV}{lg:Bool}{ns:List BE}(h:Ft O H B av lg ns){i:Nat}{v:BE}(hi:ns[i]? = some v)(hvl:v.cases.length<1048577)(x:HQ) :
 ∃ nv J es pvn cas cas' H3,H[B]? = some (.var false [av,nv,.bool lg])/\ixA 4 nv (.int .i64 i)=some (.ep J ns.length 4 i 0)/\H[J]? = some (.arr 4 false es)/\es.length=ns.length/\es[i]? = some [.int .i64 v.arm,pvn,cas,.int .i64 v.other] /\
  apA 3 32 cas (.sl 3 true [[.str x.nm,.int .i64 x.num,.int .i64 x.nx]]) H=some (cas',H3)/\cas'.cells=some [cas']/\H3[J]? = some (.arr 4 false es)/\B<H.length/\H3[B]? = H[B]? /\
  ∃ O',Ft O' (H3.set J (.arr 4 false (es.set i [.int .i64 v.arm,pvn,cas',.int .i64 v.other]))) B av lg (ns.set i { v with cases:=v.cases++[x] })/\Frame O H O' (H3.set J (.arr 4 false (es.set i [.int .i64 v.arm,pvn,cas',.int .i64 v.other]))):=by
 obtain⟨h1,h2,nv,h3,h4⟩:=h;obtain⟨J,es,pvn,cas,g1,g2,g3,g4,g5,g6,g7,g8,g9⟩:=h4.get h2 (h2 B h1) hi;obtain⟨cas',H3,k1,k2,k3,k4,k5,k6,k7⟩:=g9 hvl x true;refine⟨nv,J,es,pvn,cas,cas',H3,h3,g1,g4,g5,g6,k1,k2,by rw[k4];exact g4,h2 B h1,k5,_,⟨.inl h1,fun y hy => ?_,nv,?_,k7⟩,by rw[Fy];exact k3,fun y hy=> .inl hy,fun y hy => ?_,fun y hy hn => ?_⟩
 .rw[Fy];rcases hy with hy | hy
  .have:=h2 y hy;omega
  .exact hy.2
 .rw[BT g2,k5];exact h3
 .rcases hy with hy | hy
  .exact .inl hy
  .exact .inr hy.1
 .rw[BT (fun e=>hn (by rw[<- e];exact g3))];exact k6 y hy hn
theorem Ft.oth{O:Nat->Prop}{H:AF}{B:Nat}{av:AV}{lg:Bool}{ns:List BE}(h:Ft O H B av lg ns){i:Nat}{v:BE}(hi:ns[i]? = some v)(o:Int) :
 ∃ nv J es pvn cas,H[B]? = some (.var false [av,nv,.bool lg])/\ixA 4 nv (.int .i64 i)=some (.ep J ns.length 4 i 0)/\H[J]? = some (.arr 4 false es)/\es.length=ns.length/\es[i]? = some [.int .i64 v.arm,pvn,cas,.int .i64 v.other] /\
  Ft O (H.set J (.arr 4 false (es.set i [.int .i64 v.arm,pvn,cas,.int .i64 o]))) B av lg (ns.set i { v with other:=o })/\Frame O H O (H.set J (.arr 4 false (es.set i [.int .i64 v.arm,pvn,cas,.int .i64 o]))):=by
 obtain⟨h1,h2,nv,h3,h4⟩:=h;obtain⟨J,es,pvn,cas,g1,g2,g3,g4,g5,g6,g7,g8,g9⟩:=h4.get h2 (h2 B h1) hi;refine⟨nv,J,es,pvn,cas,h3,g1,g4,g5,g6,⟨h1,fun y hy => ?_,nv,?_,g8 o⟩,by rw[Fy];exact CZ _,fun y hy=>hy,fun y hy=> .inl hy,fun y hy hn => ?_⟩
 .rw[Fy];exact h2 y hy
 .rw[BT g2];exact h3
 .rw[BT (fun e=>hn (by rw[<- e];exact g3))]
def Md(arms:List TyV)(s:Sh)(B:Nat)(av:AV)(n:Nat):Prop:=
 ∀(q:KV) (u:AV) (O:Nat->Prop) (H:AF) (lg:Bool) (ns:List BE),CY s q u->Cz q+20 * n<=100000->Ft O H B av lg ns->(lg=false->ns.length<=400/\401<=n+ns.length) ->
  ∃ r O' H' lg' new,AI MX (AE MX) 75 [.hp B 0,u] H=some (.ret (.int .i64 r),H')/\Ft O' H' B av lg' (ns++new)/\Frame O H O' H'/\(lg=true->lg'=true)/\(lg=false->r=ns.length/\(lg'=false->BK arms s n q ns.length=some new)/\(lg'=true->BK arms s n q ns.length=none))
def JG(rec:KV->Nat->Option (List BE))(kids:List ((Bytes×Int)×KV))(ns:List BE)(path:List Nat)(bad:Prop)(O0:Nat->Prop)(H0:AF)(B:Nat)(av:AV)(i:Nat)(X:AF):Prop:=
 ∃ O lg cs ms,Ft O X B av lg (ns++⟨-1,BX path,cs,-1⟩::ms)/\Frame O0 H0 O X/\cs.length=i/\(lg=false->ns.length+1+ms.length<=400/\goF rec kids (ns.length+1)=(goF rec (kids.drop i) (ns.length+1+ms.length)).map fun x=>(cs++x.1,ms++x.2))/\(lg=true->bad)
theorem Sx{ns ms:List BE}{v:BE}:(ns++v::ms)[ns.length]? = some v:=by simp
theorem Sy{ns ms:List BE}{v w:BE}:(ns++v::ms).set ns.length w=ns++w::ms:=by simp
theorem JG.kid{arms:List TyV}{s:Sh}{B n:Nat}{av:AV}(hC:Md arms s B av n){kids:List ((Bytes×Int)×KV)}{ns:List BE}{path:List Nat}{bad:Prop}{O0:Nat->Prop}{H0:AF}{i:Nat}{X:AF}(h:JG (BK arms s n) kids ns path bad O0 H0 B av i X)(hi:i<kids.length)(hkl:kids.length<1048577)
 (hbad:goF (BK arms s n) kids (ns.length+1)=none->bad) {u:AV} (hu:CY s kids[i].2 u) (hno:Cz kids[i].2+20 * n<=100000) (hn:401<=n+1+ns.length) (l:AF) :
 ∃ r X2 lg nv J es pvn cas cas' X3,AI MX (AE MX) 75 [.hp B 0,u] (X++l)=some (.ret (.int .i64 r),X2)/\(∀ j,X.length<=j->j<(X++l).length->X2[j]? = (X++l)[j]?)/\X2[B]? = some (.var false [av,nv,.bool lg])/\(∃ N,ixA 4 nv (.int .i64 ns.length)=some (.ep J N 4 ns.length 0)/\es.length=N)/\X2[J]? = some (.arr 4 false es)/\es[ns.length]? = some [.int .i64 (-1),pvn,cas,.int .i64 (-1)] /\
  apA 3 32 cas (.sl 3 true [[.str kids[i].1.1,.int .i64 kids[i].1.2,.int .i64 r]]) X2=some (cas',X3)/\cas'.cells=some [cas']/\X3[J]? = some (.arr 4 false es)/\B<X2.length/\X3[B]? = X2[B]? /\
  JG (BK arms s n) kids ns path bad O0 H0 B av (i+1) (X3.set J (.arr 4 false (es.set ns.length [.int .i64 (-1),pvn,cas',.int .i64 (-1)]))):=by
 obtain⟨O,lg,cs,ms,hb,hf,hcl,hgo,hbd⟩:=h;have hb1:=hb.app l;have hlen:(ns++⟨-1,BX path,cs,-1⟩::ms:List BE).length=ns.length+1+ms.length:=by simp;omega
 obtain⟨r,O2,X2,lg2,new,hcall,hb2,hf2,hlt,hlf⟩:=hC kids[i].2 u O (X++l) lg _ hu hno hb1 (fun h=>by
  have:=(hgo h).1;rw[hlen];omega)
 rw[EM,Fk]at hb2;obtain⟨nv,J,es,pvn,cas,cas',X3,k1,k2,k3,k4,k5,k6,k7,k8,k9,k10,O4,k11,k12⟩:=hb2.case Sx (by simp;omega) ⟨kids[i].1.1,kids[i].1.2,r⟩;rw[Sy]at k11;refine⟨r,X2,lg2,nv,J,es,pvn,cas,cas',X3,hcall,fun j h1 h2=>hf2.2.2.2 j h2 (fun hO=>by
  have:=hb.2.1 j hO;omega),k1,⟨_,k2,k4⟩,k3,k5,k6,k7,k8,k9,k10,O4,lg2,cs++[⟨kids[i].1.1,kids[i].1.2,r⟩],ms++new,k11,((hf.trans (Frame.app O X l)).trans hf2).trans k12,by simp[hcl],fun h2 => ?_,fun h2 => ?_⟩
 .have hl0:lg=false:=by
   cases lg with
   | false=>rfl
   | true=>rw[hlt rfl]at h2;cases h2
  obtain⟨a1,a2⟩:=hgo hl0;obtain⟨b1,b2,_⟩:=hlf hl0;have b2:=b2 h2;rw[hlen]at b1 b2;have:=Hf arms s n _ _ _ b2;refine⟨by simp;omega,?_⟩;rw[a2,Lb hi,b2];simp only;have e1:ns.length+1+(ms++new).length=ns.length+1+ms.length+new.length:=by simp;omega
  rw[e1,b1];cases goF (BK arms s n) (kids.drop (i+1)) (ns.length+1+ms.length+new.length)with
  | none=>rfl
  | some x=>simp
 .cases lg with
  | true=>exact hbd rfl
  | false=>
   obtain⟨a1,a2⟩:=hgo rfl;obtain⟨b1,_,b3⟩:=hlf rfl;have b3:=b3 h2;rw[hlen]at b3;refine hbad ?_;rw[a2,Lb hi,b3];rfl
def Lc(nms:List Bytes)(ss:List (List Sh))(path:List Nat)(q:KV)(i:Nat):(Bytes×Int)×KV:=((nms.getD i [],0),F1 path q (.con i ((ss.getD i []).map noK)))
def Kk(path:List Nat)(q:KV)(n:Int):(Bytes×Int)×KV:=(([],n),F1 path q (.num n))
theorem as_of{nms:List Bytes}{ss:List (List Sh)}{sv:AV}(hs:SrX (.cons nms ss) sv){i:Nat}{parts:List Sh}(hi:ss[i]? = some parts)(a b c d:AV):∃ kv,CY (.cons nms ss) (.con i (parts.map noK)) kv/\∀ h,AI MX (AE MX) 129 [.ro [sv,a,b,c,d],.int .i64 i] h=some (.ret kv,h):=by
 obtain⟨m,hm⟩:=hs;cases m with
 | zero=>exact hm.elim
 | succ m=>exact c129 hm hi (fun s _ u hu=>c76 m s u hu) a b c d
theorem az{ns:List Bytes}{ss:List (List Sh)}{cv:AV}(hcv:SlR ConX 2 (ns.zip ss) cv)(hl:ss.length=ns.length){i:Nat}(hi:i<ns.length):∃ qv,(∀ kd,ixA 2 cv (.int kd i)=some (.ro [.str (ns.getD i []),qv]))/\qv.cells=some [qv]:=by
 obtain⟨e,he,pv,hR,hp⟩:=hcv.ix (i:=i) (by simp;omega);rw[D9]at hR;have:ns.getD i []=ns[i]:=by simp[List.getD,AW hi]
 rw[this];exact⟨pv,by rw[<- hR];exact he,hp.cells⟩
theorem O5(i:Nat)(l:List Sh):Cz (.con i (l.map noK))=0:=by
 rw[Cz];refine Lk.1 (KD fun k hk => ?_);obtain⟨x,_,rfl⟩:=F5.1 hk;rw[Nt];exact CZ _
theorem a8{arms:List TyV}{s:Sh}{B n:Nat}{av:AV}(hC:Md arms s B av n){q:KV}{u pv sv:AV}(hk:CY s q u){path:List Nat}(hp:SlR Az 1 (BX path) pv)(hpl:path.length<1048577){nms:List Bytes}{ss:List (List Sh)}{k':KV}(hy:atK path (s,q)=some (.cons nms ss,k'))(hs:SrX (.cons nms ss) sv){a b c d cv:AV}(hsv:sv=.ro [.int .i64 0,cv])
 {ns:List BE} {bad:Prop} {O0:Nat->Prop} {H0:AF} (hno:Cz q+20 * (n+1)<=100000) (hn:401<=n+1+ns.length)
 (hbad:goF (BK arms s n) ((List.range ss.length).map (Lc nms ss path q)) (ns.length+1)=none->bad) {X:AF} (h0:JG (BK arms s n) ((List.range ss.length).map (Lc nms ss path q)) ns path bad O0 H0 B av 0 X) :
 ∃ X',EV MX 75 176 (AE MX) (AL f75 0) ([(0,.hp B 0),(1,u),(6,pv),(8,.int .i64 ns.length),(9,.ro [sv,a,b,c,d]),(77,cv),(78,.int .i64 ss.length),(79,.int .i64 (0:Nat))],X)=some (.ext 0,([(0,.hp B 0),(1,u),(6,pv),(8,.int .i64 ns.length),(9,.ro [sv,a,b,c,d]),(77,cv),(78,.int .i64 ss.length),(79,.int .i64 ss.length),(80,.bool false)],X')) /\
  JG (BK arms s n) ((List.range ss.length).map (Lc nms ss path q)) ns path bad O0 H0 B av ss.length X':=by
 obtain⟨cv',e1,hsl,⟨_,hnl⟩,_,hcv⟩:=hs.cons;rw[hsv]at e1;cases e1;obtain⟨kids,hkids⟩:∃ kids,kids=(List.range ss.length).map (Lc nms ss path q):=⟨_,rfl⟩;rw[<- hkids]at hbad h0 ⊢;have hkl:kids.length=ss.length:=by rw[hkids];simp
 obtain⟨e,st,hlp,hq⟩:=AU (M:=MX) (fid:=75) (N:=176) (C:=AE MX) (c:=AL f75 0) (n:=ss.length)
  (fun i (X:AF)=>([(0,.hp B 0),(1,u),(6,pv),(8,.int .i64 ns.length),(9,.ro [sv,a,b,c,d]),(77,cv),(78,.int .i64 ss.length),(79,.int .i64 i)],X))
  (fun i X=>JG (BK arms s n) kids ns path bad O0 H0 B av i X)
  (fun r=>∃ X',r=(.ext 0,([(0,.hp B 0),(1,u),(6,pv),(8,.int .i64 ns.length),(9,.ro [sv,a,b,c,d]),(77,cv),(78,.int .i64 ss.length),(79,.int .i64 ss.length),(80,.bool false)],X'))/\JG (BK arms s n) kids ns path bad O0 H0 B av ss.length X') (fun i X hi hI=>by
    have hik:i<kids.length:=(by omega);have hki:kids[i]=Lc nms ss path q i:=(by simp[hkids]);have hgp:ss[i]? = some (ss.getD i []):=(by simp[List.getD,AW hi]);obtain⟨asv,has,h129⟩:=as_of hs hgp a b c d;obtain⟨kv,hkv,h128⟩:=c128 (y:=(.cons nms ss,k')) has path (s,q) u pv hk hp hpl hy;obtain⟨qw,hix,hqw⟩:=az hcv hsl (i:=i) (by omega);have hnm:=GH (own:=.con i ((ss.getD i []).map noK)) (path:=path) (k:=q);rw[O5]at hnm;obtain⟨r,X2,lg,nv,J,es,pvn,cas,cas',X3,g1,g2,g3,⟨N,g4,g5⟩,g6,g7,g8,g9,g10,g11,g12,g13⟩:=hI.kid hC hik (by omega) hbad (u:=kv) (by rw[hki];exact hkv) (by rw[hki];show Cz (F1 path q _)+_<=_;omega) hn [.var false [.str (nms.getD i []),qw]];rw[hki]at g8;have hX:=g2 X.length (CZ _) (by simp);rw[BR]at hX;have hw:=AY hi (by omega);refine .inl ⟨_,ax (by simpa using hi) (hix .i64) hqw hk.AA hp.AA rfl has.AA hkv.AA h129 h128 g1 g3 g4 g6 g5 g7 hX g8 g9 g10 g11 g12 hw,g13⟩) (fun X hI=>by
    exact⟨_,_,by simp[f75] <;> first | exact⟨rfl,rfl⟩ | rfl,by simp,X,rfl,hI⟩) X h0
 obtain⟨X',hq,hI⟩:=hq;cases hq;exact⟨X',hlp,hI⟩
theorem YO(l:List Int):(KT l).Pairwise (· <= ·):=by
 have:=List.pairwise_mergeSort (le:=fun x y:Int=>decide (x<=y)) (fun a b c h k=>by
  simp only[decide_eq_true_eq]at *;omega) (fun a b=>by
  rw[L3,decide_eq_true_eq,decide_eq_true_eq];omega) l
 exact this.imp fun h=>by simpa using h
theorem HZ(s:List Int){j:Nat}(hj:j<s.length):s.toArray[j]! = s[j]:=by simp[getElem!_pos,hj]
theorem eV{s:List Int}(hs:s.Pairwise (· <= ·)):(Lib.compact s).Pairwise (· < ·):=by
 unfold Lib.compact Lib.compactUpTo;rw[List.pairwise_map];have hr:((List.range s.length).filter (Lib.keeps s.toArray)).Pairwise (· < ·):=List.Pairwise.filter _ List.pairwise_lt_range;refine hr.imp_of_mem fun{i j} hi hj hij => ?_
 obtain⟨hi1,_⟩:=JI.1 hi;obtain⟨hj1,hj2⟩:=JI.1 hj;have hi1:=JJ.1 hi1;have hj1:=JJ.1 hj1;rw[HZ s hi1,HZ s hj1];simp only[Lib.keeps,decide_eq_true_eq]at hj2;rcases hj2 with h | h
 .omega
 .rw[HZ s hj1,HZ s (show j - 1<s.length by omega)]at h;rw[Mf]at hs;have h1:=hs (j - 1) j (by omega) hj1 (by omega);by_cases h2:i=j - 1
  .subst h2;omega
  .have h3:=hs i (j - 1) hi1 (by omega) (by omega);omega
theorem bA(s:List Int)(x:Int):x∈Lib.compact s↔x∈s:=by
 unfold Lib.compact Lib.compactUpTo;rw[F5];constructor
 .rintro⟨j,hj,rfl⟩;have hj:=JJ.1 (JI.1 hj).1;rw[HZ s hj];exact Ap hj
 .intro hx;obtain⟨j,hj,rfl⟩:=I9 hx;clear hx;have key:∀ m j (hj:j<s.length),j<=m->∃ a,a∈List.filter (Lib.keeps s.toArray) (List.range s.length)/\s.toArray[a]! = s[j]:=by
   intro m;induction m with
   | zero=>
    intro j hj hm;have:j=0:=(by omega);subst this;exact⟨0,JI.2 ⟨JJ.2 hj,by simp[Lib.keeps]⟩,HZ s hj⟩
   | succ m ih=>
    intro j hj hm;cases hk:Lib.keeps s.toArray j with
    | true=>exact⟨j,JI.2 ⟨JJ.2 hj,hk⟩,HZ s hj⟩
    | false=>
     simp only[Lib.keeps,decide_eq_false_iff_not,not_or,Decidable.not_not]at hk;obtain⟨h0,h1⟩:=hk;rw[HZ s hj,HZ s (show j - 1<s.length by omega)]at h1;obtain⟨a,ha,hb⟩:=ih (j - 1) (by omega) (by omega);exact⟨a,ha,by rw[hb];exact h1.symm⟩
  exact key j j hj (CZ _)
theorem bB(l:List Int):(La l).Pairwise (· < ·):=eV (YO l)
theorem Ld(l:List Int)(x:Int):x∈La l↔x∈l:=by
 unfold La;rw[bA];exact(List.mergeSort_perm l _).mem_iff
theorem YP:∀{a b:List Int},a.Pairwise (· < ·)->b.Pairwise (· < ·)->(∀ x,x∈a↔x∈b)->a=b
 | [],[],_,_,_=>rfl
 | [],y::b,_,_,h=>absurd ((h y).2 (by simp)) (by simp)
 | x::a,[],_,_,h=>absurd ((h x).1 (by simp)) (by simp)
 | x::a,y::b,ha,hb,h=>by
  obtain⟨a1,a2⟩:=List.pairwise_cons.1 ha;obtain⟨b1,b2⟩:=List.pairwise_cons.1 hb;have hxy:x=y:=by
   have h1:=(h x).1 (by simp);have h2:=(h y).2 (by simp);rcases Cd.1 h1 with h1 | h1
   .exact h1
   .rcases Cd.1 h2 with h2 | h2
    .exact h2.symm
    .have:=a1 y h2;have:=b1 x h1;omega
  subst hxy;rw[YP a2 b2 fun z => ?_];have hz:=h z;simp only[Cd]at hz;constructor
  .intro hm;rcases hz.1 (.inr hm)with e | e
   .have:=a1 z hm;omega
   .exact e
  .intro hm;rcases hz.2 (.inr hm)with e | e
   .have:=b1 z hm;omega
   .exact e
theorem eW(p:TyV):∀(s:Sh) (q:KV) (u:AV) (path:List Nat) (w:Int) (k':KV),CY s q u->NdX s->CA s p=0->CU p s q=true->atK path (s,q)=some (.bit w,k')->(nAt path p).2=true->0<=(nAt path p).1/\(nAt path p).1<=((2 ^ w.toNat:Nat):Int) - 1:=by
 induction p using TyV.ind with
 | h k v nm ps ih=>
  intro s q u path w k' hk hnd hpe hmay hat hn;cases path with
  | nil=>
   cases hat;rw[nAt]at hn ⊢;have k3:k=3:=(by simpa[TyV.k]using hn);subst k3;show 0<=v/\v<=((2 ^ w.toNat:Nat):Int) - 1;simp only[CA]at hpe;by_cases hv:0<=v/\v<=((2 ^ w.toNat:Nat):Int) - 1
   .exact hv
   .exfalso;rw[if_neg hv]at hpe;simp at hpe;split at hpe <;> simp at hpe
  | cons i r=>
   rw[nAt]at hn ⊢;by_cases hc:(TyV.mk k v nm ps).k=2/\i<(TyV.mk k v nm ps).ps.length
   .rw[if_pos hc]at hn ⊢;have k2:k=2:=hc.1;have hi:i<ps.length:=hc.2;clear hc;subst k2;rw[atK]at hat;obtain⟨z,hz,hat⟩:=Gd.1 hat;cases q with
    | unk no=>cases s <;> cases hz
    | num n=>cases s <;> cases hz
    | con c qs=>
     obtain⟨ns,ss,j,rfl,hj,hpl,hpes⟩:=FO hpe;obtain⟨ns',ss',sv,parts,qv,e1,e2,hs,hci,hql,hqv⟩:=hk.dest;cases e1;obtain⟨hm1,hm2⟩:=Im hmay;obtain⟨cv,_,hsl,_⟩:=hs.cons;have hil:=(Ae.1 hci).1;have hij:c=j:=Cy hnd.nodup hj (by omega) hm1;subst hij;have hgp:ss.getD c []=parts:=(by simp[List.getD,hci]);rw[hgp]at hpl hpes hm2;simp only[JF,hgp]at hz;have hms:i<parts.length:=(by omega);have hmq:i<qs.length:=(by omega);rw[AW (by simp;omega),D9]at hz;cases hz;obtain⟨e,he,w',_,hw⟩:=hqv.ix (i:=i) (by simp;omega);rw[D9]at hw;have hgd:(TyV.mk 2 v nm ps).ps.getD i default=ps[i]:=by
      show ps.getD i default=ps[i];simp[List.getD,AW hi]
     rw[hgd]at hn ⊢;have gp:=AW hi;have gs:=AW hms;have gq:=AW hmq;exact ih ps[i] (Ap hi) parts[i] qs[i] w' r w k' hw (hnd.part hci (Ap hms)) ((Ea hpl).1 hpes i _ _ gs gp) (H6 hm2 gp gs gq) hat hn
   .rw[if_neg hc]at hn;cases hn
theorem bC{arms:List TyV}{s:Sh}{q:KV}{u:AV}{path:List Nat}{w:Int}{k':KV}(hk:CY s q u)(hnd:NdX s)(hpe:∀ p∈arms,CA s p=0)(hat:atK path (s,q)=some (.bit w,k')):∀ n∈La (Fh path s q (DB k') arms),0<=n/\n<=((2 ^ w.toNat:Nat):Int) - 1:=fun n hn=>by
 rw[Ld,Fh,PL]at hn;obtain⟨p,hp,hc⟩:=hn;unfold HI at hc;split at hc
 .rename_i h;simp only[BU]at h;cases hc;exact eW p s q u path w k' hk hnd (hpe p hp) h.2.1 hat h.1
 .cases hc
theorem bD{arms:List TyV}{s:Sh}{B n:Nat}{av:AV}(hC:Md arms s B av n){q:KV}{u pv:AV}(hk:CY s q u){path:List Nat}(hp:SlR Az 1 (BX path) pv)(hpl:path.length<1048577){w:Int}{k':KV}(hy:atK path (s,q)=some (.bit w,k')){part:AV}(hpart:CY (.bit w) k' part)
 {ns:List BE} {bad:Prop} {O0:Nat->Prop} {H0:AF} {l:List Int} (hl0:∀ x∈l,0<=x) (hll:l.length<1048577) {base:Nat} {lw:AV} (hnums:L0 base H0 lw l) (hO0:∀ x,O0 x->x<base) (hno:Cz q+20 * (n+1)<=100000) (hn:401<=n+1+ns.length)
 (hbad:goF (BK arms s n) (l.map (Kk path q)) (ns.length+1)=none->bad) {X:AF} (h0:JG (BK arms s n) (l.map (Kk path q)) ns path bad O0 H0 B av 0 X) :
 ∃ X',EV MX 75 176 (AE MX) (AL f75 1) ([(0,.hp B 0),(1,u),(6,pv),(8,.int .i64 ns.length),(9,part),(13,lw),(119,lw),(120,.int .i64 l.length),(121,.int .i64 (0:Nat))],X)=some (.ext 2,([(0,.hp B 0),(1,u),(6,pv),(8,.int .i64 ns.length),(9,part),(13,lw),(119,lw),(120,.int .i64 l.length),(121,.int .i64 l.length),(122,.bool false)],X')) /\
  JG (BK arms s n) (l.map (Kk path q)) ns path bad O0 H0 B av l.length X':=by
 obtain⟨kids,hkids⟩:∃ kids,kids=l.map (Kk path q):=⟨_,rfl⟩;rw[<- hkids]at hbad h0 ⊢;have hkl:kids.length=l.length:=by rw[hkids];simp
 obtain⟨e,st,hlp,hq⟩:=AU (M:=MX) (fid:=75) (N:=176) (C:=AE MX) (c:=AL f75 1) (n:=l.length)
  (fun i (X:AF)=>([(0,.hp B 0),(1,u),(6,pv),(8,.int .i64 ns.length),(9,part),(13,lw),(119,lw),(120,.int .i64 l.length),(121,.int .i64 i)],X))
  (fun i X=>JG (BK arms s n) kids ns path bad O0 H0 B av i X)
  (fun r=>∃ X',r=(.ext 2,([(0,.hp B 0),(1,u),(6,pv),(8,.int .i64 ns.length),(9,part),(13,lw),(119,lw),(120,.int .i64 l.length),(121,.int .i64 l.length),(122,.bool false)],X'))/\JG (BK arms s n) kids ns path bad O0 H0 B av l.length X') (fun i X hi hI=>by
    have hik:i<kids.length:=(by omega);have hki:kids[i]=Kk path q l[i]:=(by simp[hkids]);rcases hnums with⟨h1,_⟩ | ⟨L,G,lk,ms,h1,h2,h3,h4,h5,h6⟩
    .rw[h1]at hi;simp at hi
    .obtain⟨isv,his,h131⟩:=c131 hpart (hl0 _ (Ap hi));obtain⟨kv,hkv,h128⟩:=c128 (y:=(.bit w,k')) his path (s,q) u pv hk hp hpl hy;have hnm:=GH (own:=.num l[i]) (path:=path) (k:=q);have hnm0:Cz (.num l[i])=0:=rfl;rw[hnm0]at hnm;have hI0:=hI;obtain⟨r,X2,lg,nv,J,es,pvn,cas,cas',X3,g1,g2,g3,⟨N,g4,g5⟩,g6,g7,g8,g9,g10,g11,g12,g13⟩:=hI.kid hC hik (by omega) hbad (u:=kv) (by rw[hki];exact hkv) (by rw[hki];show Cz (F1 path q _)+_<=_;omega) hn [];rw[IX]at g1;rw[hki]at g8;obtain⟨O,lg0,cs,mm,_,hf,_⟩:=hI0;have hLl:L<H0.length:=(Ae.1 h3).1;have hL:X[L]? = some (.arr 1 lk (A6 ms)):=by
      rw[hf.2.2.2 L hLl (fun hO=>by have:=hO0 L hO;omega)];exact h3
     have him:i<ms.length:=(by omega);have hmi:ms[i]=l[i]:=by
      have:(ms.take l.length)[i]? = l[i]? := by rw[h6]
      rw[Kp hi,AW him,AW hi]at this;exact Option.some.inj this
     have hls:(A6 ms)[i]? = some [.int .i64 l[i]]:=by
      rw[A6,Fx,AW him,hmi];rfl
     have hix:ixA 1 lw (.int .i64 i)=some (.ep L G 1 i 0):=(by rw[h2,EX (kd:=.i64) (hi:=hi),D1]);have hw:=AY hi hll;refine .inl ⟨_,ay (by simpa using hi) hix hL (by rw[Bh];exact h4) hls hk.AA hp.AA hpart.AA his.AA hkv.AA h131 h128 g1 g3 g4 g6 g5 g7 g8 g9 g10 g11 g12 hw,g13⟩) (fun X hI=>by
    exact⟨_,_,by simp[f75] <;> first | exact⟨rfl,rfl⟩ | rfl,by simp,X,rfl,hI⟩) X h0
 obtain⟨X',hq,hI⟩:=hq;cases hq;exact⟨X',hlp,hI⟩
noncomputable def DY:Code:=f75.body.getD .skip
noncomputable def EP(n:Nat):Code:=sub DY (List.replicate n 1++[0])
theorem KE:DY=.seq (EP 0) (.seq (EP 1) (.seq (EP 2) (.seq (EP 3) (.seq (EP 4) (.seq (EP 5) (.seq (EP 6) (.seq (EP 7) (.seq (EP 8) (.seq (EP 9) (.seq (EP 10) (sub DY (List.replicate 11 1)))))))))))):=rfl
theorem O7{a b v:AV}{H H':AF}(h:AO MX 75 176 (AE MX) DY (Tm.init 0 [a,b],H)=some (.ret,([(4,v)],H'))):AJ MX 75 [a,b] H=some (.ret v,H'):=by
 have hb:f75.body=some DY:=rfl;have hn:f75.ntmps=176:=rfl;have hr:f75.results = #[.tmp 4]:=rfl;simp only[AJ,fn_75,hb,hn,h];simp[hr]
section
variable{B:Nat}{u pv part av nv lw:AV}{H H':AF}{at_ r a:Int}
theorem UF:AO MX 75 176 (AE MX) (EP 0) (Tm.init 0 [.hp B 0,u],H)=some (.nrm,([(0,AV.hp B 0),(1,u)],H)):=by
 simp[f75,EP,DY,sub,List.replicate]
theorem eX(hB:H[B]? = some (.var false [av,nv,.bool true])):AO MX 75 176 (AE MX) (EP 1) ([(0,AV.hp B 0),(1,u)],H)=some (.ret,([(4,.int .i64 (-1))],H)):=by
 simp[f75,EP,DY,sub,List.replicate,hB]
theorem Sz(hB:H[B]? = some (.var false [av,nv,.bool false])):AO MX 75 176 (AE MX) (EP 1) ([(0,AV.hp B 0),(1,u)],H)=some (.nrm,([(0,.hp B 0),(1,u),(21,.bool false)],H)):=by
 simp[f75,EP,DY,sub,List.replicate,hB]
theorem YQ(hB:H[B]? = some (.var false [av,nv,.bool false]))(h114:∀ h,AI MX (AE MX) 114 [av,.fn 123 [u] []] h=some (.ret (.int .i64 a),h)):AO MX 75 176 (AE MX) (EP 2) ([(0,.hp B 0),(1,u),(21,.bool false)],H)=some (.nrm,([(0,.hp B 0),(1,u),(5,.int .i64 a)],H)):=by
 simp[f75,EP,DY,sub,List.replicate,hB,h114]
theorem eY(hB:H[B]? = some (.var false [av,nv,.bool false]))(h125:AI MX (AE MX) 125 [.hp B 0,.agg [.int .i64 (-1),.AH,.AH,.int .i64 (-1)]] H=some (.ret (.int .i64 r),H')):AO MX 75 176 (AE MX) (EP 3) ([(0,.hp B 0),(1,u),(5,.int .i64 (-1))],H)=some (.ret,([(4,.int .i64 r)],H')):=by
 simp[f75,EP,DY,sub,List.replicate,hB,h125]
theorem eZ(hB:H[B]? = some (.var false [av,nv,.bool false])){e1 e2 e3 e4:AV}(ha:(a == -1)=false)(hix:ixA 4 av (.int .i64 a)=some (.ro [e1,e2,e3,e4]))(h124:∀ h,AI MX (AE MX) 124 [u,.agg [e1,e2,e3,e4]] h=some (.ret (.bool true),h))(h125:AI MX (AE MX) 125 [.hp B 0,.agg [.int .i64 a,.AH,.AH,.int .i64 (-1)]] H=some (.ret (.int .i64 r),H')):AO MX 75 176 (AE MX) (EP 3) ([(0,.hp B 0),(1,u),(5,.int .i64 a)],H)=some (.ret,([(4,.int .i64 r)],H')):=by
 simp[f75,EP,DY,sub,List.replicate,hB,h125,ha,hix,h124]
theorem ef(hB:H[B]? = some (.var false [av,nv,.bool false])){e1 e2 e3 e4:AV}(ha:(a == -1)=false)(hix:ixA 4 av (.int .i64 a)=some (.ro [e1,e2,e3,e4]))(h124:∀ h,AI MX (AE MX) 124 [u,.agg [e1,e2,e3,e4]] h=some (.ret (.bool false),h)):AO MX 75 176 (AE MX) (EP 3) ([(0,.hp B 0),(1,u),(5,.int .i64 a)],H)=some (.nrm,([(0,.hp B 0),(1,u),(5,.int .i64 a),(41,.bool false)],H)):=by
 simp[f75,EP,DY,sub,List.replicate,hB,ha,hix,h124]
theorem s75_4(hB:H[B]? = some (.var false [av,nv,.bool false])){e1 e2 e3 e4:AV}(hix:ixA 4 av (.int .i64 a)=some (.ro [e1,e2,e3,e4])){b:Bool}(h126:∀ h,AI MX (AE MX) 126 [u,.agg [e1,e2,e3,e4]] h=some (.ret (.tup [pv,.bool b]),h)):AO MX 75 176 (AE MX) (EP 4) ([(0,.hp B 0),(1,u),(5,.int .i64 a),(41,.bool false)],H)=some (.nrm,([(0,.hp B 0),(1,u),(6,pv)],H)):=by
 simp[f75,EP,DY,sub,List.replicate,hB,hix,h126]
theorem s75_5(hpc:pv.cells=some [pv])(h125:AI MX (AE MX) 125 [.hp B 0,.agg [.int .i64 (-1),pv,.AH,.int .i64 (-1)]] H=some (.ret (.int .i64 r),H')):AO MX 75 176 (AE MX) (EP 5) ([(0,.hp B 0),(1,u),(6,pv)],H)=some (.nrm,([(0,.hp B 0),(1,u),(6,pv),(8,.int .i64 r)],H')):=by
 simp[f75,EP,DY,sub,List.replicate,hpc,h125]
theorem s75_6(h127:∀ h,AI MX (AE MX) 127 [u,pv] h=some (.ret part,h)):AO MX 75 176 (AE MX) (EP 6) ([(0,.hp B 0),(1,u),(6,pv),(8,.int .i64 r)],H)=some (.nrm,([(0,.hp B 0),(1,u),(6,pv),(8,.int .i64 r),(9,part)],H)):=by
 simp[f75,EP,DY,sub,List.replicate,h127]
theorem eg{sv a b c d:AV}(h116:∀ h,AI MX (AE MX) 116 [sv] h=some (.ret (.bool true),h)):AO MX 75 176 (AE MX) (EP 7) ([(0,.hp B 0),(1,u),(6,pv),(8,.int .i64 r),(9,.ro [sv,a,b,c,d])],H)=some (.nrm,([(0,.hp B 0),(1,u),(6,pv),(8,.int .i64 r),(9,.ro [sv,a,b,c,d]),(70,.bool false)],H)):=by
 simp[f75,EP,DY,sub,List.replicate,h116]
theorem eh{z cv a b c d:AV}{n:Int}{X:AF}{i:AV}{cd:AV}(h116:∀ h,AI MX (AE MX) 116 [.ro [z,cv]] h=some (.ret (.bool false),h))(hlen:∀ h,BI cv h=some (.val (.int .i64 n) h))
 (hlp:EV MX 75 176 (AE MX) (AL f75 0) ([(0,.hp B 0),(1,u),(6,pv),(8,.int .i64 r),(9,.ro [.ro [z,cv],a,b,c,d]),(77,cv),(78,.int .i64 n),(79,.int .i64 (0:Nat))],H)=some (.ext 0,([(0,.hp B 0),(1,u),(6,pv),(8,.int .i64 r),(9,.ro [.ro [z,cv],a,b,c,d]),(77,cv),(78,.int .i64 n),(79,i),(80,cd)],X))) :
 AO MX 75 176 (AE MX) (EP 7) ([(0,.hp B 0),(1,u),(6,pv),(8,.int .i64 r),(9,.ro [.ro [z,cv],a,b,c,d])],H)=some (.ret,([(4,.int .i64 r)],X)):=by
 simp[f75]at hlp;simp[f75,EP,DY,sub,List.replicate,h116,hlen,hlp]
theorem s75_8{b:Bool}(h130:AI MX (AE MX) 130 [.hp B 0,u,pv] H=some (.ret lw,H')):AO MX 75 176 (AE MX) (EP 8) ([(0,.hp B 0),(1,u),(6,pv),(8,.int .i64 r),(9,part),(70,.bool false)],H)=some (.nrm,([(0,.hp B 0),(1,u),(6,pv),(8,.int .i64 r),(9,part),(13,lw)],H')):=by
 simp[f75,EP,DY,sub,List.replicate,h130]
theorem s75_9{n:Int}{X:AF}{i cd:AV}(hlen:∀ h,BI lw h=some (.val (.int .i64 n) h))
 (hlp:EV MX 75 176 (AE MX) (AL f75 1) ([(0,.hp B 0),(1,u),(6,pv),(8,.int .i64 r),(9,part),(13,lw),(119,lw),(120,.int .i64 n),(121,.int .i64 (0:Nat))],H)=some (.ext 2,([(0,.hp B 0),(1,u),(6,pv),(8,.int .i64 r),(9,part),(13,lw),(119,lw),(120,.int .i64 n),(121,i),(122,cd)],X))) :
 AO MX 75 176 (AE MX) (EP 9) ([(0,.hp B 0),(1,u),(6,pv),(8,.int .i64 r),(9,part),(13,lw)],H)=some (.nrm,([(0,.hp B 0),(1,u),(6,pv),(8,.int .i64 r),(9,part),(13,lw),(119,lw),(120,.int .i64 n),(121,i),(122,cd)],X)):=by
 simp[f75]at hlp;simp[f75,EP,DY,sub,List.replicate,hlen,hlp]
theorem bE{n m:Int}{i cd w:AV}(hlen:∀ h,BI lw h=some (.val (.int .i64 n) h))(h132:∀ h,AI MX (AE MX) 132 [part] h=some (.ret (.int .i64 m),h))(hmn:¬ n<m) :
 AO MX 75 176 (AE MX) (EP 10) ([(0,.hp B 0),(1,u),(6,pv),(8,.int .i64 r),(9,part),(13,lw),(119,w),(120,.int .i64 n),(121,i),(122,cd)],H)=some (.nrm,([(0,.hp B 0),(1,u),(6,pv),(8,.int .i64 r),(9,part),(13,lw),(158,.bool false)],H)):=by
 simp[f75,EP,DY,sub,List.replicate,hlen,h132,hmn]
theorem bF{H2:AF}{n m o:Int}{i cd w isv kidv:AV}{J N k:Nat}{es:List (List AV)}{arm oth:Int}{pvn cas lgv:AV}(hlen:∀ h,BI lw h=some (.val (.int .i64 n) h))(h132:∀ h,AI MX (AE MX) 132 [part] h=some (.ret (.int .i64 m),h))(hmn:n<m)
 (h133:AI MX (AE MX) 133 [part,lw] H=some (.ret isv,H2)) (h128:∀ h,AI MX (AE MX) 128 [u,pv,isv] h=some (.ret kidv,h)) (h75:AI MX (AE MX) 75 [.hp B 0,kidv] H2=some (.ret (.int .i64 o),H'))
 (hB:H'[B]? = some (.var false [av,nv,lgv])) (hat:ixA 4 nv (.int .i64 r)=some (.ep J N 4 k 0)) (hJ:H'[J]? = some (.arr 4 false es)) (hN:es.length=N) (hes:es[k]? = some [.int .i64 arm,pvn,cas,.int .i64 oth]) :
 AO MX 75 176 (AE MX) (EP 10) ([(0,.hp B 0),(1,u),(6,pv),(8,.int .i64 r),(9,part),(13,lw),(119,w),(120,.int .i64 n),(121,i),(122,cd)],H)=some (.nrm,([(8,.int .i64 r)],H'.set J (.arr 4 false (es.set k [.int .i64 arm,pvn,cas,.int .i64 o])))):=by
 simp[f75,EP,DY,sub,List.replicate,hlen,h132,hmn,h133,h128,h75,hB,hat,hJ,hN,hes]
theorem bG:AO MX 75 176 (AE MX) (sub DY (List.replicate 11 1)) ([(8,.int .i64 r)],H)=some (.ret,([(4,.int .i64 r)],H)):=by
 simp[f75,DY,sub,List.replicate]
theorem bH:AO MX 75 176 (AE MX) (sub DY (List.replicate 11 1)) ([(0,.hp B 0),(1,u),(6,pv),(8,.int .i64 r),(9,part),(13,lw),(158,.bool false)],H)=some (.ret,([(4,.int .i64 r)],H)):=by
 simp[f75,DY,sub,List.replicate]
end
theorem Nu{arms:List TyV}{s:Sh}{n:Nat}{q:KV}{b a:Nat}(hb:¬ 400<=b)(hfi:arms.findIdx? (fun p=>CU p s q)=some a)(hs:Dt (arms.getD a default) s q=false) :
 BK arms s (n+1) q b=GN (BK arms s n) ((Ez (arms.getD a default) q).getD []) (GZ arms s q ((Ez (arms.getD a default) q).getD [])) (b+1):=by
 rw[BK,if_neg hb,hfi];simp only;rw[if_neg (by rw[hs];exact Bool.false_ne_true)]
theorem GI{arms:List TyV}{s:Sh}{n:Nat}{q:KV}{b:Nat}(hb:400<=b):BK arms s (n+1) q b=none:=by
 rw[BK,if_pos hb]
theorem L0.len{base:Nat}{H:AF}{w:AV}{l:List Int}(h:L0 base H w l):∀ X,BI w X=some (.val (.int .i64 l.length) X):=by
 rcases h with⟨rfl,rfl⟩ | ⟨j,gen,lk,ms,_,rfl,_⟩ <;> intro X <;> rfl
theorem L0.snap{base:Nat}{H X:AF}{w:AV}{l:List Int}(h:L0 base H w l)(hX:∀ j,base<=j->j<H.length->X[j]? = H[j]?):∃ w' X',snap Ds w X=some (w',X')/\SlR Az 1 l w'/\X'.length=X.length/\(∀ j,(j<base\/H.length<=j)->X'[j]? = X[j]?)/\(w.AA=true->w'=w/\X'=X):=by
 rcases h with⟨rfl,rfl⟩ | ⟨j,gen,lk,ms,h1,rfl,h3,h4,h5,h6⟩
 .exact⟨.AH,X,rfl,.inl ⟨rfl,rfl⟩,rfl,fun _ _=>rfl,fun _=>⟨rfl,rfl⟩⟩
 .have hjl:=(Ae.1 h3).1;have hx:=hX j h1 hjl;rw[h3]at hx;have hn:(A6 ms).all AG=true:=by
   rw[D0];intro e he;obtain⟨x,_,rfl⟩:=F5.1 he;rfl
  have hc:(Nat.beq (A6 ms).length gen&&Nat.beq 1 1&&Nat.ble (0+l.length) (A6 ms).length&&(A6 ms).all AG)=true:=by
   rw[Bh,hn];simp only[BU,Bl,Gb];exact⟨⟨⟨h4,trivial⟩,by omega⟩,trivial⟩
  have e1:((A6 ms).drop 0).take l.length=A6 l:=by
   rw[JB,A6,<- List.map_take,h6];rfl
  refine⟨.sl 1 false (A6 l),X.set j (.arr 1 true (A6 ms)),(show BB 1 _ _ _ _ from fun n=>by simp only[Am.snap,hx,hc,e1]).at (by decide),.inr ⟨false,A6 l,rfl,Bh l,fun i a e ha he => ?_⟩,by simp,fun i hi=>BT (by omega),fun h=>by cases h⟩;simp only[A6,Fx,ha,E0,AN]at he;exact he.symm
section
variable{arms:List TyV}{s:Sh}{B:Nat}{av:AV}
theorem c75(hnd:NdX s)(ha:SlR AR 4 arms av)(hal:arms.length<=20)(has:∀ p∈arms,Sm 1048577 p)(hpe:∀ p∈arms,CA s p=0)(hdp:∀ p∈arms,dp p<1048577):∀ n,Md arms s B av n:=by
 have big:∀ n (u:AV) (O:Nat->Prop) (H:AF) (ns:List BE) (q:KV),Ft O H B av true ns->∃ r O' H' lg' new,AI MX (AE MX) 75 [.hp B 0,u] H=some (.ret (.int .i64 r),H')/\Ft O' H' B av lg' (ns++new)/\Frame O H O' H'/\(true=true->lg'=true)/\(true=false->r=ns.length/\(lg'=false->BK arms s n q ns.length=some new)/\(lg'=true->BK arms s n q ns.length=none)):=fun n u O H ns q hb=>by
  have hb0:=hb;obtain⟨_,_,nv,hB,_⟩:=hb0;exact⟨-1,O,H,true,[],CV J5 Ls (O7 (by rw[KE];exact AM UF (Fg (eX hB)))),by rw[IX];exact hb,Frame.refl O H,fun h=>h,fun h=>by cases h⟩
 intro n;induction n with
 | zero=>
  intro q u O H lg ns hk hno hb hlg;cases lg with
  | true=>exact big 0 u O H ns q hb
  | false=>obtain⟨h1,h2⟩:=hlg rfl;omega
 | succ n hC=>
  intro q u O H lg ns hk hno hb hlg;cases lg with
  | true=>exact big (n+1) u O H ns q hb
  | false=>
  obtain⟨hl,hn2⟩:=hlg rfl;have hb0:=hb;obtain⟨hOB,hOl,nv,hB,_⟩:=hb0;have h114:=c114m hk hnd ha (by omega) has hpe;obtain⟨fi,hfi⟩:∃ fi,fi=arms.findIdx? (fun p=>CU p s q):=⟨_,rfl⟩;rw[<- hfi]at h114;cases fi with
  | none=>
   obtain⟨H',O',h125,hb',f0,f1,f2,f3⟩:=c125 hb ha.AA (v:=⟨-1,[],[],-1⟩) (pv:=.AH) (.inl ⟨rfl,rfl⟩) rfl (by omega);rw[JK]at hb';refine⟨ns.length,O',H',ns.length == 400,_,CV J5 Ls (O7 (by rw[KE];exact AM UF (AM (Sz hB) (AM (YQ hB h114) (Fg (eY hB h125)))))),hb',⟨f0,f1,f2,f3⟩,(fun h=>by cases h),fun _=>⟨rfl,fun h => ?_,fun h => ?_⟩⟩
   .rw[BK,if_neg (by simp at h;omega),<- hfi]
   .exact GI (by simp at h;omega)
  | some a=>
   have hfi2:=hfi.symm;rw[I8]at hfi2;obtain⟨hal2,hmay,_⟩:=hfi2;have hmem:=Ap hal2;have hgd:arms.getD a default=arms[a]:=(by simp[List.getD,AW hal2]);obtain⟨e,he,hR⟩:=ha.ix hal2;have h124:=c124 arms[a] s q u e hk hnd hR (has _ hmem) (hpe _ hmem);obtain⟨ra,hra,h126⟩:=c126 arms[a] s q u e hk hnd hR (has _ hmem) (hpe _ hmem) (hdp _ hmem) hmay;obtain⟨q1,rfl,_⟩:=hR.Ab;have ha1:((a:Int) == -1)=false:=(by rw[beq_eq_false_iff_ne];omega);rw[show ixI (some a)=(a:Int)from rfl]at h114;cases hs:Dt arms[a] s q with
   | true=>
    rw[hs]at h124;obtain⟨H',O',h125,hb',f0,f1,f2,f3⟩:=c125 hb ha.AA (v:=⟨a,[],[],-1⟩) (pv:=.AH) (.inl ⟨rfl,rfl⟩) rfl (by omega);rw[JK]at hb';refine⟨ns.length,O',H',ns.length == 400,_,CV J5 Ls (O7 (by rw[KE];exact AM UF (AM (Sz hB) (AM (YQ hB h114) (Fg (eZ hB ha1 (he .i64) h124 h125)))))),hb',⟨f0,f1,f2,f3⟩,(fun h=>by cases h),fun _=>⟨rfl,fun h => ?_,fun h => ?_⟩⟩
    .rw[BK,if_neg (by simp at h;omega),<- hfi];simp only;rw[if_pos (by rw[hgd];exact hs)]
    .exact GI (by simp at h;omega)
   | false=>
    rw[hs]at h124;obtain⟨path,hpath⟩:∃ path,path=(Ez arms[a] q).getD []:=⟨_,rfl⟩;have hask:∃ pv b,ra=.tup [pv,.bool b]/\SlR Az 1 (BX path) pv/\path.length<1048577/\∃ y,atK path (s,q)=some y:=by
     obtain⟨w,⟨p2,h1,h2,h3⟩ | ⟨h1,h2⟩⟩:=hra
     .rw[h1]at hpath;have hpp:path=p2:=hpath;rw[hpp];have:=Jp arms[a] q p2 h1;have:=hdp _ hmem;exact⟨w,true,h2,h3,by omega,eU arms[a] s q u p2 hk hnd (hpe _ hmem) hmay h1⟩
     .rw[h1]at hpath;have hpp:path=[]:=hpath;rw[hpp];exact⟨.AH,false,h2,.inl ⟨rfl,rfl⟩,by simp,_,rfl⟩
    obtain⟨pv,b,rfl,hp,hpl,y,hy⟩:=hask;obtain⟨H1,O1,h125,hb1,f0,f1,f2,f3⟩:=c125 hb ha.AA (v:=⟨-1,BX path,[],-1⟩) (pv:=pv) hp rfl (by omega);rw[JK]at hb1;have hf1:Frame O H O1 H1:=⟨f0,f1,f2,f3⟩;obtain⟨ku,hku,h127⟩:=c127 (x:=(s,q)) hk hp hpl hy;have hnm:=Ns hy;have hnode:¬ 400<=ns.length->BK arms s (n+1) q ns.length=GN (BK arms s n) path (GZ arms s q path) (ns.length+1):=fun h=>by
     rw[Nu h hfi.symm (by rw[hgd];exact hs),hgd,<- hpath]
    have pre:∀{r:Ex×St},AO MX 75 176 (AE MX) (.seq (EP 7) (.seq (EP 8) (.seq (EP 9) (.seq (EP 10) (sub DY (List.replicate 11 1)))))) ([(0,.hp B 0),(1,u),(6,pv),(8,.int .i64 ns.length),(9,ku)],H1)=some r->AO MX 75 176 (AE MX) DY (Tm.init 0 [.hp B 0,u],H)=some r:=fun h=>by
     rw[KE];exact AM UF (AM (Sz hB) (AM (YQ hB h114) (AM (ef hB ha1 (he .i64) h124) (AM (s75_4 hB (he .i64) h126) (AM (s75_5 hp.cells h125) (AM (s75_6 h127) h))))))
    have loop0:∀(kids:List ((Bytes×Int)×KV)) (H0:AF),Ft O1 H0 B av (ns.length == 400) (ns++[⟨-1,BX path,[],-1⟩])->JG (BK arms s n) kids ns path (BK arms s (n+1) q ns.length=none) O1 H0 B av 0 H0:=fun kids H0 hbx=>
     ⟨O1,ns.length == 400,[],[],hbx,Frame.refl O1 H0,rfl,fun h=>⟨by simp at h ⊢;omega,by simp[Option.map_id']⟩,fun h=>GI (by simp at h;omega)⟩
    obtain⟨sy,ky⟩:=y;cases sy with
    | cons nms ss=>
     obtain⟨sv,ea,eb,ec,ed,rfl,hsv⟩:=hku.sort;obtain⟨cv,e1,hsl,⟨hz1,hz2⟩,_,hcv⟩:=hsv.cons;subst e1;have hkids:GZ arms s q path=((List.range ss.length).map (Lc nms ss path q),none):=by
      unfold GZ;rw[hy];rfl
     have hbad:goF (BK arms s n) ((List.range ss.length).map (Lc nms ss path q)) (ns.length+1)=none->BK arms s (n+1) q ns.length=none:=fun h=>by
      by_cases h4:400<=ns.length
      .exact GI h4
      .rw[hnode h4,hkids,GN,h]
     obtain⟨X',hlp,hI⟩:=a8 hC hk hp hpl hy hsv rfl hno hn2 hbad (loop0 _ H1 hb1) (a:=ea) (b:=eb) (c:=ec) (d:=ed);have h116:=fun h=>c116c (m:=0) hcv (by
      intro h0;have:=congrArg List.length h0;rw[List.length_zip,IB]at this;omega) h
     have hzl:(nms.zip ss).length=ss.length:=(by simp;omega);have hlen:=hcv.len;rw[hzl]at hlen;obtain⟨O2,lg2,cs,ms,hb2,hf2,hcl,hgo,hbd⟩:=hI;refine⟨ns.length,O2,X',lg2,⟨-1,BX path,cs,-1⟩::ms,CV J5 Ls (O7 (pre (Fg (eh h116 hlen hlp)))),hb2,hf1.trans hf2,(fun h=>by cases h),fun _=>⟨rfl,fun h => ?_,fun h=>hbd h⟩⟩;obtain⟨g1,g2⟩:=hgo h;rw[hnode (by omega),hkids,GN,g2,KI (by simp),goF];simp[N9]
    | bit w=>
     have hku:CY (.bit w) ky ku:=hku;have hnm:Cz ky<=Cz q:=hnm;obtain⟨nov,a',e1,hno',hnol,hw1,hw2,_⟩:=hku.I4;have hb1':=hb1;obtain⟨hO1B,hO1l,nv1,hB1,_⟩:=hb1';obtain⟨lw,X0,h130,x1,x2,hnums⟩:=c130 hk hnd ha (by omega) has hpe hp hpl hy hB1;obtain⟨l,hlq⟩:∃ l,l=La (Fh path s q (DB ky) arms):=⟨_,rfl⟩;rw[<- hlq]at hnums;have hll:l.length<=arms.length:=by
      rw[hlq];exact DD (Jq _) (PE _ _)
     have hl0:∀ x∈l,0<=x:=fun x hx=>by
      rw[hlq]at hx;exact(bC hk hnd hpe hy x hx).1
     have hnoq:(DB ky).length<=Cz q:=by
      cases ky with
      | unk no=>exact hnm
      | num m=>exact HN _
      | con i ps=>exact HN _
     have hkids:GZ arms s q path=(l.map (Kk path q),if(l.length:Int)<Gj w ky then some (F1 path q (.unk (DB ky++l)))else none):=by
      unfold GZ;rw[hy,hlq];rfl
     have hbad:goF (BK arms s n) (l.map (Kk path q)) (ns.length+1)=none->BK arms s (n+1) q ns.length=none:=fun h=>by
      by_cases h4:400<=ns.length
      .exact GI h4
      .rw[hnode h4,hkids,GN,h]
     have hbX:Ft O1 X0 B av (ns.length == 400) (ns++[⟨-1,BX path,[],-1⟩]):=hb1.keep x1 fun x hx=>x2 x (hO1l x hx)
     have hfX:Frame O1 H1 O1 X0:=⟨x1,fun _ h=>h,fun _ h=> .inl h,fun x hx _=>x2 x hx⟩;obtain⟨X',hlp,hI⟩:=bD hC hk hp hpl hy hku hl0 (by omega) hnums hO1l hno hn2 hbad (loop0 _ X0 hbX);have h116:=c116b (m:=w);have hlen:=hnums.len;have h132:=c132 hku;obtain⟨O2,lg2,cs,ms,hb2,hf2,hcl,hgo,hbd⟩:=hI;have hgoE:lg2=false->goF (BK arms s n) (l.map (Kk path q)) (ns.length+1)=some (cs,ms):=fun h=>by
      rw[(hgo h).2,KI (by simp),goF];simp
     have pre2:∀{r:Ex×St},AO MX 75 176 (AE MX) (.seq (EP 10) (sub DY (List.replicate 11 1))) ([(0,.hp B 0),(1,u),(6,pv),(8,.int .i64 ns.length),(9,ku),(13,lw),(119,lw),(120,.int .i64 l.length),(121,.int .i64 l.length),(122,.bool false)],X')=some r->AO MX 75 176 (AE MX) DY (Tm.init 0 [.hp B 0,u],H)=some r:=fun h=>by
      refine pre (AM ?_ (AM (s75_8 (b:=false) h130) (AM (s75_9 hlen hlp) h)));rw[e1];exact eg h116
     by_cases hleft:(l.length:Int)<Gj w ky
     .rw[if_pos hleft]at hkids;obtain⟨lw',X1,hsn,hlw',xl,xk,xn⟩:=hnums.snap (X:=X') (fun j h1 h2=>hf2.2.2.2 j h2 (fun hO=>by have:=hO1l j hO;omega));obtain⟨isv,his,h133⟩:=c133 hku hlw' (by omega);have h133':AI MX (AE MX) 133 [ku,lw] X'=some (.ret isv,X1):=by
       cases hr:lw.AA with
       | true=>
        obtain⟨z1,z2⟩:=xn hr;rw[<- z1,z2];exact h133 X'
       | false=>exact FA (by simp[Qn]) (by simp[A4,hku.AA,hr,hsn]) (by simp[hku.AA,hlw'.AA]) (h133 X1)
      obtain⟨kv,hkv,h128⟩:=c128 (y:=(.bit w,ky)) his path (s,q) u pv hk hp hpl hy;have hb3:Ft O2 X1 B av lg2 (ns++⟨-1,BX path,cs,-1⟩::ms):=hb2.keep (by omega) fun x hx=>xk x (by
       rcases hf2.2.2.1 x hx with h | h
       .exact .inl (hO1l x h)
       .exact .inr h)
      have hf3:Frame O H O2 X1:=by
       obtain⟨z1,z2,z3,z4⟩:=(hf1.trans hfX).trans hf2;exact⟨by omega,z2,z3,fun x hx hn=>by rw[xk x (.inl (by omega))];exact z4 x hx hn⟩
      have hnw:=GH (own:=.unk (DB ky++l)) (path:=path) (k:=q);have hnu:Cz (.unk (DB ky++l))=(DB ky).length+l.length:=by
       show(DB ky++l).length=_;simp
      rw[hnu]at hnw;have hlenN:(ns++⟨-1,BX path,cs,-1⟩::ms:List BE).length=ns.length+1+ms.length:=(by simp;omega);obtain⟨r2,O3,X2,lg3,new,hcall,hb4,hf4,hlt,hlf⟩:=hC (F1 path q (.unk (DB ky++l))) kv O2 X1 lg2 _ hkv (by omega) hb3 (fun h=>by
       have:=(hgo h).1;rw[hlenN];omega)
      rw[EM,Fk]at hb4;obtain⟨nv4,J,es,pvn,cas,k1,k2,k3,k4,k5,k6,k7⟩:=hb4.oth Sx r2;rw[Sy]at k6;refine⟨ns.length,O3,_,lg3,⟨-1,BX path,cs,r2⟩::(ms++new),CV J5 Ls (O7 (pre2 (AM (bF hlen h132 hleft h133' h128 hcall k1 k2 k3 k4 k5) bG))),k6,(hf3.trans hf4).trans k7,(fun h=>by cases h),fun _=>⟨rfl,fun h => ?_,fun h => ?_⟩⟩
      .have hl2:lg2=false:=by
        cases lg2 with
        | false=>rfl
        | true=>rw[hlt rfl]at h;cases h
       obtain⟨w1,w2,_⟩:=hlf hl2;have w2:=w2 h;rw[hlenN]at w1 w2;rw[hnode (by have:=(hgo hl2).1;omega),hkids,GN,hgoE hl2];simp only[N9];rw[w2,w1]
      .cases lg2 with
       | true=>exact hbd rfl
       | false=>
        obtain⟨_,_,w3⟩:=hlf rfl;have w3:=w3 h;rw[hlenN]at w3;by_cases h4:400<=ns.length
        .exact GI h4
        .rw[hnode h4,hkids,GN,hgoE rfl];simp only[N9];rw[w3]
     .rw[if_neg hleft]at hkids;refine⟨ns.length,O2,X',lg2,⟨-1,BX path,cs,-1⟩::ms,CV J5 Ls (O7 (pre2 (AM (bE hlen h132 hleft) bH))),hb2,(hf1.trans hfX).trans hf2,(fun h=>by cases h),fun _=>⟨rfl,fun h => ?_,fun h=>hbd h⟩⟩;rw[hnode (by have:=(hgo h).1;omega),hkids,GN,hgoE h];rfl
end
end
end Go.Proofs.Am12
namespace Go.Am
open Go
mutual
def rb:Nat->AF->AV->Option AV
 | 0,_,_=>none
 | n+1,H,v=>match v with
  | .hp id off=>match H[id]? with
   | some (.var _ cs)=>(rbs n H cs).map fun cs'=> .ro (cs'.drop off)
   | _=>none
  | .hs id gen sz off len ex=>match H[id]? with
   | some (.arr sz' _ es)=>match Nat.beq es.length gen&&Nat.beq sz' sz&&Nat.ble (off+len) es.length with
    | true=>(GJ n H es).map fun es'=> .sl sz ex ((es'.drop off).take len)
    | false=>none
   | _=>none
  | v=>match v.flat with
   | true=>some v
   | false=>none
def rbs:Nat->AF->List AV->Option (List AV)
 | 0,_,_=>none
 | _+1,_,[]=>some []
 | n+1,H,c::cs=>match rb n H c,rbs n H cs with
  | some c',some cs'=>some (c'::cs')
  | _,_=>none
def GJ:Nat->AF->List (List AV)->Option (List (List AV))
 | 0,_,_=>none
 | _+1,_,[]=>some []
 | n+1,H,c::cs=>match rbs n H c,GJ n H cs with
  | some c',some cs'=>some (c'::cs')
  | _,_=>none
end
theorem Jr{n id off:Nat}{H:AF}{w:AV}:rb (n+1) H (.hp id off)=some w↔∃ b cs cs',H[id]? = some (.var b cs)/\rbs n H cs=some cs'/\w=.ro (cs'.drop off):=by
 constructor
 .intro h;simp only[rb]at h;split at h
  .rename_i b cs hb;cases hr:rbs n H cs with
   | none=>rw[hr]at h;cases h
   | some cs'=>rw[hr]at h;cases h;exact⟨b,cs,cs',hb,hr,rfl⟩
  .cases h
 .rintro⟨b,cs,cs',h1,h2,rfl⟩;simp only[rb,h1,h2,E0]
theorem JH{n id gen sz off len:Nat}{ex:Bool}{H:AF}{w:AV}:rb (n+1) H (.hs id gen sz off len ex)=some w↔∃ lk es es',H[id]? = some (.arr sz lk es)/\es.length=gen/\off+len<=es.length/\GJ n H es=some es'/\w=.sl sz ex ((es'.drop off).take len):=by
 constructor
 .intro h;simp only[rb]at h;split at h
  .rename_i sz' lk es hb;split at h
   .rename_i hc;simp only[BU]at hc;obtain⟨⟨c1,c2⟩,c3⟩:=hc;have c2:=P8 c2;subst c2;cases hr:GJ n H es with
    | none=>rw[hr]at h;cases h
    | some es'=>rw[hr]at h;cases h;exact⟨lk,es,es',hb,P8 c1,Nat.le_of_ble_eq_true c3,hr,rfl⟩
   .cases h
  .cases h
 .rintro⟨lk,es,es',h1,h2,h3,h4,rfl⟩;have hc:(Nat.beq es.length gen&&Nat.beq sz sz&&Nat.ble (off+len) es.length)=true:=by
   simp only[BU,Bl,Gb];exact⟨⟨h2,trivial⟩,h3⟩
  simp only[rb,h1,hc,h4,E0]
def AV.still:AV->Bool
 | .hp .. => false
 | .hs .. => false
 | _=>true
theorem EC{n:Nat}{H:AF}{v w:AV}(hv:v.still=true):rb (n+1) H v=some w↔v.flat=true/\w=v:=by
 have e:rb (n+1) H v=match v.flat with
  | true=>some v
  | false=>none:=by
  cases v <;> first | rfl | cases hv
 rw[e];cases v.flat with
 | true=>simp[eq_comm]
 | false=>simp
theorem Eb{n:Nat}{H:AF}{c:AV}{cs ws:List AV}:rbs (n+1) H (c::cs)=some ws↔∃ c' cs',rb n H c=some c'/\rbs n H cs=some cs'/\ws=c'::cs':=by
 simp only[rbs];cases rb n H c <;> cases rbs n H cs <;> simp[eq_comm]
theorem Gw{n:Nat}{H:AF}{c:List AV}{cs ws:List (List AV)}:GJ (n+1) H (c::cs)=some ws↔∃ c' cs',rbs n H c=some c'/\GJ n H cs=some cs'/\ws=c'::cs':=by
 simp only[GJ];cases rbs n H c <;> cases GJ n H cs <;> simp[eq_comm]
theorem Lf(v:AV):v.still=true\/(∃ id off,v=.hp id off)\/∃ id gen sz off len ex,v=.hs id gen sz off len ex:=by
 cases v <;> first | exact .inl rfl | exact .inr (.inl ⟨_,_,rfl⟩) | exact .inr (.inr ⟨_,_,_,_,_,_,rfl⟩)
theorem cp:∀ n,(∀ H v w,rb n H v=some w->rb (n+1) H v=some w)/\(∀ H cs ws,rbs n H cs=some ws->rbs (n+1) H cs=some ws)/\∀ H es ws,GJ n H es=some ws->GJ (n+1) H es=some ws
 | 0=>⟨fun H v w h=>by simp[rb]at h,fun H v w h=>by simp[rbs]at h,fun H v w h=>by simp[GJ]at h⟩
 | n+1=>by
  obtain⟨i1,i2,i3⟩:=cp n;refine⟨fun H v w h => ?_,fun H cs ws h => ?_,fun H es ws h => ?_⟩
  .rcases Lf v with hv | ⟨id,off,rfl⟩ | ⟨id,gen,sz,off,len,ex,rfl⟩
   .rw[EC hv]at h ⊢;exact h
   .rw[Jr]at h ⊢;obtain⟨b,cs,cs',h1,h2,h3⟩:=h;exact⟨b,cs,cs',h1,i2 _ _ _ h2,h3⟩
   .rw[JH]at h ⊢;obtain⟨lk,es,es',h1,h2,h3,h4,h5⟩:=h;exact⟨lk,es,es',h1,h2,h3,i3 _ _ _ h4,h5⟩
  .cases cs with
   | nil=>exact h
   | cons c cs=>
    rw[Eb]at h ⊢;obtain⟨c',cs',h1,h2,h3⟩:=h;exact⟨c',cs',i1 _ _ _ h1,i2 _ _ _ h2,h3⟩
  .cases es with
   | nil=>exact h
   | cons c cs=>
    rw[Gw]at h ⊢;obtain⟨c',cs',h1,h2,h3⟩:=h;exact⟨c',cs',i2 _ _ _ h1,i3 _ _ _ h2,h3⟩
theorem IL{n m:Nat}(h:n<=m):(∀{H v w},rb n H v=some w->rb m H v=some w)/\(∀{H cs ws},rbs n H cs=some ws->rbs m H cs=some ws)/\∀{H es ws},GJ n H es=some ws->GJ m H es=some ws:=by
 obtain⟨k,rfl⟩:=Nat.le.dest h;clear h;induction k with
 | zero=>exact⟨fun h=>h,fun h=>h,fun h=>h⟩
 | succ k ih=>
  obtain⟨i1,i2,i3⟩:=ih;obtain⟨u1,u2,u3⟩:=cp (n+k);exact⟨fun h=>u1 _ _ _ (i1 h),fun h=>u2 _ _ _ (i2 h),fun h=>u3 _ _ _ (i3 h)⟩
theorem bI{n m:Nat}{H:AF}{cs a b:List AV}(h:rbs n H cs=some a)(k:rbs m H cs=some b):a=b:=by
 have h:=(IL (HM n m)).2.1 h;have k:=(IL (Hj n m)).2.1 k;rw[h]at k;exact Option.some.inj k
theorem YR{n m:Nat}{H:AF}{cs a b:List (List AV)}(h:GJ n H cs=some a)(k:GJ m H cs=some b):a=b:=by
 have h:=(IL (HM n m)).2.2 h;have k:=(IL (Hj n m)).2.2 k;rw[h]at k;exact Option.some.inj k
theorem Io(H2:AF):∀ n,(∀ H v w,rb n H v=some w->rb n H2 w=some w)/\(∀ H cs ws,rbs n H cs=some ws->rbs n H2 ws=some ws/\ws.length=cs.length)/\∀ H es ws,GJ n H es=some ws->GJ n H2 ws=some ws/\ws.length=es.length
 | 0=>⟨fun H v w h=>by simp[rb]at h,fun H v w h=>by simp[rbs]at h,fun H v w h=>by simp[GJ]at h⟩
 | n+1=>by
  obtain⟨i1,i2,i3⟩:=Io H2 n;refine⟨fun H v w h => ?_,fun H cs ws h => ?_,fun H es ws h => ?_⟩
  .rcases Lf v with hv | ⟨id,off,rfl⟩ | ⟨id,gen,sz,off,len,ex,rfl⟩
   .rw[EC hv]at h;obtain⟨h1,rfl⟩:=h;rw[EC hv];exact⟨h1,rfl⟩
   .rw[Jr]at h;obtain⟨b,cs,cs',h1,h2,rfl⟩:=h;exact(EC rfl).2 ⟨rfl,rfl⟩
   .rw[JH]at h;obtain⟨lk,es,es',h1,h2,h3,h4,rfl⟩:=h;exact(EC rfl).2 ⟨rfl,rfl⟩
  .cases cs with
   | nil=>cases h;exact⟨rfl,rfl⟩
   | cons c cs=>
    rw[Eb]at h;obtain⟨c',cs',h1,h2,rfl⟩:=h;obtain⟨k1,k2⟩:=i2 _ _ _ h2;exact⟨Eb.2 ⟨_,_,i1 _ _ _ h1,k1,rfl⟩,by simp[k2]⟩
  .cases es with
   | nil=>cases h;exact⟨rfl,rfl⟩
   | cons c cs=>
    rw[Gw]at h;obtain⟨c',cs',h1,h2,rfl⟩:=h;obtain⟨k1,k2⟩:=i3 _ _ _ h2;exact⟨Gw.2 ⟨_,_,(i2 _ _ _ h1).1,k1,rfl⟩,by simp[k2]⟩
theorem Rg{v:AV}(h:v.AA=true):v.still=true:=by
 cases v <;> first | rfl | cases h
theorem YS(n:Nat):(∀ H v w,v.AA=true->rb n H v=some w->w=v)/\(∀ H cs ws,AG cs=true->rbs n H cs=some ws->ws=cs)/\∀ H es ws,es.all AG=true->GJ n H es=some ws->ws=es:=by
 induction n with
 | zero=>exact⟨fun H v w _ h=>by simp[rb]at h,fun H v w _ h=>by simp[rbs]at h,fun H v w _ h=>by simp[GJ]at h⟩
 | succ n ih=>
  obtain⟨i1,i2,i3⟩:=ih;refine⟨fun H v w hn h => ?_,fun H cs ws hn h => ?_,fun H es ws hn h => ?_⟩
  .rw[EC (Rg hn)]at h;exact h.2
  .cases cs with
   | nil=>cases h;rfl
   | cons c cs=>
    rw[Eb]at h;obtain⟨c',cs',h1,h2,rfl⟩:=h;simp only[AG,BU]at hn;rw[i1 _ _ _ hn.1 h1,i2 _ _ _ hn.2 h2]
  .cases es with
   | nil=>cases h;rfl
   | cons c cs=>
    rw[Gw]at h;obtain⟨c',cs',h1,h2,rfl⟩:=h;simp only[JL,BU]at hn;rw[i2 _ _ _ hn.1 h1,i3 _ _ _ hn.2 h2]
structure Lg(H H':AF):Prop where
 len:H'.length=H.length
 var:∀{id:Nat} {b:Bool} {cs:List AV},H[id]? = some (.var b cs)->∃(b':Bool) (cs':List AV),H'[id]? = some (.var b' cs')
 arr:∀{id sz:Nat} {lk:Bool} {es:List (List AV)},H[id]? = some (.arr sz lk es)->∃(lk':Bool) (es':List (List AV)),H'[id]? = some (.arr sz lk' es')/\es'.length=es.length
 one:∀{n v w},rb n H v=some w->rb n H' v=some w
 all:∀{n cs ws},rbs n H cs=some ws->rbs n H' cs=some ws
 alls:∀{n cs ws},GJ n H cs=some ws->GJ n H' cs=some ws
theorem Lg.refl(H:AF):Lg H H:=⟨rfl,fun h=>⟨_,_,h⟩,fun h=>⟨_,_,h,rfl⟩,fun h=>h,fun h=>h,fun h=>h⟩
theorem Lg.trans{A B C:AF}(h:Lg A B)(k:Lg B C):Lg A C where
 len:=by rw[k.len,h.len]
 var:=fun e=>by obtain⟨_,_,e⟩:=h.var e;exact k.var e
 arr:=fun e=>by
  obtain⟨_,_,e,l⟩:=h.arr e;obtain⟨lk,es,e,l2⟩:=k.arr e;exact⟨lk,es,e,by rw[l2,l]⟩
 one:=fun e=>k.one (h.one e)
 all:=fun e=>k.all (h.all e)
 alls:=fun e=>k.alls (h.alls e)
theorem UG{H:AF}{id:Nat}{X:Blk}(hp:∀ n off w,rb (n+1) H (.hp id off)=some w->rb (n+1) (H.set id X) (.hp id off)=some w)(hs:∀ n gen sz off len ex w,rb (n+1) H (.hs id gen sz off len ex)=some w->rb (n+1) (H.set id X) (.hs id gen sz off len ex)=some w) :
 ∀ n,(∀ v w,rb n H v=some w->rb n (H.set id X) v=some w)/\(∀ cs ws,rbs n H cs=some ws->rbs n (H.set id X) cs=some ws)/\∀ es ws,GJ n H es=some ws->GJ n (H.set id X) es=some ws:=by
 intro n;induction n with
 | zero=>exact⟨fun v w h=>by simp[rb]at h,fun v w h=>by simp[rbs]at h,fun v w h=>by simp[GJ]at h⟩
 | succ n ih=>
  obtain⟨i1,i2,i3⟩:=ih;refine⟨fun v w h => ?_,fun cs ws h => ?_,fun es ws h => ?_⟩
  .rcases Lf v with hv | ⟨id',off,rfl⟩ | ⟨id',gen,sz,off,len,ex,rfl⟩
   .rw[EC hv]at h ⊢;exact h
   .by_cases hi:id'=id
    .subst hi;exact hp n off w h
    .rw[Jr]at h ⊢;obtain⟨b,cs,cs',h1,h2,h3⟩:=h;exact⟨b,cs,cs',by rw[BT (fun e=>hi e.symm)];exact h1,i2 _ _ h2,h3⟩
   .by_cases hi:id'=id
    .subst hi;exact hs n gen sz off len ex w h
    .rw[JH]at h ⊢;obtain⟨lk,es,es',h1,h2,h3,h4,h5⟩:=h;exact⟨lk,es,es',by rw[BT (fun e=>hi e.symm)];exact h1,h2,h3,i3 _ _ h4,h5⟩
  .cases cs with
   | nil=>exact h
   | cons c cs=>
    rw[Eb]at h ⊢;obtain⟨c',cs',h1,h2,h3⟩:=h;exact⟨c',cs',i1 _ _ h1,i2 _ _ h2,h3⟩
  .cases es with
   | nil=>exact h
   | cons c cs=>
    rw[Gw]at h ⊢;obtain⟨c',cs',h1,h2,h3⟩:=h;exact⟨c',cs',i2 _ _ h1,i3 _ _ h2,h3⟩
theorem YT{H:AF}{id m:Nat}{b:Bool}{cs cs':List AV}(h:H[id]? = some (.var b cs))(hr:rbs m H cs=some cs'):Lg H (H.set id (.var true cs')):=by
 have hl:=(Ae.1 h).1;have hself:(H.set id (.var true cs'))[id]? = some (.var true cs'):=ER hl;have key:=UG (H:=H) (id:=id) (X:=.var true cs') (fun n off w e=>by
  rw[Jr]at e ⊢;obtain⟨b',cs2,ws,e1,e2,e3⟩:=e;rw[h]at e1;cases e1;have:=bI e2 hr;subst this;exact⟨true,ws,ws,hself,((Io _ n).2.1 _ _ _ e2).1,e3⟩) (fun n gen sz off len ex w e=>by
  rw[JH]at e;obtain⟨lk,es,es',e1,_⟩:=e;rw[h]at e1;cases e1)
 refine⟨by simp,fun{id' b' cs2} e => ?_,fun{id' sz lk es} e => ?_,fun{n v w} e=>(key n).1 _ _ e,fun{n v w} e=>(key n).2.1 _ _ e,fun{n v w} e=>(key n).2.2 _ _ e⟩
 .by_cases hi:id=id'
  .subst hi;exact⟨_,_,hself⟩
  .exact⟨_,_,by rw[BT hi];exact e⟩
 .by_cases hi:id=id'
  .subst hi;rw[h]at e;cases e
  .exact⟨_,_,by rw[BT hi];exact e,rfl⟩
theorem Rh{H:AF}{id m sz:Nat}{b:Bool}{cs cs':List (List AV)}(h:H[id]? = some (.arr sz b cs))(hr:GJ m H cs=some cs'):Lg H (H.set id (.arr sz true cs')):=by
 have hl:=(Ae.1 h).1;have hself:(H.set id (.arr sz true cs'))[id]? = some (.arr sz true cs'):=ER hl;have hlen:=((Io H m).2.2 _ _ _ hr).2;have key:=UG (H:=H) (id:=id) (X:=.arr sz true cs') (fun n off w e=>by
  rw[Jr]at e;obtain⟨b',cs2,ws,e1,e2,e3⟩:=e;rw[h]at e1;cases e1) (fun n gen sz' off len ex w e=>by
  rw[JH]at e ⊢;obtain⟨lk,es,es',e1,e2,e3,e4,e5⟩:=e;rw[h]at e1;cases e1;have:=YR e4 hr;subst this;exact⟨true,es',es',hself,by rw[hlen];exact e2,by rw[hlen];exact e3,((Io _ n).2.2 _ _ _ e4).1,e5⟩)
 refine⟨by simp,fun{id' b' cs2} e => ?_,fun{id' sz' lk es} e => ?_,fun{n v w} e=>(key n).1 _ _ e,fun{n v w} e=>(key n).2.1 _ _ e,fun{n v w} e=>(key n).2.2 _ _ e⟩
 .by_cases hi:id=id'
  .subst hi;rw[h]at e;cases e
  .exact⟨_,_,by rw[BT hi];exact e⟩
 .by_cases hi:id=id'
  .subst hi;rw[h]at e;cases e;exact⟨_,_,hself,hlen⟩
  .exact⟨_,_,by rw[BT hi];exact e,rfl⟩
theorem Me:∀ n,(∀ H v w,rb n H v=some w->∃ H',Lg H H'/\∀ l,BB n v (H++l) w (H'++l))/\(∀ H cs ws,rbs n H cs=some ws->∃ H',Lg H H'/\∀ l,B5 n cs (H++l) ws (H'++l))/\∀ H es ws,GJ n H es=some ws->∃ H',Lg H H'/\∀ l,Df n es (H++l) ws (H'++l)
 | 0=>⟨fun H v w h=>by simp[rb]at h,fun H v w h=>by simp[rbs]at h,fun H v w h=>by simp[GJ]at h⟩
 | n+1=>by
  obtain⟨i1,i2,i3⟩:=Me n;refine⟨fun H v w h => ?_,fun H cs ws h => ?_,fun H es ws h => ?_⟩
  .rcases Lf v with hv | ⟨id,off,rfl⟩ | ⟨id,gen,sz,off,len,ex,rfl⟩
   .rw[EC hv]at h;have h1:=h.1;have h2:=h.2;subst h2;exact⟨H,Lg.refl H,fun l=>(BB.flat h1 _).mono (by omega)⟩
   .rw[Jr]at h;obtain⟨b,cs,cs',h1,h2,rfl⟩:=h;obtain⟨H1,p1,s1⟩:=i2 _ _ _ h2;obtain⟨b2,cs2,e2⟩:=p1.var h1;have hr2:rbs n H1 cs2=some cs':=by
     have:=p1.one (n:=n+1) (v:=.hp id 0) (Jr.2 ⟨b,cs,cs',h1,h2,rfl⟩);rw[Jr]at this;obtain⟨b3,cs3,ws,k1,k2,k3⟩:=this;rw[e2]at k1;cases k1;simp only[JB,AV.ro.injEq]at k3;rw[k3];exact k2
    refine⟨H1.set id (.var true cs'),p1.trans (YT e2 hr2),fun l m => ?_⟩;have hl:=(Ae.1 h1).1;have hl1:=(Ae.1 e2).1;have q1:(H++l)[id]? = some (.var b cs):=(by rw[BA hl];exact h1);have q2:(H1++l)[id]? = some (.var b2 cs2):=(by rw[BA hl1];exact e2);show snap ((m+n)+1) _ _=_;simp only[snap,q1,s1 l m,q2];rw[Ml _ _ hl1]
   .rw[JH]at h;obtain⟨lk,es,es',h1,h2,h3,h4,rfl⟩:=h;have hl:=(Ae.1 h1).1;have hc:(Nat.beq es.length gen&&Nat.beq sz sz&&Nat.ble (off+len) es.length)=true:=by
     simp only[BU,Bl,Gb];exact⟨⟨h2,trivial⟩,h3⟩
    cases hn:es.all AG with
    | true=>
     have:=(YS n).2.2 _ _ _ hn h4;subst this;refine⟨H.set id (.arr sz true es'),Rh h1 h4,fun l m => ?_⟩;have q1:(H++l)[id]? = some (.arr sz lk es'):=(by rw[BA hl];exact h1);show snap ((m+n)+1) _ _=_;simp only[snap,q1,hc,hn,Bool.and_true];rw[Ml _ _ hl]
    | false=>
     obtain⟨H1,p1,s1⟩:=i3 _ _ _ h4;obtain⟨lk2,es2,e2,l2⟩:=p1.arr h1;have hlen:=((Io H n).2.2 _ _ _ h4).2;have hr2:GJ n H1 es2=some es':=by
      have:=p1.one (n:=n+1) (v:=.hs id es.length sz 0 es.length false) (JH.2 ⟨lk,es,es',h1,rfl,by omega,h4,rfl⟩);rw[JH]at this;obtain⟨lk3,es3,ws,k1,k2,k3,k4,k5⟩:=this;rw[e2]at k1;cases k1;have hlen2:=((Io H1 n).2.2 _ _ _ k4).2;simp only[JB,AV.sl.injEq,true_and]at k5;rw[DC (by omega),DC (by omega)]at k5;rw[k5];exact k4
     refine⟨H1.set id (.arr sz true es'),p1.trans (Rh e2 hr2),fun l m => ?_⟩;have hl1:=(Ae.1 e2).1;have q1:(H++l)[id]? = some (.arr sz lk es):=(by rw[BA hl];exact h1);have q2:(H1++l)[id]? = some (.arr sz lk2 es2):=(by rw[BA hl1];exact e2);have hc2:(Nat.beq sz sz&&Nat.beq es2.length es.length)=true:=by
      simp only[BU,Bl];exact⟨trivial,l2⟩
     show snap ((m+n)+1) _ _=_;simp only[snap,q1,hc,hn,Bool.and_false,s1 l m,q2,hc2];rw[Ml _ _ hl1]
  .cases cs with
   | nil=>cases h;exact⟨H,Lg.refl H,fun l m=>rfl⟩
   | cons c cs=>
    rw[Eb]at h;obtain⟨c',cs',h1,h2,rfl⟩:=h;obtain⟨H1,p1,s1⟩:=i1 _ _ _ h1;obtain⟨H2,p2,s2⟩:=i2 _ _ _ (p1.all h2);refine⟨H2,p1.trans p2,fun l m => ?_⟩;show GS ((m+n)+1) _ _=_;simp only[GS,s1 l m,s2 l m]
  .cases es with
   | nil=>cases h;exact⟨H,Lg.refl H,fun l m=>rfl⟩
   | cons c cs=>
    rw[Gw]at h;obtain⟨c',cs',h1,h2,rfl⟩:=h;obtain⟨H1,p1,s1⟩:=i2 _ _ _ h1;obtain⟨H2,p2,s2⟩:=i3 _ _ _ (p1.alls h2);refine⟨H2,p1.trans p2,fun l m => ?_⟩;show GU ((m+n)+1) _ _=_;simp only[GU,s1 l m,s2 l m]
end Go.Am
namespace Go.Proofs.Am12
open Go Go.Am Tryz
attribute [local simp] C7 Br EW DL CG Dd Du Eu BZ Ar Bg Al GV FF EF HE D4 Ax FB EG HF HG xUn E7 D5 FG BF DH BG D6 BH D7 Ce CX Bw BJ EH Ej
 ev evs C4 DE OR.ofV OR.Dz OR.ofC FP Tm.get Tm.init Tm.only A1 A8 CM finish CF DJ HR Dy D3 unA B7 Bb B8 Bc Co Cp Cq Bd Cr Cs Be Ct Cu Bf B9 AL CQ Ba Cm Cn B6 Ev Ew Ey Dv Dw Fl F8 F9 Fm stA Ay Db Bn DI E8 Gt Bs C6 CI FI Gu
attribute [local simp] CJ Bi Bt BN DQ DR DS DT DU DW DX Ec Cg Ed Dh FR FT Gf Di Ee Dj BO Dk BP Dl CD Ef Ch FU FV FW Ci Dm Dn FX Gg FY Gh Gi Dp BQ Cj CE Dq Dr Ck
inductive ShL:Sh->Prop
 | bit (m:Int) (h0:1<=m) (h1:m<=16):ShL (.bit m)
 | cons (ns:List Bytes) (ss:List (List Sh)) (h1:ss.length=ns.length) (h2:0<ns.length) (h3:ns.length<=16) (h4:∀ s∈ss,s.length<=8) (h5:∀ s∈ss,∀ x∈s,ShL x):ShL (.cons ns ss)
theorem ei{l:List AK}(h:(A5 l).2=0){t:TyV}{s:Sh}(hs:Em l t s):VT l t->ShL s:=by
 have hd:=Jn h;induction hs with
 | bit t hb hw h2=>exact fun _=> .bit _ hw.1 hw.2
 | cons t ns ss hb hk hn hl hsp hf ih=>
  intro hv;obtain⟨c1,c2,c3⟩:=hd.con t hv hk hb;have hlen:ns.length=(AP l t).length:=by rw[hn,Fa]
  have hpos:=Kr.2 c2;refine .cons ns ss (hl.trans hlen.symm) (by omega) (by omega) (fun s hs => ?_) (fun s hs x hx => ?_)
  .obtain⟨i,hi,rfl⟩:=I9 hs;rw[hsp i _ _ (AW (by omega)) (AW hi)];exact c3 _ (Ap (show i<(AP l t).length by omega))
  .obtain⟨i,hi,rfl⟩:=I9 hs;obtain⟨j,hj,rfl⟩:=I9 hx;have hci:=AW (l:=AP l t) (i:=i) (by omega);have hfl:=hsp i _ _ hci (AW hi);have hfj:=AW (l:=((AP l t)[i]'(by omega)).fields) (i:=j) (by omega);have hcm:=Ap (show i<(AP l t).length by omega);have hfm:=C2 hfj;exact ih i _ _ j _ _ hci (AW hi) hfj (AW hj) (hd.dok.fld t hv hk hb _ hcm _ hfm)
theorem _root_.Go.Am.Js{K:Nat}{H:AF}:∀(es:List (List AV)) {P:Nat->List AV->Prop},(∀ i e,es[i]? = some e->∃ e',rbs K H e=some e'/\P i e')->∃ es',GJ (K+es.length+1) H es=some es'/\es'.length=es.length/\∀ i e',es'[i]? = some e'->P i e'
 | [],P,_=>⟨[],rfl,rfl,fun i e h=>by simp at h⟩
 | e::es,P,h=>by
  obtain⟨e',h1,h2⟩:=h 0 e rfl;obtain⟨es',k1,k2,k3⟩:=Js es (P:=fun i e=>P (i+1) e) fun i e he=>h (i+1) e (by simpa using he)
  refine⟨e'::es',?_,by simp[k2],fun i x hx => ?_⟩
  .show GJ ((K+es.length+1)+1) H (e::es)=_;exact Gw.2 ⟨e',es',(IL (by omega)).2.1 h1,k1,rfl⟩
  .cases i with
   | zero=>simp at hx;subst hx;exact h2
   | succ i=>exact k3 i x (by simpa using hx)
theorem YU:∀(m:Nat) (s:Sh),shD s<=m->ShL s->∀(n:Nat) (S:Nat->Prop) (H:AF) (v:AV),Bv n S H v s->∃ w,rb (40 * m) H v=some w/\SrI m s w
 | 0,s,hm,_=>by cases s <;> simp[shD]at hm
 | m+1,s,hm,hL=>by
  intro n S H v hs;cases n with
  | zero=>exact hs.elim
  | succ n=>
  cases hL with
  | bit w h0 h1=>
   obtain⟨id,rfl,_,h3⟩:=hs;exact⟨_,Jr.2 ⟨false,_,_,h3,(IL (show 3<=40 * m+39 by omega)).2.1 (ws:=[.int .i64 w,.AH]) rfl,rfl⟩,rfl,h0,h1⟩
  | cons ns ss h1 h2 h3 h4 h5=>
   obtain⟨id,rfl,_,w,es,hid,hel,hsl,hw,hrow⟩:=hs;have hsp:∀ p∈ss,p.length<1048577:=fun p hp=>by have:=h4 p hp;omega
   rcases hw with⟨rfl,hnil⟩ | ⟨j,_,rfl,hj⟩
   .refine⟨_,Jr.2 ⟨false,_,_,hid,(IL (show 3<=40 * m+39 by omega)).2.1 (ws:=[.int .i64 0,.sl 2 true es]) rfl,rfl⟩,_,rfl,h1,⟨h2,by omega⟩,hsp,.inr ⟨true,es,rfl,by simp;omega,fun i c e hc he => ?_⟩⟩;obtain⟨hi,hce⟩:=Ae.1 hc;rw[D9]at hce;rw[List.length_zip]at hi;have hi:i<ns.length/\i<ss.length:=⟨by omega,by omega⟩;obtain⟨pv,rfl,hpt⟩:=hrow i e _ _ he (AW hi.1) (AW hi.2);have hp0:=hnil _ (Ap hi.2);subst hce;rcases hpt with⟨g1,rfl⟩ | ⟨q,ptrs,g1,_⟩
    .exact⟨.AH,rfl,.inl ⟨g1,rfl⟩⟩
    .exact absurd hp0 g1
   .obtain⟨es',k1,k2,k3⟩:=Js (K:=40 * m+14) (H:=H) es (P:=fun i e'=>∃ nm parts pv,ns[i]? = some nm/\ss[i]? = some parts/\e'=[.str nm,pv]/\SlR (fun s ys=>∃ u,ys=[u]/\SrI m s u) 1 parts pv) (fun i e he=>by
     have hi:=(Ae.1 he).1;have g1:ns[i]? = some (ns[i]'(by omega)):=AW (by omega);have g2:ss[i]? = some (ss[i]'(by omega)):=AW (by omega);obtain⟨parts,hparts⟩:∃ parts,parts=ss[i]'(by omega):=⟨_,rfl⟩;rw[<- hparts]at g2;obtain⟨pv,rfl,hpt⟩:=hrow i e _ _ he g1 g2;have hpm:=C2 g2;have hfin:∀ pv',rb (40 * m+12) H pv=some pv'->rbs (40 * m+14) H [.str (ns[i]'(by omega)),pv]=some [.str (ns[i]'(by omega)),pv']:=fun pv' h=>
      Eb.2 ⟨_,_,(EC rfl).2 ⟨rfl,rfl⟩,Eb.2 ⟨_,_,h,rfl,rfl⟩,rfl⟩
     rcases hpt with⟨q1,rfl⟩ | ⟨q,ptrs,q1,_,rfl,q2,q3,q4⟩
     .exact⟨_,hfin .AH ((EC rfl).2 ⟨rfl,rfl⟩),_,_,.AH,g1,g2,rfl,.inl ⟨q1,rfl⟩⟩
     .have hpl:=h4 _ hpm;obtain⟨ps',r1,r2,r3⟩:=Js (K:=40 * m+2) (H:=H) ptrs (P:=fun k e'=>∃ x u,parts[k]? = some x/\e'=[u]/\SrI m x u) (fun k p hp=>by
       have hk:=(Ae.1 hp).1;have hpk:parts[k]? = some (parts[k]'(by omega)):=AW (by omega);obtain⟨v,rfl,hv⟩:=q4 k p _ hp hpk;have hxm:=C2 hpk;have hd1:=Lx hxm hpm;have hmm:LW ss+1<=m+1:=hm;obtain⟨u,u1,u2⟩:=YU m _ (by omega) (h5 _ hpm _ hxm) n S H v hv;exact⟨[u],Eb.2 ⟨_,_,(IL (by omega)).1 u1,rfl,rfl⟩,_,u,hpk,rfl,u2⟩)
      refine⟨_,hfin (.sl 1 false ps') (JH.2 ⟨_,ptrs,ps',q2,q3,by omega,(IL (by omega)).2.2 r1,?_⟩),_,_,.sl 1 false ps',g1,g2,rfl,.inr ⟨false,ps',rfl,by omega,fun k x e' hx he' => ?_⟩⟩
      .rw[JB,DC (by omega)]
      .obtain⟨x',u,a1,rfl,a2⟩:=r3 k e' he';rw[hx]at a1;cases a1;exact⟨u,rfl,a2⟩)
    have hwrb:rb (40 * m+33) H (.hs j es.length 2 0 es.length false)=some (.sl 2 false es'):=by
     refine JH.2 ⟨_,es,es',hj,rfl,by omega,(IL (by omega)).2.2 k1,?_⟩;rw[JB,DC (by omega)]
    refine⟨.ro [.int .i64 0,.sl 2 false es'],Jr.2 ⟨false,_,_,hid,Eb.2 ⟨_,_,(EC rfl).2 ⟨rfl,rfl⟩,Eb.2 ⟨_,_,(IL (show 40 * m+33<=40 * m+37 by omega)).1 hwrb,rfl,rfl⟩,rfl⟩,rfl⟩,_,rfl,h1,⟨h2,by omega⟩,hsp,.inr ⟨false,es',rfl,by simp;omega,fun i c e hc he => ?_⟩⟩;obtain⟨nm,parts,pv,a1,a2,rfl,a3⟩:=k3 i e he;obtain⟨hi,hce⟩:=Ae.1 hc;rw[D9]at hce;rw[List.length_zip]at hi;have hi:i<ns.length/\i<ss.length:=⟨by omega,by omega⟩;rw[AW hi.1]at a1;rw[AW hi.2]at a2;cases a1;cases a2;subst hce;exact⟨pv,rfl,a3⟩
theorem YV{s:Sh}(hD:shD s<=41)(hL:ShL s){n:Nat}{S:Nat->Prop}{H:AF}{v:AV}(hs:Bv n S H v s):∃ w H',SrX s w/\H'.length=H.length/\∀ l,snap Ds v (H++l)=some (w,H'++l):=by
 obtain⟨w,h1,h2⟩:=YU 41 s hD hL n S H v hs;obtain⟨H',p,hsn⟩:=(Me _).1 H v w h1;exact⟨w,H',⟨41,h2⟩,p.len,fun l=>(hsn l).at (by decide)⟩
theorem Kl{s:Sh}(h:ShW s):NdX s:=by
 intro n;induction n generalizing s with
 | zero=>cases s <;> exact trivial
 | succ n ih=>
  cases h with
  | bit m h0 h1=>exact trivial
  | cons ns ss h1 h2 h3 h4 h5 h6 h7=>exact⟨h6,fun parts hp x hx=>ih (h5 _ hp _ hx)⟩
theorem _root_.Go.Am.SlR.flatE{α:Type}{R:α->List AV->Prop}{sz:Nat}{l:List α}{v:AV}(h:SlR R sz l v):v.still=true/\v.flat=true:=by
 rcases h with⟨_,rfl⟩ | ⟨ex,es,rfl,_⟩ <;> exact⟨rfl,rfl⟩
theorem ej{H:AF}{c:Nat}{cs:List HQ}{cv:AV}(h:H7 H c cs cv)(hl:cs.length<1048577):∃ w,rb 1048590 H cv=some w/\SlR I5 3 cs w:=by
 rcases h with⟨h1,rfl⟩ | ⟨ces,h0,rfl,h2,h3,h4⟩
 .exact⟨.AH,(EC rfl).2 ⟨rfl,rfl⟩,.inl ⟨h1,rfl⟩⟩
 .obtain⟨es',k1,k2,k3⟩:=Js (K:=4) (H:=H) ces (P:=fun j e'=>∃ t,cs[j]? = some t/\I5 t e') (fun j e he=>by
   have hj:=(Ae.1 he).1;have hcj:cs[j]? = some (cs[j]'(by omega)):=AW (by omega);have hr:=h4 j _ e hcj he;refine⟨e,?_,_,hcj,hr⟩;obtain rfl:=hr;rfl)
  refine⟨.sl 3 false es',JH.2 ⟨false,ces,es',h2,h3,by omega,(IL (by omega)).2.2 k1,by rw[JB,DC (by omega)]⟩,.inr ⟨false,es',rfl,by omega,fun j t e a b => ?_⟩⟩;obtain⟨t',a',hr⟩:=k3 j e b;rw[a]at a';cases a';exact hr
theorem UH{O:Nat->Prop}{H:AF}{B:Nat}{nv:AV}{ns:List BE}(h:CK O H B nv ns)(hc:∀ v∈ns,v.cases.length<1048577)(hl:ns.length<=400):∃ w,rb 1050000 H nv=some w/\SlR KB 4 ns w:=by
 rcases h with⟨h1,rfl⟩ | ⟨J,es,h0,_,_,rfl,h4,h5,cid,_,_,h8⟩
 .exact⟨.AH,(EC rfl).2 ⟨rfl,rfl⟩,.inl ⟨h1,rfl⟩⟩
 .obtain⟨es',k1,k2,k3⟩:=Js (K:=1048594) (H:=H) es (P:=fun i e'=>∃ v,ns[i]? = some v/\KB v e') (fun i e he=>by
   have hi:=(Ae.1 he).1;have hni:ns[i]? = some (ns[i]'(by omega)):=AW (by omega);obtain⟨pv,cv,rfl,g1,g2⟩:=h8 i _ e hni he;obtain⟨w,w1,w2⟩:=ej g2 (hc _ (C2 hni));obtain⟨f1,f2⟩:=g1.flatE;exact⟨_,Eb.2 ⟨_,_,(EC rfl).2 ⟨rfl,rfl⟩,Eb.2 ⟨_,_,(EC f1).2 ⟨f2,rfl⟩,Eb.2 ⟨_,_,(IL (by omega)).1 w1,Eb.2 ⟨_,_,(EC rfl).2 ⟨rfl,rfl⟩,rfl,rfl⟩,rfl⟩,rfl⟩,rfl⟩,_,hni,pv,w,rfl,g1,w2⟩)
  refine⟨.sl 4 false es',JH.2 ⟨false,es,es',h4,h5,by omega,(IL (by omega)).2.2 k1,by rw[JB,DC (by omega)]⟩,.inr ⟨false,es',rfl,by omega,fun j t e a b => ?_⟩⟩;obtain⟨t',a',hr⟩:=k3 j e b;rw[a]at a';cases a';exact hr
theorem UI{path:List Nat}:∀{x y:Sh×KV},ShW x.1->atK path x=some y->ShW y.1:=by
 induction path with
 | nil=>intro x y hx h;cases h;exact hx
 | cons i r ih=>
  intro x y hx h;rw[atK]at h;obtain⟨z,hz,h⟩:=Gd.1 h;refine ih ?_ h;obtain⟨s,k⟩:=x;cases s with
  | bit w=>cases hz
  | cons ns ss=>
   cases k with
   | unk no=>cases hz
   | num n=>cases hz
   | con c ps=>
    simp only[JF]at hz;cases hx with
    | cons _ _ h1 h2 h3 h4 h5 h6 h7=>
    obtain⟨hi,he⟩:=Ae.1 hz;rw[D9]at he;simp at hi;subst he;have hc:c<ss.length:=by
     apply Decidable.byContradiction;intro hh;rw[P9 (by omega)]at hi;simp at hi
    have hg:ss.getD c []=ss[c]:=(by simp[List.getD,AW hc]);simp only[hg];exact h5 _ (Ap hc) _ (Ap _)
theorem S0{rec:KV->Nat->Option (List BE)}:∀{kids:List ((Bytes×Int)×KV)} {b:Nat} {cs:List HQ} {ms:List BE},goF rec kids b=some (cs,ms)->cs.length=kids.length/\∀ P:BE->Prop,(∀ k b ns,rec k b=some ns->∀ v∈ns,P v)->∀ v∈ms,P v
 | [],b,cs,ms,h=>by rw[goF]at h;cases h;exact⟨rfl,fun P _ v hv=>by cases hv⟩
 | (lab,k)::r,b,cs,ms,h=>by
  rw[goF]at h;split at h
  .cases h
  .rename_i ns hns;split at h
   .cases h
   .rename_i cs' ms' hgo;cases h;obtain⟨i1,i2⟩:=S0 hgo;refine⟨by simp[i1],fun P hP v hv => ?_⟩;rcases Ks.1 hv with hv | hv
    .exact hP k b ns hns v hv
    .exact i2 P hP v hv
theorem Nv{arms:List TyV}{s:Sh}(hs:ShW s)(hal:arms.length<1048577):∀ n q b ns,BK arms s n q b=some ns->∀ v∈ns,v.cases.length<1048577
 | 0,_,_,_,h=>by cases h
 | n+1,q,b,ns,h=>by
  have ih:=Nv hs hal n;rw[BK]at h;split at h
  .cases h
  .split at h
   .cases h;intro v hv;simp at hv;subst hv;simp
   .split at h
    .cases h;intro v hv;simp at hv;subst hv;simp
    .rename_i a hfi _;obtain⟨path,hp⟩:∃ path,path=(Ez (arms.getD a default) q).getD []:=⟨_,rfl⟩;rw[<- hp]at h;have hkl:(GZ arms s q path).1.length<1048577:=by
      unfold GZ;split
      .rename_i nms ss k' hat;have:=UI (x:=(s,q)) hs hat;cases this with
       | cons _ _ h1 h2 h3 h4 h5 h6 h7=>simp;omega
      .rename_i w k' hat;simp only[Fa];exact Hh (DD (Jq _) (PE _ _)) hal
      .simp
     unfold GN at h;split at h
     .cases h
     .rename_i cs ms hgo;obtain⟨g1,g2⟩:=S0 hgo;have g2:=g2 _ ih;unfold N9 at h;split at h
      .cases h;intro v hv;rcases Cd.1 hv with rfl | hv
       .show cs.length<_;omega
       .exact g2 v hv
      .split at h
       .cases h
       .rename_i ms2 hm2;cases h;intro v hv;rcases Cd.1 hv with rfl | hv
        .show cs.length<_;omega
        .rcases Ks.1 hv with hv | hv
         .exact g2 v hv
         .exact ih _ _ _ hm2 v hv
theorem Ri{arms:List TyV}{s:Sh}{n:Nat}{q:KV}{b:Nat}{ns:List BE}(h:BK arms s n q b=some ns):ns≠[]:=by
 cases n with
 | zero=>cases h
 | succ n=>
  rw[BK]at h;split at h
  .cases h
  .split at h
   .cases h;simp
   .split at h
    .cases h;simp
    .unfold GN at h;split at h
     .cases h
     .unfold N9 at h;split at h
      .cases h;simp
      .split at h
       .cases h
       .cases h;simp
noncomputable def Nw(k:GA):Option (List BE):=BK k.arms (Eh k.data k.ty) 401 (noK (Eh k.data k.ty)) 0
theorem c27e{k:GA}{xs:List AV}(hx:Fb k xs)(hsk:SmT 1048577 k)(hE:¬ (BW k.data k.ty k.arms).2=0)(h:AF):AI MX (AE MX) 27 [.agg xs] h=some (.ret (.tup [.AH,.int .i64 (BW k.data k.ty k.arms).2]),h):=by
 obtain⟨v,H',h63,hold,_⟩:=c63 hx hsk [.var false xs];have hb0:H'[0]? = some (.var false xs):=hold 0 (by simp);obtain⟨dv,pv,av,rfl,hd,hp,ht,ha⟩:=hx.dest;have hne:((BW k.data k.ty k.arms).2 != 0)=true:=by simp[hE]
 exact Af J4 SC (by simp[AV.AA,AG,hd.AA,hp.AA,ha.AA]) rfl (hr:=_) (by simp[AJ,f27,h63,hne] <;> rfl) h
theorem Ip{s:Sh}{p:TyV}(h:GG s p=0):CA s p=0/\Bp p=true:=by
 unfold GG at h;split at h
 .cases h
 .rename_i h1;split at h
  .rename_i h2;exact⟨h2,by simpa using h1⟩
  .rename_i h2;exact absurd h h2
theorem Nx{p:TyV}(h:Bp p=true):dp p<1048577:=by
 rw[Nh]at h;omega
theorem c27{k:GA}{xs:List AV}(hx:Fb k xs)(hsk:SmT 1048577 k)(hE:(BW k.data k.ty k.arms).2=0):match Nw k with
 | none=>∀ h,AI MX (AE MX) 27 [.agg xs] h=some (.ret (.tup [.AH,.int .i64 8]),h)
 | some l=>∃ w,SlR KB 4 l w/\l.length<=400/\(∀ v∈l,v.cases.length<1048577)/\∀ h,AI MX (AE MX) 27 [.agg xs] h=some (.ret (.tup [w,.int .i64 0]),h):=by
 obtain⟨v,H1,h63,hold,hok⟩:=c63 hx hsk [.var false xs];obtain⟨n,S,hS,hsrt⟩:=hok hE;obtain⟨hsw,hsh,hvt,hdd⟩:=No hsk hE;have hb0:H1[0]? = some (.var false xs):=hold 0 (by simp);have hb0l:=(Ae.1 hb0).1;obtain⟨hbo,hpos,hl12,hpat⟩:=P2 hE;have hD:shD (Eh k.data k.ty)<=41:=by
  obtain⟨a,b,c⟩:=LP hbo;unfold E2 at hbo;rw[if_pos a]at hbo;unfold HA at hbo;split at hbo
  .split at hbo
   .rename_i hz;have hD:=YJ k.data 40 k.ty 0 _ c hz;omega
   .rename_i hz;exact absurd hbo hz
  .rename_i hz;exact absurd hbo hz
 obtain⟨sv,H2,hsv,hl2,hsn⟩:=YV hD (ei hdd hsh hvt) hsrt;obtain⟨m,hsi⟩:=hsv;obtain⟨kv,hkv,h76⟩:=c76 m _ _ hsi;have hvh:v.AA=false:=by obtain⟨id,rfl⟩:=hsrt.hp;rfl
 obtain⟨dv,pv,av,rfl,hd,hp,ht,ha⟩:=hx.dest;obtain⟨s1,s2,s3,s4⟩:=hsk;have h76':AI MX (AE MX) 76 [v] (H1++[.var false [av,.AH,.bool false]])=some (.ret kv,H2++[.var false [av,.AH,.bool false]]):=FA (by simp[MV]) (by simp[A4,hvh,hsn]) (by simp[SrX.AA ⟨m,hsi⟩]) (h76 _);have hB:Ft (fun x=>x=H1.length) (H2++[.var false [av,.AH,.bool false]]) H1.length av false []:=⟨rfl,fun x hx=>by subst hx;simp[hl2],.AH,by rw[<- hl2,BR],.inl ⟨rfl,rfl⟩⟩;have hno:Cz (noK (Eh k.data k.ty))+20 * 401<=100000:=by rw[Nt];decide
 obtain⟨r,O',H3,lg,new,h75,hb3,hf3,_,hlf⟩:=c75 (B:=H1.length) (av:=av) (Kl hsw) ha (by omega) s4 (fun p hp=>(Ip (hpat p hp)).1) (fun p hp=>Nx (Ip (hpat p hp)).2) 401 _ kv _ _ false [] hkv hno hB (fun _=>by simp);obtain⟨hr0,hlF,hlT⟩:=hlf rfl;rw[FE]at hb3;obtain⟨_,hO3,nv,hB3,hnod⟩:=hb3;obtain⟨b1,b2⟩:∃ b1,b1=H1.length:=⟨_,rfl⟩;rw[<- b2]at h75 hB3 hnod;have hnrefs:([AV.agg [dv,.int .i64 k.ty.k,.int .i64 k.ty.v,.str k.ty.nm,pv,av]]:List AV).all AV.AA=true:=by simp[AV.AA,AG,hd.AA,hp.AA,ha.AA]
 have hac:=ha.cells;cases lg with
 | true=>
  have:=hlT rfl;rw[show Nw k=none from this];exact fun h=>Af J4 SC hnrefs rfl (hr:=H3) (by simp[AJ,f27,h63,hE,hb0,<- b2,h76',h75,hB3,hac]) h
 | false=>
  have htr:=hlF rfl;rw[show Nw k=some new from htr];have hcs:=Nv hsw s3 _ _ _ _ htr;have hlen:=Hf _ _ _ _ _ _ htr;simp only[IB,D1]at hlen;obtain⟨w,hw,hrep⟩:=UH hnod hcs hlen;obtain⟨H4,_,hsn4⟩:=(Me _).1 H3 nv w hw;have hsn4:=hsn4 [];rw[IX,IX]at hsn4;have hnvr:nv.AA=false:=by
   rcases hnod with⟨h,_⟩ | ⟨_,_,_,_,_,rfl,_⟩
   .exact absurd h (Ri htr)
   .rfl
  have hsnT:BB (1050000+4) (.tup [nv,.int .i64 0]) H3 (.tup [w,.int .i64 0]) H4:=(BB.tup (by simp[AG,hnvr]) (.cons hsn4 (.cons (.flat rfl _) (.nil _)))).mono (by simp);refine⟨w,hrep,hlen,hcs,fun h=>Hu J4 SC hnrefs hsnT (by decide) (by simp[AV.AA,AG,hrep.AA]) (fun h=>by simp[AV.AA,AG,hnvr]at h) (hr:=H3) (by simp[AJ,f27,h63,hE,hb0,<- b2,h76',h75,hB3,hac]) h⟩
inductive B4:Sh->KV->List AV->Prop where
 | unk {s:Sh} {no:List Int} {nov:AV} (hn:SlR Az 1 no nov) (hb:no.length<1048577):B4 s (.unk no) [.bool false,.str [],.int .i64 0,nov,.AH]
 | num {w m:Int}:B4 (.bit w) (.num m) [.bool true,.str [],.int .i64 m,.AH,.AH]
 | con {ns:List Bytes} {ss:List (List Sh)} {i:Nat} {parts:List Sh} {ps:List KV} {pv:AV} (es:List (List AV)) (hi:ss[i]? = some parts) (hl:ps.length=parts.length) (hv:es.length=ps.length)
  (hp:(es=[]/\pv=.AH)\/∃ ex,pv=.sl 5 ex es) (h:∀(j:Nat) s k e,parts[j]? = some s->ps[j]? = some k->es[j]? = some e->B4 s k e) :
  B4 (.cons ns ss) (.con i ps) [.bool true,.str (ns.getD i []),.int .i64 0,.AH,pv]
def PN(c:Sh×KV)(xs:List AV):Prop:=B4 c.1 c.2 xs
theorem B4.form{s:Sh}{k:KV}{e:List AV}(h:B4 s k e):∃ b n m nv pv,e=[.bool b,.str n,.int .i64 m,nv,pv]/\nv.AA=true/\pv.AA=true/\nv.cells=some [nv]/\pv.cells=some [pv]:=by
 cases h with
 | unk hn hb=>exact⟨_,_,_,_,_,rfl,hn.AA,rfl,hn.cells,rfl⟩
 | num=>exact⟨_,_,_,_,_,rfl,rfl,rfl,rfl,rfl⟩
 | con es hi hl hv hp h=>
  rcases hp with⟨_,rfl⟩ | ⟨ex,rfl⟩ <;> exact⟨_,_,_,_,_,rfl,rfl,rfl,rfl,rfl⟩
theorem B4.AG{s:Sh}{k:KV}{e:List AV}(h:B4 s k e):AG e=true:=by
 obtain⟨b,n,m,nv,pv,rfl,h1,h2,_⟩:=h.form;simp[Am.AG,AV.AA,h1,h2]
theorem B4.intro{ns:List Bytes}{ss:List (List Sh)}{i:Nat}{parts:List Sh}{ps:List KV}{pv:AV}(hi:ss[i]? = some parts)(hl:ps.length=parts.length)(h:SlR PN 5 (parts.zip ps) pv):B4 (.cons ns ss) (.con i ps) [.bool true,.str (ns.getD i []),.int .i64 0,.AH,pv]:=by
 have hz:(parts.zip ps).length=ps.length:=by simp;omega
 rcases h with⟨h0,rfl⟩ | ⟨ex,es,rfl,h1,h2⟩
 .have hp0:ps=[]:=E5 (by rw[<- hz,h0];rfl);subst hp0;exact .con [] hi hl rfl (.inl ⟨rfl,rfl⟩) (fun j s k v _ _ h=>by simp at h)
 .refine .con es hi hl (by omega) (.inr ⟨ex,rfl⟩) fun j s k e a b c => ?_
  have hj:=(Ae.1 b).1;have hzj:(parts.zip ps)[j]? = some (s,k):=by
   rw[List.getElem?_zip_eq_some];exact⟨a,b⟩
  exact h2 j _ e hzj c
theorem B4.dest{s:Sh}{i:Nat}{ps:List KV}{e:List AV}(h:B4 s (.con i ps) e):∃ ns ss parts pv,s=.cons ns ss/\e=[.bool true,.str (ns.getD i []),.int .i64 0,.AH,pv]/\ss[i]? = some parts/\ps.length=parts.length/\SlR PN 5 (parts.zip ps) pv:=by
 cases h with
 | @con ns ss _ parts _ pv es hi hl hv hp h=>
  refine⟨ns,ss,parts,pv,rfl,rfl,hi,hl,?_⟩;have hz:(parts.zip ps).length=ps.length:=by simp;omega
  rcases hp with⟨rfl,rfl⟩ | ⟨ex,rfl⟩
  .exact .inl ⟨E5 (by rw[hz,<- hv];rfl),rfl⟩
  .refine .inr ⟨ex,es,rfl,by omega,fun j c e a b => ?_⟩;obtain⟨s,k⟩:=c;rw[List.getElem?_zip_eq_some]at a;exact h j s k e a.1 a.2 b
section
variable{lv:AV}
theorem c141(hlv:lv.AA=true){ns:List Bytes}{ss:List (List Sh)}{i:Nat}{parts:List Sh}(hi:ss[i]? = some parts){c:CS}{ce:List AV}(hc:EY c ce)(hfl:c.fields.length<1048577)(hln:parts.length=c.fields.length)(hnm:ns.getD i []=c.nm)
 (ih:∀(j:Nat) (h1:j<parts.length) (h2:j<c.fields.length) (tx:List AV),AR c.fields[j].ty tx->∃ e,B4 parts[j] (noK parts[j]) e/\∀ h,AI MX (AE MX) 78 [lv,.agg tx] h=some (.ret (.agg e),h)) :
 ∃ e,B4 (.cons ns ss) (.con i (parts.map noK)) e/\∀ h,AI MX (AE MX) 141 [lv,.agg ce] h=some (.ret (.agg e),h):=by
 obtain⟨fv,rfl,hfv⟩:=hc.dest;have hb:=U9;simp[Aa,An,f141]at hb;obtain⟨e,st,hlp,hq⟩:=AU (M:=MX) (fid:=141) (N:=31) (C:=AE MX) (c:=AL f141 0) (n:=parts.length)
  (fun j (b:AV×AF×List (List AV))=>([(0,lv),(3,.hp 0 0),(4,.hp 1 0),(5,.hp 2 0),(6,.int .i64 j)],.var false [.str c.nm,fv]::.var false [.bool false,.str [],.int .i64 0,.AH,.AH]::.var false [.bool true,.str c.nm,.int .i64 0,.AH,b.1]::b.2.1))
  (fun j b=>Ai 5 3 b.2.1 b.1 b.2.2/\b.2.2.length=(parts.take j).length/\∀(m:Nat) s e,(parts.take j)[m]? = some s->b.2.2[m]? = some e->B4 s (noK s) e)
  (fun r=>∃ b:AV×AF×List (List AV),r=(.ext 0,([(0,lv),(3,.hp 0 0),(4,.hp 1 0),(5,.hp 2 0),(6,.int .i64 parts.length),(14,.bool false)],.var false [.str c.nm,fv]::.var false [.bool false,.str [],.int .i64 0,.AH,.AH]::.var false [.bool true,.str c.nm,.int .i64 0,.AH,b.1]::b.2.1)) /\
    Ai 5 3 b.2.1 b.1 b.2.2/\b.2.2.length=parts.length/\∀(m:Nat) s e,parts[m]? = some s->b.2.2[m]? = some e->B4 s (noK s) e) (fun j b hj hI=>by
    obtain⟨w,rest,es⟩:=b;obtain⟨i1,i2,i3⟩:=hI;simp only at i1 i2 i3;have hjf:j<c.fields.length:=(by omega);obtain⟨fe,hfe,hfR⟩:=hfv.ix hjf;obtain⟨tx,rfl,htx⟩:=hfR;obtain⟨e5,he5,hcall⟩:=ih j hj hjf tx htx;obtain⟨j1,j2⟩:=E9 (R:=fun s e=>B4 s (noK s) e) i2 i3 (a:=parts[j]) (e:=e5) he5;rw[Cf hj]at j1 j2;have hlen:es.length<16777215:=(by rw[i2];simp;omega);obtain⟨a',rest',hap,hacc⟩:=Ai.push (byt:=80) (P:=[.var false [.str c.nm,fv],.var false [.bool false,.str [],.int .i64 0,.AH,.AH],.var false [.bool true,.str c.nm,.int .i64 0,.AH,w]]) e5 true i1 (by decide) (by decide) hlen;simp only[Fk,FE]at hap;obtain⟨q1,rfl,hq1⟩:=htx.Ab;obtain⟨x1,x2,x3,x4,x5,rfl,n4,n5,k4,k5⟩:=he5.form;have hca:=hacc.cells;have hj':=AZ hjf;have hw:=AY hj (by omega);exact .inl ⟨(a',rest',es++[[.bool x1,.str x2,.int .i64 x3,x4,x5]]),by simp[f141,hfv.len,hj',hfe,hcall,hap,hca,hw,bsA,Aq,hb,AG,AV.AA,hlv,hq1.AA,n4,n5,k4,k5,hln],hacc,j1,j2⟩) (fun b hI=>by
    obtain⟨w,rest,es⟩:=b;obtain⟨i1,i2,i3⟩:=hI;rw[HL]at i2 i3;exact⟨_,_,by simp[f141,hfv.len,hln] <;> first | exact⟨rfl,rfl⟩ | rfl,by simp,(w,rest,es),by simp[hln],i1,i2,i3⟩) (.AH,[],[]) ⟨Ai.nil _ _ _,by simp,fun m s e h=>by simp at h⟩
 obtain⟨⟨w,rest,es⟩,hq,q1,q2,q3⟩:=hq;cases hq;simp[f141]at hlp;simp only at q1 q2 q3;have hwc:=q1.cells;obtain⟨v',rest',s1,s2,s3⟩:=J6 (P:=[.var false [.str c.nm,fv],.var false [.bool true,.str c.nm,.int .i64 0,.AH,w],.var false [.bool true,.str c.nm,.int .i64 0,.AH,w]]) (R:=fun s e=>B4 s (noK s) e) (fun s e h=>h.AG) q1 q2 q3;have hrep:B4 (.cons ns ss) (.con i (parts.map noK)) [.bool true,.str c.nm,.int .i64 0,.AH,v']:=by
  rw[<- hnm];refine B4.intro hi (by simp) ?_;rcases s2 with⟨h0,h1⟩ | ⟨ex,es',h0,h1,h2⟩
  .subst h0;exact .inl ⟨rfl,h1⟩
  .refine .inr ⟨ex,es',h0,by simp[h1],fun m c e g1 g2 => ?_⟩;have hm:m<parts.length:=by
    have:=(Ae.1 g1).1;simp at this;exact this
   rw[AW (by simp;exact hm),D9]at g1;cases g1;simpa[PN]using h2 m _ e (AW hm) g2
 refine⟨_,hrep,fun h => ?_⟩;have hrun:∃ hr,AJ MX 141 [lv,.agg [.str c.nm,fv]] []=some (.ret (.agg [.bool true,.str c.nm,.int .i64 0,.AH,w]),.var false [.str c.nm,fv]::.var false [.bool true,.str c.nm,.int .i64 0,.AH,w]::.var false [.bool true,.str c.nm,.int .i64 0,.AH,w]::hr)/\hr=rest:=⟨_,by simp[AJ,f141,hlp,hwc] <;> rfl,rfl⟩;obtain⟨hr,hrun,rfl⟩:=hrun;have hn:([lv,AV.agg [.str c.nm,fv]]:List AV).all AV.AA=true:=by simp[AV.AA,AG,hlv,hfv.AA]
 cases hwn:w.AA with
 | true=>
  have:=s3 hwn;subst this;exact Af Qp TV hn (by simp[AV.AA,AG,hwn]) hrun h
 | false=>
  exact LK Qp TV hn (by simp[AV.AA,AG,hwn]) ((BB.agg (by simp[AG,AV.AA,hwn]) (.cons (.flat rfl _) (.cons (.flat rfl _) (.cons (.flat rfl _) (.cons (.flat rfl _) (.cons s1 (.nil _))))))).at (by decide)) (by simp[AV.AA,hrep.AG]) hrun h
end
section
variable{l:List AK}{lv:AV}(hl:SlR Ac 3 l lv)(hsl:SmL 1048577 l)(hok:DOK l)
include hl hsl hok
theorem UJ{t:TyV}(hst:Sm 1048577 t)(hv:VT l t){ns:List Bytes}{ss:List (List Sh)}(hs:Em l t (.cons ns ss))
 (ih:∀ p∈ss,∀ s∈p,∀(t:TyV) (xs:List AV),AR t xs->Sm 1048577 t->VT l t->Em l t s->∃ e,B4 s (noK s) e/\∀ h,AI MX (AE MX) 78 [lv,.agg xs] h=some (.ret (.agg e),h))
 {i:Nat} (hi:i<(AP l t).length) {ce:List AV} (hc:EY (AP l t)[i] ce):∃ e,B4 (.cons ns ss) (.con i ((ss.getD i []).map noK)) e/\∀ h,AI MX (AE MX) 141 [lv,.agg ce] h=some (.ret (.agg e),h):=by
 cases hs with
 | cons _ _ _ hb hk hnn hll hs0 hf0=>
  have hi2:i<ss.length:=by omega
  have hgd:ss.getD i []=ss[i]:=by simp[List.getD,AW hi2]
  have hcsm:=Gv hsl hst (by decide);have hvf:=hok.fld t hv hk hb;have hsc:=hcsm.2 _ (Ap hi);have hsl2:=hs0 i _ _ (AW hi) (AW hi2);rw[hgd];refine c141 hl.AA (AW hi2) hc hsc.2.1 hsl2 ?_ fun j h1 h2 tx htx => ?_
  .simp[hnn,List.getD,AW hi]
  .have hmf:=Ap h2;exact ih _ (Ap hi2) _ (Ap h1) _ tx htx (hsc.2.2 _ hmf).2 (hvf _ (Ap hi) _ hmf) (hf0 i _ _ j _ _ (AW hi) (AW hi2) (AW h2) (AW h1))
theorem c78(s:Sh):∀(t:TyV) (xs:List AV),AR t xs->Sm 1048577 t->VT l t->Em l t s->∃ e,B4 s (noK s) e/\∀ h,AI MX (AE MX) 78 [lv,.agg xs] h=some (.ret (.agg e),h):=by
 induction s using Sh.ind with
 | hb n=>
  intro t xs hx hst hv hs;have hB:=c66 hx;have hn:([lv,AV.agg xs]:List AV).all AV.AA=true:=by simp[AV.AA,hx.AG,hl.AA]
  cases hs with
  | bit _ hb hw h2=>
   obtain⟨pv,rfl,hp⟩:=hx.Ab;refine⟨_,.unk (nov:=.AH) (.inl ⟨rfl,rfl⟩) (by decide),fun h=>Af Pm SF hn (by rfl) (hr:=_) (by simp[AJ,f78,hB,hb] <;> rfl) h⟩
 | hc ns ss ih=>
  intro t xs hx hst hv hs;have hB:=c66 hx;have hn:([lv,AV.agg xs]:List AV).all AV.AA=true:=by simp[AV.AA,hx.AG,hl.AA]
  have hs0:=hs;cases hs with
  | cons _ _ _ hb hk hnn hll hsp hf0=>
   obtain⟨w,hw,h68⟩:=c68 hl hsl hx hst (hok.has t hv hk hb);have hwl:=hw.len;by_cases h1:ss.length=1
   .have h1':(((AP l t).length:Int) == 1)=true:=(by rw[<- hll,h1];rfl);obtain⟨parts,rfl⟩:∃ p,ss=[p]:=by
     match ss,h1 with
     | [p],_=>exact⟨p,rfl⟩
    have hi0:0<(AP l t).length:=(by omega);obtain⟨ce,hce,hcR⟩:=hw.ix hi0;obtain⟨e,he,h141⟩:=UJ hl hsl hok hst hv hs0 ih hi0 hcR;have hce0:∀ kd,ixA 2 w (.int kd 0)=some (.ro ce):=fun kd=>hce kd
    have hnk:noK (.cons ns [parts])=.con 0 (parts.map noK):=(by rw[noK,UC,LZ]);obtain⟨x1,x2,x3,x4,x5,rfl,n4,n5,k4,k5⟩:=he.form;obtain⟨fv,rfl,hfv⟩:=hcR.dest;obtain⟨pv,rfl,hp⟩:=hx.Ab;exact⟨_,by rw[hnk];exact he,fun h=>Af Pm SF hn (by simp[AV.AA,he.AG]) (hr:=_) (by simp[AJ,f78,hB,hb,h68,hwl,h1',hce0,h141,k4,k5] <;> rfl) h⟩
   .have hno:noK (.cons ns ss)=.unk []:=by
     match ss,h1 with
     | [],_=>rfl
     | _::_::_,_=>rfl
    have h1':(((AP l t).length:Int) == 1)=false:=(by rw[beq_eq_false_iff_ne];omega);obtain⟨pv,rfl,hp⟩:=hx.Ab;exact⟨_,by rw[hno];exact .unk (nov:=.AH) (.inl ⟨rfl,rfl⟩) (by decide),fun h=>Af Pm SF hn (by rfl) (hr:=_) (by simp[AJ,f78,hB,hb,h68,hwl,h1'] <;> rfl) h⟩
end
structure TS(l:List AK)(t:TyV)(xs:List AV)(s:Sh):Prop where
 rep:AR t xs
 sm:Sm 1048577 t
 vt:VT l t
 sh:Em l t s
structure TSC(l:List AK)(lv:AV)(xs:List AV)(ns:List Bytes)(ss:List (List Sh))(w:AV):Prop where
 bit:∀ h,AI MX (AE MX) 66 [.agg xs] h=some (.ret (.bool false),h)
 all:∀ h,AI MX (AE MX) 68 [lv,.agg xs] h=some (.ret w,h)
 nr:w.AA=true
 len:ss.length=ns.length
 lenw:∀ H,BI w H=some (.val (.int .i64 ns.length) H)
 lts:ns.length<1048577
 find:∀ nm h,AI MX (AE MX) 72 [w,.str nm] h=some (.ret (.int .i64 (ixI (ns.findIdx? (fun x=>x == nm)))),h)
 con:∀(i:Nat) (parts:List Sh),ss[i]? = some parts->∃ fv fs,(∀ kd,ixA 2 w (.int kd i)=some (.ro [.str (ns.getD i []),fv]))/\SlR Bo 5 fs fv/\fs.length=parts.length/\fs.length<1048577/\∀(j:Nat) (hj:j<fs.length) (hj2:j<parts.length) (tx:List AV),AR fs[j].ty tx->TS l fs[j].ty tx parts[j]
section
variable{l:List AK}{lv:AV}(hl:SlR Ac 3 l lv)(hsl:SmL 1048577 l)(hok:DOK l)
include hl hsl hok
theorem TS.cons{t:TyV}{xs:List AV}{ns:List Bytes}{ss:List (List Sh)}(h:TS l t xs (.cons ns ss)):∃ w,TSC l lv xs ns ss w:=by
 obtain⟨hx,hst,hv,hs⟩:=h;cases hs with
 | cons _ _ _ hb hk hnn hll hs0 hf0=>
  obtain⟨w,hw,h68⟩:=c68 hl hsl hx hst (hok.has t hv hk hb);have hcsm:=Gv hsl hst (by decide);have hvf:=hok.fld t hv hk hb;have hnl:ns.length=(AP l t).length:=by rw[hnn,Fa]
  refine⟨w,fun h=>by rw[c66 hx,hb],h68,hw.AA,by omega,by rw[hnl];exact hw.len,by rw[hnl];exact hcsm.1,fun nm h => ?_,fun i parts hi => ?_⟩
  .have hfi:ns.findIdx? (fun x=>x == nm)=(AP l t).findIdx? (fun x=>x.nm == nm):=(by rw[hnn,List.findIdx?_map];rfl);rw[hfi];exact c72 nm hw hcsm.1 h
  .obtain⟨hi2,rfl⟩:=Ae.1 hi;have hi1:i<(AP l t).length:=(by omega);obtain⟨ce,hce,hcR⟩:=hw.ix hi1;obtain⟨fv,rfl,hfv⟩:=hcR.dest;have hsc:=hcsm.2 _ (Ap hi1);have hsl2:=hs0 i _ _ (AW hi1) (AW hi2);have hnm:ns.getD i []=(AP l t)[i].nm:=(by simp[hnn,List.getD,AW hi1]);refine⟨fv,(AP l t)[i].fields,fun kd=>by rw[hnm];exact hce kd,hfv,hsl2.symm,hsc.2.1,fun j h1 h2 tx htx => ?_⟩;have hmf:=Ap h1;exact⟨htx,(hsc.2.2 _ hmf).2,hvf _ (Ap hi1) _ hmf,hf0 i _ _ j _ _ (AW hi1) (AW hi2) (AW h1) (AW h2)⟩
omit hl hsl in
theorem TS.bit{t:TyV}{xs:List AV}{n:Int}(h:TS l t xs (.bit n)):(∀ h,AI MX (AE MX) 66 [.agg xs] h=some (.ret (.bool true),h))/\1<=n/\n<=16/\∃ a b c pv,xs=[a,b,c,pv]/\AG xs=true/\(∃ q1 q2 q3,∀ kd,ixA 4 pv (.int kd 0)=some (.ro [q1,.int .i64 n,q2,q3])):=by
 obtain⟨hx,hst,hv,hs⟩:=h;have hB:=c66 hx;have hxn:=hx.AG;cases hs with
 | bit _ hb hw h2=>
  have hb1:=hok.bit t hv hb;obtain⟨pv,rfl,hp⟩:=hx.Ab;obtain⟨e,he,hR⟩:=hp.ix (i:=0) (by omega);have hag:Bu t=t.ps[0]'(by omega):=by simp[Bu,hb1]
  rw[<- hag]at hR;obtain⟨qv2,rfl,hq2⟩:=hR.Ab;exact⟨fun h=>by rw[hB,hb],hw.1,hw.2,_,_,_,pv,rfl,hxn,_,_,_,fun kd=>he kd⟩
omit hl hsl in
theorem c140{t:TyV}{xs:List AV}{n:Int}(h:TS l t xs (.bit n)){q:KV}{kx:List AV}(hk:B4 (.bit n) q kx)(H:AF):AI MX (AE MX) 140 [.agg xs,.agg kx] H=some (.ret (.int .i64 (Gj n q)),H):=by
 obtain⟨_,h1,h2,a,b,c,pv,rfl,hxn,q1,q2,q3,hix⟩:=h.bit hok;have hix0:=hix .i64;have h67:=c67 n (by omega) (by omega);have hkn:=hk.AG;have hnq:∃ x1 x2 x3 nv pv',kx=[.bool x1,.str x2,.int .i64 x3,nv,pv']/\(∀ H,BI nv H=some (.val (.int .i64 (DB q).length) H))/\nv.AA=true/\Ca (some nv)=.st/\(DB q).length<1048577:=by
  cases hk with
  | unk hn hb=>exact⟨_,_,_,_,_,rfl,hn.len,hn.AA,hn.Ca,hb⟩
  | num=>exact⟨_,_,_,_,_,rfl,fun H=>rfl,rfl,rfl,by simp[DB]⟩
 obtain⟨x1,x2,x3,nv,pv',rfl,hlen,hnn,hkd,hno⟩:=hnq;have hb:=U8;simp[Aa,An,f140]at hb;have hp:(2:Nat) ^ n.toNat<=2 ^ 16:=OE (by decide) (by omega);obtain⟨P,hP⟩:∃ P:Nat,P=2 ^ n.toNat:=⟨_,rfl⟩;rw[<- hP]at hp h67;obtain⟨L,hL⟩:∃ L:Nat,L=(DB q).length:=⟨_,rfl⟩;have hw:wr .i64 ((P:Int) - (L:Int))=(P:Int) - L:=YK (by omega) (by omega);unfold Gj;rw[<- hP,<- hL];rw[<- hL]at hlen;exact Af Qo Zi (by simp[AV.AA,hxn,hkn]) rfl (hr:=_) (by simp[AJ,f140,hix0,h67,hlen,hw,hb,hkd,AG,AV.AA,hnn] <;> rfl) H
end
section
variable{l:List AK}{lv:AV}(hl:SlR Ac 3 l lv)(hsl:SmL 1048577 l)(hok:DOK l)
include hl hsl hok
theorem c134(p:TyV):∀(s:Sh) (q:KV) (t:TyV) (xs px kx:List AV),TS l t xs s->NdX s->B4 s q kx->AR p px->Sm 1048577 p->CA s p=0->∀ h,AI MX (AE MX) 134 [lv,.agg xs,.agg px,.agg kx] h=some (.ret (.bool (CU p s q)),h):=by
 have hlv:=hl.AA;induction p using TyV.ind with
 | h k v nm ps ih=>
  intro s q t xs px kx ht hnd hk hx hsm hpe h;obtain⟨s1,s2,s3⟩:=hsm.dest;have htn:=ht.rep.AG;have hkn:=hk.AG;have hn:([lv,AV.agg xs,AV.agg px,AV.agg kx]:List AV).all AV.AA=true:=by simp[AV.AA,hlv,htn,hkn,hx.AG]
  suffices hh:∃ hr,AJ MX 134 [lv,.agg xs,.agg px,.agg kx] []=some (.ret (.bool (CU (.mk k v nm ps) s q)),hr) by
   obtain⟨hr,hh⟩:=hh;exact Af Wp Ze hn rfl hh h
  have ht0:=ht;have hB:=ht.rep;obtain⟨tv,rfl,htv⟩:=hB.Ab;obtain⟨pv,rfl,hp⟩:=hx.dest;rcases I3 hpe with⟨rfl,rfl⟩ | ⟨rfl,rfl⟩ | ⟨rfl,rfl,n,rfl⟩ | ⟨rfl,_⟩
  .obtain⟨y1,y2,y3,y4,y5,rfl,z4,z5,w4,w5⟩:=hk.form;exact⟨_,by simp[AJ,f134,CU] <;> rfl⟩
  .obtain⟨y1,y2,y3,y4,y5,rfl,z4,z5,w4,w5⟩:=hk.form;exact⟨_,by simp[AJ,f134,CU] <;> rfl⟩
  .have hnum:CU (.mk 3 v nm []) (.bit n) q=Vf v q:=(by simp[CU]);rw[hnum];cases hk with
   | unk hno hnl=>
    rename_i no nov;have h40:=c40 hno hnl v;cases hct:no.contains v <;> rw[hct]at h40 <;> exact⟨_,by simp[AJ,f134,h40,Vf,hct,-List.contains_eq_mem] <;> rfl⟩
   | num=>
    rename_i m;exact⟨_,by simp[AJ,f134,Vf] <;> rfl⟩
  .obtain⟨ns,ss,j,rfl,hj,hpl,hpes⟩:=FO hpe;cases q with
   | num n=>cases hk
   | unk no=>
    cases hk with
    | unk hno hnl=>
     have hm:CU (.mk 2 v nm ps) (.cons ns ss) (.unk no)=true:=(by simp[CU,Jo]);rw[hm];exact⟨_,by simp[AJ,f134] <;> rfl⟩
   | con i qs=>
    obtain⟨ns',ss',parts,qv,e1,rfl,hc,hql,hq⟩:=hk.dest;cases e1;obtain⟨w,hw⟩:=ht0.cons hl hsl hok;have hil:=(Ae.1 hc).1;have hgp:ss.getD i []=parts:=(by simp[List.getD,hc]);have hm:CU (.mk 2 v nm ps) (.cons ns ss) (.con i qs)=((ns.getD i [] == nm)&&GP CU ps parts qs):=(by simp[CU,Jo,KC,List.getD,hc]);rw[hm];have hlw:=hw.len;obtain⟨C,hC⟩:∃ C,C=ns.getD i []:=⟨_,rfl⟩;rw[<- hC];cases hnm:C == nm with
    | false=>
     have hne:(C != nm)=true:=(by simp[bne,hnm]);exact⟨_,by simp[AJ,f134,hnm] <;> rfl⟩
    | true=>
     have hne:(C != nm)=false:=(by simp[bne,hnm]);have hnm':ns.getD i []=nm:=(by rw[<- hC];simpa using hnm);have hij:i=j:=Cy hnd.nodup hj (by omega) hnm';subst hij;rw[hgp]at hpl hpes;obtain⟨fv,fs,hfx,hfv,hfl,hfs,hft⟩:=hw.con i parts hc;have h72:=hw.find nm;rw[hj]at h72;have h68:=hw.all;have hwn:=hw.nr;have hfx0:=hfx .i64;have hb16:=SJ;simp[Aa,An,f134]at hb16;rw[<- hC]at hfx0;obtain⟨e,st,hlp,hq'⟩:=AU (M:=MX) (fid:=134) (N:=75) (C:=AE MX) (c:=AL f134 0) (n:=ps.length)
      (fun j (_:Unit)=>([(0,lv),(6,.hp 1 0),(7,.hp 2 0),(10,fv),(11,.int .i64 j)],[.var false [.int .i64 t.k,.int .i64 t.v,.str t.nm,tv],.var false [.int .i64 2,.int .i64 v,.str nm,pv],.var false [.bool true,.str C,.int .i64 0,.AH,qv]]))
      (fun j _=>GP CU ps parts qs=GP CU (ps.drop j) (parts.drop j) (qs.drop j))
      (fun r=>(r=(.ext 1,([(0,lv),(6,.hp 1 0),(7,.hp 2 0),(10,fv),(11,.int .i64 ps.length),(54,.bool false)],[.var false [.int .i64 t.k,.int .i64 t.v,.str t.nm,tv],.var false [.int .i64 2,.int .i64 v,.str nm,pv],.var false [.bool true,.str C,.int .i64 0,.AH,qv]]))/\GP CU ps parts qs=true) \/
        (r=(.ret,([(8,.bool false)],[.var false [.int .i64 t.k,.int .i64 t.v,.str t.nm,tv],.var false [.int .i64 2,.int .i64 v,.str nm,pv],.var false [.bool true,.str C,.int .i64 0,.AH,qv]]))/\GP CU ps parts qs=false)) (fun m b hm hI=>by
        obtain⟨e,he,hR⟩:=hp.ix hm;have hmp:m<parts.length:=(by omega);have hmq:m<qs.length:=(by omega);have hmf:m<fs.length:=(by omega);obtain⟨e2,he2,hw2⟩:=hq.ix (i:=m) (by simp;omega);obtain⟨e3,he3,tx,rfl,hw3⟩:=hfv.ix hmf;rw[D9]at hw2;have hm':=AZ hm;have hwm:=AY hm s2;rw[Lz hm hmp hmq]at hI;have hrec:=ih ps[m] (Ap hm) parts[m] qs[m] _ tx e e2 (hft m hmf hmp tx hw3) (hnd.part hc (Ap hmp)) hw2 hR (s3 _ (Ap hm)) ((Ea hpl).1 hpes m _ _ (AW hmp) (AW hm));have htn2:=hw3.AG;obtain⟨q1,rfl,hq1⟩:=hR.Ab;have hq1n:=hq1.AA;obtain⟨q2,rfl,hq2⟩:=hw3.Ab;have hq2n:=hq2.AA;obtain⟨x1,x2,x3,x4,x5,rfl,n4,n5,k4,k5⟩:=B4.form hw2;cases hs:CU ps[m] parts[m] qs[m]with
        | true=>
         rw[hs]at hI hrec;exact .inl ⟨(),by simp[f134,hp.len,hm',he,he2,he3,hrec,hwm,hb16,AG,AV.AA,hlv,hq1n,hq2n,n4,n5],by simpa using hI⟩
        | false=>
         rw[hs]at hI hrec;exact .inr ⟨_,_,by simp[f134,hp.len,hm',he,he2,he3,hrec,hb16,AG,AV.AA,hlv,hq1n,hq2n,n4,n5] <;> first | exact⟨rfl,rfl⟩ | rfl,by simp,.inr ⟨rfl,by simpa using hI⟩⟩) (fun b hI=>by
        rw[C3]at hI;exact⟨_,_,by simp[f134,hp.len] <;> first | exact⟨rfl,rfl⟩ | rfl,by simp,.inl ⟨rfl,by rw[hI];rfl⟩⟩) () (by simp)
     simp[f134]at hlp;rcases hq' with⟨hq',hr⟩ | ⟨hq',hr⟩ <;> cases hq' <;> rw[hr] <;> exact⟨_,by simp[AJ,f134,hnm,h68,h72,ixI,hfx0,hlp] <;> rfl⟩
theorem c135(p:TyV):∀(s:Sh) (q:KV) (t:TyV) (xs px kx:List AV),TS l t xs s->NdX s->B4 s q kx->AR p px->Sm 1048577 p->CA s p=0->∀ h,AI MX (AE MX) 135 [lv,.agg xs,.agg px,.agg kx] h=some (.ret (.bool (Dt p s q)),h):=by
 have hlv:=hl.AA;induction p using TyV.ind with
 | h k v nm ps ih=>
  intro s q t xs px kx ht hnd hk hx hsm hpe h;obtain⟨s1,s2,s3⟩:=hsm.dest;have htn:=ht.rep.AG;have hkn:=hk.AG;have hn:([lv,AV.agg xs,AV.agg px,AV.agg kx]:List AV).all AV.AA=true:=by simp[AV.AA,hlv,htn,hkn,hx.AG]
  suffices hh:∃ hr,AJ MX 135 [lv,.agg xs,.agg px,.agg kx] []=some (.ret (.bool (Dt (.mk k v nm ps) s q)),hr) by
   obtain⟨hr,hh⟩:=hh;exact Af Wq Zf hn rfl hh h
  have ht0:=ht;have hB:=ht.rep;obtain⟨tv,rfl,htv⟩:=hB.Ab;obtain⟨pv,rfl,hp⟩:=hx.dest;rcases I3 hpe with⟨rfl,rfl⟩ | ⟨rfl,rfl⟩ | ⟨rfl,rfl,n,rfl⟩ | ⟨rfl,_⟩
  .obtain⟨y1,y2,y3,y4,y5,rfl,z4,z5,w4,w5⟩:=hk.form;exact⟨_,by simp[AJ,f135,Dt] <;> rfl⟩
  .obtain⟨y1,y2,y3,y4,y5,rfl,z4,z5,w4,w5⟩:=hk.form;exact⟨_,by simp[AJ,f135,Dt] <;> rfl⟩
  .have hnum:Dt (.mk 3 v nm []) (.bit n) q=Sw v (.bit n) q:=(by simp[Dt]);rw[hnum];have h140:=c140 hok ht0 hk;cases hk with
   | unk hno hnl=>
    rename_i no nov;have h40:=c40 hno hnl v;obtain⟨L,hL⟩:∃ L,L=Gj n (.unk no):=⟨_,rfl⟩;have hs:Sw v (.bit n) (.unk no)=((L == 1) && !no.contains v):=(by rw[hL];simp[Sw,oneK]);rw[<- hL]at h140;rw[hs];cases hL1:L == 1 <;> cases hct:no.contains v <;> rw[hct]at h40 <;> exact⟨_,by simp[AJ,f135,h40,h140,hL1,-List.contains_eq_mem] <;> rfl⟩
   | num=>
    rename_i m;exact⟨_,by simp[AJ,f135,Sw] <;> rfl⟩
  .obtain⟨ns,ss,j,rfl,hj,hpl,hpes⟩:=FO hpe;cases q with
   | num n=>cases hk
   | unk no=>
    cases hk with
    | unk hno hnl=>
     have hm:Dt (.mk 2 v nm ps) (.cons ns ss) (.unk no)=false:=(by simp[Dt,Jo]);rw[hm];exact⟨_,by simp[AJ,f135] <;> rfl⟩
   | con i qs=>
    obtain⟨ns',ss',parts,qv,e1,rfl,hc,hql,hq⟩:=hk.dest;cases e1;obtain⟨w,hw⟩:=ht0.cons hl hsl hok;have hil:=(Ae.1 hc).1;have hgp:ss.getD i []=parts:=(by simp[List.getD,hc]);have hm:Dt (.mk 2 v nm ps) (.cons ns ss) (.con i qs)=((ns.getD i [] == nm)&&GP Dt ps parts qs):=(by simp[Dt,Jo,Ki,List.getD,hc]);rw[hm];have hlw:=hw.len;obtain⟨C,hC⟩:∃ C,C=ns.getD i []:=⟨_,rfl⟩;rw[<- hC];cases hnm:C == nm with
    | false=>
     have hne:(C != nm)=true:=(by simp[bne,hnm]);exact⟨_,by simp[AJ,f135,hnm] <;> rfl⟩
    | true=>
     have hne:(C != nm)=false:=(by simp[bne,hnm]);have hnm':ns.getD i []=nm:=(by rw[<- hC];simpa using hnm);have hij:i=j:=Cy hnd.nodup hj (by omega) hnm';subst hij;rw[hgp]at hpl hpes;obtain⟨fv,fs,hfx,hfv,hfl,hfs,hft⟩:=hw.con i parts hc;have h72:=hw.find nm;rw[hj]at h72;have h68:=hw.all;have hwn:=hw.nr;have hfx0:=hfx .i64;have hb14:=SK;simp[Aa,An,f135]at hb14;rw[<- hC]at hfx0;obtain⟨e,st,hlp,hq'⟩:=AU (M:=MX) (fid:=135) (N:=83) (C:=AE MX) (c:=AL f135 0) (n:=ps.length)
      (fun j (_:Unit)=>([(0,lv),(6,.hp 1 0),(7,.hp 2 0),(10,fv),(11,.int .i64 j)],[.var false [.int .i64 t.k,.int .i64 t.v,.str t.nm,tv],.var false [.int .i64 2,.int .i64 v,.str nm,pv],.var false [.bool true,.str C,.int .i64 0,.AH,qv]]))
      (fun j _=>GP Dt ps parts qs=GP Dt (ps.drop j) (parts.drop j) (qs.drop j))
      (fun r=>(r=(.ext 1,([(0,lv),(6,.hp 1 0),(7,.hp 2 0),(10,fv),(11,.int .i64 ps.length),(62,.bool false)],[.var false [.int .i64 t.k,.int .i64 t.v,.str t.nm,tv],.var false [.int .i64 2,.int .i64 v,.str nm,pv],.var false [.bool true,.str C,.int .i64 0,.AH,qv]]))/\GP Dt ps parts qs=true) \/
        (r=(.ret,([(8,.bool false)],[.var false [.int .i64 t.k,.int .i64 t.v,.str t.nm,tv],.var false [.int .i64 2,.int .i64 v,.str nm,pv],.var false [.bool true,.str C,.int .i64 0,.AH,qv]]))/\GP Dt ps parts qs=false)) (fun m b hm hI=>by
        obtain⟨e,he,hR⟩:=hp.ix hm;have hmp:m<parts.length:=(by omega);have hmq:m<qs.length:=(by omega);have hmf:m<fs.length:=(by omega);obtain⟨e2,he2,hw2⟩:=hq.ix (i:=m) (by simp;omega);obtain⟨e3,he3,tx,rfl,hw3⟩:=hfv.ix hmf;rw[D9]at hw2;have hm':=AZ hm;have hwm:=AY hm s2;rw[Lz hm hmp hmq]at hI;have hrec:=ih ps[m] (Ap hm) parts[m] qs[m] _ tx e e2 (hft m hmf hmp tx hw3) (hnd.part hc (Ap hmp)) hw2 hR (s3 _ (Ap hm)) ((Ea hpl).1 hpes m _ _ (AW hmp) (AW hm));have htn2:=hw3.AG;obtain⟨q1,rfl,hq1⟩:=hR.Ab;have hq1n:=hq1.AA;obtain⟨q2,rfl,hq2⟩:=hw3.Ab;have hq2n:=hq2.AA;obtain⟨x1,x2,x3,x4,x5,rfl,n4,n5,k4,k5⟩:=B4.form hw2;cases hs:Dt ps[m] parts[m] qs[m]with
        | true=>
         rw[hs]at hI hrec;exact .inl ⟨(),by simp[f135,hp.len,hm',he,he2,he3,hrec,hwm,hb14,AG,AV.AA,hlv,hq1n,hq2n,n4,n5],by simpa using hI⟩
        | false=>
         rw[hs]at hI hrec;exact .inr ⟨_,_,by simp[f135,hp.len,hm',he,he2,he3,hrec,hb14,AG,AV.AA,hlv,hq1n,hq2n,n4,n5] <;> first | exact⟨rfl,rfl⟩ | rfl,by simp,.inr ⟨rfl,by simpa using hI⟩⟩) (fun b hI=>by
        rw[C3]at hI;exact⟨_,_,by simp[f135,hp.len] <;> first | exact⟨rfl,rfl⟩ | rfl,by simp,.inl ⟨rfl,by rw[hI];rfl⟩⟩) () (by simp)
     simp[f135]at hlp;rcases hq' with⟨hq',hr⟩ | ⟨hq',hr⟩ <;> cases hq' <;> rw[hr] <;> exact⟨_,by simp[AJ,f135,hnm,h68,h72,ixI,hfx0,hlp] <;> rfl⟩
end
def AskN(r:Option (List Nat))(v:AV):Prop:=∃ w b,v=.tup [w,.bool b]/\b=r.isSome/\SlR Az 1 (BX (r.getD [])) w
theorem c136(p:TyV):∀(s:Sh) (q:KV) (px kx:List AV),B4 s q kx->ShW s->AR p px->Sm 1048577 p->CA s p=0->dp p<1048577->CU p s q=true->∃ r,AskN (Ez p q) r/\∀ h,AI MX (AE MX) 136 [.agg px,.agg kx] h=some (.ret r,h):=by
 induction p using TyV.ind with
 | h k v nm ps ih=>
  intro s q px kx hk hsw hx hsm hpe hdp hmay;have hnd:=Kl hsw;obtain⟨s1,s2,s3⟩:=hsm.dest;have hn:([AV.agg px,AV.agg kx]:List AV).all AV.AA=true:=by simp[AV.AA,hx.AG,hk.AG]
  obtain⟨pv,rfl,hp⟩:=hx.dest;have hb2:=U2;simp[Aa,An,f136]at hb2;have hb6:=U3;simp[Aa,An,f136]at hb6;have hflat:∀ w ok,w.AA=true->(∃ hr,AJ MX 136 [AV.agg [.int .i64 k,.int .i64 v,.str nm,pv],.agg kx] []=some (.ret (.tup [w,.bool ok]),hr))->∀ h,AI MX (AE MX) 136 [AV.agg [.int .i64 k,.int .i64 v,.str nm,pv],.agg kx] h=some (.ret (.tup [w,.bool ok]),h):=fun w ok hw ⟨hr,hh⟩ h=>Af NL Pq hn (by simp[AV.AA,AG,hw]) hh h
  have hyes:AskN (some []) (.tup [.sl 1 true [],.bool true]):=⟨_,_,rfl,rfl,.inr ⟨true,[],rfl,rfl,fun i a e h=>by simp[BX]at h⟩⟩;have hno2:AskN none (.tup [.sl 1 true [],.bool false]):=⟨_,_,rfl,rfl,.inr ⟨true,[],rfl,rfl,fun i a e h=>by simp[BX]at h⟩⟩;have hno:AskN none (.tup [.AH,.bool false]):=⟨_,_,rfl,rfl,.inl ⟨rfl,rfl⟩⟩;rcases I3 hpe with⟨rfl,rfl⟩ | ⟨rfl,rfl⟩ | ⟨rfl,rfl,n,rfl⟩ | ⟨rfl,_⟩
  .obtain⟨y1,y2,y3,y4,y5,rfl,z4,z5,w4,w5⟩:=hk.form;have hlp:∀ st,EV MX 136 52 (AE MX) (AL f136 0) ([(2,.hp 0 0),(3,.hp 1 0),(6,.int .i64 0)],[.var false [.int .i64 0,.int .i64 v,.str nm,pv],st])=some (.ext 0,([(2,.hp 0 0),(3,.hp 1 0),(6,.int .i64 0),(30,.bool false)],[.var false [.int .i64 0,.int .i64 v,.str nm,pv],st])):=fun st=>Hd (by simp[f136,hp.len] <;> first | exact⟨rfl,rfl⟩ | rfl) (by simp)
   simp[f136]at hlp;exact⟨_,by simpa[Ez]using hno,hflat .AH false rfl ⟨_,by simp[AJ,f136,hlp] <;> rfl⟩⟩
  .obtain⟨y1,y2,y3,y4,y5,rfl,z4,z5,w4,w5⟩:=hk.form;have hlp:∀ st,EV MX 136 52 (AE MX) (AL f136 0) ([(2,.hp 0 0),(3,.hp 1 0),(6,.int .i64 0)],[.var false [.int .i64 1,.int .i64 v,.str nm,pv],st])=some (.ext 0,([(2,.hp 0 0),(3,.hp 1 0),(6,.int .i64 0),(30,.bool false)],[.var false [.int .i64 1,.int .i64 v,.str nm,pv],st])):=fun st=>Hd (by simp[f136,hp.len] <;> first | exact⟨rfl,rfl⟩ | rfl) (by simp)
   simp[f136]at hlp;exact⟨_,by simpa[Ez]using hno,hflat .AH false rfl ⟨_,by simp[AJ,f136,hlp] <;> rfl⟩⟩
  .cases hk with
   | unk hno' hnl=>
    rename_i no nov;have hm:Ez (.mk 3 v nm []) (.unk no)=some []:=(by simp[Ez,Re]);rw[hm];exact⟨_,hyes,hflat (.sl 1 true []) true rfl ⟨_,by simp[AJ,f136,hb2,bsA,Aq,AG,AV.AA] <;> rfl⟩⟩
   | num=>
    rename_i m;have hm:Ez (.mk 3 v nm []) (.num m)=none:=(by simp[Ez,Re]);rw[hm];exact⟨_,hno2,hflat (.sl 1 true []) false rfl ⟨_,by simp[AJ,f136,hb2,bsA,Aq,AG,AV.AA] <;> rfl⟩⟩
  .obtain⟨ns,ss,j,rfl,hj,hpl,hpes⟩:=FO hpe;cases q with
   | num n=>cases hk
   | unk no=>
    cases hk with
    | unk hno' hnl=>
     have hm:Ez (.mk 2 v nm ps) (.unk no)=some []:=(by simp[Ez,Rf]);rw[hm];exact⟨_,hyes,hflat (.sl 1 true []) true rfl ⟨_,by simp[AJ,f136,hb2,bsA,Aq,AG,AV.AA] <;> rfl⟩⟩
   | con i qs=>
    obtain⟨ns',ss',parts,qv,e1,rfl,hi,hql,hqv⟩:=hk.dest;cases e1;obtain⟨hm1,hm2⟩:=Im hmay;have hss:ss.length=ns.length/\∀ s∈ss,∀ x∈s,ShW x:=by
     cases hsw with
     | cons _ _ h1 h2 h3 h4 h5 h6 h7=>exact⟨h1,h5⟩
    have hil:i<ns.length:=by
     have:=(Ae.1 hi).1;omega
    have hij:i=j:=Cy hnd.nodup hj hil hm1;subst hij;have hgp:ss.getD i []=parts:=(by simp[List.getD,hi]);rw[hgp]at hpl hpes hm2;have hm:Ez (.mk 2 v nm ps) (.con i qs)=Fs ps qs 0:=(by simp[Ez,Rf]);rw[hm];have hdps:∀ p∈ps,dp p<1048577:=fun p hp=>by
     have:=P3 hp;rw[dp]at hdp;omega
    obtain⟨C,hC⟩:∃ C,C=ns.getD i []:=⟨_,rfl⟩;rw[<- hC]at hflat hn ⊢;obtain⟨B2,hB2⟩:∃ B2,B2=[Blk.var false [.int .i64 2,.int .i64 v,.str nm,pv],.var false [.bool true,.str C,.int .i64 0,.AH,qv]]:=⟨_,rfl⟩;obtain⟨e,st,hlp,hq'⟩:=AU (M:=MX) (fid:=136) (N:=52) (C:=AE MX) (c:=AL f136 0) (n:=ps.length)
     (fun m (_:Unit)=>([(2,.hp 0 0),(3,.hp 1 0),(6,.int .i64 m)],[Blk.var false [.int .i64 2,.int .i64 v,.str nm,pv],.var false [.bool true,.str C,.int .i64 0,.AH,qv]]))
     (fun m _=>Fs ps qs 0=Fs (ps.drop m) (qs.drop m) m)
     (fun r=>(r=(.ext 0,([(2,.hp 0 0),(3,.hp 1 0),(6,.int .i64 ps.length),(30,.bool false)],[Blk.var false [.int .i64 2,.int .i64 v,.str nm,pv],.var false [.bool true,.str C,.int .i64 0,.AH,qv]]))/\Fs ps qs 0=none)\/(∃(b:AF) (w w2:AV) (H2:AF) (path:List Nat),r=(.ret,([(4,w),(5,.bool true)],b))/\Fs ps qs 0=some path/\w.cells=some [w]/\BB 1 w b w2 H2/\SlR Az 1 (BX path) w2/\(w.AA=true->w=w2))) (fun m b hm' hI=>by
       have hjp:m<parts.length:=(by omega);have hjq:m<qs.length:=(by omega);have hjz:m<(parts.zip qs).length:=(by simp;omega);have hj':=AZ hm';have hw:=AY hm' s2;obtain⟨e,he,hR⟩:=hp.ix hm';obtain⟨e2,he2,hw2⟩:=hqv.ix (i:=m) hjz;rw[D9]at hw2;rw[Nr hm' hjq]at hI;have gp:=AW hm';have gs:=AW hjp;have gq:=AW hjq;have hmem:=Ap hm';obtain⟨r,hr,hrec⟩:=ih ps[m] hmem parts[m] qs[m] e e2 hw2 (hss.2 _ (C2 hi) _ (Ap hjp)) hR (s3 _ hmem) ((Ea hpl).1 hpes m _ _ gs gp) (hdps _ hmem) (H6 hm2 gp gs gq);obtain⟨q1,rfl,hq1⟩:=hR.Ab;have hq1n:=hq1.AA;obtain⟨x1,x2,x3,x4,x5,rfl,n4,n5,k4,k5⟩:=B4.form hw2;obtain⟨w',b',rfl,hb',hw'⟩:=hr;have hwn:=hw'.AA;have hwc:=hw'.cells;cases hask:Ez ps[m] qs[m]with
       | some path=>
        rw[hask]at hb' hw' hI;have hbt:b'=true:=hb';subst hbt;have hlen:=Jp _ _ _ hask;have hdpm:=hdps _ hmem;obtain⟨w1,H1,a1,a2,w2,H2,a3,a4,a5⟩:=UD (path:=path) hw' (by omega) m [Blk.var false [.int .i64 2,.int .i64 v,.str nm,pv],.var false [.bool true,.str C,.int .i64 0,.AH,qv]];exact .inr ⟨_,_,by simp[f136,hp.len,hj',he,he2,hrec,hb6,AG,AV.AA,hq1n,n4,n5,bsA,Aq,a1,a2,hwn,hwc] <;> first | exact⟨rfl,rfl⟩ | rfl,by simp,.inr ⟨H1,w1,w2,H2,m::path,rfl,hI,a2,a3,a4,a5⟩⟩
       | none=>
        rw[hask]at hb' hI;have hbt:b'=false:=hb';subst hbt;exact .inl ⟨(),by simp[f136,hp.len,hj',he,he2,hrec,hw,hb6,AG,AV.AA,hq1n,n4,n5,hwc],hI⟩) (fun b hI=>by
       rw[C3,Fs]at hI;exact⟨_,_,by simp[f136,hp.len] <;> first | exact⟨rfl,rfl⟩ | rfl,by simp,.inl ⟨rfl,hI⟩⟩) () (by simp)
    simp[f136]at hlp;rcases hq' with⟨hq',hr⟩ | ⟨b,w,w2,H2,path,hq',hr,b1,b2,b3,b4⟩
    .cases hq';rw[hr];exact⟨_,hno,hflat .AH false rfl ⟨_,by simp[AJ,f136,hlp] <;> rfl⟩⟩
    .cases hq';rw[hr];refine⟨.tup [w2,.bool true],⟨w2,_,rfl,rfl,b3⟩,fun h => ?_⟩;have hrun:AJ MX 136 [AV.agg [.int .i64 2,.int .i64 v,.str nm,pv],.agg [.bool true,.str C,.int .i64 0,.AH,qv]] []=some (.ret (.tup [w,.bool true]),b):=by
      simp[AJ,f136,hlp] <;> rfl
     cases hwn:w.AA with
     | true=>
      have:=b4 hwn;subst this;exact Af NL Pq hn (by simp[AV.AA,AG,hwn]) hrun h
     | false=>
      exact Hu NL Pq hn (BB.tup (by simp[AG,hwn]) (.cons b2 (.cons (.flat rfl _) (.nil _)))) (by decide) (by simp[AV.AA,AG,b3.AA]) (fun h=>by simp[AV.AA,AG,hwn]at h) hrun h
theorem S1{ns:List Bytes}(h:ns.Nodup){i:Nat}(hi:i<ns.length):ns.findIdx? (fun x=>x == ns.getD i [])=some i:=by
 rw[I8];refine⟨hi,by simp[List.getD,AW hi],fun j hj => ?_⟩;have hd:ns.getD i []=ns[i]:=by simp[List.getD,AW hi]
 rw[hd];have:=(List.nodup_iff_pairwise_ne.1 h);rw[Mf]at this;simpa using this j i (by omega) hi hj
section
variable{l:List AK}{lv:AV}(hl:SlR Ac 3 l lv)(hsl:SmL 1048577 l)(hok:DOK l)
include hl hsl hok
theorem c137{path:List Nat}{pv:AV}(hp:SlR Az 1 (BX path) pv)(hpl:path.length<1048577){x y:Sh×KV}{t:TyV}{xs kx:List AV}(ht:TS l t xs x.1)(hw:ShW x.1)(hk:B4 x.1 x.2 kx)(hy:atK path x=some y) :
 ∃ t' xs' kx',TS l t' xs' y.1/\B4 y.1 y.2 kx'/\∀ h,AI MX (AE MX) 137 [lv,.agg xs,.agg kx,pv] h=some (.ret (.tup [.agg xs',.agg kx']),h):=by
 have hlv:=hl.AA;have hnl:(BX path).length=path.length:=by simp[BX]
 have hn:([lv,AV.agg xs,AV.agg kx,pv]:List AV).all AV.AA=true:=by simp[AV.AA,hlv,ht.rep.AG,hk.AG,hp.AA]
 have hpn:=hp.AA;have hplen:=hp.len;rw[hnl]at hplen;have hb5:=U4;simp[Aa,An,f137]at hb5;have hb6:=U5;simp[Aa,An,f137]at hb6;have hb7:=U6;simp[Aa,An,f137]at hb7;obtain⟨Z,hZ⟩:∃ Z,Z=[Blk.var false [.int .i64 0,.int .i64 0,.str [],.AH],Blk.var false [.bool false,.str [],.int .i64 0,.AH,.AH]]:=⟨_,rfl⟩;obtain⟨e,st,hlp,hq⟩:=AU (M:=MX) (fid:=137) (N:=46) (C:=AE MX) (c:=AL f137 0) (n:=path.length)
  (fun i (b:(Sh×KV)×TyV×List AV×List AV)=>([(0,lv),(3,pv),(5,.hp 0 0),(6,.hp 1 0),(8,.hp 2 0),(9,.hp 3 0),(10,.int .i64 i)],Blk.var false b.2.2.1::.var false b.2.2.2::[Blk.var false [.int .i64 0,.int .i64 0,.str [],.AH],Blk.var false [.bool false,.str [],.int .i64 0,.AH,.AH]]))
  (fun i b=>TS l b.2.1 b.2.2.1 b.1.1/\ShW b.1.1/\B4 b.1.1 b.1.2 b.2.2.2/\atK (path.drop i) b.1=some y)
  (fun r=>∃ t' xs' kx',r=(.ext 0,([(0,lv),(3,pv),(5,.hp 0 0),(6,.hp 1 0),(8,.hp 2 0),(9,.hp 3 0),(10,.int .i64 path.length),(15,.bool false)],Blk.var false xs'::.var false kx'::[Blk.var false [.int .i64 0,.int .i64 0,.str [],.AH],Blk.var false [.bool false,.str [],.int .i64 0,.AH,.AH]]))/\TS l t' xs' y.1/\B4 y.1 y.2 kx') (fun i b hi hI=>by
    obtain⟨⟨s,k⟩,t,xs,kx⟩:=b;obtain⟨i1,i2,i3,i4⟩:=hI;simp only at i1 i2 i3 i4;obtain⟨e,he,hR⟩:=hp.ix (i:=i) (by omega);have hel:(BX path)[i]'(by omega)=(path[i]:Int):=(by simp[BX]);rw[hel]at hR;subst hR;rw[De hi,atK]at i4;obtain⟨z,hz,i4⟩:=Gd.1 i4;obtain⟨m,hm⟩:∃ m,m=path[i]:=⟨_,rfl⟩;rw[<- hm]at he hz;cases k with
    | unk no=>cases s <;> cases hz
    | num n=>cases s <;> cases hz
    | con c qs=>
     obtain⟨ns,ss,parts,qv,rfl,rfl,hc,hql,hqv⟩:=i3.dest;simp only[JF,List.getD,hc,GQ]at hz;obtain⟨hmz,hze⟩:=Ae.1 hz;have hmp:m<parts.length/\m<qs.length:=(by simp at hmz;omega);rw[D9]at hze;subst hze;obtain⟨w,hw⟩:=i1.cons hl hsl hok;obtain⟨fv,fs,hfx,hfv,hfl,hfs,hft⟩:=hw.con c parts hc;have hss:ns.Nodup/\∀ s∈ss,∀ x∈s,ShW x:=by
      cases i2 with
      | cons _ _ h1 h2 h3 h4 h5 h6 h7=>exact⟨h6,h5⟩
     have hcl:c<ns.length:=by
      have:=(Ae.1 hc).1;have:=hw.len;omega
     have h72:=hw.find (ns.getD c []);rw[S1 hss.1 hcl]at h72;have h68:=hw.all;have hwn:=hw.nr;have hfx0:=hfx .i64;obtain⟨C,hC⟩:∃ C,C=ns.getD c []:=⟨_,rfl⟩;rw[<- hC]at h72 hfx0 ⊢;obtain⟨e3,he3,tx,rfl,hw3⟩:=hfv.ix (i:=m) (by omega);obtain⟨e2,he2,hw2⟩:=hqv.ix (i:=m) hmz;rw[D9]at hw2;have hts:=hft m (by omega) hmp.1 tx hw3;have hxn:=i1.rep.AG;obtain⟨q1,rfl,hq1⟩:=i1.rep.Ab;have hq1n:=hq1.AA;have hrep3:=hw3;obtain⟨q2,rfl,hq2⟩:=hw3.Ab;have hq2n:=hq2.AA;have hk2:=hw2;obtain⟨x1,x2,x3,x4,x5,rfl,n4,n5,k4,k5⟩:=B4.form hw2;have hi':=AZ hi;have hwr:=AY hi hpl;exact .inl ⟨((parts[m]'hmp.1,qs[m]'hmp.2),_,_,_),by simp[f137,hplen,hi',he,he2,he3,h68,h72,ixI,hfx0,hwr,hb5,hb6,AG,AV.AA,hlv,hpn,hwn,hq1n,hq2n,n4,n5] <;> exact⟨rfl,rfl⟩,hts,hss.2 _ (C2 hc) _ (Ap hmp.1),hk2,i4⟩) (fun b hI=>by
    obtain⟨⟨s,k⟩,t,xs,kx⟩:=b;obtain⟨i1,i2,i3,i4⟩:=hI;simp only at i1 i2 i3 i4;rw[C3,atK]at i4;cases i4;exact⟨_,_,by simp[f137,hplen] <;> first | exact⟨rfl,rfl⟩ | rfl,by simp,t,xs,kx,rfl,i1,i3⟩) (x,t,xs,kx) ⟨ht,hw,hk,hy⟩
 obtain⟨t',xs',kx',hq,ht',hk'⟩:=hq;cases hq;simp[f137]at hlp;have hxs':=ht'.rep.AG;have hks':=hk'.AG;refine⟨t',xs',kx',ht',hk',fun h => ?_⟩;obtain⟨q1,rfl,hq1⟩:=ht.rep.Ab;obtain⟨q2,rfl,hq2⟩:=ht'.rep.Ab;obtain⟨x1,x2,x3,x4,x5,rfl,n4,n5,k4,k5⟩:=B4.form hk;obtain⟨y1,y2,y3,y4,y5,rfl,m4,m5,j4,j5⟩:=B4.form hk';exact Af Wr Zg hn (by simp[AV.AA,AG,hq2.AA,m4,m5]) (hr:=_) (by simp[AJ,f137,hlp,hb7,hq2.cells,hq2.AA,m4,m5,j4,j5,AG,AV.AA] <;> rfl) h
end
theorem YW{own:KV}{y:Sh×KV}{ox:List AV}(ho:B4 y.1 own ox):∀(path:List Nat) (x:Sh×KV) (kx:List AV) (pv:AV),B4 x.1 x.2 kx->SlR Az 1 (BX path) pv->path.length<1048577->ShW x.1->atK path x=some y->∃ rx,B4 x.1 (F1 path x.2 own) rx/\∀ h,AI MX (AE MX) 139 [.agg kx,pv,.agg ox] h=some (.ret (.agg rx),h)
 | [],x,kx,pv,hk,hp,_,_,hy=>by
  cases hy;have hn:([AV.agg kx,pv,AV.agg ox]:List AV).all AV.AA=true:=by simp[AV.AA,hk.AG,hp.AA,ho.AG]
  have hon:=ho.AG;have ho':=ho;obtain⟨x1,x2,x3,x4,x5,rfl,n4,n5,k4,k5⟩:=B4.form ho;obtain⟨y1,y2,y3,y4,y5,rfl,m4,m5,j4,j5⟩:=B4.form hk;exact⟨_,ho',fun h=>Af NN TU hn (by simp[AV.AA,hon]) (hr:=_) (by simp[AJ,f139,hp.len,BX,k4,k5] <;> rfl) h⟩
 | i::r,(s,k),kx,pv,hk,hp,hl,hw,hy=>by
  simp only[D8]at hl;rw[atK]at hy;obtain⟨z,hz,hy⟩:=Gd.1 hy;have hn:([AV.agg kx,pv,AV.agg ox]:List AV).all AV.AA=true:=by simp[AV.AA,hk.AG,hp.AA,ho.AG]
  have hb:=U7;simp[Aa,An,f139]at hb;cases k with
  | unk no=>cases s <;> cases hz
  | num n=>cases s <;> cases hz
  | con c ps=>
   obtain⟨ns,ss,parts,qv,rfl,rfl,hc,hpl,hq⟩:=hk.dest;simp only[JF,List.getD,hc,GQ]at hz;obtain⟨hi,hze⟩:=Ae.1 hz;have hiz:i<parts.length/\i<ps.length:=(by simp at hi;omega);rw[D9]at hze;subst hze;have hss:(∀ s∈ss,s.length<1048577)/\∀ s∈ss,∀ x∈s,ShW x:=by
    cases hw with
    | cons _ _ h1 h2 h3 h4 h5 h6 h7=>exact⟨h4,h5⟩
   have hpb:parts.length<1048577:=hss.1 _ (C2 hc);have hzl:(parts.zip ps).length=parts.length:=(by simp;omega);have hzn:parts.zip ps≠[]:=fun e=>by rw[e]at hzl;simp at hzl;omega
   obtain⟨e0,he0,hu0⟩:=hq.ix hi;rw[D9]at hu0;obtain⟨e1,he1,hR1⟩:=hp.ix (i:=0) (by simp[BX]);have hR1':e1=[.int .i64 (i:Int)]:=hR1;subst hR1';obtain⟨p1,hsl,hp1⟩:=Sv hp (by simp[BX]);have hp1':SlR Az 1 (BX r) p1:=hp1;obtain⟨rx,hrx,hcall⟩:=YW ho r (parts[i]'hiz.1,ps[i]'hiz.2) e0 p1 hu0 hp1' (by omega) (hss.2 _ (C2 hc) _ (Ap hiz.1)) hy;obtain⟨C,hC⟩:∃ C,C=ns.getD c []:=⟨_,rfl⟩;obtain⟨es,hel,her,h3⟩:=LM (byt:=80) hq (by decide) (by decide) (by omega) [Blk.var false [.bool true,.str C,.int .i64 0,.AH,qv],.var false ox,.var false [.bool false,.str [],.int .i64 0,.AH,.AH],.var false [.bool true,.str C,.int .i64 0,.AH,qv]];rcases h3 with⟨h3,_⟩ | ⟨_,h3⟩
   .exact absurd h3 hzn
   have hie:i<es.length:=(by omega);have hlen1:(BX (i::r)).length=r.length+1:=(by simp[BX]);have hrxn:=hrx.AG;have hnr:(es.set i rx).all AG=true:=by
    rw[D0];intro e he;rcases S5 he with he | rfl
    .obtain⟨j,hj,rfl⟩:=I9 he;have hkw:=her j _ _ (AW (by omega)) (AW hj);exact B4.AG hkw
    .exact hrxn
   have hgd:ps.getD i default=ps[i]'hiz.2:=(by simp[List.getD,AW hiz.2]);have hrep:B4 (.cons ns ss) (F1 (i::r) (.con c ps) own) [.bool true,.str (ns.getD c []),.int .i64 0,.AH,.sl 5 false (es.set i rx)]:=by
    rw[F1,hgd];refine B4.intro hc (by simp;omega) (.inr ⟨false,_,rfl,by simp;omega,fun j a e g1 g2 => ?_⟩);have hj:j<parts.length:=by
     have:=(Ae.1 g1).1;simp at this;omega
    rw[AW (by simp;omega),D9]at g1;cases g1;by_cases hji:j=i
    .subst hji;rw[ER (by omega)]at g2;cases g2;show B4 _ _ _;simpa using hrx
    .rw[BT (fun e=>hji e.symm)]at g2;have:=her j (parts[j],ps[j]'(by omega)) e (by rw[AW (by omega),D9]) g2;simpa[PN,List.getElem_set_ne (fun e=>hji e.symm)]using this
   have hesi:∃ a b c d f,es[i]? = some [a,b,c,d,f]:=by
    have hkw:=her i _ _ (AW (by omega)) (AW hie);obtain⟨x1,x2,x3,x4,x5,hf,_⟩:=B4.form hkw;exact⟨_,_,_,_,_,by rw[AW hie,hf]⟩
   obtain⟨z1,z2,z3,z4,z5,hesi⟩:=hesi;rw[<- hC]at hrep hn ⊢;refine⟨_,hrep,fun h => ?_⟩;have hon:=ho.AG;obtain⟨x1,x2,x3,x4,x5,rfl,n4,n5,k4,k5⟩:=B4.form ho;obtain⟨y1,y2,y3,y4,y5,rfl,m4,m5,j4,j5⟩:=B4.form hrx;obtain⟨w1,w2,w3,w4,w5,rfl,o4,o5,i4,i5⟩:=B4.form hu0;have hll:=hp.len;obtain⟨M,hM⟩:∃ M,M=(BX (i::r)).length:=⟨_,rfl⟩;rw[<- hM]at hll;have hgt:((M:Int) == 0)=false:=(by rw[beq_eq_false_iff_ne];omega);have he0':=he0 .i64;have he1':ixA 1 pv (.int .i64 0)=some (.ro [.int .i64 (i:Int)]):=he1 .i64;have hixw:ixA 5 (.hs 4 es.length 5 0 es.length false) (.int .i64 i)=some (.ep 4 es.length 5 i 0):=(by rw[EX (kd:=.i64) (hi:=hie),D1]);simp only[D8,IB,Fk,FE]at h3;refine Hu NN TU hn (v:=.agg [.bool true,.str C,.int .i64 0,.AH,.hs 4 es.length 5 0 es.length false]) (hr := ?_) (hr' := ?_) (K:=10) (BB.mono (BB.agg (K:=7) (by simp[AG,AV.AA]) (B5.mono (B5.cons (.flat rfl _) (.cons (.flat rfl _) (.cons (.flat rfl _) (.cons (.flat rfl _) (.cons (K:=1) (c':=.sl 5 false (es.set i [.bool y1,.str y2,.int .i64 y3,y4,y5])) ?_ (.nil _)))))) (by decide))) (by decide)) (by decide) (by simp[AV.AA,AG]) (fun h=>by simp[AV.AA,AG]at h) ?_ h
   .exact [Blk.var false [.bool true,.str C,.int .i64 0,.AH,qv],.var false [.bool x1,.str x2,.int .i64 x3,x4,x5],.var false [.bool true,.str C,.int .i64 0,.AH,.hs 4 es.length 5 0 es.length false],.var false [.bool true,.str C,.int .i64 0,.AH,.hs 4 es.length 5 0 es.length false],.arr 5 false (es.set i [.bool y1,.str y2,.int .i64 y3,y4,y5])]
   .exact [Blk.var false [.bool true,.str C,.int .i64 0,.AH,qv],.var false [.bool x1,.str x2,.int .i64 x3,x4,x5],.var false [.bool true,.str C,.int .i64 0,.AH,.hs 4 es.length 5 0 es.length false],.var false [.bool true,.str C,.int .i64 0,.AH,.hs 4 es.length 5 0 es.length false],.arr 5 true (es.set i [.bool y1,.str y2,.int .i64 y3,y4,y5])]
   .intro n;have hb2:(Nat.beq (es.set i [.bool y1,.str y2,.int .i64 y3,y4,y5]).length es.length&&Nat.beq 5 5&&Nat.ble (0+es.length) (es.set i [.bool y1,.str y2,.int .i64 y3,y4,y5]).length&&(es.set i [.bool y1,.str y2,.int .i64 y3,y4,y5]).all AG)=true:=(by simp only[hnr];simp[A1,A8]);simp only[snap,Kq,HJ,hb2];simp[DC]
   .simp[AJ,f139,hll,hgt,bsA,Aq,h3,he1',he0',hsl,hcall,hb,hixw,hesi,k4,k5,j4,j5,AG,AV.AA,hp.AA,hp1.AA,hq.AA,hq.cells,n4,n5,m4,m5,o4,o5]
def Jt(path:List Nat)(s:Sh)(q:KV)(no:List Int)(n:Int)(out:List Int)(p:TyV):List Int:=if(nAt path p).2&&((nAt path p).1 == n&&(!no.contains n&&(!out.contains n&&CU p s q)))then out++[n]else out
def inN(path:List Nat)(s:Sh)(q:KV)(no:List Int)(arms:List TyV)(n:Int)(out:List Int):List Int:=arms.foldl (Jt path s q no n) out
def Ny(path:List Nat)(s:Sh)(q:KV)(no:List Int)(arms:List TyV):Nat->List Int
 | 0=>[]
 | n+1=>inN path s q no arms n (Ny path s q no arms n)
def Gk(rest:AF)(w:AV)(out:List Int):Prop:=(out=[]/\w=.AH)\/∃ j lk,out≠[]/\w=.hs (4+j) out.length 1 0 out.length false/\rest[j]? = some (.arr 1 lk (A6 out))
theorem Gk.cells{rest:AF}{w:AV}{out:List Int}(h:Gk rest w out):w.cells=some [w]:=by
 rcases h with⟨_,rfl⟩ | ⟨_,_,_,rfl,_⟩ <;> rfl
section
variable{B0 B1 B2 B3:Blk}
theorem Gk.push{rest:AF}{w:AV}{out:List Int}(h:Gk rest w out)(hl:out.length<1048577)(n:Int):∃ w' rest',apA 1 8 w (.sl 1 true [[.int .i64 n]]) (B0::B1::B2::B3::rest)=some (w',B0::B1::B2::B3::rest')/\Gk rest' w' (out++[n]):=by
 have hrd:∀ X,A7 X (.sl 1 true [[.int .i64 n]])=some [[.int .i64 n]]:=fun _=>rfl
 rcases h with⟨rfl,rfl⟩ | ⟨j,lk,h0,rfl,h2⟩
 .refine⟨.hs (4+rest.length) 1 1 0 1 false,rest++[.arr 1 false [[.int .i64 n]]],?_,.inr ⟨rest.length,false,by simp,rfl,by simp[A6]⟩⟩;simp[apA,apX,hrd,CC,BM,F6,A3,A1,A8,CM];omega
 .have e2:(out.length+1) * 8<=17592186044416:=by omega
  have e3:out.length+1<=17592186044416:=by omega
  have e4:List.take out.length (A6 out)=A6 out:=DC (by rw[Bh];omega);have hl3:(A6 out).length=out.length:=Bh out;have hj:=(Ae.1 h2).1;have h2':(B0::B1::B2::B3::rest)[4+j]? = some (.arr 1 lk (A6 out)):=by rw[show 4+j=j+4 by omega];exact h2
  have hset:(B0::B1::B2::B3::rest).set (4+j) (.arr 1 lk (A6 out++[[.int .i64 n]]))=B0::B1::B2::B3::rest.set j (.arr 1 lk (A6 out++[[.int .i64 n]])):=by rw[show 4+j=j+4 by omega];rfl
  refine⟨.hs (4+j) (out.length+1) 1 0 (out.length+1) false,rest.set j (.arr 1 lk (A6 out++[[.int .i64 n]])),?_,.inr ⟨j,lk,by simp,by simp,by rw[ER hj];simp[A6]⟩⟩;simp[apA,apX,hrd,CC,BM,F6,A3,A1,A8,CM,e2,e3,h2',hl3,e4,hset]
theorem Gk.has{rest:AF}{w:AV}{out:List Int}(h:Gk rest w out)(hl:out.length<1048577)(n:Int):∃ rest',Gk rest' w out/\AI MX (AE MX) 40 [w,.int .i64 n] (B0::B1::B2::B3::rest)=some (.ret (.bool (out.contains n)),B0::B1::B2::B3::rest'):=by
 rcases h with⟨rfl,rfl⟩ | ⟨j,lk,h0,rfl,h2⟩
 .exact⟨rest,.inl ⟨rfl,rfl⟩,c40 (l:=[]) (.inl ⟨rfl,rfl⟩) (by decide) n _⟩
 .have hj:=(Ae.1 h2).1;have h2':(B0::B1::B2::B3::rest)[4+j]? = some (.arr 1 lk (A6 out)):=by rw[show 4+j=j+4 by omega];exact h2
  have hset:(B0::B1::B2::B3::rest).set (4+j) (.arr 1 true (A6 out))=B0::B1::B2::B3::rest.set j (.arr 1 true (A6 out)):=by rw[show 4+j=j+4 by omega];rfl
  have hn:(A6 out).all AG=true:=by
   rw[D0];intro e he;obtain⟨x,_,rfl⟩:=F5.1 he;rfl
  have hc:(Nat.beq (A6 out).length out.length&&Nat.beq 1 1&&Nat.ble (0+out.length) (A6 out).length&&(A6 out).all AG)=true:=by
   rw[Bh,hn];simp only[BU,Bl,Gb];exact⟨⟨⟨trivial,trivial⟩,by omega⟩,trivial⟩
  have e1:((A6 out).drop 0).take out.length=A6 out:=by rw[JB];exact DC (by rw[Bh];omega)
  have hsn:snap Ds (.hs (4+j) out.length 1 0 out.length false) (B0::B1::B2::B3::rest)=some (.sl 1 false (A6 out),B0::B1::B2::B3::rest.set j (.arr 1 true (A6 out))):=by
   rw[<- hset];exact(show BB 1 _ _ _ _ from fun n=>by simp only[Am.snap,h2',hc,e1]).at (by decide)
  have hsl:SlR Az 1 out (.sl 1 false (A6 out)):=.inr ⟨false,A6 out,rfl,Bh out,fun i a e ha he=>by
   simp only[A6,Fx,ha,E0,AN]at he;exact he.symm⟩
  refine⟨_,.inr ⟨j,true,h0,rfl,ER hj⟩,FA (by simp[TJ]) (by simp[A4,AV.AA,hsn]) (by simp[AV.AA]) (c40 hsl hl n _)⟩
theorem md4{X Y:AF}{x:Nat}(hx:x<4):(x∈Da 0 (B0::B1::B2::B3::X) (B0::B1::B2::B3::Y))=False:=Cx (by simp;omega) (by
 match x,hx with
 | 0,_=>rfl
 | 1,_=>rfl
 | 2,_=>rfl
 | 3,_=>rfl)
end
theorem Gk.snap{rest:AF}{w:AV}{out:List Int}(h:Gk rest w out){B0 B1 B2 B3:Blk}:∃ w' H',BB 1 w (B0::B1::B2::B3::rest) w' H'/\SlR Az 1 out w'/\(w.AA=true->w=w'):=by
 rcases h with⟨rfl,rfl⟩ | ⟨j,lk,h0,rfl,h2⟩
 .exact⟨.AH,_,fun n=>rfl,.inl ⟨rfl,rfl⟩,fun _=>rfl⟩
 .have h2':(B0::B1::B2::B3::rest)[4+j]? = some (.arr 1 lk (A6 out)):=by rw[show 4+j=j+4 by omega];exact h2
  have hn:(A6 out).all AG=true:=by
   rw[D0];intro e he;obtain⟨x,_,rfl⟩:=F5.1 he;rfl
  have hc:(Nat.beq (A6 out).length out.length&&Nat.beq 1 1&&Nat.ble (0+out.length) (A6 out).length&&(A6 out).all AG)=true:=by
   rw[Bh,hn];simp only[BU,Bl,Gb];exact⟨⟨⟨trivial,trivial⟩,by omega⟩,trivial⟩
  have e1:((A6 out).drop 0).take out.length=A6 out:=by rw[JB];exact DC (by rw[Bh];omega)
  refine⟨.sl 1 false (A6 out),(B0::B1::B2::B3::rest).set (4+j) (.arr 1 true (A6 out)),fun n=>by simp only[Am.snap,h2',hc,e1],.inr ⟨false,A6 out,rfl,Bh out,fun i a e ha he => ?_⟩,fun h=>by cases h⟩;simp only[A6,Fx,ha,E0,AN]at he;exact he.symm
end Go.Proofs.Am12
