/- Part 18. -/
import Derived.Test.YtggemipepaajmaaGreatSam17
set_option linter.all false
set_option maxHeartbeats 1000000
namespace Go.Proofs.Am12
open Go Go.Am Tryz
attribute [local simp] Dc Bn Ec Dd CQ Dx Dy Ey BZ Ap Bh Av Gb FR EN HO D9 A5 FN EO HP HQ xUn FC EA FT BG DQ BH EB BI EC Ce Ca Bv BL EP Eo
 ev evs C4 DP OR.ofV OR.D4 OR.ofC Fg Tm.get Tm.init Tm.only Ay A6 Bt finish CK DS Hb D3 D7 unA Bz Bc B6 Bd Cp Cq Cr Be Cs Ct Bf Cu Cv Bg B7 AL CP Bb Cn Co Bx Ez E0 E1 Dz D0 Fo F7 F8 Fp stA BA DY Bo DR FD Gp B8 C1 CI FU Gq
attribute [local simp] DE CT Cb Bl DF DG DH DI DJ DK DL Ef Cg Eg Dh FW FX Gi Di Eh Dj BQ Dk BR Dl B9 Ei Ch FY FZ Fa Ci Dm Dn Fb Gj Fc Gk Gl Dp BS Cj CA Dq Dr Ck
def QG:KV->Bool
 | .unk _=>true
 | _=>false
def O8:KV->Option (List KV)
 | .con _ qs=>some qs
 | _=>none
mutual
def FO:TyV->KV->Option (List Nat)
 | .mk k _ _ ps,q=>if k=3 then(if QG q then some []else none)else if k=2 then(match O8 q with
  | some qs=>GN ps qs 0
  | none=>some [])
  else none
def GN:List TyV->List KV->Nat->Option (List Nat)
 | [],_,_=>none
 | p::r,qs,i=>match FO p (qs.headD default)with
  | some path=>some (i::path)
  | none=>GN r qs.tail (i+1)
end
theorem Uj{ps:List TyV}{qs:List KV}{j:Nat}(h1:j<ps.length)(h2:j<qs.length):GN (ps.drop j) (qs.drop j) j=match FO ps[j] qs[j]with
 | some path=>some (j::path)
 | none=>GN (ps.drop (j+1)) (qs.drop (j+1)) (j+1):=by
 rw[EJ h1,EJ h2,GN];rfl
theorem Uk{p:TyV}:∀{l:List TyV},p∈l->dp p<=dps l
 | q::r,h=>by
  rw[dps];rcases CF.1 h with rfl | h
  .exact Hi _ _
  .exact Cz (Uk h) (H5 _ _)
theorem QH{N:Nat}:∀{ps:List TyV} {qs:List KV} {i:Nat} {path:List Nat},(∀ p∈ps,∀ q path,FO p q=some path->path.length<=N)->GN ps qs i=some path->path.length<=N+1
 | [],_,_,_,_,h=>by rw[GN]at h;cases h
 | p::r,qs,i,path,hp,h=>by
  rw[GN]at h;split at h
  .rename_i w hw;cases h;have:=hp p (by simp) _ _ hw;simp;omega
  .exact QH (fun p' hp'=>hp p' (PW _ hp')) h
theorem O9(p:TyV):∀ q path,FO p q=some path->path.length<=dp p:=by
 induction p using TyV.ind with
 | h k v nm ps ih=>
  intro q path h;rw[FO]at h;split at h
  .split at h
   .cases h;simp
   .cases h
  .split at h
   .split at h
    .have:=QH (N:=dps ps) (fun p hp q path hq=>Cz (ih p hp q path hq) (Uk hp)) h;rw[dp];omega
    .cases h;simp
   .cases h
theorem KX{f:TyV->Sh->KV->Bool}:∀{ps:List TyV} {ss:List Sh} {ks:List KV} {j:Nat} {p:TyV} {s:Sh} {k:KV},HD f ps ss ks=true->ps[j]? = some p->ss[j]? = some s->ks[j]? = some k->f p s k=true
 | [],_,_,_,_,_,_,_,h,_,_=>by simp at h
 | p::r,ss,ks,0,_,_,_,h,h1,h2,h3=>by
  cases ss with
  | nil=>simp at h2
  | cons s ss=>cases ks with
   | nil=>simp at h3
   | cons k ks=>
    simp at h1 h2 h3;subst h1;subst h2;subst h3;rw[HD,Ba]at h;exact h.1
 | p::r,ss,ks,j+1,_,_,_,h,h1,h2,h3=>by
  cases ss with
  | nil=>simp at h2
  | cons s ss=>cases ks with
   | nil=>simp at h3
   | cons k ks=>
    rw[HD,Ba]at h;exact KX (j:=j) h.2 (by simpa using h1) (by simpa using h2) (by simpa using h3)
theorem JE{v:Int}{nm:Bytes}{ps:List TyV}{ns:List Bytes}{ss:List (List Sh)}{i:Nat}{qs:List KV}(h:Dv (.mk 2 v nm ps) (.cons ns ss) (.con i qs)=true):ns.getD i []=nm/\HD Dv ps (ss.getD i []) qs=true:=by
 rw[Dv,if_neg (by decide),if_pos rfl]at h;simp only[Jm]at h;rw[Ba,Ku]at h;exact⟨beq_iff_eq.1 h.1,h.2⟩
def AskR(r:Option (List Nat))(v:AV):Prop:=∃ w,(∃ path,r=some path/\v=.tup [w,.bool true]/\SlR CV 1 (DX path) w)\/(r=none/\v=.tup [.AI,.bool false])
theorem eu{path:List Nat}{w:AV}(hw:SlR CV 1 (DX path) w)(hl:path.length<1048577)(i:Nat)(H:AE):∃ w' H',apA 1 8 (.sl 1 true [[.int .i64 i]]) w H=some (w',H')/\w'.cells=some [w']/\∃ w2 H2,BC 1 w' H' w2 H2/\SlR CV 1 (DX (i::path)) w2/\(w'.AA=true->w'=w2):=by
 obtain⟨es,h1,h2,h3,h4,h5⟩:=SlR.rdU hw;have hap:apA 1 8 (.sl 1 true [[.int .i64 i]]) w H=apX 1 8 (.sl 1 true [[.int .i64 i]]) es 1 H:=by
  unfold apA;rcases hw with⟨_,rfl⟩ | ⟨_,_,rfl,_⟩ <;> simp only[h1,h2,Fs] <;> rfl
 rw[hap];have hnl:(DX path).length=path.length:=by simp[DX]
 have e1:Bu 1 (.sl 1 true [[AV.int .i64 i]])=true:=by simp[Bu,BF]
 have hone:∀(m:Nat) a e,(DX [i])[m]? = some a->([[AV.int .i64 i]]:List (List AV))[m]? = some e->CV a e:=fun m a e g1 g2=>by
  match m with
  | 0=>simp[DX]at g1 g2;subst g1;exact g2.symm
  | m+1=>simp[DX]at g1
 obtain⟨r1,r2⟩:=TC (es:=[[AV.int .i64 i]]) (l:=DX [i]) rfl hone h4 h5;have hcat:DX [i]++DX path=DX (i::path):=rfl;rw[hcat]at r1 r2;cases es with
 | nil=>
  have hp0:path=[]:=EH (by simpa[hnl]using h4.symm);subst hp0;refine⟨_,H,by simp[apX,e1,GB] <;> exact⟨rfl,rfl⟩,rfl,.sl 1 true [[.int .i64 i]],H,fun n=>rfl,.inr ⟨true,_,rfl,rfl,hone⟩,fun _=>rfl⟩
 | cons y ys=>
  have hl2:ys.length+1=path.length:=by rw[<- hnl,<- h4];rfl
  have b1:(1+(ys.length+1)) * 8<=17592186044416:=Cz (Lm (show 1+(ys.length+1)<=1048577 by omega) (Cd 8)) (by decide);have b2:1+(ys.length+1)<=17592186044416:=Cz (show 1+(ys.length+1)<=1048577 by omega) (by decide);have hnr:([AV.int .i64 i]::y::ys).all AF=true:=BN r1 r2 Ks;have hacc:Ak 1 H.length [.arr 1 false ([AV.int .i64 i]::y::ys)] (.hs H.length (ys.length+2) 1 0 (ys.length+2) false) ([AV.int .i64 i]::y::ys):=.inr ⟨0,by simp,by simp,rfl⟩;refine⟨.hs H.length (ys.length+2) 1 0 (ys.length+2) false,H++[.arr 1 false ([AV.int .i64 i]::y::ys)],by simp[apX,e1,GB,Aw,A6,b1,b2],rfl,_,_,fun n=>hacc.snap hnr (by simp),.inr ⟨false,_,rfl,r1,r2⟩,fun h=>by cases h⟩
theorem c126(p:TyV):∀(s:Sh) (q:KV) (u:AV) (px:List AV),Cl s q u->NdX s->AU p px->Sm 1048577 p->CB s p=0->dp p<1048577->Dv p s q=true->∃ r,AskR (FO p q) r/\∀ h,AH MX (AG MX) 126 [u,.agg px] h=some (.ret r,h):=by
 induction p using TyV.ind with
 | h k v nm ps ih=>
  intro s q u px hk hnd hx hsm hpe hdp hmay;obtain⟨s1,s2,s3⟩:=hsm.dest;obtain⟨pv,rfl,hp⟩:=hx.dest;have hb3:=Wo;simp[Ab,Az,f126]at hb3;have hb10:=UA;simp[Ab,Az,f126]at hb10;have hn:([u,AV.agg [.int .i64 k,.int .i64 v,.str nm,pv]]:List AV).all AV.AA=true:=by simp[AV.AA,AF,hk.AA,hp.AA]
  have hflat:∀ ok,(∃ hr,AJ MX 126 [u,AV.agg [.int .i64 k,.int .i64 v,.str nm,pv]] []=some (.ret (.tup [.AI,.bool ok]),hr))->∀ h,AH MX (AG MX) 126 [u,AV.agg [.int .i64 k,.int .i64 v,.str nm,pv]] h=some (.ret (.tup [.AI,.bool ok]),h):=fun ok ⟨hr,hh⟩ h=>Ae OQ Qu hn rfl hh h
  have hyes:AskR (some []) (.tup [.AI,.bool true]):=⟨.AI,.inl ⟨[],rfl,rfl,.inl ⟨rfl,rfl⟩⟩⟩;have hno:AskR none (.tup [.AI,.bool false]):=⟨.AI,.inr ⟨rfl,rfl⟩⟩;obtain⟨us,rfl⟩:=hk.ro;rcases Hs hpe with⟨rfl,rfl⟩ | ⟨rfl,rfl⟩ | ⟨rfl,rfl,n,rfl⟩ | ⟨rfl,_⟩
  .exact⟨_,by simpa[FO]using hno,hflat false ⟨_,by simp[AJ,f126] <;> rfl⟩⟩
  .exact⟨_,by simpa[FO]using hno,hflat false ⟨_,by simp[AJ,f126] <;> rfl⟩⟩
  .obtain⟨nov,a,e,hnv,hnl,_,_,hq⟩:=hk.JW;cases e;rcases hq with⟨ha,hq⟩ | ⟨ha,hq⟩
   .subst ha;have hm:FO (.mk 3 v nm []) q=some []:=(by rw[hq];simp[FO,QG]);rw[hm];exact⟨_,hyes,hflat true ⟨_,by simp[AJ,f126,hb3,AF,AV.AA,hnv.AA,hp.AA] <;> rfl⟩⟩
   .subst hq;have hm:FO (.mk 3 v nm []) (.num a)=none:=(by simp[FO,QG]);have ha1:(a == (-1:Int))=false:=(by rw[beq_eq_false_iff_ne];omega);rw[hm];exact⟨_,hno,hflat false ⟨_,by simp[AJ,f126,ha1,hb3,AF,AV.AA,hnv.AA,hp.AA] <;> rfl⟩⟩
  .obtain⟨ns,ss,j,rfl,hj,hpl,hpes⟩:=F6 hpe;cases q with
   | num n=>cases hk
   | unk no=>
    cases hk with
    | unk hs hno' hnl=>
     have hm:FO (.mk 2 v nm ps) (.unk no)=some []:=(by simp[FO,O8]);rw[hm];exact⟨_,hyes,hflat true ⟨_,by simp[AJ,f126] <;> rfl⟩⟩
   | con i qs=>
    obtain⟨ns',ss',sv,parts,qv,e1,e2,hs,hi,hql,hqv⟩:=hk.dest;cases e1;have hil:=(Ac.1 hi).1;obtain⟨hm1,hm2⟩:=JE hmay;obtain⟨cv,_,hsl,_,_,_⟩:=hs.cons;have hij:i=j:=Ds hnd.nodup hj (by omega) hm1;subst hij;have hgp:ss.getD i []=parts:=(by simp[List.getD,hi]);rw[hgp]at hpl hpes hm2;have hm:FO (.mk 2 v nm ps) (.con i qs)=GN ps qs 0:=(by simp[FO,O8]);rw[hm];have hdps:∀ p∈ps,dp p<1048577:=fun p hp=>by
     have:=Uk hp;rw[dp]at hdp;omega
    have hne:((i:Int) == -1)=false:=(by rw[beq_eq_false_iff_ne];omega);cases e2;have hsvn:=hs.AA;obtain⟨svs,rfl⟩:=hs.ro;obtain⟨e,st,hlp,hq'⟩:=AQ (M:=MX) (fid:=126) (N:=52) (C:=AG MX) (c:=AL f126 0) (n:=ps.length)
     (fun m (b:AE)=>([(0,.ro [.ro svs,.int .i64 i,.int .i64 (-1),.AI,qv]),(27,pv),(28,.int .i64 ps.length),(29,.int .i64 m)],b))
     (fun m _=>GN ps qs 0=GN (ps.drop m) (qs.drop m) m)
     (fun r=>(∃ b:AE,r=(.ext 1,([(0,.ro [.ro svs,.int .i64 i,.int .i64 (-1),.AI,qv]),(27,pv),(28,.int .i64 ps.length),(29,.int .i64 ps.length),(30,.bool false)],b))/\GN ps qs 0=none)\/(∃(b:AE) (w w2:AV) (H2:AE) (path:List Nat),r=(.ret,([(4,w),(5,.bool true)],b))/\GN ps qs 0=some path/\w.cells=some [w]/\BC 1 w b w2 H2/\SlR CV 1 (DX path) w2/\(w.AA=true->w=w2))) (fun m b hm' hI=>by
       have hjp:m<parts.length:=(by omega);have hjq:m<qs.length:=(by omega);have hjz:m<(parts.zip qs).length:=(by simp;omega);have hj':=Aa hm';have hw:=AZ hm' s2;obtain⟨e,he,hR⟩:=hp.ix hm';obtain⟨e2,he2,w,rfl,hw2⟩:=hqv.ix (i:=m) hjz;rw[GW]at hw2;rw[Uj hm' hjq]at hI;have gp:=AO hm';have gs:=AO hjp;have gq:=AO hjq;have hmem:=An hm';obtain⟨r,hr,hrec⟩:=ih ps[m] hmem parts[m] qs[m] w e hw2 (hnd.part hi (An hjp)) hR (s3 _ hmem) ((Es hpl).1 hpes m _ _ gs gp) (hdps _ hmem) (KX hm2 gp gs gq);obtain⟨ws,rfl⟩:=hw2.ro;obtain⟨q1,rfl,hq1⟩:=hR.AY;have hq1n:=hq1.AA;obtain⟨w',⟨path,hpath,rfl,hw'⟩ | ⟨hnone,rfl⟩⟩:=hr
       .have hlen:=O9 _ _ _ hpath;have hdpm:=hdps _ hmem;obtain⟨w1,H1,a1,a2,w2,H2,a3,a4,a5⟩:=eu hw' (by omega) m (b++[.var false [.int .i64 ps[m].k,.int .i64 ps[m].v,.str ps[m].nm,q1]]);have hwn:=hw'.AA;have hwc:=hw'.cells;rw[hpath]at hI;exact .inr ⟨_,_,by simp[f126,hj',he,he2,hrec,hb10,AF,AV.AA,hq1n,BD,Fu,bsA,Ag,a1,a2,hwn,hwc] <;> first | exact⟨rfl,rfl⟩ | rfl,by simp,.inr ⟨H1,w1,w2,H2,m::path,rfl,hI,a2,a3,a4,a5⟩⟩
       .rw[hnone]at hI;exact .inl ⟨b++[.var false [.int .i64 ps[m].k,.int .i64 ps[m].v,.str ps[m].nm,q1]],by simp[f126,hj',he,he2,hrec,hw,hb10,AF,AV.AA,hq1n,BD,Fu],hI⟩) (fun b hI=>by
       rw[DD,GN]at hI;exact⟨_,_,by simp[f126] <;> first | exact⟨rfl,rfl⟩ | rfl,by simp,.inl ⟨b,rfl,hI⟩⟩) [.var false [.int .i64 2,.int .i64 v,.str nm,pv]] (by simp)
    simp[f126]at hlp;rcases hq' with⟨b,hq',hr⟩ | ⟨b,w,w2,H2,path,hq',hr,b1,b2,b3,b4⟩
    .cases hq';rw[hr];exact⟨_,hno,hflat false ⟨_,by simp[AJ,f126,hne,hp.len,hlp] <;> rfl⟩⟩
    .cases hq';rw[hr];refine⟨.tup [w2,.bool true],⟨w2,.inl ⟨path,rfl,rfl,b3⟩⟩,fun h => ?_⟩;have hrun:AJ MX 126 [.ro [.ro svs,.int .i64 i,.int .i64 (-1),.AI,qv],AV.agg [.int .i64 2,.int .i64 v,.str nm,pv]] []=some (.ret (.tup [w,.bool true]),b):=by
      simp[AJ,f126,hne,hp.len,hlp] <;> rfl
     cases hwn:w.AA with
     | true=>
      have:=b4 hwn;subst this;exact Ae OQ Qu hn (by simp[AV.AA,AF,hwn]) hrun h
     | false=>
      exact Jk OQ Qu hn (BC.tup (by simp[AF,hwn]) (.cons b2 (.cons (.flat rfl _) (.nil _)))) (by decide) (by simp[AV.AA,AF,b3.AA]) (fun h=>by simp[AV.AA,AF,hwn]at h) hrun h
def nAt:List Nat->TyV->Int×Bool
 | [],p=>(p.v,p.k == 3)
 | i::r,p=>if p.k=2/\i<p.ps.length then nAt r (p.ps.getD i default)else(0,false)
theorem c169{path:List Nat}{pv:AV}(hp:SlR CV 1 (DX path) pv)(hl:path.length<1048577){p:TyV}{px:List AV}(hx:AU p px)(h:AE):AH MX (AG MX) 169 [.agg px,pv] h=some (.ret (.tup [.int .i64 (nAt path p).1,.bool (nAt path p).2]),h):=by
 have hnl:(DX path).length=path.length:=by simp[DX]
 obtain⟨qv,rfl,hq⟩:=hx.AY;have hb8:=Wz;simp[Ab,Az,f169]at hb8;obtain⟨e,st,hlp,hq'⟩:=AQ (M:=MX) (fid:=169) (N:=35) (C:=AG MX) (c:=AL f169 0) (n:=path.length)
  (fun i (b:TyV×AV)=>([(2,.hp 0 0),(8,pv),(9,.int .i64 path.length),(10,.int .i64 i)],[.var false [.int .i64 b.1.k,.int .i64 b.1.v,.str b.1.nm,b.2]]))
  (fun i b=>SlR AU 4 b.1.ps b.2/\nAt path p=nAt (path.drop i) b.1)
  (fun r=>(∃ b:TyV×AV,r=(.ext 0,([(2,.hp 0 0),(8,pv),(9,.int .i64 path.length),(10,.int .i64 path.length),(11,.bool false)],[.var false [.int .i64 b.1.k,.int .i64 b.1.v,.str b.1.nm,b.2]]))/\nAt path p=(b.1.v,b.1.k == 3))\/(∃ H,r=(.ret,([(4,.int .i64 0),(5,.bool false)],H))/\nAt path p=(0,false))) (fun i b hi hI=>by
    obtain⟨c,w⟩:=b;obtain⟨i1,i2⟩:=hI;simp only at i1 i2;rw[EJ hi,nAt]at i2;have hel:(DX path)[i]'(by omega)=(path[i]:Int):=(by simp[DX]);by_cases hc:c.k=2/\path[i]<c.ps.length
    .rw[if_pos hc]at i2;have hgd:c.ps.getD path[i] default=c.ps[path[i]]'hc.2:=(by simp[List.getD,AO hc.2]);rw[hgd]at i2;obtain⟨hc1,hc2⟩:=hc;have hlt:((path[i]:Int) ≥ (c.ps.length:Int))=False:=(by rw[eq_iff_iff];exact⟨fun h=>by omega,fun h=>h.elim⟩);have hlt2:((c.ps.length:Int)<=(path[i]:Int))=False:=(by rw[eq_iff_iff];exact⟨fun h=>by omega,fun h=>h.elim⟩);have hlt3:(c.ps.length<=path[i])=False:=(by rw[eq_iff_iff];exact⟨fun h=>by omega,fun h=>h.elim⟩);have hi':=Aa hi;have hwr:=AZ hi hl;obtain⟨e,he,hR⟩:=hp.ix (i:=i) (by omega);rw[hel]at hR;subst hR;obtain⟨e2,he2,hR2⟩:=i1.ix hc2;obtain⟨q2,rfl,hq2⟩:=hR2.AY;exact .inl ⟨(c.ps[path[i]],q2),by simp[f169,hi',he,hc1,i1.len,hlt,hlt2,hlt3,he2,hwr],hq2,i2⟩
    .rw[if_neg hc]at i2;have hi':=Aa hi;obtain⟨e,he,hR⟩:=hp.ix (i:=i) (by omega);rw[hel]at hR;subst hR;by_cases hc1:c.k=2
     .have hge:(c.ps.length<=path[i]):=by
       apply Decidable.byContradiction;intro hh;exact hc ⟨hc1,by omega⟩
      have hge2:((c.ps.length:Int)<=(path[i]:Int))=True:=(by rw[eq_iff_iff];exact⟨fun _=>trivial,fun _=>by omega⟩);exact .inr ⟨_,_,by simp[f169,hi',he,hc1,i1.len,hge,hge2] <;> first | exact⟨rfl,rfl⟩ | rfl,by simp,.inr ⟨_,rfl,i2⟩⟩
     .have hne:(c.k == 2)=false:=(by rw[beq_eq_false_iff_ne];exact hc1);exact .inr ⟨_,_,by simp[f169,hi',he,hc1,hne,bne] <;> first | exact⟨rfl,rfl⟩ | rfl,by simp,.inr ⟨_,rfl,i2⟩⟩) (fun b hI=>by
    obtain⟨c,w⟩:=b;obtain⟨i1,i2⟩:=hI;simp only at i1 i2;rw[DD,nAt]at i2;exact⟨_,_,by simp[f169] <;> first | exact⟨rfl,rfl⟩ | rfl,by simp,.inl ⟨(c,w),rfl,i2⟩⟩) (p,qv) ⟨hq,rfl⟩
 simp[f169]at hlp;have hlen:=hp.len;rw[hnl]at hlen;rcases hq' with⟨⟨c,w⟩,hq',hr⟩ | ⟨H,hq',hr⟩ <;> cases hq' <;> rw[hr]
 .exact Ae SM VX (by simp[AV.AA,AF,hq.AA,hp.AA]) (by simp[AV.AA,AF]) (hr:=_) (by simp[AJ,f169,hlen,hlp,hb8] <;> rfl) h
 .exact Ae SM VX (by simp[AV.AA,AF,hq.AA,hp.AA]) (by simp[AV.AA,AF]) (hr:=_) (by simp[AJ,f169,hlen,hlp] <;> rfl) h
theorem c114m{s:Sh}{q:KV}{u:AV}(hk:Cl s q u)(hnd:NdX s){arms:List TyV}{av:AV}(ha:SlR AU 4 arms av)(hal:arms.length<1048577)(has:∀ p∈arms,Sm 1048577 p)(hpe:∀ p∈arms,CB s p=0)(h:AE):AH MX (AG MX) 114 [av,.fn 123 [u] []] h=some (.ret (.int .i64 (ixI (arms.findIdx? (fun p=>Dv p s q)))),h):=by
 obtain⟨us,rfl⟩:=hk.ro;obtain⟨e,st,hlp,hq⟩:=AQ (M:=MX) (fid:=114) (N:=19) (C:=AG MX) (c:=AL f114 0) (n:=arms.length) (fun i (b:AE)=>([(0,av),(1,.fn 123 [.ro us] []),(7,.int .i64 arms.length),(8,.int .i64 i)],b)) (fun i _=>∀ j (hj:j<arms.length),j<i->(fun p=>Dv p s q) arms[j]=false)
  (fun r=>∃ b:AE,(r=(.ext 0,([(0,av),(1,.fn 123 [.ro us] []),(7,.int .i64 arms.length),(8,.int .i64 arms.length),(9,.bool false)],b))/\arms.findIdx? (fun p=>Dv p s q)=none)\/(∃ i:Nat,r=(.ret,([(4,.int .i64 i)],b))/\arms.findIdx? (fun p=>Dv p s q)=some i)) (fun i b hi hI=>by
    obtain⟨e,he,hR⟩:=ha.ix hi;have hi':=Aa hi;have hw:=AZ hi hal;have hmem:=An hi;have hcall:=c123 arms[i] s q _ e hk hnd hR (has _ hmem) (hpe _ hmem);obtain⟨q1,rfl,hq1⟩:=hR.AY;cases hx:Dv arms[i] s q with
    | true=>rw[hx]at hcall;exact .inr ⟨_,_,by simp[f114,hi',he,hcall] <;> exact⟨rfl,rfl⟩,by simp,b,.inr ⟨i,rfl,FH (p:=(fun p=>Dv p s q)) hi hI hx⟩⟩
    | false=>rw[hx]at hcall;exact .inl ⟨b,by simp[f114,hi',he,hcall,hw],FJ (p:=(fun p=>Dv p s q)) hi hI hx⟩) (fun b hI=>by
    exact⟨_,_,by simp[f114] <;> exact⟨rfl,rfl⟩,by simp,b,.inl ⟨rfl,FI (p:=(fun p=>Dv p s q)) fun j hj=>hI j hj hj⟩⟩) [] (fun j _ h0=>by omega)
 simp[f114]at hlp;obtain⟨b,hq⟩:=hq;rcases hq with⟨hq,hs⟩ | ⟨i,hq,hs⟩ <;> cases hq <;> exact Ae ON VH (by simp[ha.AA,AV.AA,AF]) rfl (hr:=b) (by simp[AJ,f114,ha.len,hlp,hs,ixI]) h
theorem effY{f:FuncId}{args:List AV}{h:AE}{r:CR×AE}{e:List AV->AE->Option (CR×AE)}(hm:MX.mode f = { })(he:MX.eff f=some e)(hr:e args h=some r):AH MX (AG MX) f args h=some r:=by
 unfold AH;simp only[hm];exact Mm he hr
def LF(l:List Int):List Int:=l.mergeSort fun x y=>decide (x<=y)
def NJ(l:List Int):List Int:=Lib.compact (LF l)
theorem QI(l:List Int):(LF l).length=l.length:=by simp[LF]
theorem MT(l:List Int):(NJ l).length<=l.length:=Cz (KC _) (Nat.le_of_eq (QI l))
theorem c170{H:AE}{id:Nat}{l:List Int}(hid:H[id]? = some (.arr 1 false (DA l)))(hl:l≠[])(hb:l.length<4294967296):AH MX (AG MX) 170 [.hs id l.length 1 0 l.length false] H=some (.ret (.tup []),H.set id (.arr 1 false (DA (LF l)))):=by
 refine effY SN VY ?_;have h2:(DA l).length=l.length:=D1 l;have h0:0<l.length:=Iv.2 hl;have hc:(Nat.beq (DA l).length l.length&&Nat.beq l.length l.length&&Nat.blt 0 l.length&&Nat.blt l.length 4611686018427387904)=true:=by
  rw[h2];simp only[Ba,Br,GB];exact⟨⟨⟨trivial,trivial⟩,h0⟩,by omega⟩
 simp only[Rv,hid,KE,hc];rfl
theorem c171{H:AE}{id:Nat}{l:List Int}(hid:H[id]? = some (.arr 1 false (DA l)))(hl:l≠[])(hb:l.length<4294967296):AH MX (AG MX) 171 [.hs id l.length 1 0 l.length false] H=some (.ret (.hs id l.length 1 0 (Lib.compact l).length false),H.set id (.arr 1 false (DA (Lib.compact l++List.replicate (l.length - (Lib.compact l).length) 0)))):=by
 refine effY SO VZ ?_;have h2:(DA l).length=l.length:=D1 l;have h0:0<l.length:=Iv.2 hl;have hc:(Nat.beq (DA l).length l.length&&Nat.beq l.length l.length&&Nat.blt 0 l.length&&Nat.blt l.length 4611686018427387904)=true:=by
  rw[h2];simp only[Ba,Br,GB];exact⟨⟨⟨trivial,trivial⟩,h0⟩,by omega⟩
 simp only[KG,hid,KE,hc]
theorem c170n(H:AE):AH MX (AG MX) 170 [.AI] H=some (.ret (.tup []),H):=effY SN VY rfl
theorem c171n(H:AE):AH MX (AG MX) 171 [.AI] H=some (.ret .AI,H):=effY SO VZ rfl
def KY(path:List Nat)(s:Sh)(q:KV)(no:List Int)(p:TyV):Option Int:=if(nAt path p).2&&(Dv p s q && !no.contains (nAt path p).1)then some (nAt path p).1 else none
def GO(path:List Nat)(s:Sh)(q:KV)(no:List Int)(arms:List TyV):List Int:=arms.filterMap (KY path s q no)
def Mv(base:Nat)(H:AE)(w:AV)(l:List Int):Prop:=(l=[]/\w=.AI)\/∃ j gen lk ms,base<=j/\w=.hs j gen 1 0 l.length false/\H[j]? = some (.arr 1 lk (DA ms))/\ms.length=gen/\l.length<=gen/\ms.take l.length=l
theorem c130{s:Sh}{q:KV}{u:AV}(hk:Cl s q u)(hnd:NdX s){arms:List TyV}{av:AV}(ha:SlR AU 4 arms av)(hal:arms.length<1048577)(has:∀ p∈arms,Sm 1048577 p)(hpe:∀ p∈arms,CB s p=0){path:List Nat}{pv:AV}(hp:SlR CV 1 (DX path) pv)(hl:path.length<1048577){w:Int}{k':KV}(hy:atK path (s,q)=some (.bit w,k'))
 {H:AE} {B:Nat} {nv lv:AV} (hB:H[B]? = some (.var false [av,nv,lv])):∃ x H',AH MX (AG MX) 130 [.hp B 0,u,pv] H=some (.ret x,H')/\H.length<=H'.length/\(∀ j,j<H.length->H'[j]? = H[j]?)/\Mv H.length H' x (NJ (GO path s q (Gc k') arms)):=by
 obtain⟨us,rfl⟩:=hk.ro;obtain⟨ku,hku,h127⟩:=c127 (x:=(s,q)) hk hp hl hy;obtain⟨nov,a,rfl,hno,hnl,_,_,_⟩:=hku.JW;obtain⟨no,hnoe⟩:∃ no,no=Gc k':=⟨_,rfl⟩;rw[<- hnoe]at hno hnl ⊢;have hstep:∀(i:Nat) (hi:i<arms.length),GO path s q no (arms.take (i+1))=GO path s q no (arms.take i)++(KY path s q no arms[i]).toList:=fun i hi=>by
  rw[<- Cf hi,GO,List.filterMap_append,<- GO];cases hc:KY path s q no arms[i] <;> simp[hc]
 have hcl:∀ i,(GO path s q no (arms.take i)).length<=arms.length:=fun i=>Cz (TX _ _) (by simp;omega)
 obtain⟨e,st,hlp,hq⟩:=AQ (M:=MX) (fid:=130) (N:=53) (C:=AG MX) (c:=AL f130 0) (n:=arms.length)
  (fun i (b:AV×AE)=>([(1,.ro us),(2,pv),(7,b.1),(15,av),(16,.int .i64 arms.length),(17,.int .i64 i)],b.2))
  (fun i b=>∃ rest,b.2=H++rest/\Ak 1 H.length rest b.1 (DA (GO path s q no (arms.take i))))
  (fun r=>∃(w:AV) (b:AE),r=(.ext 0,([(1,.ro us),(2,pv),(7,w),(15,av),(16,.int .i64 arms.length),(17,.int .i64 arms.length),(18,.bool false)],b))/\∃ rest,b=H++rest/\Ak 1 H.length rest w (DA (GO path s q no arms))) (fun i b hi hI=>by
    obtain⟨w,b⟩:=b;obtain⟨rest,i1,i2⟩:=hI;simp only at i1 i2;have hclen:=hcl i;have hst:=hstep i hi;have hi':=Aa hi;have hwr:=AZ hi hal;obtain⟨e,he,hR⟩:=ha.ix hi;have hmem:=An hi;have h123:=c123 arms[i] s q _ e hk hnd hR (has _ hmem) (hpe _ hmem);have h169:=c169 hp hl hR;have h166:=c166 hno hnl (nAt path arms[i]).1;obtain⟨q1,rfl,hq1⟩:=hR.AY;have hq1n:=hq1.AA;obtain⟨X,hX⟩:∃ X,X=Blk.var false [.int .i64 arms[i].k,.int .i64 arms[i].v,.str arms[i].nm,q1]:=⟨_,rfl⟩;have hco:KY path s q no arms[i]=if(nAt path arms[i]).2&&(Dv arms[i] s q && !no.contains (nAt path arms[i]).1)then some (nAt path arms[i]).1 else none:=rfl
    rcases hn:nAt path arms[i]with⟨n,is⟩;simp only[hn]at h169 h166 hco;have hgr:=i2.grow [X];have hgo:∀ v,KY path s q no arms[i]=v->v=none->∃ rest',b++[X]=H++rest'/\Ak 1 H.length rest' w (DA (GO path s q no (arms.take (i+1)))):=fun v h1 h2=>by
     rw[hst,h1,h2];exact⟨rest++[X],by rw[i1,CO],by simpa using hgr⟩
    cases is with
    | false=>
     simp at hco;exact .inl ⟨(w,b++[X]),by simp[f130,hi',he,h169,hwr,BD,Fu,AF,AV.AA,hX],hgo _ hco rfl⟩
    | true=>
     cases hmy:Dv arms[i] s q with
     | false=>
      rw[hmy]at h123 hco;simp at hco;exact .inl ⟨(w,b++[X]),by simp[f130,hi',he,h169,h123,hwr,BD,Fu,AF,AV.AA,hX],hgo _ hco rfl⟩
     | true=>
      rw[hmy]at h123 hco;cases hct:no.contains n with
      | true=>
       rw[hct]at h166 hco;simp at hco;exact .inl ⟨(w,b++[X]),by simp[f130,hi',he,h169,h123,h127,h166,hwr,BD,Fu,AF,AV.AA,hX],hgo _ hco rfl⟩
      | false=>
       rw[hct]at h166 hco;simp at hco;obtain⟨a',rest',hap,hacc⟩:=Ak.push (byt:=8) (P:=H) [.int .i64 n] true hgr (by decide) (by decide) (by rw[D1];omega);rw[<- CO,<- i1]at hap;rw[hX]at hap;have hc:=hacc.cells;refine .inl ⟨(a',H++rest'),by simp[f130,hi',he,h169,h123,h127,h166,hwr,BD,Fu,AF,AV.AA,hap,hc,bsA,Ag],rest',rfl,?_⟩;rw[hst,hco];simpa[DA]using hacc) (fun b hI=>by
    obtain⟨w,b⟩:=b;rw[Gu]at hI;exact⟨_,_,by simp[f130] <;> first | exact⟨rfl,rfl⟩ | rfl,by simp,w,b,rfl,hI⟩) (.AI,H) ⟨[],by simp,by simp[GO,DA,Ak.nil]⟩
 simp[f130]at hlp;have hcl':=hcl arms.length;rw[Gu]at hcl';obtain⟨x,b,hq,rest,rfl,hacc⟩:=hq;cases hq;obtain⟨cs,hcs⟩:∃ cs,cs=GO path s q no arms:=⟨_,rfl⟩;rw[<- hcs]at hacc hcl' ⊢;rcases hacc with⟨h0,rfl⟩ | ⟨j,h0,rfl,hj⟩
 .have hcs0:cs=[]:=by simpa[DA]using h0
  have h170:=c170n (H++rest);have h171:=c171n (H++rest);refine⟨.AI,H++rest,CU R9 VK (by simp[AJ,f130,hB,ha.len,hlp,h170,h171]),by simp,fun j hj=>A9 hj,.inl ⟨by rw[hcs0];exact EH (Mg.1 (MT [])),rfl⟩⟩
 .have hcs0:cs≠[]:=fun h=>h0 (by rw[h];rfl)
  have hid:(H++rest)[H.length+j]? = some (.arr 1 false (DA cs)):=by rw[En (by omega)];simpa using hj
  rw[D1]at hlp;have h170:=c170 hid hcs0 (by omega);obtain⟨Y,hY⟩:∃ Y,Y=(H++rest).set (H.length+j) (.arr 1 false (DA (LF cs))):=⟨_,rfl⟩;have hidl:H.length+j<(H++rest).length:=(Ac.1 hid).1;have hid2:Y[H.length+j]? = some (.arr 1 false (DA (LF cs))):=by rw[hY,CM hidl]
  have hsl:=QI cs;have h171:=c171 hid2 (fun h=>hcs0 (EH (by rw[<- hsl,h];rfl))) (by omega);rw[<- hY]at h170;rw[hsl]at h171;have hcm:(Lib.compact (LF cs)).length<=cs.length:=MT cs;refine⟨_,_,CU R9 VK (by simp[AJ,f130,hB,ha.len,hlp,h170,h171] <;> exact⟨rfl,rfl⟩),?_,fun x hx => ?_,.inr ⟨H.length+j,cs.length,false,Lib.compact (LF cs)++List.replicate (cs.length - (Lib.compact (LF cs)).length) 0,by omega,rfl,?_,by simp;omega,hcm,by simp[NJ]⟩⟩
  .simp[hY]
  .rw[BP (by omega),hY,BP (by omega),A9 hx]
  .rw[CM (by rw[hY,GX];exact hidl)]
def MU(H:AE)(c:Nat)(cs:List Ha)(cv:AV):Prop:=(cs=[]/\cv=.AI)\/∃ ces,cs≠[]/\cv=.hs c cs.length 3 0 cs.length false/\H[c]? = some (.arr 3 false ces)/\ces.length=cs.length/\∀(j:Nat) t e,cs[j]? = some t->ces[j]? = some e->HH t e
def an(H:AE)(c:Nat)(v:A2)(e:List AV):Prop:=∃ pv cv,e=[.int .i64 v.arm,pv,cv,.int .i64 v.other]/\SlR CV 1 v.path pv/\MU H c v.cases cv
def Et(O:Nat->Prop)(H:AE)(B:Nat)(nv:AV)(ns:List A2):Prop:=(ns=[]/\nv=.AI)\/∃ J es,ns≠[]/\J≠B/\O J/\nv=.hs J ns.length 4 0 ns.length false/\H[J]? = some (.arr 4 false es)/\es.length=ns.length /\
 ∃ cid:Nat->Nat,(∀ i j v w,ns[i]? = some v->ns[j]? = some w->v.cases≠[]->w.cases≠[]->cid i=cid j->i=j)/\(∀ i v,ns[i]? = some v->v.cases≠[]->cid i≠B/\cid i≠J/\O (cid i))/\∀(i:Nat) v e,ns[i]? = some v->es[i]? = some e->an H (cid i) v e
def Fz(O:Nat->Prop)(H:AE)(B:Nat)(av:AV)(lg:Bool)(ns:List A2):Prop:=O B/\(∀ x,O x->x<H.length)/\∃ nv,H[B]? = some (.var false [av,nv,.bool lg])/\Et O H B nv ns
theorem Et.cells{O:Nat->Prop}{H:AE}{B:Nat}{nv:AV}{ns:List A2}(h:Et O H B nv ns):nv.cells=some [nv]:=by
 rcases h with⟨_,rfl⟩ | ⟨_,_,_,_,_,rfl,_⟩ <;> rfl
theorem Et.len{O:Nat->Prop}{H:AE}{B:Nat}{nv:AV}{ns:List A2}(h:Et O H B nv ns)(X:AE):Bi nv X=some (.val (.int .i64 ns.length) X):=by
 rcases h with⟨rfl,rfl⟩ | ⟨_,_,_,_,_,rfl,_⟩ <;> rfl
theorem Et.C5{O:Nat->Prop}{H:AE}{B:Nat}{nv:AV}{ns:List A2}(h:Et O H B nv ns):C5 (some nv)=.st:=by
 rcases h with⟨rfl,rfl⟩ | ⟨_,_,_,_,_,rfl,_⟩ <;> rfl
theorem MU.mono{H H':AE}{c:Nat}{cs:List Ha}{cv:AV}(h:MU H c cs cv)(hh:cs≠[]->H'[c]? = H[c]?):MU H' c cs cv:=by
 rcases h with h | ⟨ces,h0,h1,h2,h3⟩
 .exact .inl h
 .exact .inr ⟨ces,h0,h1,by rw[hh h0];exact h2,h3⟩
theorem Et.mono{O O':Nat->Prop}{H H':AE}{B:Nat}{nv:AV}{ns:List A2}(h:Et O H B nv ns)(hO:∀ x,O x->O' x)(hh:∀ x,O x->x≠B->H'[x]? = H[x]?):Et O' H' B nv ns:=by
 rcases h with h | ⟨J,es,h0,h1,h2,h3,h4,h5,cid,h6,h7,h8⟩
 .exact .inl h
 .refine .inr ⟨J,es,h0,h1,hO _ h2,h3,by rw[hh J h2 h1];exact h4,h5,cid,h6,fun i v g1 g2 => ?_,fun i v e g1 g2 => ?_⟩
  .obtain⟨k1,k2,k3⟩:=h7 i v g1 g2;exact⟨k1,k2,hO _ k3⟩
  .obtain⟨pv,cv,k1,k2,k3⟩:=h8 i v e g1 g2;exact⟨pv,cv,k1,k2,k3.mono fun hc=>hh _ (h7 i v g1 hc).2.2 (h7 i v g1 hc).1⟩
theorem Et.push{O:Nat->Prop}{H:AE}{B:Nat}{nv pv:AV}{ns:List A2}(h:Et O H B nv ns)(hO:∀ x,O x->x<H.length)(hBl:B<H.length){v:A2}(hv:SlR CV 1 v.path pv)(hc:v.cases=[])(hl:ns.length<1048577)(ex:Bool) :
 ∃ nv' H',apA 4 64 nv (.sl 4 ex [[.int .i64 v.arm,pv,.AI,.int .i64 v.other]]) H=some (nv',H')/\H.length<=H'.length/\(∀ x,x<H.length->¬ (O x/\x≠B)->H'[x]? = H[x]?)/\Et (fun x=>O x\/(H.length<=x/\x<H'.length)) H' B nv' (ns++[v]):=by
 obtain⟨e,he⟩:∃ e:List AV,e=[.int .i64 v.arm,pv,.AI,.int .i64 v.other]:=⟨_,rfl⟩;rw[<- he];have hnode:∀ X c,an X c v e:=fun X c=>⟨pv,.AI,he,hv,.inl ⟨hc,rfl⟩⟩
 have hrd:∀ X,Ax X (.sl 4 ex [e])=some [e]:=fun _=>rfl
 rcases h with⟨rfl,rfl⟩ | ⟨J,es,h0,h1,h2,rfl,h4,h5,cid,h6,h7,h8⟩
 .refine⟨.hs H.length 1 4 0 1 false,H++[.arr 4 false [e]],?_,by simp,fun x hx _=>A9 hx,.inr ⟨H.length,[e],by simp,by omega,.inr ⟨Cd _,by simp⟩,rfl,by simp,rfl,fun _=>0,fun i j v' w' g1 g2 g3 _ _ => ?_,fun i v' g1 g2 => ?_,fun i v' e' g1 g2 => ?_⟩⟩
  .simp[apA,apX,hrd,Bu,BF,Fs,Aw,Ay,A6,Bt]
  .cases i with
   | zero=>simp at g1;subst g1;exact absurd hc g3
   | succ i=>simp at g1
  .cases i with
   | zero=>simp at g1;subst g1;exact absurd hc g2
   | succ i=>simp at g1
  .cases i with
   | zero=>simp at g1 g2;subst g1;subst g2;exact hnode _ _
   | succ i=>simp at g1
 .have hJ:=hO J h2;have e2:(ns.length+1) * 64<=17592186044416:=Cz (Lm (show ns.length+1<=1048577 by omega) (Cd 64)) (by decide);have e3:ns.length+1<=17592186044416:=Cz (show ns.length+1<=1048577 by omega) (by decide);have e4:List.take ns.length es=es:=DU (by omega);refine⟨.hs J (ns.length+1) 4 0 (ns.length+1) false,H.set J (.arr 4 false (es++[e])),?_,by simp,fun x hx hn => ?_,.inr ⟨J,es++[e],by simp,h1,.inl h2,by simp,CM hJ,by simp[h5],cid,fun i j v' w' g1 g2 g3 g4 g5 => ?_,fun i v' g1 g2 => ?_,fun i v' e' g1 g2 => ?_⟩⟩
  .simp[apA,apX,hrd,Bu,BF,Fs,Aw,Ay,A6,Bt,e2,e3,h4,h5,e4]
  .rw[BP (fun e=>hn ⟨by rw[<- e];exact h2,by rw[<- e];exact h1⟩)]
  .have hi:i<ns.length:=by
    apply Decidable.byContradiction;intro hh;rw[En (by omega)]at g1;have:=Bs g1;simp at this;subst this;exact g3 hc
   have hj:j<ns.length:=by
    apply Decidable.byContradiction;intro hh;rw[En (by omega)]at g2;have:=Bs g2;simp at this;subst this;exact g4 hc
   rw[A9 hi]at g1;rw[A9 hj]at g2;exact h6 i j v' w' g1 g2 g3 g4 g5
  .have hi:i<ns.length:=by
    apply Decidable.byContradiction;intro hh;rw[En (by omega)]at g1;have:=Bs g1;simp at this;subst this;exact g2 hc
   rw[A9 hi]at g1;obtain⟨k1,k2,k3⟩:=h7 i v' g1 g2;exact⟨k1,k2,.inl k3⟩
  .by_cases hi:i<ns.length
   .rw[A9 hi]at g1;rw[A9 (by omega)]at g2;obtain⟨pv',cv',k1,k2,k3⟩:=h8 i v' e' g1 g2;exact⟨pv',cv',k1,k2,k3.mono fun hcc=>BP (fun e=>(h7 i v' g1 hcc).2.1 e.symm)⟩
   .rw[En (by omega)]at g1;rw[En (by omega)]at g2;have m1:=Bs g1;have m2:=Bs g2;simp at m1 m2;subst m1;subst m2;exact hnode _ _
theorem c125{O:Nat->Prop}{H:AE}{B:Nat}{av pv:AV}{lg:Bool}{ns:List A2}(h:Fz O H B av lg ns)(hav:av.AA=true){v:A2}(hv:SlR CV 1 v.path pv)(hc:v.cases=[])(hl:ns.length<1048576) :
 ∃ H' O',AH MX (AG MX) 125 [.hp B 0,.agg [.int .i64 v.arm,pv,.AI,.int .i64 v.other]] H=some (.ret (.int .i64 ns.length),H')/\Fz O' H' B av (lg||ns.length == 400) (ns++[v])/\H.length<=H'.length/\(∀ x,O x->O' x)/\(∀ x,O' x->O x\/H.length<=x)/\∀ x,x<H.length->¬ O x->H'[x]? = H[x]? := by
 obtain⟨hO,hOl,nv,hB,hn⟩:=h;have hBl:=hOl B hO;have hb:=Wn;simp[Ab,Az,Tryz.f125]at hb;obtain⟨X,hX⟩:∃ X,X=Blk.var false [.int .i64 v.arm,pv,.AI,.int .i64 v.other]:=⟨_,rfl⟩;obtain⟨h1,e1⟩:∃ h1,h1=H++[X]:=⟨_,rfl⟩;have hB1:h1[B]? = some (.var false [av,nv,.bool lg]):=by rw[e1,A9 hBl];exact hB
 have hl1:h1.length=H.length+1:=by rw[e1];simp
 obtain⟨h2,e2⟩:∃ h2,h2=h1.set B (.var false [av,nv,.bool (lg||ns.length == 400)]):=⟨_,rfl⟩;have hB2:h2[B]? = some (.var false [av,nv,.bool (lg||ns.length == 400)]):=by rw[e2,CM (by omega)]
 have hX2:h2[H.length]? = some (.var false [.int .i64 v.arm,pv,.AI,.int .i64 v.other]):=by rw[e2,BP (by omega),e1,BD,hX]
 have hl2:h2.length=H.length+1:=by rw[e2,GX,hl1]
 have hn2:Et O h2 B nv ns:=hn.mono (fun _ h=>h) (fun x hx hxB=>by rw[e2,BP (fun e=>hxB e.symm),e1,A9 (hOl x hx)]);obtain⟨nv',h3,hap,l3,f3,n3⟩:=hn2.push (fun x hx=>by have:=hOl x hx;omega) (by omega) hv hc (by omega) true;have hB3:h3[B]? = some (.var false [av,nv,.bool (lg||ns.length == 400)]):=by rw[f3 B (by omega) (fun h=>h.2 rfl)];exact hB2
 obtain⟨h4,e4⟩:∃ h4,h4=h3.set B (.var false [av,nv',.bool (lg||ns.length == 400)]):=⟨_,rfl⟩;have hB4:h4[B]? = some (.var false [av,nv',.bool (lg||ns.length == 400)]):=by rw[e4,CM (by omega)]
 have hl4:h4.length=h3.length:=by rw[e4,GX]
 refine⟨h4,fun x=>O x\/(h2.length<=x/\x<h3.length),CU Yn cW ?_,⟨.inl hO,fun x hx => ?_,nv',hB4,n3.mono (fun _ h=>h) (fun x hx hxB=>by rw[e4,BP (fun e=>hxB e.symm)])⟩,by omega,fun x h=> .inl h,fun x hx => ?_,fun x hx hno => ?_⟩
 .have hnl:=hn.len;have hk1:=hn.C5;have hk3:=n3.C5;have hnl4:∀ Y,Bi nv' Y=some (.val (.int .i64 ((ns.length:Int)+1)) Y):=fun Y=>by
   have:=n3.len Y;simpa using this
  have hnc:=hn.cells;have hnc':=n3.cells;have hvc:=hv.cells;have hw:wr .i64 (ns.length:Int)=ns.length:=BU (by omega) (by omega);rw[hX]at e1;cases lg with
  | true=>
   simp only[Bool.true_or]at e2 hB2 hB3 e4 hB4;simp[AJ,Tryz.f125,<- e1,hB1,<- e2,hB2,hX2,hap,hB3,<- e4,hB4,hnl4,hw,hnc,hnc',hvc,bsA,Ag,hb,AF,AV.AA,hv.AA]
  | false=>
   have hq:((ns.length:Int) == 400)=(ns.length == 400):=(by rw[Js];simp;omega);simp only[Jv]at e2 hB2 hB3 e4 hB4;obtain⟨g,hg⟩:∃ g,g=(ns.length == 400):=⟨_,rfl⟩;rw[<- hg]at e2 hB2 hB3 e4 hB4 hq;simp[AJ,Tryz.f125,<- e1,hB1,hnl,hq,<- e2,hB2,hX2,hap,hB3,<- e4,hB4,hnl4,hw,hnc,hnc',hvc,bsA,Ag,hb,AF,AV.AA,hv.AA]
 .rcases hx with hx | hx
  .have:=hOl x hx;omega
  .omega
 .rcases hx with hx | hx
  .exact .inl hx
  .exact .inr (by omega)
 .have hxB:x≠B:=fun e=>hno (by rw[e];exact hO)
  rw[e4,BP (fun e=>hxB e.symm),f3 x (by omega) (fun h=>hno h.1),e2,BP (fun e=>hxB e.symm),e1,A9 hx]
theorem c116b{m:Int}(H:AE):AH MX (AG MX) 116 [.ro [.int .i64 m,.AI]] H=some (.ret (.bool true),H):=CU OO Qs (by simp[AJ,f116])
theorem c116c{α:Type}{R:α->List AV->Prop}{l:List α}{m:Int}{cv:AV}(hc:SlR R 2 l cv)(hl:l≠[])(H:AE):AH MX (AG MX) 116 [.ro [.int .i64 m,cv]] H=some (.ret (.bool false),H):=by
 have h0:((l.length:Int) == 0)=false:=by
  rw[beq_eq_false_iff_ne];have:=Iv.2 hl;omega
 exact CU OO Qs (by simp[AJ,f116,hc.len,h0])
theorem MU.push{H:AE}{c:Nat}{cs:List Ha}{cv:AV}(h:MU H c cs cv)(hl:cs.length<1048577)(x:Ha)(ex:Bool) :
 ∃ c' cv' H',apA 3 32 cv (.sl 3 ex [[.str x.nm,.int .i64 x.num,.int .i64 x.nx]]) H=some (cv',H')/\MU H' c' (cs++[x]) cv'/\cv'.cells=some [cv']/\H.length<=H'.length/\((cs=[]/\c'=H.length/\H.length<H'.length/\∀ j,j<H.length->H'[j]? = H[j]?)\/(cs≠[]/\c'=c/\c<H.length/\∀ j,j≠c->H'[j]? = H[j]?)):=by
 obtain⟨e,he⟩:∃ e:List AV,e=[.str x.nm,.int .i64 x.num,.int .i64 x.nx]:=⟨_,rfl⟩;rw[<- he];have hx:HH x e:=he;have hrd:∀ X,Ax X (.sl 3 ex [e])=some [e]:=fun _=>rfl
 rcases h with⟨rfl,rfl⟩ | ⟨ces,h0,rfl,h2,h3,h4⟩
 .refine⟨H.length,.hs H.length 1 3 0 1 false,H++[.arr 3 false [e]],?_,.inr ⟨[e],by simp,rfl,by simp,rfl,fun j t e' g1 g2 => ?_⟩,rfl,by simp,.inl ⟨rfl,rfl,by simp,fun j hj=>A9 hj⟩⟩
  .simp[apA,apX,hrd,Bu,BF,Fs,Aw,Ay,A6,Bt]
  .cases j with
   | zero=>simp at g1 g2;subst g1;subst g2;exact hx
   | succ j=>simp at g1
 .have e2:(cs.length+1) * 32<=17592186044416:=Cz (Lm (show cs.length+1<=1048577 by omega) (Cd 32)) (by decide);have e3:cs.length+1<=17592186044416:=Cz (show cs.length+1<=1048577 by omega) (by decide);have e4:List.take cs.length ces=ces:=DU (by omega);have hc:=(Ac.1 h2).1;obtain⟨p1,p2⟩:=EU h3 h4 hx;refine⟨c,.hs c (cs.length+1) 3 0 (cs.length+1) false,H.set c (.arr 3 false (ces++[e])),?_,.inr ⟨ces++[e],by simp,by simp,CM hc,p1,p2⟩,rfl,by simp,.inr ⟨h0,rfl,hc,fun j hj=>BP (fun e=>hj e.symm)⟩⟩;simp[apA,apX,hrd,Bu,BF,Fs,Aw,Ay,A6,Bt,e2,e3,h2,h3,e4]
theorem Ht{α:Type}{l:List α}{i k:Nat}{a w:α}(h:(l.set i a)[k]? = some w):(k=i/\w=a)\/(k≠i/\l[k]? = some w):=by
 by_cases hk:k=i
 .subst hk;have hl:k<l.length:=by
   have:=(Ac.1 h).1;simpa using this
  rw[CM hl]at h;cases h;exact .inl ⟨rfl,rfl⟩
 .rw[BP (fun e=>hk e.symm)]at h;exact .inr ⟨hk,h⟩
theorem Et.get{O:Nat->Prop}{H:AE}{B:Nat}{nv:AV}{ns:List A2}(h:Et O H B nv ns)(hOl:∀ x,O x->x<H.length)(hBl:B<H.length){i:Nat}{v:A2}(hi:ns[i]? = some v) :
 ∃ J es pv cv,ixA 4 nv (.int .i64 i)=some (.ep J ns.length 4 i 0)/\J≠B/\O J/\H[J]? = some (.arr 4 false es)/\es.length=ns.length/\es[i]? = some [.int .i64 v.arm,pv,cv,.int .i64 v.other]/\SlR CV 1 v.path pv /\
  (∀ oth,Et O (H.set J (.arr 4 false (es.set i [.int .i64 v.arm,pv,cv,.int .i64 oth]))) B nv (ns.set i { v with other:=oth })) /\
  (v.cases.length<1048577->∀ x ex,∃ cv' H',apA 3 32 cv (.sl 3 ex [[.str x.nm,.int .i64 x.num,.int .i64 x.nx]]) H=some (cv',H')/\cv'.cells=some [cv']/\H.length<=H'.length/\H'[J]? = H[J]? /\ H'[B]? = H[B]? /\ (∀ j,j<H.length->¬ O j->H'[j]? = H[j]?) /\
    Et (fun y=>O y\/(H.length<=y/\y<H'.length)) (H'.set J (.arr 4 false (es.set i [.int .i64 v.arm,pv,cv',.int .i64 v.other]))) B nv (ns.set i { v with cases:=v.cases++[x] })):=by
 rcases h with⟨rfl,rfl⟩ | ⟨J,es,h0,h1,h2,rfl,h4,h5,cid,h6,h7,h8⟩
 .simp at hi
 .have hil:=(Ac.1 hi).1;have hJ:=hOl J h2;have hei:es[i]? = some (es[i]'(by omega)):=AO _;obtain⟨pv,cv,k1,k2,k3⟩:=h8 i v _ hi hei;rw[k1]at hei;refine⟨J,es,pv,cv,by rw[ED (kd:=.i64) (hi:=hil),DW],h1,h2,h4,h5,hei,k2,fun oth => ?_,fun hvl x ex => ?_⟩
  .refine .inr ⟨J,_,fun hh=>h0 (by simpa using hh),h1,h2,by simp,CM hJ,by simp[h5],cid,fun a b y z g1 g2 g3 g4 g5 => ?_,fun a y g1 g2 => ?_,fun a y e g1 g2 => ?_⟩
   .have q1:∃ y',ns[a]? = some y'/\y'.cases≠[]:=by
     rcases Ht g1 with⟨rfl,rfl⟩ | ⟨_,g⟩
     .exact⟨v,hi,g3⟩
     .exact⟨y,g,g3⟩
    have q2:∃ y',ns[b]? = some y'/\y'.cases≠[]:=by
     rcases Ht g2 with⟨rfl,rfl⟩ | ⟨_,g⟩
     .exact⟨v,hi,g4⟩
     .exact⟨z,g,g4⟩
    obtain⟨y',a1,a2⟩:=q1;obtain⟨z',b1,b2⟩:=q2;exact h6 a b y' z' a1 b1 a2 b2 g5
   .rcases Ht g1 with⟨rfl,rfl⟩ | ⟨_,g⟩
    .exact h7 _ v hi g2
    .exact h7 _ y g g2
   .rcases Ht g1 with⟨rfl,rfl⟩ | ⟨hne,g⟩
    .rw[CM (by omega)]at g2;cases g2;exact⟨pv,cv,rfl,k2,k3.mono fun hc=>BP (fun e=>(h7 _ v hi hc).2.1 e.symm)⟩
    .rw[BP (fun e=>hne e.symm)]at g2;obtain⟨pv',cv',m1,m2,m3⟩:=h8 a y e g g2;exact⟨pv',cv',m1,m2,m3.mono fun hc=>BP (fun e=>(h7 _ y g hc).2.1 e.symm)⟩
  .obtain⟨c',cv',H',p1,p2,p3,p4,p5⟩:=k3.push hvl x ex;have hkeep:∀ j,j<H.length->(v.cases≠[]->j≠cid i)->H'[j]? = H[j]? := fun j hj hne=>by
    rcases p5 with⟨_,_,_,q⟩ | ⟨q0,_,_,q⟩
    .exact q j hj
    .exact q j (hne q0)
   have hcJ:c'≠J/\c'≠B/\(O c'\/(H.length<=c'/\c'<H'.length)):=by
    rcases p5 with⟨_,rfl,q,_⟩ | ⟨q0,rfl,_,_⟩
    .exact⟨by omega,by omega,.inr ⟨Cd _,q⟩⟩
    .obtain⟨a1,a2,a3⟩:=h7 i v hi q0;exact⟨a2,a1,.inl a3⟩
   have hci:∀ b w,b≠i->ns[b]? = some w->w.cases≠[]->cid b≠c'/\(v.cases≠[]->cid b≠cid i):=fun b w hb hw hc=>by
    have hinj:v.cases≠[]->cid b≠cid i:=fun hv e=>hb (h6 b i w v hw hi hc hv e)
    refine⟨fun e => ?_,hinj⟩;rcases p5 with⟨_,rfl,_,_⟩ | ⟨q0,rfl,_,_⟩
    .have:=hOl _ (h7 b w hw hc).2.2;omega
    .exact hinj q0 e
   refine⟨cv',H',p1,p3,p4,hkeep J hJ fun hc=>fun e=>(h7 i v hi hc).2.1 e.symm,hkeep B hBl fun hc=>fun e=>(h7 i v hi hc).1 e.symm,fun j hj hO=>hkeep j hj fun hc=>fun e=>hO (by rw[e];exact(h7 i v hi hc).2.2),?_⟩;refine .inr ⟨J,_,fun hh=>h0 (by simpa using hh),h1,.inl h2,by simp,CM (by omega),by simp[h5],fun b=>if b=i then c' else cid b,fun a b y z g1 g2 g3 g4 g5 => ?_,fun a y g1 g2 => ?_,fun a y e g1 g2 => ?_⟩
   .rcases Ht g1 with⟨rfl,rfl⟩ | ⟨ha,ga⟩
    .rcases Ht g2 with⟨rfl,rfl⟩ | ⟨hb,gb⟩
     .rfl
     .simp only[if_pos rfl,if_neg hb]at g5;exact absurd g5.symm (hci b z hb gb g4).1
    .rcases Ht g2 with⟨rfl,rfl⟩ | ⟨hb,gb⟩
     .simp only[if_pos rfl,if_neg ha]at g5;exact absurd g5 (hci a y ha ga g3).1
     .simp only[if_neg ha,if_neg hb]at g5;exact h6 a b y z ga gb g3 g4 g5
   .rcases Ht g1 with⟨rfl,rfl⟩ | ⟨ha,ga⟩
    .simp only[if_pos rfl];exact⟨hcJ.2.1,hcJ.1,hcJ.2.2⟩
    .simp only[if_neg ha];obtain⟨a1,a2,a3⟩:=h7 a y ga g2;exact⟨a1,a2,.inl a3⟩
   .rcases Ht g1 with⟨rfl,rfl⟩ | ⟨ha,ga⟩
    .rw[CM (by omega)]at g2;cases g2;simp only[if_pos rfl];exact⟨pv,cv',rfl,k2,p2.mono fun _=>BP (fun e=>hcJ.1 e.symm)⟩
    .rw[BP (fun e=>ha e.symm)]at g2;simp only[if_neg ha];obtain⟨pv',cv2,m1,m2,m3⟩:=h8 a y e ga g2;refine⟨pv',cv2,m1,m2,m3.mono fun hc => ?_⟩;obtain⟨a1,a2,a3⟩:=h7 a y ga hc;rw[BP (fun e=>a2 e.symm)];exact hkeep _ (hOl _ a3) fun hv=>(hci a y ha ga hc).2 hv
def FP(arms:List TyV)(s:Sh)(q:KV)(path:List Nat):List ((Bytes×Int)×KV)×Option KV:=match atK path (s,q)with
 | some (.cons ns ss,_)=>((List.range ss.length).map fun i=>((ns.getD i [],0),Gv path q (.con i ((ss.getD i []).map noK))),none)
 | some (.bit w,k')=>((NJ (GO path s q (Gc k') arms)).map fun n=>(([],n),Gv path q (.num n)),
  if((NJ (GO path s q (Gc k') arms)).length:Int)<JC w k' then some (Gv path q (.unk (Gc k'++NJ (GO path s q (Gc k') arms))))else none)
 | none=>([],none)
def goF(rec:KV->Nat->Option (List A2)):List ((Bytes×Int)×KV)->Nat->Option (List Ha×List A2)
 | [],_=>some ([],[])
 | (lab,k)::r,b=>match rec k b with
  | none=>none
  | some ns=>match goF rec r (b+ns.length)with
   | none=>none
   | some (cs,ms)=>some (⟨lab.1,lab.2,b⟩::cs,ns++ms)
def RG(rec:KV->Nat->Option (List A2))(path:List Nat)(oth:Option KV)(b:Nat)(cs:List Ha)(ms:List A2):Option (List A2):=match oth with
 | none=>some (⟨-1,DX path,cs,-1⟩::ms)
 | some ko=>match rec ko (b+ms.length)with
  | none=>none
  | some ms2=>some (⟨-1,DX path,cs,(b+ms.length:Nat)⟩::(ms++ms2))
def Ik(rec:KV->Nat->Option (List A2))(path:List Nat)(kids:List ((Bytes×Int)×KV)×Option KV)(b:Nat):Option (List A2):=match goF rec kids.1 b with
 | none=>none
 | some (cs,ms)=>RG rec path kids.2 b cs ms
def CD(arms:List TyV)(s:Sh):Nat->KV->Nat->Option (List A2)
 | 0,_,_=>none
 | n+1,q,b=>if 400<=b then none else match arms.findIdx? (fun p=>Dv p s q)with
  | none=>some [⟨-1,[],[],-1⟩]
  | some a=>if D2 (arms.getD a default) s q then some [⟨a,[],[],-1⟩]
   else Ik (CD arms s n) ((FO (arms.getD a default) q).getD []) (FP arms s q ((FO (arms.getD a default) q).getD [])) (b+1)
theorem MV{rec:KV->Nat->Option (List A2)}{kids:List ((Bytes×Int)×KV)}{i b:Nat}(hi:i<kids.length):goF rec (kids.drop i) b=match rec kids[i].2 b with
 | none=>none
 | some ns=>match goF rec (kids.drop (i+1)) (b+ns.length)with
  | none=>none
  | some (cs,ms)=>some (⟨kids[i].1.1,kids[i].1.2,b⟩::cs,ns++ms):=by
 rw[EJ hi];rfl
theorem WB{rec:KV->Nat->Option (List A2)}(hr:∀ k b ns,rec k b=some ns->b+ns.length<=400):∀{kids:List ((Bytes×Int)×KV)} {b:Nat} {cs:List Ha} {ms:List A2},b<=400->goF rec kids b=some (cs,ms)->b+ms.length<=400
 | [],b,cs,ms,hb,h=>by
  rw[goF]at h;cases h;simpa using hb
 | (lab,k)::r,b,cs,ms,hb,h=>by
  rw[goF]at h;split at h
  .cases h
  .rename_i ns hns;split at h
   .cases h
   .rename_i cs' ms' hgo;cases h;have h1:=hr k b ns hns;have h2:=WB hr h1 hgo;simp only[E2];omega
theorem JF(arms:List TyV)(s:Sh):∀ n q b ns,CD arms s n q b=some ns->b+ns.length<=400
 | 0,_,_,_,h=>by cases h
 | n+1,q,b,ns,h=>by
  rw[CD]at h;split at h
  .cases h
  .rename_i hb;split at h
   .cases h;simp;omega
   .split at h
    .cases h;simp;omega
    .unfold Ik at h;split at h
     .cases h
     .rename_i cs ms hgo;have h1:=WB (JF arms s n) (by omega) hgo;unfold RG at h;split at h
      .cases h;simp;omega
      .split at h
       .cases h
       .rename_i ms2 hm2;cases h;have h2:=JF arms s n _ _ _ hm2;simp;omega
theorem Lb:∀{ps:List TyV} {qs:List KV} {i:Nat} {path:List Nat},ps.length<=qs.length->GN ps qs i=some path->∃ j p q r,ps[j]? = some p/\qs[j]? = some q/\FO p q=some r/\path=(i+j)::r
 | [],_,_,_,_,h=>by rw[GN]at h;cases h
 | p::ps,[],_,_,hl,_=>by simp at hl
 | p::ps,q::qs,i,path,hl,h=>by
  rw[GN]at h;split at h
  .rename_i w hw;cases h;exact⟨0,p,q,w,rfl,rfl,hw,rfl⟩
  .obtain⟨j,p',q',r,h1,h2,h3,h4⟩:=Lb (by simpa using hl) h;exact⟨j+1,p',q',r,by simpa using h1,by simpa using h2,h3,by rw[h4];congr 1;omega⟩
theorem jW(p:TyV):∀(s:Sh) (q:KV) (u:AV) (path:List Nat),Cl s q u->NdX s->CB s p=0->Dv p s q=true->FO p q=some path->∃ y,atK path (s,q)=some y:=by
 induction p using TyV.ind with
 | h k v nm ps ih=>
  intro s q u path hk hnd hpe hmay ha;rw[FO]at ha;split at ha
  .split at ha
   .cases ha;exact⟨_,rfl⟩
   .cases ha
  .split at ha
   .rename_i k2;subst k2;split at ha
    .rename_i qs hqs;cases q with
     | unk no=>cases hqs
     | num n=>cases hqs
     | con i qs'=>
      cases hqs;obtain⟨ns,ss,j,rfl,hj,hpl,hpes⟩:=F6 hpe;obtain⟨ns',ss',sv,parts,qv,e1,e2,hs,hi,hql,hqv⟩:=hk.dest;cases e1;obtain⟨hm1,hm2⟩:=JE hmay;obtain⟨cv,_,hsl,_⟩:=hs.cons;have hil:=(Ac.1 hi).1;have hij:i=j:=Ds hnd.nodup hj (by omega) hm1;subst hij;have hgp:ss.getD i []=parts:=(by simp[List.getD,hi]);rw[hgp]at hpl hpes hm2;obtain⟨m,p',q',r,h1,h2,h3,rfl⟩:=Lb (by omega) ha;have hmp:=(Ac.1 h1).1;have hmq:=(Ac.1 h2).1;have hms:m<parts.length:=(by omega);have hsm:=AO hms;obtain⟨e,he,w,_,hw⟩:=hqv.ix (i:=m) (by simp;omega);rw[GW]at hw;have hq':qs[m]=q':=(by rw[AO hmq]at h2;exact Option.some.inj h2);obtain⟨y,hy⟩:=ih p' (Bs h1) parts[m] q' w r (hq' ▸ hw) (hnd.part hi (An hms)) ((Es hpl).1 hpes m _ _ hsm h1) (KX hm2 h1 hsm h2) h3;refine⟨y,?_⟩;rw[DW,atK];simp only[JD,hgp];rw[AO (by simp;omega),GW,hq'];exact hy
    .cases ha;exact⟨_,rfl⟩
   .cases ha
mutual
def El:KV->Nat
 | .unk no=>no.length
 | .num _=>0
 | .con _ ps=>Mw ps
def Mw:List KV->Nat
 | []=>0
 | k::r=>max (El k) (Mw r)
end
theorem JY{k:KV}:∀{l:List KV},k∈l->El k<=Mw l
 | q::r,h=>by
  rw[Mw];rcases CF.1 h with rfl | h
  .exact Hi _ _
  .exact Cz (JY h) (H5 _ _)
theorem Kv{N:Nat}:∀{l:List KV},(∀ k∈l,El k<=N)->Mw l<=N
 | [],_=>H7 _
 | q::r,h=>by
  rw[Mw];exact Nat.max_le.2 ⟨h q (by simp),Kv fun k hk=>h k (PW _ hk)⟩
theorem TF:∀{path:List Nat} {x y:Sh×KV},atK path x=some y->El y.2<=El x.2
 | [],x,y,h=>by cases h;exact Cd _
 | i::r,(s,k),y,h=>by
  rw[atK]at h;obtain⟨z,hz,h⟩:=Gd.1 h;refine Cz (TF h) ?_;cases k with
  | unk no=>cases s <;> cases hz
  | num n=>cases s <;> cases hz
  | con c ps=>
   cases s with
   | bit w=>cases hz
   | cons ns ss=>
    simp only[JD]at hz;obtain⟨hi,he⟩:=Ac.1 hz;rw[GW]at he;subst he;have hip:i<ps.length:=(by simp at hi;omega);show El (ps[i]'hip)<=El (.con c ps);rw[El];exact JY (An _)
theorem JZ{own:KV}:∀{path:List Nat} {k:KV},El (Gv path k own)<=max (El k) (El own)
 | [],k=>H5 _ _
 | i::r,.unk no=>Hi _ _
 | i::r,.num n=>Hi _ _
 | i::r,.con c ps=>by
  rw[Gv,El];refine Kv fun k hk => ?_
  rcases QM hk with hk | rfl
  .rw[El];exact Cz (JY hk) (Hi _ _)
  .refine Cz JZ ?_;refine Nat.max_le.2 ⟨?_,H5 _ _⟩;by_cases hi:i<ps.length
   .have:ps.getD i default=ps[i]:=(by simp[List.getD,AO hi]);rw[this,El];exact Cz (JY (An hi)) (Hi _ _)
   .have:ps.getD i default=default:=(by simp[List.getD,PV (Np hi)]);rw[this];exact H7 _
theorem TG(s:Sh):El (noK s)=0:=by
 induction s using Sh.ind with
 | hb n=>rfl
 | hc ns ss ih=>
  match ss,ih with
  | [],_=>rfl
  | [p],ih=>
   rw[noK,V9,El,MR];refine Mg.1 (Kv fun k hk => ?_);obtain⟨x,hx,rfl⟩:=E3.1 hk;rw[ih p (by simp) x hx];exact Cd _
  | _::_::_,_=>rfl
theorem ew{B N J at_:Nat}{u pv part cv asv kidv nv qw cas cas':AV}{nm:Bytes}{X X2 X3:AE}{len i arm oth r:Int}{lgv:AV}{av:AV}{es:List (List AV)}{pvn:AV}
 (hi:decide (i<len)=true) (hix:ixA 2 cv (.int .i64 i)=some (.ro [.str nm,qw])) (hqw:qw.cells=some [qw])
 (hu:u.AA=true) (hpv:pv.AA=true) (hpart:part.AA=true) (hasv:asv.AA=true) (hkid:kidv.AA=true)
 (h129:∀ h,AH MX (AG MX) 129 [part,.int .i64 i] h=some (.ret asv,h)) (h128:∀ h,AH MX (AG MX) 128 [u,pv,asv] h=some (.ret kidv,h))
 (h75:AH MX (AG MX) 75 [.hp B 0,kidv] (X++[.var false [.str nm,qw]])=some (.ret (.int .i64 r),X2))
 (hB:X2[B]? = some (.var false [av,nv,lgv])) (hat:ixA 4 nv (.int .i64 at_)=some (.ep J N 4 at_ 0)) (hJ:X2[J]? = some (.arr 4 false es)) (hN:es.length=N) (hes:es[at_]? = some [.int .i64 arm,pvn,cas,.int .i64 oth])
 (hX:X2[X.length]? = some (.var false [.str nm,qw]))
 (hap:apA 3 32 cas (.sl 3 true [[.str nm,.int .i64 0,.int .i64 r]]) X2=some (cas',X3)) (hcc:cas'.cells=some [cas']) (hJ3:X3[J]? = some (.arr 4 false es)) (hBl:B<X2.length) (hB3:X3[B]? = X2[B]?) (hw:wr .i64 (i+1)=i+1) :
 AX MX 75 176 (AG MX) (AL f75 0) ([(0,.hp B 0),(1,u),(6,pv),(8,.int .i64 at_),(9,part),(77,cv),(78,.int .i64 len),(79,.int .i64 i)],X)=some (.nrm,([(0,.hp B 0),(1,u),(6,pv),(8,.int .i64 at_),(9,part),(77,cv),(78,.int .i64 len),(79,.int .i64 (i+1))],X3.set J (.arr 4 false (es.set at_ [.int .i64 arm,pvn,cas',.int .i64 oth])))):=by
 have hb:=Wd;simp[Ab,Az,f75]at hb;have hm:=E6 hBl hB3;simp[f75,hi,hix,hqw,h129,h128,h75,hB,hat,hJ,hN,hes,hX,hap,hcc,hJ3,hw,hb,AF,AV.AA,hu,hpv,hpart,hasv,hkid,bsA,Ag,BD,Fu,hm]
theorem ey{B N J L G at_:Nat}{u pv part lw isv kidv nv cas cas':AV}{lk:Bool}{X X2 X3:AE}{len i arm oth r n:Int}{k:Nat}{lgv:AV}{av:AV}{es ls:List (List AV)}{pvn:AV}
 (hi:decide (i<len)=true) (hix:ixA 1 lw (.int .i64 i)=some (.ep L G 1 k 0)) (hL:X[L]? = some (.arr 1 lk ls)) (hG:ls.length=G) (hls:ls[k]? = some [.int .i64 n])
 (hu:u.AA=true) (hpv:pv.AA=true) (hpart:part.AA=true) (hisv:isv.AA=true) (hkid:kidv.AA=true)
 (h131:∀ h,AH MX (AG MX) 131 [part,.int .i64 n] h=some (.ret isv,h)) (h128:∀ h,AH MX (AG MX) 128 [u,pv,isv] h=some (.ret kidv,h))
 (h75:AH MX (AG MX) 75 [.hp B 0,kidv] X=some (.ret (.int .i64 r),X2))
 (hB:X2[B]? = some (.var false [av,nv,lgv])) (hat:ixA 4 nv (.int .i64 at_)=some (.ep J N 4 at_ 0)) (hJ:X2[J]? = some (.arr 4 false es)) (hN:es.length=N) (hes:es[at_]? = some [.int .i64 arm,pvn,cas,.int .i64 oth])
 (hap:apA 3 32 cas (.sl 3 true [[.str [],.int .i64 n,.int .i64 r]]) X2=some (cas',X3)) (hcc:cas'.cells=some [cas']) (hJ3:X3[J]? = some (.arr 4 false es)) (hBl:B<X2.length) (hB3:X3[B]? = X2[B]?) (hw:wr .i64 (i+1)=i+1) :
 AX MX 75 176 (AG MX) (AL f75 1) ([(0,.hp B 0),(1,u),(6,pv),(8,.int .i64 at_),(9,part),(13,lw),(119,lw),(120,.int .i64 len),(121,.int .i64 i)],X)=some (.nrm,([(0,.hp B 0),(1,u),(6,pv),(8,.int .i64 at_),(9,part),(13,lw),(119,lw),(120,.int .i64 len),(121,.int .i64 (i+1))],X3.set J (.arr 4 false (es.set at_ [.int .i64 arm,pvn,cas',.int .i64 oth])))):=by
 have hb:=We;simp[Ab,Az,f75]at hb;have hm:=E6 hBl hB3;simp[f75,hi,hix,hL,hG,hls,h131,h128,h75,hB,hat,hJ,hN,hes,hap,hcc,hJ3,hw,hb,AF,AV.AA,hu,hpv,hpart,hisv,hkid,bsA,Ag,BD,Fu,hm]
def Frame(O:Nat->Prop)(H:AE)(O':Nat->Prop)(H':AE):Prop:=H.length<=H'.length/\(∀ x,O x->O' x)/\(∀ x,O' x->O x\/H.length<=x)/\∀ x,x<H.length->¬ O x->H'[x]? = H[x]?
theorem Frame.refl(O:Nat->Prop)(H:AE):Frame O H O H:=⟨Cd _,fun _ h=>h,fun _ h=> .inl h,fun _ _ _=>rfl⟩
theorem Frame.trans{O O1 O2:Nat->Prop}{H H1 H2:AE}(h:Frame O H O1 H1)(k:Frame O1 H1 O2 H2):Frame O H O2 H2:=by
 obtain⟨a1,a2,a3,a4⟩:=h;obtain⟨b1,b2,b3,b4⟩:=k;refine⟨Cz a1 b1,fun x hx=>b2 x (a2 x hx),fun x hx => ?_,fun x hx hn => ?_⟩
 .rcases b3 x hx with h | h
  .exact a3 x h
  .exact .inr (Cz a1 h)
 .rw[b4 x (by omega) (fun h=>by
   rcases a3 x h with h | h
   .exact hn h
   .omega)]
  exact a4 x hx hn
theorem Frame.app(O:Nat->Prop)(H:AE)(l:AE):Frame O H O (H++l):=⟨by simp,fun _ h=>h,fun _ h=> .inl h,fun _ hx _=>A9 hx⟩
theorem Fz.app{O:Nat->Prop}{H:AE}{B:Nat}{av:AV}{lg:Bool}{ns:List A2}(h:Fz O H B av lg ns)(l:AE):Fz O (H++l) B av lg ns:=by
 obtain⟨h1,h2,nv,h3,h4⟩:=h;refine⟨h1,fun x hx=>by have:=h2 x hx;simp;omega,nv,by rw[A9 (h2 B h1)];exact h3,h4.mono (fun _ h=>h) fun x hx _=>A9 (h2 x hx)⟩
theorem Fz.keep{O:Nat->Prop}{H H':AE}{B:Nat}{av:AV}{lg:Bool}{ns:List A2}(h:Fz O H B av lg ns)(hl:H.length<=H'.length)(hk:∀ x,O x->H'[x]? = H[x]?):Fz O H' B av lg ns:=by
 obtain⟨h1,h2,nv,h3,h4⟩:=h;exact⟨h1,fun x hx=>by have:=h2 x hx;omega,nv,by rw[hk B h1];exact h3,h4.mono (fun _ h=>h) fun x hx _=>hk x hx⟩
theorem Fz.case{O:Nat->Prop}{H:AE}{B:Nat}{av:AV}{lg:Bool}{ns:List A2}(h:Fz O H B av lg ns){i:Nat}{v:A2}(hi:ns[i]? = some v)(hvl:v.cases.length<1048577)(x:Ha) :
 ∃ nv J es pvn cas cas' H3,H[B]? = some (.var false [av,nv,.bool lg])/\ixA 4 nv (.int .i64 i)=some (.ep J ns.length 4 i 0)/\H[J]? = some (.arr 4 false es)/\es.length=ns.length/\es[i]? = some [.int .i64 v.arm,pvn,cas,.int .i64 v.other] /\
  apA 3 32 cas (.sl 3 true [[.str x.nm,.int .i64 x.num,.int .i64 x.nx]]) H=some (cas',H3)/\cas'.cells=some [cas']/\H3[J]? = some (.arr 4 false es)/\B<H.length/\H3[B]? = H[B]? /\
  ∃ O',Fz O' (H3.set J (.arr 4 false (es.set i [.int .i64 v.arm,pvn,cas',.int .i64 v.other]))) B av lg (ns.set i { v with cases:=v.cases++[x] })/\Frame O H O' (H3.set J (.arr 4 false (es.set i [.int .i64 v.arm,pvn,cas',.int .i64 v.other]))):=by
 obtain⟨h1,h2,nv,h3,h4⟩:=h;obtain⟨J,es,pvn,cas,g1,g2,g3,g4,g5,g6,g7,g8,g9⟩:=h4.get h2 (h2 B h1) hi;obtain⟨cas',H3,k1,k2,k3,k4,k5,k6,k7⟩:=g9 hvl x true;refine⟨nv,J,es,pvn,cas,cas',H3,h3,g1,g4,g5,g6,k1,k2,by rw[k4];exact g4,h2 B h1,k5,_,⟨.inl h1,fun y hy => ?_,nv,?_,k7⟩,by rw[GX];exact k3,fun y hy=> .inl hy,fun y hy => ?_,fun y hy hn => ?_⟩
 .rw[GX];rcases hy with hy | hy
  .have:=h2 y hy;omega
  .exact hy.2
 .rw[BP g2,k5];exact h3
 .rcases hy with hy | hy
  .exact .inl hy
  .exact .inr hy.1
 .rw[BP (fun e=>hn (by rw[<- e];exact g3))];exact k6 y hy hn
theorem Fz.oth{O:Nat->Prop}{H:AE}{B:Nat}{av:AV}{lg:Bool}{ns:List A2}(h:Fz O H B av lg ns){i:Nat}{v:A2}(hi:ns[i]? = some v)(o:Int) :
 ∃ nv J es pvn cas,H[B]? = some (.var false [av,nv,.bool lg])/\ixA 4 nv (.int .i64 i)=some (.ep J ns.length 4 i 0)/\H[J]? = some (.arr 4 false es)/\es.length=ns.length/\es[i]? = some [.int .i64 v.arm,pvn,cas,.int .i64 v.other] /\
  Fz O (H.set J (.arr 4 false (es.set i [.int .i64 v.arm,pvn,cas,.int .i64 o]))) B av lg (ns.set i { v with other:=o })/\Frame O H O (H.set J (.arr 4 false (es.set i [.int .i64 v.arm,pvn,cas,.int .i64 o]))):=by
 obtain⟨h1,h2,nv,h3,h4⟩:=h;obtain⟨J,es,pvn,cas,g1,g2,g3,g4,g5,g6,g7,g8,g9⟩:=h4.get h2 (h2 B h1) hi;refine⟨nv,J,es,pvn,cas,h3,g1,g4,g5,g6,⟨h1,fun y hy => ?_,nv,?_,g8 o⟩,by rw[GX];exact Cd _,fun y hy=>hy,fun y hy=> .inl hy,fun y hy hn => ?_⟩
 .rw[GX];exact h2 y hy
 .rw[BP g2];exact h3
 .rw[BP (fun e=>hn (by rw[<- e];exact g3))]
def Nf(arms:List TyV)(s:Sh)(B:Nat)(av:AV)(n:Nat):Prop:=
 ∀(q:KV) (u:AV) (O:Nat->Prop) (H:AE) (lg:Bool) (ns:List A2),Cl s q u->El q+20 * n<=100000->Fz O H B av lg ns->(lg=false->ns.length<=400/\401<=n+ns.length) ->
  ∃ r O' H' lg' new,AH MX (AG MX) 75 [.hp B 0,u] H=some (.ret (.int .i64 r),H')/\Fz O' H' B av lg' (ns++new)/\Frame O H O' H'/\(lg=true->lg'=true)/\(lg=false->r=ns.length/\(lg'=false->CD arms s n q ns.length=some new)/\(lg'=true->CD arms s n q ns.length=none))
def Jn(rec:KV->Nat->Option (List A2))(kids:List ((Bytes×Int)×KV))(ns:List A2)(path:List Nat)(bad:Prop)(O0:Nat->Prop)(H0:AE)(B:Nat)(av:AV)(i:Nat)(X:AE):Prop:=
 ∃ O lg cs ms,Fz O X B av lg (ns++⟨-1,DX path,cs,-1⟩::ms)/\Frame O0 H0 O X/\cs.length=i/\(lg=false->ns.length+1+ms.length<=400/\goF rec kids (ns.length+1)=(goF rec (kids.drop i) (ns.length+1+ms.length)).map fun x=>(cs++x.1,ms++x.2))/\(lg=true->bad)
theorem ao{ns ms:List A2}{v:A2}:(ns++v::ms)[ns.length]? = some v:=by simp
theorem aq{ns ms:List A2}{v w:A2}:(ns++v::ms).set ns.length w=ns++w::ms:=by simp
theorem Jn.kid{arms:List TyV}{s:Sh}{B n:Nat}{av:AV}(hC:Nf arms s B av n){kids:List ((Bytes×Int)×KV)}{ns:List A2}{path:List Nat}{bad:Prop}{O0:Nat->Prop}{H0:AE}{i:Nat}{X:AE}(h:Jn (CD arms s n) kids ns path bad O0 H0 B av i X)(hi:i<kids.length)(hkl:kids.length<1048577)
 (hbad:goF (CD arms s n) kids (ns.length+1)=none->bad) {u:AV} (hu:Cl s kids[i].2 u) (hno:El kids[i].2+20 * n<=100000) (hn:401<=n+1+ns.length) (l:AE) :
 ∃ r X2 lg nv J es pvn cas cas' X3,AH MX (AG MX) 75 [.hp B 0,u] (X++l)=some (.ret (.int .i64 r),X2)/\(∀ j,X.length<=j->j<(X++l).length->X2[j]? = (X++l)[j]?)/\X2[B]? = some (.var false [av,nv,.bool lg])/\(∃ N,ixA 4 nv (.int .i64 ns.length)=some (.ep J N 4 ns.length 0)/\es.length=N)/\X2[J]? = some (.arr 4 false es)/\es[ns.length]? = some [.int .i64 (-1),pvn,cas,.int .i64 (-1)] /\
  apA 3 32 cas (.sl 3 true [[.str kids[i].1.1,.int .i64 kids[i].1.2,.int .i64 r]]) X2=some (cas',X3)/\cas'.cells=some [cas']/\X3[J]? = some (.arr 4 false es)/\B<X2.length/\X3[B]? = X2[B]? /\
  Jn (CD arms s n) kids ns path bad O0 H0 B av (i+1) (X3.set J (.arr 4 false (es.set ns.length [.int .i64 (-1),pvn,cas',.int .i64 (-1)]))):=by
 obtain⟨O,lg,cs,ms,hb,hf,hcl,hgo,hbd⟩:=h;have hb1:=hb.app l;have hlen:(ns++⟨-1,DX path,cs,-1⟩::ms:List A2).length=ns.length+1+ms.length:=by simp;omega
 obtain⟨r,O2,X2,lg2,new,hcall,hb2,hf2,hlt,hlf⟩:=hC kids[i].2 u O (X++l) lg _ hu hno hb1 (fun h=>by
  have:=(hgo h).1;rw[hlen];omega)
 rw[CO,Ej]at hb2;obtain⟨nv,J,es,pvn,cas,cas',X3,k1,k2,k3,k4,k5,k6,k7,k8,k9,k10,O4,k11,k12⟩:=hb2.case ao (by simp;omega) ⟨kids[i].1.1,kids[i].1.2,r⟩;rw[aq]at k11;refine⟨r,X2,lg2,nv,J,es,pvn,cas,cas',X3,hcall,fun j h1 h2=>hf2.2.2.2 j h2 (fun hO=>by
  have:=hb.2.1 j hO;omega),k1,⟨_,k2,k4⟩,k3,k5,k6,k7,k8,k9,k10,O4,lg2,cs++[⟨kids[i].1.1,kids[i].1.2,r⟩],ms++new,k11,((hf.trans (Frame.app O X l)).trans hf2).trans k12,by simp[hcl],fun h2 => ?_,fun h2 => ?_⟩
 .have hl0:lg=false:=by
   cases lg with
   | false=>rfl
   | true=>rw[hlt rfl]at h2;cases h2
  obtain⟨a1,a2⟩:=hgo hl0;obtain⟨b1,b2,_⟩:=hlf hl0;have b2:=b2 h2;rw[hlen]at b1 b2;have:=JF arms s n _ _ _ b2;refine⟨by simp;omega,?_⟩;rw[a2,MV hi,b2];simp only;have e1:ns.length+1+(ms++new).length=ns.length+1+ms.length+new.length:=by simp;omega
  rw[e1,b1];cases goF (CD arms s n) (kids.drop (i+1)) (ns.length+1+ms.length+new.length)with
  | none=>rfl
  | some x=>simp
 .cases lg with
  | true=>exact hbd rfl
  | false=>
   obtain⟨a1,a2⟩:=hgo rfl;obtain⟨b1,_,b3⟩:=hlf rfl;have b3:=b3 h2;rw[hlen]at b3;refine hbad ?_;rw[a2,MV hi,b3];rfl
def PO(nms:List Bytes)(ss:List (List Sh))(path:List Nat)(q:KV)(i:Nat):(Bytes×Int)×KV:=((nms.getD i [],0),Gv path q (.con i ((ss.getD i []).map noK)))
def PA(path:List Nat)(q:KV)(n:Int):(Bytes×Int)×KV:=(([],n),Gv path q (.num n))
theorem as_of{nms:List Bytes}{ss:List (List Sh)}{sv:AV}(hs:SrX (.cons nms ss) sv){i:Nat}{parts:List Sh}(hi:ss[i]? = some parts)(a b c d:AV):∃ kv,Cl (.cons nms ss) (.con i (parts.map noK)) kv/\∀ h,AH MX (AG MX) 129 [.ro [sv,a,b,c,d],.int .i64 i] h=some (.ret kv,h):=by
 obtain⟨m,hm⟩:=hs;cases m with
 | zero=>exact hm.elim
 | succ m=>exact c129 hm hi (fun s _ u hu=>c76 m s u hu) a b c d
theorem ez{ns:List Bytes}{ss:List (List Sh)}{cv:AV}(hcv:SlR ConX 2 (ns.zip ss) cv)(hl:ss.length=ns.length){i:Nat}(hi:i<ns.length):∃ qv,(∀ kd,ixA 2 cv (.int kd i)=some (.ro [.str (ns.getD i []),qv]))/\qv.cells=some [qv]:=by
 obtain⟨e,he,pv,hR,hp⟩:=hcv.ix (i:=i) (by simp;omega);rw[GW]at hR;have:ns.getD i []=ns[i]:=by simp[List.getD,AO hi]
 rw[this];exact⟨pv,by rw[<- hR];exact he,hp.cells⟩
theorem XW(i:Nat)(l:List Sh):El (.con i (l.map noK))=0:=by
 rw[El];refine Mg.1 (Kv fun k hk => ?_);obtain⟨x,_,rfl⟩:=E3.1 hk;rw[TG];exact Cd _
theorem e8{arms:List TyV}{s:Sh}{B n:Nat}{av:AV}(hC:Nf arms s B av n){q:KV}{u pv sv:AV}(hk:Cl s q u){path:List Nat}(hp:SlR CV 1 (DX path) pv)(hpl:path.length<1048577){nms:List Bytes}{ss:List (List Sh)}{k':KV}(hy:atK path (s,q)=some (.cons nms ss,k'))(hs:SrX (.cons nms ss) sv){a b c d cv:AV}(hsv:sv=.ro [.int .i64 0,cv])
 {ns:List A2} {bad:Prop} {O0:Nat->Prop} {H0:AE} (hno:El q+20 * (n+1)<=100000) (hn:401<=n+1+ns.length)
 (hbad:goF (CD arms s n) ((List.range ss.length).map (PO nms ss path q)) (ns.length+1)=none->bad) {X:AE} (h0:Jn (CD arms s n) ((List.range ss.length).map (PO nms ss path q)) ns path bad O0 H0 B av 0 X) :
 ∃ X',E5 MX 75 176 (AG MX) (AL f75 0) ([(0,.hp B 0),(1,u),(6,pv),(8,.int .i64 ns.length),(9,.ro [sv,a,b,c,d]),(77,cv),(78,.int .i64 ss.length),(79,.int .i64 (0:Nat))],X)=some (.ext 0,([(0,.hp B 0),(1,u),(6,pv),(8,.int .i64 ns.length),(9,.ro [sv,a,b,c,d]),(77,cv),(78,.int .i64 ss.length),(79,.int .i64 ss.length),(80,.bool false)],X')) /\
  Jn (CD arms s n) ((List.range ss.length).map (PO nms ss path q)) ns path bad O0 H0 B av ss.length X':=by
 obtain⟨cv',e1,hsl,⟨_,hnl⟩,_,hcv⟩:=hs.cons;rw[hsv]at e1;cases e1;obtain⟨kids,hkids⟩:∃ kids,kids=(List.range ss.length).map (PO nms ss path q):=⟨_,rfl⟩;rw[<- hkids]at hbad h0 ⊢;have hkl:kids.length=ss.length:=by rw[hkids];simp
 obtain⟨e,st,hlp,hq⟩:=AQ (M:=MX) (fid:=75) (N:=176) (C:=AG MX) (c:=AL f75 0) (n:=ss.length)
  (fun i (X:AE)=>([(0,.hp B 0),(1,u),(6,pv),(8,.int .i64 ns.length),(9,.ro [sv,a,b,c,d]),(77,cv),(78,.int .i64 ss.length),(79,.int .i64 i)],X))
  (fun i X=>Jn (CD arms s n) kids ns path bad O0 H0 B av i X)
  (fun r=>∃ X',r=(.ext 0,([(0,.hp B 0),(1,u),(6,pv),(8,.int .i64 ns.length),(9,.ro [sv,a,b,c,d]),(77,cv),(78,.int .i64 ss.length),(79,.int .i64 ss.length),(80,.bool false)],X'))/\Jn (CD arms s n) kids ns path bad O0 H0 B av ss.length X') (fun i X hi hI=>by
    have hik:i<kids.length:=(by omega);have hki:kids[i]=PO nms ss path q i:=(by simp[hkids]);have hgp:ss[i]? = some (ss.getD i []):=(by simp[List.getD,AO hi]);obtain⟨asv,has,h129⟩:=as_of hs hgp a b c d;obtain⟨kv,hkv,h128⟩:=c128 (y:=(.cons nms ss,k')) has path (s,q) u pv hk hp hpl hy;obtain⟨qw,hix,hqw⟩:=ez hcv hsl (i:=i) (by omega);have hnm:=JZ (own:=.con i ((ss.getD i []).map noK)) (path:=path) (k:=q);rw[XW]at hnm;obtain⟨r,X2,lg,nv,J,es,pvn,cas,cas',X3,g1,g2,g3,⟨N,g4,g5⟩,g6,g7,g8,g9,g10,g11,g12,g13⟩:=hI.kid hC hik (by omega) hbad (u:=kv) (by rw[hki];exact hkv) (by rw[hki];show El (Gv path q _)+_<=_;omega) hn [.var false [.str (nms.getD i []),qw]];rw[hki]at g8;have hX:=g2 X.length (Cd _) (by simp);rw[BD]at hX;have hw:=AZ hi (by omega);refine .inl ⟨_,ew (by simpa using hi) (hix .i64) hqw hk.AA hp.AA rfl has.AA hkv.AA h129 h128 g1 g3 g4 g6 g5 g7 hX g8 g9 g10 g11 g12 hw,g13⟩) (fun X hI=>by
    exact⟨_,_,by simp[f75] <;> first | exact⟨rfl,rfl⟩ | rfl,by simp,X,rfl,hI⟩) X h0
 obtain⟨X',hq,hI⟩:=hq;cases hq;exact⟨X',hlp,hI⟩
theorem au(l:List Int):(LF l).Pairwise (· <= ·):=by
 have:=List.pairwise_mergeSort (le:=fun x y:Int=>decide (x<=y)) (fun a b c h k=>by
  simp only[decide_eq_true_eq]at *;omega) (fun a b=>by
  rw[Mz,decide_eq_true_eq,decide_eq_true_eq];omega) l
 exact this.imp fun h=>by simpa using h
theorem Hu(s:List Int){j:Nat}(hj:j<s.length):s.toArray[j]! = s[j]:=by simp[getElem!_pos,hj]
theorem jX{s:List Int}(hs:s.Pairwise (· <= ·)):(Lib.compact s).Pairwise (· < ·):=by
 unfold Lib.compact Lib.compactUpTo;rw[List.pairwise_map];have hr:((List.range s.length).filter (Lib.keeps s.toArray)).Pairwise (· < ·):=List.Pairwise.filter _ List.pairwise_lt_range;refine hr.imp_of_mem fun{i j} hi hj hij => ?_
 obtain⟨hi1,_⟩:=Jt.1 hi;obtain⟨hj1,hj2⟩:=Jt.1 hj;have hi1:=Ia.1 hi1;have hj1:=Ia.1 hj1;rw[Hu s hi1,Hu s hj1];simp only[Lib.keeps,decide_eq_true_eq]at hj2;rcases hj2 with h | h
 .omega
 .rw[Hu s hj1,Hu s (show j - 1<s.length by omega)]at h;rw[Li]at hs;have h1:=hs (j - 1) j (by omega) hj1 (by omega);by_cases h2:i=j - 1
  .subst h2;omega
  .have h3:=hs i (j - 1) hi1 (by omega) (by omega);omega
theorem e9(s:List Int)(x:Int):x∈Lib.compact s↔x∈s:=by
 unfold Lib.compact Lib.compactUpTo;rw[E3];constructor
 .rintro⟨j,hj,rfl⟩;have hj:=Ia.1 (Jt.1 hj).1;rw[Hu s hj];exact An hj
 .intro hx;obtain⟨j,hj,rfl⟩:=Gt hx;clear hx;have key:∀ m j (hj:j<s.length),j<=m->∃ a,a∈List.filter (Lib.keeps s.toArray) (List.range s.length)/\s.toArray[a]! = s[j]:=by
   intro m;induction m with
   | zero=>
    intro j hj hm;have:j=0:=(by omega);subst this;exact⟨0,Jt.2 ⟨Ia.2 hj,by simp[Lib.keeps]⟩,Hu s hj⟩
   | succ m ih=>
    intro j hj hm;cases hk:Lib.keeps s.toArray j with
    | true=>exact⟨j,Jt.2 ⟨Ia.2 hj,hk⟩,Hu s hj⟩
    | false=>
     simp only[Lib.keeps,decide_eq_false_iff_not,not_or,Decidable.not_not]at hk;obtain⟨h0,h1⟩:=hk;rw[Hu s hj,Hu s (show j - 1<s.length by omega)]at h1;obtain⟨a,ha,hb⟩:=ih (j - 1) (by omega) (by omega);exact⟨a,ha,by rw[hb];exact h1.symm⟩
  exact key j j hj (Cd _)
theorem fA(l:List Int):(NJ l).Pairwise (· < ·):=jX (au l)
theorem PB(l:List Int)(x:Int):x∈NJ l↔x∈l:=by
 unfold NJ;rw[e9];exact(List.mergeSort_perm l _).mem_iff
theorem jY(p:TyV):∀(s:Sh) (q:KV) (u:AV) (path:List Nat) (w:Int) (k':KV),Cl s q u->NdX s->CB s p=0->Dv p s q=true->atK path (s,q)=some (.bit w,k')->(nAt path p).2=true->0<=(nAt path p).1/\(nAt path p).1<=((2 ^ w.toNat:Nat):Int) - 1:=by
 induction p using TyV.ind with
 | h k v nm ps ih=>
  intro s q u path w k' hk hnd hpe hmay hat hn;cases path with
  | nil=>
   cases hat;rw[nAt]at hn ⊢;have k3:k=3:=(by simpa[TyV.k]using hn);subst k3;show 0<=v/\v<=((2 ^ w.toNat:Nat):Int) - 1;simp only[CB]at hpe;by_cases hv:0<=v/\v<=((2 ^ w.toNat:Nat):Int) - 1
   .exact hv
   .exfalso;rw[if_neg hv]at hpe;simp at hpe;split at hpe <;> simp at hpe
  | cons i r=>
   rw[nAt]at hn ⊢;by_cases hc:(TyV.mk k v nm ps).k=2/\i<(TyV.mk k v nm ps).ps.length
   .rw[if_pos hc]at hn ⊢;have k2:k=2:=hc.1;have hi:i<ps.length:=hc.2;clear hc;subst k2;rw[atK]at hat;obtain⟨z,hz,hat⟩:=Gd.1 hat;cases q with
    | unk no=>cases s <;> cases hz
    | num n=>cases s <;> cases hz
    | con c qs=>
     obtain⟨ns,ss,j,rfl,hj,hpl,hpes⟩:=F6 hpe;obtain⟨ns',ss',sv,parts,qv,e1,e2,hs,hci,hql,hqv⟩:=hk.dest;cases e1;obtain⟨hm1,hm2⟩:=JE hmay;obtain⟨cv,_,hsl,_⟩:=hs.cons;have hil:=(Ac.1 hci).1;have hij:c=j:=Ds hnd.nodup hj (by omega) hm1;subst hij;have hgp:ss.getD c []=parts:=(by simp[List.getD,hci]);rw[hgp]at hpl hpes hm2;simp only[JD,hgp]at hz;have hms:i<parts.length:=(by omega);have hmq:i<qs.length:=(by omega);rw[AO (by simp;omega),GW]at hz;cases hz;obtain⟨e,he,w',_,hw⟩:=hqv.ix (i:=i) (by simp;omega);rw[GW]at hw;have hgd:(TyV.mk 2 v nm ps).ps.getD i default=ps[i]:=by
      show ps.getD i default=ps[i];simp[List.getD,AO hi]
     rw[hgd]at hn ⊢;have gp:=AO hi;have gs:=AO hms;have gq:=AO hmq;exact ih ps[i] (An hi) parts[i] qs[i] w' r w k' hw (hnd.part hci (An hms)) ((Es hpl).1 hpes i _ _ gs gp) (KX hm2 gp gs gq) hat hn
   .rw[if_neg hc]at hn;cases hn
theorem fB{arms:List TyV}{s:Sh}{q:KV}{u:AV}{path:List Nat}{w:Int}{k':KV}(hk:Cl s q u)(hnd:NdX s)(hpe:∀ p∈arms,CB s p=0)(hat:atK path (s,q)=some (.bit w,k')):∀ n∈NJ (GO path s q (Gc k') arms),0<=n/\n<=((2 ^ w.toNat:Nat):Int) - 1:=fun n hn=>by
 rw[PB,GO,QS]at hn;obtain⟨p,hp,hc⟩:=hn;unfold KY at hc;split at hc
 .rename_i h;simp only[Ba]at h;cases hc;exact jY p s q u path w k' hk hnd (hpe p hp) h.2.1 hat h.1
 .cases hc
theorem fC{arms:List TyV}{s:Sh}{B n:Nat}{av:AV}(hC:Nf arms s B av n){q:KV}{u pv:AV}(hk:Cl s q u){path:List Nat}(hp:SlR CV 1 (DX path) pv)(hpl:path.length<1048577){w:Int}{k':KV}(hy:atK path (s,q)=some (.bit w,k')){part:AV}(hpart:Cl (.bit w) k' part)
 {ns:List A2} {bad:Prop} {O0:Nat->Prop} {H0:AE} {l:List Int} (hl0:∀ x∈l,0<=x) (hll:l.length<1048577) {base:Nat} {lw:AV} (hnums:Mv base H0 lw l) (hO0:∀ x,O0 x->x<base) (hno:El q+20 * (n+1)<=100000) (hn:401<=n+1+ns.length)
 (hbad:goF (CD arms s n) (l.map (PA path q)) (ns.length+1)=none->bad) {X:AE} (h0:Jn (CD arms s n) (l.map (PA path q)) ns path bad O0 H0 B av 0 X) :
 ∃ X',E5 MX 75 176 (AG MX) (AL f75 1) ([(0,.hp B 0),(1,u),(6,pv),(8,.int .i64 ns.length),(9,part),(13,lw),(119,lw),(120,.int .i64 l.length),(121,.int .i64 (0:Nat))],X)=some (.ext 2,([(0,.hp B 0),(1,u),(6,pv),(8,.int .i64 ns.length),(9,part),(13,lw),(119,lw),(120,.int .i64 l.length),(121,.int .i64 l.length),(122,.bool false)],X')) /\
  Jn (CD arms s n) (l.map (PA path q)) ns path bad O0 H0 B av l.length X':=by
 obtain⟨kids,hkids⟩:∃ kids,kids=l.map (PA path q):=⟨_,rfl⟩;rw[<- hkids]at hbad h0 ⊢;have hkl:kids.length=l.length:=by rw[hkids];simp
 obtain⟨e,st,hlp,hq⟩:=AQ (M:=MX) (fid:=75) (N:=176) (C:=AG MX) (c:=AL f75 1) (n:=l.length)
  (fun i (X:AE)=>([(0,.hp B 0),(1,u),(6,pv),(8,.int .i64 ns.length),(9,part),(13,lw),(119,lw),(120,.int .i64 l.length),(121,.int .i64 i)],X))
  (fun i X=>Jn (CD arms s n) kids ns path bad O0 H0 B av i X)
  (fun r=>∃ X',r=(.ext 2,([(0,.hp B 0),(1,u),(6,pv),(8,.int .i64 ns.length),(9,part),(13,lw),(119,lw),(120,.int .i64 l.length),(121,.int .i64 l.length),(122,.bool false)],X'))/\Jn (CD arms s n) kids ns path bad O0 H0 B av l.length X') (fun i X hi hI=>by
    have hik:i<kids.length:=(by omega);have hki:kids[i]=PA path q l[i]:=(by simp[hkids]);rcases hnums with⟨h1,_⟩ | ⟨L,G,lk,ms,h1,h2,h3,h4,h5,h6⟩
    .rw[h1]at hi;simp at hi
    .obtain⟨isv,his,h131⟩:=c131 hpart (hl0 _ (An hi));obtain⟨kv,hkv,h128⟩:=c128 (y:=(.bit w,k')) his path (s,q) u pv hk hp hpl hy;have hnm:=JZ (own:=.num l[i]) (path:=path) (k:=q);have hnm0:El (.num l[i])=0:=rfl;rw[hnm0]at hnm;have hI0:=hI;obtain⟨r,X2,lg,nv,J,es,pvn,cas,cas',X3,g1,g2,g3,⟨N,g4,g5⟩,g6,g7,g8,g9,g10,g11,g12,g13⟩:=hI.kid hC hik (by omega) hbad (u:=kv) (by rw[hki];exact hkv) (by rw[hki];show El (Gv path q _)+_<=_;omega) hn [];rw[Hg]at g1;rw[hki]at g8;obtain⟨O,lg0,cs,mm,_,hf,_⟩:=hI0;have hLl:L<H0.length:=(Ac.1 h3).1;have hL:X[L]? = some (.arr 1 lk (DA ms)):=by
      rw[hf.2.2.2 L hLl (fun hO=>by have:=hO0 L hO;omega)];exact h3
     have him:i<ms.length:=(by omega);have hmi:ms[i]=l[i]:=by
      have:(ms.take l.length)[i]? = l[i]? := by rw[h6]
      rw[K5 hi,AO him,AO hi]at this;exact Option.some.inj this
     have hls:(DA ms)[i]? = some [.int .i64 l[i]]:=by
      rw[DA,Fe,AO him,hmi];rfl
     have hix:ixA 1 lw (.int .i64 i)=some (.ep L G 1 i 0):=(by rw[h2,ED (kd:=.i64) (hi:=hi),DW]);have hw:=AZ hi hll;refine .inl ⟨_,ey (by simpa using hi) hix hL (by rw[D1];exact h4) hls hk.AA hp.AA hpart.AA his.AA hkv.AA h131 h128 g1 g3 g4 g6 g5 g7 g8 g9 g10 g11 g12 hw,g13⟩) (fun X hI=>by
    exact⟨_,_,by simp[f75] <;> first | exact⟨rfl,rfl⟩ | rfl,by simp,X,rfl,hI⟩) X h0
 obtain⟨X',hq,hI⟩:=hq;cases hq;exact⟨X',hlp,hI⟩
noncomputable def Dt:Code:=f75.body.getD .skip
noncomputable def Em(n:Nat):Code:=sub Dt (List.replicate n 1++[0])
theorem Kw:Dt=.seq (Em 0) (.seq (Em 1) (.seq (Em 2) (.seq (Em 3) (.seq (Em 4) (.seq (Em 5) (.seq (Em 6) (.seq (Em 7) (.seq (Em 8) (.seq (Em 9) (.seq (Em 10) (sub Dt (List.replicate 11 1)))))))))))):=rfl
theorem QJ{a b v:AV}{H H':AE}(h:AX MX 75 176 (AG MX) Dt (Tm.init 0 [a,b],H)=some (.ret,([(4,v)],H'))):AJ MX 75 [a,b] H=some (.ret v,H'):=by
 have hb:f75.body=some Dt:=rfl;have hn:f75.ntmps=176:=rfl;have hr:f75.results = #[.tmp 4]:=rfl;simp only[AJ,fn_75,hb,hn,h];simp[hr]
section
variable{B:Nat}{u pv part av nv lw:AV}{H H':AE}{at_ r a:Int}
theorem WC:AX MX 75 176 (AG MX) (Em 0) (Tm.init 0 [.hp B 0,u],H)=some (.nrm,([(0,AV.hp B 0),(1,u)],H)):=by
 simp[f75,Em,Dt,sub,List.replicate]
theorem jZ(hB:H[B]? = some (.var false [av,nv,.bool true])):AX MX 75 176 (AG MX) (Em 1) ([(0,AV.hp B 0),(1,u)],H)=some (.ret,([(4,.int .i64 (-1))],H)):=by
 simp[f75,Em,Dt,sub,List.replicate,hB]
theorem Ul(hB:H[B]? = some (.var false [av,nv,.bool false])):AX MX 75 176 (AG MX) (Em 1) ([(0,AV.hp B 0),(1,u)],H)=some (.nrm,([(0,.hp B 0),(1,u),(21,.bool false)],H)):=by
 simp[f75,Em,Dt,sub,List.replicate,hB]
theorem aw(hB:H[B]? = some (.var false [av,nv,.bool false]))(h114:∀ h,AH MX (AG MX) 114 [av,.fn 123 [u] []] h=some (.ret (.int .i64 a),h)):AX MX 75 176 (AG MX) (Em 2) ([(0,.hp B 0),(1,u),(21,.bool false)],H)=some (.nrm,([(0,.hp B 0),(1,u),(5,.int .i64 a)],H)):=by
 simp[f75,Em,Dt,sub,List.replicate,hB,h114]
theorem ja(hB:H[B]? = some (.var false [av,nv,.bool false]))(h125:AH MX (AG MX) 125 [.hp B 0,.agg [.int .i64 (-1),.AI,.AI,.int .i64 (-1)]] H=some (.ret (.int .i64 r),H')):AX MX 75 176 (AG MX) (Em 3) ([(0,.hp B 0),(1,u),(5,.int .i64 (-1))],H)=some (.ret,([(4,.int .i64 r)],H')):=by
 simp[f75,Em,Dt,sub,List.replicate,hB,h125]
theorem jb(hB:H[B]? = some (.var false [av,nv,.bool false])){e1 e2 e3 e4:AV}(ha:(a == -1)=false)(hix:ixA 4 av (.int .i64 a)=some (.ro [e1,e2,e3,e4]))(h124:∀ h,AH MX (AG MX) 124 [u,.agg [e1,e2,e3,e4]] h=some (.ret (.bool true),h))(h125:AH MX (AG MX) 125 [.hp B 0,.agg [.int .i64 a,.AI,.AI,.int .i64 (-1)]] H=some (.ret (.int .i64 r),H')):AX MX 75 176 (AG MX) (Em 3) ([(0,.hp B 0),(1,u),(5,.int .i64 a)],H)=some (.ret,([(4,.int .i64 r)],H')):=by
 simp[f75,Em,Dt,sub,List.replicate,hB,h125,ha,hix,h124]
theorem jc(hB:H[B]? = some (.var false [av,nv,.bool false])){e1 e2 e3 e4:AV}(ha:(a == -1)=false)(hix:ixA 4 av (.int .i64 a)=some (.ro [e1,e2,e3,e4]))(h124:∀ h,AH MX (AG MX) 124 [u,.agg [e1,e2,e3,e4]] h=some (.ret (.bool false),h)):AX MX 75 176 (AG MX) (Em 3) ([(0,.hp B 0),(1,u),(5,.int .i64 a)],H)=some (.nrm,([(0,.hp B 0),(1,u),(5,.int .i64 a),(41,.bool false)],H)):=by
 simp[f75,Em,Dt,sub,List.replicate,hB,ha,hix,h124]
theorem s75_4(hB:H[B]? = some (.var false [av,nv,.bool false])){e1 e2 e3 e4:AV}(hix:ixA 4 av (.int .i64 a)=some (.ro [e1,e2,e3,e4])){b:Bool}(h126:∀ h,AH MX (AG MX) 126 [u,.agg [e1,e2,e3,e4]] h=some (.ret (.tup [pv,.bool b]),h)):AX MX 75 176 (AG MX) (Em 4) ([(0,.hp B 0),(1,u),(5,.int .i64 a),(41,.bool false)],H)=some (.nrm,([(0,.hp B 0),(1,u),(6,pv)],H)):=by
 simp[f75,Em,Dt,sub,List.replicate,hB,hix,h126]
theorem s75_5(hpc:pv.cells=some [pv])(h125:AH MX (AG MX) 125 [.hp B 0,.agg [.int .i64 (-1),pv,.AI,.int .i64 (-1)]] H=some (.ret (.int .i64 r),H')):AX MX 75 176 (AG MX) (Em 5) ([(0,.hp B 0),(1,u),(6,pv)],H)=some (.nrm,([(0,.hp B 0),(1,u),(6,pv),(8,.int .i64 r)],H')):=by
 simp[f75,Em,Dt,sub,List.replicate,hpc,h125]
theorem s75_6(h127:∀ h,AH MX (AG MX) 127 [u,pv] h=some (.ret part,h)):AX MX 75 176 (AG MX) (Em 6) ([(0,.hp B 0),(1,u),(6,pv),(8,.int .i64 r)],H)=some (.nrm,([(0,.hp B 0),(1,u),(6,pv),(8,.int .i64 r),(9,part)],H)):=by
 simp[f75,Em,Dt,sub,List.replicate,h127]
theorem jd{sv a b c d:AV}(h116:∀ h,AH MX (AG MX) 116 [sv] h=some (.ret (.bool true),h)):AX MX 75 176 (AG MX) (Em 7) ([(0,.hp B 0),(1,u),(6,pv),(8,.int .i64 r),(9,.ro [sv,a,b,c,d])],H)=some (.nrm,([(0,.hp B 0),(1,u),(6,pv),(8,.int .i64 r),(9,.ro [sv,a,b,c,d]),(70,.bool false)],H)):=by
 simp[f75,Em,Dt,sub,List.replicate,h116]
theorem je{z cv a b c d:AV}{n:Int}{X:AE}{i:AV}{cd:AV}(h116:∀ h,AH MX (AG MX) 116 [.ro [z,cv]] h=some (.ret (.bool false),h))(hlen:∀ h,Bi cv h=some (.val (.int .i64 n) h))
 (hlp:E5 MX 75 176 (AG MX) (AL f75 0) ([(0,.hp B 0),(1,u),(6,pv),(8,.int .i64 r),(9,.ro [.ro [z,cv],a,b,c,d]),(77,cv),(78,.int .i64 n),(79,.int .i64 (0:Nat))],H)=some (.ext 0,([(0,.hp B 0),(1,u),(6,pv),(8,.int .i64 r),(9,.ro [.ro [z,cv],a,b,c,d]),(77,cv),(78,.int .i64 n),(79,i),(80,cd)],X))) :
 AX MX 75 176 (AG MX) (Em 7) ([(0,.hp B 0),(1,u),(6,pv),(8,.int .i64 r),(9,.ro [.ro [z,cv],a,b,c,d])],H)=some (.ret,([(4,.int .i64 r)],X)):=by
 simp[f75]at hlp;simp[f75,Em,Dt,sub,List.replicate,h116,hlen,hlp]
theorem s75_8{b:Bool}(h130:AH MX (AG MX) 130 [.hp B 0,u,pv] H=some (.ret lw,H')):AX MX 75 176 (AG MX) (Em 8) ([(0,.hp B 0),(1,u),(6,pv),(8,.int .i64 r),(9,part),(70,.bool false)],H)=some (.nrm,([(0,.hp B 0),(1,u),(6,pv),(8,.int .i64 r),(9,part),(13,lw)],H')):=by
 simp[f75,Em,Dt,sub,List.replicate,h130]
theorem s75_9{n:Int}{X:AE}{i cd:AV}(hlen:∀ h,Bi lw h=some (.val (.int .i64 n) h))
 (hlp:E5 MX 75 176 (AG MX) (AL f75 1) ([(0,.hp B 0),(1,u),(6,pv),(8,.int .i64 r),(9,part),(13,lw),(119,lw),(120,.int .i64 n),(121,.int .i64 (0:Nat))],H)=some (.ext 2,([(0,.hp B 0),(1,u),(6,pv),(8,.int .i64 r),(9,part),(13,lw),(119,lw),(120,.int .i64 n),(121,i),(122,cd)],X))) :
 AX MX 75 176 (AG MX) (Em 9) ([(0,.hp B 0),(1,u),(6,pv),(8,.int .i64 r),(9,part),(13,lw)],H)=some (.nrm,([(0,.hp B 0),(1,u),(6,pv),(8,.int .i64 r),(9,part),(13,lw),(119,lw),(120,.int .i64 n),(121,i),(122,cd)],X)):=by
 simp[f75]at hlp;simp[f75,Em,Dt,sub,List.replicate,hlen,hlp]
theorem fD{n m:Int}{i cd w:AV}(hlen:∀ h,Bi lw h=some (.val (.int .i64 n) h))(h132:∀ h,AH MX (AG MX) 132 [part] h=some (.ret (.int .i64 m),h))(hmn:¬ n<m) :
 AX MX 75 176 (AG MX) (Em 10) ([(0,.hp B 0),(1,u),(6,pv),(8,.int .i64 r),(9,part),(13,lw),(119,w),(120,.int .i64 n),(121,i),(122,cd)],H)=some (.nrm,([(0,.hp B 0),(1,u),(6,pv),(8,.int .i64 r),(9,part),(13,lw),(158,.bool false)],H)):=by
 simp[f75,Em,Dt,sub,List.replicate,hlen,h132,hmn]
theorem fE{H2:AE}{n m o:Int}{i cd w isv kidv:AV}{J N k:Nat}{es:List (List AV)}{arm oth:Int}{pvn cas lgv:AV}(hlen:∀ h,Bi lw h=some (.val (.int .i64 n) h))(h132:∀ h,AH MX (AG MX) 132 [part] h=some (.ret (.int .i64 m),h))(hmn:n<m)
 (h133:AH MX (AG MX) 133 [part,lw] H=some (.ret isv,H2)) (h128:∀ h,AH MX (AG MX) 128 [u,pv,isv] h=some (.ret kidv,h)) (h75:AH MX (AG MX) 75 [.hp B 0,kidv] H2=some (.ret (.int .i64 o),H'))
 (hB:H'[B]? = some (.var false [av,nv,lgv])) (hat:ixA 4 nv (.int .i64 r)=some (.ep J N 4 k 0)) (hJ:H'[J]? = some (.arr 4 false es)) (hN:es.length=N) (hes:es[k]? = some [.int .i64 arm,pvn,cas,.int .i64 oth]) :
 AX MX 75 176 (AG MX) (Em 10) ([(0,.hp B 0),(1,u),(6,pv),(8,.int .i64 r),(9,part),(13,lw),(119,w),(120,.int .i64 n),(121,i),(122,cd)],H)=some (.nrm,([(8,.int .i64 r)],H'.set J (.arr 4 false (es.set k [.int .i64 arm,pvn,cas,.int .i64 o])))):=by
 simp[f75,Em,Dt,sub,List.replicate,hlen,h132,hmn,h133,h128,h75,hB,hat,hJ,hN,hes]
theorem fF:AX MX 75 176 (AG MX) (sub Dt (List.replicate 11 1)) ([(8,.int .i64 r)],H)=some (.ret,([(4,.int .i64 r)],H)):=by
 simp[f75,Dt,sub,List.replicate]
theorem fG:AX MX 75 176 (AG MX) (sub Dt (List.replicate 11 1)) ([(0,.hp B 0),(1,u),(6,pv),(8,.int .i64 r),(9,part),(13,lw),(158,.bool false)],H)=some (.ret,([(4,.int .i64 r)],H)):=by
 simp[f75,Dt,sub,List.replicate]
end
theorem Um{arms:List TyV}{s:Sh}{n:Nat}{q:KV}{b a:Nat}(hb:¬ 400<=b)(hfi:arms.findIdx? (fun p=>Dv p s q)=some a)(hs:D2 (arms.getD a default) s q=false) :
 CD arms s (n+1) q b=Ik (CD arms s n) ((FO (arms.getD a default) q).getD []) (FP arms s q ((FO (arms.getD a default) q).getD [])) (b+1):=by
 rw[CD,if_neg hb,hfi];simp only;rw[if_neg (by rw[hs];exact Bool.false_ne_true)]
theorem HE{arms:List TyV}{s:Sh}{n:Nat}{q:KV}{b:Nat}(hb:400<=b):CD arms s (n+1) q b=none:=by
 rw[CD,if_pos hb]
theorem Mv.len{base:Nat}{H:AE}{w:AV}{l:List Int}(h:Mv base H w l):∀ X,Bi w X=some (.val (.int .i64 l.length) X):=by
 rcases h with⟨rfl,rfl⟩ | ⟨j,gen,lk,ms,_,rfl,_⟩ <;> intro X <;> rfl
theorem Mv.snap{base:Nat}{H X:AE}{w:AV}{l:List Int}(h:Mv base H w l)(hX:∀ j,base<=j->j<H.length->X[j]? = H[j]?):∃ w' X',snap C0 w X=some (w',X')/\SlR CV 1 l w'/\X'.length=X.length/\(∀ j,(j<base\/H.length<=j)->X'[j]? = X[j]?)/\(w.AA=true->w'=w/\X'=X):=by
 rcases h with⟨rfl,rfl⟩ | ⟨j,gen,lk,ms,h1,rfl,h3,h4,h5,h6⟩
 .exact⟨.AI,X,rfl,.inl ⟨rfl,rfl⟩,rfl,fun _ _=>rfl,fun _=>⟨rfl,rfl⟩⟩
 .have hjl:=(Ac.1 h3).1;have hx:=hX j h1 hjl;rw[h3]at hx;have hn:(DA ms).all AF=true:=by
   rw[ER];intro e he;obtain⟨x,_,rfl⟩:=E3.1 he;rfl
  have hc:(Nat.beq (DA ms).length gen&&Nat.beq 1 1&&Nat.ble (0+l.length) (DA ms).length&&(DA ms).all AF)=true:=by
   rw[D1,hn];simp only[Ba,Br,HR];exact⟨⟨⟨h4,trivial⟩,by omega⟩,trivial⟩
  have e1:((DA ms).drop 0).take l.length=DA l:=by
   rw[Je,DA,<- List.map_take,h6];rfl
  refine⟨.sl 1 false (DA l),X.set j (.arr 1 true (DA ms)),(show BC 1 _ _ _ _ from fun n=>by simp only[Am.snap,hx,hc,e1]).at (by decide),.inr ⟨false,DA l,rfl,D1 l,fun i a e ha he => ?_⟩,by simp,fun i hi=>BP (by omega),fun h=>by cases h⟩;simp only[DA,Fe,ha,FM,AM]at he;exact he.symm
section
variable{arms:List TyV}{s:Sh}{B:Nat}{av:AV}
theorem c75(hnd:NdX s)(ha:SlR AU 4 arms av)(hal:arms.length<=20)(has:∀ p∈arms,Sm 1048577 p)(hpe:∀ p∈arms,CB s p=0)(hdp:∀ p∈arms,dp p<1048577):∀ n,Nf arms s B av n:=by
 have big:∀ n (u:AV) (O:Nat->Prop) (H:AE) (ns:List A2) (q:KV),Fz O H B av true ns->∃ r O' H' lg' new,AH MX (AG MX) 75 [.hp B 0,u] H=some (.ret (.int .i64 r),H')/\Fz O' H' B av lg' (ns++new)/\Frame O H O' H'/\(true=true->lg'=true)/\(true=false->r=ns.length/\(lg'=false->CD arms s n q ns.length=some new)/\(lg'=true->CD arms s n q ns.length=none)):=fun n u O H ns q hb=>by
  have hb0:=hb;obtain⟨_,_,nv,hB,_⟩:=hb0;exact⟨-1,O,H,true,[],CU Kn Mo (QJ (by rw[Kw];exact Ai WC (GQ (jZ hB)))),by rw[Hg];exact hb,Frame.refl O H,fun h=>h,fun h=>by cases h⟩
 intro n;induction n with
 | zero=>
  intro q u O H lg ns hk hno hb hlg;cases lg with
  | true=>exact big 0 u O H ns q hb
  | false=>obtain⟨h1,h2⟩:=hlg rfl;omega
 | succ n hC=>
  intro q u O H lg ns hk hno hb hlg;cases lg with
  | true=>exact big (n+1) u O H ns q hb
  | false=>
  obtain⟨hl,hn2⟩:=hlg rfl;have hb0:=hb;obtain⟨hOB,hOl,nv,hB,_⟩:=hb0;have h114:=c114m hk hnd ha (by omega) has hpe;obtain⟨fi,hfi⟩:∃ fi,fi=arms.findIdx? (fun p=>Dv p s q):=⟨_,rfl⟩;rw[<- hfi]at h114;cases fi with
  | none=>
   obtain⟨H',O',h125,hb',f0,f1,f2,f3⟩:=c125 hb ha.AA (v:=⟨-1,[],[],-1⟩) (pv:=.AI) (.inl ⟨rfl,rfl⟩) rfl (by omega);rw[Jv]at hb';refine⟨ns.length,O',H',ns.length == 400,_,CU Kn Mo (QJ (by rw[Kw];exact Ai WC (Ai (Ul hB) (Ai (aw hB h114) (GQ (ja hB h125)))))),hb',⟨f0,f1,f2,f3⟩,(fun h=>by cases h),fun _=>⟨rfl,fun h => ?_,fun h => ?_⟩⟩
   .rw[CD,if_neg (by simp at h;omega),<- hfi]
   .exact HE (by simp at h;omega)
  | some a=>
   have hfi2:=hfi.symm;rw[Gr]at hfi2;obtain⟨hal2,hmay,_⟩:=hfi2;have hmem:=An hal2;have hgd:arms.getD a default=arms[a]:=(by simp[List.getD,AO hal2]);obtain⟨e,he,hR⟩:=ha.ix hal2;have h124:=c124 arms[a] s q u e hk hnd hR (has _ hmem) (hpe _ hmem);obtain⟨ra,hra,h126⟩:=c126 arms[a] s q u e hk hnd hR (has _ hmem) (hpe _ hmem) (hdp _ hmem) hmay;obtain⟨q1,rfl,_⟩:=hR.AY;have ha1:((a:Int) == -1)=false:=(by rw[beq_eq_false_iff_ne];omega);rw[show ixI (some a)=(a:Int)from rfl]at h114;cases hs:D2 arms[a] s q with
   | true=>
    rw[hs]at h124;obtain⟨H',O',h125,hb',f0,f1,f2,f3⟩:=c125 hb ha.AA (v:=⟨a,[],[],-1⟩) (pv:=.AI) (.inl ⟨rfl,rfl⟩) rfl (by omega);rw[Jv]at hb';refine⟨ns.length,O',H',ns.length == 400,_,CU Kn Mo (QJ (by rw[Kw];exact Ai WC (Ai (Ul hB) (Ai (aw hB h114) (GQ (jb hB ha1 (he .i64) h124 h125)))))),hb',⟨f0,f1,f2,f3⟩,(fun h=>by cases h),fun _=>⟨rfl,fun h => ?_,fun h => ?_⟩⟩
    .rw[CD,if_neg (by simp at h;omega),<- hfi];simp only;rw[if_pos (by rw[hgd];exact hs)]
    .exact HE (by simp at h;omega)
   | false=>
    rw[hs]at h124;obtain⟨path,hpath⟩:∃ path,path=(FO arms[a] q).getD []:=⟨_,rfl⟩;have hask:∃ pv b,ra=.tup [pv,.bool b]/\SlR CV 1 (DX path) pv/\path.length<1048577/\∃ y,atK path (s,q)=some y:=by
     obtain⟨w,⟨p2,h1,h2,h3⟩ | ⟨h1,h2⟩⟩:=hra
     .rw[h1]at hpath;have hpp:path=p2:=hpath;rw[hpp];have:=O9 arms[a] q p2 h1;have:=hdp _ hmem;exact⟨w,true,h2,h3,by omega,jW arms[a] s q u p2 hk hnd (hpe _ hmem) hmay h1⟩
     .rw[h1]at hpath;have hpp:path=[]:=hpath;rw[hpp];exact⟨.AI,false,h2,.inl ⟨rfl,rfl⟩,by simp,_,rfl⟩
    obtain⟨pv,b,rfl,hp,hpl,y,hy⟩:=hask;obtain⟨H1,O1,h125,hb1,f0,f1,f2,f3⟩:=c125 hb ha.AA (v:=⟨-1,DX path,[],-1⟩) (pv:=pv) hp rfl (by omega);rw[Jv]at hb1;have hf1:Frame O H O1 H1:=⟨f0,f1,f2,f3⟩;obtain⟨ku,hku,h127⟩:=c127 (x:=(s,q)) hk hp hpl hy;have hnm:=TF hy;have hnode:¬ 400<=ns.length->CD arms s (n+1) q ns.length=Ik (CD arms s n) path (FP arms s q path) (ns.length+1):=fun h=>by
     rw[Um h hfi.symm (by rw[hgd];exact hs),hgd,<- hpath]
    have pre:∀{r:Ex×St},AX MX 75 176 (AG MX) (.seq (Em 7) (.seq (Em 8) (.seq (Em 9) (.seq (Em 10) (sub Dt (List.replicate 11 1)))))) ([(0,.hp B 0),(1,u),(6,pv),(8,.int .i64 ns.length),(9,ku)],H1)=some r->AX MX 75 176 (AG MX) Dt (Tm.init 0 [.hp B 0,u],H)=some r:=fun h=>by
     rw[Kw];exact Ai WC (Ai (Ul hB) (Ai (aw hB h114) (Ai (jc hB ha1 (he .i64) h124) (Ai (s75_4 hB (he .i64) h126) (Ai (s75_5 hp.cells h125) (Ai (s75_6 h127) h))))))
    have loop0:∀(kids:List ((Bytes×Int)×KV)) (H0:AE),Fz O1 H0 B av (ns.length == 400) (ns++[⟨-1,DX path,[],-1⟩])->Jn (CD arms s n) kids ns path (CD arms s (n+1) q ns.length=none) O1 H0 B av 0 H0:=fun kids H0 hbx=>
     ⟨O1,ns.length == 400,[],[],hbx,Frame.refl O1 H0,rfl,fun h=>⟨by simp at h ⊢;omega,by simp[Option.map_id']⟩,fun h=>HE (by simp at h;omega)⟩
    obtain⟨sy,ky⟩:=y;cases sy with
    | cons nms ss=>
     obtain⟨sv,ea,eb,ec,ed,rfl,hsv⟩:=hku.sort;obtain⟨cv,e1,hsl,⟨hz1,hz2⟩,_,hcv⟩:=hsv.cons;subst e1;have hkids:FP arms s q path=((List.range ss.length).map (PO nms ss path q),none):=by
      unfold FP;rw[hy];rfl
     have hbad:goF (CD arms s n) ((List.range ss.length).map (PO nms ss path q)) (ns.length+1)=none->CD arms s (n+1) q ns.length=none:=fun h=>by
      by_cases h4:400<=ns.length
      .exact HE h4
      .rw[hnode h4,hkids,Ik,h]
     obtain⟨X',hlp,hI⟩:=e8 hC hk hp hpl hy hsv rfl hno hn2 hbad (loop0 _ H1 hb1) (a:=ea) (b:=eb) (c:=ec) (d:=ed);have h116:=fun h=>c116c (m:=0) hcv (by
      intro h0;have:=congrArg List.length h0;rw[List.length_zip,Jd]at this;omega) h
     have hzl:(nms.zip ss).length=ss.length:=(by simp;omega);have hlen:=hcv.len;rw[hzl]at hlen;obtain⟨O2,lg2,cs,ms,hb2,hf2,hcl,hgo,hbd⟩:=hI;refine⟨ns.length,O2,X',lg2,⟨-1,DX path,cs,-1⟩::ms,CU Kn Mo (QJ (pre (GQ (je h116 hlen hlp)))),hb2,hf1.trans hf2,(fun h=>by cases h),fun _=>⟨rfl,fun h => ?_,fun h=>hbd h⟩⟩;obtain⟨g1,g2⟩:=hgo h;rw[hnode (by omega),hkids,Ik,g2,Jr (by simp),goF];simp[RG]
    | bit w=>
     have hku:Cl (.bit w) ky ku:=hku;have hnm:El ky<=El q:=hnm;obtain⟨nov,a',e1,hno',hnol,hw1,hw2,_⟩:=hku.JW;have hb1':=hb1;obtain⟨hO1B,hO1l,nv1,hB1,_⟩:=hb1';obtain⟨lw,X0,h130,x1,x2,hnums⟩:=c130 hk hnd ha (by omega) has hpe hp hpl hy hB1;obtain⟨l,hlq⟩:∃ l,l=NJ (GO path s q (Gc ky) arms):=⟨_,rfl⟩;rw[<- hlq]at hnums;have hll:l.length<=arms.length:=by
      rw[hlq];exact Cz (MT _) (TX _ _)
     have hl0:∀ x∈l,0<=x:=fun x hx=>by
      rw[hlq]at hx;exact(fB hk hnd hpe hy x hx).1
     have hnoq:(Gc ky).length<=El q:=by
      cases ky with
      | unk no=>exact hnm
      | num m=>exact H7 _
      | con i ps=>exact H7 _
     have hkids:FP arms s q path=(l.map (PA path q),if(l.length:Int)<JC w ky then some (Gv path q (.unk (Gc ky++l)))else none):=by
      unfold FP;rw[hy,hlq];rfl
     have hbad:goF (CD arms s n) (l.map (PA path q)) (ns.length+1)=none->CD arms s (n+1) q ns.length=none:=fun h=>by
      by_cases h4:400<=ns.length
      .exact HE h4
      .rw[hnode h4,hkids,Ik,h]
     have hbX:Fz O1 X0 B av (ns.length == 400) (ns++[⟨-1,DX path,[],-1⟩]):=hb1.keep x1 fun x hx=>x2 x (hO1l x hx)
     have hfX:Frame O1 H1 O1 X0:=⟨x1,fun _ h=>h,fun _ h=> .inl h,fun x hx _=>x2 x hx⟩;obtain⟨X',hlp,hI⟩:=fC hC hk hp hpl hy hku hl0 (by omega) hnums hO1l hno hn2 hbad (loop0 _ X0 hbX);have h116:=c116b (m:=w);have hlen:=hnums.len;have h132:=c132 hku;obtain⟨O2,lg2,cs,ms,hb2,hf2,hcl,hgo,hbd⟩:=hI;have hgoE:lg2=false->goF (CD arms s n) (l.map (PA path q)) (ns.length+1)=some (cs,ms):=fun h=>by
      rw[(hgo h).2,Jr (by simp),goF];simp
     have pre2:∀{r:Ex×St},AX MX 75 176 (AG MX) (.seq (Em 10) (sub Dt (List.replicate 11 1))) ([(0,.hp B 0),(1,u),(6,pv),(8,.int .i64 ns.length),(9,ku),(13,lw),(119,lw),(120,.int .i64 l.length),(121,.int .i64 l.length),(122,.bool false)],X')=some r->AX MX 75 176 (AG MX) Dt (Tm.init 0 [.hp B 0,u],H)=some r:=fun h=>by
      refine pre (Ai ?_ (Ai (s75_8 (b:=false) h130) (Ai (s75_9 hlen hlp) h)));rw[e1];exact jd h116
     by_cases hleft:(l.length:Int)<JC w ky
     .rw[if_pos hleft]at hkids;obtain⟨lw',X1,hsn,hlw',xl,xk,xn⟩:=hnums.snap (X:=X') (fun j h1 h2=>hf2.2.2.2 j h2 (fun hO=>by have:=hO1l j hO;omega));obtain⟨isv,his,h133⟩:=c133 hku hlw' (by omega);have h133':AH MX (AG MX) 133 [ku,lw] X'=some (.ret isv,X1):=by
       cases hr:lw.AA with
       | true=>
        obtain⟨z1,z2⟩:=xn hr;rw[<- z1,z2];exact h133 X'
       | false=>exact EG (by simp[SB]) (by simp[Aq,hku.AA,hr,hsn]) (by simp[hku.AA,hlw'.AA]) (h133 X1)
      obtain⟨kv,hkv,h128⟩:=c128 (y:=(.bit w,ky)) his path (s,q) u pv hk hp hpl hy;have hb3:Fz O2 X1 B av lg2 (ns++⟨-1,DX path,cs,-1⟩::ms):=hb2.keep (by omega) fun x hx=>xk x (by
       rcases hf2.2.2.1 x hx with h | h
       .exact .inl (hO1l x h)
       .exact .inr h)
      have hf3:Frame O H O2 X1:=by
       obtain⟨z1,z2,z3,z4⟩:=(hf1.trans hfX).trans hf2;exact⟨by omega,z2,z3,fun x hx hn=>by rw[xk x (.inl (by omega))];exact z4 x hx hn⟩
      have hnw:=JZ (own:=.unk (Gc ky++l)) (path:=path) (k:=q);have hnu:El (.unk (Gc ky++l))=(Gc ky).length+l.length:=by
       show(Gc ky++l).length=_;simp
      rw[hnu]at hnw;have hlenN:(ns++⟨-1,DX path,cs,-1⟩::ms:List A2).length=ns.length+1+ms.length:=(by simp;omega);obtain⟨r2,O3,X2,lg3,new,hcall,hb4,hf4,hlt,hlf⟩:=hC (Gv path q (.unk (Gc ky++l))) kv O2 X1 lg2 _ hkv (by omega) hb3 (fun h=>by
       have:=(hgo h).1;rw[hlenN];omega)
      rw[CO,Ej]at hb4;obtain⟨nv4,J,es,pvn,cas,k1,k2,k3,k4,k5,k6,k7⟩:=hb4.oth ao r2;rw[aq]at k6;refine⟨ns.length,O3,_,lg3,⟨-1,DX path,cs,r2⟩::(ms++new),CU Kn Mo (QJ (pre2 (Ai (fE hlen h132 hleft h133' h128 hcall k1 k2 k3 k4 k5) fF))),k6,(hf3.trans hf4).trans k7,(fun h=>by cases h),fun _=>⟨rfl,fun h => ?_,fun h => ?_⟩⟩
      .have hl2:lg2=false:=by
        cases lg2 with
        | false=>rfl
        | true=>rw[hlt rfl]at h;cases h
       obtain⟨w1,w2,_⟩:=hlf hl2;have w2:=w2 h;rw[hlenN]at w1 w2;rw[hnode (by have:=(hgo hl2).1;omega),hkids,Ik,hgoE hl2];simp only[RG];rw[w2,w1]
      .cases lg2 with
       | true=>exact hbd rfl
       | false=>
        obtain⟨_,_,w3⟩:=hlf rfl;have w3:=w3 h;rw[hlenN]at w3;by_cases h4:400<=ns.length
        .exact HE h4
        .rw[hnode h4,hkids,Ik,hgoE rfl];simp only[RG];rw[w3]
     .rw[if_neg hleft]at hkids;refine⟨ns.length,O2,X',lg2,⟨-1,DX path,cs,-1⟩::ms,CU Kn Mo (QJ (pre2 (Ai (fD hlen h132 hleft) fG))),hb2,(hf1.trans hfX).trans hf2,(fun h=>by cases h),fun _=>⟨rfl,fun h => ?_,fun h=>hbd h⟩⟩;rw[hnode (by have:=(hgo h).1;omega),hkids,Ik,hgoE h];rfl
end
end Go.Proofs.Am12
namespace Go.Am
open Go
mutual
def rb:Nat->AE->AV->Option AV
 | 0,_,_=>none
 | n+1,H,v=>match v with
  | .hp id off=>match H[id]? with
   | some (.var _ cs)=>(rbs n H cs).map fun cs'=> .ro (cs'.drop off)
   | _=>none
  | .hs id gen sz off len ex=>match H[id]? with
   | some (.arr sz' _ es)=>match Nat.beq es.length gen&&Nat.beq sz' sz&&Nat.ble (off+len) es.length with
    | true=>(GV n H es).map fun es'=> .sl sz ex ((es'.drop off).take len)
    | false=>none
   | _=>none
  | v=>match v.flat with
   | true=>some v
   | false=>none
def rbs:Nat->AE->List AV->Option (List AV)
 | 0,_,_=>none
 | _+1,_,[]=>some []
 | n+1,H,c::cs=>match rb n H c,rbs n H cs with
  | some c',some cs'=>some (c'::cs')
  | _,_=>none
def GV:Nat->AE->List (List AV)->Option (List (List AV))
 | 0,_,_=>none
 | _+1,_,[]=>some []
 | n+1,H,c::cs=>match rbs n H c,GV n H cs with
  | some c',some cs'=>some (c'::cs')
  | _,_=>none
end
theorem KZ{n id off:Nat}{H:AE}{w:AV}:rb (n+1) H (.hp id off)=some w↔∃ b cs cs',H[id]? = some (.var b cs)/\rbs n H cs=some cs'/\w=.ro (cs'.drop off):=by
 constructor
 .intro h;simp only[rb]at h;split at h
  .rename_i b cs hb;cases hr:rbs n H cs with
   | none=>rw[hr]at h;cases h
   | some cs'=>rw[hr]at h;cases h;exact⟨b,cs,cs',hb,hr,rfl⟩
  .cases h
 .rintro⟨b,cs,cs',h1,h2,rfl⟩;simp only[rb,h1,h2,FM]
theorem Jo{n id gen sz off len:Nat}{ex:Bool}{H:AE}{w:AV}:rb (n+1) H (.hs id gen sz off len ex)=some w↔∃ lk es es',H[id]? = some (.arr sz lk es)/\es.length=gen/\off+len<=es.length/\GV n H es=some es'/\w=.sl sz ex ((es'.drop off).take len):=by
 constructor
 .intro h;simp only[rb]at h;split at h
  .rename_i sz' lk es hb;split at h
   .rename_i hc;simp only[Ba]at hc;obtain⟨⟨c1,c2⟩,c3⟩:=hc;have c2:=Nk c2;subst c2;cases hr:GV n H es with
    | none=>rw[hr]at h;cases h
    | some es'=>rw[hr]at h;cases h;exact⟨lk,es,es',hb,Nk c1,Nat.le_of_ble_eq_true c3,hr,rfl⟩
   .cases h
  .cases h
 .rintro⟨lk,es,es',h1,h2,h3,h4,rfl⟩;have hc:(Nat.beq es.length gen&&Nat.beq sz sz&&Nat.ble (off+len) es.length)=true:=by
   simp only[Ba,Br,HR];exact⟨⟨h2,trivial⟩,h3⟩
  simp only[rb,h1,hc,h4,FM]
def AV.still:AV->Bool
 | .hp .. => false
 | .hs .. => false
 | _=>true
theorem EY{n:Nat}{H:AE}{v w:AV}(hv:v.still=true):rb (n+1) H v=some w↔v.flat=true/\w=v:=by
 have e:rb (n+1) H v=match v.flat with
  | true=>some v
  | false=>none:=by
  cases v <;> first | rfl | cases hv
 rw[e];cases v.flat with
 | true=>simp[eq_comm]
 | false=>simp
theorem Eu{n:Nat}{H:AE}{c:AV}{cs ws:List AV}:rbs (n+1) H (c::cs)=some ws↔∃ c' cs',rb n H c=some c'/\rbs n H cs=some cs'/\ws=c'::cs':=by
 simp only[rbs];cases rb n H c <;> cases rbs n H cs <;> simp[eq_comm]
theorem HF{n:Nat}{H:AE}{c:List AV}{cs ws:List (List AV)}:GV (n+1) H (c::cs)=some ws↔∃ c' cs',rbs n H c=some c'/\GV n H cs=some cs'/\ws=c'::cs':=by
 simp only[GV];cases rbs n H c <;> cases GV n H cs <;> simp[eq_comm]
theorem MY(v:AV):v.still=true\/(∃ id off,v=.hp id off)\/∃ id gen sz off len ex,v=.hs id gen sz off len ex:=by
 cases v <;> first | exact .inl rfl | exact .inr (.inl ⟨_,_,rfl⟩) | exact .inr (.inr ⟨_,_,_,_,_,_,rfl⟩)
theorem gM:∀ n,(∀ H v w,rb n H v=some w->rb (n+1) H v=some w)/\(∀ H cs ws,rbs n H cs=some ws->rbs (n+1) H cs=some ws)/\∀ H es ws,GV n H es=some ws->GV (n+1) H es=some ws
 | 0=>⟨fun H v w h=>by simp[rb]at h,fun H v w h=>by simp[rbs]at h,fun H v w h=>by simp[GV]at h⟩
 | n+1=>by
  obtain⟨i1,i2,i3⟩:=gM n;refine⟨fun H v w h => ?_,fun H cs ws h => ?_,fun H es ws h => ?_⟩
  .rcases MY v with hv | ⟨id,off,rfl⟩ | ⟨id,gen,sz,off,len,ex,rfl⟩
   .rw[EY hv]at h ⊢;exact h
   .rw[KZ]at h ⊢;obtain⟨b,cs,cs',h1,h2,h3⟩:=h;exact⟨b,cs,cs',h1,i2 _ _ _ h2,h3⟩
   .rw[Jo]at h ⊢;obtain⟨lk,es,es',h1,h2,h3,h4,h5⟩:=h;exact⟨lk,es,es',h1,h2,h3,i3 _ _ _ h4,h5⟩
  .cases cs with
   | nil=>exact h
   | cons c cs=>
    rw[Eu]at h ⊢;obtain⟨c',cs',h1,h2,h3⟩:=h;exact⟨c',cs',i1 _ _ _ h1,i2 _ _ _ h2,h3⟩
  .cases es with
   | nil=>exact h
   | cons c cs=>
    rw[HF]at h ⊢;obtain⟨c',cs',h1,h2,h3⟩:=h;exact⟨c',cs',i2 _ _ _ h1,i3 _ _ _ h2,h3⟩
theorem Il{n m:Nat}(h:n<=m):(∀{H v w},rb n H v=some w->rb m H v=some w)/\(∀{H cs ws},rbs n H cs=some ws->rbs m H cs=some ws)/\∀{H es ws},GV n H es=some ws->GV m H es=some ws:=by
 obtain⟨k,rfl⟩:=Nat.le.dest h;clear h;induction k with
 | zero=>exact⟨fun h=>h,fun h=>h,fun h=>h⟩
 | succ k ih=>
  obtain⟨i1,i2,i3⟩:=ih;obtain⟨u1,u2,u3⟩:=gM (n+k);exact⟨fun h=>u1 _ _ _ (i1 h),fun h=>u2 _ _ _ (i2 h),fun h=>u3 _ _ _ (i3 h)⟩
theorem fH{n m:Nat}{H:AE}{cs a b:List AV}(h:rbs n H cs=some a)(k:rbs m H cs=some b):a=b:=by
 have h:=(Il (Hi n m)).2.1 h;have k:=(Il (H5 n m)).2.1 k;rw[h]at k;exact Option.some.inj k
theorem ax{n m:Nat}{H:AE}{cs a b:List (List AV)}(h:GV n H cs=some a)(k:GV m H cs=some b):a=b:=by
 have h:=(Il (Hi n m)).2.2 h;have k:=(Il (H5 n m)).2.2 k;rw[h]at k;exact Option.some.inj k
theorem JG(H2:AE):∀ n,(∀ H v w,rb n H v=some w->rb n H2 w=some w)/\(∀ H cs ws,rbs n H cs=some ws->rbs n H2 ws=some ws/\ws.length=cs.length)/\∀ H es ws,GV n H es=some ws->GV n H2 ws=some ws/\ws.length=es.length
 | 0=>⟨fun H v w h=>by simp[rb]at h,fun H v w h=>by simp[rbs]at h,fun H v w h=>by simp[GV]at h⟩
 | n+1=>by
  obtain⟨i1,i2,i3⟩:=JG H2 n;refine⟨fun H v w h => ?_,fun H cs ws h => ?_,fun H es ws h => ?_⟩
  .rcases MY v with hv | ⟨id,off,rfl⟩ | ⟨id,gen,sz,off,len,ex,rfl⟩
   .rw[EY hv]at h;obtain⟨h1,rfl⟩:=h;rw[EY hv];exact⟨h1,rfl⟩
   .rw[KZ]at h;obtain⟨b,cs,cs',h1,h2,rfl⟩:=h;exact(EY rfl).2 ⟨rfl,rfl⟩
   .rw[Jo]at h;obtain⟨lk,es,es',h1,h2,h3,h4,rfl⟩:=h;exact(EY rfl).2 ⟨rfl,rfl⟩
  .cases cs with
   | nil=>cases h;exact⟨rfl,rfl⟩
   | cons c cs=>
    rw[Eu]at h;obtain⟨c',cs',h1,h2,rfl⟩:=h;obtain⟨k1,k2⟩:=i2 _ _ _ h2;exact⟨Eu.2 ⟨_,_,i1 _ _ _ h1,k1,rfl⟩,by simp[k2]⟩
  .cases es with
   | nil=>cases h;exact⟨rfl,rfl⟩
   | cons c cs=>
    rw[HF]at h;obtain⟨c',cs',h1,h2,rfl⟩:=h;obtain⟨k1,k2⟩:=i3 _ _ _ h2;exact⟨HF.2 ⟨_,_,(i2 _ _ _ h1).1,k1,rfl⟩,by simp[k2]⟩
theorem TH{v:AV}(h:v.AA=true):v.still=true:=by
 cases v <;> first | rfl | cases h
theorem ay(n:Nat):(∀ H v w,v.AA=true->rb n H v=some w->w=v)/\(∀ H cs ws,AF cs=true->rbs n H cs=some ws->ws=cs)/\∀ H es ws,es.all AF=true->GV n H es=some ws->ws=es:=by
 induction n with
 | zero=>exact⟨fun H v w _ h=>by simp[rb]at h,fun H v w _ h=>by simp[rbs]at h,fun H v w _ h=>by simp[GV]at h⟩
 | succ n ih=>
  obtain⟨i1,i2,i3⟩:=ih;refine⟨fun H v w hn h => ?_,fun H cs ws hn h => ?_,fun H es ws hn h => ?_⟩
  .rw[EY (TH hn)]at h;exact h.2
  .cases cs with
   | nil=>cases h;rfl
   | cons c cs=>
    rw[Eu]at h;obtain⟨c',cs',h1,h2,rfl⟩:=h;simp only[AF,Ba]at hn;rw[i1 _ _ _ hn.1 h1,i2 _ _ _ hn.2 h2]
  .cases es with
   | nil=>cases h;rfl
   | cons c cs=>
    rw[HF]at h;obtain⟨c',cs',h1,h2,rfl⟩:=h;simp only[Hk,Ba]at hn;rw[i2 _ _ _ hn.1 h1,i3 _ _ _ hn.2 h2]
structure MZ(H H':AE):Prop where
 len:H'.length=H.length
 var:∀{id:Nat} {b:Bool} {cs:List AV},H[id]? = some (.var b cs)->∃(b':Bool) (cs':List AV),H'[id]? = some (.var b' cs')
 arr:∀{id sz:Nat} {lk:Bool} {es:List (List AV)},H[id]? = some (.arr sz lk es)->∃(lk':Bool) (es':List (List AV)),H'[id]? = some (.arr sz lk' es')/\es'.length=es.length
 one:∀{n v w},rb n H v=some w->rb n H' v=some w
 all:∀{n cs ws},rbs n H cs=some ws->rbs n H' cs=some ws
 alls:∀{n cs ws},GV n H cs=some ws->GV n H' cs=some ws
theorem MZ.refl(H:AE):MZ H H:=⟨rfl,fun h=>⟨_,_,h⟩,fun h=>⟨_,_,h,rfl⟩,fun h=>h,fun h=>h,fun h=>h⟩
theorem MZ.trans{A B C:AE}(h:MZ A B)(k:MZ B C):MZ A C where
 len:=by rw[k.len,h.len]
 var:=fun e=>by obtain⟨_,_,e⟩:=h.var e;exact k.var e
 arr:=fun e=>by
  obtain⟨_,_,e,l⟩:=h.arr e;obtain⟨lk,es,e,l2⟩:=k.arr e;exact⟨lk,es,e,by rw[l2,l]⟩
 one:=fun e=>k.one (h.one e)
 all:=fun e=>k.all (h.all e)
 alls:=fun e=>k.alls (h.alls e)
theorem WD{H:AE}{id:Nat}{X:Blk}(hp:∀ n off w,rb (n+1) H (.hp id off)=some w->rb (n+1) (H.set id X) (.hp id off)=some w)(hs:∀ n gen sz off len ex w,rb (n+1) H (.hs id gen sz off len ex)=some w->rb (n+1) (H.set id X) (.hs id gen sz off len ex)=some w) :
 ∀ n,(∀ v w,rb n H v=some w->rb n (H.set id X) v=some w)/\(∀ cs ws,rbs n H cs=some ws->rbs n (H.set id X) cs=some ws)/\∀ es ws,GV n H es=some ws->GV n (H.set id X) es=some ws:=by
 intro n;induction n with
 | zero=>exact⟨fun v w h=>by simp[rb]at h,fun v w h=>by simp[rbs]at h,fun v w h=>by simp[GV]at h⟩
 | succ n ih=>
  obtain⟨i1,i2,i3⟩:=ih;refine⟨fun v w h => ?_,fun cs ws h => ?_,fun es ws h => ?_⟩
  .rcases MY v with hv | ⟨id',off,rfl⟩ | ⟨id',gen,sz,off,len,ex,rfl⟩
   .rw[EY hv]at h ⊢;exact h
   .by_cases hi:id'=id
    .subst hi;exact hp n off w h
    .rw[KZ]at h ⊢;obtain⟨b,cs,cs',h1,h2,h3⟩:=h;exact⟨b,cs,cs',by rw[BP (fun e=>hi e.symm)];exact h1,i2 _ _ h2,h3⟩
   .by_cases hi:id'=id
    .subst hi;exact hs n gen sz off len ex w h
    .rw[Jo]at h ⊢;obtain⟨lk,es,es',h1,h2,h3,h4,h5⟩:=h;exact⟨lk,es,es',by rw[BP (fun e=>hi e.symm)];exact h1,h2,h3,i3 _ _ h4,h5⟩
  .cases cs with
   | nil=>exact h
   | cons c cs=>
    rw[Eu]at h ⊢;obtain⟨c',cs',h1,h2,h3⟩:=h;exact⟨c',cs',i1 _ _ h1,i2 _ _ h2,h3⟩
  .cases es with
   | nil=>exact h
   | cons c cs=>
    rw[HF]at h ⊢;obtain⟨c',cs',h1,h2,h3⟩:=h;exact⟨c',cs',i2 _ _ h1,i3 _ _ h2,h3⟩
theorem az{H:AE}{id m:Nat}{b:Bool}{cs cs':List AV}(h:H[id]? = some (.var b cs))(hr:rbs m H cs=some cs'):MZ H (H.set id (.var true cs')):=by
 have hl:=(Ac.1 h).1;have hself:(H.set id (.var true cs'))[id]? = some (.var true cs'):=CM hl;have key:=WD (H:=H) (id:=id) (X:=.var true cs') (fun n off w e=>by
  rw[KZ]at e ⊢;obtain⟨b',cs2,ws,e1,e2,e3⟩:=e;rw[h]at e1;cases e1;have:=fH e2 hr;subst this;exact⟨true,ws,ws,hself,((JG _ n).2.1 _ _ _ e2).1,e3⟩) (fun n gen sz off len ex w e=>by
  rw[Jo]at e;obtain⟨lk,es,es',e1,_⟩:=e;rw[h]at e1;cases e1)
 refine⟨by simp,fun{id' b' cs2} e => ?_,fun{id' sz lk es} e => ?_,fun{n v w} e=>(key n).1 _ _ e,fun{n v w} e=>(key n).2.1 _ _ e,fun{n v w} e=>(key n).2.2 _ _ e⟩
 .by_cases hi:id=id'
  .subst hi;exact⟨_,_,hself⟩
  .exact⟨_,_,by rw[BP hi];exact e⟩
 .by_cases hi:id=id'
  .subst hi;rw[h]at e;cases e
  .exact⟨_,_,by rw[BP hi];exact e,rfl⟩
theorem TI{H:AE}{id m sz:Nat}{b:Bool}{cs cs':List (List AV)}(h:H[id]? = some (.arr sz b cs))(hr:GV m H cs=some cs'):MZ H (H.set id (.arr sz true cs')):=by
 have hl:=(Ac.1 h).1;have hself:(H.set id (.arr sz true cs'))[id]? = some (.arr sz true cs'):=CM hl;have hlen:=((JG H m).2.2 _ _ _ hr).2;have key:=WD (H:=H) (id:=id) (X:=.arr sz true cs') (fun n off w e=>by
  rw[KZ]at e;obtain⟨b',cs2,ws,e1,e2,e3⟩:=e;rw[h]at e1;cases e1) (fun n gen sz' off len ex w e=>by
  rw[Jo]at e ⊢;obtain⟨lk,es,es',e1,e2,e3,e4,e5⟩:=e;rw[h]at e1;cases e1;have:=ax e4 hr;subst this;exact⟨true,es',es',hself,by rw[hlen];exact e2,by rw[hlen];exact e3,((JG _ n).2.2 _ _ _ e4).1,e5⟩)
 refine⟨by simp,fun{id' b' cs2} e => ?_,fun{id' sz' lk es} e => ?_,fun{n v w} e=>(key n).1 _ _ e,fun{n v w} e=>(key n).2.1 _ _ e,fun{n v w} e=>(key n).2.2 _ _ e⟩
 .by_cases hi:id=id'
  .subst hi;rw[h]at e;cases e
  .exact⟨_,_,by rw[BP hi];exact e⟩
 .by_cases hi:id=id'
  .subst hi;rw[h]at e;cases e;exact⟨_,_,hself,hlen⟩
  .exact⟨_,_,by rw[BP hi];exact e,rfl⟩
theorem RH:∀ n,(∀ H v w,rb n H v=some w->∃ H',MZ H H'/\∀ l,BC n v (H++l) w (H'++l))/\(∀ H cs ws,rbs n H cs=some ws->∃ H',MZ H H'/\∀ l,BK n cs (H++l) ws (H'++l))/\∀ H es ws,GV n H es=some ws->∃ H',MZ H H'/\∀ l,CS n es (H++l) ws (H'++l)
 | 0=>⟨fun H v w h=>by simp[rb]at h,fun H v w h=>by simp[rbs]at h,fun H v w h=>by simp[GV]at h⟩
 | n+1=>by
  obtain⟨i1,i2,i3⟩:=RH n;refine⟨fun H v w h => ?_,fun H cs ws h => ?_,fun H es ws h => ?_⟩
  .rcases MY v with hv | ⟨id,off,rfl⟩ | ⟨id,gen,sz,off,len,ex,rfl⟩
   .rw[EY hv]at h;have h1:=h.1;have h2:=h.2;subst h2;exact⟨H,MZ.refl H,fun l=>(BC.flat h1 _).mono (by omega)⟩
   .rw[KZ]at h;obtain⟨b,cs,cs',h1,h2,rfl⟩:=h;obtain⟨H1,p1,s1⟩:=i2 _ _ _ h2;obtain⟨b2,cs2,e2⟩:=p1.var h1;have hr2:rbs n H1 cs2=some cs':=by
     have:=p1.one (n:=n+1) (v:=.hp id 0) (KZ.2 ⟨b,cs,cs',h1,h2,rfl⟩);rw[KZ]at this;obtain⟨b3,cs3,ws,k1,k2,k3⟩:=this;rw[e2]at k1;cases k1;simp only[Je,AV.ro.injEq]at k3;rw[k3];exact k2
    refine⟨H1.set id (.var true cs'),p1.trans (az e2 hr2),fun l m => ?_⟩;have hl:=(Ac.1 h1).1;have hl1:=(Ac.1 e2).1;have q1:(H++l)[id]? = some (.var b cs):=(by rw[A9 hl];exact h1);have q2:(H1++l)[id]? = some (.var b2 cs2):=(by rw[A9 hl1];exact e2);show snap ((m+n)+1) _ _=_;simp only[snap,q1,s1 l m,q2];rw[Nn _ _ hl1]
   .rw[Jo]at h;obtain⟨lk,es,es',h1,h2,h3,h4,rfl⟩:=h;have hl:=(Ac.1 h1).1;have hc:(Nat.beq es.length gen&&Nat.beq sz sz&&Nat.ble (off+len) es.length)=true:=by
     simp only[Ba,Br,HR];exact⟨⟨h2,trivial⟩,h3⟩
    cases hn:es.all AF with
    | true=>
     have:=(ay n).2.2 _ _ _ hn h4;subst this;refine⟨H.set id (.arr sz true es'),TI h1 h4,fun l m => ?_⟩;have q1:(H++l)[id]? = some (.arr sz lk es'):=(by rw[A9 hl];exact h1);show snap ((m+n)+1) _ _=_;simp only[snap,q1,hc,hn,Bool.and_true];rw[Nn _ _ hl]
    | false=>
     obtain⟨H1,p1,s1⟩:=i3 _ _ _ h4;obtain⟨lk2,es2,e2,l2⟩:=p1.arr h1;have hlen:=((JG H n).2.2 _ _ _ h4).2;have hr2:GV n H1 es2=some es':=by
      have:=p1.one (n:=n+1) (v:=.hs id es.length sz 0 es.length false) (Jo.2 ⟨lk,es,es',h1,rfl,by omega,h4,rfl⟩);rw[Jo]at this;obtain⟨lk3,es3,ws,k1,k2,k3,k4,k5⟩:=this;rw[e2]at k1;cases k1;have hlen2:=((JG H1 n).2.2 _ _ _ k4).2;simp only[Je,AV.sl.injEq,true_and]at k5;rw[DU (by omega),DU (by omega)]at k5;rw[k5];exact k4
     refine⟨H1.set id (.arr sz true es'),p1.trans (TI e2 hr2),fun l m => ?_⟩;have hl1:=(Ac.1 e2).1;have q1:(H++l)[id]? = some (.arr sz lk es):=(by rw[A9 hl];exact h1);have q2:(H1++l)[id]? = some (.arr sz lk2 es2):=(by rw[A9 hl1];exact e2);have hc2:(Nat.beq sz sz&&Nat.beq es2.length es.length)=true:=by
      simp only[Ba,Br];exact⟨trivial,l2⟩
     show snap ((m+n)+1) _ _=_;simp only[snap,q1,hc,hn,Bool.and_false,s1 l m,q2,hc2];rw[Nn _ _ hl1]
  .cases cs with
   | nil=>cases h;exact⟨H,MZ.refl H,fun l m=>rfl⟩
   | cons c cs=>
    rw[Eu]at h;obtain⟨c',cs',h1,h2,rfl⟩:=h;obtain⟨H1,p1,s1⟩:=i1 _ _ _ h1;obtain⟨H2,p2,s2⟩:=i2 _ _ _ (p1.all h2);refine⟨H2,p1.trans p2,fun l m => ?_⟩;show GY ((m+n)+1) _ _=_;simp only[GY,s1 l m,s2 l m]
  .cases es with
   | nil=>cases h;exact⟨H,MZ.refl H,fun l m=>rfl⟩
   | cons c cs=>
    rw[HF]at h;obtain⟨c',cs',h1,h2,rfl⟩:=h;obtain⟨H1,p1,s1⟩:=i2 _ _ _ h1;obtain⟨H2,p2,s2⟩:=i3 _ _ _ (p1.alls h2);refine⟨H2,p1.trans p2,fun l m => ?_⟩;show GS ((m+n)+1) _ _=_;simp only[GS,s1 l m,s2 l m]
end Go.Am
namespace Go.Proofs.Am12
open Go Go.Am Tryz
attribute [local simp] Dc Bn Ec Dd CQ Dx Dy Ey BZ Ap Bh Av Gb FR EN HO D9 A5 FN EO HP HQ xUn FC EA FT BG DQ BH EB BI EC Ce Ca Bv BL EP Eo
 ev evs C4 DP OR.ofV OR.D4 OR.ofC Fg Tm.get Tm.init Tm.only Ay A6 Bt finish CK DS Hb D3 D7 unA Bz Bc B6 Bd Cp Cq Cr Be Cs Ct Bf Cu Cv Bg B7 AL CP Bb Cn Co Bx Ez E0 E1 Dz D0 Fo F7 F8 Fp stA BA DY Bo DR FD Gp B8 C1 CI FU Gq
attribute [local simp] DE CT Cb Bl DF DG DH DI DJ DK DL Ef Cg Eg Dh FW FX Gi Di Eh Dj BQ Dk BR Dl B9 Ei Ch FY FZ Fa Ci Dm Dn Fb Gj Fc Gk Gl Dp BS Cj CA Dq Dr Ck
inductive ShL:Sh->Prop
 | bit (m:Int) (h0:1<=m) (h1:m<=16):ShL (.bit m)
 | cons (ns:List Bytes) (ss:List (List Sh)) (h1:ss.length=ns.length) (h2:0<ns.length) (h3:ns.length<=16) (h4:∀ s∈ss,s.length<=8) (h5:∀ s∈ss,∀ x∈s,ShL x):ShL (.cons ns ss)
theorem jf{l:List AK}(h:(A0 l).2=0){t:TyV}{s:Sh}(hs:DT l t s):VT l t->ShL s:=by
 have hd:=He h;induction hs with
 | bit t hb hw h2=>exact fun _=> .bit _ hw.1 hw.2
 | cons t ns ss hb hk hn hl hsp hf ih=>
  intro hv;obtain⟨c1,c2,c3⟩:=hd.con t hv hk hb;have hlen:ns.length=(AN l t).length:=by rw[hn,FB]
  have hpos:=Iv.2 c2;refine .cons ns ss (hl.trans hlen.symm) (by omega) (by omega) (fun s hs => ?_) (fun s hs x hx => ?_)
  .obtain⟨i,hi,rfl⟩:=Gt hs;rw[hsp i _ _ (AO (by omega)) (AO hi)];exact c3 _ (An (show i<(AN l t).length by omega))
  .obtain⟨i,hi,rfl⟩:=Gt hs;obtain⟨j,hj,rfl⟩:=Gt hx;have hci:=AO (l:=AN l t) (i:=i) (by omega);have hfl:=hsp i _ _ hci (AO hi);have hfj:=AO (l:=((AN l t)[i]'(by omega)).fields) (i:=j) (by omega);have hcm:=An (show i<(AN l t).length by omega);have hfm:=Bs hfj;exact ih i _ _ j _ _ hci (AO hi) hfj (AO hj) (hd.dok.fld t hv hk hb _ hcm _ hfm)
theorem _root_.Go.Am.Ka{K:Nat}{H:AE}:∀(es:List (List AV)) {P:Nat->List AV->Prop},(∀ i e,es[i]? = some e->∃ e',rbs K H e=some e'/\P i e')->∃ es',GV (K+es.length+1) H es=some es'/\es'.length=es.length/\∀ i e',es'[i]? = some e'->P i e'
 | [],P,_=>⟨[],rfl,rfl,fun i e h=>by simp at h⟩
 | e::es,P,h=>by
  obtain⟨e',h1,h2⟩:=h 0 e rfl;obtain⟨es',k1,k2,k3⟩:=Ka es (P:=fun i e=>P (i+1) e) fun i e he=>h (i+1) e (by simpa using he)
  refine⟨e'::es',?_,by simp[k2],fun i x hx => ?_⟩
  .show GV ((K+es.length+1)+1) H (e::es)=_;exact HF.2 ⟨e',es',(Il (by omega)).2.1 h1,k1,rfl⟩
  .cases i with
   | zero=>simp at hx;subst hx;exact h2
   | succ i=>exact k3 i x (by simpa using hx)
theorem a8:∀(m:Nat) (s:Sh),shD s<=m->ShL s->∀(n:Nat) (S:Nat->Prop) (H:AE) (v:AV),BT n S H v s->∃ w,rb (40 * m) H v=some w/\SrI m s w
 | 0,s,hm,_=>by cases s <;> simp[shD]at hm
 | m+1,s,hm,hL=>by
  intro n S H v hs;cases n with
  | zero=>exact hs.elim
  | succ n=>
  cases hL with
  | bit w h0 h1=>
   obtain⟨id,rfl,_,h3⟩:=hs;exact⟨_,KZ.2 ⟨false,_,_,h3,(Il (show 3<=40 * m+39 by omega)).2.1 (ws:=[.int .i64 w,.AI]) rfl,rfl⟩,rfl,h0,h1⟩
  | cons ns ss h1 h2 h3 h4 h5=>
   obtain⟨id,rfl,_,w,es,hid,hel,hsl,hw,hrow⟩:=hs;have hsp:∀ p∈ss,p.length<1048577:=fun p hp=>by have:=h4 p hp;omega
   rcases hw with⟨rfl,hnil⟩ | ⟨j,_,rfl,hj⟩
   .refine⟨_,KZ.2 ⟨false,_,_,hid,(Il (show 3<=40 * m+39 by omega)).2.1 (ws:=[.int .i64 0,.sl 2 true es]) rfl,rfl⟩,_,rfl,h1,⟨h2,by omega⟩,hsp,.inr ⟨true,es,rfl,by simp;omega,fun i c e hc he => ?_⟩⟩;obtain⟨hi,hce⟩:=Ac.1 hc;rw[GW]at hce;rw[List.length_zip]at hi;have hi:i<ns.length/\i<ss.length:=⟨by omega,by omega⟩;obtain⟨pv,rfl,hpt⟩:=hrow i e _ _ he (AO hi.1) (AO hi.2);have hp0:=hnil _ (An hi.2);subst hce;rcases hpt with⟨g1,rfl⟩ | ⟨q,ptrs,g1,_⟩
    .exact⟨.AI,rfl,.inl ⟨g1,rfl⟩⟩
    .exact absurd hp0 g1
   .obtain⟨es',k1,k2,k3⟩:=Ka (K:=40 * m+14) (H:=H) es (P:=fun i e'=>∃ nm parts pv,ns[i]? = some nm/\ss[i]? = some parts/\e'=[.str nm,pv]/\SlR (fun s ys=>∃ u,ys=[u]/\SrI m s u) 1 parts pv) (fun i e he=>by
     have hi:=(Ac.1 he).1;have g1:ns[i]? = some (ns[i]'(by omega)):=AO (by omega);have g2:ss[i]? = some (ss[i]'(by omega)):=AO (by omega);obtain⟨parts,hparts⟩:∃ parts,parts=ss[i]'(by omega):=⟨_,rfl⟩;rw[<- hparts]at g2;obtain⟨pv,rfl,hpt⟩:=hrow i e _ _ he g1 g2;have hpm:=Bs g2;have hfin:∀ pv',rb (40 * m+12) H pv=some pv'->rbs (40 * m+14) H [.str (ns[i]'(by omega)),pv]=some [.str (ns[i]'(by omega)),pv']:=fun pv' h=>
      Eu.2 ⟨_,_,(EY rfl).2 ⟨rfl,rfl⟩,Eu.2 ⟨_,_,h,rfl,rfl⟩,rfl⟩
     rcases hpt with⟨q1,rfl⟩ | ⟨q,ptrs,q1,_,rfl,q2,q3,q4⟩
     .exact⟨_,hfin .AI ((EY rfl).2 ⟨rfl,rfl⟩),_,_,.AI,g1,g2,rfl,.inl ⟨q1,rfl⟩⟩
     .have hpl:=h4 _ hpm;obtain⟨ps',r1,r2,r3⟩:=Ka (K:=40 * m+2) (H:=H) ptrs (P:=fun k e'=>∃ x u,parts[k]? = some x/\e'=[u]/\SrI m x u) (fun k p hp=>by
       have hk:=(Ac.1 hp).1;have hpk:parts[k]? = some (parts[k]'(by omega)):=AO (by omega);obtain⟨v,rfl,hv⟩:=q4 k p _ hp hpk;have hxm:=Bs hpk;have hd1:=Ms hxm hpm;have hmm:KT ss+1<=m+1:=hm;obtain⟨u,u1,u2⟩:=a8 m _ (by omega) (h5 _ hpm _ hxm) n S H v hv;exact⟨[u],Eu.2 ⟨_,_,(Il (by omega)).1 u1,rfl,rfl⟩,_,u,hpk,rfl,u2⟩)
      refine⟨_,hfin (.sl 1 false ps') (Jo.2 ⟨_,ptrs,ps',q2,q3,by omega,(Il (by omega)).2.2 r1,?_⟩),_,_,.sl 1 false ps',g1,g2,rfl,.inr ⟨false,ps',rfl,by omega,fun k x e' hx he' => ?_⟩⟩
      .rw[Je,DU (by omega)]
      .obtain⟨x',u,a1,rfl,a2⟩:=r3 k e' he';rw[hx]at a1;cases a1;exact⟨u,rfl,a2⟩)
    have hwrb:rb (40 * m+33) H (.hs j es.length 2 0 es.length false)=some (.sl 2 false es'):=by
     refine Jo.2 ⟨_,es,es',hj,rfl,by omega,(Il (by omega)).2.2 k1,?_⟩;rw[Je,DU (by omega)]
    refine⟨.ro [.int .i64 0,.sl 2 false es'],KZ.2 ⟨false,_,_,hid,Eu.2 ⟨_,_,(EY rfl).2 ⟨rfl,rfl⟩,Eu.2 ⟨_,_,(Il (show 40 * m+33<=40 * m+37 by omega)).1 hwrb,rfl,rfl⟩,rfl⟩,rfl⟩,_,rfl,h1,⟨h2,by omega⟩,hsp,.inr ⟨false,es',rfl,by simp;omega,fun i c e hc he => ?_⟩⟩;obtain⟨nm,parts,pv,a1,a2,rfl,a3⟩:=k3 i e he;obtain⟨hi,hce⟩:=Ac.1 hc;rw[GW]at hce;rw[List.length_zip]at hi;have hi:i<ns.length/\i<ss.length:=⟨by omega,by omega⟩;rw[AO hi.1]at a1;rw[AO hi.2]at a2;cases a1;cases a2;subst hce;exact⟨pv,rfl,a3⟩
theorem bA{s:Sh}(hD:shD s<=41)(hL:ShL s){n:Nat}{S:Nat->Prop}{H:AE}{v:AV}(hs:BT n S H v s):∃ w H',SrX s w/\H'.length=H.length/\∀ l,snap C0 v (H++l)=some (w,H'++l):=by
 obtain⟨w,h1,h2⟩:=a8 41 s hD hL n S H v hs;obtain⟨H',p,hsn⟩:=(RH _).1 H v w h1;exact⟨w,H',⟨41,h2⟩,p.len,fun l=>(hsn l).at (by decide)⟩
theorem bB{s:Sh}(h:ShW s):NdX s:=by
 intro n;induction n generalizing s with
 | zero=>cases s <;> exact trivial
 | succ n ih=>
  cases h with
  | bit m h0 h1=>exact trivial
  | cons ns ss h1 h2 h3 h4 h5 h6 h7=>exact⟨h6,fun parts hp x hx=>ih (h5 _ hp _ hx)⟩
theorem _root_.Go.Am.SlR.flatE{α:Type}{R:α->List AV->Prop}{sz:Nat}{l:List α}{v:AV}(h:SlR R sz l v):v.still=true/\v.flat=true:=by
 rcases h with⟨_,rfl⟩ | ⟨ex,es,rfl,_⟩ <;> exact⟨rfl,rfl⟩
theorem jg{H:AE}{c:Nat}{cs:List Ha}{cv:AV}(h:MU H c cs cv)(hl:cs.length<1048577):∃ w,rb 1048590 H cv=some w/\SlR HH 3 cs w:=by
 rcases h with⟨h1,rfl⟩ | ⟨ces,h0,rfl,h2,h3,h4⟩
 .exact⟨.AI,(EY rfl).2 ⟨rfl,rfl⟩,.inl ⟨h1,rfl⟩⟩
 .obtain⟨es',k1,k2,k3⟩:=Ka (K:=4) (H:=H) ces (P:=fun j e'=>∃ t,cs[j]? = some t/\HH t e') (fun j e he=>by
   have hj:=(Ac.1 he).1;have hcj:cs[j]? = some (cs[j]'(by omega)):=AO (by omega);have hr:=h4 j _ e hcj he;refine⟨e,?_,_,hcj,hr⟩;obtain rfl:=hr;rfl)
  refine⟨.sl 3 false es',Jo.2 ⟨false,ces,es',h2,h3,by omega,(Il (by omega)).2.2 k1,by rw[Je,DU (by omega)]⟩,.inr ⟨false,es',rfl,by omega,fun j t e a b => ?_⟩⟩;obtain⟨t',a',hr⟩:=k3 j e b;rw[a]at a';cases a';exact hr
theorem fI{O:Nat->Prop}{H:AE}{B:Nat}{nv:AV}{ns:List A2}(h:Et O H B nv ns)(hc:∀ v∈ns,v.cases.length<1048577)(hl:ns.length<=400):∃ w,rb 1050000 H nv=some w/\SlR GR 4 ns w:=by
 rcases h with⟨h1,rfl⟩ | ⟨J,es,h0,_,_,rfl,h4,h5,cid,_,_,h8⟩
 .exact⟨.AI,(EY rfl).2 ⟨rfl,rfl⟩,.inl ⟨h1,rfl⟩⟩
 .obtain⟨es',k1,k2,k3⟩:=Ka (K:=1048594) (H:=H) es (P:=fun i e'=>∃ v,ns[i]? = some v/\GR v e') (fun i e he=>by
   have hi:=(Ac.1 he).1;have hni:ns[i]? = some (ns[i]'(by omega)):=AO (by omega);obtain⟨pv,cv,rfl,g1,g2⟩:=h8 i _ e hni he;obtain⟨w,w1,w2⟩:=jg g2 (hc _ (Bs hni));obtain⟨f1,f2⟩:=g1.flatE;exact⟨_,Eu.2 ⟨_,_,(EY rfl).2 ⟨rfl,rfl⟩,Eu.2 ⟨_,_,(EY f1).2 ⟨f2,rfl⟩,Eu.2 ⟨_,_,(Il (by omega)).1 w1,Eu.2 ⟨_,_,(EY rfl).2 ⟨rfl,rfl⟩,rfl,rfl⟩,rfl⟩,rfl⟩,rfl⟩,_,hni,pv,w,rfl,g1,w2⟩)
  refine⟨.sl 4 false es',Jo.2 ⟨false,es,es',h4,h5,by omega,(Il (by omega)).2.2 k1,by rw[Je,DU (by omega)]⟩,.inr ⟨false,es',rfl,by omega,fun j t e a b => ?_⟩⟩;obtain⟨t',a',hr⟩:=k3 j e b;rw[a]at a';cases a';exact hr
theorem WE{path:List Nat}:∀{x y:Sh×KV},ShW x.1->atK path x=some y->ShW y.1:=by
 induction path with
 | nil=>intro x y hx h;cases h;exact hx
 | cons i r ih=>
  intro x y hx h;rw[atK]at h;obtain⟨z,hz,h⟩:=Gd.1 h;refine ih ?_ h;obtain⟨s,k⟩:=x;cases s with
  | bit w=>cases hz
  | cons ns ss=>
   cases k with
   | unk no=>cases hz
   | num n=>cases hz
   | con c ps=>
    simp only[JD]at hz;cases hx with
    | cons _ _ h1 h2 h3 h4 h5 h6 h7=>
    obtain⟨hi,he⟩:=Ac.1 hz;rw[GW]at he;simp at hi;subst he;have hc:c<ss.length:=by
     apply Decidable.byContradiction;intro hh;rw[PV (by omega)]at hi;simp at hi
    have hg:ss.getD c []=ss[c]:=(by simp[List.getD,AO hc]);simp only[hg];exact h5 _ (An hc) _ (An _)
theorem RI{rec:KV->Nat->Option (List A2)}:∀{kids:List ((Bytes×Int)×KV)} {b:Nat} {cs:List Ha} {ms:List A2},goF rec kids b=some (cs,ms)->cs.length=kids.length/\∀ P:A2->Prop,(∀ k b ns,rec k b=some ns->∀ v∈ns,P v)->∀ v∈ms,P v
 | [],b,cs,ms,h=>by rw[goF]at h;cases h;exact⟨rfl,fun P _ v hv=>by cases hv⟩
 | (lab,k)::r,b,cs,ms,h=>by
  rw[goF]at h;split at h
  .cases h
  .rename_i ns hns;split at h
   .cases h
   .rename_i cs' ms' hgo;cases h;obtain⟨i1,i2⟩:=RI hgo;refine⟨by simp[i1],fun P hP v hv => ?_⟩;rcases H6.1 hv with hv | hv
    .exact hP k b ns hns v hv
    .exact i2 P hP v hv
theorem TJ{arms:List TyV}{s:Sh}(hs:ShW s)(hal:arms.length<1048577):∀ n q b ns,CD arms s n q b=some ns->∀ v∈ns,v.cases.length<1048577
 | 0,_,_,_,h=>by cases h
 | n+1,q,b,ns,h=>by
  have ih:=TJ hs hal n;rw[CD]at h;split at h
  .cases h
  .split at h
   .cases h;intro v hv;simp at hv;subst hv;simp
   .split at h
    .cases h;intro v hv;simp at hv;subst hv;simp
    .rename_i a hfi _;obtain⟨path,hp⟩:∃ path,path=(FO (arms.getD a default) q).getD []:=⟨_,rfl⟩;rw[<- hp]at h;have hkl:(FP arms s q path).1.length<1048577:=by
      unfold FP;split
      .rename_i nms ss k' hat;have:=WE (x:=(s,q)) hs hat;cases this with
       | cons _ _ h1 h2 h3 h4 h5 h6 h7=>simp;omega
      .rename_i w k' hat;simp only[FB];exact Hf (Cz (MT _) (TX _ _)) hal
      .simp
     unfold Ik at h;split at h
     .cases h
     .rename_i cs ms hgo;obtain⟨g1,g2⟩:=RI hgo;have g2:=g2 _ ih;unfold RG at h;split at h
      .cases h;intro v hv;rcases CF.1 hv with rfl | hv
       .show cs.length<_;omega
       .exact g2 v hv
      .split at h
       .cases h
       .rename_i ms2 hm2;cases h;intro v hv;rcases CF.1 hv with rfl | hv
        .show cs.length<_;omega
        .rcases H6.1 hv with hv | hv
         .exact g2 v hv
         .exact ih _ _ _ hm2 v hv
theorem Kb{arms:List TyV}{s:Sh}{n:Nat}{q:KV}{b:Nat}{ns:List A2}(h:CD arms s n q b=some ns):ns≠[]:=by
 cases n with
 | zero=>cases h
 | succ n=>
  rw[CD]at h;split at h
  .cases h
  .split at h
   .cases h;simp
   .split at h
    .cases h;simp
    .unfold Ik at h;split at h
     .cases h
     .unfold RG at h;split at h
      .cases h;simp
      .split at h
       .cases h
       .cases h;simp
noncomputable def WG(k:EM):Option (List A2):=CD k.arms (CE k.data k.ty) 401 (noK (CE k.data k.ty)) 0
theorem Kx{s:Sh}{p:TyV}(h:Fm s p=0):CB s p=0/\A7 p=true:=by
 unfold Fm at h;split at h
 .cases h
 .rename_i h1;split at h
  .rename_i h2;exact⟨h2,by simpa using h1⟩
  .rename_i h2;exact absurd h h2
theorem TK{p:TyV}(h:A7 p=true):dp p<1048577:=by
 rw[LS]at h;omega
theorem c27{k:EM}{xs:List AV}(hx:D5 k xs)(hsk:SmT 1048577 k)(hE:(A8 k.data k.ty k.arms).2=0):match WG k with
 | none=>∀ h,AH MX (AG MX) 27 [.agg xs] h=some (.ret (.tup [.AI,.int .i64 8]),h)
 | some l=>∃ w,SlR GR 4 l w/\l.length<=400/\(∀ v∈l,v.cases.length<1048577)/\∀ h,AH MX (AG MX) 27 [.agg xs] h=some (.ret (.tup [w,.int .i64 0]),h):=by
 obtain⟨v,H1,h63,hold,hok⟩:=c63 hx hsk [.var false xs];obtain⟨n,S,hS,hsrt⟩:=hok hE;obtain⟨hsw,hsh,hvt,hdd⟩:=MP hsk hE;have hb0:H1[0]? = some (.var false xs):=hold 0 (by simp);have hb0l:=(Ac.1 hb0).1;obtain⟨hbo,hpos,hl12,hpat⟩:=JU hE;have hD:shD (CE k.data k.ty)<=41:=by
  obtain⟨a,b,c⟩:=GK hbo;unfold DM at hbo;rw[if_pos a]at hbo;unfold Fw at hbo;split at hbo
  .split at hbo
   .rename_i hz;have hD:=Uh k.data 40 k.ty 0 _ c hz;omega
   .rename_i hz;exact absurd hbo hz
  .rename_i hz;exact absurd hbo hz
 obtain⟨sv,H2,hsv,hl2,hsn⟩:=bA hD (jf hdd hsh hvt) hsrt;obtain⟨m,hsi⟩:=hsv;obtain⟨kv,hkv,h76⟩:=c76 m _ _ hsi;have hvh:v.AA=false:=by obtain⟨id,rfl⟩:=hsrt.hp;rfl
 obtain⟨dv,pv,av,rfl,hd,hp,ht,ha⟩:=hx.dest;obtain⟨s1,s2,s3,s4⟩:=hsk;have h76':AH MX (AG MX) 76 [v] (H1++[.var false [av,.AI,.bool false]])=some (.ret kv,H2++[.var false [av,.AI,.bool false]]):=EG (by simp[NY]) (by simp[Aq,hvh,hsn]) (by simp[SrX.AA ⟨m,hsi⟩]) (h76 _);have hB:Fz (fun x=>x=H1.length) (H2++[.var false [av,.AI,.bool false]]) H1.length av false []:=⟨rfl,fun x hx=>by subst hx;simp[hl2],.AI,by rw[<- hl2,BD],.inl ⟨rfl,rfl⟩⟩;have hno:El (noK (CE k.data k.ty))+20 * 401<=100000:=by rw[TG];decide
 obtain⟨r,O',H3,lg,new,h75,hb3,hf3,_,hlf⟩:=c75 (B:=H1.length) (av:=av) (bB hsw) ha (by omega) s4 (fun p hp=>(Kx (hpat p hp)).1) (fun p hp=>TK (Kx (hpat p hp)).2) 401 _ kv _ _ false [] hkv hno hB (fun _=>by simp);obtain⟨hr0,hlF,hlT⟩:=hlf rfl;rw[Ev]at hb3;obtain⟨_,hO3,nv,hB3,hnod⟩:=hb3;obtain⟨b1,b2⟩:∃ b1,b1=H1.length:=⟨_,rfl⟩;rw[<- b2]at h75 hB3 hnod;have hnrefs:([AV.agg [dv,.int .i64 k.ty.k,.int .i64 k.ty.v,.str k.ty.nm,pv,av]]:List AV).all AV.AA=true:=by simp[AV.AA,AF,hd.AA,hp.AA,ha.AA]
 have hac:=ha.cells;cases lg with
 | true=>
  have:=hlT rfl;rw[show WG k=none from this];exact fun h=>Ae NU YU hnrefs rfl (hr:=H3) (by simp[AJ,f27,h63,hE,hb0,<- b2,h76',h75,hB3,hac]) h
 | false=>
  have htr:=hlF rfl;rw[show WG k=some new from htr];have hcs:=TJ hsw s3 _ _ _ _ htr;have hlen:=JF _ _ _ _ _ _ htr;simp only[Jd,DW]at hlen;obtain⟨w,hw,hrep⟩:=fI hnod hcs hlen;obtain⟨H4,_,hsn4⟩:=(RH _).1 H3 nv w hw;have hsn4:=hsn4 [];rw[Hg,Hg]at hsn4;have hnvr:nv.AA=false:=by
   rcases hnod with⟨h,_⟩ | ⟨_,_,_,_,_,rfl,_⟩
   .exact absurd h (Kb htr)
   .rfl
  have hsnT:BC (1050000+4) (.tup [nv,.int .i64 0]) H3 (.tup [w,.int .i64 0]) H4:=(BC.tup (by simp[AF,hnvr]) (.cons hsn4 (.cons (.flat rfl _) (.nil _)))).mono (by simp);refine⟨w,hrep,hlen,hcs,fun h=>Jk NU YU hnrefs hsnT (by decide) (by simp[AV.AA,AF,hrep.AA]) (fun h=>by simp[AV.AA,AF,hnvr]at h) (hr:=H3) (by simp[AJ,f27,h63,hE,hb0,<- b2,h76',h75,hB3,hac]) h⟩
inductive XX:Sh->KV->List AV->Prop where
 | unk {s:Sh} {no:List Int} {nov:AV} (hn:SlR CV 1 no nov) (hb:no.length<1048577):XX s (.unk no) [.bool false,.str [],.int .i64 0,nov,.AI]
 | num {w m:Int}:XX (.bit w) (.num m) [.bool true,.str [],.int .i64 m,.AI,.AI]
 | con {ns:List Bytes} {ss:List (List Sh)} {i:Nat} {parts:List Sh} {ps:List KV} {pv:AV} (es:List (List AV)) (hi:ss[i]? = some parts) (hl:ps.length=parts.length) (hv:es.length=ps.length)
  (hp:(es=[]/\pv=.AI)\/∃ ex,pv=.sl 5 ex es) (h:∀(j:Nat) s k e,parts[j]? = some s->ps[j]? = some k->es[j]? = some e->XX s k e) :
  XX (.cons ns ss) (.con i ps) [.bool true,.str (ns.getD i []),.int .i64 0,.AI,pv]
structure TS(l:List AK)(t:TyV)(xs:List AV)(s:Sh):Prop where
 rep:AU t xs
 sm:Sm 1048577 t
 vt:VT l t
 sh:DT l t s
section
variable{l:List AK}{lv:AV}(hl:SlR Ah 3 l lv)(hsl:SmL 1048577 l)(hok:DOK l)
include hl hsl hok
omit hl hsl in
theorem TS.bit{t:TyV}{xs:List AV}{n:Int}(h:TS l t xs (.bit n)):(∀ h,AH MX (AG MX) 66 [.agg xs] h=some (.ret (.bool true),h))/\1<=n/\n<=16/\∃ a b c pv,xs=[a,b,c,pv]/\AF xs=true/\(∃ q1 q2 q3,∀ kd,ixA 4 pv (.int kd 0)=some (.ro [q1,.int .i64 n,q2,q3])):=by
 obtain⟨hx,hst,hv,hs⟩:=h;have hB:=c66 hx;have hxn:=hx.AF;cases hs with
 | bit _ hb hw h2=>
  have hb1:=hok.bit t hv hb;obtain⟨pv,rfl,hp⟩:=hx.AY;obtain⟨e,he,hR⟩:=hp.ix (i:=0) (by omega);have hag:BX t=t.ps[0]'(by omega):=by simp[BX,hb1]
  rw[<- hag]at hR;obtain⟨qv2,rfl,hq2⟩:=hR.AY;exact⟨fun h=>by rw[hB,hb],hw.1,hw.2,_,_,_,pv,rfl,hxn,_,_,_,fun kd=>he kd⟩
end
theorem Un{M:Par}{fid N:Nat}{C:CH}{ops:Array Oper}(a:List Oper):∀(b:List Oper) (t:Tm) (h:AE) (ks:List Kd),Ap M fid N C ops (a++b) t h ks=match Ap M fid N C ops a t h ks with
 | some (.done t' h' ks')=>Ap M fid N C ops b t' h' ks'
 | r=>r:=by
 induction a with
 | nil=>intro b t h ks;rfl
 | cons o r ih=>
  intro b t h ks;simp only[Ej,Ap];cases Bh ops t o with
  | none=>rfl
  | some w=>
   cases w with
   | false=>
    simp only;cases Fg N t o.dst (.tup [])with
    | none=>rfl
    | some t'=>exact ih b t' h _
   | true=>
    simp only;cases Av M fid C t o.op h with
    | none=>rfl
    | some r'=>
     cases r' with
     | pan v h'=>rfl
     | val v h'=>
      simp only;cases Fg N t o.dst v with
      | none=>rfl
      | some t'=>exact ih b t' h' _
theorem Bq{M:Par}{fid N:Nat}{C:CH}{ops:Array Oper}{l:List Oper}(k:Nat){t t':Tm}{h h':AE}{ks ks':List Kd}(h1:Ap M fid N C ops (l.take k) t h ks=some (.done t' h' ks')):Ap M fid N C ops l t h ks=Ap M fid N C ops (l.drop k) t' h' ks':=by
 have:=Un (M:=M) (fid:=fid) (N:=N) (C:=C) (ops:=ops) (l.take k) (l.drop k) t h ks;rw[QQ,h1]at this;exact this
theorem Ky{M:Par}{fid N:Nat}{C:CH}{id:Nat}{ops:Array Oper}{d:Bool}{s:Tm}{t:Tm}{h h':AE}{ks:List Kd}{l:List Nat}(h1:Ap M fid N C ops ops.toList s h []=some (.done t h' ks))(h2:d=true->Ip ops ks.reverse=true)(h3:M.keep fid id=some l):AX M fid N C (.region id ops d) (s,h)=some (.nrm,(t.only l,h')):=by
 rw[Bn];unfold BZ;simp only[h1,h3];cases d with
 | false=>rfl
 | true=>rw[h2 rfl]
def _root_.Go.Am.condT:Code->Code
 | .cond _ a _=>a
 | c=>c
def RefOK(lv tv av:AV)(k:EM)(s:Sh)(n:Nat):Prop:=
 ∀(q:KV) (kx:List AV) (w:AV) (O:Nat->Prop) (H:AE) (ns:List A2),XX s q kx->El q+20 * n<=100000->Et O H 0 w ns->(∀ x,O x->x<H.length)->0<H.length->401<=n+ns.length ->
  ∃ H' O',Frame O H O' H'/\(∀ x,O' x->x<H'.length)/\((CD k.arms s n q ns.length=none/\AH MX (AG MX) 77 [.agg [lv,.int .i64 k.ty.k,.int .i64 k.ty.v,.str k.ty.nm,tv,av],.agg kx,w] H=some (.ret (.tup [.AI,.bool false]),H')) \/
   ∃ new w',CD k.arms s n q ns.length=some new/\AH MX (AG MX) 77 [.agg [lv,.int .i64 k.ty.k,.int .i64 k.ty.v,.str k.ty.nm,tv,av],.agg kx,w] H=some (.ret (.tup [w',.bool true]),H')/\Et O' H' 0 w' (ns++new))
def LI(rec:KV->Nat->Option (List A2))(kids:List ((Bytes×Int)×KV))(ns:List A2)(path:List Nat)(O0:Nat->Prop)(H0:AE)(i:Nat)(X:AE)(w cv:AV)(ok:Bool):Prop:=
 ∃ O,Frame O0 H0 O X/\(∀ x,O x->x<X.length)/\(ok=false->goF rec kids (ns.length+1)=none) /\
  (ok=true->∃ c cs ms,Et O X 0 w (ns++⟨-1,DX path,[],-1⟩::ms)/\MU X c cs cv/\(cs≠[]->¬ O c/\H0.length<=c/\c<X.length)/\cs.length=i/\ns.length+1+ms.length<=400/\goF rec kids (ns.length+1)=(goF rec (kids.drop i) (ns.length+1+ms.length)).map fun x=>(cs++x.1,ms++x.2))
theorem LI.kid{lv tv av:AV}{k:EM}{s:Sh}{n:Nat}(hC:RefOK lv tv av k s n){kids:List ((Bytes×Int)×KV)}{ns:List A2}{path:List Nat}{O0:Nat->Prop}{H0:AE}(h00:0<H0.length){i:Nat}{X:AE}{w cv:AV}(h:LI (CD k.arms s n) kids ns path O0 H0 i X w cv true)(hi:i<kids.length)(hkl:kids.length<1048577)
 {kx:List AV} (hu:XX s kids[i].2 kx) (hno:El kids[i].2+20 * n<=100000) (hn:401<=n+1+ns.length) :
 ∃(m:Nat) (cv':AV) (X1:AE) (w':AV) (b:Bool) (X2:AE),(∀ H,Bi w H=some (.val (.int .i64 m) H))/\apA 3 32 cv (.sl 3 true [[.str kids[i].1.1,.int .i64 kids[i].1.2,.int .i64 m]]) X=some (cv',X1)/\cv'.cells=some [cv']/\X.length<=X1.length/\(∀ x,x<H0.length->¬ O0 x->X1[x]? = X[x]?) /\
  AH MX (AG MX) 77 [.agg [lv,.int .i64 k.ty.k,.int .i64 k.ty.v,.str k.ty.nm,tv,av],.agg kx,w] X1=some (.ret (.tup [w',.bool b]),X2)/\LI (CD k.arms s n) kids ns path O0 H0 (i+1) X2 w' cv' b:=by
 obtain⟨O,hf,hO,_,ht⟩:=h;obtain⟨c,cs,ms,hnod,hcas,hcc,hcl,hm4,hgo⟩:=ht rfl;have hlen:(ns++⟨-1,DX path,[],-1⟩::ms:List A2).length=ns.length+1+ms.length:=by simp;omega
 obtain⟨m,hm⟩:∃ m,m=ns.length+1+ms.length:=⟨_,rfl⟩;rw[<- hm]at hlen hgo;obtain⟨c',cv',X1,k1,k2,k3,k4,k5⟩:=hcas.push (by omega) ⟨kids[i].1.1,kids[i].1.2,m⟩ true;have hc':¬ O c'/\H0.length<=c'/\c'<X1.length/\∀ x,x<X.length->x≠c'->X1[x]? = X[x]? := by
  rcases k5 with⟨_,e,h1,h2⟩ | ⟨h0,e,h1,h2⟩
  .subst e;exact⟨fun h=>by have:=hO _ h;omega,hf.1,h1,fun x hx _=>h2 x hx⟩
  .subst e;obtain⟨g1,g2,g3⟩:=hcc h0;exact⟨g1,g2,by omega,fun x _ hx=>h2 x hx⟩
 obtain⟨d1,d2,d3,d4⟩:=hc';have hnod1:Et O X1 0 w (ns++⟨-1,DX path,[],-1⟩::ms):=hnod.mono (fun _ h=>h) fun x hx _=>d4 x (hO x hx) (fun e=>d1 (e ▸ hx))
 have hf1:Frame O0 H0 O X1:=⟨Cz hf.1 k4,hf.2.1,hf.2.2.1,fun x h1 h2=>by
  rw[d4 x (Jb h1 hf.1) (fun e=>by omega)];exact hf.2.2.2 x h1 h2⟩
 obtain⟨X2,O2,hf2,hO2,hres⟩:=hC kids[i].2 kx w O X1 _ hu hno hnod1 (fun x hx=>Jb (hO x hx) k4) (by have:=hf.1;omega) (by rw[hlen];omega);rw[hlen]at hres;have hlw:=hnod.len;rw[hlen]at hlw;have hkeep:∀ x,x<H0.length->¬ O0 x->X1[x]? = X[x]? := fun x h1 h2=>d4 x (Jb h1 hf.1) (fun e=>by omega)
 rcases hres with⟨ht0,hcall⟩ | ⟨new,w',ht0,hcall,hnod2⟩
 .refine⟨m,cv',X1,_,false,X2,hlw,k1,k3,k4,hkeep,hcall,O2,hf1.trans hf2,hO2,fun _ => ?_,fun h=>by cases h⟩;rw[hgo,MV hi,ht0];rfl
 .have hnl:=JF k.arms s n _ _ _ ht0;rw[CO,Ej]at hnod2;refine⟨m,cv',X1,w',true,X2,hlw,k1,k3,k4,hkeep,hcall,O2,hf1.trans hf2,hO2,(fun h=>by cases h),fun _=>⟨c',cs++[⟨kids[i].1.1,kids[i].1.2,m⟩],ms++new,hnod2,k2.mono fun _=>hf2.2.2.2 c' d3 d1,fun _=>⟨fun h => ?_,d2,Jb d3 hf2.1⟩,by simp[hcl],by simp;omega,?_⟩⟩
  .rcases hf2.2.2.1 c' h with h | h
   .exact d1 h
   .omega
  .rw[hgo,MV hi,ht0];simp only;have e1:ns.length+1+(ms++new).length=m+new.length:=(by simp;omega);rw[e1];cases goF (CD k.arms s n) (kids.drop (i+1)) (m+new.length)with
   | none=>rfl
   | some x=>simp
def Uo(base:Nat)(X:AE)(nv:AV)(no:List Int):Prop:=(no=[]/\nv=.sl 1 true [])\/∃ c lk,no≠[]/\base<=c/\nv=.hs c no.length 1 0 no.length false/\X[c]? = some (.arr 1 lk (DA no))
theorem NS{l:List Int}{es:List (List AV)}(h1:es.length=l.length)(h2:∀(i:Nat) a e,l[i]? = some a->es[i]? = some e->CV a e):es=DA l:=by
 apply Mc (by rw[D1,h1]);intro i a b;have hl:i<l.length:=by omega
 have:=h2 i _ _ (AO hl) (AO a);rw[this];simp[DA]
theorem Uo.args{base:Nat}{X:AE}{nv:AV}{no:List Int}(h:Uo base X nv no):∃ nv' X',SlR CV 1 no nv'/\X'.length=X.length/\(∀ x,x<base->X'[x]? = X[x]?)/\(∀(x:Nat) (cs:List AV) (b:Bool),X[x]? = some (.var b cs)->X'[x]? = some (.var b cs))/\Uo base X' nv no/\(∀ a,a.AA=true->Aq [a,.agg [.bool false,.str [],.int .i64 0,nv,.AI]] X=some ([a,.agg [.bool false,.str [],.int .i64 0,nv',.AI]],X'))/\∀ a b,a.AA=true->b.AA=true->Aq [a,b,.agg [.bool false,.str [],.int .i64 0,nv,.AI]] X=some ([a,b,.agg [.bool false,.str [],.int .i64 0,nv',.AI]],X'):=by
 rcases h with⟨rfl,rfl⟩ | ⟨c,lk,h0,hb,rfl,hc⟩
 .refine⟨.sl 1 true [],X,.inr ⟨true,[],rfl,rfl,fun i a e h=>by simp at h⟩,rfl,fun _ _=>rfl,fun _ _ _ h=>h,.inl ⟨rfl,rfl⟩,fun a ha=>by simp[Aq,ha,AV.AA,AF],fun a b ha hb=>by simp[Aq,ha,hb,AV.AA,AF]⟩
 .have hn:(DA no).all AF=true:=by
   rw[ER];intro e he;obtain⟨x,_,rfl⟩:=E3.1 he;rfl
  have hcl:=(Ac.1 hc).1;have hcond:(Nat.beq (DA no).length no.length&&Nat.beq 1 1&&Nat.ble (0+no.length) (DA no).length&&(DA no).all AF)=true:=by
   rw[D1,hn];simp only[Ba,Br,HR];exact⟨⟨⟨trivial,trivial⟩,by omega⟩,trivial⟩
  have e1:((DA no).drop 0).take no.length=DA no:=by rw[Je];exact DU (by rw[D1];omega)
  have hsn:BC 1 (.hs c no.length 1 0 no.length false) X (.sl 1 false (DA no)) (X.set c (.arr 1 true (DA no))):=fun n=>by simp only[Am.snap,hc,hcond,e1]
  have hag:snap C0 (.agg [.bool false,.str [],.int .i64 0,.hs c no.length 1 0 no.length false,.AI]) X=some (.agg [.bool false,.str [],.int .i64 0,.sl 1 false (DA no),.AI],X.set c (.arr 1 true (DA no))):=(BC.agg (by simp[AF,AV.AA]) (.cons (.flat rfl _) (.cons (.flat rfl _) (.cons (.flat rfl _) (.cons hsn (.cons (.flat rfl _) (.nil _))))))).at (by decide);refine⟨.sl 1 false (DA no),X.set c (.arr 1 true (DA no)),.inr ⟨false,DA no,rfl,D1 no,fun i a e ha he => ?_⟩,by simp,fun x hx=>BP (by omega),fun x cs b hx => ?_,.inr ⟨c,true,h0,hb,rfl,CM hcl⟩,fun a ha=>by simp[Aq,ha,AV.AA,AF,hag],fun a b ha hb=>by simp[Aq,ha,hb,AV.AA,AF,hag]⟩
  .simp only[DA,Fe,ha,FM,AM]at he;exact he.symm
  .by_cases hcx:c=x
   .subst hcx;rw[hc]at hx;cases hx
   .rw[BP hcx];exact hx
theorem _root_.Go.Am.jh{M:Par}{fid N:Nat}{C:CH}{c:Operand}{a b:Code}{t:Tm}{h:AE}{r:Option (Ex×St)}(hc:ev t c=some (.bool false))(h1:AX M fid N C b (t,h)=r):AX M fid N C (.cond c a b) (t,h)=r:=by
 rw[Dd];simp only[hc];exact h1
inductive NmX:Sh->Prop
 | bit (m:Int):NmX (.bit m)
 | cons (ns:List Bytes) (ss:List (List Sh)) (h1:∀ n∈ns,n≠[]) (h2:∀ s∈ss,∀ x∈s,NmX x):NmX (.cons ns ss)
theorem ji{l:List AK}(hd:(A0 l).2=0){t:TyV}{s:Sh}(hs:DT l t s):NmX s:=by
 induction hs with
 | bit t hb hw h2=>exact .bit _
 | cons t ns ss hb hk hn hl hsp hf ih=>
  have h0:DT l t (.cons ns ss):=.cons t ns ss hb hk hn hl hsp hf;refine .cons ns ss (fun n hm => ?_) (fun s hs x hx => ?_)
  .obtain⟨i,hi⟩:∃ i,ns.findIdx? (fun x=>x == n)=some i:=by
    cases h:ns.findIdx? (fun x=>x == n)with
    | some i=>exact⟨i,rfl⟩
    | none=>
     rw[Nh]at h;have:=h n hm;simp at this
   exact h0.name hd hi
  .obtain⟨i,hi,rfl⟩:=Gt hs;obtain⟨j,hj,rfl⟩:=Gt hx;have hci:=AO (l:=AN l t) (i:=i) (by omega);have hfl:=hsp i _ _ hci (AO hi);have hfj:=AO (l:=((AN l t)[i]'(by omega)).fields) (i:=j) (by omega);exact ih i _ _ j _ _ hci (AO hi) hfj (AO hj)
inductive KF:Sh->KV->TyV->Prop
 | unk {s:Sh} {no:List Int} {u:TyV} (hu:u∈Cw s) (hn:∀ w,s=.bit w->u.v ∉ no/\no.Nodup/\∀ x∈no,0<=x/\x<((2 ^ w.toNat:Nat):Int)):KF s (.unk no) u
 | num {w m:Int} (hu: .mk 0 m [] []∈Cw (.bit w)):KF (.bit w) (.num m) (.mk 0 m [] [])
 | con {ns:List Bytes} {ss:List (List Sh)} {i:Nat} {parts:List Sh} {qs:List KV} {us:List TyV} (hi:ss[i]? = some parts) (hl:qs.length=parts.length) (hl2:us.length=parts.length) (h:∀(j:Nat) s q u,parts[j]? = some s->qs[j]? = some q->us[j]? = some u->KF s q u):KF (.cons ns ss) (.con i qs) (.mk 0 0 (ns.getD i []) us)
theorem KF.dest{s:Sh}{i:Nat}{qs:List KV}{u:TyV}(h:KF s (.con i qs) u):∃ ns ss parts us,s=.cons ns ss/\u=.mk 0 0 (ns.getD i []) us/\ss[i]? = some parts/\qs.length=parts.length/\us.length=parts.length/\∀(j:Nat) s q u,parts[j]? = some s->qs[j]? = some q->us[j]? = some u->KF s q u:=by
 cases h with
 | con hi hl hl2 h=>exact⟨_,_,_,_,rfl,rfl,hi,hl,hl2,h⟩
theorem bitV{w:Int}{u:TyV}(h:u∈Cw (.bit w)):∃ i:Nat,i<2 ^ w.toNat/\u=.mk 0 i [] []:=by
 simp only[Cw,E3,Ia]at h;obtain⟨i,hi,rfl⟩:=h;exact⟨i,hi,rfl⟩
theorem conV{ns:List Bytes}{ss:List (List Sh)}(hl:ss.length=ns.length){u:TyV}(h:u∈Cw (.cons ns ss)):∃ i parts us,i<ns.length/\ss[i]? = some parts/\u=.mk 0 0 (ns.getD i []) us/\us.length=parts.length/\∀(j:Nat) s u,parts[j]? = some s->us[j]? = some u->u∈Cw s:=by
 obtain⟨i,h1,h2,ps,hps,rfl⟩:=Kr ns ss u hl h;obtain⟨p1,p2⟩:=JA _ _ hps;exact⟨i,ss[i],ps,h1,AO h2,by simp[List.getD,AO h1],p1,p2⟩
theorem gN{s:Sh}(hs:ShW s):∀ u∈Cw s,KF s (noK s) u:=by
 induction hs with
 | bit m h0 h1=>exact fun u hu=> .unk hu fun w _=>⟨by simp,List.nodup_nil,fun x hx=>by cases hx⟩
 | cons ns ss h1 h2 h3 h4 h5 h6 h7 ih=>
  intro u hu;by_cases h:ss.length=1
  .obtain⟨p,rfl⟩:∃ p,ss=[p]:=by
    match ss,h with
    | [p],_=>exact⟨p,rfl⟩
   obtain⟨i,parts,us,g1,g2,rfl,g3,g4⟩:=conV h1 hu;have hi0:i=0:=by
    have:=(Ac.1 g2).1;simp at this;omega
   subst hi0;have hp:p=parts:=(by simpa using g2);subst hp;rw[noK,V9,MR];refine .con g2 (by simp) g3 fun j s q u a b c => ?_
   rw[Fe,a]at b;cases b;exact ih p (by simp) s (Bs a) u (g4 j s u a c)
  .have hno:noK (.cons ns ss)=.unk []:=by
    match ss,h with
    | [],_=>rfl
    | _::_::_,_=>rfl
   rw[hno];exact .unk hu fun w e=>by cases e
theorem fJ{ns:List Bytes}{ss:List (List Sh)}(hs:ShW (.cons ns ss)){u:TyV}(hu:u∈Cw (.cons ns ss)):∃ i,i<ss.length/\i<ns.length/\u.nm=ns.getD i []/\KF (.cons ns ss) (.con i ((ss.getD i []).map noK)) u:=by
 cases hs with
 | cons _ _ h1 h2 h3 h4 h5 h6 h7=>
 obtain⟨i,parts,us,g1,g2,rfl,g3,g4⟩:=conV h1 hu;have hgp:ss.getD i []=parts:=by simp[List.getD,g2]
 refine⟨i,by omega,g1,rfl,?_⟩;rw[hgp];refine .con g2 (by simp) g3 fun j s q u a b c => ?_
 rw[Fe,a]at b;cases b;exact gN (h5 _ (Bs g2) _ (Bs a)) u (g4 j s u a c)
theorem Ma:∀(N:Nat) (l:List Int),l.Nodup->(∀ x∈l,0<=x/\x<(N:Int))->l.length<=N
 | 0,l,_,h=>by
  cases l with
  | nil=>simp
  | cons a l=>
   have:=h a (by simp);omega
 | N+1,l,hn,h=>by
  by_cases hm:(N:Int)∈l
  .have h1:=Ma N (l.erase (N:Int)) (hn.erase _) fun x hx=>by
    rw[hn.mem_erase_iff]at hx;have:=h x hx.2;omega
   rw[List.length_erase_of_mem hm]at h1;omega
  .have h1:=Ma N l hn fun x hx=>by
    have:=h x hx;have hne:x≠N:=fun e=>hm (e ▸ hx)
    omega
   omega
theorem JH{f:TyV->Sh->KV->Bool}:∀{ps:List TyV} {ss:List Sh} {ks:List KV},ps.length=ss.length->ks.length=ss.length->(HD f ps ss ks=true↔∀(j:Nat) p s k,ps[j]? = some p->ss[j]? = some s->ks[j]? = some k->f p s k=true)
 | [],_,_,_,_=>by simp[HD]
 | p::ps,s::ss,k::ks,h1,h2=>by
  have ih:=JH (f:=f) (ps:=ps) (ss:=ss) (ks:=ks) (by simpa using h1) (by simpa using h2);rw[HD,Ba];simp only[Ll,Lo];rw[ih];constructor
  .rintro⟨a,b⟩ j p' s' k' e1 e2 e3;cases j with
   | zero=>simp at e1 e2 e3;subst e1;subst e2;subst e3;exact a
   | succ j=>exact b j p' s' k' (by simpa using e1) (by simpa using e2) (by simpa using e3)
  .exact fun h=>⟨h 0 p s k rfl rfl rfl,fun j p' s' k' e1 e2 e3=>h (j+1) p' s' k' (by simpa using e1) (by simpa using e2) (by simpa using e3)⟩
 | _::_,[],_,h,_=>by simp at h
 | _::_,_::_,[],_,h=>by simp at h
theorem Lc:∀{ps us:List TyV},us.length=ps.length->(HC ps us=true↔∀(j:Nat) p u,ps[j]? = some p->us[j]? = some u->C6 p u=true)
 | [],_,_=>by simp[HC]
 | p::ps,u::us,h=>by
  have ih:=Lc (ps:=ps) (us:=us) (by simpa using h);rw[HC,Ba];simp only[Ll,Lo];rw[ih];constructor
  .rintro⟨a,b⟩ j p' u' e1 e2;cases j with
   | zero=>simp at e1 e2;subst e1;subst e2;exact a
   | succ j=>exact b j p' u' (by simpa using e1) (by simpa using e2)
  .exact fun h=>⟨h 0 p u rfl rfl,fun j p' u' e1 e2=>h (j+1) p' u' (by simpa using e1) (by simpa using e2)⟩
 | _::_,[],h=>by simp at h
theorem bC{v:Int}{nm n2:Bytes}{ps us:List TyV}:C6 (.mk 2 v nm ps) (.mk 0 0 n2 us)=((n2 == nm)&&(decide (us.length=ps.length)&&HC ps us)):=by
 rw[C6];rw[if_neg (by decide),if_pos rfl];rfl
theorem TL(p:TyV):∀(s:Sh) (q:KV) (u:TyV),KF s q u->ShW s->CB s p=0->(Dv p s q=false->C6 p u=false)/\(D2 p s q=true->C6 p u=true):=by
 induction p using TyV.ind with
 | h k v nm ps ih=>
  intro s q u hk hsw hpe;rcases Hs hpe with⟨rfl,rfl⟩ | ⟨rfl,rfl⟩ | ⟨rfl,rfl,n,rfl⟩ | ⟨rfl,_⟩
  .exact⟨fun h=>by simp[Dv]at h,fun _=>by simp[C6]⟩
  .exact⟨fun h=>by simp[Dv]at h,fun _=>by simp[C6]⟩
  .have hv:0<=v/\v<((2 ^ n.toNat:Nat):Int):=by
    have e:((2 ^ n.toNat:Nat):Int)=(2:Int) ^ n.toNat:=(by simp);rw[e];simp[CB]at hpe;omega
   cases hk with
   | unk hu hn=>
    rename_i no;obtain⟨h1,h2,h3⟩:=hn n rfl;obtain⟨i,hi,rfl⟩:=bitV hu;have hfit:C6 (.mk 3 v nm []) (.mk 0 i [] [])=decide ((i:Int)=v):=by
     simp[C6];rfl
    rw[hfit];constructor
    .intro h;have hm:Dv (.mk 3 v nm []) (.bit n) (.unk no) = !no.contains v:=(by simp[Dv,Ui]);rw[hm]at h;have hvn:v∈no:=Nl.1 (by simpa using h);rw[decide_eq_false_iff_not];rintro rfl;exact h1 hvn
    .intro h;have hm:D2 (.mk 3 v nm []) (.bit n) (.unk no)=((JC n (.unk no) == 1) && !no.contains v):=(by simp[D2,XV,oneK]);rw[hm,Ba]at h;obtain⟨g1,g2⟩:=h;have g1:JC n (.unk no)=1:=(by simpa using g1);have hvn:v ∉ no:=fun hm=>by
      rw[Nl.2 hm]at g2;cases g2
     rw[decide_eq_true_iff];apply Decidable.byContradiction;intro hne;have:=Ma (2 ^ n.toNat) ((i:Int)::v::no) (Me.2 ⟨by simp[hne];exact h1,Me.2 ⟨hvn,h2⟩⟩) fun x hx=>by
      rcases CF.1 hx with rfl | hx
      .omega
      .rcases CF.1 hx with rfl | hx
       .exact hv
       .exact h3 x hx
     simp only[JC,Gc]at g1;simp only[DC]at this;omega
   | num hu=>
    rename_i m;have hfit:C6 (.mk 3 v nm []) (.mk 0 m [] [])=decide (m=v):=by
     simp[C6];rfl
    have hm1:Dv (.mk 3 v nm []) (.bit n) (.num m)=(m == v):=(by simp[Dv,Ui]);have hm2:D2 (.mk 3 v nm []) (.bit n) (.num m)=(m == v):=(by simp[D2,XV]);rw[hfit,hm1,hm2];exact⟨fun h=>by simpa using h,fun h=>by simpa using h⟩
  .obtain⟨ns,ss,j,rfl,hj,hpl,hpes⟩:=F6 hpe;cases q with
   | num n=>cases hk
   | unk no=>exact⟨fun h=>by simp[Dv,Jm]at h,fun h=>by simp[D2,Jm]at h⟩
   | con i qs=>
    obtain⟨ns',ss',parts,us,e1,rfl,hi,hl,hl2,hkf⟩:=hk.dest;cases e1;have hss:ss.length=ns.length/\(∀ s∈ss,∀ x∈s,ShW x)/\ns.Nodup:=by
     cases hsw with
     | cons _ _ h1 h2 h3 h4 h5 h6 h7=>exact⟨h1,h5,h6⟩
    have hil:=(Ac.1 hi).1;have hgp:ss.getD i []=parts:=(by simp[List.getD,hi]);have hm1:Dv (.mk 2 v nm ps) (.cons ns ss) (.con i qs)=((ns.getD i [] == nm)&&HD Dv ps parts qs):=(by simp[Dv,Jm,Ku,List.getD,hi]);have hm2:D2 (.mk 2 v nm ps) (.cons ns ss) (.con i qs)=((ns.getD i [] == nm)&&HD D2 ps parts qs):=(by simp[D2,Jm,JX,List.getD,hi]);rw[hm1,hm2,bC];cases hnm:ns.getD i [] == nm with
    | false=>simp
    | true=>
     have hnm':ns.getD i []=nm:=(by simpa using hnm);have hij:i=j:=Ds hss.2.2 hj (by omega) hnm';subst hij;rw[hgp]at hpl hpes;have hlu:decide (us.length=ps.length)=true:=(by rw[decide_eq_true_iff];omega);rw[hlu];simp only[Jf];have each:∀(j:Nat) p s q u,ps[j]? = some p->parts[j]? = some s->qs[j]? = some q->us[j]? = some u->(Dv p s q=false->C6 p u=false)/\(D2 p s q=true->C6 p u=true):=fun j p s q u a b c d=>
      ih p (Bs a) s q u (hkf j s q u b c d) (hss.2.1 _ (Bs hi) _ (Bs b)) ((Es hpl).1 hpes j s p b a)
     constructor
     .intro h;rw[No];intro hf;rw[Lc (by omega)]at hf;have:HD Dv ps parts qs=true:=(JH hpl (by omega)).2 fun j p s q a b c=>by
       have hju:j<us.length:=by
        have:=(Ac.1 b).1;omega
       have d:=AO hju;cases hmm:Dv p s q with
       | true=>rfl
       | false=>
        have:=(each j p s q _ a b c d).1 hmm;rw[hf j p _ a d]at this;cases this
      rw[this]at h;cases h
     .intro h;rw[Lc (by omega)];intro j p u a d;have hjp:j<parts.length:=by
       have:=(Ac.1 d).1;omega
      have b:=AO hjp;have c:=AO (l:=qs) (i:=j) (by omega);exact(each j p _ _ u a b c d).2 ((JH hpl (by omega)).1 h j p _ _ a b c)
theorem PC{u:TyV}{i:Nat}{r:List Int}(h:i<u.ps.length):Gw u ((i:Int)::r)=Gw u.ps[i] r:=by
 rw[Gw,if_pos ⟨by omega,by omega⟩];simp[List.getD,AO h]
theorem gO:∀{path:List Nat} {x y:Sh×KV} {u:TyV},KF x.1 x.2 u->atK path x=some y->∃ u',Gw u (DX path)=some u'/\KF y.1 y.2 u'
 | [],x,y,u,hk,h=>by cases h;exact⟨u,rfl,hk⟩
 | i::r,(s,k),y,u,hk,h=>by
  rw[atK]at h;obtain⟨z,hz,hzz⟩:=Gd.1 h;cases k with
  | unk no=>cases s <;> cases hz
  | num n=>cases s <;> cases hz
  | con c qs=>
   obtain⟨ns,ss,parts,us,rfl,rfl,hi,hl,hl2,hkf⟩:=KF.dest hk;simp only[JD,List.getD,hi,GG]at hz;rw[QN]at hz;have hil:i<us.length:=by
    have:=(Ac.1 hz.1).1;omega
   obtain⟨u',h1,h2⟩:=gO (path:=r) (x:=z) (hkf i z.1 z.2 us[i] hz.1 hz.2 (AO hil)) hzz;refine⟨u',?_,h2⟩;show Gw _ ((i:Int)::DX r)=_;rw[PC (u:=.mk 0 0 (ns.getD c []) us) hil];exact h1
theorem Ng{own:KV}:∀{path:List Nat} {x y:Sh×KV} {u u':TyV},KF x.1 x.2 u->atK path x=some y->Gw u (DX path)=some u'->KF y.1 own u'->KF x.1 (Gv path x.2 own) u
 | [],x,y,u,u',hk,h,hp,ho=>by
  cases h;have:u=u':=by
   have:some u=some u':=hp;exact Option.some.inj this
  subst this;exact ho
 | i::r,(s,k),y,u,u',hk,h,hp,ho=>by
  rw[atK]at h;obtain⟨z,hz,hzz⟩:=Gd.1 h;cases k with
  | unk no=>cases s <;> cases hz
  | num n=>cases s <;> cases hz
  | con c qs=>
   obtain⟨ns,ss,parts,us,rfl,rfl,hi,hl,hl2,hkf⟩:=KF.dest hk;simp only[JD,List.getD,hi,GG]at hz;rw[QN]at hz;have hip:=(Ac.1 hz.1).1;have hiq:=(Ac.1 hz.2).1;have hil:i<us.length:=(by omega);have hp':Gw us[i] (DX r)=some u':=by
    have:Gw (.mk 0 0 (ns.getD c []) us) ((i:Int)::DX r)=some u':=hp
    rwa [PC (u:=.mk 0 0 (ns.getD c []) us) hil]at this
   have hrec:=Ng (own:=own) (path:=r) (x:=z) (hkf i z.1 z.2 us[i] hz.1 hz.2 (AO hil)) hzz hp' ho;rw[Gv];have hgd:qs.getD i default=z.2:=(by simp[List.getD,hz.2]);rw[hgd];refine .con hi (by simpa using hl) hl2 fun j s q u a b c => ?_
   by_cases hj:j=i
   .subst hj;rw[CM hiq]at b;cases b;rw[hz.1]at a;cases a;rw[AO hil]at c;cases c;exact hrec
   .rw[BP (fun e=>hj e.symm)]at b;exact hkf j s q u a b c
theorem PD:∀{ps:List TyV} {qs:List KV} {i:Nat},ps.length<=qs.length->GN ps qs i=none->∀(j:Nat) p q,ps[j]? = some p->qs[j]? = some q->FO p q=none
 | [],_,_,_,_=>fun j p q h=>by simp at h
 | p::ps,[],_,hl,_=>by simp at hl
 | p::ps,q::qs,i,hl,h=>by
  rw[GN]at h;split at h
  .cases h
  .rename_i hn;intro j p' q' h1 h2;cases j with
   | zero=>simp at h1 h2;subst h1;subst h2;exact hn
   | succ j=>exact PD (by simpa using hl) h j p' q' (by simpa using h1) (by simpa using h2)
theorem bD(p:TyV):∀(s:Sh) (q:KV) (u:TyV),KF s q u->ShW s->CB s p=0->Dv p s q=true->FO p q=none->D2 p s q=true:=by
 induction p using TyV.ind with
 | h k v nm ps ih=>
  intro s q u hk hsw hpe hmay ha;rcases Hs hpe with⟨rfl,rfl⟩ | ⟨rfl,rfl⟩ | ⟨rfl,rfl,n,rfl⟩ | ⟨rfl,_⟩
  .simp[D2]
  .simp[D2]
  .cases hk with
   | unk hu hn=>simp[FO,QG]at ha
   | num hu=>
    rename_i m;have hm1:Dv (.mk 3 v nm []) (.bit n) (.num m)=(m == v):=(by simp[Dv,Ui]);have hm2:D2 (.mk 3 v nm []) (.bit n) (.num m)=(m == v):=(by simp[D2,XV]);rw[hm2,<- hm1];exact hmay
  .obtain⟨ns,ss,j,rfl,hj,hpl,hpes⟩:=F6 hpe;cases q with
   | num n=>cases hk
   | unk no=>simp[FO,O8]at ha
   | con i qs=>
    obtain⟨ns',ss',parts,us,e1,rfl,hi,hl,hl2,hkf⟩:=hk.dest;cases e1;have hss:ss.length=ns.length/\(∀ s∈ss,∀ x∈s,ShW x)/\ns.Nodup:=by
     cases hsw with
     | cons _ _ h1 h2 h3 h4 h5 h6 h7=>exact⟨h1,h5,h6⟩
    obtain⟨hm1,hm2⟩:=JE hmay;have hil:=(Ac.1 hi).1;have hgp:ss.getD i []=parts:=(by simp[List.getD,hi]);have hij:i=j:=Ds hss.2.2 hj (by omega) hm1;subst hij;rw[hgp]at hpl hpes hm2;have hsm:D2 (.mk 2 v nm ps) (.cons ns ss) (.con i qs)=((ns.getD i [] == nm)&&HD D2 ps parts qs):=(by simp[D2,Jm,JX,List.getD,hi]);have hak:GN ps qs 0=none:=(by simpa[FO,O8]using ha);rw[hsm,hm1];simp only[beq_self_eq_true,Jf];refine(JH hpl (by omega)).2 fun j p s q a b c => ?_
    have d:=AO (l:=us) (i:=j) (by have:=(Ac.1 b).1;omega);exact ih p (Bs a) s q _ (hkf j s q _ b c d) (hss.2.1 _ (Bs hi) _ (Bs b)) ((Es hpl).1 hpes j s p b a) ((JH hpl (by omega)).1 hm2 j p s q a b c) (PD (by omega) hak j p q a c)
theorem fK(p:TyV):∀(s:Sh) (q:KV) (u:TyV) (path:List Nat),KF s q u->ShW s->CB s p=0->Dv p s q=true->FO p q=some path->∃ s' no,atK path (s,q)=some (s',.unk no)/\∀ w,s'=.bit w->(nAt path p).2=true/\no.contains (nAt path p).1=false:=by
 induction p using TyV.ind with
 | h k v nm ps ih=>
  intro s q u path hk hsw hpe hmay ha;rcases Hs hpe with⟨rfl,rfl⟩ | ⟨rfl,rfl⟩ | ⟨rfl,rfl,n,rfl⟩ | ⟨rfl,_⟩
  .simp[FO]at ha
  .simp[FO]at ha
  .cases hk with
   | num hu=>simp[FO,QG]at ha
   | unk hu hn=>
    rename_i no;have hp:path=[]:=(by simpa[FO,QG]using ha);subst hp;have hm:Dv (.mk 3 v nm []) (.bit n) (.unk no) = !no.contains v:=(by simp[Dv,Ui]);rw[hm]at hmay;exact⟨_,no,rfl,fun w _=>⟨by simp[nAt,TyV.k],by simpa[nAt,TyV.v]using hmay⟩⟩
  .obtain⟨ns,ss,j,rfl,hj,hpl,hpes⟩:=F6 hpe;cases q with
   | num n=>cases hk
   | unk no=>
    have hp:path=[]:=(by simpa[FO,O8]using ha);subst hp;exact⟨_,no,rfl,fun w e=>by cases e⟩
   | con i qs=>
    obtain⟨ns',ss',parts,us,e1,rfl,hi,hl,hl2,hkf⟩:=hk.dest;cases e1;have hss:ss.length=ns.length/\(∀ s∈ss,∀ x∈s,ShW x)/\ns.Nodup:=by
     cases hsw with
     | cons _ _ h1 h2 h3 h4 h5 h6 h7=>exact⟨h1,h5,h6⟩
    obtain⟨hm1,hm2⟩:=JE hmay;have hil:=(Ac.1 hi).1;have hgp:ss.getD i []=parts:=(by simp[List.getD,hi]);have hij:i=j:=Ds hss.2.2 hj (by omega) hm1;subst hij;rw[hgp]at hpl hpes hm2;have hak:GN ps qs 0=some path:=(by simpa[FO,O8]using ha);obtain⟨m,p',q',r,h1,h2,h3,rfl⟩:=Lb (by omega) hak;rw[DW];have hmp:=(Ac.1 h1).1;have hsm:=AO (l:=parts) (i:=m) (by omega);have hum:=AO (l:=us) (i:=m) (by omega);obtain⟨s',no,g1,g2⟩:=ih p' (Bs h1) _ q' _ r (hkf m _ q' _ hsm h2 hum) (hss.2.1 _ (Bs hi) _ (Bs hsm)) ((Es hpl).1 hpes m _ p' hsm h1) ((JH hpl (by omega)).1 hm2 m p' _ q' h1 hsm h2) h3;refine⟨s',no,?_,fun w e => ?_⟩
    .rw[atK];simp only[JD,hgp];rw[show(parts.zip qs)[m]? = some (parts[m]'(by omega),q')from QN.2 ⟨hsm,h2⟩];exact g1
    .have:=g2 w e;rw[nAt,if_pos ⟨rfl,hmp⟩];have hgd:(TyV.mk 2 v nm ps).ps.getD m default=p':=by
      show ps.getD m default=p';simp[List.getD,h1]
     rw[hgd];exact this
theorem fL(p:TyV):∀(s:Sh) (q:KV) (u:TyV) (path:List Nat) (w:Int) (k':KV),KF s q u->ShW s->CB s p=0->Dv p s q=true->atK path (s,q)=some (.bit w,k')->(nAt path p).2=true->0<=(nAt path p).1/\(nAt path p).1<=((2 ^ w.toNat:Nat):Int) - 1:=by
 induction p using TyV.ind with
 | h k v nm ps ih=>
  intro s q u path w k' hk hsw hpe hmay hat hn;have hnd:=bB hsw;cases path with
  | nil=>
   cases hat;rw[nAt]at hn ⊢;have k3:k=3:=(by simpa[TyV.k]using hn);subst k3;show 0<=v/\v<=((2 ^ w.toNat:Nat):Int) - 1;simp only[CB]at hpe;by_cases hv:0<=v/\v<=((2 ^ w.toNat:Nat):Int) - 1
   .exact hv
   .exfalso;rw[if_neg hv]at hpe;simp at hpe;split at hpe <;> simp at hpe
  | cons i r=>
   rw[nAt]at hn ⊢;by_cases hc:(TyV.mk k v nm ps).k=2/\i<(TyV.mk k v nm ps).ps.length
   .rw[if_pos hc]at hn ⊢;have k2:k=2:=hc.1;have hi:i<ps.length:=hc.2;clear hc;subst k2;rw[atK]at hat;obtain⟨z,hz,hat⟩:=Gd.1 hat;cases q with
    | unk no=>cases s <;> cases hz
    | num n=>cases s <;> cases hz
    | con c qs=>
     obtain⟨ns,ss,j,rfl,hj,hpl,hpes⟩:=F6 hpe;obtain⟨ns',ss',parts,us,e1,e2,hci,hql,hl2,hkf⟩:=KF.dest hk;cases e1;have hss:ss.length=ns.length/\∀ s∈ss,∀ x∈s,ShW x:=by
      cases hsw with
      | cons _ _ h1 h2 h3 h4 h5 h6 h7=>exact⟨h1,h5⟩
     obtain⟨hm1,hm2⟩:=JE hmay;have hsl:=hss.1;have hil:=(Ac.1 hci).1;have hij:c=j:=Ds hnd.nodup hj (by omega) hm1;subst hij;have hgp:ss.getD c []=parts:=(by simp[List.getD,hci]);rw[hgp]at hpl hpes hm2;simp only[JD,hgp]at hz;have hms:i<parts.length:=(by omega);have hmq:i<qs.length:=(by omega);rw[AO (by simp;omega),GW]at hz;cases hz;have gu:=AO (l:=us) (i:=i) (by omega);have hgd:(TyV.mk 2 v nm ps).ps.getD i default=ps[i]:=by
      show ps.getD i default=ps[i];simp[List.getD,AO hi]
     rw[hgd]at hn ⊢;have gp:=AO hi;have gs:=AO hms;have gq:=AO hmq;exact ih ps[i] (An hi) parts[i] qs[i] _ r w k' (hkf i _ _ _ gs gq gu) (hss.2 _ (Bs hci) _ (An hms)) ((Es hpl).1 hpes i _ _ gs gp) (KX hm2 gp gs gq) hat hn
   .rw[if_neg hc]at hn;cases hn
def Jp(arms:List TyV)(u:TyV):Int:=ixI (arms.findIdx? fun p=>C6 p u)
theorem bE{rec:KV->Nat->Option (List A2)}:∀{kids:List ((Bytes×Int)×KV)} {b:Nat} {cs:List Ha} {ms:List A2},goF rec kids b=some (cs,ms)->∀(j:Nat) lab k,kids[j]? = some (lab,k)->∃(off:Nat) (ns:List A2),cs[j]? = some ⟨lab.1,lab.2,(b+off:Nat)⟩/\rec k (b+off)=some ns/\∀(m:Nat),m<ns.length->ms[off+m]? = ns[m]?
 | [],_,_,_,_=>fun j lab k h=>by simp at h
 | (lab0,k0)::r,b,cs,ms,h=>by
  rw[goF]at h;split at h
  .cases h
  .rename_i ns hns;split at h
   .cases h
   .rename_i cs' ms' hgo;cases h;intro j lab k hj;cases j with
    | zero=>
     simp at hj;obtain⟨rfl,rfl⟩:=hj;exact⟨0,ns,rfl,hns,fun m hm=>by rw[DW,A9 hm]⟩
    | succ j=>
     obtain⟨off,ns',h1,h2,h3⟩:=bE hgo j lab k (by simpa using hj);refine⟨ns.length+off,ns',by rw[Jq,h1];simp only[AM];congr 1;omega,by rw[show b+(ns.length+off)=b+ns.length+off by omega];exact h2,fun m hm => ?_⟩;rw[En (by omega),show ns.length+off+m - ns.length=off+m by omega];exact h3 m hm
theorem WH{arms:List TyV}{s:Sh}(hsw:ShW s)(hnx:NmX s)(hpe:∀ p∈arms,CB s p=0){T:List A2}{u:TyV}:∀(n:Nat) (q:KV) (b:Nat) (ns:List A2),CD arms s n q b=some ns->KF s q u->(∀(m:Nat),m<ns.length->T[b+m]? = ns[m]?)->ByR T u b (Jp arms u,0)
 | 0,_,_,_,h,_,_=>by cases h
 | n+1,q,b,ns,h,hk,hT=>by
  have ih:=WH hsw hnx hpe (T:=T) (u:=u) n;have hne:=Kb h;have h0:0<ns.length:=Iv.2 hne;have hTb:T.getD b default=ns[0]:=by
   have:=hT 0 h0;rw[HL,AO h0]at this;simp[List.getD,this]
  have hbT:b<T.length:=by
   have:=hT 0 h0;rw[HL,AO h0]at this;exact(Ac.1 this).1
  have before:∀ p∈arms,Dv p s q=false->C6 p u=false:=fun p hp hm=>(TL p s q u hk hsw (hpe p hp)).1 hm
  rw[CD]at h;split at h
  .cases h
  .split at h
   .rename_i hfi;cases h;have harm:Jp arms u = -1:=by
     have:arms.findIdx? (fun p=>C6 p u)=none:=by
      rw[Nh]at hfi ⊢;exact fun p hp=>before p hp (hfi p hp)
     unfold Jp;rw[this];rfl
    rw[harm];refine .done ?_;unfold KU;rw[hTb];rfl
   .rename_i a hfi;rw[Gr]at hfi;obtain⟨hal,hmay,hbef⟩:=hfi;have hmem:=An hal;have hgd:arms.getD a default=arms[a]:=(by simp[List.getD,AO hal]);rw[hgd]at h;split at h
    .rename_i hs;cases h;have hfit:=(TL arms[a] s q u hk hsw (hpe _ hmem)).2 hs;have harm:Jp arms u=(a:Int):=by
      have:arms.findIdx? (fun p=>C6 p u)=some a:=by
       rw[Gr];refine⟨hal,hfit,fun j hj => ?_⟩;have:=before _ (An (show j<arms.length by omega)) (by simpa using hbef j hj);simp[this]
      unfold Jp;rw[this];rfl
     rw[harm];refine .done ?_;unfold KU;rw[hTb];rfl
    .rename_i hns;obtain⟨path,hpath⟩:∃ path,FO arms[a] q=some path:=by
      cases hak:FO arms[a] q with
      | some p=>exact⟨p,rfl⟩
      | none=>exact absurd (bD arms[a] s q u hk hsw (hpe _ hmem) hmay hak) hns
     rw[hpath]at h;simp only[GG]at h;obtain⟨s',no,hat,hbit⟩:=fK arms[a] s q u path hk hsw (hpe _ hmem) hmay hpath;obtain⟨u',hpart,hku⟩:=gO (x:=(s,q)) hk hat;have hku:KF s' (.unk no) u':=hku;have hsw':=WE (x:=(s,q)) hsw hat;have hnx':NmX s':=by
      have key:∀{path:List Nat} {x y:Sh×KV},NmX x.1->atK path x=some y->NmX y.1:=by
       intro path;induction path with
       | nil=>intro x y hx h;cases h;exact hx
       | cons i r ih=>
        intro x y hx h;rw[atK]at h;obtain⟨z,hz,hzz⟩:=Gd.1 h;refine ih ?_ hzz;obtain⟨s,k⟩:=x;cases s with
        | bit w=>cases hz
        | cons ns ss=>
         cases k with
         | unk no=>cases hz
         | num n=>cases hz
         | con c ps=>
          simp only[JD]at hz;rw[QN]at hz;cases hx with
          | cons _ _ h1 h2=>
          by_cases hc:c<ss.length
          .have hg:ss.getD c []=ss[c]:=(by simp[List.getD,AO hc]);rw[hg]at hz;exact h2 _ (An hc) _ (Bs hz.1)
          .have hg:ss.getD c []=[]:=(by simp[List.getD,PV (Np hc)]);rw[hg]at hz;simp at hz
      exact key (x:=(s,q)) hnx hat
     unfold Ik at h;split at h
     .cases h
     .rename_i cs ms hgo;obtain⟨hcl,_⟩:=RI hgo;have hnx2:=bE hgo;obtain⟨o,ms2,hns2,hms⟩:∃(o:Int) (ms2:List A2),ns=⟨-1,DX path,cs,o⟩::(ms++ms2)/\((FP arms s q path).2=none/\o = -1/\ms2=[]\/∃ ko,(FP arms s q path).2=some ko/\o=((b+1+ms.length:Nat):Int)/\CD arms s n ko (b+1+ms.length)=some ms2):=by
       unfold RG at h;split at h
       .rename_i hnone;cases h;exact⟨-1,[],by simp,.inl ⟨hnone,rfl,rfl⟩⟩
       .rename_i ko hko;split at h
        .cases h
        .rename_i ms2 hm2;cases h;exact⟨_,ms2,rfl,.inr ⟨ko,hko,rfl,hm2⟩⟩
      have hnode:T.getD b default=⟨-1,DX path,cs,o⟩:=by
       rw[hTb];subst hns2;rfl
      have hchild:∀(m:Nat),m<(ms++ms2).length->T[b+1+m]? = (ms++ms2)[m]? := fun m hm=>by
       have:=hT (m+1) (by rw[hns2];simp at hm ⊢;omega);rw[hns2,Jq]at this;rw[show b+1+m=b+(m+1) by omega];exact this
      have goes:∀(nx:Nat),b<nx->nx<T.length->goV T b (nx:Int)=.inr nx:=fun nx h1 h2=>by
       unfold goV;rw[if_neg (by omega),if_neg (by omega)];simp
      have taken:∀(j:Nat) lab k,(FP arms s q path).1[j]? = some (lab,k)->KF s k u->cs.findIdx? (Iu u')=some j->ByR T u b (Jp arms u,0):=fun j lab k hj hkf hfi=>by
       obtain⟨off,ns',g1,g2,g3⟩:=hnx2 j lab k hj;have hn0:0<ns'.length:=Iv.2 (Kb g2);have hm0:off<ms.length:=by
        have:=g3 0 hn0;rw[AO hn0]at this;have:=(Ac.1 this).1;omega
       have hTl:b+1+off<T.length:=by
        have:=hchild off (by first | omega | (simp;omega));have hlt:off<(ms++ms2).length:=(by rw[E2];omega);rw[AO hlt]at this;exact(Ac.1 this).1
       have hrec:=ih k (b+1+off) ns' g2 hkf fun m hm=>by
        have h1:=g3 m hm;have hml:off+m<ms.length:=by
         rw[AO hm]at h1;exact(Ac.1 h1).1
        rw[show b+1+off+m=b+1+(off+m) by omega,hchild _ (by simp;omega),A9 hml];exact h1
       refine .step (b:=b+1+off) ?_ hrec;unfold KU;rw[hnode];have hc0:¬ cs.length=0:=fun e=>by
        rw[Gr]at hfi;obtain⟨hj',_⟩:=hfi;omega
       simp only[if_neg hc0,hpart,hfi];have hcg:cs.getD j default=⟨lab.1,lab.2,((b+1+off:Nat):Int)⟩:=(by simp only[List.getD,g1,GG]);rw[hcg];exact goes _ (by omega) hTl
      cases s' with
      | cons nms ss=>
       have hu':u'∈Cw (.cons nms ss):=(by cases hku with | unk hu _=>exact hu);obtain⟨i,hi1,hi2,hnm,hkm⟩:=fJ hsw' hu';have hkids:(FP arms s q path).1=(List.range ss.length).map (PO nms ss path q):=by
        unfold FP;rw[hat];rfl
       have hki:(FP arms s q path).1[i]? = some (PO nms ss path q i):=(by rw[hkids];simp[hi1]);refine taken i _ _ hki (Ng (x:=(s,q)) hk hat hpart hkm) ?_;rw[Gr];have hcsl:cs.length=ss.length:=(by rw[hcl,hkids];simp);have hcase:∀(j:Nat) (hj:j<cs.length),cs[j].nm=nms.getD j []:=fun j hj=>by
        obtain⟨off,ns',g1,_⟩:=hnx2 j _ _ (show(FP arms s q path).1[j]? = some (PO nms ss path q j) by rw[hkids,Fe,List.getElem?_range (by omega)];rfl);rw[AO hj]at g1;rw[Option.some.inj g1]
       have hnmne:nms.getD i []≠[]:=by
        cases hnx' with
        | cons _ _ h1 h2=>
         have:nms.getD i []=nms[i]:=(by simp[List.getD,AO hi2]);rw[this];exact h1 _ (An hi2)
       refine⟨by omega,?_,fun j hj => ?_⟩
       .unfold Iu;rw[hcase i (by omega),hnm];have:(nms.getD i [] != [])=true:=(by simpa using hnmne);rw[this];simp
       .unfold Iu;rw[hcase j (by omega),hnm];have hnd:nms.Nodup:=by
         cases hsw' with
         | cons _ _ h1 h2 h3 h4 h5 h6 h7=>exact h6
        have hne:nms.getD j []≠nms.getD i []:=fun e=>by
         have hjl:j<nms.length:=(by omega);have e1:nms.getD j []=nms[j]:=(by simp[List.getD,AO hjl]);have e2:nms.getD i []=nms[i]:=(by simp[List.getD,AO hi2]);rw[e1,e2]at e;have:=List.nodup_iff_pairwise_ne.1 hnd;rw[Li]at this;exact this j i hjl hi2 hj e
        have:(nms.getD j [] == nms.getD i [])=false:=(by simpa using hne);rw[this];simp
      | bit w=>
       obtain⟨hN1,hN2⟩:=hbit w rfl;cases hku with
       | unk hu hn=>
       obtain⟨h1,h2,h3⟩:=hn w rfl;obtain⟨v,hv,rfl⟩:=bitV hu;have h1:(v:Int) ∉ no:=h1;obtain⟨nl,hnl⟩:∃ nl,nl=NJ (GO path s q no arms):=⟨_,rfl⟩;have hkids:FP arms s q path=(nl.map (PA path q),if(nl.length:Int)<JC w (.unk no)then some (Gv path q (.unk (no++nl)))else none):=by
        unfold FP;rw[hat,hnl];rfl
       have hcsl:cs.length=nl.length:=(by rw[hcl,hkids];simp);have hcase:∀(j:Nat) (hj:j<cs.length),cs[j].nm=[]/\cs[j].num=nl[j]'(by omega):=fun j hj=>by
        obtain⟨off,ns',g1,_⟩:=hnx2 j _ _ (show(FP arms s q path).1[j]? = some (PA path q (nl[j]'(by omega))) by rw[hkids];show(nl.map _)[j]? = _;rw[Fe,AO (show j<nl.length by omega)];rfl);rw[AO hj]at g1;rw[Option.some.inj g1];exact⟨rfl,rfl⟩
       have hmemc:∀ x,x∈nl->x∈GO path s q no arms:=fun x hx=>by rw[hnl,PB]at hx;exact hx
       have hrange:∀ x∈nl,x ∉ no/\0<=x/\x<((2 ^ w.toNat:Nat):Int):=fun x hx=>by
        have hx2:=hmemc x hx;rw[GO,QS]at hx2;obtain⟨p,hp,hc⟩:=hx2;unfold KY at hc;split at hc
        .rename_i hcond;cases hc;simp only[Ba,Iw]at hcond;obtain⟨c1,c2,c3⟩:=hcond;have hbd:=fL p s q u path w (.unk no) hk hsw (hpe p hp) c2 hat c1;exact⟨(fun hm=>by rw[Nl.2 hm]at c3;cases c3),hbd.1,by omega⟩
        .cases hc
       have hnodup:nl.Nodup:=by
        rw[hnl];exact(fA _).imp fun h=>by omega
       have hfitC:∀(j:Nat) (hj:j<cs.length),Iu (.mk 0 (v:Int) [] []) cs[j]=(nl[j]'(by omega) == (v:Int)):=fun j hj=>by
        obtain⟨g1,g2⟩:=hcase j hj;unfold Iu;rw[g1,g2];show(true&&(false||(nl[j]'(by omega) == (v:Int))))=_;simp
       by_cases hvn:(v:Int)∈nl
       .obtain⟨i,hi,hiv,hfst⟩:∃ i,∃(hi:i<nl.length),nl[i]=(v:Int)/\cs.findIdx? (Iu (.mk 0 (v:Int) [] []))=some i:=by
         obtain⟨i,hi,e⟩:=Gt hvn;refine⟨i,hi,e,?_⟩;rw[Gr];refine⟨by omega,by rw[hfitC i (by omega),e];simp,fun j hj => ?_⟩;rw[hfitC j (by omega)];have hne:nl[j]'(by omega)≠(v:Int):=fun e2=>by
          have:=List.nodup_iff_pairwise_ne.1 hnodup;rw[Li]at this;exact this j i (by omega) hi hj (by rw[e2,e])
         simpa using hne
        refine taken i _ _ (show(FP arms s q path).1[i]? = some (PA path q nl[i]) by rw[hkids];simp[hi]) (Ng (x:=(s,q)) hk hat hpart ?_) hfst;show KF (.bit w) (.num nl[i]) _;rw[hiv];exact .num hu
       .have hnone:cs.findIdx? (Iu (.mk 0 (v:Int) [] []))=none:=by
         rw[Nh];intro x hx;obtain⟨j,hj,rfl⟩:=Gt hx;rw[hfitC j hj];have:nl[j]'(by omega)≠(v:Int):=fun e=>hvn (e ▸ An _)
         simpa using this
        have hnpos:nl≠[]:=fun e=>by
         have:(nAt path arms[a]).1∈nl:=by
          rw[hnl,PB,GO,QS];refine⟨arms[a],hmem,?_⟩;unfold KY;rw[hN1,hmay,hN2];rfl
         rw[e]at this;cases this
        have hall:(no++nl).Nodup/\∀ x∈no++nl,0<=x/\x<((2 ^ w.toNat:Nat):Int):=by
         refine⟨List.nodup_append.2 ⟨h2,hnodup,fun a ha b hb e=>(hrange b hb).1 (e ▸ ha)⟩,fun x hx => ?_⟩;rcases H6.1 hx with hx | hx
         .exact h3 x hx
         .exact(hrange x hx).2
        have hleft:(nl.length:Int)<JC w (.unk no):=by
         have:=Ma (2 ^ w.toNat) ((v:Int)::(no++nl)) (Me.2 ⟨fun hm=>by
          rcases H6.1 hm with hm | hm
          .exact h1 hm
          .exact hvn hm,hall.1⟩) fun x hx=>by
          rcases CF.1 hx with rfl | hx
          .omega
          .exact hall.2 x hx
         simp only[JC,Gc];simp only[DC,E2]at this;omega
        rw[if_pos hleft]at hkids;rcases hms with⟨hk2,_⟩ | ⟨ko,hk2,ho,hm2⟩
        .rw[hkids]at hk2;cases hk2
        .rw[hkids]at hk2;cases hk2;have hn0:0<ms2.length:=Iv.2 (Kb hm2);have hTl:b+1+ms.length<T.length:=by
          have:=hchild ms.length (by simp;omega);have hlt:ms.length<(ms++ms2).length:=(by rw[E2];omega);rw[AO hlt]at this;exact(Ac.1 this).1
         have hrec:=ih _ _ _ hm2 (Ng (x:=(s,q)) hk hat hpart (.unk hu fun w' e=>by
          cases e;exact⟨fun hm=>by
           rcases H6.1 hm with hm | hm
           .exact h1 hm
           .exact hvn hm,hall⟩)) fun m hm=>by
          rw[show b+1+ms.length+m=b+1+(ms.length+m) by omega,hchild _ (by simp;omega),En (by omega)]
          congr 1;omega
         refine .step (b:=b+1+ms.length) ?_ hrec;unfold KU;rw[hnode];have hc0:¬ cs.length=0:=fun e=>hnpos (EH (by omega))
         simp only[if_neg hc0,hpart,hnone,ho];rw[if_neg (by omega)];exact goes _ (by omega) hTl
end Go.Proofs.Am12
