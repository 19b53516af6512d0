/- Part 15. -/
import Derived.Test.YtggemipepaajmaaGreatTre14
set_option linter.all false
set_option maxHeartbeats 1000000
namespace Go.Proofs.Am12
open Go Go.Am Tryz
section
attribute [local simp] C7 Br EW DL CG Dd Du Eu BZ Ar Bg Al GV FF EF HE D4 Ax FB EG HF HG xUn E7 D5 FG BF DH BG D6 BH D7 Ce CX Bw BJ EH Ej
 ev evs C4 DE OR.ofV OR.Dz OR.ofC FP Tm.get Tm.init Tm.only A1 A8 CM finish CF DJ HR Dy D3 unA B7 Bb B8 Bc Co Cp Cq Bd Cr Cs Be Ct Cu Bf B9 AL CQ Ba Cm Cn B6 Ev Ew Ey Dv Dw Fl F8 F9 Fm stA Ay Db Bn DI E8 Gt Bs C6 CI FI Gu
attribute [local simp] CJ Bi Bt BN DQ DR DS DT DU DW DX Ec Cg Ed Dh FR FT Gf Di Ee Dj BO Dk BP Dl CD Ef Ch FU FV FW Ci Dm Dn FX Gg FY Gh Gi Dp BQ Cj CE Dq Dr Ck
theorem CV{f:FuncId}{args:List AV}{h:AF}{r:CR×AF}(hm:MX.mode f = { })(he:MX.eff f=none)(hr:AJ MX f args h=some r):AI MX (AE MX) f args h=some r:=by
 unfold AI;simp only[hm];exact Ie he hr
def C8(s:Bytes)(known:List Bytes):Int:=if BL s=false then 4 else if(known.findIdx? (fun x=>x == s)).isSome then 5 else 0
theorem c252{known:List Bytes}{v:AV}(s:Bytes)(hs:s.length<1048577)(hv:SlR Cv 1 known v)(hl:known.length<1048577)(h:AF):AI MX (AE MX) 252 [.str s,v] h=some (.ret (.int .i64 (C8 s known)),h):=by
 refine Af NR aI (by simp[hv.AA,AV.AA]) rfl (hr:=[]) ?_ h;have h260:=c260 s hv hl;unfold C8;cases hN:BL s <;> cases hC:(known.findIdx? (fun x=>x == s)).isSome <;> simp only[hC]at h260 <;> simp[AJ,f252,c268 s hs,hN,h260,bsA,Aq,List.replicate,AG,AV.AA,A9]
theorem aY{α:Type}{R:α->List AV->Prop}{l:List α}{v:AV}(hv:SlR R 3 l v)(hl:l.length<1048577)(hR:∀ a e,R a e->e.length=3){g:FuncId}{cap:List AV}(hp:MX.prim g=none)(Inv:Nat->AF->Prop)(Out:Nat->Int->AF->Prop)
 (hstep:∀(i:Nat) (hi:i<l.length) e H,R l[i] e->Inv i H->∃ err H',AI MX (AE MX) g (.int .i64 i::.agg e::cap) (H++[Blk.var false e])=some (.ret (.int .i64 err),H')/\(err=0->Inv (i+1) H')/\(err≠0->Out i err H'))
 (H0:AF) (h0:Inv 0 H0):∃(i:Nat) (err:Int) (H':AF),AI MX (AE MX) 230 [v,.fn g [] cap] H0=some (.ret (.tup [.int .i64 i,.int .i64 err]),H')/\((err=0/\i=0/\Inv l.length H')\/(err≠0/\i<l.length/\Out i err H')):=by
 obtain⟨e,st,hlp,hq⟩:=AU (M:=MX) (fid:=230) (N:=25) (C:=AE MX) (c:=AL f230 0) (n:=l.length)
  (fun i (b:AF)=>([(1,AV.fn g [] cap),(9,v),(10,.int .i64 l.length),(11,.int .i64 i)],b)) (fun i b=>Inv i b)
  (fun r=>∃ b:AF,(r=(.ext 0,([(1,AV.fn g [] cap),(9,v),(10,.int .i64 l.length),(11,.int .i64 l.length),(12,.bool false)],b))/\Inv l.length b)\/∃(i:Nat) (err:Int),r=(.ret,([(4,.int .i64 i),(5,.int .i64 err)],b))/\err≠0/\i<l.length/\Out i err b) (fun i b hi hI=>by
    obtain⟨e,he,hRe⟩:=hv.ix hi;have hi':=AZ hi;have hw:=AY hi hl;have hle:=hR _ _ hRe;have ht:e.take 3=e:=DC (by omega);obtain⟨err,H',h1,h2,h3⟩:=hstep i hi e b hRe hI;by_cases hz:err=0
    .exact .inl ⟨H',by simp[f230,hi',he,hle,ht,hp,h1,hz,hw],h2 hz⟩
    .have hne:(err != 0)=true:=(by simp[hz]);exact .inr ⟨_,_,by simp[f230,hi',he,hle,ht,hp,h1,hne] <;> first | exact⟨rfl,rfl⟩ | rfl,by simp,H',.inr ⟨i,err,rfl,hz,hi,h3 hz⟩⟩) (fun b hI=>by
    exact⟨_,_,by simp[f230] <;> first | exact⟨rfl,rfl⟩ | rfl,by simp,b,.inl ⟨rfl,hI⟩⟩) H0 h0
 simp[f230]at hlp;obtain⟨b,hq⟩:=hq;rcases hq with⟨hq,hI⟩ | ⟨i,err,hq,h1,h2,h3⟩ <;> cases hq
 .exact⟨0,0,b,CV Q7 Tp (by simp[AJ,f230,hv.len,hlp]),.inl ⟨rfl,rfl,hI⟩⟩
 .exact⟨i,err,b,CV Q7 Tp (by simp[AJ,f230,hv.len,hlp]),.inr ⟨h1,h2,h3⟩⟩
theorem aZ{α:Type}{R:α->List AV->Prop}{l:List α}{v:AV}(hv:SlR R 2 l v)(hl:l.length<1048577)(hR:∀ a e,R a e->e.length=2){g:FuncId}{cap:List AV}(hp:MX.prim g=none)(Inv:Nat->AF->Prop)(Out:Nat->Int->AF->Prop)
 (hstep:∀(i:Nat) (hi:i<l.length) e H,R l[i] e->Inv i H->∃ err H',AI MX (AE MX) g (.int .i64 i::.agg e::cap) (H++[Blk.var false e])=some (.ret (.int .i64 err),H')/\(err=0->Inv (i+1) H')/\(err≠0->Out i err H'))
 (H0:AF) (h0:Inv 0 H0):∃(i:Nat) (err:Int) (H':AF),AI MX (AE MX) 255 [v,.fn g [] cap] H0=some (.ret (.tup [.int .i64 i,.int .i64 err]),H')/\((err=0/\i=0/\Inv l.length H')\/(err≠0/\i<l.length/\Out i err H')):=by
 obtain⟨e,st,hlp,hq⟩:=AU (M:=MX) (fid:=255) (N:=25) (C:=AE MX) (c:=AL f255 0) (n:=l.length)
  (fun i (b:AF)=>([(1,AV.fn g [] cap),(9,v),(10,.int .i64 l.length),(11,.int .i64 i)],b)) (fun i b=>Inv i b)
  (fun r=>∃ b:AF,(r=(.ext 0,([(1,AV.fn g [] cap),(9,v),(10,.int .i64 l.length),(11,.int .i64 l.length),(12,.bool false)],b))/\Inv l.length b)\/∃(i:Nat) (err:Int),r=(.ret,([(4,.int .i64 i),(5,.int .i64 err)],b))/\err≠0/\i<l.length/\Out i err b) (fun i b hi hI=>by
    obtain⟨e,he,hRe⟩:=hv.ix hi;have hi':=AZ hi;have hw:=AY hi hl;have hle:=hR _ _ hRe;have ht:e.take 2=e:=DC (by omega);obtain⟨err,H',h1,h2,h3⟩:=hstep i hi e b hRe hI;by_cases hz:err=0
    .exact .inl ⟨H',by simp[f255,hi',he,hle,ht,hp,h1,hz,hw],h2 hz⟩
    .have hne:(err != 0)=true:=(by simp[hz]);exact .inr ⟨_,_,by simp[f255,hi',he,hle,ht,hp,h1,hne] <;> first | exact⟨rfl,rfl⟩ | rfl,by simp,H',.inr ⟨i,err,rfl,hz,hi,h3 hz⟩⟩) (fun b hI=>by
    exact⟨_,_,by simp[f255] <;> first | exact⟨rfl,rfl⟩ | rfl,by simp,b,.inl ⟨rfl,hI⟩⟩) H0 h0
 simp[f255]at hlp;obtain⟨b,hq⟩:=hq;rcases hq with⟨hq,hI⟩ | ⟨i,err,hq,h1,h2,h3⟩ <;> cases hq
 .exact⟨0,0,b,CV RB Ts (by simp[AJ,f255,hv.len,hlp]),.inl ⟨rfl,rfl,hI⟩⟩
 .exact⟨i,err,b,CV RB Ts (by simp[AJ,f255,hv.len,hlp]),.inr ⟨h1,h2,h3⟩⟩
theorem aa{α:Type}{R:α->List AV->Prop}{l:List α}{v:AV}(hv:SlR R 5 l v)(hl:l.length<1048577)(hR:∀ a e,R a e->e.length=5){g:FuncId}{cap:List AV}(hp:MX.prim g=none)(Inv:Nat->AF->Prop)(Out:Nat->Int->AF->Prop)
 (hstep:∀(i:Nat) (hi:i<l.length) e H,R l[i] e->Inv i H->∃ err H',AI MX (AE MX) g (.int .i64 i::.agg e::cap) (H++[Blk.var false e])=some (.ret (.int .i64 err),H')/\(err=0->Inv (i+1) H')/\(err≠0->Out i err H'))
 (H0:AF) (h0:Inv 0 H0):∃(i:Nat) (err:Int) (H':AF),AI MX (AE MX) 257 [v,.fn g [] cap] H0=some (.ret (.tup [.int .i64 i,.int .i64 err]),H')/\((err=0/\i=0/\Inv l.length H')\/(err≠0/\i<l.length/\Out i err H')):=by
 obtain⟨e,st,hlp,hq⟩:=AU (M:=MX) (fid:=257) (N:=25) (C:=AE MX) (c:=AL Tryz.f257 0) (n:=l.length)
  (fun i (b:AF)=>([(1,AV.fn g [] cap),(9,v),(10,.int .i64 l.length),(11,.int .i64 i)],b)) (fun i b=>Inv i b)
  (fun r=>∃ b:AF,(r=(.ext 0,([(1,AV.fn g [] cap),(9,v),(10,.int .i64 l.length),(11,.int .i64 l.length),(12,.bool false)],b))/\Inv l.length b)\/∃(i:Nat) (err:Int),r=(.ret,([(4,.int .i64 i),(5,.int .i64 err)],b))/\err≠0/\i<l.length/\Out i err b) (fun i b hi hI=>by
    obtain⟨e,he,hRe⟩:=hv.ix hi;have hi':=AZ hi;have hw:=AY hi hl;have hle:=hR _ _ hRe;have ht:e.take 5=e:=DC (by omega);obtain⟨err,H',h1,h2,h3⟩:=hstep i hi e b hRe hI;by_cases hz:err=0
    .exact .inl ⟨H',by simp[Tryz.f257,hi',he,hle,ht,hp,h1,hz,hw],h2 hz⟩
    .have hne:(err != 0)=true:=(by simp[hz]);exact .inr ⟨_,_,by simp[Tryz.f257,hi',he,hle,ht,hp,h1,hne] <;> first | exact⟨rfl,rfl⟩ | rfl,by simp,H',.inr ⟨i,err,rfl,hz,hi,h3 hz⟩⟩) (fun b hI=>by
    exact⟨_,_,by simp[Tryz.f257] <;> first | exact⟨rfl,rfl⟩ | rfl,by simp,b,.inl ⟨rfl,hI⟩⟩) H0 h0
 simp[Tryz.f257]at hlp;obtain⟨b,hq⟩:=hq;rcases hq with⟨hq,hI⟩ | ⟨i,err,hq,h1,h2,h3⟩ <;> cases hq
 .exact⟨0,0,b,CV RD Tu (by simp[AJ,Tryz.f257,hv.len,hlp]),.inl ⟨rfl,rfl,hI⟩⟩
 .exact⟨i,err,b,CV RD Tu (by simp[AJ,Tryz.f257,hv.len,hlp]),.inr ⟨h1,h2,h3⟩⟩
theorem ab{α:Type}{R:α->List AV->Prop}{l:List α}{v:AV}(hv:SlR R 4 l v)(hl:l.length<1048577)(hR:∀ a e,R a e->e.length=4){g:FuncId}{cap:List AV}(hp:MX.prim g=none)(Inv:Nat->AF->Prop)(Out:Nat->Int->AF->Prop)
 (hstep:∀(i:Nat) (hi:i<l.length) e H,R l[i] e->Inv i H->∃ err H',AI MX (AE MX) g (.int .i64 i::.agg e::cap) (H++[Blk.var false e])=some (.ret (.int .i64 err),H')/\(err=0->Inv (i+1) H')/\(err≠0->Out i err H'))
 (H0:AF) (h0:Inv 0 H0):∃(i:Nat) (err:Int) (H':AF),AI MX (AE MX) 262 [v,.fn g [] cap] H0=some (.ret (.tup [.int .i64 i,.int .i64 err]),H')/\((err=0/\i=0/\Inv l.length H')\/(err≠0/\i<l.length/\Out i err H')):=by
 obtain⟨e,st,hlp,hq⟩:=AU (M:=MX) (fid:=262) (N:=25) (C:=AE MX) (c:=AL f262 0) (n:=l.length)
  (fun i (b:AF)=>([(1,AV.fn g [] cap),(9,v),(10,.int .i64 l.length),(11,.int .i64 i)],b)) (fun i b=>Inv i b)
  (fun r=>∃ b:AF,(r=(.ext 0,([(1,AV.fn g [] cap),(9,v),(10,.int .i64 l.length),(11,.int .i64 l.length),(12,.bool false)],b))/\Inv l.length b)\/∃(i:Nat) (err:Int),r=(.ret,([(4,.int .i64 i),(5,.int .i64 err)],b))/\err≠0/\i<l.length/\Out i err b) (fun i b hi hI=>by
    obtain⟨e,he,hRe⟩:=hv.ix hi;have hi':=AZ hi;have hw:=AY hi hl;have hle:=hR _ _ hRe;have ht:e.take 4=e:=DC (by omega);obtain⟨err,H',h1,h2,h3⟩:=hstep i hi e b hRe hI;by_cases hz:err=0
    .exact .inl ⟨H',by simp[f262,hi',he,hle,ht,hp,h1,hz,hw],h2 hz⟩
    .have hne:(err != 0)=true:=(by simp[hz]);exact .inr ⟨_,_,by simp[f262,hi',he,hle,ht,hp,h1,hne] <;> first | exact⟨rfl,rfl⟩ | rfl,by simp,H',.inr ⟨i,err,rfl,hz,hi,h3 hz⟩⟩) (fun b hI=>by
    exact⟨_,_,by simp[f262] <;> first | exact⟨rfl,rfl⟩ | rfl,by simp,b,.inl ⟨rfl,hI⟩⟩) H0 h0
 simp[f262]at hlp;obtain⟨b,hq⟩:=hq;rcases hq with⟨hq,hI⟩ | ⟨i,err,hq,h1,h2,h3⟩ <;> cases hq
 .exact⟨0,0,b,CV RG Tx (by simp[AJ,f262,hv.len,hlp]),.inl ⟨rfl,rfl,hI⟩⟩
 .exact⟨i,err,b,CV RG Tx (by simp[AJ,f262,hv.len,hlp]),.inr ⟨h1,h2,h3⟩⟩
theorem ae{l:List Bytes}{v:AV}(hv:SlR Cv 1 l v)(hl:l.length<1048577){g:FuncId}{cap:List AV}(hp:MX.prim g=none)(Inv:Nat->AF->Prop)(Out:Nat->Int->AF->Prop)
 (hstep:∀(i:Nat) (hi:i<l.length) H,Inv i H->∃ err H',AI MX (AE MX) g (.int .i64 i::.str l[i]::cap) H=some (.ret (.int .i64 err),H')/\(err=0->Inv (i+1) H')/\(err≠0->Out i err H'))
 (H0:AF) (h0:Inv 0 H0):∃(i:Nat) (err:Int) (H':AF),AI MX (AE MX) 253 [v,.fn g [] cap] H0=some (.ret (.tup [.int .i64 i,.int .i64 err]),H')/\((err=0/\i=0/\Inv l.length H')\/(err≠0/\i<l.length/\Out i err H')):=by
 obtain⟨e,st,hlp,hq⟩:=AU (M:=MX) (fid:=253) (N:=25) (C:=AE MX) (c:=AL f253 0) (n:=l.length)
  (fun i (b:AF)=>([(1,AV.fn g [] cap),(9,v),(10,.int .i64 l.length),(11,.int .i64 i)],b)) (fun i b=>Inv i b)
  (fun r=>∃ b:AF,(r=(.ext 0,([(1,AV.fn g [] cap),(9,v),(10,.int .i64 l.length),(11,.int .i64 l.length),(12,.bool false)],b))/\Inv l.length b)\/∃(i:Nat) (err:Int),r=(.ret,([(4,.int .i64 i),(5,.int .i64 err)],b))/\err≠0/\i<l.length/\Out i err b) (fun i b hi hI=>by
    obtain⟨e,he,hRe⟩:=hv.ix hi;have hi':=AZ hi;have hw:=AY hi hl;cases hRe;obtain⟨err,H',h1,h2,h3⟩:=hstep i hi b hI;by_cases hz:err=0
    .exact .inl ⟨H',by simp[f253,hi',he,hp,h1,hz,hw],h2 hz⟩
    .have hne:(err != 0)=true:=(by simp[hz]);exact .inr ⟨_,_,by simp[f253,hi',he,hp,h1,hne] <;> first | exact⟨rfl,rfl⟩ | rfl,by simp,H',.inr ⟨i,err,rfl,hz,hi,h3 hz⟩⟩) (fun b hI=>by
    exact⟨_,_,by simp[f253] <;> first | exact⟨rfl,rfl⟩ | rfl,by simp,b,.inl ⟨rfl,hI⟩⟩) H0 h0
 simp[f253]at hlp;obtain⟨b,hq⟩:=hq;rcases hq with⟨hq,hI⟩ | ⟨i,err,hq,h1,h2,h3⟩ <;> cases hq
 .exact⟨0,0,b,CV RA Tr (by simp[AJ,f253,hv.len,hlp]),.inl ⟨rfl,rfl,hI⟩⟩
 .exact⟨i,err,b,CV RA Tr (by simp[AJ,f253,hv.len,hlp]),.inr ⟨h1,h2,h3⟩⟩
mutual
def lgT:TyV->Int->Int->Bool×Int
 | .mk _ _ _ ps,d,c=>if 200<c+1 then(false,c+1)else if 40<d then(false,c+1)else lgs ps (d+1) (c+1)
def lgs:List TyV->Int->Int->Bool×Int
 | [],_,c=>(true,c)
 | p::r,d,c=>if(lgT p d c).1=true then lgs r d (lgT p d c).2 else(false,(lgT p d c).2)
end
theorem Ii(t:TyV):∀ d c,0<=c->c<=200->c<(lgT t d c).2/\(lgT t d c).2<=201/\((lgT t d c).1=true->(lgT t d c).2<=200):=by
 induction t using TyV.ind with
 | h k v nm ps ih=>
  intro d c h0 h1;have key:∀(l:List TyV),(∀ p∈l,p∈ps)->∀ d c,0<=c->c<=200->c<=(lgs l d c).2/\(lgs l d c).2<=201/\((lgs l d c).1=true->(lgs l d c).2<=200):=by
   intro l;induction l with
   | nil=>intro _ d c h0 h1;simp[lgs];omega
   | cons p r ihr=>
    intro hm d c h0 h1;obtain⟨a,b,e⟩:=ih p (hm p (by simp)) d c h0 h1;simp only[lgs];split
    .rename_i ht;obtain⟨y,z,w⟩:=ihr (fun q hq=>hm q (by simp[hq])) d _ (by omega) (e ht);exact⟨by omega,z,w⟩
    .simp;omega
  simp only[lgT];split
  .simp;omega
  split
  .simp;omega
  .obtain⟨y,z,w⟩:=key ps (fun _ h=>h) (d+1) (c+1) (by omega) (by omega);exact⟨by omega,z,w⟩
theorem T4:∀(l:List TyV) d c,0<=c->c<=200->(lgs l d c).1=true->c+l.length<=(lgs l d c).2
 | [],d,c,h0,h1,_=>by simp[lgs]
 | p::r,d,c,h0,h1,h=>by
  obtain⟨a,b,e⟩:=Ii p d c h0 h1;simp only[lgs]at h ⊢;split at h
  .rename_i ht;rw[if_pos ht];have:=T4 r d _ (by omega) (e ht) h;simp only[D8];omega
  .cases h
theorem Xs(t:TyV):∀ d c,0<=c->c<=200->((lgT t d c).1=true->F3 t d c=(lgT t d c).2)/\((lgT t d c).1=false->200<F3 t d c):=by
 induction t using TyV.ind with
 | h k v nm ps ih=>
  intro d c h0 h1;have key:∀(l:List TyV),(∀ p∈l,p∈ps)->∀ d c,0<=c->c<=200->((lgs l d c).1=true->Cw l d c=(lgs l d c).2)/\((lgs l d c).1=false->200<Cw l d c):=by
   intro l;induction l with
   | nil=>intro _ d c h0 h1;simp[lgs,Cw]
   | cons p r ihr=>
    intro hm d c h0 h1;obtain⟨a,b⟩:=ih p (hm p (by simp)) d c h0 h1;obtain⟨x,y,z⟩:=Ii p d c h0 h1;simp only[lgs,Cw,if_pos h1];cases hp:(lgT p d c).1 with
    | true=>
     rw[a hp];simp only[if_true];exact ihr (fun q hq=>hm q (by simp[hq])) d _ (by omega) (z hp)
    | false=>
     have hb:=b hp;refine⟨fun h=>by simp at h,fun _ => ?_⟩;cases r with
     | nil=>simpa[Cw]using hb
     | cons q r=>simp only[Cw];split <;> omega
  simp only[lgT,F3];by_cases c1:200<c+1
  .simp[c1]
  .by_cases c2:40<d
   .simp[c1,c2]
   .obtain⟨a,b⟩:=key ps (fun _ h=>h) (d+1) (c+1) (by omega) (by omega);simp only[c1,c2,if_false,false_or];by_cases c3:200<(ps.length:Int)
    .rw[if_pos c3];refine⟨fun h => ?_,fun _=>by omega⟩;have:=T4 ps (d+1) (c+1) (by omega) (by omega) h;have h9:(lgs ps (d+1) (c+1)).2<=201:=by
      have h10:=Ii (.mk k v nm ps) d c h0 h1;simp only[lgT,if_neg c1,if_neg c2]at h10;exact h10.2.1
     omega
    .rw[if_neg c3];exact⟨a,b⟩
theorem Sg(t:TyV):(lgT t 1 0).1=Bp t:=by
 obtain⟨a,b⟩:=Xs t 1 0 (by decide) (by decide);obtain⟨x,y,z⟩:=Ii t 1 0 (by decide) (by decide);unfold Bp;cases h:(lgT t 1 0).1 with
 | true=>rw[a h];simp[z h]
 | false=>have:=b h;simp;omega
theorem c235{t:TyV}{xs:List AV}(hx:AR t xs):∃ pv,SlR AR 4 t.ps pv/\∀ h,AI MX (AE MX) 235 [.agg xs] h=some (.ret pv,h):=by
 have hn:([AV.agg xs]:List AV).all AV.AA=true:=by simp[AV.AA,hx.AG]
 obtain⟨pv,rfl,hp⟩:=hx.Ab;exact⟨pv,hp,fun h=>Af XO aE hn hp.AA (hr:=[Blk.var false [.int .i64 t.k,.int .i64 t.v,.str t.nm,pv]]) (by simp[AJ,f235]) h⟩
theorem c259(t:TyV):∀(xs:List AV) (d c:Int) (B:Blk) (G:AF),AR t xs->Sm 1048577 t->0<=d->d<=41->0<=c->c<=200 ->
 ∃ G',AI MX (AE MX) 259 [.agg xs,.int .i64 d,.hp 2 0,.hp 1 0,.hp 3 0] (B::Blk.var false [AV.fn 235 [] []]::Blk.var false [AV.int .i64 c]::Blk.var false [AV.fn 259 [] [.hp 2 0,.hp 1 0,.hp 3 0]]::G) =
  some (.ret (.bool (lgT t d c).1),B::Blk.var false [AV.fn 235 [] []]::Blk.var false [AV.int .i64 (lgT t d c).2]::Blk.var false [AV.fn 259 [] [.hp 2 0,.hp 1 0,.hp 3 0]]::G'):=by
 induction t using TyV.ind with
 | h k v nm ps ih=>
  intro xs d c B G hx hs d0 d1 c0 c1;have h235:=c235 hx;obtain⟨pv,rfl,hp0⟩:=hx.dest;obtain⟨s1,s2,s3⟩:=hs.dest;obtain⟨pv2,hp,h235⟩:=h235;replace hp:SlR AR 4 ps pv2:=hp;have wc:wr .i64 (c+1)=c+1:=Cl (by omega) (by omega);have wd:wr .i64 (d+1)=d+1:=Cl (by omega) (by omega);have goal:∀ r G',AJ MX 259 [.agg [.int .i64 k,.int .i64 v,.str nm,pv],.int .i64 d,.hp 2 0,.hp 1 0,.hp 3 0] (B::Blk.var false [AV.fn 235 [] []]::Blk.var false [AV.int .i64 c]::Blk.var false [AV.fn 259 [] [.hp 2 0,.hp 1 0,.hp 3 0]]::G) =
   some (.ret (.bool r.1),B::Blk.var false [AV.fn 235 [] []]::Blk.var false [AV.int .i64 r.2]::Blk.var false [AV.fn 259 [] [.hp 2 0,.hp 1 0,.hp 3 0]]::G')->(lgT (.mk k v nm ps) d c)=r ->
   ∃ G',AI MX (AE MX) 259 [.agg [.int .i64 k,.int .i64 v,.str nm,pv],.int .i64 d,.hp 2 0,.hp 1 0,.hp 3 0] (B::Blk.var false [AV.fn 235 [] []]::Blk.var false [AV.int .i64 c]::Blk.var false [AV.fn 259 [] [.hp 2 0,.hp 1 0,.hp 3 0]]::G) =
    some (.ret (.bool (lgT (.mk k v nm ps) d c).1),B::Blk.var false [AV.fn 235 [] []]::Blk.var false [AV.int .i64 (lgT (.mk k v nm ps) d c).2]::Blk.var false [AV.fn 259 [] [.hp 2 0,.hp 1 0,.hp 3 0]]::G'):=fun r G' h e=>by
   rw[e];exact⟨G',CV XW aK h⟩
  by_cases e1:200<c+1
  .exact goal (false,c+1) _ (by simp[AJ,f259,wc,e1] <;> rfl) (by simp[lgT,e1])
  .by_cases e2:40<d
   .exact goal (false,c+1) _ (by simp[AJ,f259,wc,e1,e2] <;> rfl) (by simp[lgT,e1,e2])
   .have e:lgT (.mk k v nm ps) d c=lgs ps (d+1) (c+1):=(by simp[lgT,e1,e2]);obtain⟨ee,st,hlp,hq⟩:=AU (M:=MX) (fid:=259) (N:=33) (C:=AE MX) (c:=AL f259 0) (n:=ps.length)
     (fun i (b:Int×AF)=>([(1,.int .i64 d),(4,.hp 3 0),(20,pv2),(21,.int .i64 ps.length),(22,.int .i64 i)],B::Blk.var false [AV.fn 235 [] []]::Blk.var false [AV.int .i64 b.1]::Blk.var false [AV.fn 259 [] [.hp 2 0,.hp 1 0,.hp 3 0]]::b.2))
     (fun i b=>0<=b.1/\b.1<=200/\lgs ps (d+1) (c+1)=lgs (ps.drop i) (d+1) b.1)
     (fun r=>∃ b:Int×AF,(r=(.ext 0,([(1,.int .i64 d),(4,.hp 3 0),(20,pv2),(21,.int .i64 ps.length),(22,.int .i64 ps.length),(23,.bool false)],B::Blk.var false [AV.fn 235 [] []]::Blk.var false [AV.int .i64 b.1]::Blk.var false [AV.fn 259 [] [.hp 2 0,.hp 1 0,.hp 3 0]]::b.2))/\lgs ps (d+1) (c+1)=(true,b.1)) \/
       (r=(.ret,([(7,.bool false)],B::Blk.var false [AV.fn 235 [] []]::Blk.var false [AV.int .i64 b.1]::Blk.var false [AV.fn 259 [] [.hp 2 0,.hp 1 0,.hp 3 0]]::b.2))/\lgs ps (d+1) (c+1)=(false,b.1))) (fun i b hi hI=>by
       obtain⟨cc,G1⟩:=b;obtain⟨i0,i1,i2⟩:=hI;simp only at i0 i1 i2;obtain⟨e,he,hR⟩:=hp.ix hi;have hi':=AZ hi;have hw:=AY hi s2;have hmem:=Ap hi;have hrec:=fun G=>ih ps[i] hmem e (d+1) cc B G hR (s3 _ hmem) (by omega) (by omega) i0 i1
       obtain⟨r1,r2,r3⟩:=Ii ps[i] (d+1) cc i0 i1;obtain⟨qv,rfl,hqv⟩:=hR.Ab;obtain⟨G2,hcall⟩:=hrec (G1++[Blk.var false [AV.int .i64 ps[i].k,AV.int .i64 ps[i].v,AV.str ps[i].nm,qv]]);have hdr:ps.drop i=ps[i]::ps.drop (i+1):=De hi;rw[hdr]at i2;simp only[lgs]at i2;cases hb:(lgT ps[i] (d+1) cc).1 with
       | true=>
        rw[hb]at hcall i2;exact .inl ⟨((lgT ps[i] (d+1) cc).2,G2),by simp[f259,hi',he,wd,hcall,hw],by simp only;omega,r3 hb,by simpa using i2⟩
       | false=>
        rw[hb]at hcall i2;exact .inr ⟨_,_,by simp[f259,hi',he,wd,hcall] <;> first | exact⟨rfl,rfl⟩ | rfl,by simp,((lgT ps[i] (d+1) cc).2,G2),.inr ⟨rfl,by simpa using i2⟩⟩) (fun b hI=>by
       obtain⟨cc,G1⟩:=b;obtain⟨i0,i1,i2⟩:=hI;rw[C3]at i2;exact⟨_,_,by simp[f259] <;> first | exact⟨rfl,rfl⟩ | rfl,by simp,(cc,G1),.inl ⟨rfl,i2⟩⟩) (c+1,G++[Blk.var false [AV.int .i64 k,AV.int .i64 v,AV.str nm,pv]]) ⟨by simp;omega,by simp;omega,by simp⟩
    simp[f259]at hlp;obtain⟨⟨cc,G1⟩,hq⟩:=hq;rcases hq with⟨hq,hz⟩ | ⟨hq,hz⟩ <;> cases hq
    .exact goal (true,cc) G1 (by simp[AJ,f259,wc,e1,e2,h235,hp.len,hlp]) (by rw[e,hz])
    .exact goal (false,cc) G1 (by simp[AJ,f259,wc,e1,e2,h235,hp.len,hlp]) (by rw[e,hz])
theorem c234{t:TyV}{xs:List AV}(hx:AR t xs)(hs:Sm 1048577 t)(h:AF):AI MX (AE MX) 234 [.agg xs,.fn 235 [] []] h=some (.ret (.int .i64 (if Bp t then 0 else 8)),h):=by
 have hn:([AV.agg xs,.fn 235 [] []]:List AV).all AV.AA=true:=by simp[AV.AA,hx.AG,AG]
 have h259:=fun B G=>c259 t xs 1 0 B G hx hs (by decide) (by decide) (by decide) (by decide)
 obtain⟨pv,rfl,hp⟩:=hx.Ab;obtain⟨G',hcall⟩:=h259 (Blk.var false [.int .i64 t.k,.int .i64 t.v,.str t.nm,pv]) [];rw[Sg]at hcall;cases hT:Bp t <;> rw[hT]at hcall <;> exact Af XN aD hn rfl (by simp[AJ,f234,hcall] <;> rfl) h
theorem FA{f:FuncId}{args args':List AV}{h h':AF}{r:CR×AF}(hm:(MX.mode f).fresh=true)(hs:A4 args h=some (args',h'))(ha:args'.all AV.AA=true)(hd:AI MX (AE MX) f args' h'=some r):AI MX (AE MX) f args h=some r:=by
 have hs2:∀{l:List AV} {h:AF},l.all AV.AA=true->A4 l h=some (l,h):=by
  intro l;induction l with
  | nil=>intro h _;rfl
  | cons a r ih=>
   intro h hn;simp only[JL,BU]at hn;simp only[A4,hn.1,ih hn.2]
 unfold AI at hd ⊢;simp only[hm,hs,ha,hs2 ha]at hd ⊢;exact hd
theorem Xt{f:FuncId}{id:Nat}{s:Bytes}{h:AF}{b:Bool}(hh:h[id]? = some (.var b [.str s])):snap Ds (.fn f [] [.hp id 0]) h=some (.fn f [] [.ro [.str s]],h.set id (.var true [.str s])):=by
 have:BB 9 (.fn f [] [.hp id 0]) h (.fn f [] [.ro [.str s]]) (h.set id (.var true [.str s])):=fun n=>by
  simp[Am.snap,Am.GS,AG,AV.AA,hh]
 exact this.at (by decide)
theorem c270{d:AK}{dx:List AV}(hd:Ac d dx)(s:Bytes)(h:AF):∃ B,AI MX (AE MX) 270 [.agg dx,.ro [.str s]] h=some (.ret (.bool (d.nm == s)),h++[B]):=by
 obtain⟨pv,cv,rfl,hp,hc⟩:=hd.dest;refine⟨_,CV Xd aQ (by simp[AJ,f270] <;> first | exact⟨rfl,rfl⟩ | rfl)⟩
theorem t175{l:List AK}{v:AV}(s:Bytes)(hv:SlR Ac 3 l v)(hl:l.length<1048577):∃ G,AJ MX 175 [v,.fn 270 [] [.ro [.str s]]] []=some (.ret (.int .i64 (ixI (l.findIdx? (fun x:AK=>x.nm == s)))),G):=by
 obtain⟨e,st,hlp,hq⟩:=AU (M:=MX) (fid:=175) (N:=19) (C:=AE MX) (c:=AL f175 0) (n:=l.length) (fun i (b:AF)=>([(0,v),(1,.fn 270 [] [.ro [.str s]]),(7,.int .i64 l.length),(8,.int .i64 i)],b)) (fun i _=>∀ j (hj:j<l.length),j<i->(fun x:AK=>x.nm == s) l[j]=false)
  (fun r=>∃ b:AF,(r=(.ext 0,([(0,v),(1,.fn 270 [] [.ro [.str s]]),(7,.int .i64 l.length),(8,.int .i64 l.length),(9,.bool false)],b))/\l.findIdx? (fun x:AK=>x.nm == s)=none)\/(∃ i:Nat,r=(.ret,([(4,.int .i64 i)],b))/\l.findIdx? (fun x:AK=>x.nm == s)=some i)) (fun i b hi hI=>by
    obtain⟨e,he,hR⟩:=hv.ix hi;have hi':=AZ hi;have hw:=AY hi hl;obtain⟨B,hcall⟩:=c270 hR s b;obtain⟨pv,cv,rfl,hp,hc⟩:=hR.dest;cases hx:(l[i].nm == s)with
    | true=>rw[hx]at hcall;exact .inr ⟨_,_,by simp[f175,hi',he,hcall] <;> exact⟨rfl,rfl⟩,by simp,b++[B],.inr ⟨i,rfl,Fc (p:=(fun x:AK=>x.nm == s)) hi hI hx⟩⟩
    | false=>rw[hx]at hcall;exact .inl ⟨b++[B],by simp[f175,hi',he,hcall,hw],Ff (p:=(fun x:AK=>x.nm == s)) hi hI hx⟩) (fun b hI=>by
    exact⟨_,_,by simp[f175] <;> exact⟨rfl,rfl⟩,by simp,b,.inl ⟨rfl,Fe (p:=(fun x:AK=>x.nm == s)) fun j hj=>hI j hj hj⟩⟩) [] (fun j _ h0=>by omega)
 simp[f175]at hlp;obtain⟨b,hq⟩:=hq;rcases hq with⟨hq,hs⟩ | ⟨i,hq,hs⟩ <;> cases hq <;> exact⟨b,by simp[AJ,f175,hv.len,hlp,hs,ixI]⟩
theorem c175{l:List AK}{v:AV}(s:Bytes)(hv:SlR Ac 3 l v)(hl:l.length<1048577){k:Nat}{b:Bool}{h:AF}(hk:h[k]? = some (.var b [.str s])):AI MX (AE MX) 175 [v,.fn 270 [] [.hp k 0]] h=some (.ret (.int .i64 (ixI (l.findIdx? (fun x:AK=>x.nm == s)))),h.set k (.var true [.str s])):=by
 obtain⟨G,hG⟩:=t175 s hv hl;exact FA (by simp[LG]) (args':=[v,.fn 270 [] [.ro [.str s]]]) (by simp[A4,hv.AA,Xt hk,AV.AA,AG]) (by simp[hv.AA,AV.AA,AG]) (Af LG Ti (by simp[hv.AA,AV.AA,AG]) rfl hG _)
theorem c261{l:List AK}{lv:AV}(s:Bytes)(hv:SlR Ac 3 l lv)(hl:l.length<1048577){pr:AV}(hpr:pr.AA=true)(hcp:pr.cells=some [pr])(h:AF) : 
 (l.findIdx? (fun x:AK=>x.nm == s)=none->AI MX (AE MX) 261 [.agg [lv,pr],.str s] h=some (.ret (.tup [.agg [.str [],.AH,.AH],.bool false]),h)) /\
 (∀ i (hi:i<l.length),l.findIdx? (fun x:AK=>x.nm == s)=some i->∃ dx,Ac l[i] dx/\∀ h,AI MX (AE MX) 261 [.agg [lv,pr],.str s] h=some (.ret (.tup [.agg dx,.bool true]),h)):=by
 have hn:([AV.agg [lv,pr],AV.str s]:List AV).all AV.AA=true:=by simp[AV.AA,AG,hv.AA,hpr]
 have h175:=c175 s hv hl (k:=1) (b:=false) (h:=[Blk.var false [lv,pr],Blk.var false [.str s],Blk.var false [.str [],.AH,.AH]]) rfl;constructor
 .intro hf;rw[hf]at h175;simp[ixI]at h175;exact Af RF Tw hn (by simp[AV.AA,AG]) (by simp[AJ,f261,h175,hv.cells,hcp] <;> rfl) h
 .intro i hi hf;rw[hf]at h175;simp[ixI]at h175;obtain⟨e,he,hR⟩:=hv.ix hi;have hn0:¬ ((i:Int)<0):=by omega
  have hR0:=hR;obtain⟨pv,cv,rfl,hp,hc⟩:=hR.dest;exact⟨_,hR0,fun h=>Af RF Tw hn (by simp[AV.AA,AG,hp.AA,hc.AA]) (by simp[AJ,f261,h175,hv.cells,hcp,hn0,he] <;> rfl) h⟩
theorem c263{lv pr:AV}(hlc:lv.cells=some [lv])(hpc:pr.cells=some [pr]){t:TyV}{e:List AV}(hR:AR t e){r:Int}(hr:∀ h,AI MX (AE MX) 236 [.agg [lv,pr],.agg e] h=some (.ret (.int .i64 r),h))(i:Int)(T:AF) :
 ∃ T',AI MX (AE MX) 263 [.int .i64 i,.agg e,.hp 0 0] (Blk.var false [lv,pr]::T)=some (.ret (.int .i64 r),Blk.var false [lv,pr]::T'):=by
 obtain⟨pv,rfl,hp⟩:=hR.Ab;exact⟨_,CV XZ aM (by simp[AJ,f263,hlc,hpc,hr] <;> rfl)⟩
theorem Nb{l:List AK}{params:List Bytes}{ps:List TyV}{i:Nat}(hi:i<ps.length):CP l params (ps.drop i)=if Aj l params ps[i]=0 then CP l params (ps.drop (i+1))else Aj l params ps[i]:=by
 rw[De hi];rfl
theorem c236{l:List AK}{lv:AV}(hl:SlR Ac 3 l lv)(hll:l.length<1048577){params:List Bytes}{pr:AV}(hpr:SlR Cv 1 params pr)(hpl:params.length<1048577)(hps:∀ d∈l,d.params.length<1048577)(hB:∀ d∈l,(d.nm == DM)=false/\(d.nm == CO)=false)(t:TyV):∀(xs:List AV),AR t xs->Sm 1048577 t->∀ h,
 AI MX (AE MX) 236 [.agg [lv,pr],.agg xs] h=some (.ret (.int .i64 (Aj l params t)),h):=by
 induction t using TyV.ind with
 | h k v nm ps ih=>
  intro xs hx hs h;have hn:([.agg [lv,pr],AV.agg xs]:List AV).all AV.AA=true:=by simp[AV.AA,AG,hx.AG,hl.AA,hpr.AA]
  obtain⟨pv,rfl,hp⟩:=hx.dest;obtain⟨s1,s2,s3⟩:=hs.dest;obtain⟨h261a,h261b⟩:=c261 nm hl hll hpr.AA hpr.cells [];have h260:=c260 nm hpr hpl;have tail:∀ rest:AF,∃(i:Nat) (err:Int) (H':AF),AI MX (AE MX) 262 [pv,.fn 263 [] [.hp 0 0]] (Blk.var false [lv,pr]::rest)=some (.ret (.tup [.int .i64 i,.int .i64 err]),H')/\err=CP l params ps:=by
   intro rest;obtain⟨i,err,H',h1,h2⟩:=ab hp s2 (fun a e h=>h.len) (g:=263) (cap:=[.hp 0 0]) XY (fun i H=>(∃ T,H=Blk.var false [lv,pr]::T)/\CP l params ps=CP l params (ps.drop i)) (fun i err H=>err=CP l params ps) (fun i hi e H hR hI=>by
    obtain⟨⟨T,rfl⟩,hI⟩:=hI;obtain⟨T',hc⟩:=c263 hl.cells hpr.cells hR (ih _ (Ap hi) e hR (s3 _ (Ap hi))) i (T++[Blk.var false e]);rw[Nb hi]at hI;refine⟨_,_,by simpa using hc,fun h0=>⟨⟨T',rfl⟩,?_⟩,fun h0 => ?_⟩
    .rw[if_pos h0]at hI;exact hI
    .rw[if_neg h0]at hI;exact hI.symm) (Blk.var false [lv,pr]::rest) ⟨⟨rest,rfl⟩,by simp⟩
   refine⟨i,err,H',h1,?_⟩;rcases h2 with⟨a,_,_,c⟩ | ⟨_,_,c⟩
   .rw[c,C3,a];rfl
   .exact c
  have fin:∀(n:Nat),EK l k nm=some n->0<=k/\k<=2->(k=0->params.findIdx? (fun x=>x == nm)≠none)->Aj l params (.mk k v nm ps)=(if ps.length≠n then 10 else if k=2/\¬ (0<=v/\v<=1000000000)then 2 else CP l params ps):=fun n hc hk h0=>by
   simp only[Aj];rw[if_neg (by simp;omega),if_neg (fun h=>h0 h.1 h.2),hc]
  suffices hh:∃ hr,AJ MX 236 [.agg [lv,pr],.agg [.int .i64 k,.int .i64 v,.str nm,pv]] []=some (.ret (.int .i64 (Aj l params (.mk k v nm ps))),hr) by
   obtain⟨hr,hh⟩:=hh;exact Af XP aF hn rfl hh h
  by_cases k0:k=0
  .subst k0;cases hf:params.findIdx? (fun x=>x == nm)with
   | none=>
    rw[hf]at h260;exact⟨_,by simp[AJ,f236,h260,Aj,hf] <;> rfl⟩
   | some j=>
    rw[hf]at h260;rw[fin 0 (by simp[EK]) (by simp) (by simp[hf])];by_cases hz:ps.length=0
    .obtain⟨i,err,H',hc,he⟩:=tail [Blk.var false [.int .i64 0,.int .i64 v,.str nm,pv]];exact⟨_,by simp[AJ,f236,h260,hz,hp.len,hc,he,Sa] <;> rfl⟩
    .have hz':((ps.length:Int) != 0)=true:=(by rw[bne_iff_ne];omega);exact⟨_,by simp[AJ,f236,h260,hp.len,hz,hz'] <;> rfl⟩
  .by_cases k1:k=1
   .subst k1;cases hf:l.findIdx? (fun x=>x.nm == nm)with
    | none=>
     have h1:=h261a hf;have h2:∀ h,AI MX (AE MX) 261 [.agg [lv,pr],.str nm] h=some (.ret (.tup [.agg [.str [],.AH,.AH],.bool false]),h):=fun h=>(c261 nm hl hll hpr.AA hpr.cells h).1 hf
     by_cases hb:nm=DM
     .have hb1:(nm == DM)=true:=(by simp[hb]);rw[fin 1 (by simp[EK,hb1]) (by simp) (by simp)];by_cases hz:ps.length=1
      .obtain⟨i,err,H',hc,he⟩:=tail [Blk.var false [.int .i64 1,.int .i64 v,.str nm,pv],Blk.var false [.str [],.AH,.AH]];simp only[hb,DM]at h2 hc;exact⟨_,by simp[AJ,f236,h2,hz,hp.len,hc,he,hb,DM] <;> rfl⟩
      .have hz':((ps.length:Int) != 1)=true:=(by rw[bne_iff_ne];omega);rw[hb]at h2;simp only[DM]at h2;exact⟨_,by simp[AJ,f236,h2,hz,hz',hp.len,hb,DM] <;> rfl⟩
     .have hb1:(nm == DM)=false:=(by simp[hb]);by_cases hb2:nm=CO
      .have hb3:(nm == CO)=true:=(by simp[hb2]);rw[fin 0 (by simp[EK,hb1,hb3]) (by simp) (by simp)];by_cases hz:ps.length=0
       .obtain⟨i,err,H',hc,he⟩:=tail [Blk.var false [.int .i64 1,.int .i64 v,.str nm,pv],Blk.var false [.str [],.AH,.AH]];simp only[hb2,CO]at h2 hc;exact⟨_,by simp[AJ,f236,h2,hz,hp.len,hc,he,hb2,CO] <;> rfl⟩
       .have hz':((ps.length:Int) != 0)=true:=(by rw[bne_iff_ne];omega);rw[hb2]at h2;simp only[CO]at h2;exact⟨_,by simp[AJ,f236,h2,hz,hz',hp.len,hb2,CO] <;> rfl⟩
      .have hb3:(nm == CO)=false:=(by simp[hb2]);have hr:Aj l params (.mk 1 v nm ps)=6:=by
        simp[Aj,EK,hb1,hb3,hf]
       rw[hr];simp only[DM]at hb1;simp only[CO]at hb3;exact⟨_,by simp[AJ,f236,h2,hb1,hb3] <;> rfl⟩
    | some j=>
     have hj:=G8 hf;obtain⟨dx,hd,h2⟩:=(c261 nm hl hll hpr.AA hpr.cells h).2 j hj hf;obtain⟨qv,cv,rfl,hq,hcv⟩:=hd.dest;have hnm:(l[j].nm == nm)=true:=by
      rw[I8]at hf;exact hf.2.1
     have hnm':l[j].nm=nm:=(by simpa using hnm);obtain⟨hb1,hb3⟩:=hB _ (Ap hj);rw[hnm']at hb1 hb3;have hpj:=hps _ (Ap hj);rw[fin l[j].params.length (by simp[EK,hb1,hb3,hf,hj]) (by simp) (by simp)];by_cases hz:ps.length=l[j].params.length
     .obtain⟨i,err,H',hc,he⟩:=tail [Blk.var false [.int .i64 1,.int .i64 v,.str nm,pv],Blk.var false [.str l[j].nm,qv,cv]];exact⟨_,by simp[AJ,f236,h2,hz,hp.len,hq.len,hc,he] <;> rfl⟩
     .have hz':((ps.length:Int) != (l[j].params.length:Int))=true:=(by rw[bne_iff_ne];omega);exact⟨_,by simp[AJ,f236,h2,hz,hz',hp.len,hq.len] <;> rfl⟩
   .by_cases k2:k=2
    .subst k2;rw[fin 0 (by simp[EK]) (by simp) (by simp)];by_cases hz:ps.length=0
     .by_cases hv:0<=v/\v<=1000000000
      .obtain⟨i,err,H',hc,he⟩:=tail [Blk.var false [.int .i64 2,.int .i64 v,.str nm,pv]];exact⟨_,by simp[AJ,f236,hz,hp.len,hc,he,Sa,hv] <;> rfl⟩
      .exact⟨_,by simp[AJ,f236,hz,hp.len,Sa,hv] <;> rfl⟩
     .have hz':((ps.length:Int) != 0)=true:=(by rw[bne_iff_ne];omega);exact⟨_,by simp[AJ,f236,hp.len,hz,hz'] <;> rfl⟩
    .have hr:Aj l params (.mk k v nm ps)=15:=by
      simp only[Aj];rw[if_pos (by omega)]
     rw[hr];have e0:(k == 0)=false:=(by simp[k0]);have e1:(k == 1)=false:=(by simp[k1]);have e2:(k == 2)=false:=(by simp[k2]);exact⟨_,by simp[AJ,f236,e0,e1,e2] <;> rfl⟩
theorem c194{l:List AK}{lv:AV}(hl:SlR Ac 3 l lv)(hll:l.length<1048577){params:List Bytes}{pr:AV}(hpr:SlR Cv 1 params pr)(hpl:params.length<1048577)(hps:∀ d∈l,d.params.length<1048577)(hB:∀ d∈l,(d.nm == DM)=false/\(d.nm == CO)=false){t:TyV}{xs:List AV}(hx:AR t xs)(hs:Sm 1048577 t)(h:AF) :
 AI MX (AE MX) 194 [.agg [lv,pr],.agg xs] h=some (.ret (.int .i64 (Bx l params t)),h):=by
 have hn:([.agg [lv,pr],AV.agg xs]:List AV).all AV.AA=true:=by simp[AV.AA,AG,hx.AG,hl.AA,hpr.AA]
 have h1:=c234 hx hs;have h2:=c236 hl hll hpr hpl hps hB t xs hx hs;obtain⟨pv,rfl,hp⟩:=hx.Ab;cases hT:Bp t <;> rw[hT]at h1 <;> simp only[ES,if_false,if_true]at h1
 .exact Af Q5 Tl hn rfl (by simp[AJ,Tryz.f194,h1,Bx,hT] <;> rfl) h
 .exact Af Q5 Tl hn rfl (by simp[AJ,Tryz.f194,h1,h2,Bx,hT,hl.cells,hpr.cells] <;> rfl) h
theorem On:∀(k:Nat) (s:AF) {x:Nat},x∈JO k s->k<=x
 | _,[],x,h=>by simp[JO]at h
 | k,_::r,x,h=>by
  simp only[JO,Cd]at h;rcases h with rfl | h
  .exact CZ _
  .have:=On (k+1) r h;omega
theorem Mb:∀(k:Nat) (H H':AF) {x:Nat},x∈Da k H H'->k<=x
 | k,[],s,x,h=>by
  simp only[Da]at h;exact On k s h
 | k,_::r,[],x,h=>by
  simp only[Da,Cd]at h;rcases h with rfl | h
  .exact CZ _
  .have:=Mb (k+1) r [] h;omega
 | k,b::r,c::s,x,h=>by
  simp only[Da]at h;split at h
  .have:=Mb (k+1) r s h;omega
  .simp only[Cd]at h;rcases h with rfl | h
   .exact CZ _
   .have:=Mb (k+1) r s h;omega
def strs(l:List Bytes):List (List AV):=l.map fun s=>[.str s]
theorem Nc(l:List Bytes)(ex:Bool):SlR Cv 1 l (.sl 1 ex (strs l)):=.inr ⟨ex,strs l,rfl,by simp[strs],fun i a e h1 h2=>by
 simp only[strs,Fx,h1,E0,AN]at h2;exact h2.symm⟩
theorem HC(l:List Bytes):(strs l).all AG=true:=by simp[strs,AG,AV.AA]
def SA(H:AF)(k:Nat)(o:Option Nat)(l:List Bytes):Prop:=match o with
 | none=>l=[]/\H[k]? = some (.var false [.AH])
 | some j=>l≠[]/\H[k]? = some (.var false [.hs j l.length 1 0 l.length false])/\∃ lk,H[j]? = some (.arr 1 lk (strs l))
theorem SA.frame{H H':AF}{k:Nat}{o:Option Nat}{l:List Bytes}(h:SA H k o l)(hf:∀ m,m=k\/o=some m->H'[m]? = H[m]?):SA H' k o l:=by
 cases o with
 | none=>exact⟨h.1,by rw[hf k (.inl rfl)];exact h.2⟩
 | some j=>exact⟨h.1,by rw[hf k (.inl rfl)];exact h.2.1,by rw[hf j (.inr rfl)];exact h.2.2⟩
def Oth(o:Option Nat)(H H':AF):Prop:=H.length<=H'.length/\∀ m,m<H.length->o≠some m->H'[m]? = H[m]?
theorem Oth.refl(o:Option Nat)(H:AF):Oth o H H:=⟨CZ _,fun _ _ _=>rfl⟩
theorem Oth.app(o:Option Nat)(H l:AF):Oth o H (H++l):=⟨by simp,fun m hm _=>by rw[BA hm]⟩
theorem SA.app{H:AF}{k:Nat}{o:Option Nat}{l:List Bytes}(h:SA H k o l)(b:AF):SA (H++b) k o l:=by
 cases o with
 | none=>exact⟨h.1,Av h.2 b⟩
 | some j=>exact⟨h.1,Av h.2.1 b,h.2.2.imp fun _ x=>Av x b⟩
theorem SA.lt{H:AF}{k:Nat}{o:Option Nat}{l:List Bytes}(h:SA H k o l):k<H.length/\∀ j,o=some j->j<H.length/\j≠k:=by
 cases o with
 | none=>exact⟨(Ae.1 h.2).1,fun j hj=>by cases hj⟩
 | some j=>exact⟨(Ae.1 h.2.1).1,fun i hi=>by
  cases hi;obtain⟨lk,hj⟩:=h.2.2;refine⟨(Ae.1 hj).1,fun he => ?_⟩;subst he;have h3:=h.2.1;rw[hj]at h3;cases h3⟩
theorem T5:∀(k:Nat) (H H':AF) (x:Nat),x<H.length->H'[x]? = H[x]? -> (k+x∈Da k H H')=False
 | k,b::r,c::s,0,_,he=>by
  simp only[HJ,AN]at he;subst he;simp only[Da,EN];simp only[eq_iff_iff,iff_false];intro hm;have:=Mb (k+1) r s hm;omega
 | k,b::r,c::s,x+1,hx,he=>by
  have ih:=T5 (k+1) r s x (by simpa using hx) (by simpa using he);have:k+(x+1)=k+1+x:=by omega
  rw[this];simp only[Da];split
  .exact ih
  .simp only[Cd,ih,or_false];simp only[eq_iff_iff,iff_false];omega
 | k,b::r,[],x,hx,he=>by
  simp only[D8]at hx;have h2:(b::r)[x]? = some ((b::r)[x]'(by simpa using hx)):=AW _;rw[h2]at he;simp at he
 | _,[],_,x,hx,_=>by simp at hx
theorem Cx{H H':AF}{x:Nat}(hx:x<H.length)(he:H'[x]? = H[x]?):(x∈Da 0 H H')=False:=by
 have:=T5 0 H H' x hx he
 rwa [D1]at this
theorem SA.give{H:AF}{k:Nat}{o:Option Nat}{l:List Bytes}(h:SA H k o l):∃ a,H[k]? = some (.var false [a])/\a.cells=some [a]/\(∃ a' H',((a.AA=true->a'=a/\H'=H)/\(a.AA=false->Am.snap Ds a H=some (a',H')))/\a'.AA=true/\SlR Cv 1 l a'/\SA H' k o l/\Oth o H H'/\H'.length=H.length):=by
 cases o with
 | none=>exact⟨.AH,h.2,rfl,.AH,H,⟨fun _=>⟨rfl,rfl⟩,fun h=>by cases h⟩,rfl,.inl ⟨h.1,rfl⟩,h,Oth.refl _ _,rfl⟩
 | some j=>
  obtain⟨h0,h1,lk,h2⟩:=h;have hjk:j≠k:=(SA.lt (o:=some j) ⟨h0,h1,lk,h2⟩).2 j rfl |>.2
  have hj:=(Ae.1 h2).1;have hsn:Am.snap Ds (.hs j l.length 1 0 l.length false) H=some (.sl 1 false (strs l),H.set j (.arr 1 true (strs l))):=by
   have hb:(Nat.beq (strs l).length l.length&&Nat.beq 1 1&&Nat.ble (0+l.length) (strs l).length&&(strs l).all AG)=true:=(by simp[A1,A8,HC];simp[strs]);have:BB 1 (.hs j l.length 1 0 l.length false) H (.sl 1 false (strs l)) (H.set j (.arr 1 true (strs l))):=fun n=>by
    simp only[Am.snap,h2,hb];simp[strs,DC]
   exact this.at (by decide)
  refine⟨_,h1,rfl,_,_,⟨fun h=>(by cases h),fun _=>hsn⟩,rfl,Nc l false,⟨h0,by rw[BT hjk];exact h1,true,by simp[hj]⟩,⟨by simp,fun m _ hm => ?_⟩,by simp⟩;rw[BT (fun he=>hm (by rw[he]))]
theorem SA.push{H:AF}{k:Nat}{o:Option Nat}{l:List Bytes}(h:SA H k o l)(s:Bytes)(ex:Bool)(hl:l.length<16777216):∃ a a' H' o',H[k]? = some (.var false [a])/\a.cells=some [a]/\apA 1 16 a (.sl 1 ex [[.str s]]) H=some (a',H')/\a'.cells=some [a']/\k<H'.length/\H'[k]? = some (.var false [a]) /\
 SA (H'.set k (.var false [a'])) k o' (l++[s])/\Oth o H H'/\(o'=o\/o=none/\∃ j,o'=some j/\H.length<=j):=by
 cases o with
 | none=>
  obtain⟨h0,h1⟩:=h;have hk:=(Ae.1 h1).1;subst h0;refine⟨.AH,.hs H.length 1 1 0 1 false,H++[.arr 1 false [[.str s]]],some H.length,h1,rfl,by simp[apA,apX,A7,CC,BM,F6,A3,A1,A8,CM],rfl,by simp;omega,Av h1 _,⟨by simp,by simp[List.getElem?_set];omega,false,?_⟩,Oth.app _ _ _,.inr ⟨rfl,_,rfl,CZ _⟩⟩;rw[BT (by omega)];simp[strs]
 | some j=>
  obtain⟨h0,h1,lk,h2⟩:=h;obtain⟨hk,hj'⟩:=SA.lt (o:=some j) ⟨h0,h1,lk,h2⟩;obtain⟨hj,hjk⟩:=hj' j rfl;have hlen:(strs l).length=l.length:=by simp[strs]
  refine⟨_,.hs j (l.length+1) 1 0 (l.length+1) false,H.set j (.arr 1 lk (strs (l++[s]))),some j,h1,rfl,?_,rfl,by simpa using hk,by rw[BT hjk];exact h1,⟨by simp,by simp[List.getElem?_set,hk],lk,?_⟩,⟨by simp,fun m _ hm => ?_⟩,.inl rfl⟩
  .have e2:(l.length+1) * 16<=17592186044416:=(by omega);have e3:l.length+1<=17592186044416:=(by omega);have e4:List.take l.length (strs l)=strs l:=DC (by omega);simp[apA,apX,A7,CC,BM,F6,A3,A1,A8,CM,e2,e3,h2,hlen,e4];simp[strs]
  .rw[BT (fun he=>hjk he.symm)];simp[hj]
  .rw[BT (fun he=>hm (by rw[he]))]
theorem cQ{H:AF}{k:Nat}{o:Option Nat}{l:List Bytes}(h:SA H k o l)(hl:l.length<1048577)(s:Bytes)(hs:s.length<1048577):∃ a H',H[k]? = some (.var false [a])/\a.cells=some [a]/\AI MX (AE MX) 252 [.str s,a] H=some (.ret (.int .i64 (C8 s l)),H')/\SA H' k o l/\Oth o H H'/\H'.length=H.length:=by
 obtain⟨a,h1,h2,a',H',h3,h4,h5,h6,h7,h8⟩:=h.give;refine⟨a,H',h1,h2,FA (by simp[NR]) (args':=[.str s,a']) ?_ (by simp[AV.AA,h4]) (c252 s hs h5 hl H'),h6,h7,h8⟩;cases hN:a.AA with
 | true=>
  obtain⟨rfl,rfl⟩:=h3.1 hN;simp only[A4,AV.AA,hN]
 | false=>simp only[A4,AV.AA,hN,h3.2 hN]
theorem SA.var{H:AF}{k x:Nat}{o:Option Nat}{l:List Bytes}(h:SA H k o l){b:Bool}{cs:List AV}(hx:H[x]? = some (.var b cs)):o≠some x:=fun he=>by
 subst he;obtain⟨lk,h2⟩:=h.2.2;rw[h2]at hx;cases hx
theorem SA.old{H:AF}{k x:Nat}{o:Option Nat}{l:List Bytes}(h:SA H k o l)(hx:H.length<=x):o≠some x:=fun he=>by
 have:=(h.lt.2 x he).1;omega
def RL(l:List AK)(params:List Bytes)(done:List Bytes)(f:DA):Int:=if BL f.nm=false then 4 else if(done.findIdx? (fun x=>x == f.nm)).isSome then 5 else Bx l params f.ty
theorem get2(H:AF)(b:Blk):(H++[b,b])[H.length+1]? = some b:=by simp
theorem c258{l:List AK}{lv:AV}(hl:SlR Ac 3 l lv)(hll:l.length<1048577){params:List Bytes}{pr:AV}(hpr:SlR Cv 1 params pr)(hpl:params.length<1048577)(hps:∀ d∈l,d.params.length<1048577)(hB:∀ d∈l,(d.nm == DM)=false/\(d.nm == CO)=false)
 {f:DA} {fx:List AV} (hf:Bo f fx) (hsf:SmF 1048577 f) {H:AF} {m s0:Nat} {o:Option Nat} {done:List Bytes} (hS:SA H m o done) (hdl:done.length<1048576) (hst:H[s0]? = some (.var false [lv,pr])) (hne:s0≠m) (i:Int) :
 ∃ err H',AI MX (AE MX) 258 [.int .i64 i,.agg fx,.hp m 0,.hp s0 0] (H++[Blk.var false fx])=some (.ret (.int .i64 err),H')/\err=RL l params done f/\(err=0->∃ o',SA H' m o' (done++[f.nm])/\(o'=o\/o=none/\∃ j,o'=some j/\H.length<=j))/\(∀ x,x<H.length->x≠m->o≠some x->H'[x]? = H[x]?)/\H.length<=H'.length:=by
 obtain⟨tx,rfl,ht⟩:=hf;have h194:=c194 hl hll hpr hpl hps hB ht hsf.2;obtain⟨pv,rfl,hpv⟩:=ht.Ab;obtain⟨a,H1,g1,g2,g3,g4,g5,g6⟩:=cQ (hS.app [Blk.var false [.str f.nm,.int .i64 f.ty.k,.int .i64 f.ty.v,.str f.ty.nm,pv],Blk.var false [.str f.nm,.int .i64 f.ty.k,.int .i64 f.ty.v,.str f.ty.nm,pv]]) (by omega) f.nm hsf.1;have hbx:=get2 H (Blk.var false [.str f.nm,.int .i64 f.ty.k,.int .i64 f.ty.v,.str f.ty.nm,pv]);have hm:=hS.lt.1;have hs0:=(Ae.1 hst).1;have fr:∀ x,x<H.length->o≠some x->H1[x]? = H[x]? := fun x hx ho=>by
  rw[g5.2 x (by simp;omega) ho,BA hx]
 unfold RL;by_cases h0:C8 f.nm done=0
 .obtain⟨a1,a',H2,o',p1,p2,p3,p4,p5,p6,p7,p8,p9⟩:=g4.push f.nm true (by omega);have hbx1:H1[H.length+1]? = some (Blk.var false [.str f.nm,.int .i64 f.ty.k,.int .i64 f.ty.v,.str f.ty.nm,pv]):=by rw[g5.2 _ (by simp) (hS.old (by omega))];exact hbx
  have hbx2:H2[H.length+1]? = some (Blk.var false [.str f.nm,.int .i64 f.ty.k,.int .i64 f.ty.v,.str f.ty.nm,pv]):=by rw[p8.2 _ (by rw[g6];simp) (hS.old (by omega))];exact hbx1
  have hst1:H1[s0]? = some (.var false [lv,pr]):=by rw[fr s0 hs0 (hS.var hst)];exact hst
  have hst2:H2[s0]? = some (.var false [lv,pr]):=by rw[p8.2 s0 (by rw[g6];simp;omega) (hS.var hst)];exact hst1
  have hst3:(H2.set m (.var false [a']))[s0]? = some (.var false [lv,pr]):=by rw[BT (fun h=>hne h.symm)];exact hst2
  have hbx3:(H2.set m (.var false [a']))[H.length+1]? = some (Blk.var false [.str f.nm,.int .i64 f.ty.k,.int .i64 f.ty.v,.str f.ty.nm,pv]):=by rw[BT (by omega)];exact hbx2
  have hq:BL f.nm=true/\(done.findIdx? (fun x=>x == f.nm)).isSome=false:=by
   unfold C8 at h0;cases hN:BL f.nm <;> cases hC:(done.findIdx? (fun x=>x == f.nm)).isSome <;> rw[hN,hC]at h0 <;> simp at h0 <;> simp
  rw[h0]at g3;rw[hq.1,hq.2];refine⟨Bx l params f.ty,H2.set m (.var false [a']),?_,by simp,fun _=>⟨o',p7,?_⟩,fun x hx hxm hxo => ?_,?_⟩
  .refine CV RE Tv ?_;simp[AJ,Tryz.f258,hbx,g1,g2,g3,hbx1,p1,p2,p3,p4,p6,hst3,hbx3,h194,hl.cells,hpr.cells,bsA,Aq,List.replicate,AG,AV.AA]
  .rcases p9 with h | ⟨h,j,h2,h3⟩
   .exact .inl h
   .exact .inr ⟨h,j,h2,by rw[g6]at h3;simp at h3;omega⟩
  .rw[BT (fun h=>hxm h.symm),p8.2 x (by rw[g6];simp;omega) hxo];exact fr x hx hxo
  .have:=p8.1;rw[g6]at this;simp at this ⊢;omega
 .have h0':(C8 f.nm done != 0)=true:=by simp[h0]
  refine⟨C8 f.nm done,H1,?_,?_,fun h=>absurd h h0,fun x hx _ ho=>fr x hx ho,by rw[g6];simp⟩
  .refine CV RE Tv ?_;simp[AJ,Tryz.f258,hbx,g1,g2,g3,h0']
  .unfold C8 at h0 ⊢;cases hN:BL f.nm <;> cases hC:(done.findIdx? (fun x=>x == f.nm)).isSome <;> rw[hN,hC]at h0 <;> simp at h0 <;> simp
theorem Si{α:Type}(f:α->Bytes)(l:List α)(s:Bytes):((l.map f).findIdx? (fun x=>x == s)).isSome=(l.findIdx? (fun x=>f x == s)).isSome:=by
 rw[List.findIdx?_map];rfl
theorem Sj{α:Type}(p:α->Bool)(l m:List α):((l++m).findIdx? p).isSome=((l.findIdx? p).isSome||(m.findIdx? p).isSome):=by
 simp only[Mi,List.any_append]
theorem Pw{l:List AK}{params:List Bytes}{prev:List DA}{f:DA}{r:List DA}:E4 l params prev (f::r)=if RL l params (prev.map DA.nm) f=0 then E4 l params (prev++[f]) r else RL l params (prev.map DA.nm) f:=by
 simp only[E4,RL,Si];cases BL f.nm <;> cases(prev.findIdx? (fun g=>g.nm == f.nm)).isSome <;> simp
theorem VX{l:List AK}{lv:AV}(hl:SlR Ac 3 l lv)(hll:l.length<1048577){params:List Bytes}{pr:AV}(hpr:SlR Cv 1 params pr)(hpl:params.length<1048577)(hps:∀ d∈l,d.params.length<1048577)(hB:∀ d∈l,(d.nm == DM)=false/\(d.nm == CO)=false)
 {fs:List DA} {fv:AV} (hf:SlR Bo 5 fs fv) (hfl:fs.length<=8) (hsf:∀ f∈fs,SmF 1048577 f) {A:AF} {s0:Nat} (hst:A[s0]? = some (.var false [lv,pr])) :
 ∃(i:Nat) (err:Int) (H':AF),AI MX (AE MX) 257 [fv,.fn 258 [] [.hp A.length 0,.hp s0 0]] (A++[Blk.var false [.AH]])=some (.ret (.tup [.int .i64 i,.int .i64 err]),H')/\err=E4 l params [] fs/\(err=0->A.length<=H'.length/\∀ x,x<A.length->H'[x]? = A[x]?):=by
 have hs0:=(Ae.1 hst).1;obtain⟨i,err,H',h1,h2⟩:=aa hf (by omega) (fun a e h=>by obtain⟨tx,rfl,ht⟩:=h;simp[ht.len]) (g:=258) (cap:=[.hp A.length 0,.hp s0 0]) XV
  (fun i H=>(∃ o,SA H A.length o ((fs.take i).map DA.nm)/\∀ j,o=some j->A.length<j)/\(∀ x,x<A.length->H[x]? = A[x]?)/\A.length<H.length/\E4 l params [] fs=E4 l params (fs.take i) (fs.drop i))
  (fun i err H=>err=E4 l params [] fs) (fun i hi e H hR hI=>by
    obtain⟨⟨o,hS,ho⟩,hx,hlen,hI⟩:=hI;obtain⟨err,H',h1,h2,h3,h4,h5⟩:=c258 hl hll hpr hpl hps hB hR (hsf _ (Ap hi)) hS (by simp;omega) (by rw[hx s0 hs0];exact hst) (by omega) i;rw[De hi,Pw]at hI;refine⟨err,H',h1,fun h0 => ?_,fun h0 => ?_⟩
    .obtain⟨o',h6,h7⟩:=h3 h0;rw[<- h2,if_pos h0]at hI;have htk:fs.take i++[fs[i]]=fs.take (i+1):=(by simp);have htk2:(fs.take i).map DA.nm++[fs[i].nm]=(fs.take (i+1)).map DA.nm:=(by rw[<- htk,Mn];rfl);rw[htk]at hI;rw[htk2]at h6;refine⟨⟨o',h6,fun j hj => ?_⟩,fun x hxa => ?_,by omega,hI⟩
     .rcases h7 with rfl | ⟨_,j',h8,h9⟩
      .exact ho j hj
      .rw[h8]at hj;cases hj;omega
     .rw[h4 x (by omega) (by omega) (fun hox=>by have:=ho x hox;omega)];exact hx x hxa
    .rw[<- h2,if_neg h0]at hI;exact hI.symm) (A++[Blk.var false [.AH]]) ⟨⟨none,⟨by simp,by simp⟩,fun j hj=>by cases hj⟩,fun x hx=>by rw[BA hx],by simp,by simp⟩
 refine⟨i,err,H',h1,?_,fun h0 => ?_⟩
 .rcases h2 with⟨a,_,_,_,_,c⟩ | ⟨_,_,c⟩
  .rw[c,a,C3];rfl
  .exact c
 .rcases h2 with⟨_,_,_,a,b,_⟩ | ⟨c,_,_⟩
  .exact⟨by omega,a⟩
  .exact absurd h0 c
def LQ(l:List AK)(params:List Bytes)(known:List Bytes)(c:CS):Int:=if BL c.nm=false then 4 else if(known.findIdx? (fun x=>x == c.nm)).isSome then 5 else DN l params c.fields
theorem c256{l:List AK}{lv:AV}(hl:SlR Ac 3 l lv)(hll:l.length<1048577){params:List Bytes}{pr:AV}(hpr:SlR Cv 1 params pr)(hpl:params.length<1048577)(hps:∀ d∈l,d.params.length<1048577)(hB:∀ d∈l,(d.nm == DM)=false/\(d.nm == CO)=false)
 {c:CS} {cx:List AV} (hc:EY c cx) (hsc:SmC 1048577 c) {H:AF} {k s0:Nat} {o:Option Nat} {known:List Bytes} (hS:SA H k o known) (hdl:known.length<1048576) (hst:H[s0]? = some (.var false [lv,pr])) (hne:s0≠k) (i:Int) :
 ∃ err H',AI MX (AE MX) 256 [.int .i64 i,.agg cx,.hp k 0,.hp s0 0] (H++[Blk.var false cx])=some (.ret (.int .i64 err),H')/\err=LQ l params known c/\(err=0->(∃ o',SA H' k o' (known++[c.nm])/\(o'=o\/o=none/\∃ j,o'=some j/\H.length<=j))/\(∀ x,x<H.length->x≠k->o≠some x->H'[x]? = H[x]?)/\H.length<=H'.length):=by
 obtain⟨fv,rfl,hf⟩:=hc.dest;obtain⟨a,H1,g1,g2,g3,g4,g5,g6⟩:=cQ (hS.app [Blk.var false [.str c.nm,fv],Blk.var false [.str c.nm,fv]]) (by omega) c.nm hsc.1;have hbx:=get2 H (Blk.var false [.str c.nm,fv]);have hk:=hS.lt.1;have hs0:=(Ae.1 hst).1;have hml:((H.length+1)∈Da 0 (H++[Blk.var false [.str c.nm,fv],Blk.var false [.str c.nm,fv]]) H1)=False:=Cx (by simp) (g5.2 _ (by simp) (hS.old (by omega)));have hb:=VO;simp[Aa,An,f256]at hb;have fr:∀ x,x<H.length->o≠some x->H1[x]? = H[x]? := fun x hx ho=>by
  rw[g5.2 x (by simp;omega) ho,BA hx]
 have hbx1:H1[H.length+1]? = some (Blk.var false [.str c.nm,fv]):=by rw[g5.2 _ (by simp) (hS.old (by omega))];exact hbx
 have hfl:=hf.Ca;have h217:=c217 [C8 c.nm known,if c.fields.length<=8 then 0 else 8] true (by simp);simp only[ints,Hk,List.map_nil]at h217;by_cases h0:C8 c.nm known=0/\c.fields.length<=8
 .obtain⟨h0,h8⟩:=h0;have h8':((c.fields.length:Int)<=8):=by omega
  rw[h0]at g3 h217;simp only[h8,if_true,A9]at h217;obtain⟨a1,a',H2,o',p1,p2,p3,p4,p5,p6,p7,p8,p9⟩:=g4.push c.nm true (by omega);have hbx2:H2[H.length+1]? = some (Blk.var false [.str c.nm,fv]):=by rw[p8.2 _ (by rw[g6];simp) (hS.old (by omega))];exact hbx1
  have hbx3:(H2.set k (.var false [a']))[H.length+1]? = some (Blk.var false [.str c.nm,fv]):=by rw[BT (by omega)];exact hbx2
  have hbx4:(H2.set k (.var false [a'])++[Blk.var false [AV.AH]])[H.length+1]? = some (Blk.var false [.str c.nm,fv]):=Av hbx3 _;have hst1:H1[s0]? = some (.var false [lv,pr]):=by rw[fr s0 hs0 (hS.var hst)];exact hst
  have hst2:H2[s0]? = some (.var false [lv,pr]):=by rw[p8.2 s0 (by rw[g6];simp;omega) (hS.var hst)];exact hst1
  have hst3:(H2.set k (.var false [a']))[s0]? = some (.var false [lv,pr]):=by rw[BT (fun h=>hne h.symm)];exact hst2
  have hq:BL c.nm=true/\(known.findIdx? (fun x=>x == c.nm)).isSome=false:=by
   unfold C8 at h0;cases hN:BL c.nm <;> cases hC:(known.findIdx? (fun x=>x == c.nm)).isSome <;> rw[hN,hC]at h0 <;> simp at h0 <;> simp
  obtain⟨j,err,H3,q1,q2,q3⟩:=VX hl hll hpr hpl hps hB hf h8 hsc.2.2 hst3;simp only[Fy]at q1 q3;have hlen:H.length+2<=H2.length:=by have:=p8.1;rw[g6]at this;simpa using this
  refine⟨err,H3,?_,?_,fun h=>⟨⟨o',p7.frame fun x hx => ?_,?_⟩,fun x hx hxk hxo => ?_,?_⟩⟩
  .refine CV RC Tt ?_;cases hN:a.AA <;> simp[AJ,f256,hN,hbx,g1,g2,g3,hbx1,hf.len,h8',Lu,h217,hb,hml,hfl,bsA,Aq,List.replicate,AG,AV.AA,p1,p2,p3,p4,p6,hbx4,q1]
  .rw[q2];unfold LQ DN;rw[hq.1,hq.2,if_neg (by omega:¬ 8<c.fields.length)];simp
  .have hxl:x<H2.length:=by
    rcases hx with rfl | hx
    .omega
    .have:=p7.lt.2 x hx;simpa using this.1
   exact(q3 h).2 x hxl
  .rcases p9 with h | ⟨h,j,h2,h3⟩
   .exact .inl h
   .exact .inr ⟨h,j,h2,by rw[g6]at h3;simp at h3;omega⟩
  .rw[(q3 h).2 x (by omega),BT (fun h=>hxk h.symm),p8.2 x (by rw[g6];simp;omega) hxo];exact fr x hx hxo
  .have:=(q3 h).1;omega
 .have hne0:A9 [C8 c.nm known,if c.fields.length<=8 then 0 else 8]=LQ l params known c/\A9 [C8 c.nm known,if c.fields.length<=8 then 0 else 8]≠0:=by
   unfold LQ DN;simp only[A9,C8]at h0 ⊢;by_cases hN:BL c.nm=false
   .simp[hN]
   .by_cases hC:(known.findIdx? (fun x=>x == c.nm)).isSome=true
    .simp[hN,hC]
    .have h8:¬ c.fields.length<=8:=fun h=>h0 ⟨by simp[hN,hC],h⟩
     simp[hN,hC,h8,show 8<c.fields.length by omega]
  obtain⟨e1,e2⟩:=hne0;rw[e1]at h217 e2;have e3:(LQ l params known c != 0)=true:=by simp[e2]
  refine⟨LQ l params known c,H1,?_,rfl,fun h=>absurd h e2⟩;refine CV RC Tt ?_;have h8':((c.fields.length:Int)<=8)=(c.fields.length<=8):=by simp;omega
  by_cases h8:c.fields.length<=8
  .simp only[h8,if_true]at h217;cases hN:a.AA <;> simp[AJ,f256,hN,hbx,g1,g2,g3,hbx1,hf.len,h8',h8,Lu,h217,hb,hml,hfl,bsA,Aq,List.replicate,AG,AV.AA,e3]
  .simp only[h8,if_false]at h217;cases hN:a.AA <;> simp[AJ,f256,hN,hbx,g1,g2,g3,hbx1,hf.len,h8',h8,Lu,h217,hb,hml,hfl,bsA,Aq,List.replicate,AG,AV.AA,e3]
theorem Hx(a b:Bytes):(a == b)=(b == a):=by
 by_cases h:a=b
 .rw[h]
 .have h2:¬ b=a:=fun e=>h e.symm
  rw[beq_eq_false_iff_ne.2 h,beq_eq_false_iff_ne.2 h2]
theorem c252A{H:AF}{j:Nat}{lk:Bool}{l:List Bytes}(h:H[j]? = some (.arr 1 lk (strs l)))(hl:l.length<1048577)(s:Bytes)(hs:s.length<1048577):AI MX (AE MX) 252 [.str s,.hs j l.length 1 0 l.length false] H=some (.ret (.int .i64 (C8 s l)),H.set j (.arr 1 true (strs l))):=by
 have hlen:(strs l).length=l.length:=by simp[strs]
 have hsn:Am.snap Ds (.hs j l.length 1 0 l.length false) H=some (.sl 1 false (strs l),H.set j (.arr 1 true (strs l))):=by
  have hb:(Nat.beq (strs l).length l.length&&Nat.beq 1 1&&Nat.ble (0+l.length) (strs l).length&&(strs l).all AG)=true:=by simp[A1,A8,HC,hlen]
  have:BB 1 (.hs j l.length 1 0 l.length false) H (.sl 1 false (strs l)) (H.set j (.arr 1 true (strs l))):=fun n=>by
   simp only[Am.snap,h,hb];simp[strs,DC]
  exact this.at (by decide)
 refine FA (by simp[NR]) (args':=[.str s,.sl 1 false (strs l)]) (by simp only[A4,AV.AA,hsn]) (by simp[AV.AA]) (c252 s hs (Nc l false) hl _)
def ExS(l:List Bytes)(a:AV):Prop:=(l=[]/\a=.AH)\/a=.sl 1 true (strs l)
theorem ExS.rep{l:List Bytes}{a:AV}(h:ExS l a):SlR Cv 1 l a:=by
 rcases h with⟨rfl,rfl⟩ | rfl
 .exact .inl ⟨rfl,rfl⟩
 .exact Nc l true
theorem ExS.app{l:List Bytes}{a:AV}(h:ExS l a)(x:Bytes)(xs:List Bytes)(hl:l.length+xs.length<1048576)(H:AF):apA 1 16 a (.sl 1 true (strs (x::xs))) H=some (.hs H.length (l++x::xs).length 1 0 (l++x::xs).length false,H++[.arr 1 false (strs (l++x::xs))]):=by
 have hlen:∀ l,(strs l).length=l.length:=fun l=>by simp[strs]
 have e2:(l.length+(xs.length+1)) * 16<=17592186044416:=by omega
 have e3:l.length+(xs.length+1)<=17592186044416:=by omega
 have e4:(xs.length+1) * 16<=17592186044416:=by omega
 have e5:(xs.length+1)<=17592186044416:=by omega
 rcases h with⟨rfl,rfl⟩ | rfl
 .simp[apA,apX,A7,CC,BM,F6,A3,A1,A8,CM,strs,e4,e5]
 .simp[apA,apX,A7,CC,BM,F6,A3,A1,A8,CM,strs,e2,e3]
theorem c254{p:Bytes}{ps:List Bytes}{pv:AV}(hp:SlR Cv 1 ps pv)(hpl:ps.length<1048577)(hps:p.length<1048577){i:Nat}(hi:i<=ps.length){nm cv:AV}(B:Blk)(T:AF) :
 AI MX (AE MX) 254 [.int .i64 i,.str p,.hp 1 0] (B::Blk.var false [nm,pv,cv]::T)=some (.ret (.int .i64 (C8 p (ps.take i))),B::Blk.var false [nm,pv,cv]::T):=by
 obtain⟨w,hw1,hw2⟩:=hp.slice hi;have h252:=c252 p hps hw2 (by simp;omega);exact CV XT aJ (by simp[AJ,f254,hw1,h252])
theorem Px{prev:List Bytes}{p:Bytes}{r:List Bytes}:DP prev (p::r)=if C8 p prev=0 then DP (prev++[p]) r else C8 p prev:=by
 simp only[DP,C8];by_cases h1:BL p=false
 .simp[h1]
 .by_cases h2:(prev.findIdx? (fun x=>x == p)).isSome=true <;> simp[h1,h2]
def BC(l:List AK):List Bytes:=l.flatMap fun d=>d.cons.map CS.nm
theorem RM(l:List AK)(s:Bytes):Ih l s=((BC l).findIdx? (fun x=>x == s)).isSome:=by
 simp only[Ih,Ht,BC,Mi,List.any_flatMap,List.any_map];rfl
theorem Sk{l:List AK}{params:List Bytes}{prev:List CS}{c:CS}{r:List CS}:Fz l params prev (c::r)=if LQ l params (BC l++[Cc,EB]++prev.map CS.nm) c=0 then Fz l params (prev++[c]) r else LQ l params (BC l++[Cc,EB]++prev.map CS.nm) c:=by
 have hk:((BC l++[Cc,EB]++prev.map CS.nm).findIdx? (fun x=>x == c.nm)).isSome=(Ih l c.nm||(c.nm == Cc||c.nm == EB)||(prev.findIdx? (fun g=>g.nm == c.nm)).isSome):=by
  rw[Sj,Sj,RM,Si];simp only[Mi,List.any_cons,List.any_nil,Bool.or_false];rw[Hx Cc c.nm,Hx EB c.nm]
 simp only[Fz,LQ,hk];by_cases h1:BL c.nm=false
 .simp[h1]
 .by_cases h2:Ih l c.nm=true
  .simp[h1,h2]
  .by_cases h3:(prev.findIdx? (fun g=>g.nm == c.nm)).isSome=true
   .simp[h1,h2,h3]
   .by_cases h4:(c.nm == Cc)=true
    .simp only[h1,h2,h3,h4];simp
    .by_cases h5:(c.nm == EB)=true
     .simp only[h1,h2,h3,h4,h5];simp
     .simp only[h1,h2,h3,h4,h5];simp
def LR(d:AK)(names:List Bytes):Int:=A9 [C8 d.nm (names++[DM,CO,EZ]),if d.params.length<=4/\d.cons.length<=16 then 0 else 8,if 0<d.cons.length then 0 else 10]
theorem N7{d:AK}{l:List AK}:Bq d l=if LR d (l.map AK.nm)=0 then(if DP [] d.params=0 then Fz l d.params [] d.cons else DP [] d.params)else LR d (l.map AK.nm):=by
 have hk:((l.map AK.nm++[DM,CO,EZ]).findIdx? (fun x=>x == d.nm)).isSome=((l.findIdx? (fun x=>x.nm == d.nm)).isSome||(d.nm == DM||(d.nm == CO||d.nm == EZ))):=by
  rw[Sj,Si];simp only[Mi,List.any_cons,List.any_nil,Bool.or_false];rw[Hx DM d.nm,Hx CO d.nm,Hx EZ d.nm]
 simp only[Bq,LR,A9,C8,hk];by_cases h1:BL d.nm=false
 .simp[h1]
 .by_cases h2:(l.findIdx? (fun x=>x.nm == d.nm)).isSome=true
  .simp[h1,h2]
  .by_cases h3:(d.nm == DM)=true
   .simp only[h1,h2,h3];simp
   .by_cases h4:(d.nm == CO)=true
    .simp only[h1,h2,h3,h4];simp
    .by_cases h5:(d.nm == EZ)=true
     .simp only[h1,h2,h3,h4,h5];simp
     .simp only[h1,h2,h3,h4,h5];by_cases h6:4<d.params.length
      .simp[h6,show ¬ d.params.length<=4 by omega]
      .by_cases h7:16<d.cons.length
       .simp[h6,h7,show d.params.length<=4 by omega,show ¬ d.cons.length<=16 by omega]
       .by_cases h8:d.cons.length=0
        .simp[h6,h7,h8,show d.params.length<=4 by omega]
        .simp[h6,h7,h8,show d.params.length<=4 by omega,show d.cons.length<=16 by omega,show 0<d.cons.length by omega]
theorem c232{l:List AK}{lv:AV}(hl:SlR Ac 3 l lv)(hsl:SmL 1048577 l)(hB:∀ d∈l,(d.nm == DM)=false/\(d.nm == CO)=false)
 {d:AK} {dx:List AV} (hd:Ac d dx) (hsd:SmD 1048577 d) {nv kv:AV} (hn:ExS (l.map AK.nm) nv) (hk:ExS (BC l) kv) (hll:l.length<=20) (hcl:(BC l).length<=1000) (h:AF) :
 AI MX (AE MX) 232 [.agg [lv,.AH],.agg dx,nv,kv] h=some (.ret (.int .i64 (Bq d l)),h):=by
 obtain⟨pv,cv,rfl,hp,hcv⟩:=hd.dest;have hall:([AV.agg [lv,.AH],AV.agg [.str d.nm,pv,cv],nv,kv]:List AV).all AV.AA=true:=by simp[AV.AA,AG,hl.AA,hp.AA,hcv.AA,hn.rep.AA,hk.rep.AA]
 have hap:=hn.app DM [CO,EZ] (by simp;omega) [Blk.var false [lv,.AH],Blk.var false [.str d.nm,pv,cv]];have h252:=c252A (H:=[Blk.var false [lv,.AH],Blk.var false [.str d.nm,pv,cv],.arr 1 false (strs (l.map AK.nm++[DM,CO,EZ]))]) (j:=2) rfl (by simp;omega) d.nm hsd.1;have hb:=VN;simp[Aa,An,f232]at hb;have hpl:=hp.Ca;have hcl2:=hcv.Ca;have h217:=c217 [C8 d.nm (l.map AK.nm++[DM,CO,EZ]),if d.params.length<=4/\d.cons.length<=16 then 0 else 8,if 0<d.cons.length then 0 else 10] true (by simp);simp only[ints,Hk,List.map_nil]at h217;rw[show A9 [C8 d.nm (l.map AK.nm++[DM,CO,EZ]),if d.params.length<=4/\d.cons.length<=16 then 0 else 8,if 0<d.cons.length then 0 else 10]=LR d (l.map AK.nm)from rfl]at h217;generalize hKN:l.map AK.nm++[DM,CO,EZ]=KN at hap h252 h217;have hap':apA 1 16 nv (.sl 1 true [[.str [66,105,116]],[.str [66,111,111,108]],[.str [73,110,116,101,103,101,114]]]) [Blk.var false [lv,.AH],Blk.var false [.str d.nm,pv,cv]]=some (.hs 2 KN.length 1 0 KN.length false,[Blk.var false [lv,.AH],Blk.var false [.str d.nm,pv,cv],.arr 1 false (strs KN)]):=hap;have m1:(1∈Da 0 [Blk.var false [lv,.AH],Blk.var false [.str d.nm,pv,cv]] [Blk.var false [lv,.AH],Blk.var false [.str d.nm,pv,cv],.arr 1 false (strs KN)])=False:=Cx (by simp) rfl;have m2:(1∈Da 0 [Blk.var false [lv,.AH],Blk.var false [.str d.nm,pv,cv],.arr 1 false (strs KN)] [Blk.var false [lv,.AH],Blk.var false [.str d.nm,pv,cv],.arr 1 true (strs KN)])=False:=Cx (by simp) rfl;rw[N7]
 suffices hh:∃ hr,AJ MX 232 [.agg [lv,.AH],.agg [.str d.nm,pv,cv],nv,kv] []=some (.ret (.int .i64 (if LR d (l.map AK.nm)=0 then(if DP [] d.params=0 then Fz l d.params [] d.cons else DP [] d.params)else LR d (l.map AK.nm))),hr) by
  obtain⟨hr,hh⟩:=hh;exact Af Q8 aC hall rfl hh h
 have e4:((d.params.length:Int)<=4)=(d.params.length<=4):=by simp;omega
 have e16:((d.cons.length:Int)<=16)=(d.cons.length<=16):=by simp;omega
 have e0:((0:Int)<(d.cons.length:Int))=(0<d.cons.length):=by simp
 by_cases hz:LR d (l.map AK.nm)=0
 .have hpp:(d.params.length<=4/\d.cons.length<=16)/\0<d.cons.length:=by
   unfold LR at hz;simp only[A9]at hz;by_cases h1:C8 d.nm (l.map AK.nm++[DM,CO,EZ])=0
   .by_cases h2:d.params.length<=4/\d.cons.length<=16
    .by_cases h3:0<d.cons.length
     .exact⟨h2,h3⟩
     .simp[h1,h2,h3]at hz
    .simp[h1,h2]at hz
   .rw[if_neg h1]at hz;exact absurd hz h1
  obtain⟨⟨p4,p16⟩,p0⟩:=hpp;simp only[p4,p16,p0,and_self,if_true]at h217;rw[hz]at h217;rw[if_pos hz];obtain⟨i,err,H1,q1,q2⟩:=ae hp hsd.2.1 (g:=254) (cap:=[.hp 1 0]) XS (fun i H=>H=[Blk.var false [lv,.AH],Blk.var false [.str d.nm,pv,cv],.arr 1 true (strs KN)]/\DP [] d.params=DP (d.params.take i) (d.params.drop i)) (fun i err H=>err=DP [] d.params) (fun i hi H hI=>by
   obtain⟨rfl,hI⟩:=hI;rw[De hi,Px]at hI;refine⟨_,_,c254 hp hsd.2.1 (hsd.2.2.1 _ (Ap hi)) (KM hi) _ _,fun h0=>⟨rfl,?_⟩,fun h0 => ?_⟩
   .rw[if_pos h0]at hI;have htk:d.params.take i++[d.params[i]]=d.params.take (i+1):=(by simp);rw[hI,htk]
   .rw[if_neg h0]at hI;exact hI.symm) [Blk.var false [lv,.AH],Blk.var false [.str d.nm,pv,cv],.arr 1 true (strs KN)] ⟨rfl,by simp⟩
  have hpe:err=DP [] d.params/\(err=0->H1=[Blk.var false [lv,.AH],Blk.var false [.str d.nm,pv,cv],.arr 1 true (strs KN)]):=by
   rcases q2 with⟨a,_,b,c⟩ | ⟨a,_,b⟩
   .exact⟨by rw[a,c,C3];rfl,fun _=>b⟩
   .exact⟨b,fun h=>absurd h a⟩
  obtain⟨hpe,hH1⟩:=hpe;rw[<- hpe];by_cases he:err=0
  .rw[if_pos he];subst he;rw[hH1 rfl]at q1;have hap2:apA 1 16 kv (.sl 1 true [[.str [70,97,108,115,101]],[.str [84,114,117,101]]]) [Blk.var false [lv,pv],Blk.var false [.str d.nm,pv,cv],.arr 1 true (strs KN)]=some (.hs 3 (BC l++[Cc,EB]).length 1 0 (BC l++[Cc,EB]).length false,[Blk.var false [lv,pv],Blk.var false [.str d.nm,pv,cv],.arr 1 true (strs KN),.arr 1 false (strs (BC l++[Cc,EB]))]):=hk.app Cc [EB] (by simp;omega) _;obtain⟨i2,err2,H2,r1,r2⟩:=aZ hcv hsd.2.2.2.1 (fun a e h=>by obtain⟨fv,rfl,_⟩:=h.dest;rfl) (g:=256) (cap:=[.hp 4 0,.hp 0 0]) XU (fun i H=>(∃ o,SA H 4 o (BC l++[Cc,EB]++(d.cons.take i).map CS.nm))/\H[0]? = some (.var false [lv,pv])/\Fz l d.params [] d.cons=Fz l d.params (d.cons.take i) (d.cons.drop i)) (fun i err H=>err=Fz l d.params [] d.cons) (fun i hi e H hR hI=>by
    obtain⟨⟨o,hS⟩,h0,hI⟩:=hI;obtain⟨err,H',t1,t2,t3⟩:=c256 hl hsl.1 hp hsd.2.1 (fun d hd=>(hsl.2 d hd).2.1) hB hR (hsd.2.2.2.2 _ (Ap hi)) hS (by simp;omega) h0 (by omega) i;rw[De hi,Sk]at hI;refine⟨err,H',t1,fun he => ?_,fun he => ?_⟩
    .obtain⟨⟨o',t4,_⟩,t5,_⟩:=t3 he;rw[<- t2,if_pos he]at hI;have htk:d.cons.take i++[d.cons[i]]=d.cons.take (i+1):=(by simp);have htk2:BC l++[Cc,EB]++(d.cons.take i).map CS.nm++[d.cons[i].nm]=BC l++[Cc,EB]++(d.cons.take (i+1)).map CS.nm:=(by rw[<- htk,Mn,<- EM];rfl);rw[htk]at hI;rw[htk2]at t4;refine⟨⟨o',t4⟩,?_,hI⟩;rw[t5 0 (Ae.1 h0).1 (by omega) (hS.var h0)];exact h0
    .rw[<- t2,if_neg he]at hI;exact hI.symm) [Blk.var false [lv,pv],Blk.var false [.str d.nm,pv,cv],.arr 1 true (strs KN),.arr 1 false (strs (BC l++[Cc,EB])),.var false [.hs 3 (BC l++[Cc,EB]).length 1 0 (BC l++[Cc,EB]).length false]] ⟨⟨some 3,by simp,by simp,false,by simp⟩,rfl,by simp⟩
   have hce:err2=Fz l d.params [] d.cons:=by
    rcases r2 with⟨a,_,_,_,c⟩ | ⟨_,_,b⟩
    .rw[a,c,C3];rfl
    .exact b
   rw[<- hce];generalize BC l++[Cc,EB]=CN at *;exact⟨_,by simp[AJ,f232,hap',h252,h217,hb,hpl,hcl2,hp.len,hcv.len,hp.cells,e4,e16,e0,p4,p16,p0,bsA,Aq,List.replicate,AG,AV.AA,Lu,m1,m2,q1,hap2,r1] <;> rfl⟩
  .have he':(err != 0)=true:=(by simp[he]);rw[if_neg he];exact⟨_,by simp[AJ,f232,hap',h252,h217,hb,hpl,hcl2,hp.len,hcv.len,e4,e16,e0,p4,p16,p0,bsA,Aq,List.replicate,AG,AV.AA,Lu,m1,m2,q1,he'] <;> rfl⟩
 .have hz':(LR d (l.map AK.nm) != 0)=true:=by simp[hz]
  rw[if_neg hz];by_cases p4:d.params.length<=4 <;> by_cases p16:d.cons.length<=16 <;> by_cases p0:0<d.cons.length <;> simp only[p4,p16,p0,and_self,and_true,true_and,false_and,and_false,if_true,if_false]at h217 <;>
  exact⟨_,by simp[AJ,f232,hap',h252,h217,hb,hpl,hcl2,hp.len,hcv.len,e4,e16,e0,p4,p16,p0,bsA,Aq,List.replicate,AG,AV.AA,hz',Lu,m1,m2] <;> rfl⟩
theorem Xu:MX.prim 233=some (L5 1):=rfl
theorem SA.clip{H:AF}{k:Nat}{o:Option Nat}{l:List Bytes}(h:SA H k o l):∃ a b,H[k]? = some (.var false [a])/\a.cells=some [a]/\L5 1 [a]=some b/\(∀ G,(∀ m,o=some m->G[m]? = H[m]?)->∃ c G',((b.AA=true->c=b/\G'=G)/\(b.AA=false->Am.snap Ds b G=some (c,G')))/\c.AA=true/\ExS l c/\Oth o G G'/\G'.length=G.length/\∀ m es,G[m]? = some es->o=some m->∃ lk,G'[m]? = some (.arr 1 lk (strs l))):=by
 cases o with
 | none=>exact⟨.AH,.AH,h.2,rfl,rfl,fun G _=>⟨.AH,G,⟨fun _=>⟨rfl,rfl⟩,fun h=>by cases h⟩,rfl,.inl ⟨h.1,rfl⟩,Oth.refl _ _,rfl,fun m es _ h=>by cases h⟩⟩
 | some j=>
  obtain⟨h0,h1,lk,h2⟩:=h;refine⟨_,.hs j l.length 1 0 l.length true,h1,rfl,rfl,fun G hG => ?_⟩;have h3:G[j]? = some (.arr 1 lk (strs l)):=by rw[hG j rfl];exact h2
  have hj:=(Ae.1 h3).1;have hsn:Am.snap Ds (.hs j l.length 1 0 l.length true) G=some (.sl 1 true (strs l),G.set j (.arr 1 true (strs l))):=by
   have hb:(Nat.beq (strs l).length l.length&&Nat.beq 1 1&&Nat.ble (0+l.length) (strs l).length&&(strs l).all AG)=true:=(by simp[A1,A8,HC];simp[strs]);have:BB 1 (.hs j l.length 1 0 l.length true) G (.sl 1 true (strs l)) (G.set j (.arr 1 true (strs l))):=fun n=>by
    simp only[Am.snap,h3,hb];simp[strs,DC]
   exact this.at (by decide)
  refine⟨_,_,⟨fun h=>(by cases h),fun _=>hsn⟩,rfl,.inr rfl,⟨by simp,fun m _ hm => ?_⟩,by simp,fun m es _ hm => ?_⟩
  .rw[BT (fun he=>hm (by rw[he]))]
  .cases hm;exact⟨true,by simp[hj]⟩
theorem SA.Xv{H G:AF}{k:Nat}{o:Option Nat}{l:List Bytes}(h:SA H k o l)(hk:G[k]? = H[k]?)(ho:∀ m es,H[m]? = some es->o=some m->∃ lk,G[m]? = some (.arr 1 lk (strs l))):SA G k o l:=by
 cases o with
 | none=>exact⟨h.1,by rw[hk];exact h.2⟩
 | some j=>
  obtain⟨h0,h1,lk,h2⟩:=h;exact⟨h0,by rw[hk];exact h1,ho j _ h2 rfl⟩
theorem IK{d:AK}{l:List AK}(h:Bq d l=0):d.params.length<=4/\d.cons.length<=16/\0<d.cons.length/\(d.nm == DM)=false/\(d.nm == CO)=false/\(d.nm == EZ)=false:=by
 unfold Bq at h;by_cases h1:BL d.nm=false
 .simp[h1]at h
 by_cases h2:(l.findIdx? (fun x=>x.nm == d.nm)).isSome=true
 .simp[h1,h2]at h
 cases h3:d.nm == DM with
 | true=>simp only[h1,h2,h3]at h;simp at h
 | false=>
 cases h4:d.nm == CO with
 | true=>simp only[h1,h2,h3,h4]at h;simp at h
 | false=>
 cases h5:d.nm == EZ with
 | true=>simp only[h1,h2,h3,h4,h5]at h;simp at h
 | false=>
 by_cases h6:4<d.params.length
 .simp only[h1,h2,h3,h4,h5,h6]at h;simp at h
 by_cases h7:16<d.cons.length
 .simp only[h1,h2,h3,h4,h5,h6,h7]at h;simp at h
 by_cases h8:d.cons.length=0
 .simp only[h1,h2,h3,h4,h5,h6,h7,h8]at h;simp at h
 exact⟨by omega,by omega,by omega,rfl,rfl,rfl⟩
theorem LS:∀(l:List AK),(∀ d∈l,d.cons.length<=16)->(BC l).length<=16 * l.length
 | [],_=>by simp[BC]
 | d::r,h=>by
  have:=LS r (fun x hx=>h x (by simp[hx]));have h2:=h d (by simp);simp only[BC,List.flatMap_cons,FZ,Fa,D8]at this ⊢;omega
theorem Py(l:List AK)(d:AK):BC (l++[d])=BC l++d.cons.map CS.nm:=by simp[BC]
theorem SA.isVar{H:AF}{k:Nat}{o:Option Nat}{l:List Bytes}(h:SA H k o l):∃ a,H[k]? = some (.var false [a]):=by
 cases o with
 | none=>exact⟨_,h.2⟩
 | some j=>exact⟨_,h.2.1⟩
theorem SA.cR{b:AF}{k1 k2:Nat}{o1 o2:Option Nat}{l1 l2:List Bytes}(h1:SA b k1 o1 l1)(h2:SA b k2 o2 l2)(hk:k1≠k2)(hne:∀ j,o1=some j->o2≠some j)(s:Bytes)(ex:Bool)(hl:l2.length<16777216) :
 ∃ a a' H' o2',b[k2]? = some (.var false [a])/\a.cells=some [a]/\apA 1 16 a (.sl 1 ex [[.str s]]) b=some (a',H')/\a'.cells=some [a']/\H'[k2]? = some (.var false [a])/\SA (H'.set k2 (.var false [a'])) k2 o2' (l2++[s])/\SA (H'.set k2 (.var false [a'])) k1 o1 l1/\(∀ j,o1=some j->o2'≠some j) /\
  ∀ x bb cs,x≠k2->b[x]? = some (.var bb cs)->H'[x]? = some (.var bb cs)/\(H'.set k2 (.var false [a']))[x]? = some (.var bb cs):=by
 obtain⟨a,a',H',o',p1,p2,p3,p4,p5,p6,p7,p8,p9⟩:=h2.push s ex hl;have hlt:=h1.lt;obtain⟨v1,hv1⟩:=h1.isVar;obtain⟨v2,hv2⟩:=h2.isVar;refine⟨a,a',H',o',p1,p2,p3,p4,p6,p7,h1.frame fun m hm => ?_,fun j hj => ?_,fun x bb cs hx hb => ?_⟩
 .rcases hm with rfl | hm
  .rw[BT (fun h=>hk h.symm),p8.2 _ hlt.1 (h2.var hv1)]
  .have hm2:m≠k2:=fun h=>by subst h;exact h1.var hv2 hm
   rw[BT (fun h=>hm2 h.symm),p8.2 _ (hlt.2 m hm).1 (hne m hm)]
 .rcases p9 with rfl | ⟨_,j',rfl,h9⟩
  .exact hne j hj
  .intro he;cases he;have:=(hlt.2 j hj).1;omega
 .have h3:H'[x]? = some (.var bb cs):=by rw[p8.2 x (Ae.1 hb).1 (h2.var hb)];exact hb
  exact⟨h3,by rw[BT (fun h=>hx h.symm)];exact h3⟩
theorem Ak{L:AF}{x:Nat}{v:Blk}(hx:L[x]? = some v):∀(h:x<L.length),L[x]'h=v:=fun h=>by
 rw[AW h]at hx;exact Option.some.inj hx
theorem RN{prev:List AK}{d:AK}{r:List AK}:F4 prev (d::r)=if Bq d prev=0 then F4 (prev++[d]) r else(prev.length,Bq d prev):=rfl
theorem c231{l:List AK}{lv:AV}(hl:SlR Ac 3 l lv)(hsl:SmL 1048577 l)(h20:l.length<=20){i:Nat}(hi:i<l.length){dx:List AV}(hd:Ac l[i] dx)
 (hok:∀ d∈l.take i,d.cons.length<=16/\(d.nm == DM)=false/\(d.nm == CO)=false) {H:AF} {o1 o2:Option Nat} (hn:SA H 1 o1 ((l.take i).map AK.nm)) (hc:SA H 2 o2 (BC (l.take i))) (hne:∀ j,o1=some j->o2≠some j) (h0:H[0]? = some (.var false [lv])) :
 ∃ H',AI MX (AE MX) 231 [.int .i64 i,.agg dx,.hp 0 0,.hp 1 0,.hp 2 0] (H++[Blk.var false dx])=some (.ret (.int .i64 (Bq l[i] (l.take i))),H')/\∃ o1' o2',SA H' 1 o1' ((l.take (i+1)).map AK.nm)/\SA H' 2 o2' (BC (l.take (i+1)))/\(∀ j,o1'=some j->o2'≠some j)/\H'[0]? = some (.var false [lv]):=by
 have hsd:=hsl.2 _ (Ap hi);have hsl2:SmL 1048577 (l.take i):=⟨by simp;omega,fun d hd=>hsl.2 d (List.mem_of_mem_take hd)⟩;have hcl:=LS (l.take i) (fun d hd=>(hok d hd).1);have hcl3:(BC (l.take i)).length<=1000:=by simp only[GR]at hcl;omega
 obtain⟨w,hw1,hw2⟩:=hl.slice (KM hi);have h232:=fun{nv kv:AV} (a:ExS ((l.take i).map AK.nm) nv) (b:ExS (BC (l.take i)) kv)=>c232 hw2 hsl2 (fun d hd=>(hok d hd).2) hd hsd a b (by simp;omega) hcl3
 have hdn:AG dx=true:=by obtain⟨pv,cv,rfl,hp,hcv⟩:=hd.dest;simp[AG,AV.AA,hp.AA,hcv.AA]
 have hH:=hn.lt.1;have hH2:=hc.lt.1;obtain⟨pv,cv,rfl,hp,hcv⟩:=hd.dest;have hb:=VM;simp[Aa,An,f231]at hb;have hbx:=get2 H (Blk.var false [.str l[i].nm,pv,cv]);obtain⟨a,a',ga1,ga2,ga3,ga4⟩:=(hn.app [Blk.var false [.str l[i].nm,pv,cv],Blk.var false [.str l[i].nm,pv,cv]]).clip;obtain⟨b,b',gb1,gb2,gb3,gb4⟩:=(hc.app [Blk.var false [.str l[i].nm,pv,cv],Blk.var false [.str l[i].nm,pv,cv]]).clip;obtain⟨ca,G1,g1,g2,g3,g4,g5,g6⟩:=ga4 _ (fun m hm=>rfl);obtain⟨cb,G2,k1,k2,k3,k4,k5,k6⟩:=gb4 G1 (fun m hm=>g4.2 m (by have:=hc.lt.2 m hm;simp;omega) (fun h=>hne m h hm));have hG0:∀ x,x<H.length+2->o1≠some x->o2≠some x->G2[x]? = (H++[Blk.var false [.str l[i].nm,pv,cv],Blk.var false [.str l[i].nm,pv,cv]])[x]? := fun x hx e1 e2=>by
  rw[k4.2 x (by rw[g5];simpa using hx) e2,g4.2 x (by simpa using hx) e1]
 obtain⟨v1,hv1⟩:=hn.isVar;obtain⟨v2,hv2⟩:=hc.isVar;have hcall:AI MX (AE MX) 232 [.agg [w,.AH],.agg [.str l[i].nm,pv,cv],a',b'] (H++[Blk.var false [.str l[i].nm,pv,cv],Blk.var false [.str l[i].nm,pv,cv]])=some (.ret (.int .i64 (Bq l[i] (l.take i))),G2):=by
  refine FA (by simp[Q8]) (args':=[.agg [w,.AH],.agg [.str l[i].nm,pv,cv],ca,cb]) ?_ (by simp[AV.AA,AG,hw2.AA,hp.AA,hcv.AA,g2,k2]) (h232 g3 k3 G2);have e1:(AV.agg [w,.AH]).AA=true:=by simp[AV.AA,AG,hw2.AA]
  have e2:(AV.agg [.str l[i].nm,pv,cv]).AA=true:=by simp[AV.AA,AG,hp.AA,hcv.AA]
  simp only[A4,e1,e2];cases ha:a'.AA with
  | true=>
   obtain⟨rfl,rfl⟩:=g1.1 ha;cases hb':b'.AA with
   | true=>obtain⟨rfl,rfl⟩:=k1.1 hb';simp
   | false=>simp[k1.2 hb']
  | false=>
   cases hb':b'.AA with
   | true=>obtain⟨rfl,rfl⟩:=k1.1 hb';simp[g1.2 ha]
   | false=>simp[k1.2 hb',g1.2 ha]
 have hn2:SA G2 1 o1 ((l.take i).map AK.nm):=(hn.app [Blk.var false [.str l[i].nm,pv,cv],Blk.var false [.str l[i].nm,pv,cv]]).Xv (hG0 1 (by omega) (hn.var hv1) (hc.var hv1)) (fun m es hm ho=>by
  obtain⟨lk,hlk⟩:=g6 m es hm ho;exact⟨lk,by rw[k4.2 m (by rw[g5];exact(Ae.1 hm).1) (hne m ho)];exact hlk⟩)
 have hc2:SA G2 2 o2 (BC (l.take i)):=(hc.app [Blk.var false [.str l[i].nm,pv,cv],Blk.var false [.str l[i].nm,pv,cv]]).Xv (hG0 2 (by omega) (hn.var hv2) (hc.var hv2)) (fun m es hm ho=>k6 m es (by rw[g4.2 m (Ae.1 hm).1 (fun h=>hne m h ho)];exact hm) ho);have hz2:G2[0]? = some (.var false [lv]):=by rw[hG0 0 (by omega) (hn.var h0) (hc.var h0)];exact Av h0 _
 have hbx2:G2[H.length+1]? = some (Blk.var false [.str l[i].nm,pv,cv]):=by rw[hG0 _ (by omega) (hn.old (by omega)) (hc.old (by omega))];exact hbx
 have hz0:(H++[Blk.var false [.str l[i].nm,pv,cv],Blk.var false [.str l[i].nm,pv,cv]])[0]? = some (.var false [lv]):=Av h0 _;have hz0':∀(h:0<List.length (H++[Blk.var false [.str l[i].nm,pv,cv],Blk.var false [.str l[i].nm,pv,cv]])),(H++[Blk.var false [.str l[i].nm,pv,cv],Blk.var false [.str l[i].nm,pv,cv]])[0]'h=.var false [lv]:=fun h=>by
  have h3:=hz0;rw[AW h]at h3;exact Option.some.inj h3
 obtain⟨a1,a1',G3,o1',p1,p2,p3,p4,p5,p6,p7,p8,p9⟩:=SA.cR hc2 hn2 (by omega) (fun j h h'=>hne j h' h) l[i].nm true (by simp;omega);obtain⟨-,hz3⟩:=p9 0 _ _ (by omega) hz2;obtain⟨hbx3',hbx3⟩:=p9 (H.length+1) _ _ (by omega) hbx2;have htk:l.take i++[l[i]]=l.take (i+1):=by simp
 have hnm:(l.take i).map AK.nm++[l[i].nm]=(l.take (i+1)).map AK.nm:=by rw[<- htk,Mn];rfl
 rw[hnm]at p6;obtain⟨e,st,hlp,hq⟩:=AU (M:=MX) (fid:=231) (N:=40) (C:=AE MX) (c:=AL f231 0) (n:=l[i].cons.length)
  (fun k (b:AF)=>([(4,.hp 2 0),(8,.int .i64 (Bq l[i] (l.take i))),(27,cv),(28,.int .i64 l[i].cons.length),(29,.int .i64 k)],b))
  (fun k b=>b[0]? = some (.var false [lv])/\∃ o,SA b 1 o1' ((l.take (i+1)).map AK.nm)/\SA b 2 o (BC (l.take i)++(l[i].cons.take k).map CS.nm)/\∀ j,o1'=some j->o≠some j)
  (fun r=>∃ b:AF,r=(.ext 0,([(4,.hp 2 0),(8,.int .i64 (Bq l[i] (l.take i))),(27,cv),(28,.int .i64 l[i].cons.length),(29,.int .i64 l[i].cons.length),(30,.bool false)],b))/\b[0]? = some (.var false [lv])/\∃ o,SA b 1 o1' ((l.take (i+1)).map AK.nm)/\SA b 2 o (BC (l.take i)++l[i].cons.map CS.nm)/\∀ j,o1'=some j->o≠some j) (fun k b hk hI=>by
    obtain⟨i0,o,i1,i2,i3⟩:=hI;obtain⟨e,he,hR⟩:=hcv.ix hk;have hk':=AZ hk;have hw:=AY hk hsd.2.2.2.1;obtain⟨fv,rfl,hf⟩:=hR.dest;have hkl:k<1048577:=Nat.lt_trans hk hsd.2.2.2.1;have hl2:∀(a b k n:Nat),a<=1000->k<1048577->b<=k->a+b<16777216:=fun a b k n h1 h2 h3=>by omega
    have hl2:(BC (l.take i)++(l[i].cons.take k).map CS.nm).length<16777216:=by
     rw[FZ,Fa,GR];exact hl2 _ _ k 0 hcl3 hkl (Nat.min_le_left k l[i].cons.length)
    obtain⟨u,u',b2,o',t1,t2,t3,t4,t5,t6,t7,t8,t9⟩:=SA.cR (i1.app [Blk.var false [.str l[i].cons[k].nm,fv]]) (i2.app [Blk.var false [.str l[i].cons[k].nm,fv]]) (by omega) i3 l[i].cons[k].nm true hl2;have hck:l[i].cons.take k++[l[i].cons[k]]=l[i].cons.take (k+1):=(by simp);have hcn:BC (l.take i)++(l[i].cons.take k).map CS.nm++[l[i].cons[k].nm]=BC (l.take i)++(l[i].cons.take (k+1)).map CS.nm:=(by rw[<- hck,Mn,<- EM];rfl);rw[hcn]at t6;have hlast:(b++[Blk.var false [.str l[i].cons[k].nm,fv]])[b.length]? = some (Blk.var false [.str l[i].cons[k].nm,fv]):=BR _ _;exact .inl ⟨b2.set 2 (.var false [u']),by simp[f231,hk',he,hf.cells,hw,t1,t2,t3,t4,t5,bsA,Aq,List.replicate,AG,AV.AA],(t9 0 _ _ (by omega) (Av i0 _)).2,o',t7,t6,t8⟩) (fun b hI=>by
    obtain⟨i0,o,i1,i2,i3⟩:=hI;rw[HL]at i2;exact⟨_,_,by simp[f231] <;> first | exact⟨rfl,rfl⟩ | rfl,by simp,b,rfl,i0,o,i1,i2,i3⟩) (G3.set 1 (.var false [a1'])) ⟨hz3,o2,p6,by simpa using p7,fun j h h'=>p8 j h' h⟩
 simp[f231]at hlp;obtain⟨b3,hq,j0,o3,j1,j2,j3⟩:=hq;cases hq;rw[<- Py,htk]at j2;refine⟨b3,CV XM aB ?_,o1',o3,j1,j2,j3,j0⟩;cases hA:a'.AA <;> cases hB':b'.AA <;> simp[hz0',Ak ga1,Ak gb1,AJ,f231,hA,hB',hw2.AA,hp.AA,hcv.AA,hz0,hw1,hl.cells,hbx,ga1,ga2,ga3,gb1,gb2,gb3,Xu,hb,hcall,p1,p2,p3,p4,p5,hbx2,hbx3,hcv.len,hw2.cells,hlp,bsA,Aq,List.replicate,AG,AV.AA]
theorem c193{l:List AK}{lv:AV}(hl:SlR Ac 3 l lv)(hsl:SmL 1048577 l)(h:AF) :
 AI MX (AE MX) 193 [lv] h=some (.ret (.tup [.int .i64 (A5 l).1,.int .i64 (A5 l).2]),h):=by
 suffices hh:∃ hr,AJ MX 193 [lv] []=some (.ret (.tup [.int .i64 (A5 l).1,.int .i64 (A5 l).2]),hr) by
  obtain⟨hr,hh⟩:=hh;exact Af XC Z2 (by simp[hl.AA]) rfl hh h
 unfold A5;by_cases h20:20<l.length
 .have h20':(20<(l.length:Int)):=by omega
  exact⟨_,by simp[AJ,f193,hl.len,hl.cells,h20,h20'] <;> rfl⟩
 .have h20':¬ (20<(l.length:Int)):=by omega
  obtain⟨i,err,H,q1,q2⟩:=aY hl hsl.1 (fun a e h=>by obtain⟨pv,cv,rfl,_,_⟩:=h.dest;rfl) (g:=231) (cap:=[.hp 0 0,.hp 1 0,.hp 2 0]) XL
   (fun i H=>(∀ d∈l.take i,d.cons.length<=16/\(d.nm == DM)=false/\(d.nm == CO)=false)/\(∃ o1 o2,SA H 1 o1 ((l.take i).map AK.nm)/\SA H 2 o2 (BC (l.take i))/\(∀ j,o1=some j->o2≠some j)/\H[0]? = some (.var false [lv]))/\F4 [] l=F4 (l.take i) (l.drop i))
   (fun i err H=>F4 [] l=((i:Int),err)) (fun i hi e H hR hI=>by
     obtain⟨hok,⟨o1,o2,a1,a2,a3,a4⟩,hI⟩:=hI;obtain⟨H',b1,o1',o2',b2,b3,b4,b5⟩:=c231 hl hsl (by omega) hi hR hok a1 a2 a3 a4;rw[De hi,RN]at hI;refine⟨_,H',b1,fun h0=>⟨fun d hd => ?_,⟨o1',o2',b2,b3,b4,b5⟩,?_⟩,fun h0 => ?_⟩
     .have htk:l.take i++[l[i]]=l.take (i+1):=(by simp);rw[<- htk]at hd;rcases Ks.1 hd with hd | hd
      .exact hok d hd
      .obtain⟨_,x1,_,x2,x3,_⟩:=IK h0;have:d=l[i]:=(by simpa using hd);rw[this];exact⟨x1,x2,x3⟩
     .have htk:l.take i++[l[i]]=l.take (i+1):=(by simp);rw[if_pos h0,htk]at hI;exact hI
     .rw[if_neg h0]at hI;rw[hI];simp;omega) [Blk.var false [lv],Blk.var false [.AH],Blk.var false [.AH]] ⟨by simp,⟨none,none,⟨by simp,rfl⟩,⟨by simp[BC],rfl⟩,by simp,rfl⟩,by simp⟩
  have hq:F4 [] l=((i:Int),err):=by
   rcases q2 with⟨a,b,_,_,c⟩ | ⟨_,_,c⟩
   .rw[c,a,b,C3];rfl
   .exact c
  rw[if_neg h20,hq];exact⟨_,by simp[AJ,f193,hl.len,hl.cells,h20',q1] <;> rfl⟩
theorem cS{params:List Bytes}{pr:AV}(hpr:SlR Cv 1 params pr)(hpl:params.length<1048577){args:List TyV}{av:AV}(har:SlR AR 4 args av)(hpa:params.length<=args.length)
 (hcopy:∀ i,i<params.length->∀ e,AR (args.getD i default) e->∃ ys,AR (args.getD i default) ys/\∀ h,AI MX (AE MX) 264 [.agg e,.AH,.AH] h=some (.ret (.agg ys),h)) (t:TyV) :
 ∀(xs:List AV),AR t xs->Sm 1048577 t->∃ ys,AR (CT params args t) ys/\∀ h,AI MX (AE MX) 264 [.agg xs,pr,av] h=some (.ret (.agg ys),h):=by
 induction t using TyV.ind with
 | h k v nm ps ih=>
  intro xs hx hs;have hn:([AV.agg xs,pr,av]:List AV).all AV.AA=true:=by simp[AV.AA,hx.AG,hpr.AA,har.AA]
  obtain⟨pv,rfl,hp⟩:=hx.dest;obtain⟨s1,s2,s3⟩:=hs.dest;have hb:=VP;simp[Aa,An,f264]at hb;have h269:=c269 nm hpr hpl;obtain⟨e,st,hlp,hq⟩:=AU (M:=MX) (fid:=264) (N:=47) (C:=AE MX) (c:=AL f264 0) (n:=ps.length)
   (fun i (b:AV×AF×List (List AV))=>([(1,pr),(2,av),(6,.hp 1 0),(8,.hp 2 0),(30,pv),(31,.int .i64 ps.length),(32,.int .i64 i)],Blk.var false [AV.int .i64 k,AV.int .i64 v,AV.str nm,pv]::Blk.var false [AV.int .i64 0,AV.int .i64 0,AV.str [],AV.AH]::Blk.var false [AV.int .i64 k,AV.int .i64 v,AV.str nm,b.1]::b.2.1))
   (fun i b=>Ai 4 3 b.2.1 b.1 b.2.2/\b.2.2.length=((ps.map (CT params args)).take i).length/\∀(j:Nat) t e,((ps.map (CT params args)).take i)[j]? = some t->b.2.2[j]? = some e->AR t e)
   (fun r=>∃ b:AV×AF×List (List AV),r=(.ext 0,([(1,pr),(2,av),(6,.hp 1 0),(8,.hp 2 0),(30,pv),(31,.int .i64 ps.length),(32,.int .i64 ps.length),(33,.bool false)],Blk.var false [AV.int .i64 k,AV.int .i64 v,AV.str nm,pv]::Blk.var false [AV.int .i64 0,AV.int .i64 0,AV.str [],AV.AH]::Blk.var false [AV.int .i64 k,AV.int .i64 v,AV.str nm,b.1]::b.2.1)) /\
     Ai 4 3 b.2.1 b.1 b.2.2/\b.2.2.length=(ps.map (CT params args)).length/\∀(j:Nat) t e,(ps.map (CT params args))[j]? = some t->b.2.2[j]? = some e->AR t e) (fun i b hi hI=>by
     obtain⟨a,rest,es⟩:=b;obtain⟨i1,i2,i3⟩:=hI;simp only at i1 i2 i3;obtain⟨e,he,hR⟩:=hp.ix hi;have hi':=AZ hi;have hw:=AY hi s2;have him:i<(ps.map (CT params args)).length:=(by simpa using hi);obtain⟨ys,hys,hcall⟩:=ih ps[i] (Ap hi) e hR (s3 _ (Ap hi));have hys':AR (ps.map (CT params args))[i] ys:=(by simpa using hys);obtain⟨j1,j2⟩:=E9 i2 i3 hys';rw[Cf him]at j1 j2;have hlen:es.length<16777215:=(by rw[i2,GR,Fa];exact Hh (Mj _ _) (Hi s2 (by decide)));obtain⟨qv,rfl,hqv⟩:=hR.Ab;obtain⟨a',rest',hap,hacc⟩:=Ai.push (byt:=56) (P:=[Blk.var false [AV.int .i64 k,AV.int .i64 v,AV.str nm,pv],Blk.var false [AV.int .i64 0,AV.int .i64 0,AV.str [],AV.AH],Blk.var false [AV.int .i64 k,AV.int .i64 v,AV.str nm,a]]) ys true (i1.grow [Blk.var false [AV.int .i64 ps[i].k,AV.int .i64 ps[i].v,AV.str ps[i].nm,qv]]) (by decide) (by decide) hlen;simp only[Fk,FE]at hap;have hyn:=hys.AG;have hyl:=hys.len;exact .inl ⟨(a',rest',es++[ys]),by simp[f264,hp.len,hi',he,hcall,bsA,Aq,List.replicate,hyl,hyn,hap,hacc.cells,hw,hb,AG,AV.AA,hqv.AA,hpr.AA,har.AA],hacc,j1,j2⟩) (fun b hI=>by
     obtain⟨a,rest,es⟩:=b;obtain⟨i1,i2,i3⟩:=hI;rw[DC (by simp)]at i2 i3;exact⟨_,_,by simp[f264,hp.len] <;> first | exact⟨rfl,rfl⟩ | rfl,by simp,(a,rest,es),rfl,i1,i2,i3⟩) (.AH,[],[]) ⟨.nil _ _ _,by simp,fun j t e h=>by simp at h⟩
  obtain⟨⟨a,rest,es⟩,hq,i1,i2,i3⟩:=hq;cases hq;simp[f264]at hlp;obtain⟨v',rest',hsn,hrep,heq⟩:=J6 (P:=[Blk.var false [AV.int .i64 k,AV.int .i64 v,AV.str nm,pv],Blk.var false [AV.int .i64 k,AV.int .i64 v,AV.str nm,a],Blk.var false [AV.int .i64 k,AV.int .i64 v,AV.str nm,a]]) (fun a e h=>AR.AG h) i1 i2 i3;have fin:∀(hrun:AJ MX 264 [.agg [.int .i64 k,.int .i64 v,.str nm,pv],pr,av] []=some (.ret (.agg [.int .i64 k,.int .i64 v,.str nm,a]),[Blk.var false [AV.int .i64 k,AV.int .i64 v,AV.str nm,pv],Blk.var false [AV.int .i64 k,AV.int .i64 v,AV.str nm,a],Blk.var false [AV.int .i64 k,AV.int .i64 v,AV.str nm,a]]++rest)) h,
   AI MX (AE MX) 264 [.agg [.int .i64 k,.int .i64 v,.str nm,pv],pr,av] h=some (.ret (.agg [.int .i64 k,.int .i64 v,.str nm,v']),h):=fun hrun h=>by
   cases hna:a.AA with
   | true=>
    have:=heq hna;subst this;exact Af NS Pt hn (by simp[AV.AA,AG,hna]) hrun h
   | false=>
    exact LK NS Pt hn (by simp[AV.AA,AG,hna]) ((BB.agg (by simp[AG,AV.AA,hna]) (.cons (.flat rfl _) (.cons (.flat rfl _) (.cons (.flat rfl _) (.cons hsn (.nil _)))))).at (by decide)) (by simp[AV.AA,AG,hrep.AA]) hrun h
  by_cases hk:k=0
  .subst hk;cases hf:params.findIdx? (fun x=>x == nm)with
   | none=>
    rw[hf]at h269;simp only[ixI]at h269;refine⟨_,?_,fin (by simp[AJ,f264,h269,hp.len,hlp,DJ])⟩;simp only[CT,hf,if_true,FM];exact AR.intro hrep
   | some i=>
    rw[hf]at h269;simp only[ixI]at h269;have hip:=G8 hf;have hia:i<args.length:=(by omega);obtain⟨e3,he3,hR3⟩:=har.ix hia;have hgd:args.getD i default=args[i]:=(by simp[hia]);obtain⟨ys,hys,hcall⟩:=hcopy i hip e3 (by rw[hgd];exact hR3);obtain⟨qv,rfl,hqv⟩:=hR3.Ab;refine⟨ys,by simpa[CT,hf]using hys,fun h => ?_⟩;obtain⟨qy,rfl,hqy⟩:=hys.Ab;have hi0:¬ ((i:Int)<0):=(by omega);exact Af NS Pt hn (by simp[AV.AA,AG,hqy.AA]) (hr:=[Blk.var false [AV.int .i64 0,AV.int .i64 v,AV.str nm,pv],Blk.var false [.int .i64 (args.getD i default).k,.int .i64 (args.getD i default).v,.str (args.getD i default).nm,qy]]) (by simp[AJ,f264,h269,he3,hcall,hi0,DJ]) h
  .have hk':(k == 0)=false:=(by simp[hk]);refine⟨_,?_,fin (by simp[AJ,f264,hk',hk,h269,hp.len,hlp,DJ])⟩;simp only[CT,hk,if_false,FM];exact AR.intro hrep
theorem RP(args:List TyV)(t:TyV):CT [] args t=t:=by
 induction t using TyV.ind with
 | h k v nm ps ih=>
  simp only[CT,List.findIdx?_nil,ite_self,FM]
  congr 1
  have:∀ l:List TyV,(∀ p∈l,p∈ps)->l.map (CT [] args)=l:=by
   intro l;induction l with
   | nil=>intro _;rfl
   | cons p r ihr=>intro h;simp only[Hk,ih p (h p (by simp)),ihr (fun q hq=>h q (by simp[hq]))]
  exact this ps (fun _ h=>h)
theorem c264{params:List Bytes}{pr:AV}(hpr:SlR Cv 1 params pr)(hpl:params.length<1048577){args:List TyV}{av:AV}(har:SlR AR 4 args av)(has:∀ a∈args,Sm 1048577 a)(hpa:params.length<=args.length)(t:TyV)
 (xs:List AV) (hx:AR t xs) (hs:Sm 1048577 t):∃ ys,AR (CT params args t) ys/\∀ h,AI MX (AE MX) 264 [.agg xs,pr,av] h=some (.ret (.agg ys),h):=by
 refine cS hpr hpl har hpa (fun i hi e he => ?_) t xs hx hs;have hia:i<args.length:=by omega
 have hgd:args.getD i default=args[i]:=by simp[hia]
 rw[hgd]at he ⊢;obtain⟨ys,h1,h2⟩:=cS (params:=[]) (pr:=.AH) (.inl ⟨rfl,rfl⟩) (by simp) (args:=[]) (av:=.AH) (.inl ⟨rfl,rfl⟩) (by simp) (fun i hi=>by simp at hi) args[i] e he (has _ (Ap hia));rw[RP]at h1;exact⟨ys,h1,h2⟩
def Ij(z:Nat)(H H':AF):Prop:=∀(id:Nat) lk es,H[id]? = some (.arr z lk es)->H'[id]? = some (.arr z lk es)
theorem Ij.refl(z:Nat)(H:AF):Ij z H H:=fun _ _ _ h=>h
theorem Ij.trans{z:Nat}{A B C:AF}(h:Ij z A B)(k:Ij z B C):Ij z A C:=fun id lk es hh=>k id lk es (h id lk es hh)
theorem _root_.Go.Proofs.Am12.Ke.snapZ{α:Type}{R:α->List AV->Prop}{l:List α}{sz z:Nat}{H:AF}{a:AV}{es:List (List AV)}(hz:z≠sz)(hR:∀ a e,R a e->AG e=true)(h:Ke sz H a es)(hl:es.length=l.length)(hr:∀(i:Nat) a e,l[i]? = some a->es[i]? = some e->R a e) :
 ∃ v' H',BB 1 a H v' H'/\SlR R sz l v'/\Dg H H'/\Ij z H H':=by
 have hn:=C5 hl hr hR;rcases h with⟨h0,rfl⟩ | ⟨id,lk,h0,rfl,h2⟩
 .exact⟨.AH,H,fun n=>rfl,.inl ⟨E5 (by rw[<- hl,h0];rfl),rfl⟩,Dg.refl H,Ij.refl z H⟩
 .refine⟨.sl sz false es,H.set id (.arr sz true es),fun n => ?_,Ai.rep hl hr false,fun id' sz' lk' es' h3 h4 => ?_,fun id' lk' es' h3 => ?_⟩
  .have hb:(Nat.beq es.length es.length&&Nat.beq sz sz&&Nat.ble (0+es.length) es.length&&es.all AG)=true:=(by simp[A8,hn]);simp only[Am.snap,h2,hb];simp
  .by_cases hij:id=id'
   .subst hij;rw[h2]at h3;simp only[AN,Blk.arr.injEq]at h3;obtain⟨rfl,_,rfl⟩:=h3;exact⟨true,ER (Ae.1 h2).1⟩
   .exact⟨lk',by rw[BT hij];exact h3⟩
  .have hij:id≠id':=fun e=>by
    subst e;rw[h2]at h3;simp only[AN,Blk.arr.injEq]at h3;exact hz h3.1.symm
   rw[BT hij];exact h3
theorem Nd{α:Type}{Pre:AF->α->List AV->Prop}{Rep:α->List AV->Prop}{K z:Nat}(hs:∀ H d e,Pre H d e->∃ e' H',B5 K e H e' H'/\Rep d e'/\Dg H H'/\Ij z H H')(hk:∀ H H' d e,Pre H d e->Dg H H'->Pre H' d e) :
 ∀{l:List α} {es:List (List AV)} {H:AF},es.length=l.length->(∀(j:Nat) d e,l[j]? = some d->es[j]? = some e->Pre H d e) ->
 ∃ es' H',Df (K+1+l.length) es H es' H'/\es'.length=l.length/\(∀(j:Nat) d e,l[j]? = some d->es'[j]? = some e->Rep d e)/\Ij z H H'
 | [],[],H,_,_=>⟨[],H,(Df.nil H).mono (by omega),rfl,fun j d e h=>by simp at h,Ij.refl z H⟩
 | d::l,e::es,H,hl,hp=>by
  obtain⟨e',H1,s1,s2,s3,s4⟩:=hs _ _ _ (hp 0 d e rfl rfl);obtain⟨es',H2,t1,t2,t3,t4⟩:=Nd hs hk (l:=l) (es:=es) (H:=H1) (by simpa using hl) (fun j d' e' h1 h2=>hk _ _ _ _ (hp (j+1) d' e' (by simpa using h1) (by simpa using h2)) s3);refine⟨e'::es',H2,(Df.cons s1 t1).mono (by simp only[D8];omega),by simp[t2],fun j d' e'' h1 h2 => ?_,s4.trans t4⟩;cases j with
  | zero=>simp at h1 h2;exact h1 ▸ h2 ▸ s2
  | succ j=>exact t3 j d' e'' (by simpa using h1) (by simpa using h2)
 | [],_::_,_,hl,_=>by simp at hl
 | _::_,[],_,hl,_=>by simp at hl
theorem VY{sz:Nat}{α:Type}{Pre:AF->α->List AV->Prop}{Rep:α->List AV->Prop}{K:Nat}(hs:∀ H d e,Pre H d e->∃ e' H',B5 K e H e' H'/\Rep d e'/\Dg H H'/\Ij sz H H')(hk:∀ H H' d e,Pre H d e->Dg H H'->Pre H' d e)(hnr:∀ H d e,Pre H d e->AG e=true->Rep d e)(hrn:∀ d e,Rep d e->AG e=true)
 {l:List α} {es:List (List AV)} {H:AF} {j:Nat} (h2:H[j]? = some (.arr sz false es)) (hl:es.length=l.length) (hp:∀(j:Nat) d e,l[j]? = some d->es[j]? = some e->Pre H d e) (hK:K+1+l.length<=Ds) :
 ∃ es',es'.length=l.length/\(∀(j:Nat) d e,l[j]? = some d->es'[j]? = some e->Rep d e)/\∀ hc,DG true hc (.hs j es.length sz 0 es.length false) H=some (.hs hc.length es.length sz 0 es.length false,hc++[.arr sz false es']):=by
 have ht:PQ (.hs j es.length sz 0 es.length false)=[j]:=rfl;have hrl:∀ b,IM b [j] (.hs j es.length sz 0 es.length false)=some (.hs b es.length sz 0 es.length false):=fun b=>by
  simp[IM,Ll,GC,posOf,A1]
 by_cases hall:es.all AG=true
 .refine⟨es,hl,fun k d e g1 g2=>hnr _ _ _ (hp k d e g1 g2) (D0.1 hall _ (C2 g2)),fun hc => ?_⟩;have hset:Am.settle [j] H=some H:=by simp only[Am.settle,h2,hall]
  have hkb:ET H [j]=some [.arr sz false es]:=by simp only[ET,h2,Blk.AA,hall]
  simp only[Am.DG,ht,hset,hrl,hkb];simp[Am.distinct]
 .obtain⟨es',H',s1,s2,s3,s4⟩:=Nd hs hk hl hp;have ha:es.all AG=false:=by simpa using hall
  have hsn:GU Ds es H=some (es',H'):=by
   have:=s1 (Ds - (K+1+l.length))
   rwa [Nat.sub_add_cancel hK]at this
  have hbq:(Nat.beq es.length es'.length&&Nat.beq sz sz)=true:=by rw[s2,hl];simp[A1]
  have hset:Am.settle [j] H=some (H'.set j (.arr sz false es')):=by simp only[Am.settle,h2,ha,hsn,s4 j false es h2,hbq]
  have hn':=C5 s2 s3 hrn;have hj:=(Ae.1 (s4 j false es h2)).1;have hkb:ET (H'.set j (.arr sz false es')) [j]=some [.arr sz false es']:=by simp only[ET,ER hj,Blk.AA,hn']
  refine⟨es',s2,s3,fun hc => ?_⟩;simp only[Am.DG,ht,hset,hrl,hkb];simp[Am.distinct]
theorem MH{f:FuncId}{args:List AV}{v v':AV}{hr h h':AF}(hm:MX.mode f = { fresh:=true,keepTop:=true })(he:MX.eff f=none)(ha:args.all AV.AA=true)(hrun:AJ MX f args []=some (.ret v,hr))(hc:DG true h v hr=some (v',h')):AI MX (AE MX) f args h=some (.ret v',h'):=by
 have hs:∀{l:List AV} {h:AF},l.all AV.AA=true->A4 l h=some (l,h):=by
  intro l;induction l with
  | nil=>intro h _;rfl
  | cons a r ih=>
   intro h hn;simp only[JL,BU]at hn;simp only[A4,hn.1,ih hn.2]
 unfold AI;simp only[hm,hs ha,ha,Ie he hrun,hc]
def Fq(H:AF)(c:CS)(e:List AV):Prop:=∃ fa fes,e=[.str c.nm,fa,.AH]/\Ke 5 H fa fes/\fes.length=c.fields.length/\∀(j:Nat) t e,c.fields[j]? = some t->fes[j]? = some e->Bo t e
def Kh(c:CS)(e:List AV):Prop:=∃ fv,e=[.str c.nm,fv,.AH]/\SlR Bo 5 c.fields fv
theorem Fq.keeps{H H':AF}{d:CS}{e:List AV}(h:Fq H d e)(k:Dg H H'):Fq H' d e:=by
 obtain⟨ca,ces,h1,h3,h4,h5⟩:=h;exact⟨ca,ces,h1,h3.keeps (C5 h4 h5 FK) k,h4,h5⟩
theorem Fq.snap{H:AF}{d:CS}{e:List AV}(h:Fq H d e):∃ e' H',B5 4 e H e' H'/\Kh d e'/\Dg H H'/\Ij 3 H H':=by
 obtain⟨ca,ces,rfl,h3,h4,h5⟩:=h;obtain⟨v',H',s1,s2,s3,s4⟩:=h3.snapZ (z:=3) (by decide) FK h4 h5;exact⟨[.str d.nm,v',.AH],H',.cons (.flat rfl _) (.cons s1 (.cons (.flat rfl _) (.nil _))),⟨v',rfl,s2⟩,s3,s4⟩
theorem Fq.AA{H:AF}{d:CS}{e:List AV}(h:Fq H d e)(hn:AG e=true):Kh d e:=by
 obtain⟨ca,ces,rfl,q2,q3,q4⟩:=h;rcases q2 with⟨q5,rfl⟩ | ⟨_,_,_,rfl,_⟩
 .exact⟨.AH,rfl,.inl ⟨E5 (by rw[<- q3,q5];rfl),rfl⟩⟩
 .simp[AG,AV.AA]at hn
theorem Kh.AG{d:CS}{e:List AV}(h:Kh d e):AG e=true:=by
 obtain⟨fv,rfl,hf⟩:=h;simp[Am.AG,AV.AA,hf.AA]
theorem c237{l:List AK}{lv:AV}(hl:SlR Ac 3 l lv)(hsl:SmL 1048577 l)(hB:∀ d∈l,(d.nm == DM)=false/\(d.nm == CO)=false){t:TyV}{xs:List AV}(hx:AR t xs)(hst:Sm 1048577 t)(hc:HasC l t)(hcn:AP l t≠[]) :
 ∃ es,es.length=(AP l t).length/\(∀(j:Nat) c e,(AP l t)[j]? = some c->es[j]? = some e->Kh c e) /\
  ((∀ h,AI MX (AE MX) 237 [.agg [lv,.AH],.agg xs] h=some (.ret (.sl 3 true es),h))/\(∀ c∈AP l t,c.fields=[])\/∀ h:AF,AI MX (AE MX) 237 [.agg [lv,.AH],.agg xs] h=some (.ret (.hs h.length (AP l t).length 3 0 (AP l t).length false),h++[.arr 3 false es])):=by
 have hn:([AV.agg [lv,.AH],AV.agg xs]:List AV).all AV.AA=true:=by simp[AV.AA,AG,hx.AG,hl.AA]
 have hps:∀ p∈t.ps,Sm 1048577 p:=by cases t;exact hst.dest.2.2
 obtain⟨pv,rfl,hp⟩:=hx.Ab;obtain⟨h261a,h261b⟩:=c261 t.nm hl hsl.1 (pr:=.AH) rfl rfl [Blk.var false [lv,.AH],Blk.var false [AV.int .i64 t.k,AV.int .i64 t.v,AV.str t.nm,pv]];cases hf:l.findIdx? (fun d=>d.nm == t.nm)with
 | none=>
  have hb:(t.nm == CO)=true:=by
   rcases hc with h | ⟨i,h,_⟩
   .exact h
   .rw[hf]at h;cases h
  have h261:=h261a hf;have hcons:AP l t=[⟨Cc,[]⟩,⟨EB,[]⟩]:=by simp only[AP,hb,if_true]
  rw[hcons];refine⟨[[.str Cc,.AH,.AH],[.str EB,.AH,.AH]],rfl,fun j c e h1 h2 => ?_,.inl ⟨fun h => ?_,by simp⟩⟩
  .match j with
   | 0=>simp at h1 h2;subst h1;subst h2;exact⟨.AH,rfl,.inl ⟨rfl,rfl⟩⟩
   | 1=>simp at h1 h2;subst h1;subst h2;exact⟨.AH,rfl,.inl ⟨rfl,rfl⟩⟩
   | j+2=>simp at h1
  .refine MH Q9 Tq hn (hr := ?_) (v:=.sl 3 true [[.str Cc,.AH,.AH],[.str EB,.AH,.AH]]) ?_ ?_
   .exact [Blk.var false [lv,.AH],Blk.var false [AV.int .i64 t.k,AV.int .i64 t.v,AV.str t.nm,pv],Blk.var false [.str [],.AH,.AH]]
   .simp[AJ,f237,hl.cells,h261,bsA,Aq,List.replicate,AG,AV.AA,Cc,EB]
   .rw[<- IX h]
    conv=>lhs;rw[IX]
    rfl
 | some i=>
  have hil:=G8 hf;have hgd:l.getD i default=l[i]:=by simp[hil]
  obtain⟨de,hdR,h261⟩:=h261b i hil hf;have hnm:(l[i].nm == t.nm)=true:=by
   have h3:=hf;rw[I8]at h3;exact h3.2.1
  have hb:(t.nm == CO)=false:=by
   have:=(hB _ (Ap hil)).2;rw[<- this];rw[beq_iff_eq.1 hnm]
  rcases hc with hc | ⟨i',hf',hpa⟩
  .rw[hb]at hc;cases hc
  rw[hf]at hf';cases hf';rw[hgd]at hpa;obtain⟨s1,s2,s3,s4,s5⟩:=hsl.2 _ (Ap hil);obtain⟨qv,cv,rfl,hqp,hcv⟩:=hdR.dest;have hb12:=SW;simp[Aa,An,f237]at hb12;let F:=F0 l[i].params t.ps;have hcons:AP l t=l[i].cons.map F:=by simp only[AP,hb,hf,hgd];rfl
  obtain⟨e,st,hlp,hq⟩:=AU (M:=MX) (fid:=237) (N:=64) (C:=AE MX) (c:=AL f237 0) (n:=l[i].cons.length)
   (fun k (b:AV×AF×List (List AV))=>([(3,.hp 1 0),(5,.hp 2 0),(7,b.1),(26,cv),(27,.int .i64 l[i].cons.length),(28,.int .i64 k)],Blk.var false [lv,AV.AH]::Blk.var false [AV.int .i64 t.k,AV.int .i64 t.v,AV.str t.nm,pv]::Blk.var false [AV.str l[i].nm,qv,cv]::b.2.1))
   (fun k b=>Ai 3 0 (Blk.var false [lv,AV.AH]::Blk.var false [AV.int .i64 t.k,AV.int .i64 t.v,AV.str t.nm,pv]::Blk.var false [AV.str l[i].nm,qv,cv]::b.2.1) b.1 b.2.2/\b.2.2.length=((l[i].cons.map F).take k).length/\∀(j:Nat) t' e,((l[i].cons.map F).take k)[j]? = some t'->b.2.2[j]? = some e->Fq (Blk.var false [lv,AV.AH]::Blk.var false [AV.int .i64 t.k,AV.int .i64 t.v,AV.str t.nm,pv]::Blk.var false [AV.str l[i].nm,qv,cv]::b.2.1) t' e)
   (fun r=>∃ b:AV×AF×List (List AV),r=(.ext 0,([(3,.hp 1 0),(5,.hp 2 0),(7,b.1),(26,cv),(27,.int .i64 l[i].cons.length),(28,.int .i64 l[i].cons.length),(29,.bool false)],Blk.var false [lv,AV.AH]::Blk.var false [AV.int .i64 t.k,AV.int .i64 t.v,AV.str t.nm,pv]::Blk.var false [AV.str l[i].nm,qv,cv]::b.2.1)) /\
     Ai 3 0 (Blk.var false [lv,AV.AH]::Blk.var false [AV.int .i64 t.k,AV.int .i64 t.v,AV.str t.nm,pv]::Blk.var false [AV.str l[i].nm,qv,cv]::b.2.1) b.1 b.2.2/\b.2.2.length=(l[i].cons.map F).length/\∀(j:Nat) t' e,(l[i].cons.map F)[j]? = some t'->b.2.2[j]? = some e->Fq (Blk.var false [lv,AV.AH]::Blk.var false [AV.int .i64 t.k,AV.int .i64 t.v,AV.str t.nm,pv]::Blk.var false [AV.str l[i].nm,qv,cv]::b.2.1) t' e) (fun k b hk hI=>by
     obtain⟨a,pre0,es⟩:=b;obtain⟨i1,i2,i3⟩:=hI;simp only at i1 i2 i3;obtain⟨ce,hce,hcR⟩:=hcv.ix hk;have hk':=AZ hk;have hw:=AY hk s4;have hkm:k<(l[i].cons.map F).length:=(by simpa using hk);have hsc:=s5 _ (Ap hk);obtain⟨fv,rfl,hfv⟩:=hcR.dest;obtain⟨pre,hpre⟩:∃ pre,pre=pre0++[Blk.var false [AV.str l[i].cons[k].nm,fv]]:=⟨_,rfl⟩;have hprel:pre.length=pre0.length+1:=(by rw[hpre];simp);obtain⟨e2,st2,hlp2,hq2⟩:=AU (M:=MX) (fid:=237) (N:=64) (C:=AE MX) (c:=AL f237 1) (n:=l[i].cons[k].fields.length)
      (fun m (b:AV×AF×List (List AV))=>([(3,.hp 1 0),(5,.hp 2 0),(7,a),(10,.hp (pre.length+1+1+1) 0),(26,cv),(27,.int .i64 l[i].cons.length),(28,.int .i64 k),(36,fv),(37,.int .i64 l[i].cons[k].fields.length),(38,.int .i64 m)],Blk.var false [lv,AV.AH]::Blk.var false [AV.int .i64 t.k,AV.int .i64 t.v,AV.str t.nm,pv]::Blk.var false [AV.str l[i].nm,qv,cv]::(pre++Blk.var false [AV.str l[i].cons[k].nm,b.1,AV.AH]::b.2.1)))
      (fun m b=>Ai 5 (pre.length+4) b.2.1 b.1 b.2.2/\b.2.2.length=((F l[i].cons[k]).fields.take m).length/\∀(j:Nat) t e,((F l[i].cons[k]).fields.take m)[j]? = some t->b.2.2[j]? = some e->Bo t e)
      (fun r=>∃ b:AV×AF×List (List AV),r=(.ext 2,([(3,.hp 1 0),(5,.hp 2 0),(7,a),(10,.hp (pre.length+1+1+1) 0),(26,cv),(27,.int .i64 l[i].cons.length),(28,.int .i64 k),(36,fv),(37,.int .i64 l[i].cons[k].fields.length),(38,.int .i64 l[i].cons[k].fields.length),(39,.bool false)],Blk.var false [lv,AV.AH]::Blk.var false [AV.int .i64 t.k,AV.int .i64 t.v,AV.str t.nm,pv]::Blk.var false [AV.str l[i].nm,qv,cv]::(pre++Blk.var false [AV.str l[i].cons[k].nm,b.1,AV.AH]::b.2.1))) /\
        Ai 5 (pre.length+4) b.2.1 b.1 b.2.2/\b.2.2.length=(F l[i].cons[k]).fields.length/\∀(j:Nat) t e,(F l[i].cons[k]).fields[j]? = some t->b.2.2[j]? = some e->Bo t e) (fun m b hm hM=>by
        obtain⟨fa,rest,fes⟩:=b;obtain⟨k1,k2,k3⟩:=hM;simp only at k1 k2 k3;obtain⟨fe,hfe,hfR⟩:=hfv.ix hm;have hm':=AZ hm;have hwm:=AY hm hsc.2.1;have hmm:m<(F l[i].cons[k]).fields.length:=(by simpa[F,F0]using hm);have hsf:=hsc.2.2 _ (Ap hm);obtain⟨tx,rfl,htx⟩:=hfR;obtain⟨ys,hys,hcall⟩:=c264 hqp s2 hp hps hpa l[i].cons[k].fields[m].ty tx htx hsf.2;have hfr:Bo (F l[i].cons[k]).fields[m] (.str l[i].cons[k].fields[m].nm::ys):=⟨ys,by simp[F,F0],by simpa[F,F0]using hys⟩;obtain⟨j1,j2⟩:=E9 k2 k3 hfr;rw[Cf hmm]at j1 j2;have hlen:fes.length<16777215:=(by rw[k2,GR];exact Hh (Mj _ _) (by simp only[F,F0,Fa];exact Hi hsc.2.1 (by decide)));obtain⟨q,rfl,hq⟩:=hys.Ab;obtain⟨q',rfl,hq'⟩:=htx.Ab;have k1':=k1.grow [Blk.var false [AV.str l[i].cons[k].fields[m].nm,AV.int .i64 l[i].cons[k].fields[m].ty.k,AV.int .i64 l[i].cons[k].fields[m].ty.v,AV.str l[i].cons[k].fields[m].ty.nm,q']];have hPl:(Blk.var false [lv,AV.AH]::Blk.var false [AV.int .i64 t.k,AV.int .i64 t.v,AV.str t.nm,pv]::Blk.var false [AV.str l[i].nm,qv,cv]::(pre++[Blk.var false [AV.str l[i].cons[k].nm,fa,AV.AH]])).length=pre.length+4:=(by simp);obtain⟨fa',rest',hap,hacc⟩:=Ai.push (byt:=72) (P:=Blk.var false [lv,AV.AH]::Blk.var false [AV.int .i64 t.k,AV.int .i64 t.v,AV.str t.nm,pv]::Blk.var false [AV.str l[i].nm,qv,cv]::(pre++[Blk.var false [AV.str l[i].cons[k].nm,fa,AV.AH]]))
         (.str l[i].cons[k].fields[m].nm::[.int .i64 (CT l[i].params t.ps l[i].cons[k].fields[m].ty).k,.int .i64 (CT l[i].params t.ps l[i].cons[k].fields[m].ty).v,.str (CT l[i].params t.ps l[i].cons[k].fields[m].ty).nm,q]) true (by rw[hPl];exact k1') (by decide) (by decide) hlen
        rw[hPl]at hacc;simp only[EM,Fk,FE]at hap;exact .inl ⟨(fa',rest',_),by simp[f237,hk',hce,hfv.len,hm',hfe,hcall,bsA,Aq,List.replicate,hap,hwm,hb12,AG,AV.AA,hq.AA,hq'.AA,hqp.AA,hp.AA,hacc.cells],hacc,j1,j2⟩) (fun b hM=>by
        obtain⟨fa,rest,fes⟩:=b;obtain⟨k1,k2,k3⟩:=hM;rw[DC (by simp[F,F0])]at k2 k3;exact⟨_,_,by simp[f237] <;> first | exact⟨rfl,rfl⟩ | rfl,by simp,(fa,rest,fes),rfl,k1,k2,k3⟩) (.AH,[],[]) ⟨.nil _ _ _,by simp,fun j t e h=>by simp at h⟩
     obtain⟨⟨fa,rest,fes⟩,hq2,k1,k2,k3⟩:=hq2;cases hq2;rw[hpre]at hlp2;simp[f237]at hlp2;have hlen:es.length<16777215:=(by rw[i2,GR,Fa];exact Hh (Mj _ _) (Hi s4 (by decide)));let B0:=Blk.var false [lv,AV.AH];let B1:=Blk.var false [AV.int .i64 t.k,AV.int .i64 t.v,AV.str t.nm,pv];let B2:=Blk.var false [AV.str l[i].nm,qv,cv];let C:=Blk.var false [AV.str l[i].cons[k].nm,fa,AV.AH];have hfa:Ke 5 (B0::B1::B2::(pre++C::rest)) fa fes:=by
      rcases k1 with h | ⟨j,h0,h1,h2⟩
      .exact .inl h
      .refine .inr ⟨pre.length+4+j,false,h0,h1,?_⟩;show(B0::B1::B2::(pre++C::rest))[pre.length+4+j]? = _;rw[show pre.length+4+j=(pre.length+1+j)+1+1+1 by omega,Kq,Kq,Kq,EL (by omega),show pre.length+1+j - pre.length=j+1 by omega];simpa using h2
     have e0:Fq (B0::B1::B2::(pre++C::rest)) (l[i].cons.map F)[k] [AV.str l[i].cons[k].nm,fa,AV.AH]:=⟨fa,fes,by simp[F,F0],hfa,by simpa[F]using k2,fun j t e h1 h2=>k3 j t e (by simpa[F]using h1) h2⟩;have hgrow:B0::B1::B2::(pre++C::rest)=(B0::B1::B2::pre0)++(Blk.var false [AV.str l[i].cons[k].nm,fv]::C::rest):=(by rw[hpre];simp);have fin:∀(H:AF) (x:AV),Dg (B0::B1::B2::(pre++C::rest)) H->Ai 3 0 H a es->A7 H x=some [[AV.str l[i].cons[k].nm,fa,AV.AH]]->CC 3 x=true->(∀ b,x≠.str b)->H[0]? = some B0->H[1]? = some B1->H[2]? = some B2 ->
      ∃ a' T,apA 3 64 a x H=some (a',B0::B1::B2::T)/\Ai 3 0 (B0::B1::B2::T) a' (es++[[AV.str l[i].cons[k].nm,fa,AV.AH]])/\(es++[[AV.str l[i].cons[k].nm,fa,AV.AH]]).length=((l[i].cons.map F).take (k+1)).length/\∀(j:Nat) t' e,((l[i].cons.map F).take (k+1))[j]? = some t'->(es++[[AV.str l[i].cons[k].nm,fa,AV.AH]])[j]? = some e->Fq (B0::B1::B2::T) t' e:=by
      intro H x hk hacc hrd hsz hst hh0 hh1 hh2;obtain⟨a',H',h1,h2,h3⟩:=Sc (byt:=64) hacc hrd hsz hst (by simp) (by decide) (by decide) (by simp;omega);have g0:=h3 0 _ hh0 (fun lk es e=>by simp[B0]at e);have g1:=h3 1 _ hh1 (fun lk es e=>by simp[B1]at e);have g2:=h3 2 _ hh2 (fun lk es e=>by simp[B2]at e);obtain⟨T,rfl⟩:∃ T,H'=B0::B1::B2::T:=by
       match H',g0,g1,g2 with
       | x::y::z::T,g0,g1,g2=>simp at g0 g1 g2;exact⟨T,by rw[g0,g1,g2]⟩
      obtain⟨j1,j2⟩:=E9 (R:=Fq (B0::B1::B2::(pre++C::rest))) i2 (fun j t e g1 g2=>(i3 j t e g1 g2).keeps (by rw[hgrow];exact NX (B0::B1::B2::pre0) _)) e0;rw[Cf hkm]at j1 j2;have keepP:∀ t e,Fq H t e->Fq (B0::B1::B2::T) t e:=fun t e h=>by
       obtain⟨q3,q4,q5,q6,q7,q8⟩:=h;refine⟨q3,q4,q5,?_,q7,q8⟩;rcases q6 with h | ⟨id,lk,g0,g1,g2⟩
       .exact .inl h
       .exact .inr ⟨id,lk,g0,g1,h3 id _ g2 (fun lk' es' e=>by cases e)⟩
      exact⟨a',T,h1,h2,j1,fun j t e g1 g2=>keepP t e ((j2 j t e g1 g2).keeps hk)⟩
     have i1':Ai 3 0 (B0::B1::B2::(pre++C::rest)) a es:=(by rw[hgrow];exact Ai.grow (rest:=B0::B1::B2::pre0) i1 _);cases hna:fa.AA with
     | true=>
      obtain⟨a',T,f1,f2,f3,f4⟩:=fin _ (.sl 3 true [[AV.str l[i].cons[k].nm,fa,AV.AH]]) (Dg.refl _) i1' rfl (by simp[CC,BM]) (fun b h=>by cases h) rfl rfl rfl;rw[hpre]at f1;simp[B0,B1,B2,C]at f1;exact .inl ⟨(a',T,es++[[AV.str l[i].cons[k].nm,fa,AV.AH]]),by simp[f237,hfv.len,hfv.cells,hk',hce,hlp2,bsA,Aq,List.replicate,AG,AV.AA,hna,f1,hw],f2,f3,f4⟩
     | false=>
      obtain⟨a',T,f1,f2,f3,f4⟩:=fin ((B0::B1::B2::(pre++C::rest))++[Blk.arr 3 false [[AV.str l[i].cons[k].nm,fa,AV.AH]]]) (.hs (B0::B1::B2::(pre++C::rest)).length 1 3 0 1 false) (NX _ _) (i1'.grow _)
       (by simp only[A7,BR];simp) (by simp[CC,BM]) (fun b h=>by cases h) rfl rfl rfl
      rw[hpre]at f1;simp[B0,B1,B2,C]at f1;exact .inl ⟨(a',T,es++[[AV.str l[i].cons[k].nm,fa,AV.AH]]),by simp[f237,hfv.len,hfv.cells,hk',hce,hlp2,bsA,Aq,List.replicate,A3,AG,AV.AA,hna,f1,hw],f2,f3,f4⟩) (fun b hI=>by
     obtain⟨a,rest,es⟩:=b;obtain⟨i1,i2,i3⟩:=hI;rw[DC (by simp)]at i2 i3;exact⟨_,_,by simp[f237] <;> first | exact⟨rfl,rfl⟩ | rfl,by simp,(a,rest,es),rfl,i1,i2,i3⟩) (.AH,[],[]) ⟨.nil _ _ _,by simp,fun j t e h=>by simp at h⟩
  obtain⟨⟨a,rest,es⟩,hq,i1,i2,i3⟩:=hq;cases hq;simp[f237]at hlp;rw[hcons];rw[hcons]at hcn;have hel:es≠[]:=fun h=>hcn (E5 (by rw[<- i2,h];rfl))
  rcases i1 with⟨h,_⟩ | ⟨j,_,ha,hj⟩
  .exact absurd h hel
  have ha':a=.hs j es.length 3 0 es.length false:=by simpa using ha
  obtain⟨es',g1,g2,g3⟩:=VY (K:=4) (fun H d e h=>Fq.snap h) (fun H H' d e h k=>Fq.keeps h k) (fun H d e h hn=>Fq.AA h hn) (fun d e h=>Kh.AG h) hj i2 i3 (by simp only[Ds,Fa];omega);have hrun:AJ MX 237 [.agg [lv,.AH],.agg [.int .i64 t.k,.int .i64 t.v,.str t.nm,pv]] []=some (.ret a,Blk.var false [lv,AV.AH]::Blk.var false [AV.int .i64 t.k,AV.int .i64 t.v,AV.str t.nm,pv]::Blk.var false [AV.str l[i].nm,qv,cv]::rest):=by
   simp[AJ,f237,hl.cells,h261,hqp.cells,hcv.cells,hcv.len,hlp]
  rw[ha',i2]at hrun;rw[i2]at g3;exact⟨es',g1,g2,.inr fun h=>MH Q9 Tq hn hrun (g3 h)⟩
theorem Bj{f:FuncId}{args:List AV}{h:AF}{r:CR×AF}(hm:MX.mode f = { })(he:MX.eff f=none)(hr:AJ MX f args h=some r):AI MX (AE MX) f args h=some r:=CV hm he hr
def Jl(R:AV->Sh->Prop)(S:Nat->Prop)(H:AF)(pv:AV)(parts:List Sh):Prop:=(parts=[]/\pv=.AH)\/∃ q ptrs,parts≠[]/\S q/\pv=.hs q parts.length 1 0 parts.length false/\H[q]? = some (.arr 1 false ptrs)/\ptrs.length=parts.length/\∀(k:Nat) p s,ptrs[k]? = some p->parts[k]? = some s->∃ v,p=[v]/\R v s
def HY:Nat->(Nat->Prop)->AF->AV->Sh->Prop
 | 0,_,_,_,_=>False
 | n+1,S,H,v,s=>∃ id,v=.hp id 0/\S id/\match s with
  | .bit m=>H[id]? = some (.var false [.int .i64 m,.AH])
  | .cons ns ss=>∃ w es,H[id]? = some (.var false [.int .i64 0,w])/\es.length=ns.length/\ss.length=ns.length/\(w=.sl 3 true es\/∃ j,S j/\w=.hs j es.length 3 0 es.length false/\H[j]? = some (.arr 3 false es)) /\
   ∀(k:Nat) e nm parts,es[k]? = some e->ns[k]? = some nm->ss[k]? = some parts->∃ fv pv,e=[.str nm,fv,pv]/\Jl (HY n S H) S H pv parts
theorem Jl.mono{R R':AV->Sh->Prop}{S S':Nat->Prop}{H H':AF}{pv:AV}{parts:List Sh}(h:Jl R S H pv parts)(hr:∀ v s,R v s->R' v s)(hs:∀ x,S x->S' x)(hh:∀ x,S x->H'[x]? = H[x]?):Jl R' S' H' pv parts:=by
 rcases h with h | ⟨q,ptrs,h0,h1,h2,h3,h4,h5⟩
 .exact .inl h
 .exact .inr ⟨q,ptrs,h0,hs q h1,h2,by rw[hh q h1];exact h3,h4,fun k p s a b=>by
   obtain⟨v,c,d⟩:=h5 k p s a b;exact⟨v,c,hr v s d⟩⟩
theorem HY.mono:∀(n:Nat) {S S':Nat->Prop} {H H':AF} {v:AV} {s:Sh},HY n S H v s->(∀ x,S x->S' x)->(∀ x,S x->H'[x]? = H[x]?)->HY n S' H' v s
 | 0,_,_,_,_,_,_,h,_,_=>h
 | n+1,S,S',H,H',v,.bit m,⟨id,h1,h2,h3⟩,hs,hh=>⟨id,h1,hs id h2,by
  show H'[id]? = _;rw[hh id h2];exact h3⟩
 | n+1,S,S',H,H',v,.cons ns ss,⟨id,h1,h2,w,es,h3,h4,h5,h6,h7⟩,hs,hh=>by
  refine⟨id,h1,hs id h2,w,es,by rw[hh id h2];exact h3,h4,h5,?_,fun k e nm parts a b c => ?_⟩
  .rcases h6 with h | ⟨j,g1,g2,g3⟩
   .exact .inl h
   .exact .inr ⟨j,hs j g1,g2,by rw[hh j g1];exact g3⟩
  .obtain⟨fv,pv,d1,d2⟩:=h7 k e nm parts a b c;exact⟨fv,pv,d1,d2.mono (fun v s h=>HY.mono n h hs hh) hs hh⟩
noncomputable def Xw(l:List AK)(t:TyV):Sh:=.cons ((AP l t).map (·.nm)) ((AP l t).map fun c=>c.fields.map fun f=>Eh l f.ty)
theorem Nf{l:List AK}{t:TyV}{s:Sh}(h:Em l t s)(hb:Ek t=false):s=Xw l t:=by
 cases h with
 | bit _ hb' _=>rw[hb]at hb';cases hb'
 | cons _ ns ss _ hk hn hl hs hf=>
  unfold Xw
  congr 1
  refine Li (by simp[hl]) fun i h1 h2 => ?_
  have hi:i<(AP l t).length:=by omega
  rw[List.getElem_map];have hs':=hs i _ _ (AW hi) (AW h1);refine Li (by simp[hs']) fun j h3 h4 => ?_
  have hj:j<(AP l t)[i].fields.length:=by omega
  rw[List.getElem_map];exact(I0 (hf i _ _ j _ _ (AW hi) (AW h1) (AW hj) (AW h3))).symm
def NA(l:List AK)(H:AF)(c:Nat)(n:Nat)(t:TyV)(E:Int×Int)(v:AV)(H':AF):Prop:=H.length<=H'.length/\(∀ x,x<H.length->x≠c->H'[x]? = H[x]?)/\(E.2=0->H'[c]? = some (.var false [.int .i64 E.1])/\HY (n+1) (fun x=>H.length<=x/\x<H'.length) H' v (Eh l t))
theorem VT.kind{l:List AK}{t:TyV}(h:VT l t):t.k=1\/t.k=2:=by
 cases t with
 | mk k v nm ps=>
  simp only[VT,Aj]at h;split at h
  .cases h
  .rename_i h1;split at h
   .cases h
   .rename_i h2;simp only[List.findIdx?_nil,and_true]at h2;show k=1\/k=2;omega
theorem e195{l:List AK}{lv:AV}(hl:SlR Ac 3 l lv)(hok:DOK l)(r:Option Rec)(D:Int)(hD0:0<=D)(hD1:D<=41)(hr:r=none↔40<D)(n:Nat){t:TyV}{xs:List AV}(hx:AR t xs)(hst:Sm 1048577 t)(hv:VT l t){H:AF}{cnt:Int}{c:Nat}(hc:H[c]? = some (.var false [.int .i64 cnt]))(c0:0<=cnt)(c1:cnt<=200)
 (main:Bp t=true->t.k=1->Ek t=false->cnt+1<=200->D<=40->∃ v H',AI MX (AE MX) 195 [.agg [lv,.AH],.agg xs,.hp c 0,.int .i64 D] H=some (.ret (.tup [v,.int .i64 (EO l r t cnt).2]),H')/\NA l H c n t (EO l r t cnt) v H') :
 ∃ v H',AI MX (AE MX) 195 [.agg [lv,.AH],.agg xs,.hp c 0,.int .i64 D] H=some (.ret (.tup [v,.int .i64 (EO l r t cnt).2]),H')/\NA l H c n t (EO l r t cnt) v H':=by
 have h234:=c234 hx hst;have hbit:=hok.bit t hv;have hkind:=hv.kind;have hcl:=(Ae.1 hc).1;have wc:wr .i64 (cnt+1)=cnt+1:=Cl (by omega) (by omega);obtain⟨pv,rfl,hp⟩:=hx.Ab;have hb:=SV;simp[Aa,An,f195]at hb;have p0:(H++[Blk.var false [lv,.AH],Blk.var false [.int .i64 t.k,.int .i64 t.v,.str t.nm,pv]])[c]? = some (.var false [.int .i64 cnt]):=Av hc _;have q0:((H++[Blk.var false [lv,.AH],Blk.var false [.int .i64 t.k,.int .i64 t.v,.str t.nm,pv]]).set c (.var false [.int .i64 (cnt+1)]))[c]? = some (.var false [.int .i64 (cnt+1)]):=ER (by simp;omega);have q1:((H++[Blk.var false [lv,.AH],Blk.var false [.int .i64 t.k,.int .i64 t.v,.str t.nm,pv]]).set c (.var false [.int .i64 (cnt+1)]))[H.length+1]? = some (.var false [.int .i64 t.k,.int .i64 t.v,.str t.nm,pv]):=by rw[BT (by omega)];simp
 obtain⟨G,hG⟩:∃ G,G=(H++[Blk.var false [lv,.AH],Blk.var false [.int .i64 t.k,.int .i64 t.v,.str t.nm,pv]]).set c (.var false [.int .i64 (cnt+1)]):=⟨_,rfl⟩;have hGl:G.length=H.length+2:=by rw[hG];simp
 rw[<- hG]at q0 q1;have fr:∀ x,x<H.length->x≠c->G[x]? = H[x]? := fun x h1 h2=>by rw[hG,BT (fun h=>h2 h.symm),BA h1]
 cases hT:Bp t with
 | false=>
  rw[hT]at h234;simp only[ES,if_false]at h234;refine⟨.ED,_,Bj Hr Iy (by simp[AJ,f195,h234,EO,hT] <;> rfl),by simp,fun x hx _=>BA hx,fun h => ?_⟩;simp[EO,hT]at h
 | true=>
  rw[hT]at h234;simp only[if_true]at h234;by_cases h2:t.k=2
  .refine⟨.ED,G,Bj Hr Iy ?_,by omega,fr,fun h => ?_⟩
   .have hk:(t.k == 2)=true:=(by simp[h2]);have hE:(EO l r t cnt).2=26:=(by simp[EO,hT,h2]);rw[hE];by_cases f1:cnt+1<=200 <;> by_cases f2:D<=40 <;> simp[AJ,f195,h234,hk,p0,q0,q1,wc,<- hG,f1,f2,Lu]
   .simp[EO,hT,h2]at h
  .have hk1:t.k=1:=(by omega);have hk2:(t.k == 2)=false:=(by simp[h2]);by_cases hbt:t.nm=DM
   .have hB:Ek t=true:=(by simp[Ek,hk1,hbt]);have hbn:(t.nm == [66,105,116])=true:=(by rw[hbt];rfl);have hlen:=hbit hB;have h01:0<t.ps.length:=(by omega);obtain⟨e,he,hR⟩:=hp.ix h01;have hag:Bu t=t.ps[0]:=(by simp[Bu,h01]);obtain⟨av,rfl,hav⟩:=hR.Ab;have he':ixA 4 pv (.int .i64 0)=some (.ro [.int .i64 t.ps[0].k,.int .i64 t.ps[0].v,.str t.ps[0].nm,av]):=he .i64;have h217:=fun a b d=>c217 [a,b,d] true (by simp)
    simp only[ints,Hk,List.map_nil]at h217;have hE:(EO l r t cnt).2=A9 [if t.ps[0].k=2 then 0 else 26,if 1<=t.ps[0].v/\t.ps[0].v<=16 then 0 else 25,if cnt+1<=200/\D<=40 then 0 else 8]/\((EO l r t cnt).2=0->(EO l r t cnt).1=cnt+1):=by
     unfold EO;rw[hag];simp only[hT,h2,hB,A9];by_cases k1:t.ps[0].k=2
     .by_cases ka:1<=t.ps[0].v
      .by_cases kb:t.ps[0].v<=16
       .have kc:¬ t.ps[0].v<1:=(by omega);have kd:¬ 16<t.ps[0].v:=(by omega);by_cases k3:cnt+1<=200
        .by_cases k4:D<=40
         .cases r with
          | none=>have:=hr.1 rfl;omega
          | some rec=>simp[k1,ka,kb,kc,kd,k3,k4,show ¬ 200<cnt+1 by omega]
         .have hr0:r=none:=hr.2 (by omega);subst hr0;simp[k1,ka,kb,kc,kd,k3,k4,show ¬ 200<cnt+1 by omega]
        .simp[k1,ka,kb,kc,kd,k3,show 200<cnt+1 by omega]
       .simp[k1,ka,kb,show 16<t.ps[0].v by omega]
      .have kw:(1<=t.ps[0].v/\t.ps[0].v<=16)=False:=eq_false (fun h=>ka h.1);simp only[k1,kw,not_false_eq_true,and_self,and_true,true_and,and_false,ne_eq,not_true_eq_false,if_true,if_false,Bool.true_eq_false];simp;have ki:((1:Int)<=t.ps[0].v->(16:Int)<t.ps[0].v):=fun h=>absurd h ka
       rw[if_pos ki];simp
     .simp[k1]
    obtain⟨hE1,hE2⟩:=hE;have hbx:(G++[Blk.var false [.int .i64 t.ps[0].k,.int .i64 t.ps[0].v,.str t.ps[0].nm,av]])[H.length+2]? = some (.var false [.int .i64 t.ps[0].k,.int .i64 t.ps[0].v,.str t.ps[0].nm,av]):=(by rw[<- hGl];simp);have hbx2:(G++[Blk.var false [.int .i64 t.ps[0].k,.int .i64 t.ps[0].v,.str t.ps[0].nm,av],Blk.var false [.int .i64 t.ps[0].v,.AH]])[H.length+2]? = some (.var false [.int .i64 t.ps[0].k,.int .i64 t.ps[0].v,.str t.ps[0].nm,av]):=(by rw[<- hGl];simp);have hfw:(if cnt+1<=200/\D<=40 then(0:Int)else 8)=0\/(if cnt+1<=200/\D<=40 then(0:Int)else 8)=8:=(by split <;> simp);refine⟨.hp (H.length+3) 0,G++[Blk.var false [.int .i64 t.ps[0].k,.int .i64 t.ps[0].v,.str t.ps[0].nm,av],Blk.var false [.int .i64 t.ps[0].v,.AH]],Bj Hr Iy ?_,by simp;omega,fun x hx hxc => ?_,fun h=>⟨?_,?_⟩⟩
    .rw[hE1];generalize hF:(EO l r t cnt)=EE at *;by_cases f1:cnt+1<=200 <;> by_cases f2:D<=40 <;> simp[AJ,f195,h234,hk2,p0,q0,q1,wc,<- hG,f1,f2,Lu,Sa,he',hbn,hbx,hbx2,Ak q0,Ak q1,hGl,hb,h217,bsA,Aq,List.replicate,AG,AV.AA]
    .rw[BA (by omega)];exact fr x hx hxc
    .rw[hE2 h,BA (by omega)];exact q0
    .have hk2':(Bu t).k=2:=by
      rw[hE1]at h;rw[hag];simp only[A9]at h;by_cases k1:t.ps[0].k=2
      .exact k1
      .simp only[k1,if_false]at h;cases h
     have hw:1<=(Bu t).v/\(Bu t).v<=16:=by
      rw[hE1]at h;rw[hag];simp only[A9]at h;by_cases kw:1<=t.ps[0].v/\t.ps[0].v<=16
      .exact kw
      .by_cases k1:t.ps[0].k=2
       .simp only[k1,kw,if_true,if_false]at h;cases h
       .simp only[k1,if_false]at h;cases h
     rw[I0 (Em.bit t hB hw hk2'),hag];refine⟨H.length+3,rfl,⟨by omega,by simp;omega⟩,?_⟩;show(G++[_,_])[H.length+3]? = _;rw[show H.length+3=G.length+1 by omega];simp
   .have hB:Ek t=false:=(by simp[Ek,hk1,hbt]);have hbn:(t.nm == [66,105,116])=false:=(by rw[beq_eq_false_iff_ne];exact hbt);by_cases hfew:cnt+1<=200/\D<=40
    .exact main hT hk1 hB hfew.1 hfew.2
    .have hE:(EO l r t cnt).2=8:=by
      unfold EO;simp only[hT,h2,hB];by_cases k3:cnt+1<=200
      .have hr0:r=none:=hr.2 (by omega);subst hr0;simp[show ¬ 200<cnt+1 by omega]
      .simp[show 200<cnt+1 by omega]
     refine⟨.ED,G,Bj Hr Iy ?_,by omega,fr,fun h=>by rw[hE]at h;cases h⟩;rw[hE];by_cases f1:cnt+1<=200
     .have f2:¬ D<=40:=fun h=>hfew ⟨f1,h⟩
      simp[AJ,f195,h234,hk2,p0,q0,q1,wc,<- hG,f1,f2,Lu,hbn]
     .simp[AJ,f195,h234,hk2,p0,q0,q1,wc,<- hG,f1,Lu,hbn]
def Cur(n:Nat)(Q:Nat->Prop)(lo:Nat)(b:AF)(pv:AV)(parts:List Sh):Prop:=(parts=[]/\pv=.AH)\/∃ q ptrs,parts≠[]/\¬ Q q/\lo<=q/\q<b.length/\pv=.hs q parts.length 1 0 parts.length false/\b[q]? = some (.arr 1 false ptrs)/\ptrs.length=parts.length/\∀(k:Nat) p s,ptrs[k]? = some p->parts[k]? = some s->∃ v,p=[v]/\HY n Q b v s
theorem Cur.cells{n:Nat}{Q:Nat->Prop}{lo:Nat}{b:AF}{pv:AV}{parts:List Sh}(h:Cur n Q lo b pv parts):pv.cells=some [pv]:=by
 rcases h with⟨_,rfl⟩ | ⟨q,ptrs,_,_,_,_,rfl,_⟩ <;> rfl
theorem Cur.mono{n:Nat}{Q Q':Nat->Prop}{lo:Nat}{b b':AF}{pv:AV}{parts:List Sh}(h:Cur n Q lo b pv parts)(hl:b.length<=b'.length)(hQ:∀ x,Q x->Q' x)(hn:∀ x,Q' x->¬ Q x->b.length<=x)(hQb:∀ x,Q x->b'[x]? = b[x]?)(ha:∀ x es,lo<=x->b[x]? = some (.arr 1 false es)->b'[x]? = b[x]?):Cur n Q' lo b' pv parts:=by
 rcases h with h | ⟨q,ptrs,h0,h1,h2,h3,h4,h5,h6,h7⟩
 .exact .inl h
 .refine .inr ⟨q,ptrs,h0,fun hq => ?_,h2,by omega,h4,by rw[ha q ptrs h2 h5];exact h5,h6,fun k p s a c => ?_⟩
  .have:=hn q hq h1;omega
  .obtain⟨v,e,f⟩:=h7 k p s a c;exact⟨v,e,f.mono n hQ hQb⟩
theorem Cur.push{n:Nat}{Q:Nat->Prop}{lo:Nat}{b:AF}{pv:AV}{parts:List Sh}(h:Cur n Q lo b pv parts)(hQ:∀ x,Q x->x<b.length)(hlo:lo<=b.length){v:AV}{s:Sh}(hv:HY n Q b v s)(hl:parts.length<1048577) :
 ∃ pv' b',apA 1 8 pv (.hs b.length 1 1 0 1 false) (b++[.arr 1 false [[v]]])=some (pv',b')/\pv'.cells=some [pv']/\Cur n Q lo b' pv' (parts++[s])/\b.length<=b'.length/\∀ x,x<b.length->b'[x]? = b[x]? \/ ∃ es,b[x]? = some (.arr 1 false es)/\¬ Q x/\lo<=x:=by
 have hrd:A7 (b++[.arr 1 false [[v]]]) (.hs b.length 1 1 0 1 false)=some [[v]]:=by
  simp[A7,A1,A8]
 rcases h with⟨rfl,rfl⟩ | ⟨q,ptrs,h0,h1,h2,h3,rfl,h5,h6,h7⟩
 .refine⟨.hs (b.length+1) 1 1 0 1 false,b++[.arr 1 false [[v]]]++[.arr 1 false [[v]]],?_,rfl,.inr ⟨b.length+1,[[v]],by simp,fun hq => ?_,by omega,by simp,rfl,by simp,rfl,fun k p s' a c => ?_⟩,by simp,fun x hx=> .inl ?_⟩
  .simp[apA,apX,hrd,CC,BM,F6,A3,A1,A8,CM]
  .have:=hQ _ hq;omega
  .match k with
   | 0=>
    simp at a c;subst a;subst c;exact⟨v,rfl,hv.mono n (fun _ h=>h) (fun x hx=>by rw[EM,BA (hQ x hx)])⟩
   | k+1=>simp at a
  .rw[EM,BA hx]
 .have e2:(parts.length+1) * 8<=17592186044416:=by omega
  have e3:parts.length+1<=17592186044416:=by omega
  have h5':(b++[Blk.arr 1 false [[v]]])[q]? = some (.arr 1 false ptrs):=Av h5 _;have hne:∀ x,Q x->q≠x:=fun x hx e=>h1 (e ▸ hx)
  refine⟨.hs q (parts.length+1) 1 0 (parts.length+1) false,(b++[Blk.arr 1 false [[v]]]).set q (Blk.arr 1 false (ptrs++[[v]])),?_,rfl,.inr ⟨q,ptrs++[[v]],by simp,h1,h2,by simp;omega,by simp,ER (by simp;omega),by simp[h6],fun k p s' a c => ?_⟩,by simp,fun x hx => ?_⟩
  .have e4:List.take parts.length ptrs=ptrs:=DC (by omega);simp[apA,apX,hrd,CC,BM,F6,A3,A1,A8,CM,e2,e3,h5',h6,e4]
  .have hpres:∀ x,Q x->((b++[Blk.arr 1 false [[v]]]).set q (.arr 1 false (ptrs++[[v]])))[x]? = b[x]? := fun x hx=>by
    rw[BT (hne x hx),BA (hQ x hx)]
   by_cases hk:k<ptrs.length
   .rw[BA hk]at a;rw[BA (by omega)]at c;obtain⟨w,e,f⟩:=h7 k p s' a c;exact⟨w,e,f.mono n (fun _ h=>h) hpres⟩
   .have hk2:k=ptrs.length:=by
     have:=(Ae.1 a).1;simp at this;omega
    subst hk2;have a':[v]=p:=(by simpa using a);have c':s=s':=(by rw[h6]at c;simpa using c);subst a';subst c';exact⟨v,rfl,hv.mono n (fun _ h=>h) hpres⟩
  .by_cases hxq:q=x
   .subst hxq;exact .inr ⟨ptrs,h5,h1,h2⟩
   .exact .inl (by rw[BT hxq,BA hx])
theorem Cur.done{n:Nat}{Q:Nat->Prop}{lo:Nat}{b:AF}{pv:AV}{parts:List Sh}(h:Cur n Q lo b pv parts)(hQ:∀ x,Q x->lo<=x/\x<b.length):∃ Q':Nat->Prop,(∀ x,Q x->Q' x)/\(∀ x,Q' x->lo<=x/\x<b.length)/\Jl (HY n Q' b) Q' b pv parts:=by
 rcases h with h | ⟨q,ptrs,h0,h1,h2,h3,h4,h5,h6,h7⟩
 .exact⟨Q,fun _ h=>h,hQ,.inl h⟩
 .refine⟨fun x=>Q x\/x=q,fun x h=> .inl h,fun x hx => ?_,.inr ⟨q,ptrs,h0,.inr rfl,h4,h5,h6,fun k p s a c => ?_⟩⟩
  .rcases hx with hx | rfl
   .exact hQ x hx
   .exact⟨h2,h3⟩
  .obtain⟨v,e,f⟩:=h7 k p s a c;exact⟨v,e,f.mono n (fun x h=> .inl h) (fun _ _=>rfl)⟩
noncomputable def partsOf(l:List AK)(c:CS):List Sh:=c.fields.map fun f=>Eh l f.ty
structure EI(l:List AK)(H:AF)(c:Nat)(lv:AV)(cons:List CS)(n:Nat)(Q:Nat->Prop)(b:AF)(ct:Int)(es:List (List AV))(i i2:Nat):Prop where
 cell:b[c]? = some (.var false [.int .i64 ct])
 c0:0<=ct
 c1:ct<=200
 old:∀ x,x<H.length->x≠c->b[x]? = H[x]?
 st:b[H.length]? = some (.var false [lv,.AH])
 xb:b[H.length+3]? = some (.var false [.int .i64 0,.hs (H.length+2) cons.length 3 0 cons.length false])
 ar:b[H.length+2]? = some (.arr 3 false es)
 len:es.length=cons.length
 q:∀ x,Q x->H.length+4<=x/\x<b.length
 blen:H.length+4<=b.length
 els:∀(k:Nat) cc e,cons[k]? = some cc->es[k]? = some e->∃ fv pv,e=[.str cc.nm,fv,pv]/\SlR Bo 5 cc.fields fv/\(k<i->Jl (HY n Q b) Q b pv (partsOf l cc))/\(i2<=k->pv=.AH)
def Xx(l:List AK)(lv:AV)(rec:Rec)(D:Int)(n:Nat):Prop:=∀ t xs,AR t xs->Sm 1048577 t->VT l t->∀(H:AF) (cnt:Int) (c:Nat),H[c]? = some (.var false [.int .i64 cnt])->0<=cnt->cnt<=200 ->
 ∃ v H',AI MX (AE MX) 195 [.agg [lv,.AH],.agg xs,.hp c 0,.int .i64 D] H=some (.ret (.tup [v,.int .i64 (rec t cnt).2]),H')/\NA l H c n t (rec t cnt) v H'
theorem HY.hp{n:Nat}{S:Nat->Prop}{H:AF}{v:AV}{s:Sh}(h:HY n S H v s):∃ id,v=.hp id 0:=by
 cases n with
 | zero=>exact absurd h (fun h=>h)
 | succ n=>obtain⟨id,h,_⟩:=h;exact⟨id,h⟩
theorem VZ{l:List AK}{lv:AV}(hl:SlR Ac 3 l lv){rec:Rec}{D:Int}{n:Nat}(hD0:0<=D)(hD1:D<=40)(hr:Xx l lv rec (D+1) n)(hrr:Kf rec){H:AF}{c:Nat}(hcH:c<H.length){cons:List CS}{i:Nat}(hi:i<cons.length)(hcl:cons.length<1048577)(hsc:SmC 1048577 cons[i])(hvt:∀ f∈cons[i].fields,VT l f.ty)
 {Q0:Nat->Prop} {b0:AF} {ct0:Int} {es0:List (List AV)} (h0:EI l H c lv cons (n+1) Q0 b0 ct0 es0 i i) {fv:AV} (hfv:SlR Bo 5 cons[i].fields fv) (he:es0[i]? = some [.str cons[i].nm,fv,.AH]) :
 ∃(b:AF) (r:Ex×St),EV MX 195 121 (AE MX) (AL f195 1) ([(2,.hp c 0),(3,.int .i64 D),(4,.hp H.length 0),(13,.hp (H.length+3) 0),(15,.ep (H.length+2) cons.length 3 i 0),(76,.int .i64 cons.length),(77,.int .i64 i),(89,fv),(90,.int .i64 cons[i].fields.length),(91,.int .i64 (0:Nat))],b0)=some r /\
  ((r=(.ext 2,([(2,.hp c 0),(3,.int .i64 D),(4,.hp H.length 0),(13,.hp (H.length+3) 0),(15,.ep (H.length+2) cons.length 3 i 0),(76,.int .i64 cons.length),(77,.int .i64 i),(89,fv),(90,.int .i64 cons[i].fields.length),(91,.int .i64 cons[i].fields.length),(92,.bool false)],b))/\∃ Q ct es,EI l H c lv cons (n+1) Q b ct es (i+1) (i+1)/\eFs rec cons[i].fields ct0=(ct,0)) \/
    r=(.ret,([(8,.ED),(9,.int .i64 (eFs rec cons[i].fields ct0).2)],b))/\(eFs rec cons[i].fields ct0).2≠0/\H.length<=b.length/\∀ x,x<H.length->x≠c->b[x]? = H[x]?):=by
 have hfl:=hsc.2.1;have wD:wr .i64 (D+1)=D+1:=Cl (by omega) (by omega);have hpl:(partsOf l cons[i]).length=cons[i].fields.length:=by simp[partsOf]
 obtain⟨e,st,hlp,hq⟩:=AU (M:=MX) (fid:=195) (N:=121) (C:=AE MX) (c:=AL f195 1) (n:=cons[i].fields.length)
  (fun m (b:AF)=>([(2,.hp c 0),(3,.int .i64 D),(4,.hp H.length 0),(13,.hp (H.length+3) 0),(15,.ep (H.length+2) cons.length 3 i 0),(76,.int .i64 cons.length),(77,.int .i64 i),(89,fv),(90,.int .i64 cons[i].fields.length),(91,.int .i64 m)],b))
  (fun m b=>∃ Q ct es pv,EI l H c lv cons (n+1) Q b ct es i (i+1)/\es[i]? = some [.str cons[i].nm,fv,pv]/\Cur (n+1) Q (H.length+4) b pv ((partsOf l cons[i]).take m)/\eFs rec cons[i].fields ct0=eFs rec (cons[i].fields.drop m) ct)
  (fun r=>∃ b:AF,(r=(.ext 2,([(2,.hp c 0),(3,.int .i64 D),(4,.hp H.length 0),(13,.hp (H.length+3) 0),(15,.ep (H.length+2) cons.length 3 i 0),(76,.int .i64 cons.length),(77,.int .i64 i),(89,fv),(90,.int .i64 cons[i].fields.length),(91,.int .i64 cons[i].fields.length),(92,.bool false)],b))/\∃ Q ct es,EI l H c lv cons (n+1) Q b ct es (i+1) (i+1)/\eFs rec cons[i].fields ct0=(ct,0)) \/
    r=(.ret,([(8,.ED),(9,.int .i64 (eFs rec cons[i].fields ct0).2)],b))/\(eFs rec cons[i].fields ct0).2≠0/\H.length<=b.length/\∀ x,x<H.length->x≠c->b[x]? = H[x]?) (fun m b hm hI=>by
    obtain⟨Q,ct,es,pv,hE,hei,hC,hP⟩:=hI;obtain⟨fe,hfe,hR⟩:=hfv.ix hm;have hm':=AZ hm;have hw:=AY hm hfl;obtain⟨tx,rfl,htx⟩:=hR;have hmem:=Ap hm;obtain⟨v,H',hcall,hlen,hold,hpost⟩:=hr _ tx htx (hsc.2.2 _ hmem).2 (hvt _ hmem) (b++[Blk.var false (.str cons[i].fields[m].nm::tx)]) ct c (Av hE.cell _) hE.c0 hE.c1;obtain⟨qv,rfl,hqv⟩:=htx.Ab;rw[De hm]at hP;simp only[eFs]at hP;have hst1:=Av hE.st [Blk.var false [.str cons[i].fields[m].nm,.int .i64 cons[i].fields[m].ty.k,.int .i64 cons[i].fields[m].ty.v,.str cons[i].fields[m].ty.nm,qv]];have hlast:=BR b (Blk.var false [.str cons[i].fields[m].nm,.int .i64 cons[i].fields[m].ty.k,.int .i64 cons[i].fields[m].ty.v,.str cons[i].fields[m].ty.nm,qv]);have hbl:=hE.blen;simp only[FZ,D8,IB]at hlen;by_cases hz:(rec cons[i].fields[m].ty ct).2=0
    .rw[if_pos hz]at hP;obtain⟨g1,g3⟩:=hpost hz;have g2:=hold;obtain⟨r0,r1,r2⟩:=hrr cons[i].fields[m].ty ct hE.c0 hE.c1;have fr:∀ x,x<b.length->x≠c->H'[x]? = b[x]? := fun x hx hxc=>by
      rw[g2 x (by simp;omega) hxc,BA hx]
     obtain⟨id,hid⟩:=g3.hp;rw[hz]at hcall;have hQb:∀ x,Q x->H'[x]? = b[x]? := fun x hx=>fr x (hE.q x hx).2 (by have:=(hE.q x hx).1;omega)
     have hC1:Cur (n+1) (fun x=>Q x\/b.length+1<=x/\x<H'.length) (H.length+4) H' pv ((partsOf l cons[i]).take m):=hC.mono (by omega) (fun x h=> .inl h) (fun x h h2=>by rcases h with h | h;exact absurd h h2;omega) hQb (fun x es hx hbx=>fr x (Ae.1 hbx).1 (by omega));obtain⟨pv',b2,k1,k2,k3,k4,k5⟩:=hC1.push (v:=v) (s:=Eh l cons[i].fields[m].ty) (fun x hx=>by rcases hx with hx | hx;have:=(hE.q x hx).2;omega;omega) (by omega) (g3.mono (n+1) (fun x hx=> .inr (by simpa using hx)) (fun _ _=>rfl)) (by rw[GR,hpl];omega);have htk:(partsOf l cons[i]).take m++[Eh l cons[i].fields[m].ty]=(partsOf l cons[i]).take (m+1):=by
      have hm2:m<(partsOf l cons[i]).length:=(by omega);have:(partsOf l cons[i])[m]=Eh l cons[i].fields[m].ty:=(by simp[partsOf]);rw[<- this];simp
     rw[htk]at k3;have fv3:∀ x bb cs,H'[x]? = some (.var bb cs)->x≠H.length+2->(b2.set (H.length+2) (.arr 3 false (es.set i [.str cons[i].nm,fv,pv'])))[x]? = some (.var bb cs):=fun x bb cs h1 h2=>by
      rw[BT (fun h=>h2 h.symm)];rcases k5 x (Ae.1 h1).1 with h | ⟨_,h,_⟩
      .rw[h];exact h1
      .rw[h1]at h;cases h
     have har1:H'[H.length+2]? = some (.arr 3 false es):=(by rw[fr _ (by omega) (by omega)];exact hE.ar);have har2:b2[H.length+2]? = some (.arr 3 false es):=by
      rcases k5 (H.length+2) (by omega)with h | ⟨_,h,_⟩
      .rw[h];exact har1
      .rw[har1]at h;cases h
     have hQ3:∀ x,(Q x\/b.length+1<=x/\x<H'.length)->(b2.set (H.length+2) (.arr 3 false (es.set i [.str cons[i].nm,fv,pv'])))[x]? = H'[x]? := fun x hx=>by
      have hx4:H.length+4<=x/\x<H'.length:=by
       rcases hx with h | h
       .have:=hE.q x h;omega
       .omega
      rw[BT (by omega)];rcases k5 x hx4.2 with h | ⟨_,_,h,_⟩
      .exact h
      .exact absurd hx h
     refine .inl ⟨b2.set (H.length+2) (.arr 3 false (es.set i [.str cons[i].nm,fv,pv'])),?_,fun x=>Q x\/b.length+1<=x/\x<H'.length,(rec cons[i].fields[m].ty ct).1,es.set i [.str cons[i].nm,fv,pv'],pv',⟨fv3 c _ _ g1 (by omega),r0,r2 hz,fun x h1 h2 => ?_,fv3 _ _ _ (by rw[fr _ (by omega) (by omega)];exact hE.st) (by omega),fv3 _ _ _ (by rw[fr _ (by omega) (by omega)];exact hE.xb) (by omega),by rw[ER (by omega)],by simp[hE.len],fun x hx => ?_,by simp;omega,fun k cc e' h1 h2 => ?_⟩,?_,?_,hP⟩
     .rw[hid]at hcall k1;have hcc:=hC.cells;simp[f195,hm',hfe,hlast,hst1,hl.cells,wD,hcall,har1,hE.len,hei,hcc,bsA,Aq,List.replicate,A3,AG,AV.AA,k1,k2,har2,hw]
     .rw[BT (by omega)];have e1:b2[x]? = H'[x]? := by
       rcases k5 x (by omega)with h | ⟨_,_,_,h⟩
       .exact h
       .omega
      rw[e1,fr x (by omega) h2];exact hE.old x h1 h2
     .rcases hx with h | h
      .have:=hE.q x h;simp;omega
      .simp;omega
     .by_cases hki:k=i
      .subst hki;rw[ER (by rw[hE.len];exact hi)]at h2;have hcc:cons[k]=cc:=by
        rw[AW hi]at h1;exact Option.some.inj h1
       subst hcc;cases h2;exact⟨fv,pv',rfl,hfv,fun h=>by omega,fun h=>by omega⟩
      .rw[BT (fun h=>hki h.symm)]at h2;obtain⟨fv',pv2,d1,d2,d3,d4⟩:=hE.els k cc e' h1 h2;exact⟨fv',pv2,d1,d2,fun h=>(d3 h).mono (fun v s hvs=>hvs.mono (n+1) (fun x h=> .inl h) (fun x hx=>by rw[hQ3 x (.inl hx)];exact hQb x hx)) (fun x h=> .inl h) (fun x hx=>by rw[hQ3 x (.inl hx)];exact hQb x hx),d4⟩
     .rw[ER (by rw[hE.len];exact hi)]
     .refine k3.mono (by simp) (fun _ h=>h) (fun x h1 h2=>absurd h1 h2) (fun x hx => ?_) (fun x es' hx _ => ?_)
      .rw[BT (by rcases hx with h | h;have:=hE.q x h;omega;omega)]
      .rw[BT (by omega)]
    .rw[if_neg hz]at hP;have hz':((rec cons[i].fields[m].ty ct).2 != 0)=true:=(by simp[hz]);refine .inr ⟨_,_,?_,by simp,H',.inr ⟨rfl,by rw[hP];exact hz,by omega,fun x hx hxc=>by
      rw[hold x (by simp;omega) hxc,BA (by omega)];exact hE.old x hx hxc⟩⟩
     rw[hP];simp[f195,hm',hfe,hlast,hst1,hl.cells,wD,hcall,hz'])
  (fun b hI=>by
    obtain⟨Q,ct,es,pv,hE,hei,hC,hP⟩:=hI;rw[DC (by omega)]at hC;rw[C3]at hP;obtain⟨Q',q1,q2,q3⟩:=hC.done hE.q;refine⟨_,_,by simp[f195] <;> first | exact⟨rfl,rfl⟩ | rfl,by simp,b,.inl ⟨rfl,Q',ct,es,⟨hE.cell,hE.c0,hE.c1,hE.old,hE.st,hE.xb,hE.ar,hE.len,q2,hE.blen,fun k cc e' h1 h2 => ?_⟩,hP⟩⟩;obtain⟨fv',pv2,d1,d2,d3,d4⟩:=hE.els k cc e' h1 h2;refine⟨fv',pv2,d1,d2,fun hk => ?_,d4⟩;by_cases hki:k=i
    .subst hki;rw[hei]at h2;have hcc:cons[k]=cc:=by
      rw[AW hi]at h1;exact Option.some.inj h1
     subst hcc;rw[d1]at h2;have:pv=pv2:=(by simp at h2;exact h2.2);rw[<- this];exact q3
    .exact(d3 (by omega)).mono (fun v s hvs=>hvs.mono (n+1) q1 (fun _ _=>rfl)) q1 (fun _ _=>rfl)) b0 ⟨Q0,ct0,es0,.AH,⟨h0.cell,h0.c0,h0.c1,h0.old,h0.st,h0.xb,h0.ar,h0.len,h0.q,h0.blen,fun k cc e' h1 h2=>by
     obtain⟨fv',pv2,d1,d2,d3,d4⟩:=h0.els k cc e' h1 h2;exact⟨fv',pv2,d1,d2,d3,fun h=>d4 (by omega)⟩⟩,he,.inl ⟨by simp,rfl⟩,by simp⟩
 obtain⟨b,hq⟩:=hq;exact⟨b,_,hlp,hq⟩
theorem RQ(rec:Rec):∀(cons:List CS) (c:Int),(∀ k∈cons,k.fields=[])->eCs rec cons c=(c,0)
 | [],c,_=>rfl
 | k::r,c,h=>by
  have hk:=h k (by simp);simp only[eCs,hk,eFs,if_true];exact RQ rec r c (fun x hx=>h x (by simp[hx]))
theorem af{l:List AK}{lv:AV}(hl:SlR Ac 3 l lv){rec:Rec}{D:Int}{n:Nat}(hD0:0<=D)(hD1:D<=40)(hr:Xx l lv rec (D+1) n)(hrr:Kf rec){H:AF}{c:Nat}(hcH:c<H.length){cons:List CS}(hcl:cons.length<1048577)(hsc:∀ k∈cons,SmC 1048577 k)(hvt:∀ k∈cons,∀ f∈k.fields,VT l f.ty)
 {Q0:Nat->Prop} {b0:AF} {ct0:Int} {es0:List (List AV)} (h0:EI l H c lv cons (n+1) Q0 b0 ct0 es0 0 0) :
 ∃(b:AF) (r:Ex×St),EV MX 195 121 (AE MX) (AL f195 0) ([(2,.hp c 0),(3,.int .i64 D),(4,.hp H.length 0),(13,.hp (H.length+3) 0),(76,.int .i64 cons.length),(77,.int .i64 (0:Nat))],b0)=some r /\
  ((r=(.ext 0,([(2,.hp c 0),(3,.int .i64 D),(4,.hp H.length 0),(13,.hp (H.length+3) 0),(76,.int .i64 cons.length),(77,.int .i64 cons.length),(78,.bool false)],b))/\∃ Q ct es,EI l H c lv cons (n+1) Q b ct es cons.length cons.length/\eCs rec cons ct0=(ct,0)) \/
    r=(.ret,([(8,.ED),(9,.int .i64 (eCs rec cons ct0).2)],b))/\(eCs rec cons ct0).2≠0/\H.length<=b.length/\∀ x,x<H.length->x≠c->b[x]? = H[x]?):=by
 obtain⟨e,st,hlp,hq⟩:=AU (M:=MX) (fid:=195) (N:=121) (C:=AE MX) (c:=AL f195 0) (n:=cons.length)
  (fun i (b:AF)=>([(2,.hp c 0),(3,.int .i64 D),(4,.hp H.length 0),(13,.hp (H.length+3) 0),(76,.int .i64 cons.length),(77,.int .i64 i)],b))
  (fun i b=>∃ Q ct es,EI l H c lv cons (n+1) Q b ct es i i/\eCs rec cons ct0=eCs rec (cons.drop i) ct)
  (fun r=>∃ b:AF,(r=(.ext 0,([(2,.hp c 0),(3,.int .i64 D),(4,.hp H.length 0),(13,.hp (H.length+3) 0),(76,.int .i64 cons.length),(77,.int .i64 cons.length),(78,.bool false)],b))/\∃ Q ct es,EI l H c lv cons (n+1) Q b ct es cons.length cons.length/\eCs rec cons ct0=(ct,0)) \/
    r=(.ret,([(8,.ED),(9,.int .i64 (eCs rec cons ct0).2)],b))/\(eCs rec cons ct0).2≠0/\H.length<=b.length/\∀ x,x<H.length->x≠c->b[x]? = H[x]?) (fun i b hi hI=>by
    obtain⟨Q,ct,es,hE,hP⟩:=hI;have hi':=AZ hi;have hw:=AY hi hcl;have hie:i<es.length:=(by rw[hE.len];exact hi);obtain⟨fv,pv,d1,d2,_,d4⟩:=hE.els i cons[i] es[i] (AW hi) (AW hie);have hpv:=d4 (CZ _);subst hpv;have hei:es[i]? = some [.str cons[i].nm,fv,.AH]:=(by rw[AW hie,d1]);have hmem:=Ap hi;obtain⟨b',r',f1,f2⟩:=VZ hl hD0 hD1 hr hrr hcH hi hcl (hsc _ hmem) (hvt _ hmem) hE d2 hei;have hix:ixA 3 (.hs (H.length+2) cons.length 3 0 cons.length false) (.int .i64 i)=some (.ep (H.length+2) cons.length 3 i 0):=by
     rw[EX (kd:=.i64) (hi:=hi),D1]
    have hxb:=hE.xb;have har:=hE.ar;simp[f195]at f1;rw[De hi]at hP;simp only[eCs]at hP;rcases f2 with⟨rfl,Q',ct',es',g1,g2⟩ | ⟨rfl,g1,g2⟩
    .rw[g2]at hP;simp only[if_true]at hP;exact .inl ⟨b',by simp[f195,hi',hxb,hix,har,hE.len,hei,d2.len,f1,hw],Q',ct',es',g1,hP⟩
    .rw[if_neg g1]at hP;refine .inr ⟨_,_,?_,by simp,b',.inr ⟨rfl,by rw[hP];exact g1,g2⟩⟩;rw[hP];simp[f195,hi',hxb,hix,har,hE.len,hei,d2.len,f1]) (fun b hI=>by
    obtain⟨Q,ct,es,hE,hP⟩:=hI;rw[C3]at hP;exact⟨_,_,by simp[f195] <;> first | exact⟨rfl,rfl⟩ | rfl,by simp,b,.inl ⟨rfl,Q,ct,es,hE,hP⟩⟩) b0 ⟨Q0,ct0,es0,h0,by simp⟩
 obtain⟨b,hq⟩:=hq;exact⟨b,_,hlp,hq⟩
end
section
theorem Jm{l:List AK}{params:List Bytes}:∀{ps:List TyV},CP l params ps=0↔∀ p∈ps,Aj l params p=0
 | []=>by simp[CP]
 | p::r=>by
  simp only[CP,Mk];by_cases h:Aj l params p=0
  .rw[if_pos h,Jm];exact⟨fun g=>⟨h,g⟩,fun g=>g.2⟩
  .rw[if_neg h];exact⟨fun g=>absurd g h,fun g=>absurd g.1 h⟩
theorem CB{l:List AK}{params:List Bytes}{k v:Int}{nm:Bytes}{ps:List TyV}:Aj l params (.mk k v nm ps)=0↔(0<=k/\k<=2)/\(k=0->params.findIdx? (fun x=>x == nm)≠none)/\EK l k nm=some ps.length/\(k=2->0<=v/\v<=1000000000)/\∀ p∈ps,Aj l params p=0:=by
 simp only[Aj];by_cases h1:0<=k/\k<=2
 .rw[if_neg (fun h=>h h1)];by_cases h2:k=0/\params.findIdx? (fun x=>x == nm)=none
  .rw[if_pos h2];exact⟨fun h=>(by cases h),fun h=>absurd h2.2 (h.2.1 h2.1)⟩
  .rw[if_neg h2];cases h3:EK l k nm with
   | none=>exact⟨fun h=>(by cases h),fun h=>by cases h.2.2.1⟩
   | some n=>
    simp only;by_cases h4:ps.length=n
    .rw[if_neg (fun h=>h h4)];by_cases h5:k=2/\¬ (0<=v/\v<=1000000000)
     .rw[if_pos h5];exact⟨fun h=>(by cases h),fun h=>absurd (h.2.2.2.1 h5.1) h5.2⟩
     .rw[if_neg h5,Jm];exact⟨fun h=>⟨h1,fun h0 hn=>h2 ⟨h0,hn⟩,by rw[h4],fun hk=>Decidable.byContradiction fun hv=>h5 ⟨hk,hv⟩,h⟩,fun h=>h.2.2.2.2⟩
    .rw[if_pos h4];exact⟨fun h=>(by cases h),fun h=>absurd (Option.some.inj h.2.2.1).symm h4⟩
 .rw[if_pos h1];exact⟨fun h=>(by cases h),fun h=>absurd h.1 h1⟩
theorem Sl{l:List AK}{k:Int}{nm:Bytes}{n:Nat}(h:EK l k nm=some n)(m:List AK):EK (l++m) k nm=some n:=by
 unfold EK at h ⊢;by_cases h1:k=1
 .rw[if_pos h1]at h ⊢;by_cases h2:(nm == DM)=true
  .rw[if_pos h2]at h ⊢;exact h
  .rw[if_neg h2]at h ⊢;by_cases h3:(nm == CO)=true
   .rw[if_pos h3]at h ⊢;exact h
   .rw[if_neg h3]at h ⊢;rw[Dx]at h ⊢;obtain⟨i,hi,hn⟩:=h;have hil:=G8 hi;refine⟨i,by rw[List.findIdx?_append,hi];rfl,?_⟩;rw[<- hn];have e1:l.getD i default=l[i]:=(by simp[hil]);have e2:(l++m).getD i default=l[i]:=by
     rw[Ko,BA hil];simp[hil]
    rw[e1,e2]
 .rw[if_neg h1]at h ⊢;exact h
theorem Pz{l:List AK}{params:List Bytes}(m:List AK)(t:TyV):Aj l params t=0->Aj (l++m) params t=0:=by
 induction t using TyV.ind with
 | h k v nm ps ih=>
  intro h;rw[CB]at h ⊢;exact⟨h.1,h.2.1,Sl h.2.2.1 m,h.2.2.2.1,fun p hp=>ih p hp (h.2.2.2.2 p hp)⟩
theorem KR{l:List AK}{params:List Bytes}{args:List TyV}(ha:∀ a∈args,VT l a)(hl:params.length<=args.length)(t:TyV):Aj l params t=0->VT l (CT params args t):=by
 induction t using TyV.ind with
 | h k v nm ps ih=>
  intro h;rw[CB]at h;simp only[CT];split
  .rename_i i hi;split at hi
   .have hil:=G8 hi;have:args.getD i default=args[i]:=by
     rw[Ko,AW (by omega)];rfl
    rw[this];exact ha _ (Ap _)
   .cases hi
  .rename_i hi;by_cases h0:k=0
   .rw[if_pos h0]at hi;exact absurd hi (h.2.1 h0)
   .unfold VT;rw[CB,FM];refine⟨h.1,fun e=>absurd e h0,by rw[Fa];exact h.2.2.1,h.2.2.2.1,fun p hp => ?_⟩;obtain⟨q,hq,rfl⟩:=F5.1 hp;exact ih q hq (h.2.2.2.2 q hq)
theorem Ng{l:List AK}{params:List Bytes}:∀(r prev:List DA),E4 l params prev r=0->∀ f∈r,Bx l params f.ty=0
 | [],_,_=>fun f hf=>by cases hf
 | f::r,prev,h=>by
  simp only[E4]at h;split at h
  .cases h
  .split at h
   .cases h
   .split at h
    .rename_i h3;intro g hg;rcases Cd.1 hg with rfl | hg
     .exact h3
     .exact Ng r _ h g hg
    .rename_i h3;exact absurd h h3
theorem RR{l:List AK}{params:List Bytes}:∀(r prev:List CS),Fz l params prev r=0->∀ c∈r,DN l params c.fields=0
 | [],_,_=>fun f hf=>by cases hf
 | c::r,prev,h=>by
  simp only[Fz]at h;split at h
  .cases h
  .split at h
   .cases h
   .split at h
    .cases h
    .split at h
     .cases h
     .split at h
      .cases h
      .split at h
       .rename_i h3;intro g hg;rcases Cd.1 hg with rfl | hg
        .exact h3
        .exact RR r _ h g hg
       .rename_i h3;exact absurd h h3
theorem MI{l:List AK}{params:List Bytes}{t:TyV}(h:Bx l params t=0):Bp t=true/\Aj l params t=0:=by
 unfold Bx at h;split at h
 .rename_i h1;exact⟨h1,h⟩
 .cases h
theorem KS{d:AK}{l:List AK}(h:Bq d l=0):∀ c∈d.cons,c.fields.length<=8/\∀ f∈c.fields,Bp f.ty=true/\Aj l d.params f.ty=0:=by
 have h2:Fz l d.params [] d.cons=0:=by
  unfold Bq at h
  repeat (split at h;first | cases h | skip)
  .exact h
  .rename_i h3;exact absurd h h3
 intro c hc;have:=RR _ _ h2 c hc;unfold DN at this;split at this
 .cases this
 .exact⟨by omega,fun f hf=>MI (Ng _ _ this f hf)⟩
theorem J8:∀(r prev:List AK),(F4 prev r).2=0->∀ d∈r,∃ pre post,prev++r=pre++d::post/\Bq d pre=0
 | [],_,_=>fun d hd=>by cases hd
 | d::r,prev,h=>by
  simp only[F4]at h;split at h
  .rename_i h1;intro g hg;rcases Cd.1 hg with rfl | hg
   .exact⟨prev,r,rfl,h1⟩
   .obtain⟨pre,post,e,he⟩:=J8 r _ h g hg;exact⟨pre,post,by rw[<- e];simp,he⟩
  .rename_i h1;exact absurd h h1
structure DV(l:List AK):Prop where
 dok:DOK l
 con:∀ t,VT l t->t.k≠2->Ek t=false->(AP l t).length<=16/\AP l t≠[]/\∀ c∈AP l t,c.fields.length<=8
 nms:∀ d∈l,(d.nm == DM)=false/\(d.nm == CO)=false
 par:∀ d∈l,d.params.length<=4
 flds:∀ d∈l,∀ c∈d.cons,∀ f∈c.fields,Aj l d.params f.ty=0
theorem Jn{l:List AK}(h:(A5 l).2=0):DV l:=by
 have hd:∀ d∈l,∃ pre post,l=pre++d::post/\Bq d pre=0:=by
  unfold A5 at h;split at h
  .cases h
  .intro d hd;obtain⟨pre,post,e,he⟩:=J8 l [] h d hd;exact⟨pre,post,e,he⟩
 have hf:∀ d∈l,∀ c∈d.cons,∀ f∈c.fields,Aj l d.params f.ty=0:=fun d hdm c hc f hf=>by
  obtain⟨pre,post,e,he⟩:=hd d hdm;rw[e];exact Pz _ _ ((KS he c hc).2 f hf).2
 have hkind:∀ t,VT l t->t.k≠2->Ek t=false->(t.nm == DM)=false/\((t.nm == CO)=true\/(t.nm == CO)=false/\∃ i,∃ hi:i<l.length,l.findIdx? (fun d=>d.nm == t.nm)=some i/\l.getD i default=l[i]/\l[i].params.length=t.ps.length):=fun t hv hk hb=>by
  have hk1:t.k=1:=by rcases hv.kind with h | h;exact h;exact absurd h hk
  cases t with
  | mk k v nm ps=>
   have hk1:k=1:=hk1;subst hk1;unfold VT at hv;rw[CB]at hv;have hbn:(nm == DM)=false:=by
    have:=hb;have e:Ek (.mk 1 v nm ps)=(nm == DM):=by
     show(decide ((1:Int)=1)&&(nm == DM))=(nm == DM);simp
    rw[<- e];exact this
   refine⟨hbn,?_⟩;have h3:=hv.2.2.1;unfold EK at h3;rw[if_pos rfl,hbn]at h3;simp only[ES,if_false]at h3;cases hbo:(nm == CO)with
   | true=>exact .inl hbo
   | false=>
    rw[hbo]at h3;simp only[ES,if_false]at h3;rw[Dx]at h3;obtain⟨i,hi,hn⟩:=h3;have hil:=G8 hi;have hg:l.getD i default=l[i]:=(by simp[hil]);exact .inr ⟨hbo,i,hil,hi,hg,by rw[<- hg];exact hn⟩
 refine⟨⟨fun t hv hb => ?_,fun t hv hk hb => ?_,fun t hv hk hb c hc f hfm => ?_⟩,fun t hv hk hb => ?_,fun d hdm => ?_,fun d hdm => ?_,hf⟩
 .cases t with
  | mk k v nm ps=>
   unfold VT at hv;rw[CB]at hv;simp only[Ek,BU,decide_eq_true_eq]at hb;have h3:=hv.2.2.1;unfold EK at h3;have hb1:k=1:=hb.1;have hb2:(nm == DM)=true:=hb.2;rw[if_pos hb1,if_pos hb2]at h3;exact(Option.some.inj h3).symm
 .obtain⟨_,h1 | ⟨_,i,hi,h2,h3,h4⟩⟩:=hkind t hv hk hb
  .exact .inl h1
  .exact .inr ⟨i,h2,by rw[h3];omega⟩
 .obtain⟨_,h1 | ⟨h1,i,hi,h2,h3,h4⟩⟩:=hkind t hv hk hb
  .simp only[AP,h1,if_true,Cd,JA,or_false]at hc;rcases hc with rfl | rfl <;> cases hfm
  .simp only[AP,h1,h2,h3,ES,if_false]at hc;obtain⟨c0,hc0,rfl⟩:=F5.1 hc;obtain⟨f0,hf0,rfl⟩:=F5.1 hfm;have hps:∀ a∈t.ps,VT l a:=by
    cases t with
    | mk k v nm ps=>
     unfold VT at hv;rw[CB]at hv;exact hv.2.2.2.2
   exact KR hps (by omega) _ (hf _ (Ap hi) c0 hc0 f0 hf0)
 .obtain⟨_,h1 | ⟨h1,i,hi,h2,h3,h4⟩⟩:=hkind t hv hk hb
  .simp only[AP,h1,if_true];exact⟨by simp,by simp,fun c hc=>by
    simp only[Cd,JA,or_false]at hc;rcases hc with rfl | rfl <;> simp⟩
  .simp only[AP,h1,h2,h3,ES,if_false];obtain⟨pre,post,e,he⟩:=hd _ (Ap hi);obtain⟨_,g1,g2,_⟩:=IK he;refine⟨by simpa using g1,fun e => ?_,fun c hc => ?_⟩
   .rw[List.map_eq_nil_iff]at e;rw[e]at g2;cases g2
   .obtain⟨c0,hc0,rfl⟩:=F5.1 hc;simpa[F0]using(KS he c0 hc0).1
 .obtain⟨pre,post,e,he⟩:=hd d hdm;obtain⟨_,_,_,g3,g4,_⟩:=IK he;exact⟨g3,g4⟩
 .obtain⟨pre,post,e,he⟩:=hd d hdm;exact(IK he).1
theorem okF(l:List AK):OKF l:=fun h=>⟨(Jn h).dok,fun t hv hk hb=>((Jn h).con t hv hk hb).1⟩
mutual
def cnt:TyV->Nat
 | .mk _ _ _ ps=>MM ps+1
def MM:List TyV->Nat
 | []=>0
 | p::r=>cnt p+MM r
end
mutual
def dp:TyV->Nat
 | .mk _ _ _ ps=>dps ps+1
def dps:List TyV->Nat
 | []=>0
 | p::r=>max (dp p) (dps r)
end
theorem T6(t:TyV):1<=cnt t:=by cases t;simp[cnt]
theorem RS:∀(l:List TyV),l.length<=MM l
 | []=>by simp[MM]
 | p::r=>by
  have:=RS r;have:=T6 p;simp only[MM,D8];omega
theorem P0{n:Nat}:∀{l:List TyV},dps l<=n↔∀ p∈l,dp p<=n
 | []=>by simp[dps]
 | p::r=>by
  simp only[dps,Mk,Nat.max_le,P0 (l:=r)]
theorem Va:∀(r:List TyV) (d:Int) (c:Int),200<c->200<Cw r d c
 | [],d,c,h=>by simpa[Cw]using h
 | p::r,d,c,h=>by simp only[Cw];rw[if_neg (by omega)];exact h
theorem Xy(t:TyV):∀(d c:Int),0<=c->c<=200->(c+cnt t<=200/\d+dp t<=41->F3 t d c=c+cnt t)/\(¬ (c+cnt t<=200/\d+dp t<=41)->200<F3 t d c):=by
 induction t using TyV.ind with
 | h k v nm ps ih=>
  intro d c h0 h1;have key:∀(l:List TyV),(∀ p∈l,p∈ps)->∀(d c:Int),0<=c->c<=200->d<=41->(c+MM l<=200/\d+dps l<=41->Cw l d c=c+MM l)/\(¬ (c+MM l<=200/\d+dps l<=41)->200<Cw l d c):=by
   intro l;induction l with
   | nil=>intro _ d c h0 h1 h2;simp only[Cw,MM,dps];omega
   | cons p r ihr=>
    intro hm d c h0 h1 h2;simp only[Cw,MM,dps];rw[if_pos h1];obtain⟨p1,p2⟩:=ih p (hm p (by simp)) d c h0 h1;have hpos:=T6 p;by_cases hp:c+cnt p<=200/\d+dp p<=41
    .rw[p1 hp];obtain⟨r1,r2⟩:=ihr (fun q hq=>hm q (by simp[hq])) d (c+cnt p) (by omega) hp.1 h2;refine⟨fun h => ?_,fun h=>r2 (fun h'=>h ?_)⟩
     .rw[r1 ⟨by omega,by omega⟩];omega
     .omega
    .have:=p2 hp;exact⟨fun h=>absurd ⟨by omega,by omega⟩ hp,fun _=>Va r d _ this⟩
  simp only[F3,cnt,dp];by_cases hb:40<d\/200<c+1\/200<(ps.length:Int)
  .rw[if_pos hb];have:=RS ps;refine⟨fun h => ?_,fun _=>by omega⟩;rcases hb with hb | hb | hb <;> omega
  .rw[if_neg hb];obtain⟨r1,r2⟩:=key ps (fun _ h=>h) (d+1) (c+1) (by omega) (by omega) (by omega);refine⟨fun h => ?_,fun h=>r2 (fun h'=>h ?_)⟩
   .rw[r1 ⟨by omega,by omega⟩];omega
   .omega
theorem Nh(t:TyV):Bp t=true↔cnt t<=200/\dp t<=40:=by
 unfold Bp;rw[decide_eq_true_iff];obtain⟨h1,h2⟩:=Xy t 1 0 (by omega) (by omega);by_cases h:(0:Int)+cnt t<=200/\(1:Int)+dp t<=41
 .rw[h1 h];omega
 .have:=h2 h;omega
def KH:List (TyV×Int)->Nat
 | []=>0
 | q::r=>cnt q.1+KH r
theorem LU:∀(a b:List (TyV×Int)),KH (a++b)=KH a+KH b
 | [],b=>by simp[KH]
 | p::r,b=>by simp only[Fk,KH,LU r b];omega
theorem Ni(d:Int):∀(l:List TyV),KH (l.map fun x=>(x,d))=MM l
 | []=>rfl
 | p::r=>by simp only[Hk,KH,MM,Ni d r]
def okS(k:Nat)(st:List (TyV×Int)):Prop:=k+KH st<=200/\∀ q∈st,q.2+dp q.1<=41
theorem RT{k:Nat}{st:List (TyV×Int)}{x:TyV}{d:Int}:okS k (st++[(x,d)])↔k+1<=200/\d<=40/\okS (k+1) (st++x.ps.map fun y=>(y,d+1)):=by
 cases x with
 | mk a b nm ps=>
  show _↔k+1<=200/\d<=40/\okS (k+1) (st++ps.map fun y=>(y,d+1));have hd := @P0;simp only[okS,LU,KH,Ni,cnt,List.forall_mem_append,Mk,List.forall_mem_map,dp];constructor
  .rintro⟨h1,h2,h3,_⟩;refine⟨by omega,by omega,by omega,h2,fun y hy => ?_⟩;have:=(P0 (n:=dps ps)).1 (CZ _) y hy;omega
  .rintro⟨h1,h2,h3,h4,h5⟩;refine⟨by omega,h4,?_,fun q hq=>by cases hq⟩;have:dps ps<=(40 - d).toNat:=P0.2 fun p hp=>by have:=h5 p hp;omega
   omega
end
section
attribute [local simp] C7 Br EW DL CG Dd Du Eu BZ Ar Bg Al GV FF EF HE D4 Ax FB EG HF HG xUn E7 D5 FG BF DH BG D6 BH D7 Ce CX Bw BJ EH Ej
 ev evs C4 DE OR.ofV OR.Dz OR.ofC FP Tm.get Tm.init Tm.only A1 A8 CM finish CF DJ HR Dy D3 unA B7 Bb B8 Bc Co Cp Cq Bd Cr Cs Be Ct Cu Bf B9 AL CQ Ba Cm Cn B6 Ev Ew Ey Dv Dw Fl F8 F9 Fm stA Ay Db Bn DI E8 Gt Bs C6 CI FI Gu
attribute [local simp] CJ Bi Bt BN DQ DR DS DT DU DW DX Ec Cg Ed Dh FR FT Gf Di Ee Dj BO Dk BP Dl CD Ef Ch FU FV FW Ci Dm Dn FX Gg FY Gh Gi Dp BQ Cj CE Dq Dr Ck
theorem EI.shape{l:List AK}{H:AF}{c:Nat}{lv:AV}{cons:List CS}{n:Nat}{Q:Nat->Prop}{b:AF}{ct:Int}{es:List (List AV)}(h:EI l H c lv cons n Q b ct es cons.length cons.length):HY (n+1) (fun x=>H.length<=x/\x<b.length) b (.hp (H.length+3) 0) (.cons (cons.map (·.nm)) (cons.map (partsOf l))):=by
 have hb:=h.blen;refine⟨H.length+3,rfl,⟨by omega,by omega⟩,_,es,h.xb,by simp[h.len],by simp,.inr ⟨H.length+2,⟨by omega,by omega⟩,by rw[h.len],h.ar⟩,fun k e nm parts h1 h2 h3 => ?_⟩;rw[Fx,Dx]at h2 h3;obtain⟨cc,g1,rfl⟩:=h2;obtain⟨cc',g2,rfl⟩:=h3;rw[g1]at g2;cases g2;obtain⟨fv,pv,d1,_,d3,_⟩:=h.els k cc e g1 h1;exact⟨fv,pv,d1,(d3 (Ae.1 g1).1).mono (fun v s hvs=>hvs.mono n (fun x hx=>by have:=h.q x hx;omega) (fun _ _=>rfl)) (fun x hx=>by have:=h.q x hx;omega) (fun _ _=>rfl)⟩
theorem ag{c:Nat}{D:Int}{lo ix:Nat}{cons:List CS}{es:List (List AV)}{b:AF}(hcl:cons.length<1048577)(hel:es.length=cons.length)(her:∀(j:Nat) c e,cons[j]? = some c->es[j]? = some e->Kh c e)(hflat:∀ c∈cons,c.fields=[])(hb:b[ix]? = some (.var false [.int .i64 0,.sl 3 true es])) :
 EV MX 195 121 (AE MX) (AL f195 0) ([(2,.hp c 0),(3,.int .i64 D),(4,.hp lo 0),(13,.hp ix 0),(76,.int .i64 cons.length),(77,.int .i64 (0:Nat))],b)=some (.ext 0,([(2,.hp c 0),(3,.int .i64 D),(4,.hp lo 0),(13,.hp ix 0),(76,.int .i64 cons.length),(77,.int .i64 cons.length),(78,.bool false)],b)):=by
 obtain⟨e,st,hlp,hq⟩:=AU (M:=MX) (fid:=195) (N:=121) (C:=AE MX) (c:=AL f195 0) (n:=cons.length)
  (fun i (b:AF)=>([(2,.hp c 0),(3,.int .i64 D),(4,.hp lo 0),(13,.hp ix 0),(76,.int .i64 cons.length),(77,.int .i64 i)],b))
  (fun i b'=>b'=b)
  (fun r=>r=(.ext 0,([(2,.hp c 0),(3,.int .i64 D),(4,.hp lo 0),(13,.hp ix 0),(76,.int .i64 cons.length),(77,.int .i64 cons.length),(78,.bool false)],b))) (fun i b' hi hI=>by
    subst hI;have hi':=AZ hi;have hw:=AY hi hcl;have hie:i<es.length:=(by rw[hel];exact hi);obtain⟨fv,he,hfv⟩:=her i cons[i] es[i] (AW hi) (AW hie);rw[hflat _ (Ap hi)]at hfv;have hfl:∀ h,BI fv h=some (.val (.int .i64 (0:Nat)) h):=fun h=>hfv.len h
    have hix:ixA 3 (.sl 3 true es) (.int .i64 i)=some (.ro es[i]):=IQ _ _ _ _ .i64 hie;obtain⟨e2,st2,hlp2,hq2⟩:=AU (M:=MX) (fid:=195) (N:=121) (C:=AE MX) (c:=AL f195 1) (n:=0)
     (fun m (b:AF)=>([(2,.hp c 0),(3,.int .i64 D),(4,.hp lo 0),(13,.hp ix 0),(15,.ro es[i]),(76,.int .i64 cons.length),(77,.int .i64 i),(89,fv),(90,.int .i64 (0:Nat)),(91,.int .i64 m)],b))
     (fun m b''=>b''=b')
     (fun r=>r=(.ext 2,([(2,.hp c 0),(3,.int .i64 D),(4,.hp lo 0),(13,.hp ix 0),(15,.ro es[i]),(76,.int .i64 cons.length),(77,.int .i64 i),(89,fv),(90,.int .i64 (0:Nat)),(91,.int .i64 (0:Nat)),(92,.bool false)],b'))) (fun m b hm=>by omega) (fun b hb=>by
       subst hb;exact⟨_,_,by simp[f195] <;> first | exact⟨rfl,rfl⟩ | rfl,by simp,rfl⟩) b' rfl
    cases hq2;simp[f195]at hlp2;rw[he]at hix hlp2;exact .inl ⟨b',by simp[f195,hi',hb,hix,hfl,hlp2,hw],rfl⟩) (fun b' hI=>by
    subst hI;exact⟨_,_,by simp[f195] <;> first | exact⟨rfl,rfl⟩ | rfl,by simp,rfl⟩) b rfl
 cases hq;exact hlp
theorem c195{l:List AK}{lv:AV}(hl:SlR Ac 3 l lv)(hsl:SmL 1048577 l)(hd:DV l):∀(n:Nat),n<=40->Xx l lv (Eg l n) (41 - (n:Int)) n
 | 0,_=>fun t xs hx hst hv H cnt c hc c0 c1=>e195 hl hd.dok none 41 (by omega) (by omega) (by simp) 0 hx hst hv hc c0 c1 (fun _ _ _ _ h=>by omega)
 | n+1,hn=>fun t xs hx hst hv H cnt c hc c0 c1=>by
  have IH:=c195 hl hsl hd n (by omega);obtain⟨D,hD⟩:∃ D:Int,D=41 - ((n+1:Nat):Int):=⟨_,rfl⟩;rw[show(41 - (n:Int))=D+1 by omega]at IH;rw[<- hD];show ∃ v H',AI MX (AE MX) 195 _ _=some (.ret (.tup [v,.int .i64 (EO l (some (Eg l n)) t cnt).2]),H')/\NA l H c (n+1) t (EO l (some (Eg l n)) t cnt) v H';refine e195 hl hd.dok (some (Eg l n)) D (by omega) (by omega) (by simp;omega) (n+1) hx hst hv hc c0 c1 (fun hT hk1 hB1 hcnt hD40 => ?_);have hne2:t.k≠2:=by omega
  have hk2:(t.k == 2)=false:=by simp[hne2]
  have hbn:(t.nm == [66,105,116])=false:=by
   rw[beq_eq_false_iff_ne];intro h;simp[Ek,hk1,h,DM]at hB1
  have hcs:=(hd.con t hv hne2 hB1).2.1;have hok:=hd.dok;obtain⟨es,hel,her,hcase⟩:=c237 hl hsl hd.nms hx hst (hok.has t hv hne2 hB1) hcs;obtain⟨hcl,hsc⟩:=Gv hsl hst (by omega:5<1048577);have hfld:=hok.fld t hv hne2 hB1;have h234:=c234 hx hst;rw[hT]at h234;simp only[if_true]at h234;have hcH:=(Ae.1 hc).1;have wc:wr .i64 (cnt+1)=cnt+1:=Cl (by omega) (by omega);have hE:EO l (some (Eg l n)) t cnt=eCs (Eg l n) (AP l t) (cnt+1):=by
   unfold EO;simp[hT,hne2,hB1,show ¬ 200<cnt+1 by omega]
  rw[hE];obtain⟨pv,rfl,hp⟩:=hx.Ab;have p0:(H++[Blk.var false [lv,.AH],Blk.var false [.int .i64 t.k,.int .i64 t.v,.str t.nm,pv]])[c]? = some (.var false [.int .i64 cnt]):=Av hc _;have q0:((H++[Blk.var false [lv,.AH],Blk.var false [.int .i64 t.k,.int .i64 t.v,.str t.nm,pv]]).set c (.var false [.int .i64 (cnt+1)]))[c]? = some (.var false [.int .i64 (cnt+1)]):=ER (by simp;omega);have q1:((H++[Blk.var false [lv,.AH],Blk.var false [.int .i64 t.k,.int .i64 t.v,.str t.nm,pv]]).set c (.var false [.int .i64 (cnt+1)]))[H.length+1]? = some (.var false [.int .i64 t.k,.int .i64 t.v,.str t.nm,pv]):=by rw[BT (by omega)];simp
  have q2:((H++[Blk.var false [lv,.AH],Blk.var false [.int .i64 t.k,.int .i64 t.v,.str t.nm,pv]]).set c (.var false [.int .i64 (cnt+1)]))[H.length]? = some (.var false [lv,.AH]):=by rw[BT (by omega)];simp
  obtain⟨G,hG⟩:∃ G,G=(H++[Blk.var false [lv,.AH],Blk.var false [.int .i64 t.k,.int .i64 t.v,.str t.nm,pv]]).set c (.var false [.int .i64 (cnt+1)]):=⟨_,rfl⟩;have hGl:G.length=H.length+2:=by rw[hG];simp
  rw[<- hG]at q0 q1 q2;have fr:∀ x,x<H.length->x≠c->G[x]? = H[x]? := fun x h1 h2=>by rw[hG,BT (fun h=>h2 h.symm),BA h1]
  rcases hcase with⟨hc1,hflat⟩ | hc2
  ·-- Bool
   have hEf:eCs (Eg l n) (AP l t) (cnt+1)=(cnt+1,0):=RQ _ _ _ hflat;rw[hEf];have hc1':=hc1 G;have hxb:(G++[Blk.var false [.int .i64 0,.sl 3 true es]])[H.length+2]? = some (.var false [.int .i64 0,.sl 3 true es]):=(by rw[<- hGl];simp);have f1:=ag (c:=c) (D:=D) (lo:=H.length) hcl hel her hflat hxb;simp[f195]at f1;refine⟨.hp (H.length+2) 0,G++[Blk.var false [.int .i64 0,.sl 3 true es]],Bj Hr Iy ?_,by simp;omega,fun x hx hxc => ?_,fun _=>⟨Av q0 _,?_⟩⟩
   .simp[AJ,f195,h234,hk2,p0,q0,q1,q2,Ak q0,Ak q1,Ak q2,wc,<- hG,hcnt,hD40,Lu,hbn,hl.cells,hc1',hGl,hxb,Ak hxb,hel,bsA,Aq,List.replicate,AG,AV.AA,f1]
   .rw[BA (by omega)];exact fr x hx hxc
   .have h0:(Eg l (n+1) t cnt).2=0:=by
     show(EO l (some (Eg l n)) t cnt).2=0;rw[hE,hEf]
    obtain⟨s,hs⟩:=J7 l (n+1) t cnt h0;rw[I0 hs,Nf hs hB1];refine⟨H.length+2,rfl,⟨by omega,by simp;omega⟩,_,es,hxb,by simp[hel],by simp,.inl rfl,fun k e nm parts h1 h2 h3 => ?_⟩;rw[Fx,Dx]at h2 h3;obtain⟨cc,g1,rfl⟩:=h2;obtain⟨cc',g2,rfl⟩:=h3;rw[g1]at g2;cases g2;obtain⟨fv,he,_⟩:=her k cc e g1 h1;exact⟨fv,.AH,he,.inl ⟨by simp[hflat cc (C2 g1)],rfl⟩⟩
  .have hc2':=hc2 G;rw[hGl]at hc2';let B:=G++[Blk.arr 3 false es,Blk.var false [.int .i64 0,.hs (H.length+2) (AP l t).length 3 0 (AP l t).length false]];have hEI:EI l H c lv (AP l t) (n+1) (fun _=>False) B (cnt+1) es 0 0:=
    ⟨Av q0 _,by omega,by omega,fun x h1 h2=>by
     show(G++_)[x]? = _;rw[BA (by omega)];exact fr x h1 h2,
     Av q2 _,by
      show(G++_)[H.length+3]? = _;rw[show H.length+3=G.length+1 by omega];simp,by
      show(G++_)[H.length+2]? = _;rw[show H.length+2=G.length by omega];simp,hel,fun x h=>h.elim,by
      show _<=(G++_).length;simp;omega,fun k cc e h1 h2=>by
      obtain⟨fv,rfl,hf⟩:=her k cc e h1 h2;exact⟨fv,.AH,rfl,hf,fun h=>by omega,fun _=>rfl⟩⟩
   obtain⟨b,r,f1,f2⟩:=af hl (by omega) hD40 IH (Kg l n) hcH hcl hsc hfld hEI;simp[B,f195]at f1;rcases f2 with⟨rfl,Q,ct,es',g1,g2⟩ | ⟨rfl,g1,g2⟩
   .rw[g2];have hB2:b.length ≥ H.length+4:=g1.blen;refine⟨.hp (H.length+3) 0,b,Bj Hr Iy ?_,by omega,g1.old,fun _=>⟨g1.cell,?_⟩⟩
    .simp[AJ,f195,h234,hk2,p0,q0,q1,q2,Ak q0,Ak q1,Ak q2,wc,<- hG,hcnt,hD40,Lu,hbn,hl.cells,hc2',hGl,bsA,Aq,List.replicate,AG,AV.AA,f1]
    .have h0:(Eg l (n+1) t cnt).2=0:=by
      show(EO l (some (Eg l n)) t cnt).2=0;rw[hE,g2]
     obtain⟨s,hs⟩:=J7 l (n+1) t cnt h0;rw[I0 hs,Nf hs hB1];exact g1.shape
   .refine⟨.ED,b,Bj Hr Iy ?_,g2.1,g2.2,fun h=>absurd h g1⟩;simp[AJ,f195,h234,hk2,p0,q0,q1,q2,Ak q0,Ak q1,Ak q2,wc,<- hG,hcnt,hD40,Lu,hbn,hl.cells,hc2',hGl,bsA,Aq,List.replicate,AG,AV.AA,f1]
theorem Sn(k:Nat)(hk:k<=15):(Lib.bitLen k:Int)=RK (k+1):=by
 have h:((List.range 16).all fun k=>decide ((Lib.bitLen k:Int)=RK (k+1)))=true:=by decide
 have:=D0.1 h k (by simp;omega);exact of_decide_eq_true this
theorem c184(k:Int)(h0:0<=k)(h1:k<=15)(h:AF):AI MX (AE MX) 184 [.int .u64 k] h=some (.ret (.int .i64 (RK (k.toNat+1))),h):=by
 have hc:AE MX 184 [.int .u64 k] []=some (.ret (.int .i64 (RK (k.toNat+1))),[]):=by
  refine Lr Zy ?_;have hd:decide (0<=k/\k<=18446744073709551615)=true:=by simp;omega
  simp only[K9,hd];rw[Sn k.toNat (by omega)]
 unfold AI;simp only[W8,A4,AV.AA,JL,List.all_nil,Bool.and_self,hc,DG]
inductive RU:AV->Nat->Prop where
 | sl (es:List (List AV)):RU (.sl 3 true es) es.length
 | hs (j m:Nat):RU (.hs j m 3 0 m false) m
theorem Sp:und MX.ty 265=some (.slice 270):=by kernel_rfl
theorem c216{H:AF}{id:Nat}{n:Int}{w:AV}(h:H[id]? = some (.var false [.int .i64 n,w])):(w=.AH->AI MX (AE MX) 216 [.hp id 0] H=some (.ret (.bool true),H))/\(∀ m,RU w m->AI MX (AE MX) 216 [.hp id 0] H=some (.ret (.bool false),H)):=by
 refine⟨fun hw => ?_,fun m hw => ?_⟩
 .subst hw;exact Bj NQ Ps (by simp[AJ,Tryz.f216,h,Sp,eqA])
 .cases hw with
  | sl es=>exact Bj NQ Ps (by simp[AJ,Tryz.f216,h,Sp,eqA])
  | hs j m=>exact Bj NQ Ps (by simp[AJ,Tryz.f216,h,Sp,eqA])
theorem c238{H:AF}{id:Nat}{n:Int}{w:AV}(h:H[id]? = some (.var false [.int .i64 n,w])){m:Nat}(hw:RU w m)(h1:1<=m)(h16:m<=16):AI MX (AE MX) 238 [.hp id 0] H=some (.ret (.int .i64 (RK m)),H):=by
 have hl:BI w H=some (.val (.int .i64 m) H):=by cases hw <;> rfl
 have e1:wr .i64 ((m:Int) - 1)=(m:Int) - 1:=Cl (by omega) (by omega);have e2:wr .u64 ((m:Int) - 1)=(m:Int) - 1:=by
  have:decide (0<=(m:Int) - 1/\(m:Int) - 1<Ia .u64)=true:=by simp[Ia];omega
  simp only[wr,this]
 have e3:=c184 ((m:Int) - 1) (by omega) (by omega) H;rw[show((m:Int) - 1).toNat+1=m by omega]at e3;exact Bj XQ aG (by simp[AJ,f238,h,hl,e1,e2,e3,cvI])
theorem c265{n:Nat}{S:Nat->Prop}{H:AF}{nm:Bytes}{fv pv:AV}{parts:List Sh}(hp:Jl (HY n S H) S H pv parts)(hpl:parts.length<1048577)
 (hw:∀(j:Nat) (hj:j<parts.length) (v:AV) (X:AF),HY n S H v parts[j]->∃ X',AI MX (AE MX) 197 [v] (H++X)=some (.ret (.int .i64 (shW parts[j])),H++X++X')) :
 ∃ X,AI MX (AE MX) 265 [.agg [.str nm,fv,pv]] H=some (.ret (.int .i64 (H8 parts 0)),H++X):=by
 have hlen:∀ G,BI pv G=some (.val (.int .i64 parts.length) G):=fun G=>by
  rcases hp with⟨rfl,rfl⟩ | ⟨q,ptrs,_,_,rfl,_⟩ <;> rfl
 have hcc:pv.cells=some [pv]:=by rcases hp with⟨_,rfl⟩ | ⟨q,ptrs,_,_,rfl,_⟩ <;> rfl
 obtain⟨e,st,hlp,hq⟩:=AU (M:=MX) (fid:=265) (N:=19) (C:=AE MX) (c:=AL f265 0) (n:=parts.length)
  (fun j (b:Int×AF)=>([(3,.int .i64 b.1),(7,pv),(8,.int .i64 parts.length),(9,.int .i64 j)],H++b.2))
  (fun j b=>H8 parts 0=H8 (parts.drop j) b.1)
  (fun r=>∃ X,r=(.ext 0,([(3,.int .i64 (H8 parts 0)),(7,pv),(8,.int .i64 parts.length),(9,.int .i64 parts.length),(10,.bool false)],H++X))) (fun j b hj hI=>by
    obtain⟨a,X⟩:=b;simp only at hI;have hj':=AZ hj;have hwj:=AY hj hpl;rcases hp with⟨rfl,rfl⟩ | ⟨q,ptrs,h0,h1,rfl,h3,h4,h5⟩
    .cases hj
    .have hjp:j<ptrs.length:=(by omega);obtain⟨v,hv,hs⟩:=h5 j ptrs[j] parts[j] (AW hjp) (AW hj);have hpj:ptrs[j]? = some [v]:=(by rw[AW hjp,hv]);obtain⟨X',hc⟩:=hw j hj v X hs;have hix:ixA 1 (.hs q parts.length 1 0 parts.length false) (.int .i64 j)=some (.ep q parts.length 1 j 0):=by
      rw[EX (kd:=.i64) (hi:=hj),D1]
     have hqX:=Av h3 X;rw[Om hj]at hI;exact .inl ⟨(N6 a (shW parts[j]),X++X'),by simp[f265,hj',hix,hqX,h4,hpj,hc,hwj,N6],hI⟩) (fun b hI=>by
    obtain⟨a,X⟩:=b;rw[C3]at hI;simp only[H8]at hI;subst hI;exact⟨_,_,by simp[f265] <;> first | exact⟨rfl,rfl⟩ | rfl,by simp,X,rfl⟩) (0,[Blk.var false [.str nm,fv,pv]]) (by simp)
 obtain⟨X,hq⟩:=hq;cases hq;simp[f265]at hlp;exact⟨X,Bj Xa aN (by simp[AJ,f265,hlen,hlp])⟩
theorem c239{n:Nat}{S:Nat->Prop}{H:AF}{id:Nat}{k:Int}{w:AV}{es:List (List AV)}{ns:List Bytes}{ss:List (List Sh)}(hS:∀ x,S x->x<H.length)(hid:H[id]? = some (.var false [.int .i64 k,w]))(hes:es.length=ns.length)(hss:ss.length=ns.length)(hln:ns.length<1048577)(hsl:∀ s∈ss,s.length<1048577)
 (hwv:w=.sl 3 true es\/∃ j,S j/\w=.hs j es.length 3 0 es.length false/\H[j]? = some (.arr 3 false es))
 (hels:∀(k:Nat) e nm parts,es[k]? = some e->ns[k]? = some nm->ss[k]? = some parts->∃ fv pv,e=[.str nm,fv,pv]/\Jl (HY n S H) S H pv parts)
 (hw:∀ s∈ss,∀ x∈s,∀(v:AV) (X:AF),HY n S H v x->∃ X',AI MX (AE MX) 197 [v] (H++X)=some (.ret (.int .i64 (shW x)),H++X++X')) :
 ∃ X,AI MX (AE MX) 239 [.hp id 0] H=some (.ret (.int .i64 (GF ss 0)),H++X):=by
 have hlen:∀ G,BI w G=some (.val (.int .i64 ss.length) G):=fun G=>by
  rw[hss,<- hes];rcases hwv with rfl | ⟨j,_,rfl,_⟩ <;> rfl
 obtain⟨e,st,hlp,hq⟩:=AU (M:=MX) (fid:=239) (N:=21) (C:=AE MX) (c:=AL f239 0) (n:=ss.length)
  (fun i (b:Int×AF)=>([(3,.int .i64 b.1),(9,w),(10,.int .i64 ss.length),(11,.int .i64 i)],H++b.2))
  (fun i b=>GF ss 0=GF (ss.drop i) b.1)
  (fun r=>∃ X,r=(.ext 0,([(3,.int .i64 (GF ss 0)),(9,w),(10,.int .i64 ss.length),(11,.int .i64 ss.length),(12,.bool false)],H++X))) (fun i b hi hI=>by
    obtain⟨a,X⟩:=b;simp only at hI;have hi':=AZ hi;have hwi:=AY hi (by omega);have hie:i<es.length:=(by omega);have hin:i<ns.length:=(by omega);obtain⟨fv,pv,he,hP⟩:=hels i es[i] ns[i] ss[i] (AW hie) (AW hin) (AW hi);have hmem:=Ap hi;have hei:es[i]? = some [.str ns[i],fv,pv]:=(by rw[AW hie,he]);obtain⟨Y,hY⟩:∃ Y,Y=X++[Blk.var false [.str ns[i],fv,pv]]:=⟨_,rfl⟩;obtain⟨X',hc⟩:=c265 (H:=H++Y) (nm:=ns[i]) (fv:=fv) (hP.mono (fun v s h=>HY.mono n h (fun _ h=>h) (fun x hx=>BA (hS x hx))) (fun _ h=>h) (fun x hx=>BA (hS x hx))) (hsl _ hmem) (fun j hj v Z hv=>by
     have:=hw _ hmem _ (Ap hj) v (Y++Z) (HY.mono n hv (fun _ h=>h) (fun x hx=>(BA (hS x hx)).symm));simpa[EM]using this)
    rw[hY]at hc;have hlast:(H++(X++[Blk.var false [.str ns[i],fv,pv]]))[H.length+X.length]? = some (Blk.var false [.str ns[i],fv,pv]):=by
     rw[EL (by omega),show H.length+X.length - H.length=X.length by omega,EL (by omega)];simp
    rw[MG hi]at hI;refine .inl ⟨(if H8 ss[i] 0 > a then H8 ss[i] 0 else a,Y++X'),?_,hI⟩;rw[hY];rcases hwv with rfl | ⟨j,hj,rfl,hjH⟩
    .have hix:ixA 3 (.sl 3 true es) (.int .i64 i)=some (.ro es[i]):=IQ _ _ _ _ .i64 hie;rw[he]at hix;simp[f239,hi',hix,hlast,hc,hwi,NY]
    .have hix:ixA 3 (.hs j es.length 3 0 es.length false) (.int .i64 i)=some (.ep j es.length 3 i 0):=by
      rw[EX (kd:=.i64) (hi:=hie),D1]
     have hjX:=Av hjH X;simp[f239,hi',hix,hjX,hei,hlast,hc,hwi,NY]) (fun b hI=>by
    obtain⟨a,X⟩:=b;rw[C3]at hI;simp only[GF]at hI;subst hI;exact⟨_,_,by simp[f239] <;> first | exact⟨rfl,rfl⟩ | rfl,by simp,X,rfl⟩) (0,[]) (by simp)
 obtain⟨X,hq⟩:=hq;cases hq;simp[f239]at hlp;exact⟨X,Bj XR aH (by simp[AJ,f239,hid,hlen,hlp])⟩
theorem c197{l:List AK}(hd:DV l):∀(n:Nat) (s:Sh) (t:TyV) (S:Nat->Prop) (H:AF) (v:AV) (X:AF),(∀ x,S x->x<H.length)->HY n S H v s->Em l t s->VT l t ->
 ∃ X',AI MX (AE MX) 197 [v] (H++X)=some (.ret (.int .i64 (shW s)),H++X++X')
 | 0,s,t,S,H,v,X,hS,h,_,_=>h.elim
 | n+1,.bit m,t,S,H,v,X,hS,h,hs,hv=>by
  obtain⟨id,rfl,h1,h2⟩:=h;have h2':=Av h2 X;have h3:=(c216 h2').1 rfl;exact⟨[],Bj Q6 Tn (by simp[AJ,f197,h3,h2',shW])⟩
 | n+1,.cons ns ss,t,S,H,v,X,hS,h,hs,hv=>by
  obtain⟨id,rfl,h1,w,es,h2,h3,h4,h5,h6⟩:=h;cases hs with
  | cons _ _ _ hb hk hn hl hsl hf=>
   obtain⟨g1,g2,hfl⟩:=hd.con t hv hk hb;have g3:0<(AP l t).length:=Kr.2 g2;have hS':∀ x,S x->x<(H++X).length:=fun x hx=>by have:=hS x hx;simp;omega
   have hX:∀ x,S x->(H++X)[x]? = H[x]? := fun x hx=>BA (hS x hx)
   have h2':=Av h2 X;have hcv:RU w ss.length:=by
    rw[h4,<- h3];rcases h5 with rfl | ⟨j,_,rfl,_⟩
    .exact .sl es
    .exact .hs j _
   have k1:=(c216 h2').2 _ hcv;have k2:=c238 h2' hcv (by omega) (by omega);have hfield:∀ s∈ss,(s.length<1048577)/\∀ x∈s,∃ f,Em l f x/\VT l f:=fun s hs'=>by
    obtain⟨i,hi,rfl⟩:=List.mem_iff_getElem.1 hs';have hic:i<(AP l t).length:=(by omega);have e1:=hsl i _ _ (AW hic) (AW hi);refine⟨by rw[e1];have:=hfl _ (Ap hic);omega,fun x hx => ?_⟩;obtain⟨j,hj,rfl⟩:=List.mem_iff_getElem.1 hx;have hjf:j<(AP l t)[i].fields.length:=(by omega);exact⟨_,hf i _ _ j _ _ (AW hic) (AW hi) (AW hjf) (AW hj),hd.dok.fld t hv hk hb _ (Ap hic) _ (Ap hjf)⟩
   obtain⟨X',k3⟩:=c239 (n:=n) (S:=S) (H:=H++X) (ns:=ns) (ss:=ss) (es:=es) hS' h2' h3 h4 (by omega) (fun s hs'=>(hfield s hs').1) (by
    rcases h5 with h | ⟨j,a,b,c⟩
    .exact .inl h
    .exact .inr ⟨j,a,b,Av c X⟩) (fun k e nm parts a b c=>by
    obtain⟨fv,pv,d1,d2⟩:=h6 k e nm parts a b c;exact⟨fv,pv,d1,d2.mono (fun v s h=>HY.mono n h (fun _ h=>h) hX) (fun _ h=>h) hX⟩) (fun s hs' x hx v Z hvZ=>by
    obtain⟨f,hf1,hf2⟩:=(hfield s hs').2 x hx;exact c197 hd n x f S (H++X) v Z hS' hvZ hf1 hf2)
   exact⟨X',Bj Q6 Tn (by simp[AJ,f197,k1,k2,k3,shW,N6])⟩
theorem Sq{l:List AK}{t:TyV}(h:Bx l [] t=0):VT l t:=(MI h).2
section
variable{l:List AK}{lv:AV}(hl:SlR Ac 3 l lv)(hsl:SmL 1048577 l)
include hl hsl
theorem c174{t:TyV}{xs:List AV}(hx:AR t xs)(hst:Sm 1048577 t)(H:AF) :
 ∃ v H',AI MX (AE MX) 174 [lv,.agg xs] H=some (.ret (.tup [v,.agg [lv,.AH],.int .i64 (E2 l t)]),H'):=by
 have h193:=c193 hl hsl;have hb4:=VJ;simp[Aa,An,f174]at hb4;have hb7:=VK;simp[Aa,An,f174]at hb7;have hb12:=SU;simp[Aa,An,f174]at hb12;by_cases hD:(A5 l).2=0
 .have hd:=Jn hD;have h194:=fun h=>c194 hl hsl.1 (params:=[]) (pr:=.AH) (.inl ⟨rfl,rfl⟩) (by simp) (fun d hdm=>(hsl.2 d hdm).2.1) hd.nms hx hst h
  by_cases hT:Bx l [] t=0
  .have hv:=Sq hT;have h195:=c195 hl hsl hd 40 (by omega);rw[show(41 - ((40:Nat):Int))=1 from rfl]at h195;have hx0:=hx;obtain⟨pv,rfl,hp⟩:=hx.Ab;let G:=H++[Blk.var false [.int .i64 t.k,.int .i64 t.v,.str t.nm,pv],Blk.var false [.AH,.AH],Blk.var false [lv,.AH],Blk.var false [.int .i64 0]];have hc:G[H.length+3]? = some (.var false [.int .i64 0]):=(by simp[G]);obtain⟨v,H',hcall,hlen,hold,hpost⟩:=h195 t _ hx0 hst hv G 0 (H.length+3) hc (by omega) (by omega);have hGl:G.length=H.length+4:=(by simp[G]);have r7:H'[H.length+2]? = some (.var false [lv,.AH]):=(by rw[hold _ (by omega) (by omega)];simp[G]);have r5:H'[H.length+1]? = some (.var false [.AH,.AH]):=(by rw[hold _ (by omega) (by omega)];simp[G]);have hR:E2 l t=if(Eg l 40 t 0).2=0 then(if 1<=shW (Eh l t)/\shW (Eh l t)<=16 then 0 else 25)else(Eg l 40 t 0).2:=by
    unfold E2 HA;rw[if_pos hD,if_pos hT]
   rw[hR];simp only[G]at hcall;by_cases hE:(Eg l 40 t 0).2=0
   .obtain⟨g1,g3⟩:=hpost hE;obtain⟨s,hs⟩:=J7 l 40 t 0 hE;have hsh:=I0 hs;rw[hsh]at g3 ⊢;obtain⟨X,hw⟩:=c197 hd 41 s t _ H' v [] (fun x hx=>hx.2) g3 hs hv;rw[IX]at hw;obtain⟨id,hid⟩:=g3.hp;have r7':=Av r7 X;have r5':=Av r5 X;have m1:((H.length+2)∈Da 0 (H'++X) ((H'++X).set (H.length+1) (.var false [lv,.AH])))=False:=Cx (by simp;omega) (by rw[BT (by omega)]);have r5'':((H'++X).set (H.length+1) (.var false [lv,.AH]))[H.length+1]? = some (.var false [lv,.AH]):=ER (by simp;omega);rw[hE]at hcall;rw[if_pos hE];refine⟨v,(H'++X).set (H.length+1) (.var false [lv,.AH]),Bj LF Ma ?_⟩;subst hid;by_cases hW:1<=shW s/\shW s<=16
    .rw[if_pos hW];have hWd:decide (1<=shW s/\shW s<=16)=true:=(by simp[hW]);simp[AJ,f174,h193,hD,h194,hT,hcall,hw,Sa,hWd,hW,r7',r5',Ak r7',Ak r5',m1,r5'',Ak r5'',hl.cells,hb12,bsA,Aq,List.replicate,AG,AV.AA]
    .rw[if_neg hW];have hWd:decide (1<=shW s/\shW s<=16)=false:=(by simp;omega);simp[AJ,f174,h193,hD,h194,hT,hcall,hw,Sa,hWd,r7',r5',Ak r7',Ak r5',m1,r5'',Ak r5'',hl.cells,hb12,bsA,Aq,List.replicate,AG,AV.AA]
   .have hEb:((Eg l 40 t 0).2 == 0)=false:=(by simp[hE]);have m1:((H.length+2)∈Da 0 H' (H'.set (H.length+1) (.var false [lv,.AH])))=False:=Cx (by omega) (by rw[BT (by omega)]);have r5'':(H'.set (H.length+1) (.var false [lv,.AH]))[H.length+1]? = some (.var false [lv,.AH]):=ER (by omega);rw[if_neg hE];refine⟨v,H'.set (H.length+1) (.var false [lv,.AH]),Bj LF Ma ?_⟩;simp[AJ,f174,h193,hD,h194,hT,hcall,hEb,r7,r5,Ak r7,Ak r5,m1,r5'',Ak r5'',hl.cells,hb12,bsA,Aq,List.replicate,AG,AV.AA]
  .have hTb:(Bx l [] t != 0)=true:=(by simp[hT]);have hR:E2 l t=Bx l [] t:=by
    unfold E2 HA;rw[if_pos hD,if_neg hT]
   rw[hR];obtain⟨pv,rfl,hp⟩:=hx.Ab;exact⟨.ED,_,Bj LF Ma (by simp[AJ,f174,h193,hD,h194,hTb,hl.cells,hb7,bsA,Aq,List.replicate,AG,AV.AA] <;> rfl)⟩
 .have hDb:((A5 l).2 != 0)=true:=by simp[hD]
  have hR:E2 l t=(A5 l).2:=by unfold E2;rw[if_neg hD]
  rw[hR];obtain⟨pv,rfl,hp⟩:=hx.Ab;exact⟨.ED,_,Bj LF Ma (by simp[AJ,f174,h193,hDb,hl.cells,hb4,bsA,Aq,List.replicate,AG,AV.AA] <;> rfl)⟩
theorem c143{t:TyV}{xs:List AV}(hx:AR t xs)(hst:Sm 1048577 t)(h:AF):AI MX (AE MX) 143 [lv,.agg xs] h=some (.ret (.int .i64 (E2 l t)),h):=by
 have hn:([lv,AV.agg xs]:List AV).all AV.AA=true:=by simp[AV.AA,hx.AG,hl.AA]
 obtain⟨v,H',hc⟩:=c174 hl hsl hx hst [.var false xs];obtain⟨pv,rfl,hp⟩:=hx.Ab;exact Af Wt Zj hn rfl (hr:=_) (by simp[AJ,f143,hc,hl.cells] <;> rfl) h
end
theorem Sr{H:AF}{id m n:Nat}{es:List (List AV)}{row:List AV}(h:H[id]? = some (.arr 5 false es))(hn:H[n]? = some (.arr 5 false [row]))(hm:m<=es.length)(hm0:es≠[])(hl:m<4294967296) :
 ∃ es3,apA 5 64 (.hs id es.length 5 0 m false) (.hs n 1 5 0 1 false) H=some (.hs id es3.length 5 0 (m+1) false,H.set id (.arr 5 false es3))/\m+1<=es3.length/\es3.length<=max es.length (m+1)/\(∀ j,j<m->es3[j]? = es[j]?)/\es3[m]? = some row:=by
 have hrd:A7 H (.hs n 1 5 0 1 false)=some [row]:=by simp[A7,hn,A1,A8]
 have e2:(m+1) * 64<=17592186044416:=by omega
 have e3:m+1<=17592186044416:=by omega
 by_cases hme:m=es.length
 .subst hme;refine⟨es++[row],?_,by simp,by simp,fun j hj=>BA hj,by simp⟩;simp[apA,apX,hrd,CC,BM,F6,A3,A1,A8,CM,e2,e3,h]
 .have hml:m<es.length:=by omega
  have hlen:(es.take m++[row]++es.drop (m+1)).length=es.length:=by simp;omega
  refine⟨es.take m++[row]++es.drop (m+1),?_,by rw[hlen];omega,by rw[hlen];omega,fun j hj => ?_,?_⟩
  .rw[hlen];have b1:Nat.beq m es.length=false:=(by rw[Bool.eq_false_iff];simp[Bl];omega);have b2:decide (es.length<m+1)=false:=(by simp;omega);have b3:decide (m+1<=es.length)=true:=(by simp;omega);simp[apA,apX,hrd,CC,BM,F6,A3,A1,A8,CM,e2,e3,h,hme,KM hml,b2,b3,show ¬ es.length<m+1 by omega,show m+1<=es.length by omega]
  .rw[EM,BA (by simp;omega),Kp hj]
  .rw[EM,EL (by simp;omega)];simp[Nat.min_eq_left (KM hml)]
def Lw(st:List (TyV×Int))(es:List (List AV)):Prop:=st.length<=es.length/\∀(i:Nat) q e,st[i]? = some q->es[i]? = some e->∃ xs,AR q.1 xs/\e=xs++[.int .i64 q.2]
theorem c146{p:TyV}{pv:AV}(H:AF):AI MX (AE MX) 146 [.agg [.int .i64 p.k,.int .i64 p.v,.str p.nm,pv]] H=some (.ret pv,H++[.var false [.int .i64 p.k,.int .i64 p.v,.str p.nm,pv]]):=by
 exact Bj Wv Zl (by simp[AJ,f146])
theorem Xz{H0:AF}{p:TyV}{pv:AV}(hp:SlR AR 4 p.ps pv)(hpl:p.ps.length<1048577){d:Int}(hd0:0<=d)(hd1:d<=40){k:Nat}{st:List (TyV×Int)}{x0:AV}{L:Nat}{B0:Blk}{es:List (List AV)}{rest:AF}(hL:(B0::.arr 5 false es::rest)[L]? = some (.var false [.int .i64 p.k,.int .i64 p.v,.str p.nm,x0,.int .i64 d]))(hrep:Lw st es)(hne:es≠[])(hL2:2<=L)(hsz:es.length<=1+k * 1048577)(hst:st.length<=1+k * 1048577)(hk:k<=200) :
 ∃(es':List (List AV)) (rest':AF),EV MX 145 54 (AE MX) (AL f145 1) ([(1,.fn 146 [] []),(5,.int .i64 (k+1:Nat)),(6,.hs 1 es.length 5 0 st.length false),(7,.hp L 0),(39,pv),(40,.int .i64 p.ps.length),(41,.int .i64 (0:Nat))],B0::.arr 5 false es::rest) =
  some (.ext 2,([(1,.fn 146 [] []),(5,.int .i64 (k+1:Nat)),(6,.hs 1 es'.length 5 0 (st.length+p.ps.length) false),(7,.hp L 0),(39,pv),(40,.int .i64 p.ps.length),(41,.int .i64 p.ps.length),(42,.bool false)],B0::.arr 5 false es'::rest')) /\
  Lw (st++p.ps.map fun y=>(y,d+1)) es'/\es'≠[]/\es'.length<=1+(k+1) * 1048577:=by
 have wD:wr .i64 (d+1)=d+1:=Cl (by omega) (by omega);obtain⟨e,s,hlp,hq⟩:=AU (M:=MX) (fid:=145) (N:=54) (C:=AE MX) (c:=AL f145 1) (n:=p.ps.length)
  (fun j (b:List (List AV)×AF)=>([(1,.fn 146 [] []),(5,.int .i64 (k+1:Nat)),(6,.hs 1 b.1.length 5 0 (st.length+j) false),(7,.hp L 0),(39,pv),(40,.int .i64 p.ps.length),(41,.int .i64 j)],B0::.arr 5 false b.1::b.2))
  (fun j b=>(B0::.arr 5 false b.1::b.2)[L]? = some (.var false [.int .i64 p.k,.int .i64 p.v,.str p.nm,x0,.int .i64 d])/\Lw (st++(p.ps.take j).map fun y=>(y,d+1)) b.1/\b.1≠[]/\b.1.length<=1+k * 1048577+j)
  (fun r=>∃ b:List (List AV)×AF,r=(.ext 2,([(1,.fn 146 [] []),(5,.int .i64 (k+1:Nat)),(6,.hs 1 b.1.length 5 0 (st.length+p.ps.length) false),(7,.hp L 0),(39,pv),(40,.int .i64 p.ps.length),(41,.int .i64 p.ps.length),(42,.bool false)],B0::.arr 5 false b.1::b.2)) /\
    Lw (st++p.ps.map fun y=>(y,d+1)) b.1/\b.1≠[]/\b.1.length<=1+(k+1) * 1048577) (fun j b hj hI=>by
    obtain⟨es1,r1⟩:=b;obtain⟨i1,i2,i3,i4⟩:=hI;simp only at i1 i2 i3 i4;have hj':=AZ hj;have hw:=AY hj hpl;obtain⟨fe,hfe,hR⟩:=hp.ix hj;obtain⟨qv,rfl,hqv⟩:=hR.Ab;let H1:=B0::.arr 5 false es1::(r1++[Blk.var false [.int .i64 p.ps[j].k,.int .i64 p.ps[j].v,.str p.ps[j].nm,qv],.arr 5 false [[.int .i64 p.ps[j].k,.int .i64 p.ps[j].v,.str p.ps[j].nm,qv,.int .i64 (d+1)]]]);have hlen:(st++(p.ps.take j).map fun y=>(y,d+1)).length=st.length+j:=(by simp;omega);have i2a:=i2.1;rw[hlen]at i2a;obtain⟨es3,a1,a2,a3,a4,a5⟩:=Sr (H:=H1) (id:=1) (n:=r1.length+3) (row:=[.int .i64 p.ps[j].k,.int .i64 p.ps[j].v,.str p.ps[j].nm,qv,.int .i64 (d+1)]) rfl (by simp[H1]) i2a i3 (by omega);have hset:H1.set 1 (.arr 5 false es3)=B0::.arr 5 false es3::(r1++[Blk.var false [.int .i64 p.ps[j].k,.int .i64 p.ps[j].v,.str p.ps[j].nm,qv],.arr 5 false [[.int .i64 p.ps[j].k,.int .i64 p.ps[j].v,.str p.ps[j].nm,qv,.int .i64 (d+1)]]]):=rfl;rw[hset]at a1;simp only[H1]at a1;have hLl:=(Ae.1 i1).1;simp only[D8]at hLl;obtain⟨L',rfl⟩:∃ L',L=L'+2:=⟨L - 2,by omega⟩;have i1':r1[L']? = some (.var false [.int .i64 p.k,.int .i64 p.v,.str p.nm,x0,.int .i64 d]):=(by simpa using i1);have hL':∀ T:AF,(B0::.arr 5 false es1::(r1++T))[L'+2]? = some (.var false [.int .i64 p.k,.int .i64 p.v,.str p.nm,x0,.int .i64 d]):=fun T=>by
     show(r1++T)[L']? = _;rw[BA (by omega)];exact i1'
    have hL'':∀ T:AF,(r1++T)[L']? = some (.var false [.int .i64 p.k,.int .i64 p.v,.str p.nm,x0,.int .i64 d]):=fun T=>by
     rw[BA (by omega)];exact i1'
    refine .inl ⟨(es3,r1++[Blk.var false [.int .i64 p.ps[j].k,.int .i64 p.ps[j].v,.str p.ps[j].nm,qv],.arr 5 false [[.int .i64 p.ps[j].k,.int .i64 p.ps[j].v,.str p.ps[j].nm,qv,.int .i64 (d+1)]]]),?_,hL'' _,⟨?_,?_⟩,fun h => ?_,?_⟩
    .simp[f145,hj',hfe,hw,wD,hL'',hqv.cells,A3,bsA,Aq,List.replicate,AG,AV.AA,hqv.AA,a1,Kv]
    .simp;omega
    .intro i q e' h1 h2;rw[<- Cf (by omega),Mn,<- EM]at h1;by_cases hi:i<st.length+j
     .rw[BA (by rw[hlen];exact hi)]at h1;rw[a4 i hi]at h2;exact i2.2 i q e' h1 h2
     .have:i=st.length+j:=by
       have:=(Ae.1 h1).1;simp at this;omega
      subst this;rw[EL (by rw[hlen];omega),hlen]at h1;simp at h1;rw[a5]at h2;cases h2;subst h1;exact⟨_,hR,rfl⟩
    .have h:es3=[]:=h;rw[h]at a2;simp at a2
    .simp only;omega) (fun b hI=>by
    obtain⟨es1,r1⟩:=b;obtain⟨i1,i2,i3,i4⟩:=hI;rw[HL]at i2;simp only at i1 i2 i3 i4;exact⟨_,_,by simp[f145] <;> first | exact⟨rfl,rfl⟩ | rfl,by simp,(es1,r1),rfl,i2,i3,by simp only;omega⟩) (es,rest) ⟨hL,by simpa using hrep,hne,by simpa using hsz⟩
 obtain⟨⟨es',r'⟩,rfl',g1,g2,g3⟩:=hq;cases rfl';exact⟨es',r',hlp,g1,g2,g3⟩
theorem _root_.Go.Proofs.Am12.Sm.parts{b:Nat}{x:TyV}(h:Sm b x):x.ps.length<b/\∀ q∈x.ps,Sm b q:=by cases x;exact h.dest.2
structure Wk(p:TyV)(k:Nat)(st:List (TyV×Int))(es:List (List AV)):Prop where
 rep:Lw st es
 ne:es≠[]
 le:es.length<=1+k * 1048577
 sl:st.length<=1+k * 1048577
 k2:k<=200
 sm:∀ q∈st,Sm 1048577 q.1/\0<=q.2/\q.2<=41
 ok:Bp p=true↔okS k st
theorem wk0{p:TyV}{pv:AV}(hx:AR p [.int .i64 p.k,.int .i64 p.v,.str p.nm,pv])(hs:Sm 1048577 p):Wk p 0 [(p,1)] [[.int .i64 p.k,.int .i64 p.v,.str p.nm,pv,.int .i64 1]] where
 rep:=⟨by simp,fun i q e h1 h2=>by
  match i with
  | 0=>simp at h1 h2;subst h1;subst h2;exact⟨_,hx,rfl⟩
  | i+1=>simp at h1⟩
 ne:=List.cons_ne_nil _ _
 le:=by rw[List.length_singleton];omega
 sl:=by rw[List.length_singleton];omega
 k2:=HN _
 sm:=fun q hq=>by simp at hq;subst hq;exact⟨hs,by simp,by simp⟩
 ok:=by
  rw[Nh];simp only[okS,KH,Mk];constructor
  .rintro⟨h1,h2⟩;exact⟨by omega,by omega,fun q hq=>by cases hq⟩
  .rintro⟨h1,h2,_⟩;omega
section
variable{B0:Blk}{k m:Nat}{es:List (List AV)}{rest:AF}{junk:List (Nat×AV)}{x:TyV}{qv:AV}{d:Int}
theorem eO(hm:m<4294967296):slA 5 (.hs 1 es.length 5 0 (m+1) false) none (some (.int .i64 m)) none=some (.hs 1 es.length 5 0 m false):=by
 have u1:F7 (m:Int) (m+1)=some m:=by
  have:decide ((0:Int)<=m/\(m:Int)<=((m+1:Nat):Int))=true:=by simp;omega
  simp only[F7,this,Int.toNat_natCast]
 have u2:F7 (0:Int) m=some 0:=by
  have:decide ((0:Int)<=0/\(0:Int)<=(m:Int))=true:=by simp
  simp only[F7,this,Int.toNat_zero]
 simp[slA,C9,Go.Am.intOf,u1,u2,A1,KX]
theorem _root_.Go.Am.AM{M:Par}{fid N:Nat}{C:CH}{a b:Code}{s s':St}{r:Option (Ex×St)}(h:AO M fid N C a s=some (.nrm,s'))(h2:AO M fid N C b s'=r):AO M fid N C (.seq a b) s=r:=by
 rw[EW,h];exact h2
theorem _root_.Go.Am.FN{M:Par}{fid N id:Nat}{C:CH}{a:Code}{s s':St}(h:AO M fid N C a s=some (.nrm,s')):AO M fid N C (.block id a) s=some (.nrm,s'):=by
 rw[CG,h]
theorem _root_.Go.Am.Vb{M:Par}{fid N id:Nat}{C:CH}{a:Code}{s s':St}(h:AO M fid N C a s=some (.ret,s')):AO M fid N C (.block id a) s=some (.ret,s'):=by
 rw[CG,h]
def _root_.Go.Am.sub:Code->List Nat->Code
 | c,[]=>c
 | .seq a _,0::r=>Go.Am.sub a r
 | .seq _ b,1::r=>Go.Am.sub b r
 | .block _ c,0::r=>Go.Am.sub c r
 | c,_=>c
theorem cT(hm:m<4294967296){T:AF}:AO MX 145 54 (AE MX) (sub (AL f145 0) [0]) ((1,.fn 146 [] [])::(5,.int .i64 k)::(6,.hs 1 es.length 5 0 (m+1) false)::junk,T)=some (.nrm,([(1,.fn 146 [] []),(5,.int .i64 k),(6,.hs 1 es.length 5 0 (m+1) false),(15,.bool true)],T)):=by
 have hgt:(0:Int)<(m:Int)+1:=by omega
 simp[f145,sub,hgt]
theorem cU(hm:m<4294967296)(hq:SlR AR 4 x.ps qv)(hei:es[m]? = some [.int .i64 x.k,.int .i64 x.v,.str x.nm,qv,.int .i64 d]):AO MX 145 54 (AE MX) (sub (AL f145 0) [1,0,0]) ([(1,.fn 146 [] []),(5,.int .i64 k),(6,.hs 1 es.length 5 0 (m+1) false),(15,.bool true)],B0::.arr 5 false es::rest)=some (.nrm,([(1,.fn 146 [] []),(5,.int .i64 k),(6,.hs 1 es.length 5 0 (m+1) false),(7,.hp (rest.length+2) 0)],B0::.arr 5 false es::(rest++[Blk.var false [.int .i64 x.k,.int .i64 x.v,.str x.nm,qv,.int .i64 d]]))):=by
 have w1:wr .i64 ((m:Int)+1 - 1)=m:=by rw[Int.add_sub_cancel];exact Cl (by omega) (by omega)
 have w1':wr .i64 (m:Int)=m:=Cl (by omega) (by omega);have hix:ixA 5 (.hs 1 es.length 5 0 (m+1) false) (.int .i64 m)=some (.ep 1 es.length 5 m 0):=by
  rw[EX (kd:=.i64) (hi:=Nat.lt_succ_self _),D1]
 simp[f145,sub,w1,w1',hix,hei]
theorem cV(hm:m<4294967296){q:AV}{T:AF}:AO MX 145 54 (AE MX) (sub (AL f145 0) [1,0,1,0]) ([(1,.fn 146 [] []),(5,.int .i64 k),(6,.hs 1 es.length 5 0 (m+1) false),(7,q)],T)=some (.nrm,([(1,.fn 146 [] []),(5,.int .i64 k),(6,.hs 1 es.length 5 0 m false),(7,q)],T)):=by
 have w1:wr .i64 ((m:Int)+1 - 1)=m:=by rw[Int.add_sub_cancel];exact Cl (by omega) (by omega)
 have w1':wr .i64 (m:Int)=m:=Cl (by omega) (by omega);have hsl:=eO (es:=es) hm;simp[f145,sub,w1,w1',hsl]
theorem cW(hk:k<=200){v q:AV}{T:AF}:AO MX 145 54 (AE MX) (sub (AL f145 0) [1,0,1,1,0]) ([(1,.fn 146 [] []),(5,.int .i64 k),(6,v),(7,q)],T)=some (.nrm,([(1,.fn 146 [] []),(5,.int .i64 (k+1:Nat)),(6,v),(7,q)],T)):=by
 have w2:wr .i64 ((k:Int)+1)=(k:Int)+1:=Cl (by omega) (by omega);simp[f145,sub,w2]
theorem T7:AL f145 0=.seq (sub (AL f145 0) [0]) (.block 1 (.seq (sub (AL f145 0) [1,0,0]) (.seq (sub (AL f145 0) [1,0,1,0]) (.seq (sub (AL f145 0) [1,0,1,1,0]) (sub (AL f145 0) [1,0,1,1,1]))))):=rfl
theorem stepE(hk:k+1<=200)(hd0:0<=d)(hd:d<=40)(hq:SlR AR 4 x.ps qv){v:AV}{r:Ex×St}
 (f1:EV MX 145 54 (AE MX) (AL f145 1) ([(1,.fn 146 [] []),(5,.int .i64 (k+1:Nat)),(6,v),(7,.hp (rest.length+2) 0),(39,qv),(40,.int .i64 x.ps.length),(41,.int .i64 (0:Nat))],B0::.arr 5 false es::(rest++[Blk.var false [.int .i64 x.k,.int .i64 x.v,.str x.nm,qv,.int .i64 d],.var false [.int .i64 x.k,.int .i64 x.v,.str x.nm,qv]]))=some r) {s:St} (hr:r=(.ext 2,s)) :
 AO MX 145 54 (AE MX) (sub (AL f145 0) [1,0,1,1,1]) ([(1,.fn 146 [] []),(5,.int .i64 (k+1:Nat)),(6,v),(7,.hp (rest.length+2) 0)],B0::.arr 5 false es::(rest++[Blk.var false [.int .i64 x.k,.int .i64 x.v,.str x.nm,qv,.int .i64 d]]))=some (.nrm,s):=by
 subst hr;have hk2:¬ (200:Int)<(k:Int)+1:=by omega
 have hd2:¬ (40:Int)<d:=by omega
 have h146:=fun H=>c146 (p:=x) (pv:=qv) H
 simp[f145]at f1;simp[f145,sub,hk2,hd2,h146,hq.len,f1]
theorem stepF(hd0:0<=d)(hov:¬ (k+1<=200/\d<=40)){v:AV} :
 AO MX 145 54 (AE MX) (sub (AL f145 0) [1,0,1,1,1]) ([(1,.fn 146 [] []),(5,.int .i64 (k+1:Nat)),(6,v),(7,.hp (rest.length+2) 0)],B0::.arr 5 false es::(rest++[Blk.var false [.int .i64 x.k,.int .i64 x.v,.str x.nm,qv,.int .i64 d]]))=some (.ret,([(4,.int .i64 8)],B0::.arr 5 false es::(rest++[Blk.var false [.int .i64 x.k,.int .i64 x.v,.str x.nm,qv,.int .i64 d]]))):=by
 by_cases hk:k+1<=200
 .have hk2:¬ (200:Int)<(k:Int)+1:=by omega
  have hd2:(40:Int)<d:=by omega
  simp[f145,sub,hk2,hd2]
 .have hk2:(200:Int)<(k:Int)+1:=by omega
  simp[f145,sub,hk2]
theorem X7(hm:m<4294967296)(hk:k+1<=200)(hd0:0<=d)(hd:d<=40)(hq:SlR AR 4 x.ps qv)(hei:es[m]? = some [.int .i64 x.k,.int .i64 x.v,.str x.nm,qv,.int .i64 d]){r:Ex×St}
 (f1:EV MX 145 54 (AE MX) (AL f145 1) ([(1,.fn 146 [] []),(5,.int .i64 (k+1:Nat)),(6,.hs 1 es.length 5 0 m false),(7,.hp (rest.length+2) 0),(39,qv),(40,.int .i64 x.ps.length),(41,.int .i64 (0:Nat))],B0::.arr 5 false es::(rest++[Blk.var false [.int .i64 x.k,.int .i64 x.v,.str x.nm,qv,.int .i64 d],.var false [.int .i64 x.k,.int .i64 x.v,.str x.nm,qv]]))=some r) {s:St} (hr:r=(.ext 2,s)) :
 AO MX 145 54 (AE MX) (AL f145 0) ((1,.fn 146 [] [])::(5,.int .i64 k)::(6,.hs 1 es.length 5 0 (m+1) false)::junk,B0::.arr 5 false es::rest)=some (.nrm,s):=by
 rw[T7];exact AM (cT hm) (FN (AM (cU hm hq hei) (AM (cV hm) (AM (cW (Nat.le_of_succ_le hk)) (stepE hk hd0 hd hq f1 hr)))))
theorem ah(hm:m<4294967296)(hk0:k<=200)(hd0:0<=d)(hq:SlR AR 4 x.ps qv)(hei:es[m]? = some [.int .i64 x.k,.int .i64 x.v,.str x.nm,qv,.int .i64 d])(hov:¬ (k+1<=200/\d<=40)) :
 ∃ T,AO MX 145 54 (AE MX) (AL f145 0) ((1,.fn 146 [] [])::(5,.int .i64 k)::(6,.hs 1 es.length 5 0 (m+1) false)::junk,B0::.arr 5 false es::rest)=some (.ret,([(4,.int .i64 8)],T)):=by
 rw[T7];exact⟨_,AM (cT hm) (Vb (AM (cU hm hq hei) (AM (cV hm) (AM (cW hk0) (stepF hd0 hov)))))⟩
theorem eP{w:AV}(hw:∀ h,BI w h=some (.val (.int .i64 0) h)){T:AF}:AO MX 145 54 (AE MX) (AL f145 0) ((1,.fn 146 [] [])::(5,.int .i64 k)::(6,w)::junk,T)=some (.ext 0,([(1,.fn 146 [] []),(5,.int .i64 k),(6,w),(15,.bool false)],T)):=by
 simp[f145,hw]
end
theorem c145{p:TyV}{px:List AV}(hx:AR p px)(hs:Sm 1048577 p)(h:AF):AI MX (AE MX) 145 [.agg px,.fn 146 [] []] h=some (.ret (.int .i64 (if Bp p=true then 0 else 8)),h):=by
 have hn:([AV.agg px,.fn 146 [] []]:List AV).all AV.AA=true:=by simp[AV.AA,hx.AG,AG]
 have hx0:=hx;obtain⟨pv,rfl,hp⟩:=hx.Ab;obtain⟨B0,hB0⟩:∃ B0,B0=Blk.var false [AV.int .i64 p.k,AV.int .i64 p.v,AV.str p.nm,pv]:=⟨_,rfl⟩;obtain⟨e,s,hlp,hq⟩:=Ue (M:=MX) (fid:=145) (N:=54) (C:=AE MX) (c:=AL f145 0)
  (fun(b:Nat×List (TyV×Int)×List (List AV)×AF×List (Nat×AV))=>((1,.fn 146 [] [])::(5,.int .i64 b.1)::(6,.hs 1 b.2.2.1.length 5 0 b.2.1.length false)::b.2.2.2.2,B0::.arr 5 false b.2.2.1::b.2.2.2.1))
  (fun b=>Wk p b.1 b.2.1 b.2.2.1)
  (fun b=>KH b.2.1)
  (fun r=>(∃(k:Nat) (w:AV) (T:AF),r=(.ext 0,([(1,.fn 146 [] []),(5,.int .i64 k),(6,w),(15,.bool false)],T))/\Bp p=true)\/∃ T,r=(.ret,([(4,.int .i64 8)],T))/\Bp p=false) (fun b hI=>by
    obtain⟨k,st,es,rest,junk⟩:=b;have hI':Wk p k st es:=hI;obtain⟨i1,i2,i3,i4,i5,i6,i7⟩:=hI';clear hI;rcases List.eq_nil_or_concat st with rfl | ⟨st',⟨x,d⟩,rfl⟩
    .exact .inr ⟨_,_,eP (fun h=>rfl),by simp,.inl ⟨k,_,_,rfl,i7.2 ⟨by simp[KH];omega,fun q hq=>by cases hq⟩⟩⟩
    .rw[List.concat_eq_append]at *;have hll:(st'++[(x,d)]).length=st'.length+1:=(by simp);have i1a:=i1.1;rw[hll]at i4 i1a;have hie:st'.length<es.length:=(by omega);obtain⟨xs,hxr,hrow⟩:=i1.2 st'.length (x,d) es[st'.length] (by simp) (AW hie);obtain⟨qv,rfl,hq⟩:=hxr.Ab;have hei:es[st'.length]? = some [.int .i64 x.k,.int .i64 x.v,.str x.nm,qv,.int .i64 d]:=(by rw[AW hie,hrow];rfl);obtain⟨hsx,hd0,hd1⟩:=i6 (x,d) (by simp);have hd0:0<=d:=hd0;have hd1:d<=41:=hd1;have hsx:Sm 1048577 x:=hsx;by_cases hov:k+1<=200/\d<=40
     .obtain⟨hk,hd⟩:=hov;have hps:=hsx.parts;have hL:(B0::.arr 5 false es::(rest++[Blk.var false [.int .i64 x.k,.int .i64 x.v,.str x.nm,qv,.int .i64 d],.var false [.int .i64 x.k,.int .i64 x.v,.str x.nm,qv]]))[rest.length+2]? = some (.var false [.int .i64 x.k,.int .i64 x.v,.str x.nm,qv,.int .i64 d]):=(by simp);have hrep':Lw st' es:=⟨by omega,fun i q e h1 h2=>i1.2 i q e (by rw[BA (Ae.1 h1).1];exact h1) h2⟩;obtain⟨es',rest',f1,f2,f3,f4⟩:=Xz (H0:=[]) hq hps.1 hd0 hd (k:=k) hL hrep' i2 (by omega) i3 (by omega) (by omega);have hwk:Wk p (k+1) (st'++x.ps.map fun y=>(y,d+1)) es':=by
       refine⟨f2,f3,f4,?_,by omega,fun q hq' => ?_,?_⟩
       .rw[FZ,Fa];omega
       .rcases Ks.1 hq' with h | h
        .exact i6 q (by simp[h])
        .obtain⟨y,hy,rfl⟩:=F5.1 h;exact⟨hps.2 y hy,by show 0<=d+1;omega,by show d+1<=41;omega⟩
       .rw[i7,RT];exact⟨fun h=>h.2.2,fun h=>⟨hk,hd,h⟩⟩
      have hround:=X7 (junk:=junk) (by omega) hk hd0 hd hq hei f1 rfl;refine .inl ⟨(k+1,st'++x.ps.map fun y=>(y,d+1),es',rest',[(7,.hp (rest.length+2) 0),(39,qv),(40,.int .i64 x.ps.length),(41,.int .i64 x.ps.length),(42,.bool false)]),?_,hwk,?_⟩
      .simp only[hll,FZ,Fa];exact hround
      .show KH (st'++x.ps.map fun y=>(y,d+1))<KH (st'++[(x,d)]);rw[LU,LU,Ni];cases x;simp[KH,cnt,TyV.ps]
     .have hT:Bp p=false:=by
       rw[Bool.eq_false_iff];intro h;have:=RT.1 (i7.1 h);exact hov ⟨this.1,this.2.1⟩
      obtain⟨T,hover⟩:=ah (B0:=B0) (rest:=rest) (junk:=junk) (k:=k) (by omega) i5 hd0 hq hei hov;refine .inr ⟨_,_,?_,by simp,.inr ⟨T,rfl,hT⟩⟩;simp only[hll];exact hover) (0,[(p,1)],[[.int .i64 p.k,.int .i64 p.v,.str p.nm,pv,.int .i64 1]],[],[]) (wk0 hx0 hs)
 rw[hB0]at hlp;simp[f145]at hlp
 suffices hh:∃ hr,AJ MX 145 [.agg [.int .i64 p.k,.int .i64 p.v,.str p.nm,pv],.fn 146 [] []] []=some (.ret (.int .i64 (if Bp p=true then 0 else 8)),hr) by
  obtain⟨hr,hh⟩:=hh;exact Af Wu Zk hn rfl hh h
 rcases hq with⟨k,w,T,hq,hT⟩ | ⟨T,hq,hT⟩
 .cases hq;exact⟨T,by simp[AJ,f145,bsA,Aq,List.replicate,A3,AG,AV.AA,hlp,hT]⟩
 .cases hq;exact⟨T,by simp[AJ,f145,bsA,Aq,List.replicate,A3,AG,AV.AA,hlp,hT]⟩
def nv:List Bytes->Nat->AV
 | [],_=> .AH
 | s::r,n=> .hs n (r.length+1) 1 0 (r.length+1) false
def nb:List Bytes->AF
 | []=>[]
 | s::r=>[.arr 1 false (strs (s::r))]
theorem nv_rd(l:List Bytes)(H:AF):A7 (H++nb l) (nv l H.length)=some (strs l):=by
 cases l with
 | nil=>rfl
 | cons s r=>
  have h:(strs (s::r)).length=r.length+1:=by simp[strs]
  have h2:List.take (r.length+1) (strs (s::r))=strs (s::r):=DC (by rw[h];exact CZ _);simp[nv,nb,A7,A1,A8,h,h2]
theorem nv_sz(l:List Bytes)(n:Nat):CC 1 (nv l n)=true:=by cases l <;> simp[nv,CC,BM]
theorem ai(l:List Bytes)(n:Nat):∀ b,nv l n≠.str b:=fun b h=>by cases l <;> cases h
theorem LV{H:AF}{a:AV}{l:List Bytes}(h:l=[]/\a=.AH\/∃ j,l≠[]/\a=.hs j l.length 1 0 l.length false/\H[j]? = some (.arr 1 false (strs l)))(hc:AF):DG true hc a H=some (nv l hc.length,hc++nb l):=by
 rcases h with⟨rfl,rfl⟩ | ⟨j,h0,rfl,h2⟩
 .have ht:PQ .AH=[]:=rfl;have hr:∀ n,IM n [] .AH=some .AH:=fun n=>rfl
  have hs:Am.settle [] H=some H:=rfl;have hk:ET H []=some []:=rfl;simp only[DG,ht,hs,hr,hk];simp[Am.distinct,nv,nb]
 .cases l with
  | nil=>exact absurd rfl h0
  | cons s r=>
   have ht:PQ (.hs j (s::r).length 1 0 (s::r).length false)=[j]:=rfl;have hrl:∀ b,IM b [j] (.hs j (s::r).length 1 0 (s::r).length false)=some (.hs b (s::r).length 1 0 (s::r).length false):=fun b=>by
    simp[IM,Ll,GC,posOf,A1]
   have hall:=HC (s::r);have hset:Am.settle [j] H=some H:=(by simp only[Am.settle,h2,hall]);have hkb:ET H [j]=some [.arr 1 false (strs (s::r))]:=(by simp only[ET,h2,Blk.AA,hall]);simp only[Am.DG,ht,hset,hrl,hkb];simp[Am.distinct,nv,nb]
theorem X8(a b:List Bytes):strs (a++b)=strs a++strs b:=by simp[strs]
theorem Ai.close{rest:AF}{B0:Blk}{a:AV}{l:List Bytes}(h:Ai 1 1 rest a (strs l)):l=[]/\a=.AH\/∃ j,l≠[]/\a=.hs j l.length 1 0 l.length false/\(B0::rest)[j]? = some (.arr 1 false (strs l)):=by
 rcases h with⟨h,rfl⟩ | ⟨j,h0,rfl,h2⟩
 .exact .inl ⟨by simpa[strs]using h,rfl⟩
 .refine .inr ⟨1+j,fun e=>h0 (by rw[e];rfl),by simp[strs],?_⟩;rw[show 1+j=j+1 by omega];exact h2
theorem c148(p:TyV):∀(px:List AV),AR p px->Sm 1048577 p->(BS p).length<1048577->∀ h,AI MX (AE MX) 148 [.agg px] h=some (.ret (nv (BS p) h.length),h++nb (BS p)):=by
 induction p using TyV.ind with
 | h k v nm ps ih=>
  intro px hpx hsp hlen h;have hn:([AV.agg px]:List AV).all AV.AA=true:=by simp[AV.AA,hpx.AG]
  obtain⟨s1,s2,s3⟩:=hsp.dest;obtain⟨qv,rfl,hq⟩:=hpx.dest;by_cases k1:k=1
  .subst k1;have hnm:BS (.mk 1 v nm ps)=[nm]:=(by simp[BS]);rw[hnm];refine MH Qr TX hn (v:=.hs 1 1 1 0 1 false) (hr:=[Blk.var false [AV.int .i64 1,AV.int .i64 v,AV.str nm,qv],.arr 1 false [[.str nm]]]) (by simp[AJ,f148,bsA,Aq,List.replicate,AG,AV.AA,A3]) (LV (l:=[nm]) (.inr ⟨1,by simp,rfl,rfl⟩) h)
  .have k1':(k == 1)=false:=(by simp[k1]);have hnm:BS (.mk k v nm ps)=Bz ps:=(by simp[BS,k1]);rw[hnm]at hlen ⊢;obtain⟨e,st,hlp,hq0⟩:=AU (M:=MX) (fid:=148) (N:=25) (C:=AE MX) (c:=AL f148 0) (n:=ps.length)
    (fun i (b:AV×AF)=>([(3,b.1),(13,qv),(14,.int .i64 ps.length),(15,.int .i64 i)],Blk.var false [AV.int .i64 k,AV.int .i64 v,AV.str nm,qv]::b.2))
    (fun i b=>Ai 1 1 b.2 b.1 (strs (Bz (ps.take i))))
    (fun r=>∃ b:AV×AF,r=(.ext 0,([(3,b.1),(13,qv),(14,.int .i64 ps.length),(15,.int .i64 ps.length),(16,.bool false)],Blk.var false [AV.int .i64 k,AV.int .i64 v,AV.str nm,qv]::b.2))/\Ai 1 1 b.2 b.1 (strs (Bz ps))) (fun i b hi hI=>by
      obtain⟨a,rest⟩:=b;simp only at hI;obtain⟨e,he,hR⟩:=hq.ix hi;have hi':=AZ hi;have hw:=AY hi s2;have hml:=JE (Ap hi);have hcall:=ih ps[i] (Ap hi) e hR (s3 _ (Ap hi)) (by omega);have htl:=I1 ps i;obtain⟨q1,rfl,hq1⟩:=hR.Ab;have hc2:=hcall (Blk.var false [AV.int .i64 k,AV.int .i64 v,AV.str nm,qv]::(rest++[Blk.var false [.int .i64 ps[i].k,.int .i64 ps[i].v,.str ps[i].nm,q1]]));have hrd:=nv_rd (BS ps[i]) (Blk.var false [AV.int .i64 k,AV.int .i64 v,AV.str nm,qv]::(rest++[Blk.var false [.int .i64 ps[i].k,.int .i64 ps[i].v,.str ps[i].nm,q1]]));obtain⟨a',rest',hap,hacc⟩:=T3 (byt:=16) (P:=[Blk.var false [AV.int .i64 k,AV.int .i64 v,AV.str nm,qv]]) (rest:=rest++[Blk.var false [.int .i64 ps[i].k,.int .i64 ps[i].v,.str ps[i].nm,q1]]++nb (BS ps[i])) ((hI.grow _).grow _) (by simpa using hrd) (nv_sz _ _) (ai _ _) (by decide) (by decide) (by simp[strs];omega);rw[<- X8,<- IU hi]at hacc;simp at hc2 hap;exact .inl ⟨(a',rest'),by simp[f148,hq.len,hi',he,hc2,hap,hw],hacc⟩) (fun b hI=>by
      obtain⟨a,rest⟩:=b;rw[HL]at hI;exact⟨_,_,by simp[f148] <;> first | exact⟨rfl,rfl⟩ | rfl,by simp,(a,rest),rfl,hI⟩) (.AH,[]) (Ai.nil _ _ _)
   obtain⟨⟨a,rest⟩,hq0,i1⟩:=hq0;cases hq0;simp[f148]at hlp;exact MH Qr TX hn (v:=a) (by simp[AJ,f148,k1',hq.len,hlp] <;> rfl) (LV (Ai.close i1) h)
mutual
def shD:Sh->Nat
 | .bit _=>1
 | .cons _ ss=>LW ss+1
def LW:List (List Sh)->Nat
 | []=>0
 | s::r=>max (Ss s) (LW r)
def Ss:List Sh->Nat
 | []=>0
 | x::r=>max (shD x) (Ss r)
end
theorem RV{x:Sh}:∀{s:List Sh},x∈s->shD x<=Ss s
 | y::r,h=>by
  simp only[Ss];rcases Cd.1 h with rfl | h
  .exact HM _ _
  .exact DD (RV h) (Hj _ _)
theorem Lx{x:Sh}{s:List Sh}(hx:x∈s):∀{ss:List (List Sh)},s∈ss->shD x<=LW ss
 | y::r,h=>by
  simp only[LW];rcases Cd.1 h with rfl | h
  .exact DD (RV hx) (HM _ _)
  .exact DD (Lx hx h) (Hj _ _)
def Bv:Nat->(Nat->Prop)->AF->AV->Sh->Prop
 | 0,_,_,_,_=>False
 | n+1,S,H,v,s=>∃ id,v=.hp id 0/\S id/\match s with
  | .bit m=>H[id]? = some (.var false [.int .i64 m,.AH])
  | .cons ns ss=>∃ w es,H[id]? = some (.var false [.int .i64 0,w])/\es.length=ns.length/\ss.length=ns.length/\((w=.sl 2 true es/\∀ p∈ss,p=[])\/∃ j,S j/\w=.hs j es.length 2 0 es.length false/\H[j]? = some (.arr 2 false es)) /\
   ∀(k:Nat) e nm parts,es[k]? = some e->ns[k]? = some nm->ss[k]? = some parts->∃ pv,e=[.str nm,pv]/\Jl (Bv n S H) S H pv parts
theorem Bv.mono:∀(n:Nat) {S S':Nat->Prop} {H H':AF} {v:AV} {s:Sh},Bv n S H v s->(∀ x,S x->S' x)->(∀ x,S x->H'[x]? = H[x]?)->Bv n S' H' v s
 | 0,_,_,_,_,_,_,h,_,_=>h
 | n+1,S,S',H,H',v,.bit m,⟨id,h1,h2,h3⟩,hs,hh=>⟨id,h1,hs id h2,by
  show H'[id]? = _;rw[hh id h2];exact h3⟩
 | n+1,S,S',H,H',v,.cons ns ss,⟨id,h1,h2,w,es,h3,h4,h5,h6,h7⟩,hs,hh=>by
  refine⟨id,h1,hs id h2,w,es,by rw[hh id h2];exact h3,h4,h5,?_,fun k e nm parts a b c => ?_⟩
  .rcases h6 with h | ⟨j,g1,g2,g3⟩
   .exact .inl h
   .exact .inr ⟨j,hs j g1,g2,by rw[hh j g1];exact g3⟩
  .obtain⟨pv,d1,d2⟩:=h7 k e nm parts a b c;exact⟨pv,d1,d2.mono (fun v s h=>Bv.mono n h hs hh) hs hh⟩
theorem Bv.up:∀(n:Nat) {S:Nat->Prop} {H:AF} {v:AV} {s:Sh},Bv n S H v s->Bv (n+1) S H v s
 | 0,_,_,_,_,h=>h.elim
 | n+1,S,H,v,.bit m,h=>h
 | n+1,S,H,v,.cons ns ss,⟨id,h1,h2,w,es,h3,h4,h5,h6,h7⟩=>by
  refine⟨id,h1,h2,w,es,h3,h4,h5,h6,fun k e nm parts a b c => ?_⟩;obtain⟨pv,d1,d2⟩:=h7 k e nm parts a b c;exact⟨pv,d1,d2.mono (fun v s h=>Bv.up n h) (fun _ h=>h) (fun _ _=>rfl)⟩
theorem Bv.le{n m:Nat}{S:Nat->Prop}{H:AF}{v:AV}{s:Sh}(h:Bv n S H v s)(hle:n<=m):Bv m S H v s:=by
 obtain⟨k,rfl⟩:=Nat.le.dest hle;clear hle;induction k with
 | zero=>exact h
 | succ k ih=>exact Bv.up _ ih
theorem Bv.hp{n:Nat}{S:Nat->Prop}{H:AF}{v:AV}{s:Sh}(h:Bv n S H v s):∃ id,v=.hp id 0:=by
 cases n with
 | zero=>exact absurd h (fun h=>h)
 | succ n=>obtain⟨id,h,_⟩:=h;exact⟨id,h⟩
def LX(n:Nat)(Q:Nat->Prop)(lo:Nat)(b:AF)(pv:AV)(parts:List Sh):Prop:=(parts=[]/\pv=.AH)\/∃ q ptrs,parts≠[]/\¬ Q q/\lo<=q/\q<b.length/\pv=.hs q parts.length 1 0 parts.length false/\b[q]? = some (.arr 1 false ptrs)/\ptrs.length=parts.length/\∀(k:Nat) p s,ptrs[k]? = some p->parts[k]? = some s->∃ v,p=[v]/\Bv n Q b v s
theorem LX.cells{n:Nat}{Q:Nat->Prop}{lo:Nat}{b:AF}{pv:AV}{parts:List Sh}(h:LX n Q lo b pv parts):pv.cells=some [pv]:=by
 rcases h with⟨_,rfl⟩ | ⟨q,ptrs,_,_,_,_,rfl,_⟩ <;> rfl
theorem LX.mono{n:Nat}{Q Q':Nat->Prop}{lo:Nat}{b b':AF}{pv:AV}{parts:List Sh}(h:LX n Q lo b pv parts)(hl:b.length<=b'.length)(hQ:∀ x,Q x->Q' x)(hn:∀ x,Q' x->¬ Q x->b.length<=x)(hQb:∀ x,Q x->b'[x]? = b[x]?)(ha:∀ x es,lo<=x->b[x]? = some (.arr 1 false es)->b'[x]? = b[x]?):LX n Q' lo b' pv parts:=by
 rcases h with h | ⟨q,ptrs,h0,h1,h2,h3,h4,h5,h6,h7⟩
 .exact .inl h
 .refine .inr ⟨q,ptrs,h0,fun hq => ?_,h2,by omega,h4,by rw[ha q ptrs h2 h5];exact h5,h6,fun k p s a c => ?_⟩
  .have:=hn q hq h1;omega
  .obtain⟨v,e,f⟩:=h7 k p s a c;exact⟨v,e,Bv.mono n f hQ hQb⟩
theorem LX.push{n:Nat}{Q:Nat->Prop}{lo:Nat}{b:AF}{pv:AV}{parts:List Sh}(h:LX n Q lo b pv parts)(hQ:∀ x,Q x->x<b.length)(hlo:lo<=b.length){v:AV}{s:Sh}(hv:Bv n Q b v s)(hl:parts.length<1048577) :
 ∃ pv' b',apA 1 8 pv (.hs b.length 1 1 0 1 false) (b++[.arr 1 false [[v]]])=some (pv',b')/\pv'.cells=some [pv']/\LX n Q lo b' pv' (parts++[s])/\b.length<=b'.length/\∀ x,x<b.length->b'[x]? = b[x]? \/ ∃ es,b[x]? = some (.arr 1 false es)/\¬ Q x/\lo<=x:=by
 have hrd:A7 (b++[.arr 1 false [[v]]]) (.hs b.length 1 1 0 1 false)=some [[v]]:=by
  simp[A7,A1,A8]
 rcases h with⟨rfl,rfl⟩ | ⟨q,ptrs,h0,h1,h2,h3,rfl,h5,h6,h7⟩
 .refine⟨.hs (b.length+1) 1 1 0 1 false,b++[.arr 1 false [[v]]]++[.arr 1 false [[v]]],?_,rfl,.inr ⟨b.length+1,[[v]],by simp,fun hq => ?_,by omega,by simp,rfl,by simp,rfl,fun k p s' a c => ?_⟩,by simp,fun x hx=> .inl ?_⟩
  .simp[apA,apX,hrd,CC,BM,F6,A3,A1,A8,CM]
  .have:=hQ _ hq;omega
  .match k with
   | 0=>
    simp at a c;subst a;subst c;exact⟨v,rfl,Bv.mono n hv (fun _ h=>h) (fun x hx=>by rw[EM,BA (hQ x hx)])⟩
   | k+1=>simp at a
  .rw[EM,BA hx]
 .have e2:(parts.length+1) * 8<=17592186044416:=by omega
  have e3:parts.length+1<=17592186044416:=by omega
  have h5':(b++[Blk.arr 1 false [[v]]])[q]? = some (.arr 1 false ptrs):=Av h5 _;have hne:∀ x,Q x->q≠x:=fun x hx e=>h1 (e ▸ hx)
  refine⟨.hs q (parts.length+1) 1 0 (parts.length+1) false,(b++[Blk.arr 1 false [[v]]]).set q (Blk.arr 1 false (ptrs++[[v]])),?_,rfl,.inr ⟨q,ptrs++[[v]],by simp,h1,h2,by simp;omega,by simp,ER (by simp;omega),by simp[h6],fun k p s' a c => ?_⟩,by simp,fun x hx => ?_⟩
  .have e4:List.take parts.length ptrs=ptrs:=DC (by omega);simp[apA,apX,hrd,CC,BM,F6,A3,A1,A8,CM,e2,e3,h5',h6,e4]
  .have hpres:∀ x,Q x->((b++[Blk.arr 1 false [[v]]]).set q (.arr 1 false (ptrs++[[v]])))[x]? = b[x]? := fun x hx=>by
    rw[BT (hne x hx),BA (hQ x hx)]
   by_cases hk:k<ptrs.length
   .rw[BA hk]at a;rw[BA (by omega)]at c;obtain⟨w,e,f⟩:=h7 k p s' a c;exact⟨w,e,Bv.mono n f (fun _ h=>h) hpres⟩
   .have hk2:k=ptrs.length:=by
     have:=(Ae.1 a).1;simp at this;omega
    subst hk2;have a':[v]=p:=(by simpa using a);have c':s=s':=(by rw[h6]at c;simpa using c);subst a';subst c';exact⟨v,rfl,Bv.mono n hv (fun _ h=>h) hpres⟩
  .by_cases hxq:q=x
   .subst hxq;exact .inr ⟨ptrs,h5,h1,h2⟩
   .exact .inl (by rw[BT hxq,BA hx])
def mpE(l:List (Bytes×AV)):List (AV×AV):=l.map fun q=>(.str q.1,q.2)
def IW(p:Bytes):List (Bytes×AV)->Option AV
 | []=>none
 | q::r=>if p == q.1 then some q.2 else IW p r
def Ik(p:Bytes)(f:AV):List (Bytes×AV)->List (Bytes×AV)
 | []=>[(p,f)]
 | q::r=>if p == q.1 then(p,f)::r else q::Ik p f r
theorem Nj(p:Bytes):∀ l,G0 (some .string) (.str p) (mpE l)=some (IW p l)
 | []=>rfl
 | q::r=>by
  simp only[mpE,Hk,G0,En,IW];cases h:p == q.1 with
  | true=>rfl
  | false=>exact Nj p r
theorem T8(p:Bytes)(f:AV):∀ l,MJ (some .string) (.str p) f (mpE l)=mpE (Ik p f l)
 | []=>rfl
 | q::r=>by
  simp only[mpE,Hk,MJ,En,Ik];cases h:p == q.1 with
  | true=>rfl
  | false=>exact congrArg _ (T8 p f r)
theorem LY(p:Bytes)(f:AV):∀ l,IW p (Ik p f l)=some f
 | []=>by simp[Ik,IW]
 | q::r=>by
  simp only[Ik];by_cases h:(p == q.1)=true
  .rw[if_pos h];simp[IW]
  .rw[if_neg h];simp only[IW];rw[if_neg h];exact LY p f r
theorem J9{p p':Bytes}(hn:p'≠p)(f:AV):∀ l,IW p' (Ik p f l)=IW p' l
 | []=>by simp[Ik,IW,hn]
 | q::r=>by
  simp only[Ik];by_cases h:(p == q.1)=true
  .rw[if_pos h];have e:=beq_iff_eq.1 h;simp only[IW];rw[if_neg (by simpa using hn),if_neg (by rw[<- e];simpa using hn)]
  .rw[if_neg h];simp only[IW];by_cases h2:(p' == q.1)=true
   .rw[if_pos h2,if_pos h2]
   .rw[if_neg h2,if_neg h2];exact J9 hn f r
theorem Oo(p:Bytes):En (some .string) (.str p) (.str p)=some true:=by simp[En]
theorem Su{H:AF}{id:Nat}{l:List (Bytes×AV)}(h:H[id]? = some (.mp (mpE l))){p:Bytes}{f:AV}(hf:IW p l=some f):lkA (some .string) .Gc (.hm id) (.str p) false H=some f:=by
 simp only[lkA,h,Oo,Nj,hf];rfl
theorem X9{H:AF}{id:Nat}{l:List (Bytes×AV)}(h:H[id]? = some (.mp (mpE l)))(p:Bytes)(f:AV):upA (some .string) (.hm id) (.str p) f H=some (H.set id (.mp (mpE (Ik p f l)))):=by
 simp only[upA,h,Oo,Nj,T8]
def Hy(P:AV->TyV->Prop)(S:Nat->Prop)(H:AF)(pm:AV)(params:List Bytes)(args:List TyV):Prop:=
 params=[]/\pm=.Ga\/∃ id es,S id/\pm=.hm id/\H[id]? = some (.mp (mpE es))/\∀(i:Nat) p t,params[i]? = some p->args[i]? = some t->∃ f,IW p es=some f/\P f t
theorem Hy.mono{P P':AV->TyV->Prop}{S S':Nat->Prop}{H H':AF}{pm:AV}{params:List Bytes}{args:List TyV}(h:Hy P S H pm params args)(hp:∀ f t,P f t->P' f t)(hs:∀ x,S x->S' x)(hh:∀ x,S x->H'[x]? = H[x]?):Hy P' S' H' pm params args:=by
 rcases h with h | ⟨id,es,h1,h2,h3,h4⟩
 .exact .inl h
 .exact .inr ⟨id,es,hs id h1,h2,by rw[hh id h1];exact h3,fun i p t a b=>by
   obtain⟨f,c,d⟩:=h4 i p t a b;exact⟨f,c,hp f t d⟩⟩
theorem Hy.cells{P:AV->TyV->Prop}{S:Nat->Prop}{H:AF}{pm:AV}{params:List Bytes}{args:List TyV}(h:Hy P S H pm params args):pm.cells=some [pm]:=by
 rcases h with⟨_,rfl⟩ | ⟨id,es,_,rfl,_⟩ <;> rfl
def Ep(l:List AK)(lv:AV):Nat->(Nat->Prop)->AF->AV->TyV->Prop
 | 0,_,_,_,_=>False
 | d+1,S,H,f,t=>(t.k=2/\∃ b lk u xs,f=.fn 198 [] [.hp b 0]/\S b/\H[b]? = some (.var lk xs)/\AR u xs/\u.v=t.v) \/
  (t.k=1/\∃ a b c e la lb lc le u xs pm params args,∃(k:Nat) (hk:k<u.ps.length),f=.fn 178 [] [.hp a 0,.hp b 0,.hp c 0,.hp e 0]/\S a/\S b/\S c/\S e/\H[a]? = some (.var la [lv])/\H[b]? = some (.var lb xs)/\AR u xs/\H[c]? = some (.var lc [.int .i64 k])/\H[e]? = some (.var le [pm])/\Hy (Ep l lv d S H) S H pm params args/\Aj l params u.ps[k]=0/\(∀ x∈args,VT l x)/\params.length=args.length/\CT params args u.ps[k]=t)
theorem Ep.mono{l:List AK}{lv:AV}:∀(d:Nat) {S S':Nat->Prop} {H H':AF} {f:AV} {t:TyV},Ep l lv d S H f t->(∀ x,S x->S' x)->(∀ x,S x->H'[x]? = H[x]?)->Ep l lv d S' H' f t
 | 0,_,_,_,_,_,_,h,_,_=>h
 | d+1,S,S',H,H',f,t,h,hs,hh=>by
  rcases h with⟨h0,b,lk,u,xs,h1,h2,h3,h4⟩ | ⟨h0,a,b,c,e,la,lb,lc,le,u,xs,pm,params,args,k,hk,h1,s1,s2,s3,s4,h2,h3,h4,h5,h6,h7,h8⟩
  .exact .inl ⟨h0,b,lk,u,xs,h1,hs b h2,by rw[hh b h2];exact h3,h4⟩
  .exact .inr ⟨h0,a,b,c,e,la,lb,lc,le,u,xs,pm,params,args,k,hk,h1,hs _ s1,hs _ s2,hs _ s3,hs _ s4,by rw[hh _ s1];exact h2,by rw[hh _ s2];exact h3,h4,by rw[hh _ s3];exact h5,by rw[hh _ s4];exact h6,h7.mono (fun f t h=>Ep.mono d h hs hh) hs hh,h8⟩
end
end Go.Proofs.Am12
