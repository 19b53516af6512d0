/- Part 16. -/
import Derived.Test.YtggemipepaajmaaGreatTre15
set_option linter.all false
set_option maxHeartbeats 1000000
namespace Go.Proofs.Am12
open Go Go.Am Tryz
section
attribute [local simp] C7 Br EW DL CG Dd Du Eu BZ Ar Bg Al GV FF EF HE D4 Ax FB EG HF HG xUn E7 D5 FG BF DH BG D6 BH D7 Ce CX Bw BJ EH Ej
 ev evs C4 DE OR.ofV OR.Dz OR.ofC FP Tm.get Tm.init Tm.only A1 A8 CM finish CF DJ HR Dy D3 unA B7 Bb B8 Bc Co Cp Cq Bd Cr Cs Be Ct Cu Bf B9 AL CQ Ba Cm Cn B6 Ev Ew Ey Dv Dw Fl F8 F9 Fm stA Ay Db Bn DI E8 Gt Bs C6 CI FI Gu
attribute [local simp] CJ Bi Bt BN DQ DR DS DT DU DW DX Ec Cg Ed Dh FR FT Gf Di Ee Dj BO Dk BP Dl CD Ef Ch FU FV FW Ci Dm Dn FX Gg FY Gh Gi Dp BQ Cj CE Dq Dr Ck
theorem YA{f:FuncId}{id:Nat}{k v:Int}{s:Bytes}{pv:AV}{h:AF}{b:Bool}{ps:List TyV}(hps:SlR AR 4 ps pv)(hh:h[id]? = some (.var b [.int .i64 k,.int .i64 v,.str s,pv])):snap Ds (.fn f [] [.hp id 0]) h=some (.fn f [] [.ro [.int .i64 k,.int .i64 v,.str s,pv]],h.set id (.var true [.int .i64 k,.int .i64 v,.str s,pv])):=by
 have hpv:=hps.AA;have:BB 9 (.fn f [] [.hp id 0]) h (.fn f [] [.ro [.int .i64 k,.int .i64 v,.str s,pv]]) (h.set id (.var true [.int .i64 k,.int .i64 v,.str s,pv])):=fun n=>by
  rcases hps with⟨_,rfl⟩ | ⟨ex,es,rfl,_⟩ <;> simp[AV.AA]at hpv <;> simp[Am.snap,Am.GS,AG,AV.AA,hh,hpv]
 exact this.at (by decide)
theorem c176{d:AK}{dx:List AV}(hd:Ac d dx)(k v:Int)(s:Bytes)(pv:AV)(h:AF):∃ B,AI MX (AE MX) 176 [.agg dx,.ro [.int .i64 k,.int .i64 v,.str s,pv]] h=some (.ret (.bool (d.nm == s)),h++[B]):=by
 obtain⟨qv,cv,rfl,hp,hc⟩:=hd.dest;refine⟨_,CV W3 Zt (by simp[AJ,f176] <;> first | exact⟨rfl,rfl⟩ | rfl)⟩
theorem t175b{l:List AK}{w:AV}(k v:Int)(s:Bytes)(pv:AV)(hv:SlR Ac 3 l w)(hl:l.length<1048577):∃ G,AJ MX 175 [w,.fn 176 [] [.ro [.int .i64 k,.int .i64 v,.str s,pv]]] []=some (.ret (.int .i64 (ixI (l.findIdx? (fun x:AK=>x.nm == s)))),G):=by
 obtain⟨F,hF⟩:∃ F,F=AV.fn 176 [] [.ro [.int .i64 k,.int .i64 v,.str s,pv]]:=⟨_,rfl⟩;rw[<- hF];obtain⟨e,st,hlp,hq⟩:=AU (M:=MX) (fid:=175) (N:=19) (C:=AE MX) (c:=AL f175 0) (n:=l.length) (fun i (b:AF)=>([(0,w),(1,F),(7,.int .i64 l.length),(8,.int .i64 i)],b)) (fun i _=>∀ j (hj:j<l.length),j<i->(fun x:AK=>x.nm == s) l[j]=false)
  (fun r=>∃ b:AF,(r=(.ext 0,([(0,w),(1,F),(7,.int .i64 l.length),(8,.int .i64 l.length),(9,.bool false)],b))/\l.findIdx? (fun x:AK=>x.nm == s)=none)\/(∃ i:Nat,r=(.ret,([(4,.int .i64 i)],b))/\l.findIdx? (fun x:AK=>x.nm == s)=some i)) (fun i b hi hI=>by
    obtain⟨e,he,hR⟩:=hv.ix hi;have hi':=AZ hi;have hw:=AY hi hl;obtain⟨B,hcall⟩:=c176 hR k v s pv b;obtain⟨qv,cv,rfl,hp,hc⟩:=hR.dest;cases hx:(l[i].nm == s)with
    | true=>rw[hx]at hcall;exact .inr ⟨_,_,by simp[f175,hi',he,hcall,hF] <;> exact⟨rfl,rfl⟩,by simp,b++[B],.inr ⟨i,rfl,Fc (p:=(fun x:AK=>x.nm == s)) hi hI hx⟩⟩
    | false=>rw[hx]at hcall;exact .inl ⟨b++[B],by simp[f175,hi',he,hcall,hw,hF],Ff (p:=(fun x:AK=>x.nm == s)) hi hI hx⟩) (fun b hI=>by
    exact⟨_,_,by simp[f175] <;> exact⟨rfl,rfl⟩,by simp,b,.inl ⟨rfl,Fe (p:=(fun x:AK=>x.nm == s)) fun j hj=>hI j hj hj⟩⟩) [] (fun j _ h0=>by omega)
 simp[f175]at hlp;obtain⟨b,hq⟩:=hq;rcases hq with⟨hq,hs⟩ | ⟨i,hq,hs⟩ <;> cases hq <;> exact⟨b,by simp[AJ,f175,hv.len,hlp,hs,ixI]⟩
theorem c175b{l:List AK}{w:AV}{k v:Int}{s:Bytes}{pv:AV}{ps:List TyV}(hps:SlR AR 4 ps pv)(hv:SlR Ac 3 l w)(hl:l.length<1048577){id:Nat}{b:Bool}{h:AF}(hk:h[id]? = some (.var b [.int .i64 k,.int .i64 v,.str s,pv])):AI MX (AE MX) 175 [w,.fn 176 [] [.hp id 0]] h=some (.ret (.int .i64 (ixI (l.findIdx? (fun x:AK=>x.nm == s)))),h.set id (.var true [.int .i64 k,.int .i64 v,.str s,pv])):=by
 obtain⟨G,hG⟩:=t175b k v s pv hv hl;have hpv:=hps.AA;exact FA (by simp[LG]) (args':=[w,.fn 176 [] [.ro [.int .i64 k,.int .i64 v,.str s,pv]]]) (by simp[A4,hv.AA,YA hps hk,AV.AA,AG]) (by simp[hv.AA,AV.AA,AG,hpv]) (Af LG Ti (by simp[hv.AA,AV.AA,AG,hpv]) rfl hG _)
theorem c198{u:TyV}{xs:List AV}(hu:AR u xs){b:Nat}{lk:Bool}{H:AF}(hb:H[b]? = some (.var lk xs)):AI MX (AE MX) 198 [.hp b 0] H=some (.ret (.hp H.length 0),H++[.var false [.int .i64 u.v,.AH]]):=by
 obtain⟨pv,rfl,hp⟩:=hu.Ab;exact Bj XE Z4 (by simp[AJ,f198,hb])
theorem c179{u:TyV}{xs:List AV}(hu:AR u xs){own:Nat}{es:List (Bytes×AV)}{H:AF}(ho:H[own]? = some (.mp (mpE es)))(p:Bytes)(pm:AV) :
 (u.k=2->AI MX (AE MX) 179 [.hm own,.str p,.agg xs,pm] H=some (.ret (.tup []),(H++[Blk.var false xs]).set own (.mp (mpE (Ik p (.fn 198 [] [.hp H.length 0]) es))))) /\
 (u.k=1->AI MX (AE MX) 179 [.hm own,.str p,.agg xs,pm] H=some (.ret (.tup []),H++[Blk.var false xs])) /\
 (∀ f,u.k=0->lkA (some .string) .Gc pm (.str u.nm) false (H++[Blk.var false xs])=some f->AI MX (AE MX) 179 [.hm own,.str p,.agg xs,pm] H=some (.ret (.tup []),(H++[Blk.var false xs]).set own (.mp (mpE (Ik p f es))))):=by
 obtain⟨pv,rfl,hp⟩:=hu.Ab;have ho':=Av ho [Blk.var false [.int .i64 u.k,.int .i64 u.v,.str u.nm,pv]];have hup:=X9 ho' p;refine⟨fun hk => ?_,fun hk => ?_,fun f hk hf => ?_⟩
 .have h2:(u.k == 2)=true:=by simp[hk]
  exact Bj NP Pr (by simp[AJ,f179,h2,hup])
 .have h2:(u.k == 2)=false:=by simp[hk]
  have h0:(u.k == 0)=false:=by simp[hk]
  exact Bj NP Pr (by simp[AJ,f179,h2,h0])
 .have h2:(u.k == 2)=false:=by simp[hk]
  have h0:(u.k == 0)=true:=by simp[hk]
  exact Bj NP Pr (by simp[AJ,f179,h2,h0,hf,hup])
theorem c177{u:TyV}{xs:List AV}(hu:AR u xs){pm:AV}{H:AF}:(u.k≠0->AI MX (AE MX) 177 [.agg xs,pm] H=some (.ret (.int .i64 u.v),H++[Blk.var false xs])) /\
 (∀ f b r m w H',u.k=0->f=.fn 198 [] [.hp b 0]->lkA (some .string) .Gc pm (.str u.nm) false (H++[Blk.var false xs])=some f->AI MX (AE MX) 198 [.hp b 0] (H++[Blk.var false xs])=some (.ret (.hp r 0),H')->H'[r]? = some (.var false [.int .i64 m,w])->AI MX (AE MX) 177 [.agg xs,pm] H=some (.ret (.int .i64 m),H')):=by
 obtain⟨pv,rfl,hp⟩:=hu.Ab;refine⟨fun hk => ?_,fun f b r m w H' hk hf hl hc hr => ?_⟩
 .have hk':(u.k == 0)=false:=by simp[hk]
  exact Bj Q3 Tj (by simp[AJ,f177,hk'])
 .have h0:(u.k == 0)=true:=by simp[hk]
  subst hf;exact Bj Q3 Tj (by simp[AJ,f177,h0,hl,hc,hr])
def Oq(l:List AK)(lv:AV)(d:Nat)(t:TyV)(s:Sh):Prop:=∀(u:TyV) (xs:List AV) (params:List Bytes) (args:List TyV) (pm:AV) (S:Nat->Prop) (H:AF),AR u xs->Aj l params u=0->(∀ a∈args,VT l a)->params.length=args.length->CT params args u=t->(∀ x,S x->x<H.length)->Hy (Ep l lv d S H) S H pm params args ->
 ∃ v H',AI MX (AE MX) 144 [lv,.agg xs,pm] H=some (.ret v,H')/\H.length<=H'.length/\(∀ x,x<H.length->H'[x]? = H[x]?)/\Bv (shD s) (fun x=>H.length<=x/\x<H'.length) H' v s
section
variable{l:List AK}{lv:AV}(hl:SlR Ac 3 l lv)
include hl
theorem c178{d:Nat}{t:TyV}{s:Sh}(ih:Oq l lv d t s){S:Nat->Prop}{H:AF}(hS:∀ x,S x->x<H.length){a b c e:Nat}{la lb lc le:Bool}{u:TyV}{xs:List AV}{pm:AV}{params:List Bytes}{args:List TyV}{k:Nat}(hk:k<u.ps.length)(h2:H[a]? = some (.var la [lv]))(h3:H[b]? = some (.var lb xs))(h4:AR u xs)(h5:H[c]? = some (.var lc [.int .i64 k]))(h6:H[e]? = some (.var le [pm]))(h7:Hy (Ep l lv d S H) S H pm params args)(h8:Aj l params u.ps[k]=0)(h9:∀ x∈args,VT l x)(h10:params.length=args.length)(h11:CT params args u.ps[k]=t) :
 ∃ v H',AI MX (AE MX) 178 [.hp a 0,.hp b 0,.hp c 0,.hp e 0] H=some (.ret v,H')/\H.length<=H'.length/\(∀ x,x<H.length->H'[x]? = H[x]?)/\Bv (shD s) (fun x=>H.length<=x/\x<H'.length) H' v s:=by
 obtain⟨pv,rfl,hp⟩:=h4.Ab;obtain⟨fe,hfe,hR⟩:=hp.ix hk;obtain⟨v,H',q1,q2,q3,q4⟩:=ih u.ps[k] fe params args pm S H hR h8 h9 h10 h11 hS h7;obtain⟨qv,rfl,hq⟩:=hR.Ab;have hb:=VL;simp[Aa,An,f178]at hb;exact⟨v,H',Bj W4 Zu (by simp[AJ,f178,h2,h3,h5,h6,Ak h2,Ak h3,Ak h5,Ak h6,hfe,q1,hb]),q2,q3,q4⟩
theorem YB{d:Nat}{t:TyV}{s:Sh}(ht:t.k=1)(ih:∀ d',d'<d->Oq l lv d' t s){u:TyV}{xs:List AV}{params:List Bytes}{args:List TyV}{pm:AV}{S:Nat->Prop}{H:AF}(hu:AR u xs)(hk:u.k=0)(hv:Aj l params u=0)(hln:params.length=args.length)(hr:CT params args u=t)(hS:∀ x,S x->x<H.length)(hE:Hy (Ep l lv d S H) S H pm params args) :
 ∃ v H',AI MX (AE MX) 144 [lv,.agg xs,pm] H=some (.ret v,H')/\H.length<=H'.length/\(∀ x,x<H.length->H'[x]? = H[x]?)/\Bv (shD s) (fun x=>H.length<=x/\x<H'.length) H' v s:=by
 obtain⟨i,hi,hp,hti⟩:∃ i,∃ hi:i<params.length,params[i]=u.nm/\args[i]'(by omega)=t:=by
  cases u with
  | mk k v nm ps=>
   have hk:k=0:=hk;subst hk;rw[CB]at hv;have hne:=hv.2.1 rfl;cases hf:params.findIdx? (fun x=>x == nm)with
   | none=>exact absurd hf hne
   | some i=>
    have hil:=G8 hf;have hnm:params[i]=nm:=by
     have h3:=hf;rw[I8]at h3;exact beq_iff_eq.1 h3.2.1
    refine⟨i,hil,hnm,?_⟩;rw[<- hr];simp only[CT,if_true,hf];rw[Ko,AW (by omega)];rfl
 have hcp:=hE.cells;rcases hE with⟨h0,_⟩ | ⟨id,es,hid,rfl,hmp,hfn⟩
 .rw[h0]at hi;cases hi
 obtain⟨f,hf,hC⟩:=hfn i _ _ (AW hi) (AW (by omega));rw[hp]at hf;rw[hti]at hC;obtain⟨pv,rfl,hpv⟩:=hu.Ab;let T:=[Blk.var false [lv],.var false [.int .i64 u.k,.int .i64 u.v,.str u.nm,pv],.var false [.hm id]];have hS':∀ x,S x->x<(H++T).length:=fun x hx=>by have:=hS x hx;simp;omega
 have hX:∀ x,S x->(H++T)[x]? = H[x]? := fun x hx=>BA (hS x hx)
 have hC':=Ep.mono d hC (fun _ h=>h) hX;have hlk:=Su (Av hmp T) hf;cases d with
 | zero=>exact hC.elim
 | succ d=>
  rcases hC' with⟨h2,_⟩ | ⟨_,a,b,c,e,la,lb,lc,le,u',xs',pm',params',args',k,hk',rfl,s1,s2,s3,s4,g2,g3,g4,g5,g6,g7,g8,g9,g10,g11⟩
  .omega
  obtain⟨v,H',q1,q2,q3,q4⟩:=c178 hl (ih d (by omega)) hS' hk' g2 g3 g4 g5 g6 g7 g8 g9 g10 g11;have h0:(u.k == 0)=true:=by simp[hk]
  simp only[T]at hlk q1;refine⟨v,H',Bj LC MY ?_,by simp at q2;omega,fun x hx => ?_,Bv.mono _ q4 (fun x hx=>⟨by have:=hx.1;simp at this;omega,hx.2⟩) (fun _ _=>rfl)⟩
  .simp[AJ,f144,hl.cells,h0,hlk,q1]
  .rw[q3 x (by simp;omega)];exact BA hx
theorem YC(hll:l.length<1048577){u:TyV}{pv pm:AV}(hp:SlR AR 4 u.ps pv)(H:AF):AI MX (AE MX) 175 [lv,.fn 176 [] [.hp (H.length+1) 0]] (H++[Blk.var false [lv],.var false [.int .i64 u.k,.int .i64 u.v,.str u.nm,pv],.var false [pm]])=some (.ret (.int .i64 (ixI (l.findIdx? (fun x:AK=>x.nm == u.nm)))),H++[Blk.var false [lv],.var true [.int .i64 u.k,.int .i64 u.v,.str u.nm,pv],.var false [pm]]):=by
 have:=c175b (w:=lv) hp hl hll (id:=H.length+1) (b:=false) (h:=H++[Blk.var false [lv],.var false [.int .i64 u.k,.int .i64 u.v,.str u.nm,pv],.var false [pm]]) (k:=u.k) (v:=u.v) (s:=u.nm) (by simp);rw[this]
 congr 2
 simp
theorem eQ(hll:l.length<1048577){d:Nat}{t:TyV}{u:TyV}{xs:List AV}{params:List Bytes}{args:List TyV}{pm:AV}{S:Nat->Prop}{H:AF}(hu:AR u xs)(hk:u.k=1)(hb:u.nm=DM)(hv:Aj l params u=0)(hln:params.length=args.length)(hr:CT params args u=t)(h2:(Bu t).k=2)(hS:∀ x,S x->x<H.length)(hE:Hy (Ep l lv d S H) S H pm params args) :
 ∃ v H',AI MX (AE MX) 144 [lv,.agg xs,pm] H=some (.ret v,H')/\H.length<=H'.length/\(∀ x,x<H.length->H'[x]? = H[x]?)/\Bv (shD (.bit (Bu t).v)) (fun x=>H.length<=x/\x<H'.length) H' v (.bit (Bu t).v):=by
 have hcp:=hE.cells;obtain⟨pv,rfl,hpv⟩:=hu.Ab;have h175:=YC hl hll (pm:=pm) hpv H;have hb5:=VB;simp[Aa,An,f144]at hb5;have hlen:0<u.ps.length:=by
  cases u with
  | mk k v nm ps=>
   have hk:k=1:=hk;have hb:nm=DM:=hb;subst hk;subst hb;rw[CB]at hv;have:=hv.2.2.1;simp only[EK,if_true,beq_self_eq_true]at this;have:=Option.some.inj this;show 0<ps.length;omega
 have harg:Bu t=CT params args u.ps[0]:=by
  cases u with
  | mk k v nm ps=>
   have hk:k=1:=hk;subst hk;rw[<- hr];have hlen:0<ps.length:=hlen;have h1:¬ ((1:Int)=0):=(by decide);simp only[CT,h1,if_false,FM];show(ps.map (CT params args)).getD 0 default=_;rw[Ko,AW (by simpa using hlen),List.getElem_map];rfl
 have ha0:Aj l params u.ps[0]=0:=by
  cases u with
  | mk k v nm ps=>
   rw[CB]at hv;exact hv.2.2.2.2 _ (Ap hlen)
 obtain⟨fe,hfe,hR⟩:=hpv.ix hlen;have hfe0:ixA 4 pv (.int .i64 (0:Int))=some (.ro fe):=hfe .i64;obtain⟨a,ha⟩:∃ a,a=u.ps[0]:=⟨_,rfl⟩;rw[<- ha]at harg ha0 hR;let T:=[Blk.var false [lv],.var true [.int .i64 u.k,.int .i64 u.v,.str u.nm,pv],.var false [pm]];obtain⟨X,h177⟩:∃ X,AI MX (AE MX) 177 [.agg fe,pm] (H++T)=some (.ret (.int .i64 (Bu t).v),H++(T++X)):=by
  by_cases hka:a.k=0
  ·-- a parameter
   obtain⟨i,hi,hp,hti⟩:∃ i,∃ hi:i<params.length,params[i]=a.nm/\args[i]'(by omega)=Bu t:=by
    cases a with
    | mk k v nm ps=>
     have hka:k=0:=hka;subst hka;rw[CB]at ha0;have hne:=ha0.2.1 rfl;cases hf:params.findIdx? (fun x=>x == nm)with
     | none=>exact absurd hf hne
     | some i=>
      have hil:=G8 hf;have hnm:params[i]=nm:=by
       have h3:=hf;rw[I8]at h3;exact beq_iff_eq.1 h3.2.1
      refine⟨i,hil,hnm,?_⟩;rw[harg];simp only[CT,if_true,hf];rw[Ko,AW (by omega)];rfl
   rcases hE with⟨h0,_⟩ | ⟨id,es,hid,rfl,hmp,hfn⟩
   .rw[h0]at hi;cases hi
   obtain⟨f,hf,hC⟩:=hfn i _ _ (AW hi) (AW (by omega));rw[hp]at hf;rw[hti]at hC;cases d with
   | zero=>exact hC.elim
   | succ d=>
    rcases hC with⟨_,b,lk,u',xs',rfl,s1,g1,g2,g3⟩ | ⟨h1,_⟩
    .have hlk:=Su (Av (Av hmp T) [Blk.var false fe]) hf;have g1':=Av (Av g1 T) [Blk.var false fe];have h198:=c198 g2 g1';have h177:=(c177 hR (pm:=.hm id) (H:=H++T)).2 _ b _ u'.v .AH _ hka rfl hlk h198 (by simp);rw[g3]at h177;exact⟨[Blk.var false fe,.var false [.int .i64 (Bu t).v,.AH]],by rw[h177];simp⟩
    .omega
  .have h177:=(c177 hR (pm:=pm) (H:=H++T)).1 hka;have hva:(Bu t).v=a.v:=by
    rw[harg];cases a with
    | mk k v nm ps=>
     have hka:¬ k=0:=hka;simp only[CT,hka,if_false];rfl
   rw[<- hva]at h177;exact⟨[Blk.var false fe],by rw[h177];simp⟩
 simp only[T]at h177;obtain⟨qv,rfl,hq⟩:=hR.Ab;have h0:(u.k == 0)=false:=by simp[hk]
 have hbn:(u.nm == [66,105,116])=true:=by rw[hb];rfl
 refine⟨.hp (H.length+(T++X).length) 0,H++(T++X)++[Blk.var false [.int .i64 (Bu t).v,.AH]],Bj LC MY ?_,by simp,fun x hx => ?_,?_⟩
 .simp only[T];simp at h177;simp[AJ,f144,hl.cells,hcp,h0,hbn,h175,hfe0,h177,hb5,Kv]
 .rw[EM];exact BA hx
 .refine⟨_,rfl,⟨by omega,by simp⟩,?_⟩;rw[EL (by simp)];simp
end
theorem Ep.up{l:List AK}{lv:AV}:∀(d:Nat) {S:Nat->Prop} {H:AF} {f:AV} {t:TyV},Ep l lv d S H f t->Ep l lv (d+1) S H f t
 | 0,_,_,_,_,h=>h.elim
 | d+1,S,H,f,t,h=>by
  rcases h with h | ⟨h0,a,b,c,e,la,lb,lc,le,u,xs,pm,params,args,k,hk,h1,s1,s2,s3,s4,h2,h3,h4,h5,h6,h7,h8⟩
  .exact .inl h
  .exact .inr ⟨h0,a,b,c,e,la,lb,lc,le,u,xs,pm,params,args,k,hk,h1,s1,s2,s3,s4,h2,h3,h4,h5,h6,h7.mono (fun f t h=>Ep.up d h) (fun _ h=>h) (fun _ _=>rfl),h8⟩
theorem YD{X Y:AF}{n:Nat}(A B:Blk)(hn:n<X.length):(X.set n A++Y).set n B=(X++Y).set n B:=by
 rw[<- Ml _ _ hn,List.set_set]
theorem YE{X Y:AF}{n:Nat}(A:Blk)(hn:n<X.length):X.set n A++Y=(X++Y).set n A:=by
 rw[Ml _ _ hn]
structure PI(l:List AK)(lv:AV)(d:Nat)(H:AF)(u:TyV)(pv pm:AV)(params:List Bytes)(args:List TyV)(ps:List Bytes)(j:Nat)(b:AF)(es:List (Bytes×AV)):Prop where
 old:∀ x,x<H.length->b[x]? = H[x]?
 ba:b[H.length]? = some (.var false [lv])
 bb:b[H.length+1]? = some (.var true [.int .i64 u.k,.int .i64 u.v,.str u.nm,pv])
 be:b[H.length+2]? = some (.var false [pm])
 bo:b[H.length+3]? = some (.mp (mpE es))
 le:H.length+4<=b.length
 ent:∀(m:Nat) p t,m<j->ps[m]? = some p->u.ps[m]? = some t->∃ f,IW p es=some f/\Ep l lv (d+1) (fun x=>x<b.length/\x≠H.length+3) b f (CT params args t)
theorem PI.step{l:List AK}{lv:AV}{d:Nat}{H:AF}{u:TyV}{pv pm:AV}{params:List Bytes}{args:List TyV}{ps:List Bytes}{j:Nat}{b:AF}{es es':List (Bytes×AV)}(h:PI l lv d H u pv pm params args ps j b es)(hnd:ps.Nodup){p:Bytes}{t:TyV}(hp:ps[j]? = some p)(ht:u.ps[j]? = some t){X:AF}(he:∀ q,q≠p->IW q es'=IW q es)
 (hf:∃ f,IW p es'=some f/\Ep l lv (d+1) (fun x=>x<(b++X).length/\x≠H.length+3) ((b++X).set (H.length+3) (.mp (mpE es'))) f (CT params args t)):PI l lv d H u pv pm params args ps (j+1) ((b++X).set (H.length+3) (.mp (mpE es'))) es':=by
 have hle:=h.le;have hk:∀ x,x<b.length->x≠H.length+3->((b++X).set (H.length+3) (.mp (mpE es')))[x]? = b[x]? := fun x h1 h2=>by
  rw[BT (fun e=>h2 e.symm),BA h1]
 refine⟨fun x hx=>by rw[hk x (by omega) (by omega)];exact h.old x hx,by rw[hk _ (by omega) (by omega)];exact h.ba,by rw[hk _ (by omega) (by omega)];exact h.bb,by rw[hk _ (by omega) (by omega)];exact h.be,ER (by simp;omega),by simp;omega,fun m p' t' hm h1 h2 => ?_⟩;by_cases hmj:m=j
 .subst hmj;rw[hp]at h1;cases h1;rw[ht]at h2;cases h2;obtain⟨f,f1,f2⟩:=hf;exact⟨f,f1,Ep.mono _ f2 (fun x hx=>⟨by rw[Fy];exact hx.1,hx.2⟩) (fun _ _=>rfl)⟩
 .obtain⟨f,f1,f2⟩:=h.ent m p' t' (by omega) h1 h2;have hne:p'≠p:=fun e=>by
   subst e;obtain⟨a1,a2⟩:=Ae.1 h1;obtain⟨b1,b2⟩:=Ae.1 hp;exact Mf.1 hnd m j a1 b1 (by omega) (a2.trans b2.symm)
  exact⟨f,by rw[he p' hne];exact f1,Ep.mono _ f2 (fun x hx=>⟨by simp;have:=hx.1;omega,hx.2⟩) (fun x hx=>hk x hx.1 hx.2)⟩
section
variable{l:List AK}{lv:AV}(hl:SlR Ac 3 l lv)
include hl
theorem params144{d:Nat}{H:AF}{u:TyV}{pv pm:AV}(hu:AR u [.int .i64 u.k,.int .i64 u.v,.str u.nm,pv])(hpv:SlR AR 4 u.ps pv){params:List Bytes}{args:List TyV}{S:Nat->Prop}(hS:∀ x,S x->x<H.length)(hE:Hy (Ep l lv d S H) S H pm params args)(hua:∀ t∈u.ps,Aj l params t=0)(hva:∀ a∈args,VT l a)(hln:params.length=args.length)
 {ps:List Bytes} {qv:AV} (hq:SlR Cv 1 ps qv) (hnd:ps.Nodup) (hps:ps.length=u.ps.length) (hpl:ps.length<1048577) {i:Nat} :
 ∃(b:AF) (es:List (Bytes×AV)),EV MX 144 118 (AE MX) (AL f144 0) ([(3,.hp H.length 0),(4,.hp (H.length+1) 0),(5,.hp (H.length+2) 0),(7,.int .i64 i),(8,.hm (H.length+3)),(53,qv),(54,.int .i64 ps.length),(55,.int .i64 (0:Nat))],H++[Blk.var false [lv],.var true [.int .i64 u.k,.int .i64 u.v,.str u.nm,pv],.var false [pm],.mp []]) =
  some (.ext 1,([(3,.hp H.length 0),(4,.hp (H.length+1) 0),(5,.hp (H.length+2) 0),(7,.int .i64 i),(8,.hm (H.length+3)),(53,qv),(54,.int .i64 ps.length),(55,.int .i64 ps.length),(56,.bool false)],b))/\PI l lv d H u pv pm params args ps ps.length b es:=by
 have hb13:=SL;simp[Aa,An,f144]at hb13;obtain⟨e,st,hlp,hq'⟩:=AU (M:=MX) (fid:=144) (N:=118) (C:=AE MX) (c:=AL f144 0) (n:=ps.length)
  (fun j (b:AF×List (Bytes×AV))=>([(3,.hp H.length 0),(4,.hp (H.length+1) 0),(5,.hp (H.length+2) 0),(7,.int .i64 i),(8,.hm (H.length+3)),(53,qv),(54,.int .i64 ps.length),(55,.int .i64 j)],b.1))
  (fun j b=>PI l lv d H u pv pm params args ps j b.1 b.2)
  (fun r=>∃ b:AF×List (Bytes×AV),r=(.ext 1,([(3,.hp H.length 0),(4,.hp (H.length+1) 0),(5,.hp (H.length+2) 0),(7,.int .i64 i),(8,.hm (H.length+3)),(53,qv),(54,.int .i64 ps.length),(55,.int .i64 ps.length),(56,.bool false)],b.1))/\PI l lv d H u pv pm params args ps ps.length b.1 b.2) (fun j b hj hI=>by
    obtain⟨b,es⟩:=b;have hI:PI l lv d H u pv pm params args ps j b es:=hI;have hj':=AZ hj;have hw:=AY hj hpl;obtain⟨pe,hpe,hpR⟩:=hq.ix hj;have hpR:pe=[.str ps[j]]:=hpR;subst hpR;have hju:j<u.ps.length:=(by omega);obtain⟨fe,hfe,hfR⟩:=hpv.ix hju;have hle:=hI.le;have hn0:=hua _ (Ap hju);let F:=AV.fn 178 [] [.hp H.length 0,.hp (H.length+1) 0,.hp b.length 0,.hp (H.length+2) 0];let b1:=(b++[Blk.var false [.int .i64 j]]).set (H.length+3) (.mp (mpE (Ik ps[j] F es)));have hup:=X9 (Av hI.bo [Blk.var false [.int .i64 j]]) ps[j] F;have hb1:b1[H.length+3]? = some (.mp (mpE (Ik ps[j] F es))):=ER (by simp;omega);have hk1:∀ x,x<b.length->x≠H.length+3->b1[x]? = b[x]? := fun x h1 h2=>by
     show((b++_).set _ _)[x]? = _;rw[BT (fun e=>h2 e.symm),BA h1]
    have hbb1:b1[H.length+1]? = some (.var true [.int .i64 u.k,.int .i64 u.v,.str u.nm,pv]):=(by rw[hk1 _ (by omega) (by omega)];exact hI.bb);have hbe1:b1[H.length+2]? = some (.var false [pm]):=(by rw[hk1 _ (by omega) (by omega)];exact hI.be);have hbn1:b1[b.length]? = some (.var false [.int .i64 j]):=by
     show((b++_).set _ _)[b.length]? = _;rw[BT (by omega)];simp
    have hb1l:b1.length=b.length+1:=(by simp[b1]);obtain⟨es',h179,hne,hff⟩:∃ es',AI MX (AE MX) 179 [.hm (H.length+3),.str ps[j],.agg fe,pm] b1=some (.ret (.tup []),(b++[Blk.var false [.int .i64 j],.var false fe]).set (H.length+3) (.mp (mpE es')))/\(∀ q,q≠ps[j]->IW q es'=IW q es) /\
     ∃ f,IW ps[j] es'=some f/\Ep l lv (d+1) (fun x=>x<(b++[Blk.var false [.int .i64 j],.var false fe]).length/\x≠H.length+3) ((b++[Blk.var false [.int .i64 j],.var false fe]).set (H.length+3) (.mp (mpE es'))) f (CT params args u.ps[j]):=by
     obtain⟨n2,n1,n0⟩:=c179 hfR hb1 ps[j] pm;have hset:∀ es'',(b1++[Blk.var false fe]).set (H.length+3) (.mp (mpE es''))=(b++[Blk.var false [.int .i64 j],.var false fe]).set (H.length+3) (.mp (mpE es'')):=fun es''=>by
      show((b++_).set _ _++_).set _ _=_;rw[YD _ _ (by simp;omega)];simp
     have hkk:∀ es'' x,x<b.length->x≠H.length+3->((b++[Blk.var false [.int .i64 j],.var false fe]).set (H.length+3) (.mp (mpE es'')))[x]? = b[x]? := fun es'' x h1 h2=>by
      rw[BT (fun e=>h2 e.symm),BA h1]
     have hkH:∀ es'' x,S x->((b++[Blk.var false [.int .i64 j],.var false fe]).set (H.length+3) (.mp (mpE es'')))[x]? = H[x]? := fun es'' x hx=>by
      have:=hS x hx;rw[hkk es'' x (by omega) (by omega)];exact hI.old x (hS x hx)
     have hSS:∀ x,S x->x<(b++[Blk.var false [.int .i64 j],.var false fe]).length/\x≠H.length+3:=fun x hx=>by
      have:=hS x hx;simp;omega
     have hkind:(u.ps[j].k=0\/u.ps[j].k=1\/u.ps[j].k=2)/\(u.ps[j].k≠0->(CT params args u.ps[j]).k=u.ps[j].k/\(CT params args u.ps[j]).v=u.ps[j].v):=by
      generalize u.ps[j]=t at hn0;cases t with
      | mk k v nm qs=>
       rw[CB]at hn0;refine⟨?_,fun h => ?_⟩
       .show k=0\/k=1\/k=2;have:=hn0.1;omega
       .have h:¬ k=0:=h;simp only[CT,h,if_false];exact⟨rfl,rfl⟩
     obtain⟨hk3,hkv⟩:=hkind;rcases hk3 with hk | hk | hk
     ·-- a parameter
      obtain⟨i',hi',hp',hti⟩:∃ i',∃ hi:i'<params.length,params[i']=u.ps[j].nm/\args[i']'(by omega)=CT params args u.ps[j]:=by
       generalize u.ps[j]=t at hn0 hk;cases t with
       | mk k v nm qs=>
        have hk:k=0:=hk;subst hk;rw[CB]at hn0;have hne:=hn0.2.1 rfl;cases hf:params.findIdx? (fun x=>x == nm)with
        | none=>exact absurd hf hne
        | some i=>
         have hil:=G8 hf;have hnm:params[i]=nm:=by
          have h3:=hf;rw[I8]at h3;exact beq_iff_eq.1 h3.2.1
         refine⟨i,hil,hnm,?_⟩;simp only[CT,if_true,hf];rw[Ko,AW (by omega)];rfl
      rcases hE with⟨h0,_⟩ | ⟨id,es0,hid,rfl,hmp,hfn⟩
      .rw[h0]at hi';cases hi'
      obtain⟨f,hf,hC⟩:=hfn i' _ _ (AW hi') (AW (by omega));rw[hp']at hf;rw[hti]at hC;have hidl:=hS id hid;have hmp1:(b1++[Blk.var false fe])[id]? = some (.mp (mpE es0)):=by
       rw[BA (by omega),hk1 id (by omega) (by omega),hI.old id hidl];exact hmp
      refine⟨Ik ps[j] f (Ik ps[j] F es),by rw[n0 f hk (Su hmp1 hf),hset],fun q hq=>by rw[J9 hq,J9 hq],f,LY _ _ _,?_⟩;exact Ep.up d (Ep.mono d hC hSS (hkH _))
     ·-- a thunk
      refine⟨Ik ps[j] F es,by
       rw[n1 hk];show some (_,(b++_).set _ _++_)=_;rw[YE _ (by simp;omega)];simp,fun q hq=>J9 hq _ _,F,LY _ _ _,.inr ⟨by rw[(hkv (by omega)).1];exact hk,H.length,H.length+1,b.length,H.length+2,false,true,false,false,u,_,pm,params,args,j,hju,rfl,⟨by simp;omega,by omega⟩,⟨by simp;omega,by omega⟩,⟨by simp,by omega⟩,⟨by simp;omega,by omega⟩,by rw[hkk _ _ (by omega) (by omega)];exact hI.ba,by rw[hkk _ _ (by omega) (by omega)];exact hI.bb,?_,by rw[BT (by omega)];simp,by rw[hkk _ _ (by omega) (by omega)];exact hI.be,hE.mono (fun f t h=>Ep.mono d h hSS (hkH _)) hSS (hkH _),hn0,hva,hln,rfl⟩⟩
      exact hu
     ·-- a number
      refine⟨Ik ps[j] (.fn 198 [] [.hp b1.length 0]) (Ik ps[j] F es),by rw[n2 hk,hset],fun q hq=>by rw[J9 hq,J9 hq],_,LY _ _ _,.inl ⟨by rw[(hkv (by omega)).1];exact hk,b1.length,false,u.ps[j],fe,rfl,⟨by rw[hb1l];simp,by omega⟩,?_,hfR,(hkv (by omega)).2.symm⟩⟩;rw[hb1l,BT (by omega)];simp
    refine .inl ⟨((b++[Blk.var false [.int .i64 j],.var false fe]).set (H.length+3) (.mp (mpE es')),es'),?_,hI.step hnd (AW hj) (AW hju) hne hff⟩;simp only[F]at hup;have hcp:=hE.cells;obtain⟨tv,rfl,htv⟩:=hfR.Ab;obtain⟨G,hG⟩:∃ G,G=b1:=⟨_,rfl⟩;have hG':(b++[Blk.var false [.int .i64 j]]).set (H.length+3) (.mp (mpE (Ik ps[j] (.fn 178 [] [.hp H.length 0,.hp (H.length+1) 0,.hp b.length 0,.hp (H.length+2) 0]) es)))=G:=hG.symm;rw[hG']at hup;rw[<- hG]at h179 hbb1 hbe1 hbn1;simp[f144,hj',hpe,hup,hw,hb13,hbb1,hbe1,hbn1,Ak hbb1,Ak hbe1,Ak hbn1,hfe,h179]) (fun b hI=>by
    exact⟨_,_,by simp[f144] <;> first | exact⟨rfl,rfl⟩ | rfl,by simp,b,rfl,hI⟩) (H++[Blk.var false [lv],.var true [.int .i64 u.k,.int .i64 u.v,.str u.nm,pv],.var false [pm],.mp []],[]) ⟨fun x hx=>BA hx,by simp,by simp,by simp,by simp[mpE],by simp,fun m p t h=>by omega⟩
 obtain⟨⟨b,es⟩,hq',hI⟩:=hq';cases hq';exact⟨b,es,hlp,hI⟩
end
def I2(N:Nat)(Q:Nat->Prop)(b:AF)(w:AV)(ns:List Bytes)(ss:List (List Sh))(k lo:Nat):Prop:=(k=0/\w=.AH)\/∃ q es,k≠0/\¬ Q q/\lo<q/\q<b.length/\w=.hs q k 2 0 k false/\b[q]? = some (.arr 2 false es)/\es.length=k/\∀(i:Nat) e nm parts,es[i]? = some e->ns[i]? = some nm->ss[i]? = some parts->∃ pv,e=[.str nm,pv]/\Jl (Bv N Q b) Q b pv parts
theorem I2.cells{N:Nat}{Q:Nat->Prop}{b:AF}{w:AV}{ns:List Bytes}{ss:List (List Sh)}{k lo:Nat}(h:I2 N Q b w ns ss k lo):w.cells=some [w]:=by
 rcases h with⟨_,rfl⟩ | ⟨q,es,_,_,_,_,rfl,_⟩ <;> rfl
theorem I2.mono{N:Nat}{Q Q':Nat->Prop}{b b':AF}{w:AV}{ns:List Bytes}{ss:List (List Sh)}{k lo:Nat}(h:I2 N Q b w ns ss k lo)(hl:b.length<=b'.length)(hQ:∀ x,Q x->Q' x)(hn:∀ x es,Q' x->¬ Q x->b[x]? = some (.arr 2 false es)->False)(hQb:∀ x,Q x->b'[x]? = b[x]?)(ha:∀ x es,lo<x->b[x]? = some (.arr 2 false es)->b'[x]? = b[x]?):I2 N Q' b' w ns ss k lo:=by
 rcases h with h | ⟨q,es,h0,h1,h2,h3,h4,h5,h6,h7⟩
 .exact .inl h
 .refine .inr ⟨q,es,h0,fun hq=>hn q es hq h1 h5,h2,by omega,h4,by rw[ha q es h2 h5];exact h5,h6,fun i e nm parts a c d => ?_⟩;obtain⟨pv,e1,e2⟩:=h7 i e nm parts a c d;exact⟨pv,e1,e2.mono (fun v s hv=>Bv.mono N hv hQ hQb) hQ hQb⟩
theorem I2.push{N:Nat}{Q:Nat->Prop}{b b1:AF}{w x:AV}{ns:List Bytes}{ss:List (List Sh)}{k lo:Nat}(h:I2 N Q b w ns ss k lo)(hQ:∀ x,Q x->x<b.length)(hlo:lo<b.length){nm:Bytes}{pv:AV}{parts:List Sh}(hx:b1=b/\x=.sl 2 true [[.str nm,pv]]\/b1=b++[.arr 2 false [[.str nm,pv]]]/\x=.hs b.length 1 2 0 1 false)(hk:ns[k]? = some nm)(hs:ss[k]? = some parts)(hp:Jl (Bv N Q b) Q b pv parts)(hkl:k<1048577) :
 ∃ w' b',apA 2 40 w x b1=some (w',b')/\w'.cells=some [w']/\I2 N Q b' w' ns ss (k+1) lo/\b.length<=b'.length/\∀ y,y<b.length->b'[y]? = b[y]? \/ ∃ es,b[y]? = some (.arr 2 false es)/\¬ Q y/\lo<y:=by
 have hrd:A7 b1 x=some [[.str nm,pv]]:=by
  rcases hx with⟨rfl,rfl⟩ | ⟨rfl,rfl⟩
  .rfl
  .simp[A7,A1,A8]
 have hsz:CC 2 x=true:=by rcases hx with⟨_,rfl⟩ | ⟨_,rfl⟩ <;> simp[CC,BM]
 have hnx:∀ s,x≠.str s:=fun s e=>by rcases hx with⟨_,h⟩ | ⟨_,h⟩ <;> rw[h]at e <;> cases e
 have hap:∀ n,F6 w=some n->apA 2 40 w x b1=apX 2 40 w [[.str nm,pv]] n b1:=fun n hn=>by
  unfold apA;cases x with
  | str s=>exact absurd rfl (hnx s)
  | _=>first | simp only[hsz,hrd,hn] | (simp only[A7]at hrd;cases hrd)
 have hb1:b.length<=b1.length/\∀ y,y<b.length->b1[y]? = b[y]? := by
  rcases hx with⟨rfl,_⟩ | ⟨rfl,_⟩
  .exact⟨CZ _,fun _ _=>rfl⟩
  .exact⟨by simp,fun y hy=>BA hy⟩
 obtain⟨hb1l,hb1e⟩:=hb1;rcases h with⟨rfl,rfl⟩ | ⟨q,es,h0,h1,h2,h3,rfl,h5,h6,h7⟩
 .refine⟨.hs b1.length 1 2 0 1 false,b1++[.arr 2 false [[.str nm,pv]]],?_,rfl,.inr ⟨b1.length,[[.str nm,pv]],by simp,fun hq => ?_,by omega,by simp,rfl,by simp,rfl,fun i e nm' parts' a c d => ?_⟩,by simp;omega,fun y hy=> .inl ?_⟩
  .rw[hap 0 rfl];simp[apX,CC,BM,A3,A1,A8,CM]
  .have:=hQ _ hq;omega
  .match i with
   | 0=>
    simp only[HJ,AN]at a;rw[hk]at c;rw[hs]at d;cases c;cases d;exact⟨pv,a.symm,hp.mono (fun v s hv=>Bv.mono N hv (fun _ h=>h) (fun x hx=>by rw[BA (by have:=hQ x hx;omega)];exact hb1e x (hQ x hx))) (fun _ h=>h) (fun x hx=>by rw[BA (by have:=hQ x hx;omega)];exact hb1e x (hQ x hx))⟩
   | i+1=>simp at a
  .rw[BA (by omega)];exact hb1e y hy
 .have e2:(k+1) * 40<=17592186044416:=by omega
  have e3:k+1<=17592186044416:=by omega
  have h5':b1[q]? = some (.arr 2 false es):=by rw[hb1e q h3];exact h5
  have hpres:∀ x,Q x->(b1.set q (.arr 2 false (es++[[.str nm,pv]])))[x]? = b[x]? := fun x hx=>by
   rw[BT (fun e=>h1 (by rw[e];exact hx))];exact hb1e x (hQ x hx)
  refine⟨.hs q (k+1) 2 0 (k+1) false,b1.set q (.arr 2 false (es++[[.str nm,pv]])),?_,rfl,.inr ⟨q,es++[[.str nm,pv]],by simp,h1,h2,by simp;omega,rfl,ER (by omega),by simp[h6],fun i e nm' parts' a c d => ?_⟩,by simp;omega,fun y hy => ?_⟩
  .rw[hap k rfl];have e4:List.take k es=es:=DC (by omega);simp[apX,CC,BM,A3,A1,A8,CM,e2,e3,h5',h6,e4]
  .by_cases hi:i<es.length
   .rw[BA hi]at a;obtain⟨pv',e1,e2⟩:=h7 i e nm' parts' a c d;exact⟨pv',e1,e2.mono (fun v s hv=>Bv.mono N hv (fun _ h=>h) hpres) (fun _ h=>h) hpres⟩
   .have hi2:i=k:=by
     have:=(Ae.1 a).1;simp at this;omega
    subst hi2;rw[hk]at c;rw[hs]at d;cases c;cases d;have a':[.str nm,pv]=e:=(by rw[<- h6]at a;simpa using a);exact⟨pv,a'.symm,hp.mono (fun v s hv=>Bv.mono N hv (fun _ h=>h) hpres) (fun _ h=>h) hpres⟩
  .by_cases hyq:q=y
   .subst hyq;exact .inr ⟨es,h5,h1,h2⟩
   .exact .inl (by rw[BT hyq];exact hb1e y hy)
theorem LX.done2{n:Nat}{Q:Nat->Prop}{lo:Nat}{b:AF}{pv:AV}{parts:List Sh}(h:LX n Q lo b pv parts):∃ Q':Nat->Prop,(∀ x,Q x->Q' x)/\(∀ x,Q' x->Q x\/lo<=x/\x<b.length/\∃ es,b[x]? = some (.arr 1 false es))/\Jl (Bv n Q' b) Q' b pv parts:=by
 rcases h with h | ⟨q,ptrs,h0,h1,h2,h3,h4,h5,h6,h7⟩
 .exact⟨Q,fun _ h=>h,fun x h=> .inl h,.inl h⟩
 .refine⟨fun x=>Q x\/x=q,fun x h=> .inl h,fun x hx => ?_,.inr ⟨q,ptrs,h0,.inr rfl,h4,h5,h6,fun k p s a c => ?_⟩⟩
  .rcases hx with hx | rfl
   .exact .inl hx
   .exact .inr ⟨h2,h3,ptrs,h5⟩
  .obtain⟨v,e,f⟩:=h7 k p s a c;exact⟨v,e,Bv.mono n f (fun x h=> .inl h) (fun _ _=>rfl)⟩
structure SI(K:AF)(N:Nat)(Q:Nat->Prop)(b:AF)(w:AV)(ns:List Bytes)(ss:List (List Sh))(k:Nat):Prop where
 ext:∀ x,x<K.length->b[x]? = K[x]?
 o:b[K.length]? = some (.var false [.int .i64 0,w])
 len:K.length<b.length
 q:∀ x,Q x->K.length<x/\x<b.length
 rows:I2 N Q b w ns ss k K.length
theorem Vc{l:List AK}{lv:AV}{d:Nat}{K:AF}{a own:Nat}(ha:K[a]? = some (.var false [lv])){ps:List Bytes}{args:List TyV}(hE:Hy (Ep l lv d (fun x=>x<K.length) K) (fun x=>x<K.length) K (.hm own) ps args)(hva:∀ x∈args,VT l x)(hln:ps.length=args.length)
 {fs:List DA} {fv:AV} (hfv:SlR Bo 5 fs fv) (hfl:fs.length<1048577) (hfe:∀ f∈fs,Aj l ps f.ty=0) {parts:List Sh} (hpl:parts.length=fs.length) {N:Nat} (hN:∀ x∈parts,shD x<=N) (ih:∀(m:Nat) f x,fs[m]? = some f->parts[m]? = some x->Oq l lv d (CT ps args f.ty) x)
 {Q0:Nat->Prop} {b0:AF} {w cv:AV} {ns:List Bytes} {ss:List (List Sh)} {k cl:Nat} (h0:SI K N Q0 b0 w ns ss k) {c2:Nat} {nm:Bytes} (hc2:b0[c2]? = some (.var false [.str nm,.AH])) (hc2l:K.length<c2) (hc2q:¬ Q0 c2) :
 ∃(b:AF) (Q:Nat->Prop) (pv:AV),EV MX 144 118 (AE MX) (AL f144 2) ([(3,.hp a 0),(8,.hm own),(11,.hp K.length 0),(14,.hp c2 0),(79,cv),(80,.int .i64 cl),(81,.int .i64 k),(89,fv),(90,.int .i64 fs.length),(91,.int .i64 (0:Nat))],b0) =
  some (.ext 5,([(3,.hp a 0),(8,.hm own),(11,.hp K.length 0),(14,.hp c2 0),(79,cv),(80,.int .i64 cl),(81,.int .i64 k),(89,fv),(90,.int .i64 fs.length),(91,.int .i64 fs.length),(92,.bool false)],b))/\SI K N Q b w ns ss k/\b[c2]? = some (.var false [.str nm,pv])/\¬ Q c2/\LX N Q (K.length+1) b pv parts:=by
 have hb23:=SM;simp[Aa,An,f144]at hb23;have hal:=(Ae.1 ha).1;obtain⟨e,st,hlp,hq⟩:=AU (M:=MX) (fid:=144) (N:=118) (C:=AE MX) (c:=AL f144 2) (n:=fs.length)
  (fun m (b:AF)=>([(3,.hp a 0),(8,.hm own),(11,.hp K.length 0),(14,.hp c2 0),(79,cv),(80,.int .i64 cl),(81,.int .i64 k),(89,fv),(90,.int .i64 fs.length),(91,.int .i64 m)],b))
  (fun m b=>∃ Q pv,SI K N Q b w ns ss k/\b[c2]? = some (.var false [.str nm,pv])/\¬ Q c2/\LX N Q (K.length+1) b pv (parts.take m))
  (fun r=>∃ b Q pv,r=(.ext 5,([(3,.hp a 0),(8,.hm own),(11,.hp K.length 0),(14,.hp c2 0),(79,cv),(80,.int .i64 cl),(81,.int .i64 k),(89,fv),(90,.int .i64 fs.length),(91,.int .i64 fs.length),(92,.bool false)],b))/\SI K N Q b w ns ss k/\b[c2]? = some (.var false [.str nm,pv])/\¬ Q c2/\LX N Q (K.length+1) b pv parts) (fun m b hm hI=>by
    obtain⟨Q,pv,hS,hcon,hnq,hC⟩:=hI;obtain⟨fe,hfe',hR⟩:=hfv.ix hm;have hm':=AZ hm;have hw:=AY hm hfl;have hmp:m<parts.length:=(by omega);obtain⟨tx,rfl,htx⟩:=hR;have hmem:=Ap hm;have hcl:=(Ae.1 hcon).1;have hKb:=hS.len;let b1:=b++[Blk.var false (.str fs[m].nm::tx)];have hK1:∀ x,x<K.length->b1[x]? = K[x]? := fun x hx=>by
     rw[BA (by omega)];exact hS.ext x hx
    obtain⟨v,H',hcall,hlen,hold,hsrt⟩:=ih m _ _ (AW hm) (AW hmp) fs[m].ty tx ps args (.hm own) (fun x=>x<K.length) b1 htx (hfe _ hmem) hva hln rfl (fun x hx=>by simp[b1];omega) (hE.mono (fun f t h=>Ep.mono d h (fun _ h=>h) hK1) (fun _ h=>h) hK1);have hb1l:b1.length=b.length+1:=(by simp[b1]);have hold':∀ x,x<b.length->H'[x]? = b[x]? := fun x hx=>by
     rw[hold x (by omega)];exact BA hx
    obtain⟨id,hid⟩:=hsrt.hp;have hQl:∀ x,Q x->x<b.length:=fun x hx=>(hS.q x hx).2
    have hC1:LX N (fun x=>Q x\/b.length+1<=x/\x<H'.length) (K.length+1) H' pv (parts.take m):=hC.mono (by omega) (fun x h=> .inl h) (fun x h h2=>by rcases h with h | h;exact absurd h h2;omega) (fun x hx=>hold' x (hQl x hx)) (fun x es hx hbx=>hold' x (Ae.1 hbx).1);obtain⟨pv',b2,k1,k2,k3,k4,k5⟩:=hC1.push (v:=v) (s:=parts[m]) (fun x hx=>by rcases hx with hx | hx;have:=hQl x hx;omega;omega) (by omega) (Bv.mono _ (hsrt.le (hN _ (Ap hmp))) (fun x hx=> .inr (by rw[hb1l]at hx;exact hx)) (fun _ _=>rfl)) (by rw[GR];omega);have htk:parts.take m++[parts[m]]=parts.take (m+1):=(by simp);rw[htk]at k3;have hconH:H'[c2]? = some (.var false [.str nm,pv]):=(by rw[hold' c2 hcl];exact hcon);have hcon2:b2[c2]? = some (.var false [.str nm,pv]):=by
     rcases k5 c2 (by omega)with h | ⟨_,h,_⟩
     .rw[h];exact hconH
     .rw[hconH]at h;cases h
    have hlast:=BR b (Blk.var false (.str fs[m].nm::tx));have ha1:b1[a]? = some (.var false [lv]):=(by rw[hK1 a hal];exact ha);have hcon1:b1[c2]? = some (.var false [.str nm,pv]):=Av hcon _;have m1:(c2∈Da 0 b1 H')=False:=Cx (by omega) (hold c2 (by omega));have hne:¬ c2=H'.length:=(by omega);have hset:∀ x,x≠c2->(b2.set c2 (.var false [.str nm,pv']))[x]? = b2[x]? := fun x hx=>BT (fun e=>hx e.symm)
    have hK2:∀ x,x<=K.length->b2[x]? = b[x]? := fun x hx=>by
     rcases k5 x (by omega)with h | ⟨_,_,_,h⟩
     .rw[h];exact hold' x (by omega)
     .omega
    have hQ2:∀ x,(Q x\/b.length+1<=x/\x<H'.length)->x≠c2/\b2[x]? = H'[x]? := fun x hx=>by
     refine⟨fun e => ?_,?_⟩
     .subst e;rcases hx with h | h
      .exact hnq h
      .omega
     .have hxl:x<H'.length:=by
       rcases hx with h | h
       .have:=hQl x h;omega
       .exact h.2
      rcases k5 x hxl with h | ⟨_,_,h,_⟩
      .exact h
      .exact absurd hx h
    refine .inl ⟨b2.set c2 (.var false [.str nm,pv']),?_,fun x=>Q x\/b.length+1<=x/\x<H'.length,pv',⟨fun x hx => ?_,?_,by simp;omega,fun x hx => ?_,?_⟩,?_,?_,?_⟩
    .obtain⟨qv,rfl,hqv⟩:=htx.Ab;rw[hid]at hcall k1;have hcc:=hC.cells;have hcallb:∀ y,b1=y->AI MX (AE MX) 144 [lv,.agg [.int .i64 fs[m].ty.k,.int .i64 fs[m].ty.v,.str fs[m].ty.nm,qv],.hm own] y=some (.ret (.hp id 0),H'):=fun y hy=>hy ▸ hcall
     have hcall2:=hcallb _ rfl;have ha2:(b++[Blk.var false [.str fs[m].nm,.int .i64 fs[m].ty.k,.int .i64 fs[m].ty.v,.str fs[m].ty.nm,qv]])[a]? = some (.var false [lv]):=ha1;have hc21:(b++[Blk.var false [.str fs[m].nm,.int .i64 fs[m].ty.k,.int .i64 fs[m].ty.v,.str fs[m].ty.nm,qv]])[c2]? = some (.var false [.str nm,pv]):=hcon1;have m1':(c2∈Da 0 (b++[Blk.var false [.str fs[m].nm,.int .i64 fs[m].ty.k,.int .i64 fs[m].ty.v,.str fs[m].ty.nm,qv]]) H')=False:=m1;simp only[b1]at hcall2;simp[f144,hm',hfe',hlast,Ak hlast,ha2,Ak ha2,hc21,Ak hc21,hcall2,hb23,m1',hne,hcc,bsA,Aq,List.replicate,A3,AG,AV.AA,k1,k2,hcon2,Ak hcon2,hw]
    .rw[hset x (by omega),hK2 x (by omega)];exact hS.ext x hx
    .rw[hset _ (by omega),hK2 _ (by omega)];exact hS.o
    .rcases hx with h | h
     .have:=hS.q x h;simp;omega
     .simp;omega
    .refine hS.rows.mono (by simp;omega) (fun x h=> .inl h) (fun x es h1 h2 h3 => ?_) (fun x hx => ?_) (fun x es hx hbx => ?_)
     .have:=(Ae.1 h3).1;rcases h1 with h | h
      .exact h2 h
      .omega
     .obtain⟨e1,e2⟩:=hQ2 x (.inl hx);rw[hset x e1,e2];exact hold' x (hQl x hx)
     .have hxl:=(Ae.1 hbx).1;have hxc:x≠c2:=fun e=>by rw[e,hcon]at hbx;cases hbx
      rw[hset x hxc];rcases k5 x (by omega)with h | ⟨_,h,_⟩
      .rw[h];exact hold' x hxl
      .rw[hold' x hxl,hbx]at h;cases h
    .exact ER (by omega)
    .rintro(h | h)
     .exact hnq h
     .omega
    .refine k3.mono (by simp) (fun _ h=>h) (fun x h1 h2=>absurd h1 h2) (fun x hx=>hset x (hQ2 x hx).1) (fun x es hx hbx=>hset x (fun e=>by rw[e,hcon2]at hbx;cases hbx))) (fun b hI=>by
    obtain⟨Q,pv,hS,hcon,hnq,hC⟩:=hI;rw[DC (by omega)]at hC;exact⟨_,_,by simp[f144] <;> first | exact⟨rfl,rfl⟩ | rfl,by simp,b,Q,pv,rfl,hS,hcon,hnq,hC⟩) b0 ⟨Q0,.AH,h0,hc2,hc2q,.inl ⟨by simp,rfl⟩⟩
 obtain⟨b,Q,pv,hq,g1,g2,g3,g4⟩:=hq;cases hq;exact⟨b,Q,pv,hlp,g1,g2,g3,g4⟩
theorem aj{l:List AK}{lv:AV}{d:Nat}{K:AF}{a own:Nat}(ha:K[a]? = some (.var false [lv])){ps:List Bytes}{args:List TyV}(hE:Hy (Ep l lv d (fun x=>x<K.length) K) (fun x=>x<K.length) K (.hm own) ps args)(hva:∀ x∈args,VT l x)(hln:ps.length=args.length)
 {cs:List CS} {cv:AV} (hcv:SlR EY 2 cs cv) (hcl:cs.length<1048577) (hfl:∀ c∈cs,c.fields.length<1048577) (hfe:∀ c∈cs,∀ f∈c.fields,Aj l ps f.ty=0) {ss:List (List Sh)} (hss:ss.length=cs.length) (hsp:∀(i:Nat) c s,cs[i]? = some c->ss[i]? = some s->s.length=c.fields.length) {N:Nat} (hN:∀ s∈ss,∀ x∈s,shD x<=N)
 (ih:∀(i:Nat) c s (m:Nat) f x,cs[i]? = some c->ss[i]? = some s->c.fields[m]? = some f->s[m]? = some x->Oq l lv d (CT ps args f.ty) x) :
 ∃(b:AF) (Q:Nat->Prop) (w:AV),EV MX 144 118 (AE MX) (AL f144 1) ([(3,.hp a 0),(8,.hm own),(11,.hp K.length 0),(79,cv),(80,.int .i64 cs.length),(81,.int .i64 (0:Nat))],K++[Blk.var false [.int .i64 0,.AH]]) =
  some (.ext 3,([(3,.hp a 0),(8,.hm own),(11,.hp K.length 0),(79,cv),(80,.int .i64 cs.length),(81,.int .i64 cs.length),(82,.bool false)],b))/\SI K N Q b w (cs.map (·.nm)) ss cs.length:=by
 have hb25:=SN;simp[Aa,An,f144]at hb25;obtain⟨e,st,hlp,hq⟩:=AU (M:=MX) (fid:=144) (N:=118) (C:=AE MX) (c:=AL f144 1) (n:=cs.length)
  (fun k (b:AF)=>([(3,.hp a 0),(8,.hm own),(11,.hp K.length 0),(79,cv),(80,.int .i64 cs.length),(81,.int .i64 k)],b))
  (fun k b=>∃ Q w,SI K N Q b w (cs.map (·.nm)) ss k)
  (fun r=>∃ b Q w,r=(.ext 3,([(3,.hp a 0),(8,.hm own),(11,.hp K.length 0),(79,cv),(80,.int .i64 cs.length),(81,.int .i64 cs.length),(82,.bool false)],b))/\SI K N Q b w (cs.map (·.nm)) ss cs.length) (fun k b hk hI=>by
    obtain⟨Q,w,hS⟩:=hI;obtain⟨ce,hce,hR⟩:=hcv.ix hk;have hk':=AZ hk;have hw:=AY hk hcl;have hks:k<ss.length:=(by omega);obtain⟨fv,rfl,hfv⟩:=hR.dest;have hmem:=Ap hk;have hcg:=AW hk;have hsg:=AW hks;have hlen:=hS.len;obtain⟨b0,hb0⟩:∃ b0,b0=b++[Blk.var false [.str cs[k].nm,fv],Blk.var false [.str cs[k].nm,.AH]]:=⟨_,rfl⟩;have hb0l:b0.length=b.length+2:=(by rw[hb0];simp);have hb0o:∀ x,x<b.length->b0[x]? = b[x]? := fun x hx=>by rw[hb0];exact BA hx
    have hS0:SI K N Q b0 w (cs.map (·.nm)) ss k:=⟨fun x hx=>by rw[hb0o x (by omega)];exact hS.ext x hx,by rw[hb0o _ (by omega)];exact hS.o,by omega,fun x hx=>by have:=hS.q x hx;omega,hS.rows.mono (by omega) (fun _ h=>h) (fun x es h1 h2=>absurd h1 h2) (fun x hx=>hb0o x (hS.q x hx).2) (fun x es _ hbx=>hb0o x (Ae.1 hbx).1)⟩;have hc2:b0[b.length+1]? = some (.var false [.str cs[k].nm,.AH]):=(by rw[hb0];simp);obtain⟨b',Q',pv,f1,g1,g2,g3,g4⟩:=Vc ha hE hva hln hfv (hfl _ hmem) (hfe _ hmem) (hsp k _ _ hcg hsg) (hN _ (Ap hks)) (fun m f x h1 h2=>ih k _ _ m f x hcg hsg h1 h2) (cv:=cv) (cl:=cs.length) hS0 hc2 (by omega) (fun h=>by have:=(hS.q _ h).2;omega);have hcc:=g4.cells;obtain⟨Q2,q1,q2,q3⟩:=g4.done2;have g2l:=(Ae.1 g2).1;have glen:=g1.len;have hQ2:∀ x,Q2 x->K.length<x/\x<b'.length:=fun x hx=>by
     rcases q2 x hx with h | ⟨h1,h2,_⟩
     .exact g1.q x h
     .omega
    have hrows:=g1.rows.mono (Q':=Q2) (CZ _) q1 (fun x es h1 h2 h3=>by
     rcases q2 x h1 with h | ⟨_,_,es',h⟩
     .exact h2 h
     .rw[h]at h3;cases h3) (fun _ _=>rfl) (fun _ _ _ _=>rfl)
    have hwc:=hrows.cells;simp[f144,hb0]at f1;have hlast0:(b++[Blk.var false [.str cs[k].nm,fv]])[b.length]? = some (.var false [.str cs[k].nm,fv]):=BR _ _;have hlast1:(b++[Blk.var false [.str cs[k].nm,fv],Blk.var false [.str cs[k].nm,.AH]])[b.length]? = some (.var false [.str cs[k].nm,fv]):=(by simp);have hne:¬ K.length=b'.length:=(by omega);have fin:∀(x:AV) (b1:AF) ,(b1=b'/\x=.sl 2 true [[.str cs[k].nm,pv]]\/b1=b'++[.arr 2 false [[.str cs[k].nm,pv]]]/\x=.hs b'.length 1 2 0 1 false)->∃ w' b'',apA 2 40 w x b1=some (w',b'')/\w'.cells=some [w']/\b''[K.length]? = some (.var false [.int .i64 0,w])/\SI K N Q2 (b''.set K.length (.var false [.int .i64 0,w'])) w' (cs.map (·.nm)) ss (k+1):=by
     intro x b1 hx;obtain⟨w',b'',p1,p2,p3,p4,p5⟩:=hrows.push (fun x hx=>(hQ2 x hx).2) glen hx (by rw[Fx,hcg];rfl) hsg q3 (by omega);have hset:∀ y,y≠K.length->(b''.set K.length (.var false [.int .i64 0,w']))[y]? = b''[y]? := fun y hy=>BT (fun e=>hy e.symm)
     refine⟨w',b'',p1,p2,?_,fun y hy => ?_,ER (by omega),by simp;omega,fun y hy => ?_,?_⟩
     .rcases p5 K.length (by omega)with h | ⟨_,h,_⟩
      .rw[h];exact g1.o
      .rw[g1.o]at h;cases h
     .rw[hset y (by omega)];rcases p5 y (by omega)with h | ⟨_,_,_,h⟩
      .rw[h];exact g1.ext y hy
      .omega
     .have:=hQ2 y hy;simp;omega
     .exact p3.mono (by simp) (fun _ h=>h) (fun y es h1 h2=>absurd h1 h2) (fun y hy=>hset y (by have:=(hQ2 y hy).1;omega)) (fun y es hy _=>hset y (by omega))
    have go:=g1.o;cases hpn:pv.AA with
    | true=>
     obtain⟨w',b'',p1,p2,p3,p4⟩:=fin _ _ (.inl ⟨rfl,rfl⟩);exact .inl ⟨b''.set K.length (.var false [.int .i64 0,w']),by simp[f144,hk',hce,hlast0,hlast1,hfv.cells,hfv.len,f1,hw,go,Ak go,g2,Ak g2,hb25,hcc,hwc,hpn,bsA,Aq,List.replicate,AG,AV.AA,p1,p2,p3,Ak p3],Q2,w',p4⟩
    | false=>
     obtain⟨w',b'',p1,p2,p3,p4⟩:=fin _ _ (.inr ⟨rfl,rfl⟩);exact .inl ⟨b''.set K.length (.var false [.int .i64 0,w']),by simp[f144,hk',hce,hlast0,hlast1,hfv.cells,hfv.len,f1,hw,go,Ak go,g2,Ak g2,hb25,hcc,hwc,hpn,hne,A3,bsA,Aq,List.replicate,AG,AV.AA,p1,p2,p3,Ak p3],Q2,w',p4⟩) (fun b hI=>by
    obtain⟨Q,w,hS⟩:=hI;exact⟨_,_,by simp[f144] <;> first | exact⟨rfl,rfl⟩ | rfl,by simp,b,Q,w,rfl,hS⟩) (K++[Blk.var false [.int .i64 0,.AH]]) ⟨fun _=>False,.AH,⟨fun x hx=>BA hx,by simp,by simp,fun x h=>h.elim,.inl ⟨rfl,rfl⟩⟩⟩
 obtain⟨b,Q,w,hq,hS⟩:=hq;cases hq;exact⟨b,Q,w,hlp,hS⟩
section
variable{l:List AK}{lv:AV}(hl:SlR Ac 3 l lv)(hll:l.length<1048577)
include hl hll
theorem ao{u:TyV}{xs:List AV}{pm:AV}(hpm:pm.cells=some [pm]){H:AF}(hu:AR u xs)(hk:u.k=1)(hb:(u.nm == DM)=false)(hf:l.findIdx? (fun d=>d.nm == u.nm)=none){ss:List (List Sh)}(hs2:ss.length=2)(hs0:∀ s∈ss,s=[]) :
 ∃ v H',AI MX (AE MX) 144 [lv,.agg xs,pm] H=some (.ret v,H')/\H.length<=H'.length/\(∀ x,x<H.length->H'[x]? = H[x]?)/\Bv (shD (.cons [Cc,EB] ss)) (fun x=>H.length<=x/\x<H'.length) H' v (.cons [Cc,EB] ss):=by
 obtain⟨pv,rfl,hpv⟩:=hu.Ab;have h175:=YC hl hll (pm:=pm) hpv H;rw[hf]at h175;simp only[ixI]at h175;have h0:(u.k == 0)=false:=by simp[hk]
 have hbn:(u.nm == [66,105,116])=false:=hb;refine⟨.hp (H.length+3) 0,H++[Blk.var false [lv],.var true [.int .i64 u.k,.int .i64 u.v,.str u.nm,pv],.var false [pm],.var false [.int .i64 0,.sl 2 true [[.str Cc,.AH],[.str EB,.AH]]]],Bj LC MY ?_,by simp,fun x hx=>BA hx,?_⟩
 .simp[AJ,f144,hl.cells,hpm,h0,hbn,h175,bsA,Aq,List.replicate,AG,AV.AA,Cc,EB]
 .refine⟨_,rfl,⟨by omega,by simp⟩,_,[[.str Cc,.AH],[.str EB,.AH]],by simp,rfl,by rw[hs2];rfl,.inl ⟨rfl,hs0⟩,fun k e nm parts h1 h2 h3 => ?_⟩;have hp0:=hs0 parts (C2 h3)
  match k with
  | 0=>simp at h1 h2;subst h1;subst h2;exact⟨.AH,rfl,.inl ⟨hp0,rfl⟩⟩
  | 1=>simp at h1 h2;subst h1;subst h2;exact⟨.AH,rfl,.inl ⟨hp0,rfl⟩⟩
  | k+2=>simp at h1
theorem aq(hsl:SmL 1048577 l){d:Nat}{u:TyV}{xs:List AV}{params:List Bytes}{args:List TyV}{pm:AV}{S:Nat->Prop}{H:AF}(hu:AR u xs)(hk:u.k=1)(hb:(u.nm == DM)=false)(hua:∀ t∈u.ps,Aj l params t=0)(hva:∀ a∈args,VT l a)(hln:params.length=args.length)(hS:∀ x,S x->x<H.length)(hE:Hy (Ep l lv d S H) S H pm params args)
 {i:Nat} (hi:i<l.length) (hf:l.findIdx? (fun d=>d.nm == u.nm)=some i) (hnd:l[i].params.Nodup) (hps:l[i].params.length=u.ps.length) (hva':∀ x∈u.ps.map (CT params args),VT l x) (hfe:∀ c∈l[i].cons,∀ f∈c.fields,Aj l l[i].params f.ty=0) {ss:List (List Sh)} (hss:ss.length=l[i].cons.length) (hsp:∀(j:Nat) c s,l[i].cons[j]? = some c->ss[j]? = some s->s.length=c.fields.length)
 (hne:l[i].cons≠[]) (ih:∀(j:Nat) c s (m:Nat) f x,l[i].cons[j]? = some c->ss[j]? = some s->c.fields[m]? = some f->s[m]? = some x->Oq l lv (d+1) (CT l[i].params (u.ps.map (CT params args)) f.ty) x) :
 ∃ v H',AI MX (AE MX) 144 [lv,.agg xs,pm] H=some (.ret v,H')/\H.length<=H'.length/\(∀ x,x<H.length->H'[x]? = H[x]?)/\Bv (shD (.cons (l[i].cons.map (·.nm)) ss)) (fun x=>H.length<=x/\x<H'.length) H' v (.cons (l[i].cons.map (·.nm)) ss):=by
 have hcp:=hE.cells;have hu0:=hu;obtain⟨pv,rfl,hpv⟩:=hu.Ab;have h175:=YC hl hll (pm:=pm) hpv H;rw[hf]at h175;simp only[ixI]at h175;have h0:(u.k == 0)=false:=by simp[hk]
 have hbn:(u.nm == [66,105,116])=false:=hb;obtain⟨dx,hdx,hdR⟩:=hl.ix hi;obtain⟨qv,cv,rfl,hq,hcv⟩:=hdR.dest;have hsd:=hsl.2 _ (Ap hi);obtain⟨K,es,f1,hP⟩:=params144 hl (i:=i) hu0 hpv hS hE hua hva hln hq hnd hps hsd.2.1;have hE':Hy (Ep l lv (d+1) (fun x=>x<K.length) K) (fun x=>x<K.length) K (.hm (H.length+3)) l[i].params (u.ps.map (CT params args)):=by
  have hle:=hP.le;refine .inr ⟨H.length+3,es,by omega,rfl,hP.bo,fun m p t h1 h2 => ?_⟩;rw[Fx,Dx]at h2;obtain⟨t0,h2,rfl⟩:=h2;obtain⟨f,g1,g2⟩:=hP.ent m p t0 (Ae.1 h1).1 h1 h2;exact⟨f,g1,Ep.mono _ g2 (fun x hx=>hx.1) (fun _ _=>rfl)⟩
 obtain⟨b,Q,w,f2,hSI⟩:=aj hP.ba hE' hva' (by simp[hps]) hcv hsd.2.2.2.1 (fun c hc=>(hsd.2.2.2.2 c hc).2.1) hfe hss hsp (N:=LW ss) (fun s hs x hx=>Lx hx hs) ih;have hle:=hP.le;have hlen:=hSI.len;have hext:∀ x,x<H.length->b[x]? = H[x]? := fun x hx=>by rw[hSI.ext x (by omega)];exact hP.old x hx
 refine⟨.hp K.length 0,b,Bj LC MY ?_,by omega,hext,?_⟩
 .have hni:¬ ((i:Int)<0):=by omega
  have hba:=hP.ba;have hba2:=Av hba [Blk.var false [.int .i64 0,.AH]];simp[f144]at f1 f2;have hd:=hdx .i64;simp[AJ,f144,hl.cells,hcp,h0,hbn,h175,hni,hd,hq.len,hcv.len,f1,f2,hba,Ak hba,hba2,Ak hba2]
 .rcases hSI.rows with⟨h,_⟩ | ⟨q,es',h1,h2,h3,h4,rfl,h6,h7,h8⟩
  .exact absurd (E5 h) hne
  .have ho:=hSI.o;refine⟨K.length,rfl,⟨by omega,by omega⟩,_,es',ho,by rw[h7];simp,by rw[hss];simp,.inr ⟨q,⟨by omega,h4⟩,by rw[h7],h6⟩,fun k e nm parts a c e' => ?_⟩;obtain⟨pv',e1,e2⟩:=h8 k e nm parts a c e';have hQ:∀ x,Q x->H.length<=x/\x<b.length:=fun x hx=>by have:=hSI.q x hx;omega
   exact⟨pv',e1,e2.mono (fun v s hv=>Bv.mono _ hv hQ (fun _ _=>rfl)) hQ (fun _ _=>rfl)⟩
theorem c144(hsl:SmL 1048577 l)(hd:DV l)(hnd:∀ d∈l,d.params.Nodup){t:TyV}{s:Sh}(hs:Em l t s):VT l t->∀ d,Oq l lv d t s:=by
 induction hs with
 | bit t hb hw h2=>
  intro hv d;induction d using Nat.strongRecOn with
  | ind d ihd=>
   intro u xs params args pm S H hu hnu hva hln hr hS hE;have ht:t.k=1:=(by simp only[Ek,BU,decide_eq_true_eq]at hb;exact hb.1);by_cases hk:u.k=0
   .exact YB hl ht ihd hu hk hnu hln hr hS hE
   .have hkn:u.k=1/\u.nm=DM:=by
     cases u with
     | mk k v nm ps=>
      have hk:¬ k=0:=hk;simp only[CT,hk,if_false]at hr;subst hr;simp only[Ek,BU,decide_eq_true_eq,beq_iff_eq]at hb;exact hb
    exact eQ hl hll hu hkn.1 hkn.2 hnu hln hr h2 hS hE
 | cons t ns ss hb hk hn hln' hsp hf ih=>
  intro hv d;induction d using Nat.strongRecOn with
  | ind d ihd=>
   intro u xs params args pm S H hu hnu hva hln hr hS hE;have ht:t.k=1:=(by rcases hv.kind with h | h;exact h;exact absurd h hk);by_cases hk0:u.k=0
   .exact YB hl ht ihd hu hk0 hnu hln hr hS hE
   .have hcp:=hE.cells;have hkn:u.k=1/\(u.nm == DM)=false/\t.nm=u.nm/\t.ps=u.ps.map (CT params args)/\EK l 1 u.nm=some u.ps.length/\∀ t∈u.ps,Aj l params t=0:=by
     cases u with
     | mk k v nm ps=>
      have hk0:¬ k=0:=hk0;simp only[CT,hk0,if_false]at hr;subst hr;have ht:k=1:=ht;subst ht;rw[CB]at hnu;refine⟨rfl,?_,rfl,?_,hnu.2.2.1,hnu.2.2.2.2⟩
      .have e:Ek (.mk 1 v nm (RI params args ps))=(nm == DM):=by
        show(decide ((1:Int)=1)&&(nm == DM))=(nm == DM);simp
       exact e.symm.trans hb
      .exact FM params args ps
    obtain⟨hk1,hbn,htn,htp,hrc,hua⟩:=hkn;simp only[EK,if_true,hbn,ES,if_false]at hrc;cases hbo:(u.nm == CO)with
    | true=>
     have hcons:AP l t=[⟨Cc,[]⟩,⟨EB,[]⟩]:=(by simp only[AP,htn,hbo,if_true]);have hfn:l.findIdx? (fun d=>d.nm == u.nm)=none:=by
      rw[Rj];intro x hx;rw[beq_iff_eq.1 hbo];exact(hd.nms x hx).2
     rw[hcons]at hn hln' hsp;subst hn;have hs0:∀ s∈ss,s=[]:=fun s hs=>by
      obtain⟨i,hi,rfl⟩:=List.mem_iff_getElem.1 hs;have hi2:i<2:=(by simp at hln';omega);have:=hsp i _ _ (AW (by simpa using hi2)) (AW hi);have h01:i=0\/i=1:=(by omega);rcases h01 with rfl | rfl <;> exact E5 this
     exact ao hl hll hcp hu hk1 hbn hfn hln' hs0
    | false=>
     rw[hbo]at hrc;simp only[ES,if_false]at hrc;rw[Dx]at hrc;obtain⟨i,hfi,hpl⟩:=hrc;have hi:=G8 hfi;have hgd:l.getD i default=l[i]:=(by simp[hi]);rw[hgd]at hpl;have hcons:AP l t=l[i].cons.map (F0 l[i].params (u.ps.map (CT params args))):=by
      simp only[AP,htn,hbo,hfi,hgd,htp];rfl
     have hne:l[i].cons≠[]:=fun e=>by
      have:=(hd.con t hv hk hb).2.1;rw[hcons,e]at this;exact this rfl
     have hns:ns=l[i].cons.map (·.nm):=by
      rw[hn,hcons,List.map_map];rfl
     subst hns;have hva':∀ x∈u.ps.map (CT params args),VT l x:=fun x hx=>by
      obtain⟨y,hy,rfl⟩:=F5.1 hx;exact KR hva (by omega) y (hua y hy)
     have hcg:∀(j:Nat) c,l[i].cons[j]? = some c->(AP l t)[j]? = some (F0 l[i].params (u.ps.map (CT params args)) c):=fun j c h=>by
      rw[hcons,Fx,h];rfl
     refine aq hl hll hsl hu hk1 hbn hua hva hln hS hE hi hfi (hnd _ (Ap hi)) hpl hva' (hd.flds _ (Ap hi)) (by rw[hln',hcons];simp) (fun j c s h1 h2 => ?_) hne (fun j c s m f x h1 h2 h3 h4 => ?_)
     .have:=hsp j _ s (hcg j c h1) h2;simpa[F0]using this
     .have h3':(F0 l[i].params (u.ps.map (CT params args)) c).fields[m]? = some ⟨f.nm,CT l[i].params (u.ps.map (CT params args)) f.ty⟩:=by
       simp only[F0,Fx,h3,E0]
      have hvf:=hd.dok.fld t hv hk hb _ (C2 (hcg j c h1)) _ (C2 h3');exact ih j _ s m _ x (hcg j c h1) h2 h3' h4 hvf (d+1)
end
def WV(H:AF)(w:AV)(es:List (List AV)):Prop:=(w=.AH/\es=[])\/w=.sl 2 true es\/∃ j,w=.hs j es.length 2 0 es.length false/\H[j]? = some (.arr 2 false es)
theorem WV.app{H:AF}{w:AV}{es:List (List AV)}(h:WV H w es)(X:AF):WV (H++X) w es:=by
 rcases h with h | h | ⟨j,h1,h2⟩
 .exact .inl h
 .exact .inr (.inl h)
 .exact .inr (.inr ⟨j,h1,Av h2 X⟩)
theorem WV.len{H:AF}{w:AV}{es:List (List AV)}(h:WV H w es)(G:AF):BI w G=some (.val (.int .i64 es.length) G):=by
 rcases h with⟨rfl,rfl⟩ | rfl | ⟨j,rfl,_⟩ <;> rfl
theorem WV.row{H:AF}{w:AV}{es:List (List AV)}(h:WV H w es){i:Nat}(hi:i<es.length):∃ p,ixA 2 w (.int .i64 i)=some p/\∀ X,D2 (H++X) p=some es[i]:=by
 rcases h with⟨rfl,rfl⟩ | rfl | ⟨j,rfl,h⟩
 .cases hi
 .exact⟨.ro es[i],IQ _ _ _ _ .i64 hi,fun X=>rfl⟩
 .refine⟨.ep j es.length 2 i 0,by rw[EX (kd:=.i64) (hi:=hi),D1],fun X => ?_⟩;have:=Av h X;simp[Fm,this,A1,hi]
theorem c200{H:AF}{b:Nat}{lk:Bool}{nm n:Bytes}{pv:AV}(hb:H[b]? = some (.var lk [.str nm])):AI MX (AE MX) 200 [.agg [.str n,pv],.hp b 0] H=some (.ret (.bool (n == nm)),H++[.var false [.str n,pv]]):=by
 have hb':=Av hb [Blk.var false [.str n,pv]];exact Bj XG Z6 (by simp[AJ,f200,hb'])
theorem c199{H:AF}{w:AV}{es:List (List AV)}(hw:WV H w es){ns:List Bytes}(hes:es.length=ns.length)(hln:ns.length<1048577)(hrow:∀(k:Nat) e nm,es[k]? = some e->ns[k]? = some nm->∃ pv,e=[.str nm,pv]){b:Nat}{lk:Bool}{nm:Bytes}(hb:H[b]? = some (.var lk [.str nm])) :
 ∃ X,AI MX (AE MX) 199 [w,.fn 200 [] [.hp b 0]] H=some (.ret (.int .i64 (ixI (ns.findIdx? (fun x=>x == nm)))),H++X):=by
 have hlen:=hw.len;rw[hes]at hlen;obtain⟨e,st,hlp,hq⟩:=AU (M:=MX) (fid:=199) (N:=19) (C:=AE MX) (c:=AL f199 0) (n:=ns.length) (fun i (X:AF)=>([(0,w),(1,.fn 200 [] [.hp b 0]),(7,.int .i64 ns.length),(8,.int .i64 i)],H++X)) (fun i _=>∀ j (hj:j<ns.length),j<i->(fun x=>x == nm) ns[j]=false)
  (fun r=>∃ X:AF,(r=(.ext 0,([(0,w),(1,.fn 200 [] [.hp b 0]),(7,.int .i64 ns.length),(8,.int .i64 ns.length),(9,.bool false)],H++X))/\ns.findIdx? (fun x=>x == nm)=none)\/(∃ i:Nat,r=(.ret,([(4,.int .i64 i)],H++X))/\ns.findIdx? (fun x=>x == nm)=some i)) (fun i X hi hI=>by
    have hi':=AZ hi;have hwi:=AY hi hln;have hie:i<es.length:=(by omega);obtain⟨p,hp,hrd⟩:=hw.row hie;obtain⟨pv,he⟩:=hrow i _ _ (AW hie) (AW hi);rw[he]at hrd;have hcall:=c200 (n:=ns[i]) (pv:=pv) (Av hb X);have hrd':=hrd X;cases hx:(ns[i] == nm)with
    | true=>rw[hx]at hcall;exact .inr ⟨_,_,by simp[f199,hi',hp,hrd',hcall] <;> exact⟨rfl,rfl⟩,by simp,X++[.var false [.str ns[i],pv]],.inr ⟨i,by simp,Fc (p:=(fun x=>x == nm)) hi hI hx⟩⟩
    | false=>rw[hx]at hcall;exact .inl ⟨X++[.var false [.str ns[i],pv]],by simp[f199,hi',hp,hrd',hcall,hwi],Ff (p:=(fun x=>x == nm)) hi hI hx⟩) (fun X hI=>by
    exact⟨_,_,by simp[f199] <;> exact⟨rfl,rfl⟩,by simp,X,.inl ⟨rfl,Fe (p:=(fun x=>x == nm)) fun j hj=>hI j hj hj⟩⟩) [] (fun j _ h0=>by omega)
 simp[f199]at hlp;obtain⟨X,hq⟩:=hq;rcases hq with⟨hq,hs⟩ | ⟨i,hq,hs⟩ <;> cases hq <;> exact⟨X,Bj XF Z5 (by simp[AJ,f199,hlen,hlp,hs,ixI])⟩
theorem c182{H:AF}{id:Nat}{m:Int}{w:AV}{es:List (List AV)}(hid:H[id]? = some (.var false [.int .i64 m,w]))(hw:WV H w es){ns:List Bytes}(hes:es.length=ns.length)(hln:ns.length<1048577)(hrow:∀(k:Nat) e nm,es[k]? = some e->ns[k]? = some nm->∃ pv,e=[.str nm,pv])(nm:Bytes) :
 ∃ X,AI MX (AE MX) 182 [.hp id 0,.str nm] H=some (.ret (.int .i64 (ixI (ns.findIdx? (fun x=>x == nm)))),H++X):=by
 obtain⟨X,hc⟩:=c199 (hw.app [Blk.var false [.str nm]]) hes hln hrow (b:=H.length) (lk:=false) (nm:=nm) (BR _ _);have hid':=Av hid [Blk.var false [.str nm]];exact⟨[.var false [.str nm]]++X,Bj W7 Zx (by simp[AJ,f182,hid',hc])⟩
theorem c116{H:AF}{id:Nat}{m:Int}{w:AV}{es:List (List AV)}(hid:H[id]? = some (.var false [.int .i64 m,w]))(hw:WV H w es):AI MX (AE MX) 116 [.hp id 0] H=some (.ret (.bool (es.length == 0)),H):=by
 have hl:=hw.len;have he:((es.length:Int) == 0)=(es.length == 0):=by
  cases h:es.length with
  | zero=>rfl
  | succ n=>
   have:(((n+1:Nat):Int) == 0)=false:=(by simp;omega);rw[this];rfl
 exact Bj NI Pn (by simp[AJ,f116,hid,hl,he])
theorem cX(m:Int)(h0:1<=m)(h1:m<=16):Hl .shl .i64 1 m=some (.int .i64 ((2 ^ m.toNat:Nat):Int)):=by
 have:m=1\/m=2\/m=3\/m=4\/m=5\/m=6\/m=7\/m=8\/m=9\/m=10\/m=11\/m=12\/m=13\/m=14\/m=15\/m=16:=by omega
 rcases this with rfl | rfl | rfl | rfl | rfl | rfl | rfl | rfl | rfl | rfl | rfl | rfl | rfl | rfl | rfl | rfl <;> rfl
theorem Jl.len{R:AV->Sh->Prop}{S:Nat->Prop}{H:AF}{pv:AV}{parts:List Sh}(h:Jl R S H pv parts):(∀ G,BI pv G=some (.val (.int .i64 parts.length) G))/\Go.Am.Ca (some pv)=.st/\pv.cells=some [pv]:=by
 rcases h with⟨rfl,rfl⟩ | ⟨q,ptrs,_,_,rfl,_⟩ <;> exact⟨fun _=>rfl,rfl,rfl⟩
theorem Bv.blk{n:Nat}{S:Nat->Prop}{H:AF}{v:AV}{s:Sh}(h:Bv (n+1) S H v s):∃ id m w es,v=.hp id 0/\H[id]? = some (.var false [.int .i64 m,w])/\WV H w es /\
 match s with
 | .bit k=>m=k/\es=[]
 | .cons ns ss=>es.length=ns.length/\ss.length=ns.length/\∀(k:Nat) e nm parts,es[k]? = some e->ns[k]? = some nm->ss[k]? = some parts->∃ pv,e=[.str nm,pv]/\Jl (Bv n S H) S H pv parts:=by
 cases s with
 | bit k=>
  obtain⟨id,rfl,_,h2⟩:=h;exact⟨id,k,.AH,[],rfl,h2,.inl ⟨rfl,rfl⟩,rfl,rfl⟩
 | cons ns ss=>
  obtain⟨id,rfl,_,w,es,h2,h3,h4,h5,h6⟩:=h;refine⟨id,0,w,es,rfl,h2,?_,h3,h4,h6⟩;rcases h5 with h | ⟨j,_,h,hj⟩
  .exact .inr (.inl h.1)
  .exact .inr (.inr ⟨j,h,hj⟩)
theorem YF{G:AF}{id i:Nat}{m:Int}{w:AV}{es:List (List AV)}(hid:G[id]? = some (.var false [.int .i64 m,w]))(hw:WV G w es){nm:Bytes}{pv:AV}(hei:es[i]? = some [.str nm,pv]){n:Nat}{S:Nat->Prop}{parts:List Sh}(hS:∀ x,S x->x<G.length)(hP:Jl (Bv n S G) S G pv parts)
 {ps:List TyV} {qv:AV} (hq:SlR AR 4 ps qv) (hpl:ps.length<1048577) (hlen:ps.length=parts.length) (ih:∀(k:Nat) (hk:k<ps.length) (hk2:k<parts.length) (px:List AV) (v:AV) (X:AF),AR ps[k] px->Bv n S G v parts[k]->∃ X',AI MX (AE MX) 147 [v,.agg px] (G++X)=some (.ret (.int .i64 (CA parts[k] ps[k])),G++X++X')) (X0:AF) :
 ∃(X:AF) (r:Ex×St),EV MX 147 98 (AE MX) (AL f147 0) ([(0,.hp id 0),(6,.int .i64 i),(74,qv),(75,.int .i64 ps.length),(76,.int .i64 (0:Nat))],G++X0)=some r /\
  (r=(.ext 1,([(0,.hp id 0),(6,.int .i64 i),(74,qv),(75,.int .i64 ps.length),(76,.int .i64 ps.length),(77,.bool false)],G++X))/\FC parts ps=0\/r=(.ret,([(4,.int .i64 (FC parts ps))],G++X))/\FC parts ps≠0):=by
 have hb18:=SP;simp[Aa,An,f147]at hb18;have hie:=(Ae.1 hei).1;have hei':es[i]=[.str nm,pv]:=(Ae.1 hei).2;obtain⟨e,st,hlp,hq'⟩:=AU (M:=MX) (fid:=147) (N:=98) (C:=AE MX) (c:=AL f147 0) (n:=ps.length)
  (fun k (X:AF)=>([(0,.hp id 0),(6,.int .i64 i),(74,qv),(75,.int .i64 ps.length),(76,.int .i64 k)],G++X))
  (fun k X=>FC parts ps=FC (parts.drop k) (ps.drop k))
  (fun r=>∃ X,r=(.ext 1,([(0,.hp id 0),(6,.int .i64 i),(74,qv),(75,.int .i64 ps.length),(76,.int .i64 ps.length),(77,.bool false)],G++X))/\FC parts ps=0\/r=(.ret,([(4,.int .i64 (FC parts ps))],G++X))/\FC parts ps≠0) (fun k X hk hI=>by
    have hk':=AZ hk;have hwk:=AY hk hpl;have hk2:k<parts.length:=(by omega);obtain⟨fe,hfe,hR⟩:=hq.ix hk;rw[NZ hk hk2]at hI;rcases hP with⟨rfl,rfl⟩ | ⟨q,ptrs,h0,h1,rfl,h3,h4,h5⟩
    .simp at hk2
    .have hkp:k<ptrs.length:=(by omega);obtain⟨v,hv,hs⟩:=h5 k ptrs[k] parts[k] (AW hkp) (AW hk2);have hpk:ptrs[k]? = some [v]:=(by rw[AW hkp,hv]);obtain⟨X',hc⟩:=ih k hk hk2 fe v (X++[Blk.var false fe]) hR hs;obtain⟨tv,rfl,htv⟩:=hR.Ab;have hix:ixA 1 (.hs q parts.length 1 0 parts.length false) (.int .i64 k)=some (.ep q parts.length 1 k 0):=by
      rw[EX (kd:=.i64) (hi:=hk2),D1]
     have hid':=Av hid (X++[Blk.var false [.int .i64 ps[k].k,.int .i64 ps[k].v,.str ps[k].nm,tv]]);have hq3:=Av h3 (X++[Blk.var false [.int .i64 ps[k].k,.int .i64 ps[k].v,.str ps[k].nm,tv]]);have hlast:(G++(X++[Blk.var false [.int .i64 ps[k].k,.int .i64 ps[k].v,.str ps[k].nm,tv]]))[G.length+X.length]? = some (.var false [.int .i64 ps[k].k,.int .i64 ps[k].v,.str ps[k].nm,tv]):=by
      rw[<- EM,<- FZ];exact BR _ _
     have e1:G++(X++[Blk.var false [.int .i64 ps[k].k,.int .i64 ps[k].v,.str ps[k].nm,tv]])++X'=G++(X++([Blk.var false [.int .i64 ps[k].k,.int .i64 ps[k].v,.str ps[k].nm,tv]]++X')):=(by simp);rw[e1]at hc;have key:∀ z:Int,(CA parts[k] ps[k]=z)->(z=0->AO MX 147 98 (AE MX) (AL f147 0) ([(0,.hp id 0),(6,.int .i64 i),(74,qv),(75,.int .i64 ps.length),(76,.int .i64 k)],G++X)=some (.nrm,([(0,.hp id 0),(6,.int .i64 i),(74,qv),(75,.int .i64 ps.length),(76,.int .i64 (k+1:Nat))],G++(X++([Blk.var false [.int .i64 ps[k].k,.int .i64 ps[k].v,.str ps[k].nm,tv]]++X'))))) /\
      (z≠0->AO MX 147 98 (AE MX) (AL f147 0) ([(0,.hp id 0),(6,.int .i64 i),(74,qv),(75,.int .i64 ps.length),(76,.int .i64 k)],G++X)=some (.ret,([(4,.int .i64 z)],G++(X++([Blk.var false [.int .i64 ps[k].k,.int .i64 ps[k].v,.str ps[k].nm,tv]]++X'))))):=by
      intro z hz;rw[hz]at hc;rcases hw with⟨rfl,rfl⟩ | rfl | ⟨j,rfl,hj⟩
      .cases hie
      .have hixw:ixA 2 (.sl 2 true es) (.int .i64 i)=some (.ro [.str nm,.hs q parts.length 1 0 parts.length false]):=(by rw[IQ _ _ _ _ .i64 hie,hei']);refine⟨fun h => ?_,fun h => ?_⟩
       .subst h;simp[f147,hk',hfe,hid',Ak hid',hixw,hix,hq3,Ak hq3,h4,hpk,hlast,Ak hlast,hc,hb18,hwk]
       .have hzb:(z != 0)=true:=(by simp[h]);simp[f147,hk',hfe,hid',Ak hid',hixw,hix,hq3,Ak hq3,h4,hpk,hlast,Ak hlast,hc,hb18,hzb]
      .have hixw:ixA 2 (.hs j es.length 2 0 es.length false) (.int .i64 i)=some (.ep j es.length 2 i 0):=(by rw[EX (kd:=.i64) (hi:=hie),D1]);have hj':=Av hj (X++[Blk.var false [.int .i64 ps[k].k,.int .i64 ps[k].v,.str ps[k].nm,tv]]);refine⟨fun h => ?_,fun h => ?_⟩
       .subst h;simp[f147,hk',hfe,hid',Ak hid',hixw,hj',Ak hj',hei,hix,hq3,Ak hq3,h4,hpk,hlast,Ak hlast,hc,hb18,hwk]
       .have hzb:(z != 0)=true:=(by simp[h]);simp[f147,hk',hfe,hid',Ak hid',hixw,hj',Ak hj',hei,hix,hq3,Ak hq3,h4,hpk,hlast,Ak hlast,hc,hb18,hzb]
     obtain⟨k1,k2⟩:=key _ rfl;by_cases hz:CA parts[k] ps[k]=0
     .rw[if_pos hz]at hI;exact .inl ⟨_,k1 hz,hI⟩
     .rw[if_neg hz]at hI;exact .inr ⟨_,_,k2 hz,by simp,_,.inr ⟨by rw[hI],by rw[hI];exact hz⟩⟩) (fun X hI=>by
    rw[C3]at hI;exact⟨_,_,by simp[f147] <;> first | exact⟨rfl,rfl⟩ | rfl,by simp,X,.inl ⟨rfl,by rw[hI];simp[FC]⟩⟩) X0 (by simp)
 obtain⟨X,hq'⟩:=hq';exact⟨X,_,hlp,hq'⟩
theorem c147{l:List AK}(hd:DV l)(p:TyV):∀(px:List AV),AR p px->Sm 1048577 p->∀(n:Nat) (s:Sh) (t:TyV) (S:Nat->Prop) (H:AF) (v:AV) (X:AF),(∀ x,S x->x<H.length)->Bv n S H v s->Em l t s->VT l t ->
 ∃ X',AI MX (AE MX) 147 [v,.agg px] (H++X)=some (.ret (.int .i64 (CA s p)),H++X++X'):=by
 induction p using TyV.ind with
 | h k pv nm ps ih=>
  intro px hpx hsp n s t S H v X hS hs hsh hvt;obtain⟨s1,s2,s3⟩:=hsp.dest;cases n with
  | zero=>exact hs.elim
  | succ n=>
   have hsG:Bv (n+1) S (H++X) v s:=Bv.mono _ hs (fun _ h=>h) (fun x hx=>BA (hS x hx));have hSG:∀ x,S x->x<(H++X).length:=fun x hx=>by have:=hS x hx;simp;omega
   generalize H++X=G at hsG hSG;clear hs hS X H;obtain⟨id,m,w,es,rfl,hid,hw,hsd⟩:=hsG.blk;obtain⟨qv,rfl,hq⟩:=hpx.dest;have hleaf:(((ps.length:Int) == 0)=true->ps=[]):=fun h=>by
    have:ps.length=0:=(by simpa using h);exact E5 this
   have hid':=Av hid [Blk.var false [.int .i64 k,.int .i64 pv,.str nm,qv]];have hw':=hw.app [Blk.var false [.int .i64 k,.int .i64 pv,.str nm,qv]];have hlast:=BR G (Blk.var false [.int .i64 k,.int .i64 pv,.str nm,qv]);have hnm:=c180 nm s1;have h116:=c116 hid' hw';have hlz:((ps.length:Int) == 0)=decide (ps.length=0):=by
    rw[Kt];simp
   have hb8:=VC;simp[Aa,An,f147]at hb8;have hb13:=SO;simp[Aa,An,f147]at hb13;by_cases k0:k=0
   .have e:CA s (.mk k pv nm ps)=if ps.length=0 then 0 else 10:=by
     subst k0;simp only[CA,if_true];by_cases hp:ps.length=0 <;> simp[hp] <;> omega
    rw[e];have k0b:(k == 0)=true:=(by simp[k0]);exact⟨_,Bj GY HX (by simp[AJ,f147,hq.len,hlz,k0b] <;> rfl)⟩
   have k0b:(k == 0)=false:=(by simp[k0]);by_cases k1:k=1
   .have e:CA s (.mk k pv nm ps)=A9 [if ps.length=0 then 0 else 10,if BL nm then 0 else 4]:=by
     subst k1;simp only[CA];by_cases hp:ps.length=0 <;> cases hn:BL nm <;> simp[hp,A9,hn]
     all_goals (have:0<ps.length:=by omega) <;> simp[this]
    rw[e];have k1b:(k == 1)=true:=(by simp[k1]);exact⟨_,Bj GY HX (by simp[AJ,f147,hq.len,hlz,k0b,k1b,hnm,bsA,Aq,List.replicate,AG,AV.AA] <;> rfl)⟩
   have k1b:(k == 1)=false:=(by simp[k1]);by_cases k3:k=3
   .have k3b:(k == 3)=true:=(by simp[k3]);cases hsh with
    | bit _ hbt hwd _=>
     obtain⟨rfl,rfl⟩:=hsd;obtain⟨P,hP⟩:∃ P:Nat,P=2 ^ (Bu t).v.toNat:=⟨_,rfl⟩;have hsl:=cX _ hwd.1 hwd.2;have hPb:P<=65536:=by
      rw[hP];exact DD (OE (by decide) (show(Bu t).v.toNat<=16 by omega)) (by decide)
     have hPp:0<P:=(by rw[hP];exact Nat.pow_pos (by decide));have e:CA (.bit (Bu t).v) (.mk k pv nm ps)=A9 [0,if ps.length=0 then 0 else 10,if 0<=pv/\pv<=(P:Int) - 1 then 0 else 2]:=by
      subst k3;simp only[CA,hP];by_cases hp:ps.length=0
      .simp[hp,A9]
      .have:0<ps.length:=(by omega);simp[hp,this,A9]
     rw[e];rw[<- hP]at hsl;have hwp:wr .i64 ((P:Int) - 1)=(P:Int) - 1:=Cl (by omega) (by omega);simp at h116;exact⟨_,Bj GY HX (by simp[AJ,f147,hq.len,hlz,k0b,k1b,k3b,h116,hid',Ak hid',hlast,hsl,hwp,hb8,He,bsA,Aq,List.replicate,AG,AV.AA] <;> rfl)⟩
    | cons _ ns ss hbt hk2 hn hln hsp' hf=>
     obtain⟨he1,he2,he3⟩:=hsd;have e:CA (.cons ns ss) (.mk k pv nm ps)=26:=(by subst k3;simp[CA]);rw[e];have hne:0<es.length:=by
      have:=(hd.con t hvt hk2 hbt).2.1;rw[he1,hn,Fa];exact Kr.2 this
     have heb:(es.length == 0)=false:=(by simp;intro h;rw[h]at hne;simp at hne);rw[heb]at h116;exact⟨_,Bj GY HX (by simp[AJ,f147,hq.len,hlz,k0b,k1b,k3b,h116,hid',Ak hid',hlast,hb8,He,A9,bsA,Aq,List.replicate,AG,AV.AA] <;> rfl)⟩
   have k3b:(k == 3)=false:=(by simp[k3]);by_cases k2:k=2
   .have k2b:(k == 2)=true:=(by simp[k2]);cases hsh with
    | bit _ hbt hwd _=>
     obtain⟨rfl,rfl⟩:=hsd;have e:CA (.bit (Bu t).v) (.mk k pv nm ps)=6:=(by subst k2;simp[CA]);rw[e];obtain⟨X1,h182⟩:=c182 hid' hw' (ns:=[]) rfl (by simp) (fun k e nm h=>by simp at h) nm;simp[ixI]at h182;exact⟨_,Bj GY HX (by simp[AJ,f147,hq.len,hlz,k0b,k1b,k3b,k2b,h182] <;> rfl)⟩
    | cons _ ns ss hbt hk2 hn hln hsp' hf=>
     obtain⟨he1,he2,he3⟩:=hsd;have hco:=hd.con t hvt hk2 hbt;have hnl:ns.length=(AP l t).length:=(by rw[hn,Fa]);obtain⟨X1,h182⟩:=c182 hid' hw' he1 (by rw[hnl];have:=hco.1;omega) (fun k e nm' h1 h2=>by
      have hks:k<ss.length:=(by have:=(Ae.1 h2).1;omega);obtain⟨pv',e,_⟩:=he3 k e nm' _ h1 h2 (AW hks);exact⟨pv',e⟩) nm
     cases hfi:ns.findIdx? (fun x=>x == nm)with
     | none=>
      rw[hfi]at h182;simp[ixI]at h182;have e:CA (.cons ns ss) (.mk k pv nm ps)=6:=(by subst k2;simp[CA,hfi]);rw[e];exact⟨_,Bj GY HX (by simp[AJ,f147,hq.len,hlz,k0b,k1b,k3b,k2b,h182] <;> rfl)⟩
     | some i=>
      rw[hfi]at h182;simp only[ixI]at h182;have hin:=G8 hfi;have his:i<ss.length:=(by omega);have hie:i<es.length:=(by omega);have hic:i<(AP l t).length:=(by omega);obtain⟨rv,hrow,hP⟩:=he3 i es[i] ns[i] ss[i] (AW hie) (AW hin) (AW his);have hei:es[i]? = some [.str ns[i],rv]:=(by rw[AW hie,hrow]);obtain⟨hpl1,hpl2,hpl3⟩:=hP.len;have hgd:ss.getD i []=ss[i]:=(by simp[his]);have hgd':ss[i]?.getD []=ss[i]:=(by simp[his]);have hsl:=hsp' i _ _ (AW hic) (AW his);have hni:¬ ((i:Int)<0):=(by omega);let B:=Blk.var false [.int .i64 k,.int .i64 pv,.str nm,qv];have hidX:=Av hid ([B]++X1);have hlX:(G++([B]++X1))[G.length]? = some B:=by
       rw[EL (CZ _)];simp
      simp only[B,Fk,FE]at hidX hlX;by_cases hpl:ps.length=ss[i].length
      ·-- its parts
       have e:CA (.cons ns ss) (.mk k pv nm ps)=FC ss[i] ps:=by
        subst k2;simp[CA,hfi,hgd,hgd',hpl]
       rw[e];obtain⟨X2,r,f1,f2⟩:=YF hid hw hei hSG hP hq s2 hpl (fun j hj hj2 px v X hR hv=>by
        have hjf:j<(AP l t)[i].fields.length:=(by omega);have h1:=hf i _ _ j _ _ (AW hic) (AW his) (AW hjf) (AW hj2);exact ih ps[j] (Ap hj) px hR (s3 _ (Ap hj)) n ss[i][j] _ S G v X hSG hv h1 (hd.dok.fld t hvt hk2 hbt _ (Ap hic) _ (Ap hjf))) ([B]++X1)
       simp only[B,Fk,FE]at f1;simp[f147]at f1;have hpb:((ps.length:Int) != (ss[i].length:Int))=false:=(by rw[hpl];simp);have fin:∀ z,(r=(.ext 1,([(0,.hp id 0),(6,.int .i64 i),(74,qv),(75,.int .i64 ps.length),(76,.int .i64 ps.length),(77,.bool false)],G++X2))/\z=0\/r=(.ret,([(4,.int .i64 z)],G++X2))/\z≠0)->AJ MX 147 [.hp id 0,.agg [.int .i64 k,.int .i64 pv,.str nm,qv]] G=some (.ret (.int .i64 z),G++X2):=by
        intro z hz;rcases hw with⟨rfl,rfl⟩ | rfl | ⟨j,rfl,hj⟩
        .cases hie
        .have hixw:ixA 2 (.sl 2 true es) (.int .i64 i)=some (.ro [.str ns[i],rv]):=(by rw[IQ _ _ _ _ .i64 hie,hrow]);rcases hz with⟨rfl,rfl⟩ | ⟨rfl,hz⟩ <;> simp[AJ,f147,hq.len,hq.Ca,hlz,k0b,k1b,k3b,k2b,h182,hni,hidX,Ak hidX,hlX,Ak hlX,hixw,hpl1,hpl2,hpb,hb13,f1]
        .have hixw:ixA 2 (.hs j es.length 2 0 es.length false) (.int .i64 i)=some (.ep j es.length 2 i 0):=(by rw[EX (kd:=.i64) (hi:=hie),D1]);have hjX:=Av hj ([B]++X1);simp only[B,Fk,FE]at hjX;rcases hz with⟨rfl,rfl⟩ | ⟨rfl,hz⟩ <;> simp[AJ,f147,hq.len,hq.Ca,hlz,k0b,k1b,k3b,k2b,h182,hni,hidX,Ak hidX,hlX,Ak hlX,hixw,hjX,Ak hjX,hei,hpl1,hpl2,hpb,hb13,f1]
       exact⟨X2,Bj GY HX (fin _ f2)⟩
      .have e:CA (.cons ns ss) (.mk k pv nm ps)=10:=by
        subst k2;simp[CA,hfi,hgd,hgd',hpl]
       rw[e];have hpb:((ps.length:Int) != (ss[i].length:Int))=true:=(by simp;omega);refine⟨[B]++X1,Bj GY HX ?_⟩;simp only[B,Fk,FE];rcases hw with⟨rfl,rfl⟩ | rfl | ⟨j,rfl,hj⟩
       .cases hie
       .have hixw:ixA 2 (.sl 2 true es) (.int .i64 i)=some (.ro [.str ns[i],rv]):=(by rw[IQ _ _ _ _ .i64 hie,hrow]);simp[AJ,f147,hq.len,hq.Ca,hlz,k0b,k1b,k3b,k2b,h182,hni,hidX,Ak hidX,hlX,Ak hlX,hixw,hpl1,hpl2,hpb,hb13]
       .have hixw:ixA 2 (.hs j es.length 2 0 es.length false) (.int .i64 i)=some (.ep j es.length 2 i 0):=(by rw[EX (kd:=.i64) (hi:=hie),D1]);have hjX:=Av hj ([B]++X1);simp only[B,Fk,FE]at hjX;simp[AJ,f147,hq.len,hq.Ca,hlz,k0b,k1b,k3b,k2b,h182,hni,hidX,Ak hidX,hlX,Ak hlX,hixw,hjX,Ak hjX,hei,hpl1,hpl2,hpb,hb13]
   .have k2b:(k == 2)=false:=(by simp[k2]);have e:CA s (.mk k pv nm ps)=15:=(by simp[CA,k0,k1,k2,k3]);rw[e];exact⟨_,Bj GY HX (by simp[AJ,f147,hq.len,hlz,k0b,k1b,k3b,k2b] <;> rfl)⟩
end
section
theorem RX:∀(l prev:List Bytes),LO prev l=false↔l.Nodup/\∀ x∈l,x ∉ prev
 | [],prev=>by simp[LO]
 | x::r,prev=>by
  have hx:(prev.findIdx? (fun y=>y == x)).isSome=decide (x∈prev):=by
   rw[Mi,Kt,List.any_eq_true,decide_eq_true_iff];exact⟨fun⟨y,hy,e⟩=>beq_iff_eq.1 e ▸ hy,fun h=>⟨x,h,beq_self_eq_true x⟩⟩
  simp only[LO,Bool.or_eq_false_iff,hx,decide_eq_false_iff_not,RX r,List.nodup_cons,Ks,List.mem_singleton,Mk,not_or];constructor
  .rintro⟨h1,h2,h3⟩;exact⟨⟨fun h=>(h3 x h).2 rfl,h2⟩,h1,fun y hy=>(h3 y hy).1⟩
  .rintro⟨⟨h1,h2⟩,h3,h4⟩;exact⟨h3,h2,fun y hy=>⟨h4 y hy,fun e=>h1 (e ▸ hy)⟩⟩
def Il(l:List Bytes):List Bytes:=l.mergeSort fun x y=>decide (x<=y)
theorem Nk(l:List Bytes):(Il l).Perm l:=List.mergeSort_perm l _
theorem Ot(l:List Bytes):(Il l).length=l.length:=(Nk l).length_eq
theorem YG(l:List Bytes):(Il l).Pairwise (· <= ·):=by
 have:=List.pairwise_mergeSort (le:=fun x y:Bytes=>decide (x<=y)) (fun a b c h k=>by
  simp only[decide_eq_true_eq]at *;exact List.le_trans h k) (fun a b=>by
  rw[L3,decide_eq_true_eq,decide_eq_true_eq];exact List.le_total a b) l
 exact this.imp fun h=>by simpa using h
theorem N8{s:List Bytes}(hs:s.Pairwise (· <= ·)):(Lib.compact s).length=s.length↔s.Nodup:=by
 have hk:(Lib.compact s).length=s.length↔∀ j,j<s.length->Lib.keeps s.toArray j=true:=by
  unfold Lib.compact Lib.compactUpTo;rw[Fa];have := @List.length_filter_eq_length_iff _ (Lib.keeps s.toArray) (List.range s.length);rw[List.length_range]at this;rw[this];exact⟨fun h j hj=>h j (JJ.2 hj),fun h j hj=>h j (JJ.1 hj)⟩
 rw[hk];have hg:∀ j (hj:j<s.length),s.toArray[j]! = s[j]:=fun j hj=>by simp[getElem!_pos,hj]
 constructor
 .intro h;unfold List.Nodup;rw[Mf];intro i j hi hj hij e;rw[Mf]at hs;have h1:=h (i+1) (by omega);simp only[Lib.keeps,decide_eq_true_eq]at h1;rcases h1 with h1 | h1
  .omega
  rw[hg (i+1) (by omega),Nat.add_sub_cancel,hg i hi]at h1;apply h1;have a1:s[i]<=s[i+1]:=hs i (i+1) hi (by omega) (by omega);by_cases hj1:i+1=j
  .subst hj1;exact e.symm
  .have a2:s[i+1]<=s[j]:=hs (i+1) j (by omega) hj (by omega);rw[<- e]at a2;exact List.le_antisymm a2 a1
 .intro h j hj;simp only[Lib.keeps,decide_eq_true_eq];by_cases h0:j=0
  .exact .inl h0
  .refine .inr fun e => ?_
   rw[hg j hj,hg (j - 1) (by omega)]at e;exact Mf.1 h (j - 1) j (by omega) hj (by omega) e.symm
theorem P1(l:List Bytes):((Lib.compact (Il l)).length=l.length)↔LO [] l=false:=by
 rw[<- Ot l,N8 (YG l),(Nk l).nodup_iff,RX];simp
end
section
attribute [local simp] C7 Br EW DL CG Dd Du Eu BZ Ar Bg Al GV FF EF HE D4 Ax FB EG HF HG xUn E7 D5 FG BF DH BG D6 BH D7 Ce CX Bw BJ EH Ej
 ev evs C4 DE OR.ofV OR.Dz OR.ofC FP Tm.get Tm.init Tm.only A1 A8 CM finish CF DJ HR Dy D3 unA B7 Bb B8 Bc Co Cp Cq Bd Cr Cs Be Ct Cu Bf B9 AL CQ Ba Cm Cn B6 Ev Ew Ey Dv Dw Fl F8 F9 Fm stA Ay Db Bn DI E8 Gt Bs C6 CI FI Gu
attribute [local simp] CJ Bi Bt BN DQ DR DS DT DU DW DX Ec Cg Ed Dh FR FT Gf Di Ee Dj BO Dk BP Dl CD Ef Ch FU FV FW Ci Dm Dn FX Gg FY Gh Gi Dp BQ Cj CE Dq Dr Ck
theorem T9{f:FuncId}{args:List AV}{h:AF}{r:CR×AF}{e:List AV->AF->Option (CR×AF)}(hm:MX.mode f = { })(he:MX.eff f=some e)(hr:e args h=some r):AI MX (AE MX) f args h=some r:=by
 unfold AI;simp only[hm];exact Lr he hr
theorem Ou(l:List Bytes):Iv (strs l)=some l:=MD l
theorem c149{Y:AF}{l:List Bytes}(hl:l≠[])(hb:l.length<4294967296):AI MX (AE MX) 149 [.hs Y.length l.length 1 0 l.length false] (Y++[.arr 1 false (strs l)])=some (.ret (.tup []),Y++[.arr 1 false (strs (Il l))]):=by
 refine T9 Qs TY ?_;have h1:(Y++[Blk.arr 1 false (strs l)])[Y.length]? = some (.arr 1 false (strs l)):=BR _ _;have h2:(strs l).length=l.length:=by simp[strs]
 have h0:0<l.length:=Kr.2 hl;have hc:(Nat.beq (strs l).length l.length&&Nat.beq l.length l.length&&Nat.blt 0 l.length&&Nat.blt l.length 4611686018427387904)=true:=by
  rw[h2];simp only[BU,Bl,FQ];exact⟨⟨⟨trivial,trivial⟩,h0⟩,by omega⟩
 simp only[Qb,h1,Ou,hc];have hset:(Y++[Blk.arr 1 false (strs l)]).set Y.length (.arr 1 false (strs (Il l)))=Y++[.arr 1 false (strs (Il l))]:=by simp
 exact congrArg (fun z=>some (CR.ret (AV.tup []),z)) hset
theorem c150{Y:AF}{B:Blk}{l:List Bytes}(hl:l≠[])(hb:l.length<4294967296):∃ Z,AI MX (AE MX) 150 [.hs (Y.length+1) l.length 1 0 l.length false] (Y++[B,.arr 1 false (strs l)])=some (.ret (.hs (Y.length+1) l.length 1 0 (Lib.compact l).length false),Y++[B,Z]):=by
 refine⟨.arr 1 false (strs (Lib.compact l++List.replicate (l.length - (Lib.compact l).length) [])),T9 Qt TZ ?_⟩
 .have h1:(Y++[B,Blk.arr 1 false (strs l)])[Y.length+1]? = some (.arr 1 false (strs l)):=by simp
  have h2:(strs l).length=l.length:=by simp[strs]
  have h0:0<l.length:=Kr.2 hl;have hc:(Nat.beq (strs l).length l.length&&Nat.beq l.length l.length&&Nat.blt 0 l.length&&Nat.blt l.length 4611686018427387904)=true:=by
   rw[h2];simp only[BU,Bl,FQ];exact⟨⟨⟨trivial,trivial⟩,h0⟩,by omega⟩
  simp only[Jb,h1,Ou,hc];have hset:∀ C,(Y++[B,Blk.arr 1 false (strs l)]).set (Y.length+1) C=Y++[B,C]:=fun C=>by simp
  exact congrArg (fun z=>some (CR.ret (AV.hs (Y.length+1) l.length 1 0 (Lib.compact l).length false),z)) (hset _)
theorem u100:und MX.ty 100=some (.slice 9):=by kernel_rfl
theorem c151{Y:AF}{l:List Bytes}(hl:l≠[])(hb:l.length<4294967296):AI MX (AE MX) 151 [.hs Y.length l.length 1 0 l.length false] (Y++[.arr 1 false (strs l)])=some (.ret (.hs (Y.length+1) l.length 1 0 l.length false),Y++[.arr 1 true (strs l),.arr 1 false (strs l)]):=by
 have h1:(Y++[Blk.arr 1 false (strs l)])[Y.length]? = some (.arr 1 false (strs l)):=BR _ _;have h2:(strs l).length=l.length:=by simp[strs]
 have h0:0<l.length:=Kr.2 hl;have hall:=HC l;have hsn:Am.snap Ds (.hs Y.length l.length 1 0 l.length false) (Y++[Blk.arr 1 false (strs l)])=some (.sl 1 false (strs l),(Y++[Blk.arr 1 false (strs l)]).set Y.length (.arr 1 true (strs l))):=by
  have hb:(Nat.beq (strs l).length l.length&&Nat.beq 1 1&&Nat.ble (0+l.length) (strs l).length&&(strs l).all AG)=true:=by
   rw[h2,hall];simp[A1,A8]
  have:BB 1 (.hs Y.length l.length 1 0 l.length false) (Y++[Blk.arr 1 false (strs l)]) (.sl 1 false (strs l)) ((Y++[Blk.arr 1 false (strs l)]).set Y.length (.arr 1 true (strs l))):=fun n=>by
   simp only[Am.snap,h1,hb];have:(strs l).take l.length=strs l:=DC (by omega);simp[this]
  exact this.at (by decide)
 have hset:(Y++[Blk.arr 1 false (strs l)]).set Y.length (.arr 1 true (strs l))=Y++[.arr 1 true (strs l)]:=by simp
 rw[hset]at hsn;have e2:l.length * 16<=17592186044416:=by omega
 have e3:l.length<=17592186044416:=by omega
 have hne:strs l≠[]:=fun h=>by rw[h]at h2;simp at h2;omega
 have hap:∀ H:AF,apA 1 16 (.sl 1 true []) (.sl 1 false (strs l)) H=some (.hs H.length l.length 1 0 l.length false,H++[.arr 1 false (strs l)]):=fun H=>by
  have hrd:A7 H (.sl 1 false (strs l))=some (strs l):=rfl;cases he:strs l with
  | nil=>exact absurd he hne
  | cons a r=>
   rw[he]at hrd h2;simp only[D8]at h2;simp[apA,apX,CC,BM,F6,A3,A1,A8,CM,hrd,h2,e2,e3]
 refine FA (by simp[NO]) (args':=[.sl 1 false (strs l)]) (h':=Y++[Blk.arr 1 true (strs l)]) (by simp[A4,AV.AA,hsn]) (by simp[AV.AA] <;> exact D0.1 hall) ?_;have hap0:=hap [];simp only[IB,FE]at hap0;have hcl:=LV (H:=[.arr 1 false (strs l)]) (a:=.hs 0 l.length 1 0 l.length false) (l:=l) (.inr ⟨0,hl,rfl,rfl⟩) (Y++[.arr 1 true (strs l)]);have hnv:nv l (Y++[Blk.arr 1 true (strs l)]).length=.hs (Y.length+1) l.length 1 0 l.length false:=by cases l with
  | nil=>exact absurd rfl hl
  | cons a r=>simp[nv]
 have hnb:nb l=[.arr 1 false (strs l)]:=by cases l with
  | nil=>exact absurd rfl hl
  | cons a r=>rfl
 rw[hnv,hnb]at hcl;have:=MH NO Ta (by simp[AV.AA] <;> exact D0.1 hall) (args:=[.sl 1 false (strs l)]) (v:=.hs 0 l.length 1 0 l.length false) (hr:=[.arr 1 false (strs l)]) (h:=Y++[Blk.arr 1 true (strs l)]) (by simp[AJ,f151,u100,eqA,bsA,Aq,List.replicate,AG,AV.AA,hap0]) hcl;rw[this];simp
theorem c83{l:List AK}(hd:DV l){p:TyV}{px:List AV}(hx:AR p px)(hsm:Sm 1048577 p){n:Nat}{s:Sh}{t:TyV}{S:Nat->Prop}{H:AF}{v:AV}(hS:∀ x,S x->x<H.length)(hs:Bv n S H v s)(hsh:Em l t s)(hvt:VT l t)(X:AF) :
 ∃ X',AI MX (AE MX) 83 [v,.agg px] (H++X)=some (.ret (.int .i64 (GG s p)),H++X++X'):=by
 have h145:=c145 hx hsm;obtain⟨X2,h147⟩:=c147 hd p px hx hsm n s t S H v (X++[Blk.var false px]) hS hs hsh hvt;obtain⟨id,rfl⟩:=hs.hp;have e1:H++(X++[Blk.var false px])++X2=H++(X++(Blk.var false px::X2)):=by simp
 rw[e1]at h147;obtain⟨Y,hY⟩:∃ Y,Y=H++(X++(Blk.var false px::X2)):=⟨_,rfl⟩;rw[<- hY]at h147;have hbox:Y[H.length+X.length]? = some (.var false px):=by
  rw[hY,<- EM,<- FZ,EL (CZ _),Nat.sub_self];rfl
 have hlast:(H++(X++[Blk.var false px]))[H.length+X.length]? = some (.var false px):=by
  rw[<- EM,<- FZ];exact BR _ _
 unfold GG;cases hT:Bp p with
 | false=>
  rw[hT]at h145;simp at h145;obtain⟨qv,rfl,hq⟩:=hx.Ab;exact⟨[Blk.var false [.int .i64 p.k,.int .i64 p.v,.str p.nm,qv]],Bj LB NH (by simp[AJ,f83,h145])⟩
 | true=>
  rw[hT]at h145;simp at h145;by_cases hz:CA s p=0
  .rw[hz]at h147;have hnl:=LN hT;have h148:=c148 p px hx hsm (by omega) Y;have hfin:∃ Z,AI MX (AE MX) 83 [.hp id 0,.agg px] (H++X)=some (.ret (.int .i64 (if LO [] (BS p)=true then 23 else 0)),Y++Z):=by
    obtain⟨qv,rfl,hq⟩:=hx.Ab;cases hn:BS p with
    | nil=>
     rw[hn]at h148;simp[nv,nb]at h148;have h149:AI MX (AE MX) 149 [.AH] Y=some (.ret (.tup []),Y):=T9 Qs TY rfl;have h151:AI MX (AE MX) 151 [.AH] Y=some (.ret .AH,Y):=by
      have hcl:=LV (H:=[]) (a:=.AH) (l:=[]) (.inl ⟨rfl,rfl⟩) Y;simp[nv,nb]at hcl;exact MH NO Ta rfl (v:=.AH) (hr:=[]) (by simp[AJ,f151,u100,eqA]) hcl
     have h150:AI MX (AE MX) 150 [.AH] Y=some (.ret .AH,Y):=T9 Qt TZ rfl;exact⟨[],Bj LB NH (by simp[AJ,f83,h145,hlast,h147,hbox,Ak hbox,h148,h149,h150,h151,LO])⟩
    | cons a r=>
     obtain⟨L,hL⟩:∃ L,L=a::r:=⟨_,rfl⟩;rw[<- hL]at hn ⊢;have hne:L≠[]:=(by rw[hL];exact List.cons_ne_nil _ _);have hLl:L.length<4294967296:=(by rw[<- hn];omega);rw[hn]at h148;have hnv:nv L Y.length=.hs Y.length L.length 1 0 L.length false:=(by rw[hL];rfl);have hnb:nb L=[.arr 1 false (strs L)]:=(by rw[hL];rfl);rw[hnv,hnb]at h148;have h149:=c149 (Y:=Y) hne hLl;have hsl:=Ot L;have hsne:Il L≠[]:=fun h=>by rw[h]at hsl;exact hne (E5 hsl.symm)
     have h151:=c151 (Y:=Y) hsne (by rw[hsl];exact hLl);obtain⟨Z,h150⟩:=c150 (Y:=Y) (B:=.arr 1 true (strs (Il L))) hsne (by rw[hsl];exact hLl);rw[hsl]at h150 h151;have hcd:=P1 L;cases hdd:LO [] L with
     | true=>
      have hnc:(((Lib.compact (Il L)).length:Int) == (L.length:Int))=false:=by
       rw[beq_eq_false_iff_ne];intro h;have:=hcd.1 (by omega);rw[hdd]at this;cases this
      exact⟨[.arr 1 true (strs (Il L)),Z],Bj LB NH (by simp[AJ,f83,h145,hlast,h147,hbox,Ak hbox,h148,h149,h151,h150,hnc])⟩
     | false=>
      have hnc:(((Lib.compact (Il L)).length:Int) == (L.length:Int))=true:=by
       rw[beq_iff_eq];have:=hcd.2 hdd;omega
      exact⟨[.arr 1 true (strs (Il L)),Z],Bj LB NH (by simp[AJ,f83,h145,hlast,h147,hbox,Ak hbox,h148,h149,h151,h150,hnc])⟩
   obtain⟨Z,hfin⟩:=hfin;refine⟨(Blk.var false px::X2)++Z,?_⟩;rw[hfin,hY];simp[hz]
  .have hzb:(CA s p != 0)=true:=(by simp[hz]);refine⟨Blk.var false px::X2,?_⟩;have e2:H++X++(Blk.var false px::X2)=Y:=(by rw[hY,EM]);rw[e2,if_neg (by simp),if_neg hz];obtain⟨qv,rfl,hq⟩:=hx.Ab;exact Bj LB NH (by simp[AJ,f83,h145,hlast,h147,hzb])
theorem Nl:∀(l prev:List Bytes),DP prev l=0->l.Nodup/\∀ x∈l,x ∉ prev
 | [],prev,_=>⟨List.nodup_nil,fun x h=>by cases h⟩
 | x::r,prev,h=>by
  simp only[DP]at h;split at h
  .cases h
  .split at h
   .cases h
   .rename_i h2;obtain⟨h3,h4⟩:=Nl r _ h;have hx:x ∉ prev:=fun hm=>h2 (by
     rw[Mi,List.any_eq_true];exact⟨x,hm,beq_self_eq_true x⟩)
    refine⟨List.nodup_cons.2 ⟨fun hm=>h4 x hm (by simp),h3⟩,fun y hy => ?_⟩;rcases Cd.1 hy with rfl | hy
    .exact hx
    .exact fun hm=>h4 y hy (Ks.2 (.inl hm))
theorem RY{d:AK}{l:List AK}(h:Bq d l=0):d.params.Nodup:=by
 have h2:DP [] d.params=0:=by
  unfold Bq at h
  repeat (split at h;first | cases h | skip)
  .rename_i h2;exact h2
  .exact h
 exact(Nl _ _ h2).1
theorem eR{l:List AK}(h:(A5 l).2=0):∀ d∈l,d.params.Nodup:=fun d hdm=>by
 unfold A5 at h;split at h
 .cases h
 .obtain⟨pre,post,e,he⟩:=J8 l [] h d hdm;exact RY he
section
variable{l:List AK}{lv:AV}(hl:SlR Ac 3 l lv)(hsl:SmL 1048577 l)
include hl hsl
theorem c82{t:TyV}{xs:List AV}(hx:AR t xs)(hst:Sm 1048577 t)(H:AF) :
 ∃ v H',AI MX (AE MX) 82 [lv,.agg xs] H=some (.ret (.tup [v,.int .i64 (E2 l t)]),H')/\(∀ x,x<H.length->H'[x]? = H[x]?)/\(E2 l t=0->DV l/\VT l t/\Em l t (Eh l t)/\∃ n S,(∀ x,S x->x<H'.length)/\Bv n S H' v (Eh l t)):=by
 have h143:=c143 hl hsl hx hst;by_cases hz:E2 l t=0
 .obtain⟨h1,h2,h3⟩:=LP hz;have hd:=Jn h1;obtain⟨v,H',q1,q2,q3,q4⟩:=c144 hl hsl.1 hsl hd (eR h1) h3 h2 0 t xs [] [] .Ga (fun _=>False) (H++[Blk.var false xs]) hx h2 (fun a h=>by cases h) rfl (RP [] t) (fun x h=>h.elim) (.inl ⟨rfl,rfl⟩);obtain⟨pv,rfl,hp⟩:=hx.Ab;refine⟨v,H',Bj TN Wb ?_,fun x hx=>by rw[q3 x (by simp;omega)];exact BA hx,fun _=>⟨hd,h2,h3,_,_,fun x hx=>hx.2,q4⟩⟩;simp[AJ,f82,h143,hz,q1]
 .have hzb:(E2 l t != 0)=true:=by simp[hz]
  obtain⟨pv,rfl,hp⟩:=hx.Ab;exact⟨.ED,_,Bj TN Wb (by simp[AJ,f82,h143,hzb] <;> rfl),fun x hx=>BA hx,fun h=>absurd h hz⟩
theorem c79{t:TyV}{xs:List AV}(hx:AR t xs)(hst:Sm 1048577 t){arms:List TyV}{av:AV}(ha:SlR AR 4 arms av)(hal:arms.length<1048577)(has:∀ p∈arms,Sm 1048577 p)(H:AF) :
 ∃ v H',AI MX (AE MX) 79 [lv,.agg xs,av] H=some (.ret (.tup [v,.int .i64 (BW l t arms).1,.int .i64 (BW l t arms).2]),H')/\(∀ x,x<H.length->H'[x]? = H[x]?)/\((BW l t arms).2=0->∃ n S,(∀ x,S x->x<H'.length)/\Bv n S H' v (Eh l t)):=by
 obtain⟨v,H1,h82,hold,hok⟩:=c82 hl hsl hx hst (H++[Blk.var false xs]);have hlt:H.length<H1.length:=by
  have h1:=hold H.length (by simp);rw[BR]at h1;exact(Ae.1 h1).1
 have ho1:∀ x,x<H.length->H1[x]? = H[x]? := fun x hx=>by
  rw[hold x (by simp;omega)];exact BA hx
 have ho2:∀(X:AF) x,x<H.length->(H1++X)[x]? = H[x]? := fun X x hx=>by
  rw[BA (by omega)];exact ho1 x hx
 obtain⟨pv,rfl,hp⟩:=hx.Ab;unfold BW;by_cases hz:E2 l t=0
 .rw[if_pos hz];obtain⟨hd,hv,hsh,n,S,hS,hs⟩:=hok hz;rw[hz]at h82;by_cases h0:arms.length=0
  .rw[if_pos h0];have g0:¬ ((0:Int)<(arms.length:Int)):=(by omega);have g1:(arms.length:Int)<=12:=(by omega);have e0:arms=[]:=E5 h0;exact⟨.ED,H1,Bj LA NG (by simp[AJ,f79,h82,ha.len,e0,bsA,Aq,List.replicate,AG,AV.AA,A9]),ho1,fun h=>by cases h⟩
  .rw[if_neg h0];have g0:(0:Int)<(arms.length:Int):=(by omega);by_cases h12:12<arms.length
   .rw[if_pos h12];have g1:¬ ((arms.length:Int)<=12):=(by omega);have g2:¬ (arms.length<=12):=(by omega);have g3:0<arms.length:=(by omega);exact⟨.ED,H1,Bj LA NG (by simp[AJ,f79,h82,ha.len,g0,g1,g2,g3,bsA,Aq,List.replicate,AG,AV.AA,A9]),ho1,fun h=>by cases h⟩
   .rw[if_neg h12];have g1:(arms.length:Int)<=12:=(by omega);have g2:arms.length<=12:=(by omega);have g3:0<arms.length:=(by omega);obtain⟨e,st,hlp,hq⟩:=AU (M:=MX) (fid:=79) (N:=50) (C:=AE MX) (c:=AL f79 0) (n:=arms.length)
     (fun i (X:AF)=>([(9,v),(34,av),(35,.int .i64 arms.length),(36,.int .i64 i)],H1++X))
     (fun i X=>HB (Eh l t) 0 arms=HB (Eh l t) i (arms.drop i))
     (fun r=>∃ X,(r=(.ext 0,([(9,v),(34,av),(35,.int .i64 arms.length),(36,.int .i64 arms.length),(37,.bool false)],H1++X))/\HB (Eh l t) 0 arms=(0,0))\/(r=(.ret,([(6,.ED),(7,.int .i64 (HB (Eh l t) 0 arms).1),(8,.int .i64 (HB (Eh l t) 0 arms).2)],H1++X))/\(HB (Eh l t) 0 arms).2≠0)) (fun i X hi hI=>by
       have hi':=AZ hi;have hw:=AY hi hal;obtain⟨fe,hfe,hR⟩:=ha.ix hi;obtain⟨X',hc⟩:=c83 hd hR (has _ (Ap hi)) hS hs hsh hv (X++[Blk.var false fe]);rw[De hi]at hI;simp only[HB]at hI;obtain⟨tv,rfl,htv⟩:=hR.Ab;obtain⟨id,rfl⟩:=hs.hp;have e1:H1++(X++[Blk.var false [.int .i64 arms[i].k,.int .i64 arms[i].v,.str arms[i].nm,tv]])++X'=H1++(X++(Blk.var false [.int .i64 arms[i].k,.int .i64 arms[i].v,.str arms[i].nm,tv]::X')):=(by simp);rw[e1]at hc;have hlast:(H1++(X++[Blk.var false [.int .i64 arms[i].k,.int .i64 arms[i].v,.str arms[i].nm,tv]]))[H1.length+X.length]? = some (.var false [.int .i64 arms[i].k,.int .i64 arms[i].v,.str arms[i].nm,tv]):=by
        rw[<- EM,<- FZ];exact BR _ _
       by_cases hz2:GG (Eh l t) arms[i]=0
       .rw[if_pos hz2]at hI;rw[hz2]at hc;exact .inl ⟨X++(Blk.var false [.int .i64 arms[i].k,.int .i64 arms[i].v,.str arms[i].nm,tv]::X'),by simp[f79,hi',hfe,hlast,hc,hw],hI⟩
       .rw[if_neg hz2]at hI;have hzb:(GG (Eh l t) arms[i] != 0)=true:=(by simp[hz2]);refine .inr ⟨_,_,by simp[f79,hi',hfe,hlast,hc,hzb] <;> first | exact⟨rfl,rfl⟩ | rfl,by simp,X++(Blk.var false [.int .i64 arms[i].k,.int .i64 arms[i].v,.str arms[i].nm,tv]::X'),.inr ?_⟩;rw[hI];exact⟨rfl,hz2⟩) (fun X hI=>by
       rw[C3]at hI;exact⟨_,_,by simp[f79] <;> first | exact⟨rfl,rfl⟩ | rfl,by simp,X,.inl ⟨rfl,by rw[hI];rfl⟩⟩) [] (by simp)
    obtain⟨X,hq⟩:=hq;simp[f79]at hlp;obtain⟨id,rfl⟩:=hs.hp;rcases hq with⟨hq,hr⟩ | ⟨hq,hr⟩
    .cases hq;rw[hr];exact⟨.hp id 0,H1++X,Bj LA NG (by simp[AJ,f79,h82,ha.len,g0,g1,g2,g3,bsA,Aq,List.replicate,AG,AV.AA,A9,hlp]),ho2 X,fun _=>⟨n,S,fun x hx=>by have:=hS x hx;simp;omega,hs.mono n (fun _ h=>h) fun x hx=>BA (hS x hx)⟩⟩
    .cases hq;exact⟨.ED,H1++X,Bj LA NG (by simp[AJ,f79,h82,ha.len,g0,g1,g2,g3,bsA,Aq,List.replicate,AG,AV.AA,A9,hlp]),ho2 X,fun h=>absurd h hr⟩
 .rw[if_neg hz];have hzb:(E2 l t != 0)=true:=by simp[hz]
  have hfo:∀ a b,A9 [E2 l t,a,b]=E2 l t:=fun a b=>by simp[A9,hz]
  exact⟨.ED,H1,Bj LA NG (by simp[AJ,f79,h82,ha.len,hfo,hzb,bsA,Aq,List.replicate,AG,AV.AA]),ho1,fun h=>absurd h hz⟩
end
inductive Nn:TyV->List AV->Prop where
 | nil (v:Int) (nm:Bytes):Nn (.mk 0 v nm []) [.str nm,.int .i64 v,.AH]
 | sl (v:Int) (nm:Bytes) (ps:List TyV) (ex:Bool) (es:List (List AV)) (hl:es.length=ps.length) (h:∀(i:Nat) t e,ps[i]? = some t->es[i]? = some e->Nn t e) :
  Nn (.mk 0 v nm ps) [.str nm,.int .i64 v,.sl 3 ex es]
mutual
def same:TyV->TyV->Bool
 | .mk k v nm ps,t=>decide (k=t.k)&&(decide (v=t.v)&&((nm == t.nm)&&(decide (ps.length=t.ps.length)&&cY ps t.ps)))
def cY:List TyV->List TyV->Bool
 | [],_=>true
 | p::r,q=>same p (q.headD default)&&cY r q.tail
end
theorem Ea:∀{ss:List Sh} {ps:List TyV},ps.length=ss.length->(FC ss ps=0↔∀(i:Nat) x p,ss[i]? = some x->ps[i]? = some p->CA x p=0)
 | [],[],_=>by simp[FC]
 | x::ss,p::ps,h=>by
  show(if CA x p=0 then FC ss ps else CA x p)=0↔_;have ih:=Ea (ss:=ss) (ps:=ps) (by simpa using h);by_cases h0:CA x p=0
  .rw[if_pos h0,ih];constructor
   .intro g i y q h1 h2;cases i with
    | zero=>simp at h1 h2;rw[<- h1,<- h2];exact h0
    | succ i=>exact g i y q (by simpa using h1) (by simpa using h2)
   .intro g i y q h1 h2;exact g (i+1) y q (by simpa using h1) (by simpa using h2)
  .rw[if_neg h0];exact⟨fun g=>absurd g h0,fun g=>g 0 x p rfl rfl⟩
 | [],p::ps,h=>by simp at h
 | x::ss,[],h=>by simp at h
def WW(H:AF)(w:AV)(es:List (List AV)):Prop:=(w=.AH/\es=[])\/w=.sl 3 true es\/∃ j,w=.hs j es.length 3 0 es.length false/\H[j]? = some (.arr 3 false es)
theorem WW.row{H:AF}{w:AV}{es:List (List AV)}(h:WW H w es){i:Nat}(hi:i<es.length):∃ p,ixA 3 w (.int .i64 i)=some p/\∀ X,D2 (H++X) p=some es[i]:=by
 rcases h with⟨rfl,rfl⟩ | rfl | ⟨j,rfl,h⟩
 .cases hi
 .exact⟨.ro es[i],IQ _ _ _ _ .i64 hi,fun X=>rfl⟩
 .refine⟨.ep j es.length 3 i 0,by rw[EX (kd:=.i64) (hi:=hi),D1],fun X => ?_⟩;have:=Av h X;simp[Fm,this,A1,hi]
theorem HY.blk{n:Nat}{S:Nat->Prop}{H:AF}{v:AV}{s:Sh}(h:HY (n+1) S H v s):∃ id m w es,v=.hp id 0/\H[id]? = some (.var false [.int .i64 m,w])/\WW H w es /\
 match s with
 | .bit k=>m=k/\es=[]/\w=.AH
 | .cons ns ss=>w≠.AH/\es.length=ns.length/\ss.length=ns.length/\∀(k:Nat) e nm parts,es[k]? = some e->ns[k]? = some nm->ss[k]? = some parts->∃ fv pv,e=[.str nm,fv,pv]/\Jl (HY n S H) S H pv parts:=by
 cases s with
 | bit k=>
  obtain⟨id,rfl,_,h2⟩:=h;exact⟨id,k,.AH,[],rfl,h2,.inl ⟨rfl,rfl⟩,rfl,rfl,rfl⟩
 | cons ns ss=>
  obtain⟨id,rfl,_,w,es,h2,h3,h4,h5,h6⟩:=h;refine⟨id,0,w,es,rfl,h2,?_,?_,h3,h4,h6⟩
  .rcases h5 with h | ⟨j,_,h,hj⟩
   .exact .inr (.inl h)
   .exact .inr (.inr ⟨j,h,hj⟩)
  .rcases h5 with rfl | ⟨j,_,rfl,hj⟩ <;> intro e <;> cases e
theorem c63{k:GA}{xs:List AV}(hx:Fb k xs)(hsk:SmT 1048577 k)(H:AF):∃ v H',AI MX (AE MX) 63 [.agg xs] H=some (.ret (.tup [v,.int .i64 (BW k.data k.ty k.arms).2]),H')/\(∀ x,x<H.length->H'[x]? = H[x]?)/\((BW k.data k.ty k.arms).2=0->∃ n S,(∀ x,S x->x<H'.length)/\Bv n S H' v (Eh k.data k.ty)):=by
 obtain⟨dv,pv,av,rfl,hd,hp,ht,ha⟩:=hx.dest;obtain⟨s1,s2,s3,s4⟩:=hsk;obtain⟨v,H',hc,hold,hok⟩:=c79 hd s1 ht s2 ha s3 s4 (H++[.var false [dv,.int .i64 k.ty.k,.int .i64 k.ty.v,.str k.ty.nm,pv,av]]);exact⟨v,H',Bj ZD dU (by simp[AJ,f63,hc]),fun x hx=>by rw[hold x (by simp;omega)];exact BA hx,hok⟩
theorem c12{k:GA}{xs:List AV}(hx:Fb k xs)(hsk:SmT 1048577 k)(h:AF):AI MX (AE MX) 12 [.agg xs] h=some (.ret (.int .i64 (BW k.data k.ty k.arms).2),h):=by
 have h32:=c32 hx hsk (okF k.data);obtain⟨dv,pv,av,rfl,hd,hp,ht,ha⟩:=hx.dest;exact Af Y7 dM (by simp[AV.AA,AG,hd.AA,hp.AA,ha.AA]) rfl (hr:=_) (by simp[AJ,Tryz.f12,h32] <;> rfl) h
theorem I3{s:Sh}{k v:Int}{nm:Bytes}{ps:List TyV}(h:CA s (.mk k v nm ps)=0) :
 (k=0/\ps=[])\/(k=1/\ps=[])\/(k=3/\ps=[]/\∃ n,s=.bit n)\/(k=2/\∃ ns ss i,s=.cons ns ss/\ns.findIdx? (fun x=>x == nm)=some i/\ps.length=(ss.getD i []).length/\FC (ss.getD i []) ps=0):=by
 have hnil:¬ 0<ps.length->ps=[]:=fun h=>E5 (by omega)
 simp only[CA]at h;by_cases k0:k=0
 .rw[if_pos k0]at h;by_cases hp:0<ps.length
  .rw[if_pos hp]at h;cases h
  .exact .inl ⟨k0,hnil hp⟩
 .rw[if_neg k0]at h;by_cases k1:k=1
  .rw[if_pos k1]at h;by_cases hp:0<ps.length
   .rw[if_pos hp]at h;cases h
   .exact .inr (.inl ⟨k1,hnil hp⟩)
  .rw[if_neg k1]at h;by_cases k3:k=3
   .rw[if_pos k3]at h;cases s with
    | bit n=>
     simp only at h;by_cases hp:0<ps.length
     .rw[if_pos hp]at h;cases h
     .exact .inr (.inr (.inl ⟨k3,hnil hp,n,rfl⟩))
    | cons ns ss=>cases h
   .rw[if_neg k3]at h;by_cases k2:k=2
    .rw[if_pos k2]at h;cases s with
     | bit n=>cases h
     | cons ns ss=>
      simp only at h;split at h
      .cases h
      .rename_i i hi;by_cases hl:ps.length=(ss.getD i []).length
       .rw[if_neg (fun g=>g hl)]at h;exact .inr (.inr (.inr ⟨k2,ns,ss,i,rfl,hi,hl,h⟩))
       .rw[if_pos hl]at h;cases h
    .rw[if_neg k2]at h;cases h
theorem u32:und MX.ty 32=some (.slice 34):=by kernel_rfl
theorem SlR.Pj{α:Type}{R:α->List AV->Prop}{sz:Nat}{l:List α}{v:AV}(hv:SlR R sz l v)(h:AF):BB 1 v h v h:=fun n=>by
 have hn:=hv.AA;rcases hv with⟨_,rfl⟩ | ⟨ex,es,rfl,_⟩
 .rfl
 .simp[AV.AA]at hn;simp[Am.snap,hn]
theorem Mc{α:Type}{R:α->List AV->Prop}{sz:Nat}{l:List α}{v:AV}(hv:SlR R sz l v)(ids:List Nat):Vi ids v=ids:=by
 rcases hv with⟨_,rfl⟩ | ⟨_,_,rfl,_⟩ <;> rfl
theorem KA{α:Type}{R:α->List AV->Prop}{sz:Nat}{l:List α}{v:AV}(hv:SlR R sz l v)(b:Nat)(ids:List Nat):GC b ids v=some v:=by
 have hn:=hv.AA;rcases hv with⟨_,rfl⟩ | ⟨_,_,rfl,_⟩
 .rfl
 .simp only[GC,hn]
theorem c15{k:GA}{xs:List AV}(hx:Fb k xs)(hsk:SmT 1048577 k):∃ w pv es,SlR Ac 3 k.data w/\SlR AR 4 k.ty.ps pv/\AR k.ty [.int .i64 k.ty.k,.int .i64 k.ty.v,.str k.ty.nm,pv]/\es.length=k.arms.length/\(∀(i:Nat) p e,k.arms[i]? = some p->es[i]? = some e->AR p e) /\
 ((k.arms=[]/\∀ h,AI MX (AE MX) 15 [.agg xs] h=some (.ret (.agg [w,.int .i64 k.ty.k,.int .i64 k.ty.v,.str k.ty.nm,pv,.sl 4 true []]),h)) \/
   (k.arms≠[]/\∀ h,AI MX (AE MX) 15 [.agg xs] h=some (.ret (.agg [w,.int .i64 k.ty.k,.int .i64 k.ty.v,.str k.ty.nm,pv,.hs h.length k.arms.length 4 0 k.arms.length false]),h++[.arr 4 false es]))):=by
 obtain⟨dv,pv,av,rfl,hd,hp,ht,ha⟩:=hx.dest;obtain⟨s1,s2,s3,s4⟩:=hsk;obtain⟨w,hw,h31⟩:=c31 hd s1;have hn:([AV.agg [dv,.int .i64 k.ty.k,.int .i64 k.ty.v,.str k.ty.nm,pv,av]]:List AV).all AV.AA=true:=by simp[AV.AA,AG,hd.AA,hp.AA,ha.AA]
 have hb:=Xe;simp[Aa,An,f15]at hb;let B:=Blk.var false [dv,.int .i64 k.ty.k,.int .i64 k.ty.v,.str k.ty.nm,pv,av];let Z:=Blk.var false [AV.AH,.int .i64 0,.int .i64 0,.str [],.AH,.AH];obtain⟨es,h1,h2,h3,h4⟩:=ha.rd [B,Z];have hnr:es.all AG=true:=C5 h3 h4 (fun a e h=>h.AG);have hs:=ha.nstr;have hap:apA 4 56 (.sl 4 true []) av [B,Z]=apX 4 56 (.sl 4 true []) es 0 [B,Z]:=by
  unfold apA;cases av with
  | str b=>exact absurd rfl (hs b)
  | _=>first | simp only[h2,h1,F6,IB] | (simp only[A7]at h1;cases h1)
 refine⟨w,pv,es,hw,hp,ht,h3,h4,?_⟩;by_cases he:es=[]
 .subst he;have h0:k.arms=[]:=E5 h3.symm;have hap2:apA 4 56 (.sl 4 true []) av [B,Z]=some (.sl 4 true [],[B,Z]):=by
   rw[hap];simp[apX,CC,BM,A1,A8,CM]
  simp only[B,Z]at hap2;refine .inl ⟨h0,fun h => ?_⟩;have hcl:∀ H:AF,DG true h (.agg [w,.int .i64 k.ty.k,.int .i64 k.ty.v,.str k.ty.nm,pv,.sl 4 true []]) H=some (.agg [w,.int .i64 k.ty.k,.int .i64 k.ty.v,.str k.ty.nm,pv,.sl 4 true []],h):=fun H=>by
   have ht:PQ (.agg [w,.int .i64 k.ty.k,.int .i64 k.ty.v,.str k.ty.nm,pv,.sl 4 true []])=[]:=by
    show List.foldl Vi [] _=[];simp only[Mm,List.foldl_nil,Mc hw,Mc hp];rfl
   have hr:∀ n,IM n [] (.agg [w,.int .i64 k.ty.k,.int .i64 k.ty.v,.str k.ty.nm,pv,.sl 4 true []])=some (.agg [w,.int .i64 k.ty.k,.int .i64 k.ty.v,.str k.ty.nm,pv,.sl 4 true []]):=fun n=>by
    have e0:∀ v,v.AA=true->(∀ id off,v≠.hp id off)->GC n [] v=GC n [] v:=fun v _ _=>rfl
    show Option.map AV.agg (HT n [] _)=_;simp only[HT,KA hw,KA hp];simp[GC,AV.AA]
   have hs2:Am.settle [] H=some H:=rfl;have hk2:ET H []=some []:=rfl;simp only[DG,ht,hs2,hr,hk2];simp[Am.distinct]
  exact MH TG WT hn (v:=.agg [w,.int .i64 k.ty.k,.int .i64 k.ty.v,.str k.ty.nm,pv,.sl 4 true []]) (by simp[AJ,f15,h31,hap2,hd.cells,hw.cells,bsA,Aq,List.replicate,AG,AV.AA,hd.AA,hb,He,DJ] <;> rfl) (hcl _)
 .obtain⟨a,r,hxr⟩:=List.exists_cons_of_ne_nil he;have hne:k.arms≠[]:=fun e=>he (E5 (by rw[h3,e];rfl))
  have hap2:apA 4 56 (.sl 4 true []) av [B,Z]=some (.hs 2 k.arms.length 4 0 k.arms.length false,[B,Z,.arr 4 false es]):=by
   rw[hap,<- h3];have hn:es.length<1048577:=(by omega);subst hxr;have e2:(r.length+1) * 56<=17592186044416:=(by simp at hn;omega);have e3:r.length+1<=17592186044416:=(by simp at hn;omega);simp[apX,CC,BM,A3,A1,A8,CM,e2,e3]
  have m1:(0∈Da 0 [B,Z] [B,Z,.arr 4 false es])=False:=Cx (by simp) rfl;simp only[B,Z]at hap2 m1;refine .inr ⟨hne,fun h => ?_⟩;let V:=AV.agg [w,.int .i64 k.ty.k,.int .i64 k.ty.v,.str k.ty.nm,pv,.hs 2 k.arms.length 4 0 k.arms.length false];have hcl:DG true h (.agg [w,.int .i64 k.ty.k,.int .i64 k.ty.v,.str k.ty.nm,pv,.hs 2 k.arms.length 4 0 k.arms.length false]) [Blk.var false [dv,.int .i64 k.ty.k,.int .i64 k.ty.v,.str k.ty.nm,pv,av],Blk.var false [w,.int .i64 k.ty.k,.int .i64 k.ty.v,.str k.ty.nm,pv,.hs 2 k.arms.length 4 0 k.arms.length false],.arr 4 false es]=some (.agg [w,.int .i64 k.ty.k,.int .i64 k.ty.v,.str k.ty.nm,pv,.hs h.length k.arms.length 4 0 k.arms.length false],h++[.arr 4 false es]):=by
   have ht:PQ (.agg [w,.int .i64 k.ty.k,.int .i64 k.ty.v,.str k.ty.nm,pv,.hs 2 k.arms.length 4 0 k.arms.length false])=[2]:=by
    show List.foldl Vi [] _=[2];simp only[Mm,List.foldl_nil,Mc hw,Mc hp];rfl
   have hr:∀ n,IM n [2] (.agg [w,.int .i64 k.ty.k,.int .i64 k.ty.v,.str k.ty.nm,pv,.hs 2 k.arms.length 4 0 k.arms.length false])=some (.agg [w,.int .i64 k.ty.k,.int .i64 k.ty.v,.str k.ty.nm,pv,.hs n k.arms.length 4 0 k.arms.length false]):=fun n=>by
    show Option.map AV.agg (HT n [2] _)=_;simp only[HT,KA hw,KA hp];simp[GC,AV.AA,posOf,A1]
   have hset:∀ C D:Blk,Am.settle [2] [C,D,.arr 4 false es]=some [C,D,.arr 4 false es]:=fun C D=>by simp only[Am.settle,Kq,HJ,hnr]
   have hkb:∀ C D:Blk,ET [C,D,.arr 4 false es] [2]=some [.arr 4 false es]:=fun C D=>by simp only[ET,Kq,HJ,Blk.AA,hnr]
   simp only[Am.DG,ht,hset,hr,hkb];simp[Am.distinct]
  exact MH TG WT hn (by simp[AJ,f15,h31,hap2,m1,hd.cells,hw.cells,bsA,Aq,List.replicate,AG,AV.AA,hd.AA,hb,DJ]) hcl
theorem Ov{s:Sh}:∀(l:List TyV) (i:Nat),(HB s i l).2=0->∀ p∈l,GG s p=0
 | [],_,_=>fun p h=>by cases h
 | q::r,i,h=>by
  simp only[HB]at h;split at h
  .rename_i h1;intro p hp;rcases Cd.1 hp with rfl | hp
   .exact h1
   .exact Ov r (i+1) h p hp
  .rename_i h1;exact absurd h h1
theorem P2{l:List AK}{t:TyV}{arms:List TyV}(h:(BW l t arms).2=0):E2 l t=0/\0<arms.length/\arms.length<=12/\∀ p∈arms,GG (Eh l t) p=0:=by
 unfold BW at h;by_cases h1:E2 l t=0
 .rw[if_pos h1]at h;by_cases h2:arms.length=0
  .rw[if_pos h2]at h;cases h
  .rw[if_neg h2]at h;by_cases h3:12<arms.length
   .rw[if_pos h3]at h;cases h
   .rw[if_neg h3]at h;exact⟨h1,by omega,by omega,Ov arms 0 h⟩
 .rw[if_neg h1]at h;exact absurd h h1
end
section
theorem Em.part{l:List AK}{t:TyV}{ns:List Bytes}{ss:List (List Sh)}(h:Em l t (.cons ns ss)){i j:Nat}{x:Sh}(hx:(ss.getD i [])[j]? = some x):∃ t',Em l t' x:=by
 cases h with
 | cons _ _ _ hb hk hn hl hs hf=>
  by_cases hi:i<ss.length
  .have hgi:ss.getD i []=ss[i]:=(by simp[hi]);rw[hgi]at hx;have hc:=AW (l:=AP l t) (i:=i) (by omega);have hlen:=hs i _ _ hc (AW hi);have hj:=(Ae.1 hx).1;exact⟨_,hf i _ _ j _ x hc (AW hi) (AW (by omega)) hx⟩
  .have:ss.getD i []=[]:=(by simp[Nat.le_of_not_lt hi]);rw[this]at hx;simp at hx
end
end Go.Proofs.Am12
namespace Go.Proofs.Am12
open Go Go.Am Go.Proofs.YtggemipepaajmaaGreat Tryz
end Go.Proofs.Am12
namespace Go.Proofs.Am12
open Go Go.Am Tryz
section
attribute [local simp] C7 Br EW DL CG Dd Du Eu BZ Ar Bg Al GV FF EF HE D4 Ax FB EG HF HG xUn E7 D5 FG BF DH BG D6 BH D7 Ce CX Bw BJ EH Ej
 ev evs C4 DE OR.ofV OR.Dz OR.ofC FP Tm.get Tm.init Tm.only A1 A8 CM finish CF DJ HR Dy D3 unA B7 Bb B8 Bc Co Cp Cq Bd Cr Cs Be Ct Cu Bf B9 AL CQ Ba Cm Cn B6 Ev Ew Ey Dv Dw Fl F8 F9 Fm stA Ay Db Bn DI E8 Gt Bs C6 CI FI Gu
attribute [local simp] CJ Bi Bt BN DQ DR DS DT DU DW DX Ec Cg Ed Dh FR FT Gf Di Ee Dj BO Dk BP Dl CD Ef Ch FU FV FW Ci Dm Dn FX Gg FY Gh Gi Dp BQ Cj CE Dq Dr Ck
theorem _root_.Go.Am.Fg{M:Par}{fid N:Nat}{C:CH}{a b:Code}{s s':St}(h:AO M fid N C a s=some (.ret,s')):AO M fid N C (.seq a b) s=some (.ret,s'):=by
 rw[EW,h]
end
section
def PvAt(H:AF)(ps:List TyV)(pv:AV):Prop:=SlR Nn 3 ps pv\/∃ j lk es,pv=.hs j ps.length 3 0 ps.length false/\H[j]? = some (.arr 3 lk es)/\es.length=ps.length/\∀(i:Nat) p e,ps[i]? = some p->es[i]? = some e->Nn p e
def cZ(H:AF)(u:TyV)(row:List AV):Prop:=u.k=0/\∃ pv,row=[.str u.nm,.int .i64 u.v,pv]/\PvAt H u.ps pv
def UA(B:Blk):Prop:=∀ lk es,B≠.arr 3 lk es
def Ext(M:Nat->Prop)(H H':AF):Prop:=∀(id:Nat) (B:Blk),H[id]? = some B->∃ B',H'[id]? = some B'/\(B'=B\/(∃ lk es lk' es',B=.arr 3 lk es/\B'=.arr 3 lk' es'/\es'.length=es.length/\∀(i:Nat) e e',es[i]? = some e->es'[i]? = some e'->(∀ u,Nn u e->Nn u e')/\∀ u,cZ H u e->cZ H' u e')\/(M id/\UA B/\UA B'))
theorem Ext.set{M:Nat->Prop}{H:AF}{id:Nat}{B B':Blk}(h:H[id]? = some B)(hm:M id)(h1:UA B)(h2:UA B'):Ext M H (H.set id B'):=fun j C hj=>by
 by_cases e:j=id
 .subst e;rw[h]at hj;cases hj;exact⟨B',ER (Ae.1 h).1,.inr (.inr ⟨hm,h1,h2⟩)⟩
 .exact⟨C,by rw[BT (Ne.symm e)];exact hj,.inl rfl⟩
mutual
def allV:Sh->List TyV
 | .bit n=>(List.range (2 ^ n.toNat)).map fun(i:Nat)=> .mk 0 (i:Int) [] []
 | .cons ns ss=>cg ns ss
def cg:List Bytes->List (List Sh)->List TyV
 | _,[]=>[]
 | ns,s::r=>(cj s).map (fun ps=> .mk 0 0 (ns.headD []) ps)++cg ns.tail r
def cj:List Sh->List (List TyV)
 | []=>[[]]
 | x::r=>(allV x).flatMap fun v=>(cj r).map fun ps=>v::ps
end
section
variable{σ:Type}
def andThen(r:σ×Bool)(k:σ->σ×Bool):σ×Bool:=match r with
 | (b,true)=>k b
 | (b,false)=>(b,false)
end
end
section
attribute [local simp] C7 Br EW DL CG Dd Du Eu BZ Ar Bg Al GV FF EF HE D4 Ax FB EG HF HG xUn E7 D5 FG BF DH BG D6 BH D7 Ce CX Bw BJ EH Ej
 ev evs C4 DE OR.ofV OR.Dz OR.ofC FP Tm.get Tm.init Tm.only A1 A8 CM finish CF DJ HR Dy D3 unA B7 Bb B8 Bc Co Cp Cq Bd Cr Cs Be Ct Cu Bf B9 AL CQ Ba Cm Cn B6 Ev Ew Ey Dv Dw Fl F8 F9 Fm stA Ay Db Bn DI E8 Gt Bs C6 CI FI Gu
attribute [local simp] CJ Bi Bt BN DQ DR DS DT DU DW DX Ec Cg Ed Dh FR FT Gf Di Ee Dj BO Dk BP Dl CD Ef Ch FU FV FW Ci Dm Dn FX Gg FY Gh Gi Dp BQ Cj CE Dq Dr Ck
inductive ShW:Sh->Prop
 | bit (m:Int) (h0:1<=m) (h1:m<=16):ShW (.bit m)
 | cons (ns:List Bytes) (ss:List (List Sh)) (h1:ss.length=ns.length) (h2:ns≠[]) (h3:ns.length<1048577) (h4:∀ s∈ss,s.length<1048577) (h5:∀ s∈ss,∀ x∈s,ShW x) (h6:ns.Nodup) (h7:∀ n∈ns,n.length<1048577):ShW (.cons ns ss)
end
section
theorem RZ{l:List AK}{params:List Bytes}:∀(r prev:List CS),Fz l params prev r=0->(r.map (·.nm)).Nodup/\∀ c∈r,∀ g∈prev,g.nm≠c.nm
 | [],_,_=>⟨List.nodup_nil,fun f hf=>by cases hf⟩
 | c::r,prev,h=>by
  simp only[Fz]at h;split at h
  .cases h
  .split at h
   .cases h
   .split at h
    .cases h
    .rename_i h0;split at h
     .cases h
     .split at h
      .cases h
      .split at h
       .obtain⟨g1,g2⟩:=RZ r _ h;have hc:∀ g∈prev,g.nm≠c.nm:=fun g hg e=>by
         apply h0;rw[Mi,List.any_eq_true];exact⟨g,hg,by simp[e]⟩
        refine⟨?_,fun d hd => ?_⟩
        .rw[Hk,List.nodup_cons];refine⟨fun hm => ?_,g1⟩;obtain⟨d,hd,e⟩:=F5.1 hm;exact g2 d hd c (by simp) e.symm
        .rcases Cd.1 hd with rfl | hd
         .exact hc
         .exact fun g hg=>g2 d hd g (by simp[hg])
       .rename_i h3;exact absurd h h3
theorem YH{l:List AK}(h:(A5 l).2=0):∀ d∈l,(d.cons.map (·.nm)).Nodup:=by
 intro d hd;have h1:∃ pre,Bq d pre=0:=by
  unfold A5 at h;split at h
  .cases h
  .obtain⟨pre,post,e,he⟩:=J8 l [] h d hd;exact⟨pre,he⟩
 obtain⟨pre,h1⟩:=h1;have h2:Fz pre d.params [] d.cons=0:=by
  unfold Bq at h1
  repeat (split at h1;first | cases h1 | skip)
  .exact h1
  .rename_i h3;exact absurd h1 h3
 exact(RZ _ _ h2).1
theorem Vd{l:List AK}(h:(A5 l).2=0)(t:TyV):((AP l t).map (·.nm)).Nodup:=by
 unfold AP;split
 .simp only[Hk,List.map_nil];decide
 .split
  .rename_i i hi;have hil:=G8 hi;have hg:l.getD i default=l[i]:=(by simp[hil]);rw[hg,List.map_map];exact YH h _ (Ap hil)
  .exact List.nodup_nil
theorem eS{l:List AK}(h:(A5 l).2=0)(hsl:SmL 1048577 l){t:TyV}{s:Sh}(hs:Em l t s):VT l t->Sm 1048577 t->ShW s:=by
 have hd:=Jn h;induction hs with
 | bit t hb hw h2=>exact fun _ _=> .bit _ hw.1 hw.2
 | cons t ns ss hb hk hn hl hsp hf ih=>
  intro hv hst;obtain⟨c1,c2,c3⟩:=hd.con t hv hk hb;have hsm:=Gv hsl hst (by decide);have hlen:ns.length=(AP l t).length:=by rw[hn,Fa]
  refine .cons ns ss (hl.trans hlen.symm) (fun e=>c2 (E5 (by rw[<- hlen,e];rfl))) (by omega) (fun s hs => ?_) (fun s hs x hx => ?_) (by rw[hn];exact Vd h t) (fun n hnm => ?_)
  .obtain⟨i,hi,rfl⟩:=I9 hs;rw[hsp i _ _ (AW (by omega)) (AW hi)];have:=c3 _ (Ap (show i<(AP l t).length by omega));omega
  .obtain⟨i,hi,rfl⟩:=I9 hs;obtain⟨j,hj,rfl⟩:=I9 hx;have hci:=AW (l:=AP l t) (i:=i) (by omega);have hfl:=hsp i _ _ hci (AW hi);have hfj:=AW (l:=((AP l t)[i]'(by omega)).fields) (i:=j) (by omega);have hcm:=Ap (show i<(AP l t).length by omega);have hfm:=C2 hfj;exact ih i _ _ j _ _ hci (AW hi) hfj (AW hj) (hd.dok.fld t hv hk hb _ hcm _ hfm) ((hsm.2 _ hcm).2.2 _ hfm).2
  .rw[hn]at hnm;obtain⟨c,hc,rfl⟩:=F5.1 hnm;exact(hsm.2 c hc).1
end
section
attribute [local simp] C7 Br EW DL CG Dd Du Eu BZ Ar Bg Al GV FF EF HE D4 Ax FB EG HF HG xUn E7 D5 FG BF DH BG D6 BH D7 Ce CX Bw BJ EH Ej
 ev evs C4 DE OR.ofV OR.Dz OR.ofC FP Tm.get Tm.init Tm.only A1 A8 CM finish CF DJ HR Dy D3 unA B7 Bb B8 Bc Co Cp Cq Bd Cr Cs Be Ct Cu Bf B9 AL CQ Ba Cm Cn B6 Ev Ew Ey Dv Dw Fl F8 F9 Fm stA Ay Db Bn DI E8 Gt Bs C6 CI FI Gu
attribute [local simp] CJ Bi Bt BN DQ DR DS DT DU DW DX Ec Cg Ed Dh FR FT Gf Di Ee Dj BO Dk BP Dl CD Ef Ch FU FV FW Ci Dm Dn FX Gg FY Gh Gi Dp BQ Cj CE Dq Dr Ck
theorem No{k:GA}(hsk:SmT 1048577 k)(h:(BW k.data k.ty k.arms).2=0):ShW (Eh k.data k.ty)/\Em k.data k.ty (Eh k.data k.ty)/\VT k.data k.ty/\(A5 k.data).2=0:=by
 have h1:E2 k.data k.ty=0:=by
  unfold BW at h;split at h
  .rename_i h1;exact h1
  .exact h
 obtain⟨a,b,c⟩:=LP h1;exact⟨eS a hsk.1 c b hsk.2.1,c,b,a⟩
def Az(n:Int)(xs:List AV):Prop:=xs=[.int .i64 n]
theorem Ow(n:Int)(xs:List AV)(h:Az n xs):AG xs=true:=by subst h;rfl
def zs(l:List Int)(i:Nat):List Int:=((List.range i).filter fun(j:Nat)=>l.getD j 0 == 0).map fun(j:Nat)=>(j:Int)
end
section
end
section
attribute [local simp] C7 Br EW DL CG Dd Du Eu BZ Ar Bg Al GV FF EF HE D4 Ax FB EG HF HG xUn E7 D5 FG BF DH BG D6 BH D7 Ce CX Bw BJ EH Ej
 ev evs C4 DE OR.ofV OR.Dz OR.ofC FP Tm.get Tm.init Tm.only A1 A8 CM finish CF DJ HR Dy D3 unA B7 Bb B8 Bc Co Cp Cq Bd Cr Cs Be Ct Cu Bf B9 AL CQ Ba Cm Cn B6 Ev Ew Ey Dv Dw Fl F8 F9 Fm stA Ay Db Bn DI E8 Gt Bs C6 CI FI Gu
attribute [local simp] CJ Bi Bt BN DQ DR DS DT DU DW DX Ec Cg Ed Dh FR FT Gf Di Ee Dj BO Dk BP Dl CD Ef Ch FU FV FW Ci Dm Dn FX Gg FY Gh Gi Dp BQ Cj CE Dq Dr Ck
theorem au(n:Int):wr .i64 n=n.bmod 18446744073709551616:=by
 rw[Int.bmod_def];have e:(((18446744073709551616:Nat):Int)+1) / 2=9223372036854775808:=by decide
 have e2:((18446744073709551616:Nat):Int)=18446744073709551616:=rfl;rw[e,e2];show(match decide (0<=n/\n<9223372036854775808)with
  | true=>n
  | false=>match decide (n % 18446744073709551616<9223372036854775808)with
   | true=>n % 18446744073709551616
   | false=>n % 18446744073709551616 - 18446744073709551616)=_
 by_cases h:0<=n/\n<9223372036854775808
 .rw[decide_eq_true h];have:n % 18446744073709551616=n:=Int.emod_eq_of_lt h.1 (by omega);rw[this,if_pos h.2]
 .rw[decide_eq_false h];by_cases h2:n % 18446744073709551616<9223372036854775808
  .rw[decide_eq_true h2,if_pos h2]
  .rw[decide_eq_false h2,if_neg h2]
theorem c40{l:List Int}{v:AV}(hv:SlR Az 1 l v)(hl:l.length<1048577)(n:Int)(h:AF):AI MX (AE MX) 40 [v,.int .i64 n] h=some (.ret (.bool (l.contains n)),h):=by
 obtain⟨e,st,hlp,hq⟩:=AU (M:=MX) (fid:=40) (N:=18) (C:=AE MX) (c:=AL f40 0) (n:=l.length)
  (fun i (_:Unit)=>([(0,v),(1,.int .i64 n),(5,.int .i64 i)],[]))
  (fun i _=>l.contains n=(l.drop i).contains n)
  (fun r=>(r=(.ext 0,([(0,v),(1,.int .i64 n),(5,.int .i64 l.length),(9,.bool false)],[]))/\l.contains n=false)\/(r=(.ret,([(4,.bool true)],[]))/\l.contains n=true)) (fun i b hi hI=>by
    have hi':=AZ hi;have hwr:=AY hi hl;obtain⟨e,he,hR⟩:=hv.ix hi;subst hR;rw[De hi,List.contains_cons]at hI;cases hz:l[i] == n with
    | true=>
     have hz2:(n == l[i])=true:=(by rw[beq_iff_eq]at hz ⊢;exact hz.symm);exact .inr ⟨_,_,by simp[f40,hv.len,hi',he,hz] <;> first | exact⟨rfl,rfl⟩ | rfl,by simp,.inr ⟨rfl,by rw[hI,hz2];rfl⟩⟩
    | false=>
     have hz2:(n == l[i])=false:=(by rw[beq_eq_false_iff_ne]at hz ⊢;exact fun h=>hz h.symm);exact .inl ⟨(),by simp[f40,hv.len,hi',he,hz,hwr],by rw[hI,hz2];rfl⟩) (fun b hI=>by
    rw[C3]at hI;exact⟨_,_,by simp[f40,hv.len] <;> first | exact⟨rfl,rfl⟩ | rfl,by simp,.inl ⟨rfl,hI⟩⟩) () rfl
 simp[f40]at hlp;rcases hq with⟨hq,hr⟩ | ⟨hq,hr⟩ <;> cases hq <;> rw[hr] <;> exact Af TJ dS (by simp[AV.AA,hv.AA]) rfl (hr:=[]) (by simp[AJ,f40,hlp]) h
end
section
end
section
attribute [local simp] C7 Br EW DL CG Dd Du Eu BZ Ar Bg Al GV FF EF HE D4 Ax FB EG HF HG xUn E7 D5 FG BF DH BG D6 BH D7 Ce CX Bw BJ EH Ej
 ev evs C4 DE OR.ofV OR.Dz OR.ofC FP Tm.get Tm.init Tm.only A1 A8 CM finish CF DJ HR Dy D3 unA B7 Bb B8 Bc Co Cp Cq Bd Cr Cs Be Ct Cu Bf B9 AL CQ Ba Cm Cn B6 Ev Ew Ey Dv Dw Fl F8 F9 Fm stA Ay Db Bn DI E8 Gt Bs C6 CI FI Gu
attribute [local simp] CJ Bi Bt BN DQ DR DS DT DU DW DX Ec Cg Ed Dh FR FT Gf Di Ee Dj BO Dk BP Dl CD Ef Ch FU FV FW Ci Dm Dn FX Gg FY Gh Gi Dp BQ Cj CE Dq Dr Ck
theorem Ve{l:List AK}{w:AV}(hw:SlR Ac 3 l w){ps:List TyV}{pv:AV}(hp:SlR AR 4 ps pv){es:List (List AV)}(hnr:es.all AG=true){id m:Nat}(hm:m<=es.length){lk:Bool}{H:AF}(hH:H[id]? = some (.arr 4 lk es)){kk vv:Int}{nm:Bytes} :
 A4 [.agg [w,.int .i64 kk,.int .i64 vv,.str nm,pv,.hs id es.length 4 0 m false]] H=some ([.agg [w,.int .i64 kk,.int .i64 vv,.str nm,pv,.sl 4 false (es.take m)]],H.set id (.arr 4 true es)):=by
 have h6:BB 1 (.hs id es.length 4 0 m false) H (.sl 4 false (es.take m)) (H.set id (.arr 4 true es)):=fun n=>by
  have hb:(Nat.beq es.length es.length&&Nat.beq 4 4&&Nat.ble (0+m) es.length&&es.all AG)=true:=by
   rw[hnr];simp[A1,A8,hm]
  simp only[Am.snap,hH,hb];simp
 have hn:AG [w,.int .i64 kk,.int .i64 vv,.str nm,pv,.hs id es.length 4 0 m false]=false:=by simp[AG,AV.AA,hw.AA,hp.AA]
 have hs:=(BB.agg hn (B5.cons (SlR.Pj hw H) (B5.cons (BB.flat (c:=.int .i64 kk) rfl H) (B5.cons (BB.flat (c:=.int .i64 vv) rfl H) (B5.cons (BB.flat (c:=.str nm) rfl H) (B5.cons (SlR.Pj hp H) (B5.cons h6 (B5.nil _)))))))).at (by decide);have hn':AV.AA (.agg [w,.int .i64 kk,.int .i64 vv,.str nm,pv,.hs id es.length 4 0 m false])=false:=hn;simp only[A4,hn',hs]
theorem own1{k:GA}{xs:List AV}(hx:Fb k xs)(hsk:SmT 1048577 k):∃ xs',Fb k xs'/\∀ R:AF,∃ O Y Y',AI MX (AE MX) 15 [.agg xs] R=some (.ret (.agg O),R++Y)/\∀(F:FuncId) (r:AV),(MX.mode F).fresh=true->(∀ h,AI MX (AE MX) F [.agg xs'] h=some (.ret r,h))->AI MX (AE MX) F [.agg O] (R++Y)=some (.ret r,R++Y'):=by
 obtain⟨w0,pv,es,hw0,hpv,ht,hel,her,hc⟩:=c15 hx hsk;rcases hc with⟨h0,h15⟩ | ⟨h0,h15⟩
 .exact⟨_,⟨w0,_,.sl 4 true [],rfl,hw0,ht,.inr ⟨true,[],rfl,by rw[h0];rfl,fun i a e h=>by rw[h0]at h;simp at h⟩⟩,fun R=>⟨_,[],[],by rw[IX];exact h15 R,fun F r _ h=>by rw[IX];exact h R⟩⟩
 .have hnr:es.all AG=true:=C5 hel her (fun a e h=>h.AG);refine⟨_,⟨w0,_,.sl 4 false es,rfl,hw0,ht,.inr ⟨false,es,rfl,hel,her⟩⟩,fun R=>⟨_,_,[.arr 4 true es],h15 R,fun F r hm h => ?_⟩⟩;have hs:=Ve hw0 hpv hnr (id:=R.length) (m:=es.length) (CZ _) (lk:=false) (H:=R++[.arr 4 false es]) (by simp) (kk:=k.ty.k) (vv:=k.ty.v) (nm:=k.ty.nm);rw[hel,<- hel,HL]at hs;have hset:(R++[Blk.arr 4 false es]).set R.length (.arr 4 true es)=R++[.arr 4 true es]:=by simp
  rw[hset]at hs;rw[<- hel];refine FA hm hs ?_ (h _);simp[AV.AA,AG,hw0.AA,hpv.AA] <;> exact D0.1 hnr
theorem YI:MX.prim 10=some (II [([],.bool true)]):=rfl
end
section
theorem ck{l:List AK}{rec:Rec}{D:Nat}(hr:∀ t c s,Em l t s->(rec t c).2=0->shD s<=D):∀(fs:List DA) (ss:List Sh) c,ss.length=fs.length->(∀(j:Nat) f y,fs[j]? = some f->ss[j]? = some y->Em l f.ty y)->(eFs rec fs c).2=0->Ss ss<=D
 | [],[],c,_,_,_=>by simp[Ss]
 | f::r,x::ss,c,hl,hs,h=>by
  simp only[eFs]at h;split at h
  .rename_i hz;have h1:=hr f.ty c x (hs 0 _ _ rfl rfl) hz;have h2:=ck hr r ss _ (by simpa using hl) (fun j f y a b=>hs (j+1) f y (by simpa using a) (by simpa using b)) h;simp only[Ss];omega
  .rename_i hz;exact absurd h hz
 | [],_::_,_,h,_,_=>by simp at h
 | _::_,[],_,h,_,_=>by simp at h
theorem cm{l:List AK}{rec:Rec}{D:Nat}(hr:∀ t c s,Em l t s->(rec t c).2=0->shD s<=D):∀(cs:List CS) (ss:List (List Sh)) c,ss.length=cs.length->(∀(i:Nat) k s,cs[i]? = some k->ss[i]? = some s->s.length=k.fields.length/\∀(j:Nat) f y,k.fields[j]? = some f->s[j]? = some y->Em l f.ty y)->(eCs rec cs c).2=0->LW ss<=D
 | [],[],c,_,_,_=>by simp[LW]
 | k::r,s::ss,c,hl,hs,h=>by
  simp only[eCs]at h;split at h
  .rename_i hz;obtain⟨a1,a2⟩:=hs 0 _ _ rfl rfl;have h1:=ck hr k.fields s c a1 a2 hz;have h2:=cm hr r ss _ (by simpa using hl) (fun i k s a b=>hs (i+1) k s (by simpa using a) (by simpa using b)) h;simp only[LW];omega
  .rename_i hz;exact absurd h hz
 | [],_::_,_,h,_,_=>by simp at h
 | _::_,[],_,h,_,_=>by simp at h
theorem UB{l:List AK}{r:Option Rec}{D:Nat}(hr:∀ rec,r=some rec->∀ t c s,Em l t s->(rec t c).2=0->shD s<=D)(t:TyV)(c:Int)(s:Sh)(hs:Em l t s)(h:(EO l r t c).2=0):r≠none/\shD s<=D+1:=by
 unfold EO at h;split at h
 .cases h
 split at h
 .cases h
 split at h
 .cases h
 split at h
 .cases h
 split at h
 .cases h
 cases r with
 | none=>cases h
 | some rec=>
  refine⟨by simp,?_⟩;simp only at h;cases hs with
  | bit _ hb hw h2=>simp[shD]
  | cons _ ns ss hb hk hn hl h3 hf=>
   have hbn:¬ (Ek t=true):=(by rw[hb];decide);rw[if_neg hbn]at h;have:=cm (hr rec rfl) _ ss _ hl (fun i k s a b=>⟨h3 i k s a b,fun j f y d e=>hf i k s j f y a b d e⟩) h;simp only[shD];omega
theorem YJ(l:List AK):∀ n t c s,Em l t s->(Eg l n t c).2=0->shD s<=n
 | 0=>fun t c s hs h=>absurd rfl (UB (D:=0) (r:=none) (fun rec h=>by cases h) t c s hs h).1
 | n+1=>fun t c s hs h=>(UB (D:=n) (fun rec h=>by cases h;exact YJ l n) t c s hs h).2
end
section
attribute [local simp] C7 Br EW DL CG Dd Du Eu BZ Ar Bg Al GV FF EF HE D4 Ax FB EG HF HG xUn E7 D5 FG BF DH BG D6 BH D7 Ce CX Bw BJ EH Ej
 ev evs C4 DE OR.ofV OR.Dz OR.ofC FP Tm.get Tm.init Tm.only A1 A8 CM finish CF DJ HR Dy D3 unA B7 Bb B8 Bc Co Cp Cq Bd Cr Cs Be Ct Cu Bf B9 AL CQ Ba Cm Cn B6 Ev Ew Ey Dv Dw Fl F8 F9 Fm stA Ay Db Bn DI E8 Gt Bs C6 CI FI Gu
attribute [local simp] CJ Bi Bt BN DQ DR DS DT DU DW DX Ec Cg Ed Dh FR FT Gf Di Ee Dj BO Dk BP Dl CD Ef Ch FU FV FW Ci Dm Dn FX Gg FY Gh Gi Dp BQ Cj CE Dq Dr Ck
theorem c20{a b:List Int}{v w:AV}(hv:SlR Az 1 a v)(hw:SlR Az 1 b w)(hl:a.length<1048577)(h:AF):AI MX (AE MX) 20 [v,w] h=some (.ret (.bool (decide (a=b))),h):=by
 have hbf:=Xf;simp[Aa,An,Tryz.f20]at hbf;have hn:([v,w]:List AV).all AV.AA=true:=by simp[hv.AA,hw.AA]
 by_cases hab:a.length=b.length
 .have hne:((a.length:Int) != (b.length:Int))=false:=by simp[hab]
  have hlw:=hw.len;rw[<- hab]at hlw;obtain⟨e,st,hlp,hq⟩:=AU (M:=MX) (fid:=20) (N:=26) (C:=AE MX) (c:=AL Tryz.f20 0) (n:=a.length)
   (fun i (_:Unit)=>([(0,v),(1,w),(5,.int .i64 i)],[]))
   (fun i _=>a.take i=b.take i)
   (fun r=>(r=(.ext 0,([(0,v),(1,w),(5,.int .i64 a.length),(14,.bool false)],[]))/\a=b)\/(r=(.ret,([(4,.bool false)],[]))/\a≠b)) (fun i c hi hI=>by
     have hi':=AZ hi;have hwr:=AY hi hl;have hib:i<b.length:=(by omega);obtain⟨e1,he1,hR1⟩:=hv.ix hi;obtain⟨e2,he2,hR2⟩:=hw.ix hib;subst hR1;subst hR2;cases hz:a[i] != b[i]with
     | true=>
      refine .inr ⟨_,_,by simp[Tryz.f20,hv.len,hi',he1,he2,hz,hbf] <;> first | exact⟨rfl,rfl⟩ | rfl,by simp,.inr ⟨rfl,fun he => ?_⟩⟩;subst he;simp at hz
     | false=>
      have hz2:a[i]=b[i]:=(by simpa using hz);exact .inl ⟨(),by simp[Tryz.f20,hv.len,hi',he1,he2,hz,hbf,hwr],by rw[<- Cf hi,<- Cf hib,hI,hz2]⟩) (fun c hI=>by
     rw[HL,hab,HL]at hI;exact⟨_,_,by simp[Tryz.f20,hv.len] <;> first | exact⟨rfl,rfl⟩ | rfl,by simp,.inl ⟨rfl,hI⟩⟩) () rfl
  simp[Tryz.f20]at hlp;rcases hq with⟨hq,hr⟩ | ⟨hq,hr⟩ <;> cases hq <;> simp only[hr,decide_true,decide_false] <;> exact Af TH WU hn rfl (hr:=[]) (by simp[AJ,Tryz.f20,hv.len,hlw,hne,hlp]) h
 .have hne:((a.length:Int) != (b.length:Int))=true:=by
   have:((a.length:Int) == (b.length:Int))=false:=(by rw[beq_eq_false_iff_ne];omega);simp[bne,this]
  have hd:decide (a=b)=false:=decide_eq_false fun e=>hab (by rw[e])
  rw[hd];exact Af TH WU hn rfl (hr:=[]) (by simp[AJ,Tryz.f20,hv.len,hw.len,hne]) h
end
section
end
section
attribute [local simp] C7 Br EW DL CG Dd Du Eu BZ Ar Bg Al GV FF EF HE D4 Ax FB EG HF HG xUn E7 D5 FG BF DH BG D6 BH D7 Ce CX Bw BJ EH Ej
 ev evs C4 DE OR.ofV OR.Dz OR.ofC FP Tm.get Tm.init Tm.only A1 A8 CM finish CF DJ HR Dy D3 unA B7 Bb B8 Bc Co Cp Cq Bd Cr Cs Be Ct Cu Bf B9 AL CQ Ba Cm Cn B6 Ev Ew Ey Dv Dw Fl F8 F9 Fm stA Ay Db Bn DI E8 Gt Bs C6 CI FI Gu
attribute [local simp] CJ Bi Bt BN DQ DR DS DT DU DW DX Ec Cg Ed Dh FR FT Gf Di Ee Dj BO Dk BP Dl CD Ef Ch FU FV FW Ci Dm Dn FX Gg FY Gh Gi Dp BQ Cj CE Dq Dr Ck
inductive KV where
 | unk (no:List Int)
 | num (n:Int)
 | con (i:Nat) (ps:List KV)
 deriving Inhabited
mutual
def noK:Sh->KV
 | .bit _=> .unk []
 | .cons _ ss=>UC ss
def UC:List (List Sh)->KV
 | []=> .unk []
 | [p]=> .con 0 (noKs p)
 | _::_::_=> .unk []
def noKs:List Sh->List KV
 | []=>[]
 | s::r=>noK s::noKs r
end
theorem LZ:∀ l:List Sh,noKs l=l.map noK
 | []=>rfl
 | s::r=>by rw[noKs,LZ r];rfl
def SrI:Nat->Sh->AV->Prop
 | 0,_,_=>False
 | _+1,.bit m,v=>v=.ro [.int .i64 m,.AH]/\1<=m/\m<=16
 | n+1,.cons ns ss,v=>∃ cv,v=.ro [.int .i64 0,cv]/\ss.length=ns.length/\(0<ns.length/\ns.length<1048577)/\(∀ p∈ss,p.length<1048577)/\SlR (fun(c:Bytes×List Sh) xs=>∃ pv,xs=[.str c.1,pv]/\SlR (fun s ys=>∃ u,ys=[u]/\SrI n s u) 1 c.2 pv) 2 (ns.zip ss) cv
def SrX(s:Sh)(v:AV):Prop:=∃ n,SrI n s v
def PtX(s:Sh)(ys:List AV):Prop:=∃ u,ys=[u]/\SrX s u
def ConX(c:Bytes×List Sh)(xs:List AV):Prop:=∃ pv,xs=[.str c.1,pv]/\SlR PtX 1 c.2 pv
theorem SrX.bit{m:Int}{v:AV}(h:SrX (.bit m) v):v=.ro [.int .i64 m,.AH]/\1<=m/\m<=16:=by
 obtain⟨n,h⟩:=h;cases n with
 | zero=>exact h.elim
 | succ n=>exact h
theorem SrX.cons{ns:List Bytes}{ss:List (List Sh)}{v:AV}(h:SrX (.cons ns ss) v):∃ cv,v=.ro [.int .i64 0,cv]/\ss.length=ns.length/\(0<ns.length/\ns.length<1048577)/\(∀ p∈ss,p.length<1048577)/\SlR ConX 2 (ns.zip ss) cv:=by
 obtain⟨n,h⟩:=h;cases n with
 | zero=>exact h.elim
 | succ n=>
  obtain⟨cv,h1,h2,h3,h4,h5⟩:=h;exact⟨cv,h1,h2,h3,h4,h5.mono fun c xs ⟨pv,g1,g2⟩=>⟨pv,g1,g2.mono fun s ys ⟨u,k1,k2⟩=>⟨u,k1,n,k2⟩⟩⟩
theorem SrX.ro{s:Sh}{v:AV}(h:SrX s v):∃ cs,v=.ro cs:=by
 cases s with
 | bit m=>exact⟨_,h.bit.1⟩
 | cons ns ss=>obtain⟨cv,h1,_⟩:=h.cons;exact⟨_,h1⟩
theorem SrX.AA{s:Sh}{v:AV}(h:SrX s v):v.AA=true:=by
 obtain⟨cs,rfl⟩:=h.ro;rfl
inductive CY:Sh->KV->AV->Prop where
 | unk {s:Sh} {sv:AV} {no:List Int} {nov:AV} (hs:SrX s sv) (hn:SlR Az 1 no nov) (hb:no.length<1048577):CY s (.unk no) (.ro [sv,.int .i64 (-1),.int .i64 (-1),nov,.AH])
 | num {w:Int} {sv:AV} {m:Int} (hs:SrX (.bit w) sv) (hm:0<=m):CY (.bit w) (.num m) (.ro [sv,.int .i64 (-1),.int .i64 m,.AH,.AH])
 | con {ns:List Bytes} {ss:List (List Sh)} {sv:AV} {i:Nat} {parts:List Sh} {ps:List KV} {pv:AV} (vs:List AV) (hs:SrX (.cons ns ss) sv) (hi:ss[i]? = some parts) (hl:ps.length=parts.length) (hv:vs.length=ps.length)
  (hp:(vs=[]/\pv=.AH)\/∃ ex,pv=.sl 1 ex (vs.map fun v=>[v])) (h:∀(j:Nat) s k v,parts[j]? = some s->ps[j]? = some k->vs[j]? = some v->CY s k v) :
  CY (.cons ns ss) (.con i ps) (.ro [sv,.int .i64 i,.int .i64 (-1),.AH,pv])
def PK(c:Sh×KV)(xs:List AV):Prop:=∃ u,xs=[u]/\CY c.1 c.2 u
theorem CY.ro{s:Sh}{k:KV}{v:AV}(h:CY s k v):∃ cs,v=.ro cs:=by cases h <;> exact⟨_,rfl⟩
theorem CY.AA{s:Sh}{k:KV}{v:AV}(h:CY s k v):v.AA=true:=by cases h <;> rfl
theorem CY.intro{ns:List Bytes}{ss:List (List Sh)}{sv:AV}{i:Nat}{parts:List Sh}{ps:List KV}{pv:AV}(hs:SrX (.cons ns ss) sv)(hi:ss[i]? = some parts)(hl:ps.length=parts.length)(h:SlR PK 1 (parts.zip ps) pv):CY (.cons ns ss) (.con i ps) (.ro [sv,.int .i64 i,.int .i64 (-1),.AH,pv]):=by
 have hz:(parts.zip ps).length=ps.length:=by simp;omega
 rcases h with⟨h0,rfl⟩ | ⟨ex,es,rfl,h1,h2⟩
 .have hp0:ps=[]:=E5 (by rw[<- hz,h0];rfl);subst hp0;exact .con [] hs hi hl rfl (.inl ⟨rfl,rfl⟩) (fun j s k v _ _ h=>by simp at h)
 .have hget:∀(j:Nat) e,es[j]? = some e->∃ s k u,parts[j]? = some s/\ps[j]? = some k/\e=[u]/\CY s k u:=fun j e he=>by
   have hj:j<ps.length:=by
    have:=(Ae.1 he).1;omega
   have hzj:(parts.zip ps)[j]? = some (parts[j]'(by omega),ps[j]):=by
    rw[AW (by omega)];simp
   obtain⟨u,g1,g2⟩:=h2 j _ e hzj he;exact⟨_,_,u,AW (by omega),AW hj,g1,g2⟩
  have hmap:(es.map fun e=>e.headD .undef).map (fun v=>[v])=es:=by
   apply Li (by simp);intro j a b;obtain⟨s,k,u,_,_,g,_⟩:=hget j _ (AW b);simp[g]
  refine .con (es.map fun e=>e.headD .undef) hs hi hl (by simp;omega) (.inr ⟨ex,by rw[hmap]⟩) (fun j s k v a b c => ?_);simp only[Fx,Dx]at c;obtain⟨e,e1,e2⟩:=c;obtain⟨s',k',u,g1,g2,g3,g4⟩:=hget j e e1;rw[a]at g1;rw[b]at g2;cases g1;cases g2;subst g3;subst e2;exact g4
theorem CY.dest{s:Sh}{i:Nat}{ps:List KV}{v:AV}(h:CY s (.con i ps) v):∃ ns ss sv parts pv,s=.cons ns ss/\v=.ro [sv,.int .i64 i,.int .i64 (-1),.AH,pv]/\SrX (.cons ns ss) sv/\ss[i]? = some parts/\ps.length=parts.length/\SlR PK 1 (parts.zip ps) pv:=by
 cases h with
 | @con ns ss sv _ parts _ pv vs hs hi hl hv hp h=>
  refine⟨ns,ss,sv,parts,pv,rfl,rfl,hs,hi,hl,?_⟩;have hz:(parts.zip ps).length=ps.length:=by simp;omega
  rcases hp with⟨rfl,rfl⟩ | ⟨ex,rfl⟩
  .exact .inl ⟨E5 (by rw[hz,<- hv];rfl),rfl⟩
  .refine .inr ⟨ex,_,rfl,by simp;omega,fun j c e a b => ?_⟩;simp only[Fx,Dx]at b;obtain⟨u,u1,u2⟩:=b;have hj:j<(parts.zip ps).length:=(Ae.1 a).1;rw[AW hj,D9]at a;cases a;exact⟨u,u2.symm,h j _ _ u (AW (by simp at hj;omega)) (AW (by omega)) u1⟩
theorem CY.sort{s:Sh}{k:KV}{v:AV}(h:CY s k v):∃ sv a b c d,v=.ro [sv,a,b,c,d]/\SrX s sv:=by
 cases h with
 | unk hs _ _=>exact⟨_,_,_,_,_,rfl,hs⟩
 | num hs _=>exact⟨_,_,_,_,_,rfl,hs⟩
 | con _ hs _ _ _ _ _=>exact⟨_,_,_,_,_,rfl,hs⟩
theorem Hz{K id:Nat}{b b':Bool}{cs cs' cs2:List AV}{h h':AF}(hk:h[id]? = some (.var b cs))(hs:B5 K cs h cs' h')(hk':h'[id]? = some (.var b' cs2)):BB (K+1) (.hp id 0) h (.ro cs') (h'.set id (.var true cs')):=fun n=>by
 show snap ((n+K)+1) _ _=_;simp only[snap,hk,hs n,hk',JB]
theorem c129{n:Nat}{ns:List Bytes}{ss:List (List Sh)}{i:Nat}{parts:List Sh}{sv:AV}(hsn:SrI (n+1) (.cons ns ss) sv)(hi:ss[i]? = some parts)(ih:∀ s∈parts,∀ u,SrI n s u->∃ kv,CY s (noK s) kv/\∀ h,AI MX (AE MX) 76 [u] h=some (.ret kv,h))(a b c d:AV) :
 ∃ kv,CY (.cons ns ss) (.con i (parts.map noK)) kv/\∀ h,AI MX (AE MX) 129 [.ro [sv,a,b,c,d],.int .i64 i] h=some (.ret kv,h):=by
 have hsv:SrX (.cons ns ss) sv:=⟨n+1,hsn⟩;obtain⟨cv,rfl,hl,hsz,hsp,hcv⟩:=hsn;have hil:i<ss.length:=(Ae.1 hi).1;have hiz:i<(ns.zip ss).length:=by simp;omega
 have hpl:parts.length<1048577:=hsp _ (C2 hi);obtain⟨e,he,pv,hR,hpv⟩:=hcv.ix hiz;have hpe:((ns.zip ss)[i]'hiz).2=parts:=by
  rw[D9];simp only;rw[AW hil]at hi;exact Option.some.inj hi
 rw[hpe]at hpv;subst hR;have hb:=Uz;simp[Aa,An,Tryz.f129]at hb;obtain⟨e,st,hlp,hq⟩:=AU (M:=MX) (fid:=129) (N:=44) (C:=AE MX) (c:=AL Tryz.f129 0) (n:=parts.length)
  (fun j (b:AV×AF×List (List AV))=>([(5,.hp 0 0),(25,pv),(26,.int .i64 parts.length),(27,.int .i64 j)],.var false [.ro [.int .i64 0,cv],.int .i64 i,.int .i64 (-1),.AH,b.1]::b.2.1))
  (fun j b=>Ai 1 1 b.2.1 b.1 b.2.2/\b.2.2.length=(parts.take j).length/\∀(m:Nat) s e,(parts.take j)[m]? = some s->b.2.2[m]? = some e->∃ u,e=[u]/\CY s (noK s) u)
  (fun r=>∃ b:AV×AF×List (List AV),r=(.ext 0,([(5,.hp 0 0),(25,pv),(26,.int .i64 parts.length),(27,.int .i64 parts.length),(28,.bool false)],.var false [.ro [.int .i64 0,cv],.int .i64 i,.int .i64 (-1),.AH,b.1]::b.2.1)) /\
    Ai 1 1 b.2.1 b.1 b.2.2/\b.2.2.length=parts.length/\∀(m:Nat) s e,parts[m]? = some s->b.2.2[m]? = some e->∃ u,e=[u]/\CY s (noK s) u) (fun j b hj hI=>by
    obtain⟨w,rest,es⟩:=b;obtain⟨i1,i2,i3⟩:=hI;simp only at i1 i2 i3;obtain⟨e,he',u,rfl,hu⟩:=hpv.ix hj;have hj':=AZ hj;have hw:=AY hj hpl;obtain⟨kv,hkv,hcall⟩:=ih parts[j] (Ap hj) u hu;obtain⟨j1,j2⟩:=E9 (R:=fun s e=>∃ u,e=[u]/\CY s (noK s) u) i2 i3 (a:=parts[j]) (e:=[kv]) ⟨kv,rfl,hkv⟩;rw[Cf hj]at j1 j2;have hlen:es.length<16777215:=(by rw[i2];simp;omega);obtain⟨a',rest',hap,hacc⟩:=Ai.push (byt:=8) (P:=[.var false [.ro [.int .i64 0,cv],.int .i64 i,.int .i64 (-1),.AH,w]]) [kv] true i1 (by decide) (by decide) hlen;simp only[Fk,FE]at hap;obtain⟨cs,rfl⟩:=SrX.ro ⟨n,hu⟩;obtain⟨ks,rfl⟩:=hkv.ro;have hc:=hacc.cells;exact .inl ⟨(a',rest',es++[[.ro ks]]),by simp[Tryz.f129,hj',he',hcall,hw,hap,bsA,Aq,hb,hc,AG,AV.AA],hacc,j1,j2⟩) (fun b hI=>by
    obtain⟨w,rest,es⟩:=b;obtain⟨i1,i2,i3⟩:=hI;rw[HL]at i2 i3;exact⟨_,_,by simp[Tryz.f129] <;> first | exact⟨rfl,rfl⟩ | rfl,by simp,(w,rest,es),rfl,i1,i2,i3⟩) (.AH,[],[]) ⟨Ai.nil _ _ _,by simp,fun m s e h=>by simp at h⟩
 obtain⟨⟨w,rest,es⟩,hq,q1,q2,q3⟩:=hq;cases hq;simp[Tryz.f129]at hlp;simp only at q1 q2 q3;obtain⟨v',rest',s1,s2,s3⟩:=J6 (P:=[.var false [.ro [.int .i64 0,cv],.int .i64 i,.int .i64 (-1),.AH,w]]) (R:=fun s e=>∃ u,e=[u]/\CY s (noK s) u) (fun s e ⟨u,h1,h2⟩=>by subst h1;simp[AG,h2.AA]) q1 q2 q3;simp only[Fk,FE]at s1;have hrep:CY (.cons ns ss) (.con i (parts.map noK)) (.ro [.ro [.int .i64 0,cv],.int .i64 i,.int .i64 (-1),.AH,v']):=CY.intro hsv hi (by simp) (by
  rcases s2 with⟨h0,h1⟩ | ⟨ex,es',h0,h1,h2⟩
  .subst h0;exact .inl ⟨rfl,h1⟩
  .refine .inr ⟨ex,es',h0,by simp[h1],fun m c e g1 g2 => ?_⟩;have hm:m<parts.length:=by
    have:=(Ae.1 g1).1;simp at this;exact this
   rw[AW (by simp;exact hm),D9]at g1;cases g1;simpa[PK]using h2 m _ e (AW hm) g2)
 refine⟨_,hrep,fun h=>Hu Ql Za (by simp[AV.AA]) (Hz (b':=false) (cs2:=[.ro [.int .i64 0,cv],.int .i64 i,.int .i64 (-1),.AH,w]) (id:=0) rfl (.cons (.flat rfl _) (.cons (.flat rfl _) (.cons (.flat rfl _) (.cons (.flat rfl _) (.cons s1 (.nil _)))))) rfl) (by decide) hrep.AA (fun h=>by cases h) (hr:=_) (by simp[AJ,Tryz.f129,he,hpv.len,hlp] <;> rfl) h⟩
theorem c76:∀(n:Nat) (s:Sh) (v:AV),SrI n s v->∃ kv,CY s (noK s) kv/\∀ h,AI MX (AE MX) 76 [v] h=some (.ret kv,h)
 | 0,s,v,h=>h.elim
 | n+1,.bit m,v,h=>by
  have hs:SrX (.bit m) v:=⟨n+1,h⟩;have e:=hs.bit.1;subst e;have hk:CY (.bit m) (.unk []) _:=CY.unk hs (nov:=.AH) (.inl ⟨rfl,rfl⟩) (by decide);exact⟨_,hk,fun h=>Hu MV SE (by simp[AV.AA]) (Hz (b:=false) (b':=false) (id:=0) (cs2:=[.ro [.int .i64 m,.AH],.int .i64 (-1),.int .i64 (-1),.AH,.AH]) rfl (.cons (.flat rfl _) (.cons (.flat rfl _) (.cons (.flat rfl _) (.cons (.flat rfl _) (.cons (.flat rfl _) (.nil _)))))) rfl) (by decide) hk.AA (fun h=>by cases h) (hr:=_) (by simp[AJ,f76] <;> rfl) h⟩
 | n+1,.cons ns ss,v,h=>by
  have hs:SrX (.cons ns ss) v:=⟨n+1,h⟩;obtain⟨cv,rfl,hl,hsz,hsp,hcv⟩:=hs.cons;have hzl:(ns.zip ss).length=ss.length:=by simp;omega
  by_cases h1:ss.length=1
  .obtain⟨parts,rfl⟩:∃ p,ss=[p]:=by
    match ss,h1 with
    | [p],_=>exact⟨p,rfl⟩
   obtain⟨kv,hk,hcall⟩:=c129 h (i:=0) (parts:=parts) rfl (fun s hsm u hu=>c76 n s u hu) (.int .i64 (-1)) (.int .i64 (-1)) .AH .AH;refine⟨kv,by rw[noK,UC,LZ];exact hk,fun h => ?_⟩;have hc:∀ H,AI MX (AE MX) 129 [.hp 0 0,.int .i64 0] (.var false [.ro [.int .i64 0,cv],.int .i64 (-1),.int .i64 (-1),.AH,.AH]::H)=some (.ret kv,.var true [.ro [.int .i64 0,cv],.int .i64 (-1),.int .i64 (-1),.AH,.AH]::H):=fun H=>by
    have hsn:=(Hz (b:=false) (b':=false) (id:=0) (h:=.var false [.ro [.int .i64 0,cv],.int .i64 (-1),.int .i64 (-1),.AH,.AH]::H) (cs2:=[.ro [.int .i64 0,cv],.int .i64 (-1),.int .i64 (-1),.AH,.AH]) rfl (.cons (.flat rfl _) (.cons (.flat rfl _) (.cons (.flat rfl _) (.cons (.flat rfl _) (.cons (.flat rfl _) (.nil _)))))) rfl).at (by decide);exact FA (by simp[Ql]) (by simp[A4,hsn,AV.AA]) (by simp[AV.AA]) (hcall _)
   exact Af MV SE (by simp[AV.AA]) hk.AA (hr:=_) (by simp[AJ,f76,hcv.len,hzl,hc] <;> rfl) h
  .have hno:noK (.cons ns ss)=.unk []:=by
    match ss,h1 with
    | [],_=>rfl
    | _::_::_,_=>rfl
   have h1':((ss.length:Int) == 1)=false:=(by rw[beq_eq_false_iff_ne];omega);have hk:CY (.cons ns ss) (.unk []) _:=CY.unk hs (nov:=.AH) (.inl ⟨rfl,rfl⟩) (by decide);exact⟨_,by rw[hno];exact hk,fun h=>Hu MV SE (by simp[AV.AA]) (Hz (b:=false) (b':=false) (id:=0) (cs2:=[.ro [.int .i64 0,cv],.int .i64 (-1),.int .i64 (-1),.AH,.AH]) rfl (.cons (.flat rfl _) (.cons (.flat rfl _) (.cons (.flat rfl _) (.cons (.flat rfl _) (.cons (.flat rfl _) (.nil _)))))) rfl) (by decide) hk.AA (fun h=>by cases h) (hr:=_) (by simp[AJ,f76,hcv.len,hzl,h1'] <;> rfl) h⟩
theorem c190{l:List Int}{v:AV}(hv:SlR Az 1 l v)(hl:l.length<1048577)(n:Int)(h:AF):AI MX (AE MX) 190 [v,.int .i64 n] h=some (.ret (.int .i64 (ixI (l.findIdx? (fun x=>n == x)))),h):=by
 obtain⟨e,st,hlp,hq⟩:=AU (M:=MX) (fid:=190) (N:=19) (C:=AE MX) (c:=AL Tryz.f190 0) (n:=l.length)
  (fun i (_:Unit)=>([(0,v),(1,.int .i64 n),(7,.int .i64 l.length),(8,.int .i64 i)],[]))
  (fun i _=>∀ j (hj:j<l.length),j<i->(fun x=>n == x) l[j]=false)
  (fun r=>(r=(.ext 0,([(0,v),(1,.int .i64 n),(7,.int .i64 l.length),(8,.int .i64 l.length),(9,.bool false)],[]))/\l.findIdx? (fun x=>n == x)=none)\/(∃ i:Nat,r=(.ret,([(4,.int .i64 i)],[]))/\l.findIdx? (fun x=>n == x)=some i)) (fun i b hi hI=>by
    have hi':=AZ hi;have hwr:=AY hi hl;obtain⟨e,he,hR⟩:=hv.ix hi;subst hR;cases hz:n == l[i]with
    | true=>exact .inr ⟨_,_,by simp[Tryz.f190,hi',he,hz] <;> first | exact⟨rfl,rfl⟩ | rfl,by simp,.inr ⟨i,rfl,Fc (p:=fun x=>n == x) hi hI hz⟩⟩
    | false=>exact .inl ⟨(),by simp[Tryz.f190,hi',he,hz,hwr],Ff (p:=fun x=>n == x) hi hI hz⟩) (fun b hI=>by
    exact⟨_,_,by simp[Tryz.f190] <;> first | exact⟨rfl,rfl⟩ | rfl,by simp,.inl ⟨rfl,Fe (p:=fun x=>n == x) fun j hj=>hI j hj hj⟩⟩) () (fun j _ h0=>by omega)
 simp[Tryz.f190]at hlp;rcases hq with⟨hq,hr⟩ | ⟨i,hq,hr⟩ <;> cases hq <;> rw[hr] <;> exact Af XB Z1 (by simp[AV.AA,hv.AA]) rfl (hr:=[]) (by simp[AJ,Tryz.f190,hv.len,hlp,ixI]) h
theorem c166{l:List Int}{v:AV}(hv:SlR Az 1 l v)(hl:l.length<1048577)(n:Int)(h:AF):AI MX (AE MX) 166 [v,.int .i64 n] h=some (.ret (.bool (l.contains n)),h):=by
 have hc:=c190 hv hl n;have hd:decide (ixI (l.findIdx? (fun x=>n == x)) ≥ 0)=l.contains n:=by
  cases hf:l.findIdx? (fun x=>n == x)with
  | none=>
   rw[Rj]at hf;cases hx:l.contains n with
   | false=>rfl
   | true=>
    have:=hf n (PH.1 hx);simp at this
  | some i=>
   rw[I8]at hf;obtain⟨h1,h2,_⟩:=hf;have:n=l[i]:=(by simpa using h2);have hx:l.contains n=true:=PH.2 (this ▸ Ap h1);rw[hx];simp[ixI]
 rw[<- hd];exact Af W0 Zq (by simp[AV.AA,hv.AA]) rfl (hr:=[]) (by simp[AJ,f166,hc]) h
theorem c131{w:Int}{k:KV}{v:AV}(hk:CY (.bit w) k v){m:Int}(hm:0<=m):∃ u,CY (.bit w) (.num m) u/\∀ h,AI MX (AE MX) 131 [v,.int .i64 m] h=some (.ret u,h):=by
 obtain⟨sv,a,b,c,d,rfl,hs⟩:=hk.sort;obtain⟨rfl,_⟩:=hs.bit;have hr:CY (.bit w) (.num m) _:=CY.num hs hm;exact⟨_,hr,fun h=>Hu Wn Zb (by simp[AV.AA]) (Hz (b:=false) (b':=false) (id:=0) (cs2:=[.ro [.int .i64 w,.AH],.int .i64 (-1),.int .i64 m,.AH,.AH]) rfl (.cons (.flat rfl _) (.cons (.flat rfl _) (.cons (.flat rfl _) (.cons (.flat rfl _) (.cons (.flat rfl _) (.nil _)))))) rfl) (by decide) hr.AA (fun h=>by cases h) (hr:=_) (by simp[AJ,f131] <;> rfl) h⟩
def DB:KV->List Int
 | .unk no=>no
 | _=>[]
def Gj(w:Int)(k:KV):Int:=((2 ^ w.toNat:Nat):Int) - (DB k).length
theorem CY.I4{w:Int}{k:KV}{v:AV}(hk:CY (.bit w) k v):∃ nov a,v=.ro [.ro [.int .i64 w,.AH],.int .i64 (-1),.int .i64 a,nov,.AH]/\SlR Az 1 (DB k) nov/\(DB k).length<1048577/\1<=w/\w<=16/\((a = -1/\k=.unk (DB k))\/(0<=a/\k=.num a)):=by
 cases hk with
 | unk hs hn hb=>obtain⟨rfl,h1,h2⟩:=hs.bit;exact⟨_,_,rfl,hn,hb,h1,h2,.inl ⟨rfl,rfl⟩⟩
 | num hs hm=>obtain⟨rfl,h1,h2⟩:=hs.bit;exact⟨_,_,rfl,.inl ⟨rfl,rfl⟩,by simp[DB],h1,h2,.inr ⟨hm,rfl⟩⟩
theorem YK{n:Int}(h : -4611686018427387904<=n)(h2:n<4611686018427387904):wr .i64 n=n:=by
 rw[au,Int.bmod_def];split <;> omega
theorem c132{w:Int}{k:KV}{v:AV}(hk:CY (.bit w) k v)(h:AF):AI MX (AE MX) 132 [v] h=some (.ret (.int .i64 (Gj w k)),h):=by
 obtain⟨nov,a,rfl,hno,hn,h1,h2,_⟩:=hk.I4;have hb:=U0;simp[Aa,An,f132]at hb;have hp:(2:Nat) ^ w.toNat<=2 ^ 16:=OE (by decide) (by omega);have hsh:=cX w h1 h2;obtain⟨P,hP⟩:∃ P:Nat,P=2 ^ w.toNat:=⟨_,rfl⟩;rw[<- hP]at hp hsh;obtain⟨L,hL⟩:∃ L:Nat,L=(DB k).length:=⟨_,rfl⟩;have hw:wr .i64 ((P:Int) - (L:Int))=(P:Int) - L:=YK (by omega) (by omega);unfold Gj;rw[<- hP,<- hL];have hlen:=hno.len;rw[<- hL]at hlen;exact Af Wo Zc (by simp[AV.AA]) rfl (hr:=[]) (by simp[AJ,f132,hsh,hlen,hw,hb,AG,AV.AA,hno.AA,hno.Ca]) h
def JF(i:Nat):Sh×KV->Option (Sh×KV)
 | (.cons _ ss,.con c ps)=>((ss.getD c []).zip ps)[i]?
 | _=>none
def atK:List Nat->Sh×KV->Option (Sh×KV)
 | [],x=>some x
 | i::r,x=>(JF i x).bind (atK r)
def BX(l:List Nat):List Int:=l.map fun(i:Nat)=>(i:Int)
theorem CY.step{x y:Sh×KV}{v:AV}{i:Nat}(hk:CY x.1 x.2 v)(hx:JF i x=some y):∃ sv a b pv,v=.ro [sv,.int .i64 a,.int .i64 b,.AH,pv]/\sv.AA=true/\pv.AA=true/\∃ u,(∀ kd,ixA 1 pv (.int kd i)=some (.ro [u]))/\CY y.1 y.2 u:=by
 obtain⟨s,k⟩:=x;cases k with
 | unk no=>cases s <;> cases hx
 | num n=>cases s <;> cases hx
 | con c ps=>
  obtain⟨ns,ss,sv,parts,pv,rfl,rfl,h1,h2,h3,h4⟩:=hk.dest;simp only[JF,List.getD,h2,GQ]at hx;obtain⟨hi,e⟩:=Ae.1 hx;obtain⟨e',he,u,rfl,hu⟩:=h4.ix hi;rw[e]at hu;exact⟨sv,_,_,pv,rfl,h1.AA,h4.AA,u,he,hu⟩
theorem c127{x y:Sh×KV}{v pv:AV}{path:List Nat}(hk:CY x.1 x.2 v)(hp:SlR Az 1 (BX path) pv)(hl:path.length<1048577)(hy:atK path x=some y):∃ u,CY y.1 y.2 u/\∀ h,AI MX (AE MX) 127 [v,pv] h=some (.ret u,h):=by
 have hnl:(BX path).length=path.length:=by simp[BX]
 obtain⟨e,st,hlp,hq⟩:=AU (M:=MX) (fid:=127) (N:=22) (C:=AE MX) (c:=AL f127 0) (n:=path.length)
  (fun i (b:(Sh×KV)×AV)=>([(0,b.2),(7,pv),(8,.int .i64 path.length),(9,.int .i64 i)],[]))
  (fun i b=>CY b.1.1 b.1.2 b.2/\atK (path.drop i) b.1=some y)
  (fun r=>∃ u,r=(.ext 0,([(0,u),(7,pv),(8,.int .i64 path.length),(9,.int .i64 path.length),(10,.bool false)],[]))/\CY y.1 y.2 u) (fun i b hi hI=>by
    obtain⟨x,v⟩:=b;obtain⟨i1,i2⟩:=hI;simp only at i1 i2;have hi':=AZ hi;have hwr:=AY hi hl;obtain⟨e,he,hR⟩:=hp.ix (i:=i) (by omega);have hel:(BX path)[i]'(by omega)=(path[i]:Int):=(by simp[BX]);rw[hel]at hR;subst hR;rw[De hi,atK]at i2;obtain⟨z,hz,i2⟩:=Gd.1 i2;obtain⟨sv,a,b,qv,rfl,n1,n2,u,hu,hku⟩:=i1.step hz;obtain⟨us,rfl⟩:=hku.ro;exact .inl ⟨(z,.ro us),by simp[f127,hi',he,hu,hwr],hku,i2⟩) (fun b hI=>by
    obtain⟨x,v⟩:=b;obtain⟨i1,i2⟩:=hI;simp only at i1 i2;rw[C3,atK]at i2;cases i2;exact⟨_,_,by simp[f127] <;> first | exact⟨rfl,rfl⟩ | rfl,by simp,v,rfl,i1⟩) (x,v) ⟨hk,hy⟩
 simp[f127]at hlp;obtain⟨u,hq,hu⟩:=hq;cases hq;obtain⟨us,rfl⟩:=hu.ro;obtain⟨vs,rfl⟩:=hk.ro;have hlen:=hp.len;rw[hnl]at hlen;exact⟨_,hu,fun h=>Af Wm ZZ (by simp[AV.AA,hp.AA]) rfl (hr:=[]) (by simp[AJ,f127,hlen,hlp]) h⟩
def F1:List Nat->KV->KV->KV
 | [],_,own=>own
 | i::r,.con c ps,own=> .con c (ps.set i (F1 r (ps.getD i default) own))
 | _::_,k,_=>k
theorem Sv{α:Type}{R:α->List AV->Prop}{sz:Nat}{l:List α}{v:AV}(hv:SlR R sz l v)(hi:0<l.length):∃ w,slA sz v (some (.int .i64 1)) none none=some w/\SlR R sz (l.drop 1) w:=by
 rcases hv with⟨rfl,rfl⟩ | ⟨ex,es,rfl,hl,hr⟩
 .simp at hi
 .have h0:(1:Int)<=es.length:=by omega
  have h1:F7 (es.length:Int) es.length=some es.length:=by simp[F7]
  have h2:F7 1 es.length=some 1:=by simp[F7,h0]
  refine⟨.sl sz ex ((es.drop 1).take (es.length - 1)),by simp[slA,C9,Go.Am.intOf,h1,h2,A1,KX],.inr ⟨_,_,rfl,by simp[hl],fun j a e h3 h4 => ?_⟩⟩;have e1:(es.drop 1).take (es.length - 1)=es.drop 1:=DC (by simp);rw[e1]at h4;rw[H9]at h3 h4;exact hr _ a e h3 h4
theorem eq172(a:Nat)(b:Bool)(c:List (List AV)):eqA (und MX.ty 172) (.sl a b c) .AH=some false:=by
 have:und MX.ty 172=some (.slice 124):=by kernel_rfl
 rw[this];rfl
theorem c168{α:Type}{R:α->List AV->Prop}{l:List α}{v:AV}(hv:SlR R 1 l v)(hl:l.length<1048577)(h0:l≠[])(H:AF):∃ es:List (List AV),es.length=l.length/\(∀(i:Nat) a e,l[i]? = some a->es[i]? = some e->R a e)/\AI MX (AE MX) 168 [v] H=some (.ret (.hs H.length es.length 1 0 es.length false),H++[.arr 1 false es]):=by
 obtain⟨es,h1,h2,h3⟩:=LM (byt:=8) hv (by decide) (by decide) hl H;rcases h3 with⟨hn,_⟩ | ⟨_,h3⟩
 .exact absurd hn h0
 .refine⟨es,h1,h2,CV W2 Zs ?_⟩;rcases hv with⟨hn,_⟩ | ⟨ex,es',rfl,_,_⟩
  .exact absurd hn h0
  .simp[AJ,f168,bsA,Aq,h3,eq172]
theorem c128{own:KV}{y:Sh×KV}{ov:AV}(ho:CY y.1 own ov):∀(path:List Nat) (x:Sh×KV) (v pv:AV),CY x.1 x.2 v->SlR Az 1 (BX path) pv->path.length<1048577->atK path x=some y->∃ u,CY x.1 (F1 path x.2 own) u/\∀ h,AI MX (AE MX) 128 [v,pv,ov] h=some (.ret u,h)
 | [],x,v,pv,hk,hp,_,hy=>by
  cases hy;obtain⟨os,rfl⟩:=ho.ro;exact⟨_,ho,fun h=>Af Qk TR (by simp[AV.AA,hp.AA,hk.AA]) rfl (hr:=[]) (by simp[AJ,Tryz.f128,hp.len,BX]) h⟩
 | i::r,(s,k),v,pv,hk,hp,hl,hy=>by
  simp only[D8]at hl;rw[atK]at hy;obtain⟨z,hz,hy⟩:=Gd.1 hy;have hb:=Uy;simp[Aa,An,Tryz.f128]at hb;cases k with
  | unk no=>cases s <;> cases hz
  | num n=>cases s <;> cases hz
  | con c ps=>
   obtain⟨ns,ss,sv,parts,qv,rfl,rfl,hs,hc,hpl,hq⟩:=hk.dest;simp only[JF,List.getD,hc,GQ]at hz;obtain⟨hi,hze⟩:=Ae.1 hz;have hiz:i<parts.length/\i<ps.length:=(by simp at hi;omega);rw[D9]at hze;subst hze;obtain⟨cv,hsv,_,_,hsp,_⟩:=hs.cons;have hpb:parts.length<1048577:=hsp _ (C2 hc);have hzl:(parts.zip ps).length=parts.length:=(by simp;omega);have hzn:parts.zip ps≠[]:=fun e=>by rw[e]at hzl;simp at hzl;omega
   obtain⟨e0,he0,u0,rfl,hu0⟩:=hq.ix hi;rw[D9]at hu0;obtain⟨e1,he1,hR1⟩:=hp.ix (i:=0) (by simp[BX]);have hR1':e1=[.int .i64 (i:Int)]:=hR1;subst hR1';obtain⟨p1,hsl,hp1⟩:=Sv hp (by simp[BX]);have hp1':SlR Az 1 (BX r) p1:=hp1;obtain⟨u,hu,hcall⟩:=c128 ho r _ u0 p1 hu0 hp1' (by omega) hy;obtain⟨es,hel,her,h168⟩:=c168 hq (by omega) hzn [.var false [sv,.int .i64 c,.int .i64 (-1),.AH,qv]];have hie:i<es.length:=(by omega);have hlen1:(BX (i::r)).length=r.length+1:=(by simp[BX]);obtain⟨us,rfl⟩:=hu.ro;obtain⟨us0,rfl⟩:=hu0.ro;obtain⟨os,rfl⟩:=ho.ro;have hsn:=hs.AA;obtain⟨svs,rfl⟩:=hs.ro;have hnr:(es.set i [.ro us]).all AG=true:=by
    rw[D0];intro e he;rcases S5 he with he | rfl
    .obtain⟨j,hj,rfl⟩:=I9 he;obtain⟨w,hw,hkw⟩:=her j _ _ (AW (by omega)) (AW hj);rw[hw];simp[AG,hkw.AA]
    .rfl
   have hgd:ps.getD i default=ps[i]'hiz.2:=(by simp[List.getD,AW hiz.2]);have hrep:CY (.cons ns ss) (F1 (i::r) (.con c ps) own) (.ro [.ro svs,.int .i64 c,.int .i64 (-1),.AH,.sl 1 false (es.set i [.ro us])]):=by
    rw[F1,hgd];refine CY.intro hs hc (by simp;omega) (.inr ⟨false,_,rfl,by simp;omega,fun j a e g1 g2 => ?_⟩);have hj:j<parts.length:=by
     have:=(Ae.1 g1).1;simp at this;omega
    rw[AW (by simp;omega),D9]at g1;cases g1;by_cases hji:j=i
    .subst hji;rw[ER (by omega)]at g2;cases g2;refine⟨_,rfl,?_⟩;simpa using hu
    .rw[BT (fun e=>hji e.symm)]at g2;have:=her j (parts[j],ps[j]'(by omega)) e (by rw[AW (by omega),D9]) g2;simpa[List.getElem_set_ne (fun e=>hji e.symm)]using this
   refine⟨_,hrep,fun h=>Hu Qk TR (by simp[AV.AA,hp.AA]) (v:=.hp 0 0) (Hz (K:=7) (b:=false) (b':=false) (id:=0) (cs:=[.ro svs,.int .i64 c,.int .i64 (-1),.AH,.hs 1 es.length 1 0 es.length false]) (cs2:=[.ro svs,.int .i64 c,.int .i64 (-1),.AH,.hs 1 es.length 1 0 es.length false]) (h:=[.var false [.ro svs,.int .i64 c,.int .i64 (-1),.AH,.hs 1 es.length 1 0 es.length false],.arr 1 false (es.set i [.ro us])]) (h':=[.var false [.ro svs,.int .i64 c,.int .i64 (-1),.AH,.hs 1 es.length 1 0 es.length false],.arr 1 true (es.set i [.ro us])]) rfl ?_ rfl) (by decide) hrep.AA (fun h=>by cases h) ?_ h⟩
   .refine(B5.cons (.flat rfl _) (.cons (.flat rfl _) (.cons (.flat rfl _) (.cons (.flat rfl _) (.cons (K:=1) (c':=.sl 1 false (es.set i [.ro us])) (fun n => ?_) (.nil _)))))).mono (by decide);have hb2:(Nat.beq (es.set i [.ro us]).length es.length&&Nat.beq 1 1&&Nat.ble (0+es.length) (es.set i [.ro us]).length&&(es.set i [.ro us]).all AG)=true:=(by simp only[hnr];simp[A1,A8]);show snap (n+1) _ _=_;simp only[snap,Kq,HJ,hb2];simp[DC]
   .have hll:=hp.len;obtain⟨M,hM⟩:∃ M,M=(BX (i::r)).length:=⟨_,rfl⟩;rw[<- hM]at hll;have hgt:((M:Int) == 0)=false:=(by rw[beq_eq_false_iff_ne];omega);simp only[Fk,FE]at h168;have hixw:ixA 1 (.hs 1 es.length 1 0 es.length false) (.int .i64 i)=some (.ep 1 es.length 1 i 0):=(by rw[EX (kd:=.i64) (hi:=hie),D1]);obtain⟨w0,hw0,_⟩:=her i _ _ (AW hi) (AW hie);have hesi:es[i]? = some [w0]:=(by rw[AW hie,hw0]);have he1':ixA 1 pv (.int .i64 0)=some (.ro [.int .i64 (i:Int)]):=he1 .i64;simp[AJ,Tryz.f128,hll,hgt,h168,he1',he0,hsl,hcall,hb,AG,AV.AA,hp.AA,hp1.AA,hq.AA,hixw,hesi] <;> rfl
theorem eT:und MX.ty 39=some (.slice 3):=by kernel_rfl
theorem undY3:und MX.ty 3=some (.int .i64):=by kernel_rfl
theorem YL:Ei MX.ty 3=some [.int .i64 0]:=by kernel_rfl
theorem cn:siz MX.ty 3=1:=by kernel_rfl
theorem bytY3:byt MX.ty 3=8:=by kernel_rfl
theorem aw(n:Nat)(z:Int)(hz:z=n)(h0:0<n)(h1:n<=16777216)(H:AF):Ad MX.ty .append [39,3] [.AH,.int .i64 z] H=some (.val (.hs H.length n 1 0 n false) (H++[.arr 1 false (List.replicate n [.int .i64 0])])):=by
 have hn:(0:Int)<=z/\z<=17592186044416:=by omega
 obtain⟨y,ys,hy,hl⟩:∃ y ys,List.replicate n [AV.int .i64 0]=y::ys/\ys.length+1=n:=by
  cases n with
  | zero=>omega
  | succ m=>exact⟨_,_,List.replicate_succ,by simp⟩
 have hd:decide ((0:Int)<=z/\z<=17592186044416)=true:=decide_eq_true hn;have ht:z.toNat=n:=by omega
 have hadd:Mo MX.ty 3 true (.int .i64 z) H=some (y::ys):=by
  unfold Mo;simp only[YL,cn,hd,ht,hy];rfl
 have hs:CC 1 AV.AH=true:=rfl;have b1:(0+(y::ys).length) * 8<=17592186044416:=DD (Ku (show 0+(y::ys).length<=16777216 by simp;omega) (CZ 8)) (by decide);have b2:0+(y::ys).length<=17592186044416:=DD (show 0+(y::ys).length<=16777216 by simp;omega) (by decide);have hc:(CC 1 AV.AH&&Nat.blt 0 1&&Nat.ble ((0+(y::ys).length) * 8) 17592186044416&&Nat.ble (0+(y::ys).length) 17592186044416&&(some [AV.int .i64 0]).isSome)=true:=by
  rw[Gb.2 b1,Gb.2 b2];rfl
 unfold Ad;simp only[undY3,IP];unfold MO;simp only[eT,hadd,F6,cn,bytY3,YL,hc];rw[hy];have hl2:(y::ys).length=n:=hl;simp only[OR.Dz,A3,hl2]
theorem wr0:wr .i64 0=0:=rfl
theorem Np(h:AF):cK .AH h=some (.val (.int .i64 0) h):=rfl
theorem c192z(H:AF):AI MX (AE MX) 192 [.AH,.int .i64 0] H=some (.ret .AH,H):=CV Q4 Tk (by simp[AJ,f192,Np,wr0])
theorem c192(n:Nat)(z:Int)(hz:z=n)(h0:0<n)(h1:n<=16777216)(H:AF):AI MX (AE MX) 192 [.AH,.int .i64 z] H=some (.ret (.hs H.length n 1 0 0 false),H++[.arr 1 false (List.replicate n [.int .i64 0])]):=by
 have g0:decide (z<0)=false:=decide_eq_false (by omega);have g1:decide (0<z)=true:=decide_eq_true (by omega);have hw:wr .i64 z=z:=Cl (by omega) (by omega);have hap:=aw n z hz h0 h1 H;have hs1:slA 1 .AH none (some (.int .i64 0)) none=some .AH:=rfl;have hs2:slA 1 (.hs H.length n 1 0 n false) none (some (.int .i64 0)) none=some (.hs H.length n 1 0 0 false):=by
  simp[slA,C9,Go.Am.intOf,F7,KX,A1]
 refine CV Q4 Tk ?_;have e0:(z<0)=False:=by rw[eq_iff_iff];exact⟨fun h=>by omega,fun h=>h.elim⟩
 have e1:(0<z)=True:=by rw[eq_iff_iff];exact⟨fun _=>trivial,fun _=>by omega⟩
 simp[AJ,f192,e0,e1,hw,hap,hs1,hs2,Np,wr0]
def H5(N:Nat)(H:AF)(w:AV)(es:List (List AV)):Prop:=(N=0/\w=.AH/\H=[]/\es=[])\/(0<N/\es.length<=N/\w=.hs 0 N 1 0 es.length false/\H=[.arr 1 false (es++List.replicate (N - es.length) [.int .i64 0])])
theorem H5.cells{N:Nat}{H:AF}{w:AV}{es:List (List AV)}(h:H5 N H w es):w.cells=some [w]:=by
 rcases h with⟨_,rfl,_,_⟩ | ⟨_,_,rfl,_⟩ <;> rfl
theorem H5.push{N:Nat}{H:AF}{w x:AV}{es xs:List (List AV)}(h:H5 N H w es)(hN:N<=16777216)(hx:∀ H,A7 H x=some xs)(hs:CC 1 x=true)(hnx:∀ b,x≠.str b)(hl:es.length+xs.length<=N):∃ w' H',apA 1 8 w x H=some (w',H')/\H5 N H' w' (es++xs):=by
 have hap:∀ n,F6 w=some n->apA 1 8 w x H=apX 1 8 w xs n H:=fun n hl=>by
  unfold apA;cases x with
  | str b=>exact absurd rfl (hnx b)
  | _=>first | simp only[hs,hx,hl] | (have:=hx [];simp only[A7]at this;cases this)
 rcases h with⟨rfl,rfl,rfl,rfl⟩ | ⟨h0,h1,rfl,rfl⟩
 .have:xs=[]:=E5 (by simpa using hl);subst this;exact⟨.AH,[],by rw[hap 0 rfl];rfl,.inl ⟨rfl,rfl,rfl,rfl⟩⟩
 .rw[hap es.length rfl];cases xs with
  | nil=>
   refine⟨.hs 0 N 1 0 es.length false,[.arr 1 false (es++List.replicate (N - es.length) [.int .i64 0])],?_,.inr ⟨h0,by simpa using h1,by simp,by simp⟩⟩;have b1:es.length * 8<=17592186044416:=(by omega);have b2:es.length<=17592186044416:=(by omega);simp[apX,CC,BM,A1,A8,CM,b1,b2]
  | cons y ys=>
   simp only[D8]at hl;have b1:(es.length+(ys.length+1)) * 8<=17592186044416:=(by omega);have b2:es.length+(ys.length+1)<=17592186044416:=(by omega);have e1:es.length+(N - es.length)=N:=(by omega);have e2:¬ es.length=N:=(by omega);have e3:¬ N<es.length+(ys.length+1):=(by omega);refine⟨.hs 0 N 1 0 (es.length+(ys.length+1)) false,[.arr 1 false ((es++y::ys)++List.replicate (N - (es.length+(ys.length+1))) [.int .i64 0])],?_,.inr ⟨h0,by simp;omega,by simp,by simp⟩⟩;have e4:N - es.length - (ys.length+1)=N - (es.length+(ys.length+1)):=(by omega);have e5:List.drop (es.length+(ys.length+1)) es=[]:=KI (by omega);simp[apX,CC,BM,A1,A8,CM,b1,b2,e1,e2,e3,hl,h1,List.take_append,List.drop_append,e4,e5]
theorem SlR.rdU{α:Type}{R:α->List AV->Prop}{sz:Nat}{l:List α}{v:AV}(hv:SlR R sz l v):∃ es,(∀ H,A7 H v=some es)/\CC sz v=true/\(∀ b,v≠.str b)/\es.length=l.length/\∀(i:Nat) a e,l[i]? = some a->es[i]? = some e->R a e:=by
 rcases hv with⟨rfl,rfl⟩ | ⟨ex,es,rfl,hl,hr⟩
 .exact⟨[],fun _=>rfl,rfl,(fun b h=>by cases h),rfl,fun i a e h=>by simp at h⟩
 .exact⟨es,fun _=>rfl,by simp[CC,BM,A1],(fun b h=>by cases h),hl,hr⟩
theorem Ra{α:Type}{R:α->List AV->Prop}{l m:List α}{es fs:List (List AV)}(h1:es.length=l.length)(h2:∀(i:Nat) a e,l[i]? = some a->es[i]? = some e->R a e)(h3:fs.length=m.length)(h4:∀(i:Nat) a e,m[i]? = some a->fs[i]? = some e->R a e):(es++fs).length=(l++m).length/\∀(i:Nat) a e,(l++m)[i]? = some a->(es++fs)[i]? = some e->R a e:=by
 refine⟨by simp[h1,h3],fun i a e a1 a2 => ?_⟩;by_cases hi:i<l.length
 .rw[BA hi]at a1;rw[BA (by omega)]at a2;exact h2 i a e a1 a2
 .rw[EL (by omega)]at a1;rw[EL (by omega)]at a2;rw[h1]at a2;exact h4 _ a e a1 a2
def Rb(a b:Int):Nat->Int
 | 0=>0
 | 1=>a
 | _=>a+b
def Ox(a b:List (List AV)):Nat->List (List AV)
 | 0=>[]
 | 1=>a
 | _=>a++b
theorem c172{a b:List Int}{av bv:AV}(ha:SlR Az 1 a av)(hb:SlR Az 1 b bv)(hla:a.length<1048577)(hlb:b.length<1048577):∃ w,SlR Az 1 (a++b) w/\∀ ex h,AI MX (AE MX) 172 [.sl 1 ex [[av],[bv]]] h=some (.ret w,h):=by
 obtain⟨ea,a1,a2,a3,a4,a5⟩:=SlR.rdU ha;obtain⟨eb,b1,b2,b3,b4,b5⟩:=SlR.rdU hb;obtain⟨r1,r2⟩:=Ra a4 a5 b4 b5;have hR:∀ a e,Az a e->AG e=true:=Ow;have hnr:=C5 r1 r2 hR;obtain⟨N,hN⟩:∃ N,N=a.length+b.length:=⟨_,rfl⟩;have hrun:∀ ex,∃ w H',AJ MX 172 [.sl 1 ex [[av],[bv]]] []=some (.ret w,H')/\H5 N H' w (ea++eb):=fun ex=>by
  obtain⟨V,hV⟩:∃ V,V=AV.sl 1 ex [[av],[bv]]:=⟨_,rfl⟩;have hlen:∀ H,BI V H=some (.val (.int .i64 2) H):=fun H=>by subst hV;rfl
  have hx0:ixA 1 V (.int .i64 0)=some (.ro [av]):=by subst hV;rfl
  have hx1:ixA 1 V (.int .i64 1)=some (.ro [bv]):=by subst hV;rfl
  rw[<- hV];have ca:=ha.cells;have cb:=hb.cells;obtain⟨x,hx⟩:∃ x:Int,x=a.length:=⟨_,rfl⟩;obtain⟨y,hy⟩:∃ y:Int,y=b.length:=⟨_,rfl⟩;obtain⟨z,hz⟩:∃ z:Int,z=x+y:=⟨_,rfl⟩;have hlx:∀ H,BI av H=some (.val (.int .i64 x) H):=fun H=>by rw[hx];exact ha.len H
  have hly:∀ H,BI bv H=some (.val (.int .i64 y) H):=fun H=>by rw[hy];exact hb.len H
  have hw1:wr .i64 1=1:=rfl;have hw2:wr .i64 2=2:=rfl;obtain⟨e,st,hlp,hq⟩:=AU (M:=MX) (fid:=172) (N:=36) (C:=AE MX) (c:=AL f172 0) (n:=2)
   (fun i (_:Unit)=>([(0,V),(3,.int .i64 (Rb x y i)),(9,V),(10,.int .i64 2),(11,.int .i64 i)],[])) (fun _ _=>True)
   (fun r=>r=(.ext 0,([(0,V),(3,.int .i64 z),(9,V),(10,.int .i64 2),(11,.int .i64 2),(12,.bool false)],[]))) (fun i _ hi _=>by
     match i,hi with
     | 0,_=>
      have hw:wr .i64 x=x:=Cl (by omega) (by omega);have hg:¬ (x<0):=(by omega);exact .inl ⟨(),by simp[f172,hx0,Rb,hlx,hw,hg,ca,hw1,hw2],trivial⟩
     | 1,_=>
      have hw:wr .i64 (x+y)=x+y:=Cl (by omega) (by omega);have hg:¬ (x+y<0):=(by omega);exact .inl ⟨(),by simp[f172,hx1,Rb,hly,hw,hg,cb,hw1,hw2],trivial⟩) (fun _ _=>by
     exact⟨_,_,by simp[f172] <;> first | exact⟨rfl,rfl⟩ | rfl,by simp,by simp[Rb,hz]⟩) () trivial
  cases hq;simp[f172,Rb]at hlp;have hgrow:∃ w0 H0,AI MX (AE MX) 192 [.AH,.int .i64 z] []=some (.ret w0,H0)/\H5 N H0 w0 []:=by
   by_cases hz0:N=0
   .have z0:z=0:=(by omega);rw[hz0,z0];exact⟨.AH,[],c192z [],.inl ⟨rfl,rfl,rfl,rfl⟩⟩
   .exact⟨_,_,c192 N z (by omega) (by omega) (by omega) [],.inr ⟨by omega,by simp,rfl,by simp⟩⟩
  obtain⟨w0,H0,hg1,hg2⟩:=hgrow;obtain⟨e,st,hlp2,hq⟩:=AU (M:=MX) (fid:=172) (N:=36) (C:=AE MX) (c:=AL f172 1) (n:=2)
   (fun i (b:AV×AF)=>([(6,b.1),(25,V),(26,.int .i64 2),(27,.int .i64 i)],b.2)) (fun i b=>H5 N b.2 b.1 (Ox ea eb i))
   (fun r=>∃ w H',r=(.ext 2,([(6,w),(25,V),(26,.int .i64 2),(27,.int .i64 2),(28,.bool false)],H'))/\H5 N H' w (ea++eb)) (fun i b hi hI=>by
     obtain⟨w,H⟩:=b
     match i,hi with
     | 0,_=>
      obtain⟨w',H',h1,h2⟩:=H5.push hI (by omega) a1 a2 a3 (by simp[Ox];omega);have hc:=h2.cells;exact .inl ⟨(w',H'),by simp[f172,hx0,h1,ca,hc,hw1,hw2],by simpa[Ox]using h2⟩
     | 1,_=>
      obtain⟨w',H',h1,h2⟩:=H5.push hI (by omega) b1 b2 b3 (by simp[Ox];omega);have hc:=h2.cells;exact .inl ⟨(w',H'),by simp[f172,hx1,h1,cb,hc,hw1,hw2],by simpa[Ox]using h2⟩) (fun b hI=>by
     obtain⟨w,H⟩:=b;exact⟨_,_,by simp[f172] <;> first | exact⟨rfl,rfl⟩ | rfl,by simp,w,H,rfl,by simpa[Ox]using hI⟩) (w0,H0) hg2
  obtain⟨w,H',hq,hG⟩:=hq;cases hq;simp[f172]at hlp2;exact⟨w,H',by simp[AJ,f172,hlen,hlp,hg1,hg2.cells,hG.cells,hlp2],hG⟩
 by_cases hz:N=0
 .have ea0:ea=[]:=E5 (by omega);have hab:a++b=[]:=E5 (by rw[FZ];omega);refine⟨.AH,.inl ⟨hab,rfl⟩,fun ex h => ?_⟩;obtain⟨w,H',h1,h2⟩:=hrun ex;rcases h2 with⟨_,rfl,_,_⟩ | ⟨h0,_⟩
  .exact Af Q1 Th (by simp[AV.AA]) rfl h1 h
  .omega
 .refine⟨.sl 1 false (ea++eb),.inr ⟨false,_,rfl,r1,r2⟩,fun ex h => ?_⟩;obtain⟨w,H',h1,h2⟩:=hrun ex;rcases h2 with⟨h0,_⟩ | ⟨h0,g1,rfl,rfl⟩
  .exact absurd h0 hz
  .have hl:(ea++eb).length=N:=(by simp;omega);rw[hl,Nat.sub_self]at h1;simp only[List.replicate_zero,IX]at h1;refine LK Q1 Th (by simp[AV.AA]) rfl (hr':=[.arr 1 true (ea++eb)]) ?_ rfl h1 h;have hb2:(Nat.beq (ea++eb).length N&&Nat.beq 1 1&&Nat.ble (0+N) (ea++eb).length&&(ea++eb).all AG)=true:=(by rw[hl,hnr];simp[A1,A8]);show snap (9999999+1) _ _=_;simp only[snap,HJ,hb2];have ht:List.take N (ea++eb)=ea++eb:=DC (by omega);simp[ht]
theorem c133{w:Int}{k:KV}{l:List Int}{v lv:AV}(hk:CY (.bit w) k v)(hl:SlR Az 1 l lv)(h12:(DB k).length+l.length<1048577):∃ u,CY (.bit w) (.unk (DB k++l)) u/\∀ h,AI MX (AE MX) 133 [v,lv] h=some (.ret u,h):=by
 obtain⟨nov,a,rfl,hno,h1,_⟩:=hk.I4;have h2:l.length<1048577:=by omega
 have hs:SrX (.bit w) (.ro [.int .i64 w,.AH]):=by
  obtain⟨sv,_,_,_,_,e,hs⟩:=hk.sort;cases e;exact hs
 obtain⟨q,hq,hcall⟩:=c172 hno hl h1 h2;have hb:=U1;simp[Aa,An,f133]at hb;have hr:CY (.bit w) (.unk (DB k++l)) _:=CY.unk hs hq (by simp;omega);have hqn:=hq.AA;have hqf:q.flat=true:=by rcases hq with⟨_,rfl⟩ | ⟨_,_,rfl,_⟩ <;> rfl
 have hc:=hq.cells;have hcn:=hno.cells;have hcl:=hl.cells;exact⟨_,hr,fun h=>Hu Qn Zd (by simp[AV.AA,hl.AA]) (Hz (b:=false) (b':=false) (id:=0) (cs2:=[.ro [.int .i64 w,.AH],.int .i64 (-1),.int .i64 (-1),q,.AH]) rfl (.cons (.flat rfl _) (.cons (.flat rfl _) (.cons (.flat rfl _) (.cons (.flat hqf _) (.cons (.flat rfl _) (.nil _)))))) rfl) (by decide) hr.AA (fun h=>by cases h) (hr:=_) (by simp[AJ,f133,bsA,Aq,hcall,hb,hc,hcn,hcl,AG,AV.AA,hno.AA,hl.AA,hqn] <;> rfl) h⟩
structure HQ where
 nm:Bytes
 num:Int
 nx:Int
 deriving Inhabited
def I5(c:HQ)(xs:List AV):Prop:=xs=[.str c.nm,.int .i64 c.num,.int .i64 c.nx]
structure BE where
 arm:Int
 path:List Int
 cases:List HQ
 other:Int
 deriving Inhabited
def KB(v:BE)(xs:List AV):Prop:=∃ pv cv,xs=[.int .i64 v.arm,pv,cv,.int .i64 v.other]/\SlR Az 1 v.path pv/\SlR I5 3 v.cases cv
def SmN(v:BE):Prop:=v.path.length<1048577/\v.cases.length<1048577
theorem c101{l:List Int}{v:AV}(hv:SlR Az 1 l v)(hl:l.length<1048577)(H:AF):∃ es:List (List AV),es.length=l.length/\(∀(i:Nat) a e,l[i]? = some a->es[i]? = some e->Az a e)/\((l=[]/\es=[]/\AI MX (AE MX) 101 [v] H=some (.ret (.sl 1 true []),H))\/(l≠[]/\es≠[]/\AI MX (AE MX) 101 [v] H=some (.ret (.hs H.length es.length 1 0 es.length false),H++[.arr 1 false es]))):=by
 obtain⟨es,h1,h2,h3⟩:=LM (byt:=8) hv (by decide) (by decide) hl H;refine⟨es,h1,h2,?_⟩;rcases h3 with⟨hn,h3⟩ | ⟨hn,h3⟩
 .exact .inl ⟨hn,E5 (by rw[h1,hn];rfl),CV Qh TQ (by simp[AJ,f101,bsA,Aq,h3])⟩
 .exact .inr ⟨hn,fun e=>by rw[e]at h1;exact hn (E5 h1.symm),CV Qh TQ (by simp[AJ,f101,bsA,Aq,h3])⟩
end
section
attribute [local simp] C7 Br EW DL CG Dd Du Eu BZ Ar Bg Al GV FF EF HE D4 Ax FB EG HF HG xUn E7 D5 FG BF DH BG D6 BH D7 Ce CX Bw BJ EH Ej
 ev evs C4 DE OR.ofV OR.Dz OR.ofC FP Tm.get Tm.init Tm.only A1 A8 CM finish CF DJ HR Dy D3 unA B7 Bb B8 Bc Co Cp Cq Bd Cr Cs Be Ct Cu Bf B9 AL CQ Ba Cm Cn B6 Ev Ew Ey Dv Dw Fl F8 F9 Fm stA Ay Db Bn DI E8 Gt Bs C6 CI FI Gu
attribute [local simp] CJ Bi Bt BN DQ DR DS DT DU DW DX Ec Cg Ed Dh FR FT Gf Di Ee Dj BO Dk BP Dl CD Ef Ch FU FV FW Ci Dm Dn FX Gg FY Gh Gi Dp BQ Cj CE Dq Dr Ck
end
section
attribute [local simp] C7 Br EW DL CG Dd Du Eu BZ Ar Bg Al GV FF EF HE D4 Ax FB EG HF HG xUn E7 D5 FG BF DH BG D6 BH D7 Ce CX Bw BJ EH Ej
 ev evs C4 DE OR.ofV OR.Dz OR.ofC FP Tm.get Tm.init Tm.only A1 A8 CM finish CF DJ HR Dy D3 unA B7 Bb B8 Bc Co Cp Cq Bd Cr Cs Be Ct Cu Bf B9 AL CQ Ba Cm Cn B6 Ev Ew Ey Dv Dw Fl F8 F9 Fm stA Ay Db Bn DI E8 Gt Bs C6 CI FI Gu
attribute [local simp] CJ Bi Bt BN DQ DR DS DT DU DW DX Ec Cg Ed Dh FR FT Gf Di Ee Dj BO Dk BP Dl CD Ef Ch FU FV FW Ci Dm Dn FX Gg FY Gh Gi Dp BQ Cj CE Dq Dr Ck
end
end Go.Proofs.Am12
