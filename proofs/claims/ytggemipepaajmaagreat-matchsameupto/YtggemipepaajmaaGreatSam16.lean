/- Part 16. -/
import Derived.Test.YtggemipepaajmaaGreatSam15
set_option linter.all false
set_option maxHeartbeats 1000000
namespace Go.Proofs.Am12
open Go Go.Am Tryz
section
attribute [local simp] Dc Bn Ec Dd CQ Dx Dy Ey BZ Ap Bh Av Gb FR EN HO D9 A5 FN EO HP HQ xUn FC EA FT BG DQ BH EB BI EC Ce Ca Bv BL EP Eo
 ev evs C4 DP OR.ofV OR.D4 OR.ofC Fg Tm.get Tm.init Tm.only Ay A6 Bt finish CK DS Hb D3 D7 unA Bz Bc B6 Bd Cp Cq Cr Be Cs Ct Bf Cu Cv Bg B7 AL CP Bb Cn Co Bx Ez E0 E1 Dz D0 Fo F7 F8 Fp stA BA DY Bo DR FD Gp B8 C1 CI FU Gq
attribute [local simp] DE CT Cb Bl DF DG DH DI DJ DK DL Ef Cg Eg Dh FW FX Gi Di Eh Dj BQ Dk BR Dl B9 Ei Ch FY FZ Fa Ci Dm Dn Fb Gj Fc Gk Gl Dp BS Cj CA Dq Dr Ck
theorem aH{f:FuncId}{id:Nat}{k v:Int}{s:Bytes}{pv:AV}{h:AE}{b:Bool}{ps:List TyV}(hps:SlR AU 4 ps pv)(hh:h[id]? = some (.var b [.int .i64 k,.int .i64 v,.str s,pv])):snap C0 (.fn f [] [.hp id 0]) h=some (.fn f [] [.ro [.int .i64 k,.int .i64 v,.str s,pv]],h.set id (.var true [.int .i64 k,.int .i64 v,.str s,pv])):=by
 have hpv:=hps.AA;have:BC 9 (.fn f [] [.hp id 0]) h (.fn f [] [.ro [.int .i64 k,.int .i64 v,.str s,pv]]) (h.set id (.var true [.int .i64 k,.int .i64 v,.str s,pv])):=fun n=>by
  rcases hps with⟨_,rfl⟩ | ⟨ex,es,rfl,_⟩ <;> simp[AV.AA]at hpv <;> simp[Am.snap,Am.GY,AF,AV.AA,hh,hpv]
 exact this.at (by decide)
theorem c176{d:AK}{dx:List AV}(hd:Ah d dx)(k v:Int)(s:Bytes)(pv:AV)(h:AE):∃ B,AH MX (AG MX) 176 [.agg dx,.ro [.int .i64 k,.int .i64 v,.str s,pv]] h=some (.ret (.bool (d.nm == s)),h++[B]):=by
 obtain⟨qv,cv,rfl,hp,hc⟩:=hd.dest;refine⟨_,CU Y5 dB (by simp[AJ,f176] <;> first | exact⟨rfl,rfl⟩ | rfl)⟩
theorem t175b{l:List AK}{w:AV}(k v:Int)(s:Bytes)(pv:AV)(hv:SlR Ah 3 l w)(hl:l.length<1048577):∃ G,AJ MX 175 [w,.fn 176 [] [.ro [.int .i64 k,.int .i64 v,.str s,pv]]] []=some (.ret (.int .i64 (ixI (l.findIdx? (fun x:AK=>x.nm == s)))),G):=by
 obtain⟨F,hF⟩:∃ F,F=AV.fn 176 [] [.ro [.int .i64 k,.int .i64 v,.str s,pv]]:=⟨_,rfl⟩;rw[<- hF];obtain⟨e,st,hlp,hq⟩:=AQ (M:=MX) (fid:=175) (N:=19) (C:=AG MX) (c:=AL f175 0) (n:=l.length) (fun i (b:AE)=>([(0,w),(1,F),(7,.int .i64 l.length),(8,.int .i64 i)],b)) (fun i _=>∀ j (hj:j<l.length),j<i->(fun x:AK=>x.nm == s) l[j]=false)
  (fun r=>∃ b:AE,(r=(.ext 0,([(0,w),(1,F),(7,.int .i64 l.length),(8,.int .i64 l.length),(9,.bool false)],b))/\l.findIdx? (fun x:AK=>x.nm == s)=none)\/(∃ i:Nat,r=(.ret,([(4,.int .i64 i)],b))/\l.findIdx? (fun x:AK=>x.nm == s)=some i)) (fun i b hi hI=>by
    obtain⟨e,he,hR⟩:=hv.ix hi;have hi':=Aa hi;have hw:=AZ hi hl;obtain⟨B,hcall⟩:=c176 hR k v s pv b;obtain⟨qv,cv,rfl,hp,hc⟩:=hR.dest;cases hx:(l[i].nm == s)with
    | true=>rw[hx]at hcall;exact .inr ⟨_,_,by simp[f175,hi',he,hcall,hF] <;> exact⟨rfl,rfl⟩,by simp,b++[B],.inr ⟨i,rfl,FH (p:=(fun x:AK=>x.nm == s)) hi hI hx⟩⟩
    | false=>rw[hx]at hcall;exact .inl ⟨b++[B],by simp[f175,hi',he,hcall,hw,hF],FJ (p:=(fun x:AK=>x.nm == s)) hi hI hx⟩) (fun b hI=>by
    exact⟨_,_,by simp[f175] <;> exact⟨rfl,rfl⟩,by simp,b,.inl ⟨rfl,FI (p:=(fun x:AK=>x.nm == s)) fun j hj=>hI j hj hj⟩⟩) [] (fun j _ h0=>by omega)
 simp[f175]at hlp;obtain⟨b,hq⟩:=hq;rcases hq with⟨hq,hs⟩ | ⟨i,hq,hs⟩ <;> cases hq <;> exact⟨b,by simp[AJ,f175,hv.len,hlp,hs,ixI]⟩
theorem c175b{l:List AK}{w:AV}{k v:Int}{s:Bytes}{pv:AV}{ps:List TyV}(hps:SlR AU 4 ps pv)(hv:SlR Ah 3 l w)(hl:l.length<1048577){id:Nat}{b:Bool}{h:AE}(hk:h[id]? = some (.var b [.int .i64 k,.int .i64 v,.str s,pv])):AH MX (AG MX) 175 [w,.fn 176 [] [.hp id 0]] h=some (.ret (.int .i64 (ixI (l.findIdx? (fun x:AK=>x.nm == s)))),h.set id (.var true [.int .i64 k,.int .i64 v,.str s,pv])):=by
 obtain⟨G,hG⟩:=t175b k v s pv hv hl;have hpv:=hps.AA;exact EG (by simp[L9]) (args':=[w,.fn 176 [] [.ro [.int .i64 k,.int .i64 v,.str s,pv]]]) (by simp[Aq,hv.AA,aH hps hk,AV.AA,AF]) (by simp[hv.AA,AV.AA,AF,hpv]) (Ae L9 Vb (by simp[hv.AA,AV.AA,AF,hpv]) rfl hG _)
theorem c198{u:TyV}{xs:List AV}(hu:AU u xs){b:Nat}{lk:Bool}{H:AE}(hb:H[b]? = some (.var lk xs)):AH MX (AG MX) 198 [.hp b 0] H=some (.ret (.hp H.length 0),H++[.var false [.int .i64 u.v,.AI]]):=by
 obtain⟨pv,rfl,hp⟩:=hu.AY;exact BE ZI dP (by simp[AJ,f198,hb])
theorem c179{u:TyV}{xs:List AV}(hu:AU u xs){own:Nat}{es:List (Bytes×AV)}{H:AE}(ho:H[own]? = some (.mp (mpE es)))(p:Bytes)(pm:AV) :
 (u.k=2->AH MX (AG MX) 179 [.hm own,.str p,.agg xs,pm] H=some (.ret (.tup []),(H++[Blk.var false xs]).set own (.mp (mpE (I7 p (.fn 198 [] [.hp H.length 0]) es))))) /\
 (u.k=1->AH MX (AG MX) 179 [.hm own,.str p,.agg xs,pm] H=some (.ret (.tup []),H++[Blk.var false xs])) /\
 (∀ f,u.k=0->lkA (some .string) .Gn pm (.str u.nm) false (H++[Blk.var false xs])=some f->AH MX (AG MX) 179 [.hm own,.str p,.agg xs,pm] H=some (.ret (.tup []),(H++[Blk.var false xs]).set own (.mp (mpE (I7 p f es))))):=by
 obtain⟨pv,rfl,hp⟩:=hu.AY;have ho':=Af ho [Blk.var false [.int .i64 u.k,.int .i64 u.v,.str u.nm,pv]];have hup:=aG ho' p;refine⟨fun hk => ?_,fun hk => ?_,fun f hk hf => ?_⟩
 .have h2:(u.k == 2)=true:=by simp[hk]
  exact BE OV Qx (by simp[AJ,f179,h2,hup])
 .have h2:(u.k == 2)=false:=by simp[hk]
  have h0:(u.k == 0)=false:=by simp[hk]
  exact BE OV Qx (by simp[AJ,f179,h2,h0])
 .have h2:(u.k == 2)=false:=by simp[hk]
  have h0:(u.k == 0)=true:=by simp[hk]
  exact BE OV Qx (by simp[AJ,f179,h2,h0,hf,hup])
theorem c177{u:TyV}{xs:List AV}(hu:AU u xs){pm:AV}{H:AE}:(u.k≠0->AH MX (AG MX) 177 [.agg xs,pm] H=some (.ret (.int .i64 u.v),H++[Blk.var false xs])) /\
 (∀ f b r m w H',u.k=0->f=.fn 198 [] [.hp b 0]->lkA (some .string) .Gn pm (.str u.nm) false (H++[Blk.var false xs])=some f->AH MX (AG MX) 198 [.hp b 0] (H++[Blk.var false xs])=some (.ret (.hp r 0),H')->H'[r]? = some (.var false [.int .i64 m,w])->AH MX (AG MX) 177 [.agg xs,pm] H=some (.ret (.int .i64 m),H')):=by
 obtain⟨pv,rfl,hp⟩:=hu.AY;refine⟨fun hk => ?_,fun f b r m w H' hk hf hl hc hr => ?_⟩
 .have hk':(u.k == 0)=false:=by simp[hk]
  exact BE SQ Vc (by simp[AJ,f177,hk'])
 .have h0:(u.k == 0)=true:=by simp[hk]
  subst hf;exact BE SQ Vc (by simp[AJ,f177,h0,hl,hc,hr])
def P6(l:List AK)(lv:AV)(d:Nat)(t:TyV)(s:Sh):Prop:=∀(u:TyV) (xs:List AV) (params:List Bytes) (args:List TyV) (pm:AV) (S:Nat->Prop) (H:AE),AU u xs->Au l params u=0->(∀ a∈args,VT l a)->params.length=args.length->Cc params args u=t->(∀ x,S x->x<H.length)->IT (E7 l lv d S H) S H pm params args ->
 ∃ v H',AH MX (AG MX) 144 [lv,.agg xs,pm] H=some (.ret v,H')/\H.length<=H'.length/\(∀ x,x<H.length->H'[x]? = H[x]?)/\BT (shD s) (fun x=>H.length<=x/\x<H'.length) H' v s
section
variable{l:List AK}{lv:AV}(hl:SlR Ah 3 l lv)
include hl
theorem c178{d:Nat}{t:TyV}{s:Sh}(ih:P6 l lv d t s){S:Nat->Prop}{H:AE}(hS:∀ x,S x->x<H.length){a b c e:Nat}{la lb lc le:Bool}{u:TyV}{xs:List AV}{pm:AV}{params:List Bytes}{args:List TyV}{k:Nat}(hk:k<u.ps.length)(h2:H[a]? = some (.var la [lv]))(h3:H[b]? = some (.var lb xs))(h4:AU u xs)(h5:H[c]? = some (.var lc [.int .i64 k]))(h6:H[e]? = some (.var le [pm]))(h7:IT (E7 l lv d S H) S H pm params args)(h8:Au l params u.ps[k]=0)(h9:∀ x∈args,VT l x)(h10:params.length=args.length)(h11:Cc params args u.ps[k]=t) :
 ∃ v H',AH MX (AG MX) 178 [.hp a 0,.hp b 0,.hp c 0,.hp e 0] H=some (.ret v,H')/\H.length<=H'.length/\(∀ x,x<H.length->H'[x]? = H[x]?)/\BT (shD s) (fun x=>H.length<=x/\x<H'.length) H' v s:=by
 obtain⟨pv,rfl,hp⟩:=h4.AY;obtain⟨fe,hfe,hR⟩:=hp.ix hk;obtain⟨v,H',q1,q2,q3,q4⟩:=ih u.ps[k] fe params args pm S H hR h8 h9 h10 h11 hS h7;obtain⟨qv,rfl,hq⟩:=hR.AY;have hb:=W2;simp[Ab,Az,f178]at hb;exact⟨v,H',BE Y6 dC (by simp[AJ,f178,h2,h3,h5,h6,AW h2,AW h3,AW h5,AW h6,hfe,q1,hb]),q2,q3,q4⟩
theorem aI{d:Nat}{t:TyV}{s:Sh}(ht:t.k=1)(ih:∀ d',d'<d->P6 l lv d' t s){u:TyV}{xs:List AV}{params:List Bytes}{args:List TyV}{pm:AV}{S:Nat->Prop}{H:AE}(hu:AU u xs)(hk:u.k=0)(hv:Au l params u=0)(hln:params.length=args.length)(hr:Cc params args u=t)(hS:∀ x,S x->x<H.length)(hE:IT (E7 l lv d S H) S H pm params args) :
 ∃ v H',AH MX (AG MX) 144 [lv,.agg xs,pm] H=some (.ret v,H')/\H.length<=H'.length/\(∀ x,x<H.length->H'[x]? = H[x]?)/\BT (shD s) (fun x=>H.length<=x/\x<H'.length) H' v s:=by
 obtain⟨i,hi,hp,hti⟩:∃ i,∃ hi:i<params.length,params[i]=u.nm/\args[i]'(by omega)=t:=by
  cases u with
  | mk k v nm ps=>
   have hk:k=0:=hk;subst hk;rw[CL]at hv;have hne:=hv.2.1 rfl;cases hf:params.findIdx? (fun x=>x == nm)with
   | none=>exact absurd hf hne
   | some i=>
    have hil:=Gh hf;have hnm:params[i]=nm:=by
     have h3:=hf;rw[Gr]at h3;exact beq_iff_eq.1 h3.2.1
    refine⟨i,hil,hnm,?_⟩;rw[<- hr];simp only[Cc,if_true,hf];rw[Lh,AO (by omega)];rfl
 have hcp:=hE.cells;rcases hE with⟨h0,_⟩ | ⟨id,es,hid,rfl,hmp,hfn⟩
 .rw[h0]at hi;cases hi
 obtain⟨f,hf,hC⟩:=hfn i _ _ (AO hi) (AO (by omega));rw[hp]at hf;rw[hti]at hC;obtain⟨pv,rfl,hpv⟩:=hu.AY;let T:=[Blk.var false [lv],.var false [.int .i64 u.k,.int .i64 u.v,.str u.nm,pv],.var false [.hm id]];have hS':∀ x,S x->x<(H++T).length:=fun x hx=>by have:=hS x hx;simp;omega
 have hX:∀ x,S x->(H++T)[x]? = H[x]? := fun x hx=>A9 (hS x hx)
 have hC':=E7.mono d hC (fun _ h=>h) hX;have hlk:=Ua (Af hmp T) hf;cases d with
 | zero=>exact hC.elim
 | succ d=>
  rcases hC' with⟨h2,_⟩ | ⟨_,a,b,c,e,la,lb,lc,le,u',xs',pm',params',args',k,hk',rfl,s1,s2,s3,s4,g2,g3,g4,g5,g6,g7,g8,g9,g10,g11⟩
  .omega
  obtain⟨v,H',q1,q2,q3,q4⟩:=c178 hl (ih d (by omega)) hS' hk' g2 g3 g4 g5 g6 g7 g8 g9 g10 g11;have h0:(u.k == 0)=true:=by simp[hk]
  simp only[T]at hlk q1;refine⟨v,H',BE L6 Na ?_,by simp at q2;omega,fun x hx => ?_,BT.mono _ q4 (fun x hx=>⟨by have:=hx.1;simp at this;omega,hx.2⟩) (fun _ _=>rfl)⟩
  .simp[AJ,f144,hl.cells,h0,hlk,q1]
  .rw[q3 x (by simp;omega)];exact A9 hx
theorem aJ(hll:l.length<1048577){u:TyV}{pv pm:AV}(hp:SlR AU 4 u.ps pv)(H:AE):AH MX (AG MX) 175 [lv,.fn 176 [] [.hp (H.length+1) 0]] (H++[Blk.var false [lv],.var false [.int .i64 u.k,.int .i64 u.v,.str u.nm,pv],.var false [pm]])=some (.ret (.int .i64 (ixI (l.findIdx? (fun x:AK=>x.nm == u.nm)))),H++[Blk.var false [lv],.var true [.int .i64 u.k,.int .i64 u.v,.str u.nm,pv],.var false [pm]]):=by
 have:=c175b (w:=lv) hp hl hll (id:=H.length+1) (b:=false) (h:=H++[Blk.var false [lv],.var false [.int .i64 u.k,.int .i64 u.v,.str u.nm,pv],.var false [pm]]) (k:=u.k) (v:=u.v) (s:=u.nm) (by simp);rw[this]
 congr 2
 simp
theorem jB(hll:l.length<1048577){d:Nat}{t:TyV}{u:TyV}{xs:List AV}{params:List Bytes}{args:List TyV}{pm:AV}{S:Nat->Prop}{H:AE}(hu:AU u xs)(hk:u.k=1)(hb:u.nm=De)(hv:Au l params u=0)(hln:params.length=args.length)(hr:Cc params args u=t)(h2:(BX t).k=2)(hS:∀ x,S x->x<H.length)(hE:IT (E7 l lv d S H) S H pm params args) :
 ∃ v H',AH MX (AG MX) 144 [lv,.agg xs,pm] H=some (.ret v,H')/\H.length<=H'.length/\(∀ x,x<H.length->H'[x]? = H[x]?)/\BT (shD (.bit (BX t).v)) (fun x=>H.length<=x/\x<H'.length) H' v (.bit (BX t).v):=by
 have hcp:=hE.cells;obtain⟨pv,rfl,hpv⟩:=hu.AY;have h175:=aJ hl hll (pm:=pm) hpv H;have hb5:=Wu;simp[Ab,Az,f144]at hb5;have hlen:0<u.ps.length:=by
  cases u with
  | mk k v nm ps=>
   have hk:k=1:=hk;have hb:nm=De:=hb;subst hk;subst hb;rw[CL]at hv;have:=hv.2.2.1;simp only[Ee,if_true,beq_self_eq_true]at this;have:=Option.some.inj this;show 0<ps.length;omega
 have harg:BX t=Cc params args u.ps[0]:=by
  cases u with
  | mk k v nm ps=>
   have hk:k=1:=hk;subst hk;rw[<- hr];have hlen:0<ps.length:=hlen;have h1:¬ ((1:Int)=0):=(by decide);simp only[Cc,h1,if_false,Fk];show(ps.map (Cc params args)).getD 0 default=_;rw[Lh,AO (by simpa using hlen),List.getElem_map];rfl
 have ha0:Au l params u.ps[0]=0:=by
  cases u with
  | mk k v nm ps=>
   rw[CL]at hv;exact hv.2.2.2.2 _ (An hlen)
 obtain⟨fe,hfe,hR⟩:=hpv.ix hlen;have hfe0:ixA 4 pv (.int .i64 (0:Int))=some (.ro fe):=hfe .i64;obtain⟨a,ha⟩:∃ a,a=u.ps[0]:=⟨_,rfl⟩;rw[<- ha]at harg ha0 hR;let T:=[Blk.var false [lv],.var true [.int .i64 u.k,.int .i64 u.v,.str u.nm,pv],.var false [pm]];obtain⟨X,h177⟩:∃ X,AH MX (AG MX) 177 [.agg fe,pm] (H++T)=some (.ret (.int .i64 (BX t).v),H++(T++X)):=by
  by_cases hka:a.k=0
  ·-- a parameter
   obtain⟨i,hi,hp,hti⟩:∃ i,∃ hi:i<params.length,params[i]=a.nm/\args[i]'(by omega)=BX t:=by
    cases a with
    | mk k v nm ps=>
     have hka:k=0:=hka;subst hka;rw[CL]at ha0;have hne:=ha0.2.1 rfl;cases hf:params.findIdx? (fun x=>x == nm)with
     | none=>exact absurd hf hne
     | some i=>
      have hil:=Gh hf;have hnm:params[i]=nm:=by
       have h3:=hf;rw[Gr]at h3;exact beq_iff_eq.1 h3.2.1
      refine⟨i,hil,hnm,?_⟩;rw[harg];simp only[Cc,if_true,hf];rw[Lh,AO (by omega)];rfl
   rcases hE with⟨h0,_⟩ | ⟨id,es,hid,rfl,hmp,hfn⟩
   .rw[h0]at hi;cases hi
   obtain⟨f,hf,hC⟩:=hfn i _ _ (AO hi) (AO (by omega));rw[hp]at hf;rw[hti]at hC;cases d with
   | zero=>exact hC.elim
   | succ d=>
    rcases hC with⟨_,b,lk,u',xs',rfl,s1,g1,g2,g3⟩ | ⟨h1,_⟩
    .have hlk:=Ua (Af (Af hmp T) [Blk.var false fe]) hf;have g1':=Af (Af g1 T) [Blk.var false fe];have h198:=c198 g2 g1';have h177:=(c177 hR (pm:=.hm id) (H:=H++T)).2 _ b _ u'.v .AI _ hka rfl hlk h198 (by simp);rw[g3]at h177;exact⟨[Blk.var false fe,.var false [.int .i64 (BX t).v,.AI]],by rw[h177];simp⟩
    .omega
  .have h177:=(c177 hR (pm:=pm) (H:=H++T)).1 hka;have hva:(BX t).v=a.v:=by
    rw[harg];cases a with
    | mk k v nm ps=>
     have hka:¬ k=0:=hka;simp only[Cc,hka,if_false];rfl
   rw[<- hva]at h177;exact⟨[Blk.var false fe],by rw[h177];simp⟩
 simp only[T]at h177;obtain⟨qv,rfl,hq⟩:=hR.AY;have h0:(u.k == 0)=false:=by simp[hk]
 have hbn:(u.nm == [66,105,116])=true:=by rw[hb];rfl
 refine⟨.hp (H.length+(T++X).length) 0,H++(T++X)++[Blk.var false [.int .i64 (BX t).v,.AI]],BE L6 Na ?_,by simp,fun x hx => ?_,?_⟩
 .simp only[T];simp at h177;simp[AJ,f144,hl.cells,hcp,h0,hbn,h175,hfe0,h177,hb5,Ju]
 .rw[CO];exact A9 hx
 .refine⟨_,rfl,⟨by omega,by simp⟩,?_⟩;rw[En (by simp)];simp
end
theorem E7.up{l:List AK}{lv:AV}:∀(d:Nat) {S:Nat->Prop} {H:AE} {f:AV} {t:TyV},E7 l lv d S H f t->E7 l lv (d+1) S H f t
 | 0,_,_,_,_,h=>h.elim
 | d+1,S,H,f,t,h=>by
  rcases h with h | ⟨h0,a,b,c,e,la,lb,lc,le,u,xs,pm,params,args,k,hk,h1,s1,s2,s3,s4,h2,h3,h4,h5,h6,h7,h8⟩
  .exact .inl h
  .exact .inr ⟨h0,a,b,c,e,la,lb,lc,le,u,xs,pm,params,args,k,hk,h1,s1,s2,s3,s4,h2,h3,h4,h5,h6,h7.mono (fun f t h=>E7.up d h) (fun _ h=>h) (fun _ _=>rfl),h8⟩
theorem aK{X Y:AE}{n:Nat}(A B:Blk)(hn:n<X.length):(X.set n A++Y).set n B=(X++Y).set n B:=by
 rw[<- Nn _ _ hn,List.set_set]
theorem aL{X Y:AE}{n:Nat}(A:Blk)(hn:n<X.length):X.set n A++Y=(X++Y).set n A:=by
 rw[Nn _ _ hn]
structure PI(l:List AK)(lv:AV)(d:Nat)(H:AE)(u:TyV)(pv pm:AV)(params:List Bytes)(args:List TyV)(ps:List Bytes)(j:Nat)(b:AE)(es:List (Bytes×AV)):Prop where
 old:∀ x,x<H.length->b[x]? = H[x]?
 ba:b[H.length]? = some (.var false [lv])
 bb:b[H.length+1]? = some (.var true [.int .i64 u.k,.int .i64 u.v,.str u.nm,pv])
 be:b[H.length+2]? = some (.var false [pm])
 bo:b[H.length+3]? = some (.mp (mpE es))
 le:H.length+4<=b.length
 ent:∀(m:Nat) p t,m<j->ps[m]? = some p->u.ps[m]? = some t->∃ f,It p es=some f/\E7 l lv (d+1) (fun x=>x<b.length/\x≠H.length+3) b f (Cc params args t)
theorem PI.step{l:List AK}{lv:AV}{d:Nat}{H:AE}{u:TyV}{pv pm:AV}{params:List Bytes}{args:List TyV}{ps:List Bytes}{j:Nat}{b:AE}{es es':List (Bytes×AV)}(h:PI l lv d H u pv pm params args ps j b es)(hnd:ps.Nodup){p:Bytes}{t:TyV}(hp:ps[j]? = some p)(ht:u.ps[j]? = some t){X:AE}(he:∀ q,q≠p->It q es'=It q es)
 (hf:∃ f,It p es'=some f/\E7 l lv (d+1) (fun x=>x<(b++X).length/\x≠H.length+3) ((b++X).set (H.length+3) (.mp (mpE es'))) f (Cc params args t)):PI l lv d H u pv pm params args ps (j+1) ((b++X).set (H.length+3) (.mp (mpE es'))) es':=by
 have hle:=h.le;have hk:∀ x,x<b.length->x≠H.length+3->((b++X).set (H.length+3) (.mp (mpE es')))[x]? = b[x]? := fun x h1 h2=>by
  rw[BP (fun e=>h2 e.symm),A9 h1]
 refine⟨fun x hx=>by rw[hk x (by omega) (by omega)];exact h.old x hx,by rw[hk _ (by omega) (by omega)];exact h.ba,by rw[hk _ (by omega) (by omega)];exact h.bb,by rw[hk _ (by omega) (by omega)];exact h.be,CM (by simp;omega),by simp;omega,fun m p' t' hm h1 h2 => ?_⟩;by_cases hmj:m=j
 .subst hmj;rw[hp]at h1;cases h1;rw[ht]at h2;cases h2;obtain⟨f,f1,f2⟩:=hf;exact⟨f,f1,E7.mono _ f2 (fun x hx=>⟨by rw[GX];exact hx.1,hx.2⟩) (fun _ _=>rfl)⟩
 .obtain⟨f,f1,f2⟩:=h.ent m p' t' (by omega) h1 h2;have hne:p'≠p:=fun e=>by
   subst e;obtain⟨a1,a2⟩:=Ac.1 h1;obtain⟨b1,b2⟩:=Ac.1 hp;exact Li.1 hnd m j a1 b1 (by omega) (a2.trans b2.symm)
  exact⟨f,by rw[he p' hne];exact f1,E7.mono _ f2 (fun x hx=>⟨by simp;have:=hx.1;omega,hx.2⟩) (fun x hx=>hk x hx.1 hx.2)⟩
section
variable{l:List AK}{lv:AV}(hl:SlR Ah 3 l lv)
include hl
theorem params144{d:Nat}{H:AE}{u:TyV}{pv pm:AV}(hu:AU u [.int .i64 u.k,.int .i64 u.v,.str u.nm,pv])(hpv:SlR AU 4 u.ps pv){params:List Bytes}{args:List TyV}{S:Nat->Prop}(hS:∀ x,S x->x<H.length)(hE:IT (E7 l lv d S H) S H pm params args)(hua:∀ t∈u.ps,Au l params t=0)(hva:∀ a∈args,VT l a)(hln:params.length=args.length)
 {ps:List Bytes} {qv:AV} (hq:SlR C2 1 ps qv) (hnd:ps.Nodup) (hps:ps.length=u.ps.length) (hpl:ps.length<1048577) {i:Nat} :
 ∃(b:AE) (es:List (Bytes×AV)),E5 MX 144 118 (AG MX) (AL f144 0) ([(3,.hp H.length 0),(4,.hp (H.length+1) 0),(5,.hp (H.length+2) 0),(7,.int .i64 i),(8,.hm (H.length+3)),(53,qv),(54,.int .i64 ps.length),(55,.int .i64 (0:Nat))],H++[Blk.var false [lv],.var true [.int .i64 u.k,.int .i64 u.v,.str u.nm,pv],.var false [pm],.mp []]) =
  some (.ext 1,([(3,.hp H.length 0),(4,.hp (H.length+1) 0),(5,.hp (H.length+2) 0),(7,.int .i64 i),(8,.hm (H.length+3)),(53,qv),(54,.int .i64 ps.length),(55,.int .i64 ps.length),(56,.bool false)],b))/\PI l lv d H u pv pm params args ps ps.length b es:=by
 have hb13:=UB;simp[Ab,Az,f144]at hb13;obtain⟨e,st,hlp,hq'⟩:=AQ (M:=MX) (fid:=144) (N:=118) (C:=AG MX) (c:=AL f144 0) (n:=ps.length)
  (fun j (b:AE×List (Bytes×AV))=>([(3,.hp H.length 0),(4,.hp (H.length+1) 0),(5,.hp (H.length+2) 0),(7,.int .i64 i),(8,.hm (H.length+3)),(53,qv),(54,.int .i64 ps.length),(55,.int .i64 j)],b.1))
  (fun j b=>PI l lv d H u pv pm params args ps j b.1 b.2)
  (fun r=>∃ b:AE×List (Bytes×AV),r=(.ext 1,([(3,.hp H.length 0),(4,.hp (H.length+1) 0),(5,.hp (H.length+2) 0),(7,.int .i64 i),(8,.hm (H.length+3)),(53,qv),(54,.int .i64 ps.length),(55,.int .i64 ps.length),(56,.bool false)],b.1))/\PI l lv d H u pv pm params args ps ps.length b.1 b.2) (fun j b hj hI=>by
    obtain⟨b,es⟩:=b;have hI:PI l lv d H u pv pm params args ps j b es:=hI;have hj':=Aa hj;have hw:=AZ hj hpl;obtain⟨pe,hpe,hpR⟩:=hq.ix hj;have hpR:pe=[.str ps[j]]:=hpR;subst hpR;have hju:j<u.ps.length:=(by omega);obtain⟨fe,hfe,hfR⟩:=hpv.ix hju;have hle:=hI.le;have hn0:=hua _ (An hju);let F:=AV.fn 178 [] [.hp H.length 0,.hp (H.length+1) 0,.hp b.length 0,.hp (H.length+2) 0];let b1:=(b++[Blk.var false [.int .i64 j]]).set (H.length+3) (.mp (mpE (I7 ps[j] F es)));have hup:=aG (Af hI.bo [Blk.var false [.int .i64 j]]) ps[j] F;have hb1:b1[H.length+3]? = some (.mp (mpE (I7 ps[j] F es))):=CM (by simp;omega);have hk1:∀ x,x<b.length->x≠H.length+3->b1[x]? = b[x]? := fun x h1 h2=>by
     show((b++_).set _ _)[x]? = _;rw[BP (fun e=>h2 e.symm),A9 h1]
    have hbb1:b1[H.length+1]? = some (.var true [.int .i64 u.k,.int .i64 u.v,.str u.nm,pv]):=(by rw[hk1 _ (by omega) (by omega)];exact hI.bb);have hbe1:b1[H.length+2]? = some (.var false [pm]):=(by rw[hk1 _ (by omega) (by omega)];exact hI.be);have hbn1:b1[b.length]? = some (.var false [.int .i64 j]):=by
     show((b++_).set _ _)[b.length]? = _;rw[BP (by omega)];simp
    have hb1l:b1.length=b.length+1:=(by simp[b1]);obtain⟨es',h179,hne,hff⟩:∃ es',AH MX (AG MX) 179 [.hm (H.length+3),.str ps[j],.agg fe,pm] b1=some (.ret (.tup []),(b++[Blk.var false [.int .i64 j],.var false fe]).set (H.length+3) (.mp (mpE es')))/\(∀ q,q≠ps[j]->It q es'=It q es) /\
     ∃ f,It ps[j] es'=some f/\E7 l lv (d+1) (fun x=>x<(b++[Blk.var false [.int .i64 j],.var false fe]).length/\x≠H.length+3) ((b++[Blk.var false [.int .i64 j],.var false fe]).set (H.length+3) (.mp (mpE es'))) f (Cc params args u.ps[j]):=by
     obtain⟨n2,n1,n0⟩:=c179 hfR hb1 ps[j] pm;have hset:∀ es'',(b1++[Blk.var false fe]).set (H.length+3) (.mp (mpE es''))=(b++[Blk.var false [.int .i64 j],.var false fe]).set (H.length+3) (.mp (mpE es'')):=fun es''=>by
      show((b++_).set _ _++_).set _ _=_;rw[aK _ _ (by simp;omega)];simp
     have hkk:∀ es'' x,x<b.length->x≠H.length+3->((b++[Blk.var false [.int .i64 j],.var false fe]).set (H.length+3) (.mp (mpE es'')))[x]? = b[x]? := fun es'' x h1 h2=>by
      rw[BP (fun e=>h2 e.symm),A9 h1]
     have hkH:∀ es'' x,S x->((b++[Blk.var false [.int .i64 j],.var false fe]).set (H.length+3) (.mp (mpE es'')))[x]? = H[x]? := fun es'' x hx=>by
      have:=hS x hx;rw[hkk es'' x (by omega) (by omega)];exact hI.old x (hS x hx)
     have hSS:∀ x,S x->x<(b++[Blk.var false [.int .i64 j],.var false fe]).length/\x≠H.length+3:=fun x hx=>by
      have:=hS x hx;simp;omega
     have hkind:(u.ps[j].k=0\/u.ps[j].k=1\/u.ps[j].k=2)/\(u.ps[j].k≠0->(Cc params args u.ps[j]).k=u.ps[j].k/\(Cc params args u.ps[j]).v=u.ps[j].v):=by
      generalize u.ps[j]=t at hn0;cases t with
      | mk k v nm qs=>
       rw[CL]at hn0;refine⟨?_,fun h => ?_⟩
       .show k=0\/k=1\/k=2;have:=hn0.1;omega
       .have h:¬ k=0:=h;simp only[Cc,h,if_false];exact⟨rfl,rfl⟩
     obtain⟨hk3,hkv⟩:=hkind;rcases hk3 with hk | hk | hk
     ·-- a parameter
      obtain⟨i',hi',hp',hti⟩:∃ i',∃ hi:i'<params.length,params[i']=u.ps[j].nm/\args[i']'(by omega)=Cc params args u.ps[j]:=by
       generalize u.ps[j]=t at hn0 hk;cases t with
       | mk k v nm qs=>
        have hk:k=0:=hk;subst hk;rw[CL]at hn0;have hne:=hn0.2.1 rfl;cases hf:params.findIdx? (fun x=>x == nm)with
        | none=>exact absurd hf hne
        | some i=>
         have hil:=Gh hf;have hnm:params[i]=nm:=by
          have h3:=hf;rw[Gr]at h3;exact beq_iff_eq.1 h3.2.1
         refine⟨i,hil,hnm,?_⟩;simp only[Cc,if_true,hf];rw[Lh,AO (by omega)];rfl
      rcases hE with⟨h0,_⟩ | ⟨id,es0,hid,rfl,hmp,hfn⟩
      .rw[h0]at hi';cases hi'
      obtain⟨f,hf,hC⟩:=hfn i' _ _ (AO hi') (AO (by omega));rw[hp']at hf;rw[hti]at hC;have hidl:=hS id hid;have hmp1:(b1++[Blk.var false fe])[id]? = some (.mp (mpE es0)):=by
       rw[A9 (by omega),hk1 id (by omega) (by omega),hI.old id hidl];exact hmp
      refine⟨I7 ps[j] f (I7 ps[j] F es),by rw[n0 f hk (Ua hmp1 hf),hset],fun q hq=>by rw[Kp hq,Kp hq],f,MN _ _ _,?_⟩;exact E7.up d (E7.mono d hC hSS (hkH _))
     ·-- a thunk
      refine⟨I7 ps[j] F es,by
       rw[n1 hk];show some (_,(b++_).set _ _++_)=_;rw[aL _ (by simp;omega)];simp,fun q hq=>Kp hq _ _,F,MN _ _ _,.inr ⟨by rw[(hkv (by omega)).1];exact hk,H.length,H.length+1,b.length,H.length+2,false,true,false,false,u,_,pm,params,args,j,hju,rfl,⟨by simp;omega,by omega⟩,⟨by simp;omega,by omega⟩,⟨by simp,by omega⟩,⟨by simp;omega,by omega⟩,by rw[hkk _ _ (by omega) (by omega)];exact hI.ba,by rw[hkk _ _ (by omega) (by omega)];exact hI.bb,?_,by rw[BP (by omega)];simp,by rw[hkk _ _ (by omega) (by omega)];exact hI.be,hE.mono (fun f t h=>E7.mono d h hSS (hkH _)) hSS (hkH _),hn0,hva,hln,rfl⟩⟩
      exact hu
     ·-- a number
      refine⟨I7 ps[j] (.fn 198 [] [.hp b1.length 0]) (I7 ps[j] F es),by rw[n2 hk,hset],fun q hq=>by rw[Kp hq,Kp hq],_,MN _ _ _,.inl ⟨by rw[(hkv (by omega)).1];exact hk,b1.length,false,u.ps[j],fe,rfl,⟨by rw[hb1l];simp,by omega⟩,?_,hfR,(hkv (by omega)).2.symm⟩⟩;rw[hb1l,BP (by omega)];simp
    refine .inl ⟨((b++[Blk.var false [.int .i64 j],.var false fe]).set (H.length+3) (.mp (mpE es')),es'),?_,hI.step hnd (AO hj) (AO hju) hne hff⟩;simp only[F]at hup;have hcp:=hE.cells;obtain⟨tv,rfl,htv⟩:=hfR.AY;obtain⟨G,hG⟩:∃ G,G=b1:=⟨_,rfl⟩;have hG':(b++[Blk.var false [.int .i64 j]]).set (H.length+3) (.mp (mpE (I7 ps[j] (.fn 178 [] [.hp H.length 0,.hp (H.length+1) 0,.hp b.length 0,.hp (H.length+2) 0]) es)))=G:=hG.symm;rw[hG']at hup;rw[<- hG]at h179 hbb1 hbe1 hbn1;simp[f144,hj',hpe,hup,hw,hb13,hbb1,hbe1,hbn1,AW hbb1,AW hbe1,AW hbn1,hfe,h179]) (fun b hI=>by
    exact⟨_,_,by simp[f144] <;> first | exact⟨rfl,rfl⟩ | rfl,by simp,b,rfl,hI⟩) (H++[Blk.var false [lv],.var true [.int .i64 u.k,.int .i64 u.v,.str u.nm,pv],.var false [pm],.mp []],[]) ⟨fun x hx=>A9 hx,by simp,by simp,by simp,by simp[mpE],by simp,fun m p t h=>by omega⟩
 obtain⟨⟨b,es⟩,hq',hI⟩:=hq';cases hq';exact⟨b,es,hlp,hI⟩
end
def JT(N:Nat)(Q:Nat->Prop)(b:AE)(w:AV)(ns:List Bytes)(ss:List (List Sh))(k lo:Nat):Prop:=(k=0/\w=.AI)\/∃ q es,k≠0/\¬ Q q/\lo<q/\q<b.length/\w=.hs q k 2 0 k false/\b[q]? = some (.arr 2 false es)/\es.length=k/\∀(i:Nat) e nm parts,es[i]? = some e->ns[i]? = some nm->ss[i]? = some parts->∃ pv,e=[.str nm,pv]/\IQ (BT N Q b) Q b pv parts
theorem JT.cells{N:Nat}{Q:Nat->Prop}{b:AE}{w:AV}{ns:List Bytes}{ss:List (List Sh)}{k lo:Nat}(h:JT N Q b w ns ss k lo):w.cells=some [w]:=by
 rcases h with⟨_,rfl⟩ | ⟨q,es,_,_,_,_,rfl,_⟩ <;> rfl
theorem JT.mono{N:Nat}{Q Q':Nat->Prop}{b b':AE}{w:AV}{ns:List Bytes}{ss:List (List Sh)}{k lo:Nat}(h:JT N Q b w ns ss k lo)(hl:b.length<=b'.length)(hQ:∀ x,Q x->Q' x)(hn:∀ x es,Q' x->¬ Q x->b[x]? = some (.arr 2 false es)->False)(hQb:∀ x,Q x->b'[x]? = b[x]?)(ha:∀ x es,lo<x->b[x]? = some (.arr 2 false es)->b'[x]? = b[x]?):JT N Q' b' w ns ss k lo:=by
 rcases h with h | ⟨q,es,h0,h1,h2,h3,h4,h5,h6,h7⟩
 .exact .inl h
 .refine .inr ⟨q,es,h0,fun hq=>hn q es hq h1 h5,h2,by omega,h4,by rw[ha q es h2 h5];exact h5,h6,fun i e nm parts a c d => ?_⟩;obtain⟨pv,e1,e2⟩:=h7 i e nm parts a c d;exact⟨pv,e1,e2.mono (fun v s hv=>BT.mono N hv hQ hQb) hQ hQb⟩
theorem JT.push{N:Nat}{Q:Nat->Prop}{b b1:AE}{w x:AV}{ns:List Bytes}{ss:List (List Sh)}{k lo:Nat}(h:JT N Q b w ns ss k lo)(hQ:∀ x,Q x->x<b.length)(hlo:lo<b.length){nm:Bytes}{pv:AV}{parts:List Sh}(hx:b1=b/\x=.sl 2 true [[.str nm,pv]]\/b1=b++[.arr 2 false [[.str nm,pv]]]/\x=.hs b.length 1 2 0 1 false)(hk:ns[k]? = some nm)(hs:ss[k]? = some parts)(hp:IQ (BT N Q b) Q b pv parts)(hkl:k<1048577) :
 ∃ w' b',apA 2 40 w x b1=some (w',b')/\w'.cells=some [w']/\JT N Q b' w' ns ss (k+1) lo/\b.length<=b'.length/\∀ y,y<b.length->b'[y]? = b[y]? \/ ∃ es,b[y]? = some (.arr 2 false es)/\¬ Q y/\lo<y:=by
 have hrd:Ax b1 x=some [[.str nm,pv]]:=by
  rcases hx with⟨rfl,rfl⟩ | ⟨rfl,rfl⟩
  .rfl
  .simp[Ax,Ay,A6]
 have hsz:Bu 2 x=true:=by rcases hx with⟨_,rfl⟩ | ⟨_,rfl⟩ <;> simp[Bu,BF]
 have hnx:∀ s,x≠.str s:=fun s e=>by rcases hx with⟨_,h⟩ | ⟨_,h⟩ <;> rw[h]at e <;> cases e
 have hap:∀ n,Fs w=some n->apA 2 40 w x b1=apX 2 40 w [[.str nm,pv]] n b1:=fun n hn=>by
  unfold apA;cases x with
  | str s=>exact absurd rfl (hnx s)
  | _=>first | simp only[hsz,hrd,hn] | (simp only[Ax]at hrd;cases hrd)
 have hb1:b.length<=b1.length/\∀ y,y<b.length->b1[y]? = b[y]? := by
  rcases hx with⟨rfl,_⟩ | ⟨rfl,_⟩
  .exact⟨Cd _,fun _ _=>rfl⟩
  .exact⟨by simp,fun y hy=>A9 hy⟩
 obtain⟨hb1l,hb1e⟩:=hb1;rcases h with⟨rfl,rfl⟩ | ⟨q,es,h0,h1,h2,h3,rfl,h5,h6,h7⟩
 .refine⟨.hs b1.length 1 2 0 1 false,b1++[.arr 2 false [[.str nm,pv]]],?_,rfl,.inr ⟨b1.length,[[.str nm,pv]],by simp,fun hq => ?_,by omega,by simp,rfl,by simp,rfl,fun i e nm' parts' a c d => ?_⟩,by simp;omega,fun y hy=> .inl ?_⟩
  .rw[hap 0 rfl];simp[apX,Bu,BF,Aw,Ay,A6,Bt]
  .have:=hQ _ hq;omega
  .match i with
   | 0=>
    simp only[Gs,AM]at a;rw[hk]at c;rw[hs]at d;cases c;cases d;exact⟨pv,a.symm,hp.mono (fun v s hv=>BT.mono N hv (fun _ h=>h) (fun x hx=>by rw[A9 (by have:=hQ x hx;omega)];exact hb1e x (hQ x hx))) (fun _ h=>h) (fun x hx=>by rw[A9 (by have:=hQ x hx;omega)];exact hb1e x (hQ x hx))⟩
   | i+1=>simp at a
  .rw[A9 (by omega)];exact hb1e y hy
 .have e2:(k+1) * 40<=17592186044416:=by omega
  have e3:k+1<=17592186044416:=by omega
  have h5':b1[q]? = some (.arr 2 false es):=by rw[hb1e q h3];exact h5
  have hpres:∀ x,Q x->(b1.set q (.arr 2 false (es++[[.str nm,pv]])))[x]? = b[x]? := fun x hx=>by
   rw[BP (fun e=>h1 (by rw[e];exact hx))];exact hb1e x (hQ x hx)
  refine⟨.hs q (k+1) 2 0 (k+1) false,b1.set q (.arr 2 false (es++[[.str nm,pv]])),?_,rfl,.inr ⟨q,es++[[.str nm,pv]],by simp,h1,h2,by simp;omega,rfl,CM (by omega),by simp[h6],fun i e nm' parts' a c d => ?_⟩,by simp;omega,fun y hy => ?_⟩
  .rw[hap k rfl];have e4:List.take k es=es:=DU (by omega);simp[apX,Bu,BF,Aw,Ay,A6,Bt,e2,e3,h5',h6,e4]
  .by_cases hi:i<es.length
   .rw[A9 hi]at a;obtain⟨pv',e1,e2⟩:=h7 i e nm' parts' a c d;exact⟨pv',e1,e2.mono (fun v s hv=>BT.mono N hv (fun _ h=>h) hpres) (fun _ h=>h) hpres⟩
   .have hi2:i=k:=by
     have:=(Ac.1 a).1;simp at this;omega
    subst hi2;rw[hk]at c;rw[hs]at d;cases c;cases d;have a':[.str nm,pv]=e:=(by rw[<- h6]at a;simpa using a);exact⟨pv,a'.symm,hp.mono (fun v s hv=>BT.mono N hv (fun _ h=>h) hpres) (fun _ h=>h) hpres⟩
  .by_cases hyq:q=y
   .subst hyq;exact .inr ⟨es,h5,h1,h2⟩
   .exact .inl (by rw[BP hyq];exact hb1e y hy)
theorem MM.done2{n:Nat}{Q:Nat->Prop}{lo:Nat}{b:AE}{pv:AV}{parts:List Sh}(h:MM n Q lo b pv parts):∃ Q':Nat->Prop,(∀ x,Q x->Q' x)/\(∀ x,Q' x->Q x\/lo<=x/\x<b.length/\∃ es,b[x]? = some (.arr 1 false es))/\IQ (BT n Q' b) Q' b pv parts:=by
 rcases h with h | ⟨q,ptrs,h0,h1,h2,h3,h4,h5,h6,h7⟩
 .exact⟨Q,fun _ h=>h,fun x h=> .inl h,.inl h⟩
 .refine⟨fun x=>Q x\/x=q,fun x h=> .inl h,fun x hx => ?_,.inr ⟨q,ptrs,h0,.inr rfl,h4,h5,h6,fun k p s a c => ?_⟩⟩
  .rcases hx with hx | rfl
   .exact .inl hx
   .exact .inr ⟨h2,h3,ptrs,h5⟩
  .obtain⟨v,e,f⟩:=h7 k p s a c;exact⟨v,e,BT.mono n f (fun x h=> .inl h) (fun _ _=>rfl)⟩
structure SI(K:AE)(N:Nat)(Q:Nat->Prop)(b:AE)(w:AV)(ns:List Bytes)(ss:List (List Sh))(k:Nat):Prop where
 ext:∀ x,x<K.length->b[x]? = K[x]?
 o:b[K.length]? = some (.var false [.int .i64 0,w])
 len:K.length<b.length
 q:∀ x,Q x->K.length<x/\x<b.length
 rows:JT N Q b w ns ss k K.length
theorem XK{l:List AK}{lv:AV}{d:Nat}{K:AE}{a own:Nat}(ha:K[a]? = some (.var false [lv])){ps:List Bytes}{args:List TyV}(hE:IT (E7 l lv d (fun x=>x<K.length) K) (fun x=>x<K.length) K (.hm own) ps args)(hva:∀ x∈args,VT l x)(hln:ps.length=args.length)
 {fs:List DB} {fv:AV} (hfv:SlR Bw 5 fs fv) (hfl:fs.length<1048577) (hfe:∀ f∈fs,Au l ps f.ty=0) {parts:List Sh} (hpl:parts.length=fs.length) {N:Nat} (hN:∀ x∈parts,shD x<=N) (ih:∀(m:Nat) f x,fs[m]? = some f->parts[m]? = some x->P6 l lv d (Cc ps args f.ty) x)
 {Q0:Nat->Prop} {b0:AE} {w cv:AV} {ns:List Bytes} {ss:List (List Sh)} {k cl:Nat} (h0:SI K N Q0 b0 w ns ss k) {c2:Nat} {nm:Bytes} (hc2:b0[c2]? = some (.var false [.str nm,.AI])) (hc2l:K.length<c2) (hc2q:¬ Q0 c2) :
 ∃(b:AE) (Q:Nat->Prop) (pv:AV),E5 MX 144 118 (AG MX) (AL f144 2) ([(3,.hp a 0),(8,.hm own),(11,.hp K.length 0),(14,.hp c2 0),(79,cv),(80,.int .i64 cl),(81,.int .i64 k),(89,fv),(90,.int .i64 fs.length),(91,.int .i64 (0:Nat))],b0) =
  some (.ext 5,([(3,.hp a 0),(8,.hm own),(11,.hp K.length 0),(14,.hp c2 0),(79,cv),(80,.int .i64 cl),(81,.int .i64 k),(89,fv),(90,.int .i64 fs.length),(91,.int .i64 fs.length),(92,.bool false)],b))/\SI K N Q b w ns ss k/\b[c2]? = some (.var false [.str nm,pv])/\¬ Q c2/\MM N Q (K.length+1) b pv parts:=by
 have hb23:=UC;simp[Ab,Az,f144]at hb23;have hal:=(Ac.1 ha).1;obtain⟨e,st,hlp,hq⟩:=AQ (M:=MX) (fid:=144) (N:=118) (C:=AG MX) (c:=AL f144 2) (n:=fs.length)
  (fun m (b:AE)=>([(3,.hp a 0),(8,.hm own),(11,.hp K.length 0),(14,.hp c2 0),(79,cv),(80,.int .i64 cl),(81,.int .i64 k),(89,fv),(90,.int .i64 fs.length),(91,.int .i64 m)],b))
  (fun m b=>∃ Q pv,SI K N Q b w ns ss k/\b[c2]? = some (.var false [.str nm,pv])/\¬ Q c2/\MM N Q (K.length+1) b pv (parts.take m))
  (fun r=>∃ b Q pv,r=(.ext 5,([(3,.hp a 0),(8,.hm own),(11,.hp K.length 0),(14,.hp c2 0),(79,cv),(80,.int .i64 cl),(81,.int .i64 k),(89,fv),(90,.int .i64 fs.length),(91,.int .i64 fs.length),(92,.bool false)],b))/\SI K N Q b w ns ss k/\b[c2]? = some (.var false [.str nm,pv])/\¬ Q c2/\MM N Q (K.length+1) b pv parts) (fun m b hm hI=>by
    obtain⟨Q,pv,hS,hcon,hnq,hC⟩:=hI;obtain⟨fe,hfe',hR⟩:=hfv.ix hm;have hm':=Aa hm;have hw:=AZ hm hfl;have hmp:m<parts.length:=(by omega);obtain⟨tx,rfl,htx⟩:=hR;have hmem:=An hm;have hcl:=(Ac.1 hcon).1;have hKb:=hS.len;let b1:=b++[Blk.var false (.str fs[m].nm::tx)];have hK1:∀ x,x<K.length->b1[x]? = K[x]? := fun x hx=>by
     rw[A9 (by omega)];exact hS.ext x hx
    obtain⟨v,H',hcall,hlen,hold,hsrt⟩:=ih m _ _ (AO hm) (AO hmp) fs[m].ty tx ps args (.hm own) (fun x=>x<K.length) b1 htx (hfe _ hmem) hva hln rfl (fun x hx=>by simp[b1];omega) (hE.mono (fun f t h=>E7.mono d h (fun _ h=>h) hK1) (fun _ h=>h) hK1);have hb1l:b1.length=b.length+1:=(by simp[b1]);have hold':∀ x,x<b.length->H'[x]? = b[x]? := fun x hx=>by
     rw[hold x (by omega)];exact A9 hx
    obtain⟨id,hid⟩:=hsrt.hp;have hQl:∀ x,Q x->x<b.length:=fun x hx=>(hS.q x hx).2
    have hC1:MM N (fun x=>Q x\/b.length+1<=x/\x<H'.length) (K.length+1) H' pv (parts.take m):=hC.mono (by omega) (fun x h=> .inl h) (fun x h h2=>by rcases h with h | h;exact absurd h h2;omega) (fun x hx=>hold' x (hQl x hx)) (fun x es hx hbx=>hold' x (Ac.1 hbx).1);obtain⟨pv',b2,k1,k2,k3,k4,k5⟩:=hC1.push (v:=v) (s:=parts[m]) (fun x hx=>by rcases hx with hx | hx;have:=hQl x hx;omega;omega) (by omega) (BT.mono _ (hsrt.le (hN _ (An hmp))) (fun x hx=> .inr (by rw[hb1l]at hx;exact hx)) (fun _ _=>rfl)) (by rw[GH];omega);have htk:parts.take m++[parts[m]]=parts.take (m+1):=(by simp);rw[htk]at k3;have hconH:H'[c2]? = some (.var false [.str nm,pv]):=(by rw[hold' c2 hcl];exact hcon);have hcon2:b2[c2]? = some (.var false [.str nm,pv]):=by
     rcases k5 c2 (by omega)with h | ⟨_,h,_⟩
     .rw[h];exact hconH
     .rw[hconH]at h;cases h
    have hlast:=BD b (Blk.var false (.str fs[m].nm::tx));have ha1:b1[a]? = some (.var false [lv]):=(by rw[hK1 a hal];exact ha);have hcon1:b1[c2]? = some (.var false [.str nm,pv]):=Af hcon _;have m1:(c2∈Da 0 b1 H')=False:=E6 (by omega) (hold c2 (by omega));have hne:¬ c2=H'.length:=(by omega);have hset:∀ x,x≠c2->(b2.set c2 (.var false [.str nm,pv']))[x]? = b2[x]? := fun x hx=>BP (fun e=>hx e.symm)
    have hK2:∀ x,x<=K.length->b2[x]? = b[x]? := fun x hx=>by
     rcases k5 x (by omega)with h | ⟨_,_,_,h⟩
     .rw[h];exact hold' x (by omega)
     .omega
    have hQ2:∀ x,(Q x\/b.length+1<=x/\x<H'.length)->x≠c2/\b2[x]? = H'[x]? := fun x hx=>by
     refine⟨fun e => ?_,?_⟩
     .subst e;rcases hx with h | h
      .exact hnq h
      .omega
     .have hxl:x<H'.length:=by
       rcases hx with h | h
       .have:=hQl x h;omega
       .exact h.2
      rcases k5 x hxl with h | ⟨_,_,h,_⟩
      .exact h
      .exact absurd hx h
    refine .inl ⟨b2.set c2 (.var false [.str nm,pv']),?_,fun x=>Q x\/b.length+1<=x/\x<H'.length,pv',⟨fun x hx => ?_,?_,by simp;omega,fun x hx => ?_,?_⟩,?_,?_,?_⟩
    .obtain⟨qv,rfl,hqv⟩:=htx.AY;rw[hid]at hcall k1;have hcc:=hC.cells;have hcallb:∀ y,b1=y->AH MX (AG MX) 144 [lv,.agg [.int .i64 fs[m].ty.k,.int .i64 fs[m].ty.v,.str fs[m].ty.nm,qv],.hm own] y=some (.ret (.hp id 0),H'):=fun y hy=>hy ▸ hcall
     have hcall2:=hcallb _ rfl;have ha2:(b++[Blk.var false [.str fs[m].nm,.int .i64 fs[m].ty.k,.int .i64 fs[m].ty.v,.str fs[m].ty.nm,qv]])[a]? = some (.var false [lv]):=ha1;have hc21:(b++[Blk.var false [.str fs[m].nm,.int .i64 fs[m].ty.k,.int .i64 fs[m].ty.v,.str fs[m].ty.nm,qv]])[c2]? = some (.var false [.str nm,pv]):=hcon1;have m1':(c2∈Da 0 (b++[Blk.var false [.str fs[m].nm,.int .i64 fs[m].ty.k,.int .i64 fs[m].ty.v,.str fs[m].ty.nm,qv]]) H')=False:=m1;simp only[b1]at hcall2;simp[f144,hm',hfe',hlast,AW hlast,ha2,AW ha2,hc21,AW hc21,hcall2,hb23,m1',hne,hcc,bsA,Ag,List.replicate,Aw,AF,AV.AA,k1,k2,hcon2,AW hcon2,hw]
    .rw[hset x (by omega),hK2 x (by omega)];exact hS.ext x hx
    .rw[hset _ (by omega),hK2 _ (by omega)];exact hS.o
    .rcases hx with h | h
     .have:=hS.q x h;simp;omega
     .simp;omega
    .refine hS.rows.mono (by simp;omega) (fun x h=> .inl h) (fun x es h1 h2 h3 => ?_) (fun x hx => ?_) (fun x es hx hbx => ?_)
     .have:=(Ac.1 h3).1;rcases h1 with h | h
      .exact h2 h
      .omega
     .obtain⟨e1,e2⟩:=hQ2 x (.inl hx);rw[hset x e1,e2];exact hold' x (hQl x hx)
     .have hxl:=(Ac.1 hbx).1;have hxc:x≠c2:=fun e=>by rw[e,hcon]at hbx;cases hbx
      rw[hset x hxc];rcases k5 x (by omega)with h | ⟨_,h,_⟩
      .rw[h];exact hold' x hxl
      .rw[hold' x hxl,hbx]at h;cases h
    .exact CM (by omega)
    .rintro(h | h)
     .exact hnq h
     .omega
    .refine k3.mono (by simp) (fun _ h=>h) (fun x h1 h2=>absurd h1 h2) (fun x hx=>hset x (hQ2 x hx).1) (fun x es hx hbx=>hset x (fun e=>by rw[e,hcon2]at hbx;cases hbx))) (fun b hI=>by
    obtain⟨Q,pv,hS,hcon,hnq,hC⟩:=hI;rw[DU (by omega)]at hC;exact⟨_,_,by simp[f144] <;> first | exact⟨rfl,rfl⟩ | rfl,by simp,b,Q,pv,rfl,hS,hcon,hnq,hC⟩) b0 ⟨Q0,.AI,h0,hc2,hc2q,.inl ⟨by simp,rfl⟩⟩
 obtain⟨b,Q,pv,hq,g1,g2,g3,g4⟩:=hq;cases hq;exact⟨b,Q,pv,hlp,g1,g2,g3,g4⟩
theorem eN{l:List AK}{lv:AV}{d:Nat}{K:AE}{a own:Nat}(ha:K[a]? = some (.var false [lv])){ps:List Bytes}{args:List TyV}(hE:IT (E7 l lv d (fun x=>x<K.length) K) (fun x=>x<K.length) K (.hm own) ps args)(hva:∀ x∈args,VT l x)(hln:ps.length=args.length)
 {cs:List CZ} {cv:AV} (hcv:SlR Ed 2 cs cv) (hcl:cs.length<1048577) (hfl:∀ c∈cs,c.fields.length<1048577) (hfe:∀ c∈cs,∀ f∈c.fields,Au l ps f.ty=0) {ss:List (List Sh)} (hss:ss.length=cs.length) (hsp:∀(i:Nat) c s,cs[i]? = some c->ss[i]? = some s->s.length=c.fields.length) {N:Nat} (hN:∀ s∈ss,∀ x∈s,shD x<=N)
 (ih:∀(i:Nat) c s (m:Nat) f x,cs[i]? = some c->ss[i]? = some s->c.fields[m]? = some f->s[m]? = some x->P6 l lv d (Cc ps args f.ty) x) :
 ∃(b:AE) (Q:Nat->Prop) (w:AV),E5 MX 144 118 (AG MX) (AL f144 1) ([(3,.hp a 0),(8,.hm own),(11,.hp K.length 0),(79,cv),(80,.int .i64 cs.length),(81,.int .i64 (0:Nat))],K++[Blk.var false [.int .i64 0,.AI]]) =
  some (.ext 3,([(3,.hp a 0),(8,.hm own),(11,.hp K.length 0),(79,cv),(80,.int .i64 cs.length),(81,.int .i64 cs.length),(82,.bool false)],b))/\SI K N Q b w (cs.map (·.nm)) ss cs.length:=by
 have hb25:=UD;simp[Ab,Az,f144]at hb25;obtain⟨e,st,hlp,hq⟩:=AQ (M:=MX) (fid:=144) (N:=118) (C:=AG MX) (c:=AL f144 1) (n:=cs.length)
  (fun k (b:AE)=>([(3,.hp a 0),(8,.hm own),(11,.hp K.length 0),(79,cv),(80,.int .i64 cs.length),(81,.int .i64 k)],b))
  (fun k b=>∃ Q w,SI K N Q b w (cs.map (·.nm)) ss k)
  (fun r=>∃ b Q w,r=(.ext 3,([(3,.hp a 0),(8,.hm own),(11,.hp K.length 0),(79,cv),(80,.int .i64 cs.length),(81,.int .i64 cs.length),(82,.bool false)],b))/\SI K N Q b w (cs.map (·.nm)) ss cs.length) (fun k b hk hI=>by
    obtain⟨Q,w,hS⟩:=hI;obtain⟨ce,hce,hR⟩:=hcv.ix hk;have hk':=Aa hk;have hw:=AZ hk hcl;have hks:k<ss.length:=(by omega);obtain⟨fv,rfl,hfv⟩:=hR.dest;have hmem:=An hk;have hcg:=AO hk;have hsg:=AO hks;have hlen:=hS.len;obtain⟨b0,hb0⟩:∃ b0,b0=b++[Blk.var false [.str cs[k].nm,fv],Blk.var false [.str cs[k].nm,.AI]]:=⟨_,rfl⟩;have hb0l:b0.length=b.length+2:=(by rw[hb0];simp);have hb0o:∀ x,x<b.length->b0[x]? = b[x]? := fun x hx=>by rw[hb0];exact A9 hx
    have hS0:SI K N Q b0 w (cs.map (·.nm)) ss k:=⟨fun x hx=>by rw[hb0o x (by omega)];exact hS.ext x hx,by rw[hb0o _ (by omega)];exact hS.o,by omega,fun x hx=>by have:=hS.q x hx;omega,hS.rows.mono (by omega) (fun _ h=>h) (fun x es h1 h2=>absurd h1 h2) (fun x hx=>hb0o x (hS.q x hx).2) (fun x es _ hbx=>hb0o x (Ac.1 hbx).1)⟩;have hc2:b0[b.length+1]? = some (.var false [.str cs[k].nm,.AI]):=(by rw[hb0];simp);obtain⟨b',Q',pv,f1,g1,g2,g3,g4⟩:=XK ha hE hva hln hfv (hfl _ hmem) (hfe _ hmem) (hsp k _ _ hcg hsg) (hN _ (An hks)) (fun m f x h1 h2=>ih k _ _ m f x hcg hsg h1 h2) (cv:=cv) (cl:=cs.length) hS0 hc2 (by omega) (fun h=>by have:=(hS.q _ h).2;omega);have hcc:=g4.cells;obtain⟨Q2,q1,q2,q3⟩:=g4.done2;have g2l:=(Ac.1 g2).1;have glen:=g1.len;have hQ2:∀ x,Q2 x->K.length<x/\x<b'.length:=fun x hx=>by
     rcases q2 x hx with h | ⟨h1,h2,_⟩
     .exact g1.q x h
     .omega
    have hrows:=g1.rows.mono (Q':=Q2) (Cd _) q1 (fun x es h1 h2 h3=>by
     rcases q2 x h1 with h | ⟨_,_,es',h⟩
     .exact h2 h
     .rw[h]at h3;cases h3) (fun _ _=>rfl) (fun _ _ _ _=>rfl)
    have hwc:=hrows.cells;simp[f144,hb0]at f1;have hlast0:(b++[Blk.var false [.str cs[k].nm,fv]])[b.length]? = some (.var false [.str cs[k].nm,fv]):=BD _ _;have hlast1:(b++[Blk.var false [.str cs[k].nm,fv],Blk.var false [.str cs[k].nm,.AI]])[b.length]? = some (.var false [.str cs[k].nm,fv]):=(by simp);have hne:¬ K.length=b'.length:=(by omega);have fin:∀(x:AV) (b1:AE) ,(b1=b'/\x=.sl 2 true [[.str cs[k].nm,pv]]\/b1=b'++[.arr 2 false [[.str cs[k].nm,pv]]]/\x=.hs b'.length 1 2 0 1 false)->∃ w' b'',apA 2 40 w x b1=some (w',b'')/\w'.cells=some [w']/\b''[K.length]? = some (.var false [.int .i64 0,w])/\SI K N Q2 (b''.set K.length (.var false [.int .i64 0,w'])) w' (cs.map (·.nm)) ss (k+1):=by
     intro x b1 hx;obtain⟨w',b'',p1,p2,p3,p4,p5⟩:=hrows.push (fun x hx=>(hQ2 x hx).2) glen hx (by rw[Fe,hcg];rfl) hsg q3 (by omega);have hset:∀ y,y≠K.length->(b''.set K.length (.var false [.int .i64 0,w']))[y]? = b''[y]? := fun y hy=>BP (fun e=>hy e.symm)
     refine⟨w',b'',p1,p2,?_,fun y hy => ?_,CM (by omega),by simp;omega,fun y hy => ?_,?_⟩
     .rcases p5 K.length (by omega)with h | ⟨_,h,_⟩
      .rw[h];exact g1.o
      .rw[g1.o]at h;cases h
     .rw[hset y (by omega)];rcases p5 y (by omega)with h | ⟨_,_,_,h⟩
      .rw[h];exact g1.ext y hy
      .omega
     .have:=hQ2 y hy;simp;omega
     .exact p3.mono (by simp) (fun _ h=>h) (fun y es h1 h2=>absurd h1 h2) (fun y hy=>hset y (by have:=(hQ2 y hy).1;omega)) (fun y es hy _=>hset y (by omega))
    have go:=g1.o;cases hpn:pv.AA with
    | true=>
     obtain⟨w',b'',p1,p2,p3,p4⟩:=fin _ _ (.inl ⟨rfl,rfl⟩);exact .inl ⟨b''.set K.length (.var false [.int .i64 0,w']),by simp[f144,hk',hce,hlast0,hlast1,hfv.cells,hfv.len,f1,hw,go,AW go,g2,AW g2,hb25,hcc,hwc,hpn,bsA,Ag,List.replicate,AF,AV.AA,p1,p2,p3,AW p3],Q2,w',p4⟩
    | false=>
     obtain⟨w',b'',p1,p2,p3,p4⟩:=fin _ _ (.inr ⟨rfl,rfl⟩);exact .inl ⟨b''.set K.length (.var false [.int .i64 0,w']),by simp[f144,hk',hce,hlast0,hlast1,hfv.cells,hfv.len,f1,hw,go,AW go,g2,AW g2,hb25,hcc,hwc,hpn,hne,Aw,bsA,Ag,List.replicate,AF,AV.AA,p1,p2,p3,AW p3],Q2,w',p4⟩) (fun b hI=>by
    obtain⟨Q,w,hS⟩:=hI;exact⟨_,_,by simp[f144] <;> first | exact⟨rfl,rfl⟩ | rfl,by simp,b,Q,w,rfl,hS⟩) (K++[Blk.var false [.int .i64 0,.AI]]) ⟨fun _=>False,.AI,⟨fun x hx=>A9 hx,by simp,by simp,fun x h=>h.elim,.inl ⟨rfl,rfl⟩⟩⟩
 obtain⟨b,Q,w,hq,hS⟩:=hq;cases hq;exact⟨b,Q,w,hlp,hS⟩
section
variable{l:List AK}{lv:AV}(hl:SlR Ah 3 l lv)(hll:l.length<1048577)
include hl hll
theorem eO{u:TyV}{xs:List AV}{pm:AV}(hpm:pm.cells=some [pm]){H:AE}(hu:AU u xs)(hk:u.k=1)(hb:(u.nm == De)=false)(hf:l.findIdx? (fun d=>d.nm == u.nm)=none){ss:List (List Sh)}(hs2:ss.length=2)(hs0:∀ s∈ss,s=[]) :
 ∃ v H',AH MX (AG MX) 144 [lv,.agg xs,pm] H=some (.ret v,H')/\H.length<=H'.length/\(∀ x,x<H.length->H'[x]? = H[x]?)/\BT (shD (.cons [Cy,EW] ss)) (fun x=>H.length<=x/\x<H'.length) H' v (.cons [Cy,EW] ss):=by
 obtain⟨pv,rfl,hpv⟩:=hu.AY;have h175:=aJ hl hll (pm:=pm) hpv H;rw[hf]at h175;simp only[ixI]at h175;have h0:(u.k == 0)=false:=by simp[hk]
 have hbn:(u.nm == [66,105,116])=false:=hb;refine⟨.hp (H.length+3) 0,H++[Blk.var false [lv],.var true [.int .i64 u.k,.int .i64 u.v,.str u.nm,pv],.var false [pm],.var false [.int .i64 0,.sl 2 true [[.str Cy,.AI],[.str EW,.AI]]]],BE L6 Na ?_,by simp,fun x hx=>A9 hx,?_⟩
 .simp[AJ,f144,hl.cells,hpm,h0,hbn,h175,bsA,Ag,List.replicate,AF,AV.AA,Cy,EW]
 .refine⟨_,rfl,⟨by omega,by simp⟩,_,[[.str Cy,.AI],[.str EW,.AI]],by simp,rfl,by rw[hs2];rfl,.inl ⟨rfl,hs0⟩,fun k e nm parts h1 h2 h3 => ?_⟩;have hp0:=hs0 parts (Bs h3)
  match k with
  | 0=>simp at h1 h2;subst h1;subst h2;exact⟨.AI,rfl,.inl ⟨hp0,rfl⟩⟩
  | 1=>simp at h1 h2;subst h1;subst h2;exact⟨.AI,rfl,.inl ⟨hp0,rfl⟩⟩
  | k+2=>simp at h1
theorem eP(hsl:SmL 1048577 l){d:Nat}{u:TyV}{xs:List AV}{params:List Bytes}{args:List TyV}{pm:AV}{S:Nat->Prop}{H:AE}(hu:AU u xs)(hk:u.k=1)(hb:(u.nm == De)=false)(hua:∀ t∈u.ps,Au l params t=0)(hva:∀ a∈args,VT l a)(hln:params.length=args.length)(hS:∀ x,S x->x<H.length)(hE:IT (E7 l lv d S H) S H pm params args)
 {i:Nat} (hi:i<l.length) (hf:l.findIdx? (fun d=>d.nm == u.nm)=some i) (hnd:l[i].params.Nodup) (hps:l[i].params.length=u.ps.length) (hva':∀ x∈u.ps.map (Cc params args),VT l x) (hfe:∀ c∈l[i].cons,∀ f∈c.fields,Au l l[i].params f.ty=0) {ss:List (List Sh)} (hss:ss.length=l[i].cons.length) (hsp:∀(j:Nat) c s,l[i].cons[j]? = some c->ss[j]? = some s->s.length=c.fields.length)
 (hne:l[i].cons≠[]) (ih:∀(j:Nat) c s (m:Nat) f x,l[i].cons[j]? = some c->ss[j]? = some s->c.fields[m]? = some f->s[m]? = some x->P6 l lv (d+1) (Cc l[i].params (u.ps.map (Cc params args)) f.ty) x) :
 ∃ v H',AH MX (AG MX) 144 [lv,.agg xs,pm] H=some (.ret v,H')/\H.length<=H'.length/\(∀ x,x<H.length->H'[x]? = H[x]?)/\BT (shD (.cons (l[i].cons.map (·.nm)) ss)) (fun x=>H.length<=x/\x<H'.length) H' v (.cons (l[i].cons.map (·.nm)) ss):=by
 have hcp:=hE.cells;have hu0:=hu;obtain⟨pv,rfl,hpv⟩:=hu.AY;have h175:=aJ hl hll (pm:=pm) hpv H;rw[hf]at h175;simp only[ixI]at h175;have h0:(u.k == 0)=false:=by simp[hk]
 have hbn:(u.nm == [66,105,116])=false:=hb;obtain⟨dx,hdx,hdR⟩:=hl.ix hi;obtain⟨qv,cv,rfl,hq,hcv⟩:=hdR.dest;have hsd:=hsl.2 _ (An hi);obtain⟨K,es,f1,hP⟩:=params144 hl (i:=i) hu0 hpv hS hE hua hva hln hq hnd hps hsd.2.1;have hE':IT (E7 l lv (d+1) (fun x=>x<K.length) K) (fun x=>x<K.length) K (.hm (H.length+3)) l[i].params (u.ps.map (Cc params args)):=by
  have hle:=hP.le;refine .inr ⟨H.length+3,es,by omega,rfl,hP.bo,fun m p t h1 h2 => ?_⟩;rw[Fe,D6]at h2;obtain⟨t0,h2,rfl⟩:=h2;obtain⟨f,g1,g2⟩:=hP.ent m p t0 (Ac.1 h1).1 h1 h2;exact⟨f,g1,E7.mono _ g2 (fun x hx=>hx.1) (fun _ _=>rfl)⟩
 obtain⟨b,Q,w,f2,hSI⟩:=eN hP.ba hE' hva' (by simp[hps]) hcv hsd.2.2.2.1 (fun c hc=>(hsd.2.2.2.2 c hc).2.1) hfe hss hsp (N:=KT ss) (fun s hs x hx=>Ms hx hs) ih;have hle:=hP.le;have hlen:=hSI.len;have hext:∀ x,x<H.length->b[x]? = H[x]? := fun x hx=>by rw[hSI.ext x (by omega)];exact hP.old x hx
 refine⟨.hp K.length 0,b,BE L6 Na ?_,by omega,hext,?_⟩
 .have hni:¬ ((i:Int)<0):=by omega
  have hba:=hP.ba;have hba2:=Af hba [Blk.var false [.int .i64 0,.AI]];simp[f144]at f1 f2;have hd:=hdx .i64;simp[AJ,f144,hl.cells,hcp,h0,hbn,h175,hni,hd,hq.len,hcv.len,f1,f2,hba,AW hba,hba2,AW hba2]
 .rcases hSI.rows with⟨h,_⟩ | ⟨q,es',h1,h2,h3,h4,rfl,h6,h7,h8⟩
  .exact absurd (EH h) hne
  .have ho:=hSI.o;refine⟨K.length,rfl,⟨by omega,by omega⟩,_,es',ho,by rw[h7];simp,by rw[hss];simp,.inr ⟨q,⟨by omega,h4⟩,by rw[h7],h6⟩,fun k e nm parts a c e' => ?_⟩;obtain⟨pv',e1,e2⟩:=h8 k e nm parts a c e';have hQ:∀ x,Q x->H.length<=x/\x<b.length:=fun x hx=>by have:=hSI.q x hx;omega
   exact⟨pv',e1,e2.mono (fun v s hv=>BT.mono _ hv hQ (fun _ _=>rfl)) hQ (fun _ _=>rfl)⟩
theorem c144(hsl:SmL 1048577 l)(hd:DV l)(hnd:∀ d∈l,d.params.Nodup){t:TyV}{s:Sh}(hs:DT l t s):VT l t->∀ d,P6 l lv d t s:=by
 induction hs with
 | bit t hb hw h2=>
  intro hv d;induction d using Nat.strongRecOn with
  | ind d ihd=>
   intro u xs params args pm S H hu hnu hva hln hr hS hE;have ht:t.k=1:=(by simp only[EV,Ba,decide_eq_true_eq]at hb;exact hb.1);by_cases hk:u.k=0
   .exact aI hl ht ihd hu hk hnu hln hr hS hE
   .have hkn:u.k=1/\u.nm=De:=by
     cases u with
     | mk k v nm ps=>
      have hk:¬ k=0:=hk;simp only[Cc,hk,if_false]at hr;subst hr;simp only[EV,Ba,decide_eq_true_eq,beq_iff_eq]at hb;exact hb
    exact jB hl hll hu hkn.1 hkn.2 hnu hln hr h2 hS hE
 | cons t ns ss hb hk hn hln' hsp hf ih=>
  intro hv d;induction d using Nat.strongRecOn with
  | ind d ihd=>
   intro u xs params args pm S H hu hnu hva hln hr hS hE;have ht:t.k=1:=(by rcases hv.kind with h | h;exact h;exact absurd h hk);by_cases hk0:u.k=0
   .exact aI hl ht ihd hu hk0 hnu hln hr hS hE
   .have hcp:=hE.cells;have hkn:u.k=1/\(u.nm == De)=false/\t.nm=u.nm/\t.ps=u.ps.map (Cc params args)/\Ee l 1 u.nm=some u.ps.length/\∀ t∈u.ps,Au l params t=0:=by
     cases u with
     | mk k v nm ps=>
      have hk0:¬ k=0:=hk0;simp only[Cc,hk0,if_false]at hr;subst hr;have ht:k=1:=ht;subst ht;rw[CL]at hnu;refine⟨rfl,?_,rfl,?_,hnu.2.2.1,hnu.2.2.2.2⟩
      .have e:EV (.mk 1 v nm (Sg params args ps))=(nm == De):=by
        show(decide ((1:Int)=1)&&(nm == De))=(nm == De);simp
       exact e.symm.trans hb
      .exact Fk params args ps
    obtain⟨hk1,hbn,htn,htp,hrc,hua⟩:=hkn;simp only[Ee,if_true,hbn,FQ,if_false]at hrc;cases hbo:(u.nm == CW)with
    | true=>
     have hcons:AN l t=[⟨Cy,[]⟩,⟨EW,[]⟩]:=(by simp only[AN,htn,hbo,if_true]);have hfn:l.findIdx? (fun d=>d.nm == u.nm)=none:=by
      rw[Nh];intro x hx;rw[beq_iff_eq.1 hbo];exact(hd.nms x hx).2
     rw[hcons]at hn hln' hsp;subst hn;have hs0:∀ s∈ss,s=[]:=fun s hs=>by
      obtain⟨i,hi,rfl⟩:=List.mem_iff_getElem.1 hs;have hi2:i<2:=(by simp at hln';omega);have:=hsp i _ _ (AO (by simpa using hi2)) (AO hi);have h01:i=0\/i=1:=(by omega);rcases h01 with rfl | rfl <;> exact EH this
     exact eO hl hll hcp hu hk1 hbn hfn hln' hs0
    | false=>
     rw[hbo]at hrc;simp only[FQ,if_false]at hrc;rw[D6]at hrc;obtain⟨i,hfi,hpl⟩:=hrc;have hi:=Gh hfi;have hgd:l.getD i default=l[i]:=(by simp[hi]);rw[hgd]at hpl;have hcons:AN l t=l[i].cons.map (F9 l[i].params (u.ps.map (Cc params args))):=by
      simp only[AN,htn,hbo,hfi,hgd,htp];rfl
     have hne:l[i].cons≠[]:=fun e=>by
      have:=(hd.con t hv hk hb).2.1;rw[hcons,e]at this;exact this rfl
     have hns:ns=l[i].cons.map (·.nm):=by
      rw[hn,hcons,List.map_map];rfl
     subst hns;have hva':∀ x∈u.ps.map (Cc params args),VT l x:=fun x hx=>by
      obtain⟨y,hy,rfl⟩:=E3.1 hx;exact LB hva (by omega) y (hua y hy)
     have hcg:∀(j:Nat) c,l[i].cons[j]? = some c->(AN l t)[j]? = some (F9 l[i].params (u.ps.map (Cc params args)) c):=fun j c h=>by
      rw[hcons,Fe,h];rfl
     refine eP hl hll hsl hu hk1 hbn hua hva hln hS hE hi hfi (hnd _ (An hi)) hpl hva' (hd.flds _ (An hi)) (by rw[hln',hcons];simp) (fun j c s h1 h2 => ?_) hne (fun j c s m f x h1 h2 h3 h4 => ?_)
     .have:=hsp j _ s (hcg j c h1) h2;simpa[F9]using this
     .have h3':(F9 l[i].params (u.ps.map (Cc params args)) c).fields[m]? = some ⟨f.nm,Cc l[i].params (u.ps.map (Cc params args)) f.ty⟩:=by
       simp only[F9,Fe,h3,FM]
      have hvf:=hd.dok.fld t hv hk hb _ (Bs (hcg j c h1)) _ (Bs h3');exact ih j _ s m _ x (hcg j c h1) h2 h3' h4 hvf (d+1)
end
def WV(H:AE)(w:AV)(es:List (List AV)):Prop:=(w=.AI/\es=[])\/w=.sl 2 true es\/∃ j,w=.hs j es.length 2 0 es.length false/\H[j]? = some (.arr 2 false es)
theorem WV.app{H:AE}{w:AV}{es:List (List AV)}(h:WV H w es)(X:AE):WV (H++X) w es:=by
 rcases h with h | h | ⟨j,h1,h2⟩
 .exact .inl h
 .exact .inr (.inl h)
 .exact .inr (.inr ⟨j,h1,Af h2 X⟩)
theorem WV.len{H:AE}{w:AV}{es:List (List AV)}(h:WV H w es)(G:AE):Bi w G=some (.val (.int .i64 es.length) G):=by
 rcases h with⟨rfl,rfl⟩ | rfl | ⟨j,rfl,_⟩ <;> rfl
theorem WV.cells{H:AE}{w:AV}{es:List (List AV)}(h:WV H w es):w.cells=some [w]:=by
 rcases h with⟨rfl,rfl⟩ | rfl | ⟨j,rfl,_⟩ <;> rfl
theorem WV.row{H:AE}{w:AV}{es:List (List AV)}(h:WV H w es){i:Nat}(hi:i<es.length):∃ p,ixA 2 w (.int .i64 i)=some p/\∀ X,EK (H++X) p=some es[i]:=by
 rcases h with⟨rfl,rfl⟩ | rfl | ⟨j,rfl,h⟩
 .cases hi
 .exact⟨.ro es[i],ID _ _ _ _ .i64 hi,fun X=>rfl⟩
 .refine⟨.ep j es.length 2 i 0,by rw[ED (kd:=.i64) (hi:=hi),DW],fun X => ?_⟩;have:=Af h X;simp[Fp,this,Ay,hi]
theorem c200{H:AE}{b:Nat}{lk:Bool}{nm n:Bytes}{pv:AV}(hb:H[b]? = some (.var lk [.str nm])):AH MX (AG MX) 200 [.agg [.str n,pv],.hp b 0] H=some (.ret (.bool (n == nm)),H++[.var false [.str n,pv]]):=by
 have hb':=Af hb [Blk.var false [.str n,pv]];exact BE ZK dR (by simp[AJ,f200,hb'])
theorem c199{H:AE}{w:AV}{es:List (List AV)}(hw:WV H w es){ns:List Bytes}(hes:es.length=ns.length)(hln:ns.length<1048577)(hrow:∀(k:Nat) e nm,es[k]? = some e->ns[k]? = some nm->∃ pv,e=[.str nm,pv]){b:Nat}{lk:Bool}{nm:Bytes}(hb:H[b]? = some (.var lk [.str nm])) :
 ∃ X,AH MX (AG MX) 199 [w,.fn 200 [] [.hp b 0]] H=some (.ret (.int .i64 (ixI (ns.findIdx? (fun x=>x == nm)))),H++X):=by
 have hlen:=hw.len;rw[hes]at hlen;obtain⟨e,st,hlp,hq⟩:=AQ (M:=MX) (fid:=199) (N:=19) (C:=AG MX) (c:=AL f199 0) (n:=ns.length) (fun i (X:AE)=>([(0,w),(1,.fn 200 [] [.hp b 0]),(7,.int .i64 ns.length),(8,.int .i64 i)],H++X)) (fun i _=>∀ j (hj:j<ns.length),j<i->(fun x=>x == nm) ns[j]=false)
  (fun r=>∃ X:AE,(r=(.ext 0,([(0,w),(1,.fn 200 [] [.hp b 0]),(7,.int .i64 ns.length),(8,.int .i64 ns.length),(9,.bool false)],H++X))/\ns.findIdx? (fun x=>x == nm)=none)\/(∃ i:Nat,r=(.ret,([(4,.int .i64 i)],H++X))/\ns.findIdx? (fun x=>x == nm)=some i)) (fun i X hi hI=>by
    have hi':=Aa hi;have hwi:=AZ hi hln;have hie:i<es.length:=(by omega);obtain⟨p,hp,hrd⟩:=hw.row hie;obtain⟨pv,he⟩:=hrow i _ _ (AO hie) (AO hi);rw[he]at hrd;have hcall:=c200 (n:=ns[i]) (pv:=pv) (Af hb X);have hrd':=hrd X;cases hx:(ns[i] == nm)with
    | true=>rw[hx]at hcall;exact .inr ⟨_,_,by simp[f199,hi',hp,hrd',hcall] <;> exact⟨rfl,rfl⟩,by simp,X++[.var false [.str ns[i],pv]],.inr ⟨i,by simp,FH (p:=(fun x=>x == nm)) hi hI hx⟩⟩
    | false=>rw[hx]at hcall;exact .inl ⟨X++[.var false [.str ns[i],pv]],by simp[f199,hi',hp,hrd',hcall,hwi],FJ (p:=(fun x=>x == nm)) hi hI hx⟩) (fun X hI=>by
    exact⟨_,_,by simp[f199] <;> exact⟨rfl,rfl⟩,by simp,X,.inl ⟨rfl,FI (p:=(fun x=>x == nm)) fun j hj=>hI j hj hj⟩⟩) [] (fun j _ h0=>by omega)
 simp[f199]at hlp;obtain⟨X,hq⟩:=hq;rcases hq with⟨hq,hs⟩ | ⟨i,hq,hs⟩ <;> cases hq <;> exact⟨X,BE ZJ dQ (by simp[AJ,f199,hlen,hlp,hs,ixI])⟩
theorem c182{H:AE}{id:Nat}{m:Int}{w:AV}{es:List (List AV)}(hid:H[id]? = some (.var false [.int .i64 m,w]))(hw:WV H w es){ns:List Bytes}(hes:es.length=ns.length)(hln:ns.length<1048577)(hrow:∀(k:Nat) e nm,es[k]? = some e->ns[k]? = some nm->∃ pv,e=[.str nm,pv])(nm:Bytes) :
 ∃ X,AH MX (AG MX) 182 [.hp id 0,.str nm] H=some (.ret (.int .i64 (ixI (ns.findIdx? (fun x=>x == nm)))),H++X):=by
 obtain⟨X,hc⟩:=c199 (hw.app [Blk.var false [.str nm]]) hes hln hrow (b:=H.length) (lk:=false) (nm:=nm) (BD _ _);have hid':=Af hid [Blk.var false [.str nm]];exact⟨[.var false [.str nm]]++X,BE Y9 dF (by simp[AJ,f182,hid',hc])⟩
theorem c116{H:AE}{id:Nat}{m:Int}{w:AV}{es:List (List AV)}(hid:H[id]? = some (.var false [.int .i64 m,w]))(hw:WV H w es):AH MX (AG MX) 116 [.hp id 0] H=some (.ret (.bool (es.length == 0)),H):=by
 have hl:=hw.len;have he:((es.length:Int) == 0)=(es.length == 0):=by
  cases h:es.length with
  | zero=>rfl
  | succ n=>
   have:(((n+1:Nat):Int) == 0)=false:=(by simp;omega);rw[this];rfl
 exact BE OO Qs (by simp[AJ,f116,hid,hl,he])
theorem Vz(m:Int)(h0:1<=m)(h1:m<=16):H8 .shl .i64 1 m=some (.int .i64 ((2 ^ m.toNat:Nat):Int)):=by
 have:m=1\/m=2\/m=3\/m=4\/m=5\/m=6\/m=7\/m=8\/m=9\/m=10\/m=11\/m=12\/m=13\/m=14\/m=15\/m=16:=by omega
 rcases this with rfl | rfl | rfl | rfl | rfl | rfl | rfl | rfl | rfl | rfl | rfl | rfl | rfl | rfl | rfl | rfl <;> rfl
theorem IQ.len{R:AV->Sh->Prop}{S:Nat->Prop}{H:AE}{pv:AV}{parts:List Sh}(h:IQ R S H pv parts):(∀ G,Bi pv G=some (.val (.int .i64 parts.length) G))/\Go.Am.C5 (some pv)=.st/\pv.cells=some [pv]:=by
 rcases h with⟨rfl,rfl⟩ | ⟨q,ptrs,_,_,rfl,_⟩ <;> exact⟨fun _=>rfl,rfl,rfl⟩
theorem BT.blk{n:Nat}{S:Nat->Prop}{H:AE}{v:AV}{s:Sh}(h:BT (n+1) S H v s):∃ id m w es,v=.hp id 0/\H[id]? = some (.var false [.int .i64 m,w])/\WV H w es /\
 match s with
 | .bit k=>m=k/\es=[]
 | .cons ns ss=>es.length=ns.length/\ss.length=ns.length/\∀(k:Nat) e nm parts,es[k]? = some e->ns[k]? = some nm->ss[k]? = some parts->∃ pv,e=[.str nm,pv]/\IQ (BT n S H) S H pv parts:=by
 cases s with
 | bit k=>
  obtain⟨id,rfl,_,h2⟩:=h;exact⟨id,k,.AI,[],rfl,h2,.inl ⟨rfl,rfl⟩,rfl,rfl⟩
 | cons ns ss=>
  obtain⟨id,rfl,_,w,es,h2,h3,h4,h5,h6⟩:=h;refine⟨id,0,w,es,rfl,h2,?_,h3,h4,h6⟩;rcases h5 with h | ⟨j,_,h,hj⟩
  .exact .inr (.inl h.1)
  .exact .inr (.inr ⟨j,h,hj⟩)
theorem aM{G:AE}{id i:Nat}{m:Int}{w:AV}{es:List (List AV)}(hid:G[id]? = some (.var false [.int .i64 m,w]))(hw:WV G w es){nm:Bytes}{pv:AV}(hei:es[i]? = some [.str nm,pv]){n:Nat}{S:Nat->Prop}{parts:List Sh}(hS:∀ x,S x->x<G.length)(hP:IQ (BT n S G) S G pv parts)
 {ps:List TyV} {qv:AV} (hq:SlR AU 4 ps qv) (hpl:ps.length<1048577) (hlen:ps.length=parts.length) (ih:∀(k:Nat) (hk:k<ps.length) (hk2:k<parts.length) (px:List AV) (v:AV) (X:AE),AU ps[k] px->BT n S G v parts[k]->∃ X',AH MX (AG MX) 147 [v,.agg px] (G++X)=some (.ret (.int .i64 (CB parts[k] ps[k])),G++X++X')) (X0:AE) :
 ∃(X:AE) (r:Ex×St),E5 MX 147 98 (AG MX) (AL f147 0) ([(0,.hp id 0),(6,.int .i64 i),(74,qv),(75,.int .i64 ps.length),(76,.int .i64 (0:Nat))],G++X0)=some r /\
  (r=(.ext 1,([(0,.hp id 0),(6,.int .i64 i),(74,qv),(75,.int .i64 ps.length),(76,.int .i64 ps.length),(77,.bool false)],G++X))/\FV parts ps=0\/r=(.ret,([(4,.int .i64 (FV parts ps))],G++X))/\FV parts ps≠0):=by
 have hb18:=UF;simp[Ab,Az,f147]at hb18;have hie:=(Ac.1 hei).1;have hei':es[i]=[.str nm,pv]:=(Ac.1 hei).2;obtain⟨e,st,hlp,hq'⟩:=AQ (M:=MX) (fid:=147) (N:=98) (C:=AG MX) (c:=AL f147 0) (n:=ps.length)
  (fun k (X:AE)=>([(0,.hp id 0),(6,.int .i64 i),(74,qv),(75,.int .i64 ps.length),(76,.int .i64 k)],G++X))
  (fun k X=>FV parts ps=FV (parts.drop k) (ps.drop k))
  (fun r=>∃ X,r=(.ext 1,([(0,.hp id 0),(6,.int .i64 i),(74,qv),(75,.int .i64 ps.length),(76,.int .i64 ps.length),(77,.bool false)],G++X))/\FV parts ps=0\/r=(.ret,([(4,.int .i64 (FV parts ps))],G++X))/\FV parts ps≠0) (fun k X hk hI=>by
    have hk':=Aa hk;have hwk:=AZ hk hpl;have hk2:k<parts.length:=(by omega);obtain⟨fe,hfe,hR⟩:=hq.ix hk;rw[Od hk hk2]at hI;rcases hP with⟨rfl,rfl⟩ | ⟨q,ptrs,h0,h1,rfl,h3,h4,h5⟩
    .simp at hk2
    .have hkp:k<ptrs.length:=(by omega);obtain⟨v,hv,hs⟩:=h5 k ptrs[k] parts[k] (AO hkp) (AO hk2);have hpk:ptrs[k]? = some [v]:=(by rw[AO hkp,hv]);obtain⟨X',hc⟩:=ih k hk hk2 fe v (X++[Blk.var false fe]) hR hs;obtain⟨tv,rfl,htv⟩:=hR.AY;have hix:ixA 1 (.hs q parts.length 1 0 parts.length false) (.int .i64 k)=some (.ep q parts.length 1 k 0):=by
      rw[ED (kd:=.i64) (hi:=hk2),DW]
     have hid':=Af hid (X++[Blk.var false [.int .i64 ps[k].k,.int .i64 ps[k].v,.str ps[k].nm,tv]]);have hq3:=Af h3 (X++[Blk.var false [.int .i64 ps[k].k,.int .i64 ps[k].v,.str ps[k].nm,tv]]);have hlast:(G++(X++[Blk.var false [.int .i64 ps[k].k,.int .i64 ps[k].v,.str ps[k].nm,tv]]))[G.length+X.length]? = some (.var false [.int .i64 ps[k].k,.int .i64 ps[k].v,.str ps[k].nm,tv]):=by
      rw[<- CO,<- E2];exact BD _ _
     have e1:G++(X++[Blk.var false [.int .i64 ps[k].k,.int .i64 ps[k].v,.str ps[k].nm,tv]])++X'=G++(X++([Blk.var false [.int .i64 ps[k].k,.int .i64 ps[k].v,.str ps[k].nm,tv]]++X')):=(by simp);rw[e1]at hc;have key:∀ z:Int,(CB parts[k] ps[k]=z)->(z=0->AX MX 147 98 (AG MX) (AL f147 0) ([(0,.hp id 0),(6,.int .i64 i),(74,qv),(75,.int .i64 ps.length),(76,.int .i64 k)],G++X)=some (.nrm,([(0,.hp id 0),(6,.int .i64 i),(74,qv),(75,.int .i64 ps.length),(76,.int .i64 (k+1:Nat))],G++(X++([Blk.var false [.int .i64 ps[k].k,.int .i64 ps[k].v,.str ps[k].nm,tv]]++X'))))) /\
      (z≠0->AX MX 147 98 (AG MX) (AL f147 0) ([(0,.hp id 0),(6,.int .i64 i),(74,qv),(75,.int .i64 ps.length),(76,.int .i64 k)],G++X)=some (.ret,([(4,.int .i64 z)],G++(X++([Blk.var false [.int .i64 ps[k].k,.int .i64 ps[k].v,.str ps[k].nm,tv]]++X'))))):=by
      intro z hz;rw[hz]at hc;rcases hw with⟨rfl,rfl⟩ | rfl | ⟨j,rfl,hj⟩
      .cases hie
      .have hixw:ixA 2 (.sl 2 true es) (.int .i64 i)=some (.ro [.str nm,.hs q parts.length 1 0 parts.length false]):=(by rw[ID _ _ _ _ .i64 hie,hei']);refine⟨fun h => ?_,fun h => ?_⟩
       .subst h;simp[f147,hk',hfe,hid',AW hid',hixw,hix,hq3,AW hq3,h4,hpk,hlast,AW hlast,hc,hb18,hwk]
       .have hzb:(z != 0)=true:=(by simp[h]);simp[f147,hk',hfe,hid',AW hid',hixw,hix,hq3,AW hq3,h4,hpk,hlast,AW hlast,hc,hb18,hzb]
      .have hixw:ixA 2 (.hs j es.length 2 0 es.length false) (.int .i64 i)=some (.ep j es.length 2 i 0):=(by rw[ED (kd:=.i64) (hi:=hie),DW]);have hj':=Af hj (X++[Blk.var false [.int .i64 ps[k].k,.int .i64 ps[k].v,.str ps[k].nm,tv]]);refine⟨fun h => ?_,fun h => ?_⟩
       .subst h;simp[f147,hk',hfe,hid',AW hid',hixw,hj',AW hj',hei,hix,hq3,AW hq3,h4,hpk,hlast,AW hlast,hc,hb18,hwk]
       .have hzb:(z != 0)=true:=(by simp[h]);simp[f147,hk',hfe,hid',AW hid',hixw,hj',AW hj',hei,hix,hq3,AW hq3,h4,hpk,hlast,AW hlast,hc,hb18,hzb]
     obtain⟨k1,k2⟩:=key _ rfl;by_cases hz:CB parts[k] ps[k]=0
     .rw[if_pos hz]at hI;exact .inl ⟨_,k1 hz,hI⟩
     .rw[if_neg hz]at hI;exact .inr ⟨_,_,k2 hz,by simp,_,.inr ⟨by rw[hI],by rw[hI];exact hz⟩⟩) (fun X hI=>by
    rw[DD]at hI;exact⟨_,_,by simp[f147] <;> first | exact⟨rfl,rfl⟩ | rfl,by simp,X,.inl ⟨rfl,by rw[hI];simp[FV]⟩⟩) X0 (by simp)
 obtain⟨X,hq'⟩:=hq';exact⟨X,_,hlp,hq'⟩
theorem c147{l:List AK}(hd:DV l)(p:TyV):∀(px:List AV),AU p px->Sm 1048577 p->∀(n:Nat) (s:Sh) (t:TyV) (S:Nat->Prop) (H:AE) (v:AV) (X:AE),(∀ x,S x->x<H.length)->BT n S H v s->DT l t s->VT l t ->
 ∃ X',AH MX (AG MX) 147 [v,.agg px] (H++X)=some (.ret (.int .i64 (CB s p)),H++X++X'):=by
 induction p using TyV.ind with
 | h k pv nm ps ih=>
  intro px hpx hsp n s t S H v X hS hs hsh hvt;obtain⟨s1,s2,s3⟩:=hsp.dest;cases n with
  | zero=>exact hs.elim
  | succ n=>
   have hsG:BT (n+1) S (H++X) v s:=BT.mono _ hs (fun _ h=>h) (fun x hx=>A9 (hS x hx));have hSG:∀ x,S x->x<(H++X).length:=fun x hx=>by have:=hS x hx;simp;omega
   generalize H++X=G at hsG hSG;clear hs hS X H;obtain⟨id,m,w,es,rfl,hid,hw,hsd⟩:=hsG.blk;obtain⟨qv,rfl,hq⟩:=hpx.dest;have hleaf:(((ps.length:Int) == 0)=true->ps=[]):=fun h=>by
    have:ps.length=0:=(by simpa using h);exact EH this
   have hid':=Af hid [Blk.var false [.int .i64 k,.int .i64 pv,.str nm,qv]];have hw':=hw.app [Blk.var false [.int .i64 k,.int .i64 pv,.str nm,qv]];have hlast:=BD G (Blk.var false [.int .i64 k,.int .i64 pv,.str nm,qv]);have hnm:=c180 nm s1;have h116:=c116 hid' hw';have hlz:((ps.length:Int) == 0)=decide (ps.length=0):=by
    rw[Js];simp
   have hb8:=Wv;simp[Ab,Az,f147]at hb8;have hb13:=UE;simp[Ab,Az,f147]at hb13;by_cases k0:k=0
   .have e:CB s (.mk k pv nm ps)=if ps.length=0 then 0 else 10:=by
     subst k0;simp only[CB,if_true];by_cases hp:ps.length=0 <;> simp[hp] <;> omega
    rw[e];have k0b:(k == 0)=true:=(by simp[k0]);exact⟨_,BE Gg Hr (by simp[AJ,f147,hq.len,hlz,k0b] <;> rfl)⟩
   have k0b:(k == 0)=false:=(by simp[k0]);by_cases k1:k=1
   .have e:CB s (.mk k pv nm ps)=Al [if ps.length=0 then 0 else 10,if BM nm then 0 else 4]:=by
     subst k1;simp only[CB];by_cases hp:ps.length=0 <;> cases hn:BM nm <;> simp[hp,Al,hn]
     all_goals (have:0<ps.length:=by omega) <;> simp[this]
    rw[e];have k1b:(k == 1)=true:=(by simp[k1]);exact⟨_,BE Gg Hr (by simp[AJ,f147,hq.len,hlz,k0b,k1b,hnm,bsA,Ag,List.replicate,AF,AV.AA] <;> rfl)⟩
   have k1b:(k == 1)=false:=(by simp[k1]);by_cases k3:k=3
   .have k3b:(k == 3)=true:=(by simp[k3]);cases hsh with
    | bit _ hbt hwd _=>
     obtain⟨rfl,rfl⟩:=hsd;obtain⟨P,hP⟩:∃ P:Nat,P=2 ^ (BX t).v.toNat:=⟨_,rfl⟩;have hsl:=Vz _ hwd.1 hwd.2;have hPb:P<=65536:=by
      rw[hP];exact Cz (Lj (by decide) (show(BX t).v.toNat<=16 by omega)) (by decide)
     have hPp:0<P:=(by rw[hP];exact Nat.pow_pos (by decide));have e:CB (.bit (BX t).v) (.mk k pv nm ps)=Al [0,if ps.length=0 then 0 else 10,if 0<=pv/\pv<=(P:Int) - 1 then 0 else 2]:=by
      subst k3;simp only[CB,hP];by_cases hp:ps.length=0
      .simp[hp,Al]
      .have:0<ps.length:=(by omega);simp[hp,this,Al]
     rw[e];rw[<- hP]at hsl;have hwp:wr .i64 ((P:Int) - 1)=(P:Int) - 1:=BU (by omega) (by omega);simp at h116;exact⟨_,BE Gg Hr (by simp[AJ,f147,hq.len,hlz,k0b,k1b,k3b,h116,hid',AW hid',hlast,hsl,hwp,hb8,Hy,bsA,Ag,List.replicate,AF,AV.AA] <;> rfl)⟩
    | cons _ ns ss hbt hk2 hn hln hsp' hf=>
     obtain⟨he1,he2,he3⟩:=hsd;have e:CB (.cons ns ss) (.mk k pv nm ps)=26:=(by subst k3;simp[CB]);rw[e];have hne:0<es.length:=by
      have:=(hd.con t hvt hk2 hbt).2.1;rw[he1,hn,FB];exact Iv.2 this
     have heb:(es.length == 0)=false:=(by simp;intro h;rw[h]at hne;simp at hne);rw[heb]at h116;exact⟨_,BE Gg Hr (by simp[AJ,f147,hq.len,hlz,k0b,k1b,k3b,h116,hid',AW hid',hlast,hb8,Hy,Al,bsA,Ag,List.replicate,AF,AV.AA] <;> rfl)⟩
   have k3b:(k == 3)=false:=(by simp[k3]);by_cases k2:k=2
   .have k2b:(k == 2)=true:=(by simp[k2]);cases hsh with
    | bit _ hbt hwd _=>
     obtain⟨rfl,rfl⟩:=hsd;have e:CB (.bit (BX t).v) (.mk k pv nm ps)=6:=(by subst k2;simp[CB]);rw[e];obtain⟨X1,h182⟩:=c182 hid' hw' (ns:=[]) rfl (by simp) (fun k e nm h=>by simp at h) nm;simp[ixI]at h182;exact⟨_,BE Gg Hr (by simp[AJ,f147,hq.len,hlz,k0b,k1b,k3b,k2b,h182] <;> rfl)⟩
    | cons _ ns ss hbt hk2 hn hln hsp' hf=>
     obtain⟨he1,he2,he3⟩:=hsd;have hco:=hd.con t hvt hk2 hbt;have hnl:ns.length=(AN l t).length:=(by rw[hn,FB]);obtain⟨X1,h182⟩:=c182 hid' hw' he1 (by rw[hnl];have:=hco.1;omega) (fun k e nm' h1 h2=>by
      have hks:k<ss.length:=(by have:=(Ac.1 h2).1;omega);obtain⟨pv',e,_⟩:=he3 k e nm' _ h1 h2 (AO hks);exact⟨pv',e⟩) nm
     cases hfi:ns.findIdx? (fun x=>x == nm)with
     | none=>
      rw[hfi]at h182;simp[ixI]at h182;have e:CB (.cons ns ss) (.mk k pv nm ps)=6:=(by subst k2;simp[CB,hfi]);rw[e];exact⟨_,BE Gg Hr (by simp[AJ,f147,hq.len,hlz,k0b,k1b,k3b,k2b,h182] <;> rfl)⟩
     | some i=>
      rw[hfi]at h182;simp only[ixI]at h182;have hin:=Gh hfi;have his:i<ss.length:=(by omega);have hie:i<es.length:=(by omega);have hic:i<(AN l t).length:=(by omega);obtain⟨rv,hrow,hP⟩:=he3 i es[i] ns[i] ss[i] (AO hie) (AO hin) (AO his);have hei:es[i]? = some [.str ns[i],rv]:=(by rw[AO hie,hrow]);obtain⟨hpl1,hpl2,hpl3⟩:=hP.len;have hgd:ss.getD i []=ss[i]:=(by simp[his]);have hgd':ss[i]?.getD []=ss[i]:=(by simp[his]);have hsl:=hsp' i _ _ (AO hic) (AO his);have hni:¬ ((i:Int)<0):=(by omega);let B:=Blk.var false [.int .i64 k,.int .i64 pv,.str nm,qv];have hidX:=Af hid ([B]++X1);have hlX:(G++([B]++X1))[G.length]? = some B:=by
       rw[En (Cd _)];simp
      simp only[B,Ej,Ev]at hidX hlX;by_cases hpl:ps.length=ss[i].length
      ·-- its parts
       have e:CB (.cons ns ss) (.mk k pv nm ps)=FV ss[i] ps:=by
        subst k2;simp[CB,hfi,hgd,hgd',hpl]
       rw[e];obtain⟨X2,r,f1,f2⟩:=aM hid hw hei hSG hP hq s2 hpl (fun j hj hj2 px v X hR hv=>by
        have hjf:j<(AN l t)[i].fields.length:=(by omega);have h1:=hf i _ _ j _ _ (AO hic) (AO his) (AO hjf) (AO hj2);exact ih ps[j] (An hj) px hR (s3 _ (An hj)) n ss[i][j] _ S G v X hSG hv h1 (hd.dok.fld t hvt hk2 hbt _ (An hic) _ (An hjf))) ([B]++X1)
       simp only[B,Ej,Ev]at f1;simp[f147]at f1;have hpb:((ps.length:Int) != (ss[i].length:Int))=false:=(by rw[hpl];simp);have fin:∀ z,(r=(.ext 1,([(0,.hp id 0),(6,.int .i64 i),(74,qv),(75,.int .i64 ps.length),(76,.int .i64 ps.length),(77,.bool false)],G++X2))/\z=0\/r=(.ret,([(4,.int .i64 z)],G++X2))/\z≠0)->AJ MX 147 [.hp id 0,.agg [.int .i64 k,.int .i64 pv,.str nm,qv]] G=some (.ret (.int .i64 z),G++X2):=by
        intro z hz;rcases hw with⟨rfl,rfl⟩ | rfl | ⟨j,rfl,hj⟩
        .cases hie
        .have hixw:ixA 2 (.sl 2 true es) (.int .i64 i)=some (.ro [.str ns[i],rv]):=(by rw[ID _ _ _ _ .i64 hie,hrow]);rcases hz with⟨rfl,rfl⟩ | ⟨rfl,hz⟩ <;> simp[AJ,f147,hq.len,hq.C5,hlz,k0b,k1b,k3b,k2b,h182,hni,hidX,AW hidX,hlX,AW hlX,hixw,hpl1,hpl2,hpb,hb13,f1]
        .have hixw:ixA 2 (.hs j es.length 2 0 es.length false) (.int .i64 i)=some (.ep j es.length 2 i 0):=(by rw[ED (kd:=.i64) (hi:=hie),DW]);have hjX:=Af hj ([B]++X1);simp only[B,Ej,Ev]at hjX;rcases hz with⟨rfl,rfl⟩ | ⟨rfl,hz⟩ <;> simp[AJ,f147,hq.len,hq.C5,hlz,k0b,k1b,k3b,k2b,h182,hni,hidX,AW hidX,hlX,AW hlX,hixw,hjX,AW hjX,hei,hpl1,hpl2,hpb,hb13,f1]
       exact⟨X2,BE Gg Hr (fin _ f2)⟩
      .have e:CB (.cons ns ss) (.mk k pv nm ps)=10:=by
        subst k2;simp[CB,hfi,hgd,hgd',hpl]
       rw[e];have hpb:((ps.length:Int) != (ss[i].length:Int))=true:=(by simp;omega);refine⟨[B]++X1,BE Gg Hr ?_⟩;simp only[B,Ej,Ev];rcases hw with⟨rfl,rfl⟩ | rfl | ⟨j,rfl,hj⟩
       .cases hie
       .have hixw:ixA 2 (.sl 2 true es) (.int .i64 i)=some (.ro [.str ns[i],rv]):=(by rw[ID _ _ _ _ .i64 hie,hrow]);simp[AJ,f147,hq.len,hq.C5,hlz,k0b,k1b,k3b,k2b,h182,hni,hidX,AW hidX,hlX,AW hlX,hixw,hpl1,hpl2,hpb,hb13]
       .have hixw:ixA 2 (.hs j es.length 2 0 es.length false) (.int .i64 i)=some (.ep j es.length 2 i 0):=(by rw[ED (kd:=.i64) (hi:=hie),DW]);have hjX:=Af hj ([B]++X1);simp only[B,Ej,Ev]at hjX;simp[AJ,f147,hq.len,hq.C5,hlz,k0b,k1b,k3b,k2b,h182,hni,hidX,AW hidX,hlX,AW hlX,hixw,hjX,AW hjX,hei,hpl1,hpl2,hpb,hb13]
   .have k2b:(k == 2)=false:=(by simp[k2]);have e:CB s (.mk k pv nm ps)=15:=(by simp[CB,k0,k1,k2,k3]);rw[e];exact⟨_,BE Gg Hr (by simp[AJ,f147,hq.len,hlz,k0b,k1b,k3b,k2b] <;> rfl)⟩
end
section
theorem Sz:∀(l prev:List Bytes),K2 prev l=false↔l.Nodup/\∀ x∈l,x ∉ prev
 | [],prev=>by simp[K2]
 | x::r,prev=>by
  have hx:(prev.findIdx? (fun y=>y == x)).isSome=decide (x∈prev):=by
   rw[Nj,Js,List.any_eq_true,decide_eq_true_iff];exact⟨fun⟨y,hy,e⟩=>beq_iff_eq.1 e ▸ hy,fun h=>⟨x,h,beq_self_eq_true x⟩⟩
  simp only[K2,Bool.or_eq_false_iff,hx,decide_eq_false_iff_not,Sz r,Me,H6,List.mem_singleton,PX,not_or];constructor
  .rintro⟨h1,h2,h3⟩;exact⟨⟨fun h=>(h3 x h).2 rfl,h2⟩,h1,fun y hy=>(h3 y hy).1⟩
  .rintro⟨⟨h1,h2⟩,h3,h4⟩;exact⟨h3,h2,fun y hy=>⟨h4 y hy,fun e=>h1 (e ▸ hy)⟩⟩
def I8(l:List Bytes):List Bytes:=l.mergeSort fun x y=>decide (x<=y)
theorem Oq(l:List Bytes):(I8 l).Perm l:=List.mergeSort_perm l _
theorem P7(l:List Bytes):(I8 l).length=l.length:=(Oq l).length_eq
theorem aN(l:List Bytes):(I8 l).Pairwise (· <= ·):=by
 have:=List.pairwise_mergeSort (le:=fun x y:Bytes=>decide (x<=y)) (fun a b c h k=>by
  simp only[decide_eq_true_eq]at *;exact List.le_trans h k) (fun a b=>by
  rw[Mz,decide_eq_true_eq,decide_eq_true_eq];exact List.le_total a b) l
 exact this.imp fun h=>by simpa using h
theorem PM{s:List Bytes}(hs:s.Pairwise (· <= ·)):(Lib.compact s).length=s.length↔s.Nodup:=by
 have hk:(Lib.compact s).length=s.length↔∀ j,j<s.length->Lib.keeps s.toArray j=true:=by
  unfold Lib.compact Lib.compactUpTo;rw[FB];have := @List.length_filter_eq_length_iff _ (Lib.keeps s.toArray) (List.range s.length);rw[List.length_range]at this;rw[this];exact⟨fun h j hj=>h j (Ia.2 hj),fun h j hj=>h j (Ia.1 hj)⟩
 rw[hk];have hg:∀ j (hj:j<s.length),s.toArray[j]! = s[j]:=fun j hj=>by simp[getElem!_pos,hj]
 constructor
 .intro h;unfold List.Nodup;rw[Li];intro i j hi hj hij e;rw[Li]at hs;have h1:=h (i+1) (by omega);simp only[Lib.keeps,decide_eq_true_eq]at h1;rcases h1 with h1 | h1
  .omega
  rw[hg (i+1) (by omega),Nat.add_sub_cancel,hg i hi]at h1;apply h1;have a1:s[i]<=s[i+1]:=hs i (i+1) hi (by omega) (by omega);by_cases hj1:i+1=j
  .subst hj1;exact e.symm
  .have a2:s[i+1]<=s[j]:=hs (i+1) j (by omega) hj (by omega);rw[<- e]at a2;exact List.le_antisymm a2 a1
 .intro h j hj;simp only[Lib.keeps,decide_eq_true_eq];by_cases h0:j=0
  .exact .inl h0
  .refine .inr fun e => ?_
   rw[hg j hj,hg (j - 1) (by omega)]at e;exact Li.1 h (j - 1) j (by omega) hj (by omega) e.symm
theorem RA(l:List Bytes):((Lib.compact (I8 l)).length=l.length)↔K2 [] l=false:=by
 rw[<- P7 l,PM (aN l),(Oq l).nodup_iff,Sz];simp
end
section
attribute [local simp] Dc Bn Ec Dd CQ Dx Dy Ey BZ Ap Bh Av Gb FR EN HO D9 A5 FN EO HP HQ xUn FC EA FT BG DQ BH EB BI EC Ce Ca Bv BL EP Eo
 ev evs C4 DP OR.ofV OR.D4 OR.ofC Fg Tm.get Tm.init Tm.only Ay A6 Bt finish CK DS Hb D3 D7 unA Bz Bc B6 Bd Cp Cq Cr Be Cs Ct Bf Cu Cv Bg B7 AL CP Bb Cn Co Bx Ez E0 E1 Dz D0 Fo F7 F8 Fp stA BA DY Bo DR FD Gp B8 C1 CI FU Gq
attribute [local simp] DE CT Cb Bl DF DG DH DI DJ DK DL Ef Cg Eg Dh FW FX Gi Di Eh Dj BQ Dk BR Dl B9 Ei Ch FY FZ Fa Ci Dm Dn Fb Gj Fc Gk Gl Dp BS Cj CA Dq Dr Ck
theorem V0{f:FuncId}{args:List AV}{h:AE}{r:CR×AE}{e:List AV->AE->Option (CR×AE)}(hm:MX.mode f = { })(he:MX.eff f=some e)(hr:e args h=some r):AH MX (AG MX) f args h=some r:=by
 unfold AH;simp only[hm];exact Mm he hr
theorem P8(l:List Bytes):JL (strs l)=some l:=NA l
theorem c149{Y:AE}{l:List Bytes}(hl:l≠[])(hb:l.length<4294967296):AH MX (AG MX) 149 [.hs Y.length l.length 1 0 l.length false] (Y++[.arr 1 false (strs l)])=some (.ret (.tup []),Y++[.arr 1 false (strs (I8 l))]):=by
 refine V0 SE VN ?_;have h1:(Y++[Blk.arr 1 false (strs l)])[Y.length]? = some (.arr 1 false (strs l)):=BD _ _;have h2:(strs l).length=l.length:=by simp[strs]
 have h0:0<l.length:=Iv.2 hl;have hc:(Nat.beq (strs l).length l.length&&Nat.beq l.length l.length&&Nat.blt 0 l.length&&Nat.blt l.length 4611686018427387904)=true:=by
  rw[h2];simp only[Ba,Br,GB];exact⟨⟨⟨trivial,trivial⟩,h0⟩,by omega⟩
 simp only[Rt,h1,P8,hc];have hset:(Y++[Blk.arr 1 false (strs l)]).set Y.length (.arr 1 false (strs (I8 l)))=Y++[.arr 1 false (strs (I8 l))]:=by simp
 exact congrArg (fun z=>some (CR.ret (AV.tup []),z)) hset
theorem c150{Y:AE}{B:Blk}{l:List Bytes}(hl:l≠[])(hb:l.length<4294967296):∃ Z,AH MX (AG MX) 150 [.hs (Y.length+1) l.length 1 0 l.length false] (Y++[B,.arr 1 false (strs l)])=some (.ret (.hs (Y.length+1) l.length 1 0 (Lib.compact l).length false),Y++[B,Z]):=by
 refine⟨.arr 1 false (strs (Lib.compact l++List.replicate (l.length - (Lib.compact l).length) [])),V0 SF VO ?_⟩
 .have h1:(Y++[B,Blk.arr 1 false (strs l)])[Y.length+1]? = some (.arr 1 false (strs l)):=by simp
  have h2:(strs l).length=l.length:=by simp[strs]
  have h0:0<l.length:=Iv.2 hl;have hc:(Nat.beq (strs l).length l.length&&Nat.beq l.length l.length&&Nat.blt 0 l.length&&Nat.blt l.length 4611686018427387904)=true:=by
   rw[h2];simp only[Ba,Br,GB];exact⟨⟨⟨trivial,trivial⟩,h0⟩,by omega⟩
  simp only[KB,h1,P8,hc];have hset:∀ C,(Y++[B,Blk.arr 1 false (strs l)]).set (Y.length+1) C=Y++[B,C]:=fun C=>by simp
  exact congrArg (fun z=>some (CR.ret (AV.hs (Y.length+1) l.length 1 0 (Lib.compact l).length false),z)) (hset _)
theorem u100:und MX.ty 100=some (.slice 9):=by kernel_rfl
theorem c151{Y:AE}{l:List Bytes}(hl:l≠[])(hb:l.length<4294967296):AH MX (AG MX) 151 [.hs Y.length l.length 1 0 l.length false] (Y++[.arr 1 false (strs l)])=some (.ret (.hs (Y.length+1) l.length 1 0 l.length false),Y++[.arr 1 true (strs l),.arr 1 false (strs l)]):=by
 have h1:(Y++[Blk.arr 1 false (strs l)])[Y.length]? = some (.arr 1 false (strs l)):=BD _ _;have h2:(strs l).length=l.length:=by simp[strs]
 have h0:0<l.length:=Iv.2 hl;have hall:=HY l;have hsn:Am.snap C0 (.hs Y.length l.length 1 0 l.length false) (Y++[Blk.arr 1 false (strs l)])=some (.sl 1 false (strs l),(Y++[Blk.arr 1 false (strs l)]).set Y.length (.arr 1 true (strs l))):=by
  have hb:(Nat.beq (strs l).length l.length&&Nat.beq 1 1&&Nat.ble (0+l.length) (strs l).length&&(strs l).all AF)=true:=by
   rw[h2,hall];simp[Ay,A6]
  have:BC 1 (.hs Y.length l.length 1 0 l.length false) (Y++[Blk.arr 1 false (strs l)]) (.sl 1 false (strs l)) ((Y++[Blk.arr 1 false (strs l)]).set Y.length (.arr 1 true (strs l))):=fun n=>by
   simp only[Am.snap,h1,hb];have:(strs l).take l.length=strs l:=DU (by omega);simp[this]
  exact this.at (by decide)
 have hset:(Y++[Blk.arr 1 false (strs l)]).set Y.length (.arr 1 true (strs l))=Y++[.arr 1 true (strs l)]:=by simp
 rw[hset]at hsn;have e2:l.length * 16<=17592186044416:=by omega
 have e3:l.length<=17592186044416:=by omega
 have hne:strs l≠[]:=fun h=>by rw[h]at h2;simp at h2;omega
 have hap:∀ H:AE,apA 1 16 (.sl 1 true []) (.sl 1 false (strs l)) H=some (.hs H.length l.length 1 0 l.length false,H++[.arr 1 false (strs l)]):=fun H=>by
  have hrd:Ax H (.sl 1 false (strs l))=some (strs l):=rfl;cases he:strs l with
  | nil=>exact absurd he hne
  | cons a r=>
   rw[he]at hrd h2;simp only[DC]at h2;simp[apA,apX,Bu,BF,Fs,Aw,Ay,A6,Bt,hrd,h2,e2,e3]
 refine EG (by simp[OS]) (args':=[.sl 1 false (strs l)]) (h':=Y++[Blk.arr 1 true (strs l)]) (by simp[Aq,AV.AA,hsn]) (by simp[AV.AA] <;> exact ER.1 hall) ?_;have hap0:=hap [];simp only[Jd,Ev]at hap0;have hcl:=KS (H:=[.arr 1 false (strs l)]) (a:=.hs 0 l.length 1 0 l.length false) (l:=l) (.inr ⟨0,hl,rfl,rfl⟩) (Y++[.arr 1 true (strs l)]);have hnv:nv l (Y++[Blk.arr 1 true (strs l)]).length=.hs (Y.length+1) l.length 1 0 l.length false:=by cases l with
  | nil=>exact absurd rfl hl
  | cons a r=>simp[nv]
 have hnb:nb l=[.arr 1 false (strs l)]:=by cases l with
  | nil=>exact absurd rfl hl
  | cons a r=>rfl
 rw[hnv,hnb]at hcl;have:=KQ OS VP (by simp[AV.AA] <;> exact ER.1 hall) (args:=[.sl 1 false (strs l)]) (v:=.hs 0 l.length 1 0 l.length false) (hr:=[.arr 1 false (strs l)]) (h:=Y++[Blk.arr 1 true (strs l)]) (by simp[AJ,f151,u100,eqA,bsA,Ag,List.replicate,AF,AV.AA,hap0]) hcl;rw[this];simp
theorem c83{l:List AK}(hd:DV l){p:TyV}{px:List AV}(hx:AU p px)(hsm:Sm 1048577 p){n:Nat}{s:Sh}{t:TyV}{S:Nat->Prop}{H:AE}{v:AV}(hS:∀ x,S x->x<H.length)(hs:BT n S H v s)(hsh:DT l t s)(hvt:VT l t)(X:AE) :
 ∃ X',AH MX (AG MX) 83 [v,.agg px] (H++X)=some (.ret (.int .i64 (Fm s p)),H++X++X'):=by
 have h145:=c145 hx hsm;obtain⟨X2,h147⟩:=c147 hd p px hx hsm n s t S H v (X++[Blk.var false px]) hS hs hsh hvt;obtain⟨id,rfl⟩:=hs.hp;have e1:H++(X++[Blk.var false px])++X2=H++(X++(Blk.var false px::X2)):=by simp
 rw[e1]at h147;obtain⟨Y,hY⟩:∃ Y,Y=H++(X++(Blk.var false px::X2)):=⟨_,rfl⟩;rw[<- hY]at h147;have hbox:Y[H.length+X.length]? = some (.var false px):=by
  rw[hY,<- CO,<- E2,En (Cd _),Nat.sub_self];rfl
 have hlast:(H++(X++[Blk.var false px]))[H.length+X.length]? = some (.var false px):=by
  rw[<- CO,<- E2];exact BD _ _
 unfold Fm;cases hT:A7 p with
 | false=>
  rw[hT]at h145;simp at h145;obtain⟨qv,rfl,hq⟩:=hx.AY;exact⟨[Blk.var false [.int .i64 p.k,.int .i64 p.v,.str p.nm,qv]],BE L5 OM (by simp[AJ,f83,h145])⟩
 | true=>
  rw[hT]at h145;simp at h145;by_cases hz:CB s p=0
  .rw[hz]at h147;have hnl:=MG hT;have h148:=c148 p px hx hsm (by omega) Y;have hfin:∃ Z,AH MX (AG MX) 83 [.hp id 0,.agg px] (H++X)=some (.ret (.int .i64 (if K2 [] (BV p)=true then 23 else 0)),Y++Z):=by
    obtain⟨qv,rfl,hq⟩:=hx.AY;cases hn:BV p with
    | nil=>
     rw[hn]at h148;simp[nv,nb]at h148;have h149:AH MX (AG MX) 149 [.AI] Y=some (.ret (.tup []),Y):=V0 SE VN rfl;have h151:AH MX (AG MX) 151 [.AI] Y=some (.ret .AI,Y):=by
      have hcl:=KS (H:=[]) (a:=.AI) (l:=[]) (.inl ⟨rfl,rfl⟩) Y;simp[nv,nb]at hcl;exact KQ OS VP rfl (v:=.AI) (hr:=[]) (by simp[AJ,f151,u100,eqA]) hcl
     have h150:AH MX (AG MX) 150 [.AI] Y=some (.ret .AI,Y):=V0 SF VO rfl;exact⟨[],BE L5 OM (by simp[AJ,f83,h145,hlast,h147,hbox,AW hbox,h148,h149,h150,h151,K2])⟩
    | cons a r=>
     obtain⟨L,hL⟩:∃ L,L=a::r:=⟨_,rfl⟩;rw[<- hL]at hn ⊢;have hne:L≠[]:=(by rw[hL];exact List.cons_ne_nil _ _);have hLl:L.length<4294967296:=(by rw[<- hn];omega);rw[hn]at h148;have hnv:nv L Y.length=.hs Y.length L.length 1 0 L.length false:=(by rw[hL];rfl);have hnb:nb L=[.arr 1 false (strs L)]:=(by rw[hL];rfl);rw[hnv,hnb]at h148;have h149:=c149 (Y:=Y) hne hLl;have hsl:=P7 L;have hsne:I8 L≠[]:=fun h=>by rw[h]at hsl;exact hne (EH hsl.symm)
     have h151:=c151 (Y:=Y) hsne (by rw[hsl];exact hLl);obtain⟨Z,h150⟩:=c150 (Y:=Y) (B:=.arr 1 true (strs (I8 L))) hsne (by rw[hsl];exact hLl);rw[hsl]at h150 h151;have hcd:=RA L;cases hdd:K2 [] L with
     | true=>
      have hnc:(((Lib.compact (I8 L)).length:Int) == (L.length:Int))=false:=by
       rw[beq_eq_false_iff_ne];intro h;have:=hcd.1 (by omega);rw[hdd]at this;cases this
      exact⟨[.arr 1 true (strs (I8 L)),Z],BE L5 OM (by simp[AJ,f83,h145,hlast,h147,hbox,AW hbox,h148,h149,h151,h150,hnc])⟩
     | false=>
      have hnc:(((Lib.compact (I8 L)).length:Int) == (L.length:Int))=true:=by
       rw[beq_iff_eq];have:=hcd.2 hdd;omega
      exact⟨[.arr 1 true (strs (I8 L)),Z],BE L5 OM (by simp[AJ,f83,h145,hlast,h147,hbox,AW hbox,h148,h149,h151,h150,hnc])⟩
   obtain⟨Z,hfin⟩:=hfin;refine⟨(Blk.var false px::X2)++Z,?_⟩;rw[hfin,hY];simp[hz]
  .have hzb:(CB s p != 0)=true:=(by simp[hz]);refine⟨Blk.var false px::X2,?_⟩;have e2:H++X++(Blk.var false px::X2)=Y:=(by rw[hY,CO]);rw[e2,if_neg (by simp),if_neg hz];obtain⟨qv,rfl,hq⟩:=hx.AY;exact BE L5 OM (by simp[AJ,f83,h145,hlast,h147,hzb])
theorem Ot:∀(l prev:List Bytes),Dg prev l=0->l.Nodup/\∀ x∈l,x ∉ prev
 | [],prev,_=>⟨List.nodup_nil,fun x h=>by cases h⟩
 | x::r,prev,h=>by
  simp only[Dg]at h;split at h
  .cases h
  .split at h
   .cases h
   .rename_i h2;obtain⟨h3,h4⟩:=Ot r _ h;have hx:x ∉ prev:=fun hm=>h2 (by
     rw[Nj,List.any_eq_true];exact⟨x,hm,beq_self_eq_true x⟩)
    refine⟨Me.2 ⟨fun hm=>h4 x hm (by simp),h3⟩,fun y hy => ?_⟩;rcases CF.1 hy with rfl | hy
    .exact hx
    .exact fun hm=>h4 y hy (H6.2 (.inl hm))
theorem S0{d:AK}{l:List AK}(h:Bj d l=0):d.params.Nodup:=by
 have h2:Dg [] d.params=0:=by
  unfold Bj at h
  repeat (split at h;first | cases h | skip)
  .rename_i h2;exact h2
  .exact h
 exact(Ot _ _ h2).1
theorem jC{l:List AK}(h:(A0 l).2=0):∀ d∈l,d.params.Nodup:=fun d hdm=>by
 unfold A0 at h;split at h
 .cases h
 .obtain⟨pre,post,e,he⟩:=I4 l [] h d hdm;exact S0 he
section
variable{l:List AK}{lv:AV}(hl:SlR Ah 3 l lv)(hsl:SmL 1048577 l)
include hl hsl
theorem c82{t:TyV}{xs:List AV}(hx:AU t xs)(hst:Sm 1048577 t)(H:AE) :
 ∃ v H',AH MX (AG MX) 82 [lv,.agg xs] H=some (.ret (.tup [v,.int .i64 (DM l t)]),H')/\(∀ x,x<H.length->H'[x]? = H[x]?)/\(DM l t=0->DV l/\VT l t/\DT l t (CE l t)/\∃ n S,(∀ x,S x->x<H'.length)/\BT n S H' v (CE l t)):=by
 have h143:=c143 hl hsl hx hst;by_cases hz:DM l t=0
 .obtain⟨h1,h2,h3⟩:=GK hz;have hd:=He h1;obtain⟨v,H',q1,q2,q3,q4⟩:=c144 hl hsl.1 hsl hd (jC h1) h3 h2 0 t xs [] [] .Gm (fun _=>False) (H++[Blk.var false xs]) hx h2 (fun a h=>by cases h) rfl (Sn [] t) (fun x h=>h.elim) (.inl ⟨rfl,rfl⟩);obtain⟨pv,rfl,hp⟩:=hx.AY;refine⟨v,H',BE VD Yb ?_,fun x hx=>by rw[q3 x (by simp;omega)];exact A9 hx,fun _=>⟨hd,h2,h3,_,_,fun x hx=>hx.2,q4⟩⟩;simp[AJ,f82,h143,hz,q1]
 .have hzb:(DM l t != 0)=true:=by simp[hz]
  obtain⟨pv,rfl,hp⟩:=hx.AY;exact⟨.Ea,_,BE VD Yb (by simp[AJ,f82,h143,hzb] <;> rfl),fun x hx=>A9 hx,fun h=>absurd h hz⟩
theorem c79{t:TyV}{xs:List AV}(hx:AU t xs)(hst:Sm 1048577 t){arms:List TyV}{av:AV}(ha:SlR AU 4 arms av)(hal:arms.length<1048577)(has:∀ p∈arms,Sm 1048577 p)(H:AE) :
 ∃ v H',AH MX (AG MX) 79 [lv,.agg xs,av] H=some (.ret (.tup [v,.int .i64 (A8 l t arms).1,.int .i64 (A8 l t arms).2]),H')/\(∀ x,x<H.length->H'[x]? = H[x]?)/\((A8 l t arms).2=0->∃ n S,(∀ x,S x->x<H'.length)/\BT n S H' v (CE l t)):=by
 obtain⟨v,H1,h82,hold,hok⟩:=c82 hl hsl hx hst (H++[Blk.var false xs]);have hlt:H.length<H1.length:=by
  have h1:=hold H.length (by simp);rw[BD]at h1;exact(Ac.1 h1).1
 have ho1:∀ x,x<H.length->H1[x]? = H[x]? := fun x hx=>by
  rw[hold x (by simp;omega)];exact A9 hx
 have ho2:∀(X:AE) x,x<H.length->(H1++X)[x]? = H[x]? := fun X x hx=>by
  rw[A9 (by omega)];exact ho1 x hx
 obtain⟨pv,rfl,hp⟩:=hx.AY;unfold A8;by_cases hz:DM l t=0
 .rw[if_pos hz];obtain⟨hd,hv,hsh,n,S,hS,hs⟩:=hok hz;rw[hz]at h82;by_cases h0:arms.length=0
  .rw[if_pos h0];have g0:¬ ((0:Int)<(arms.length:Int)):=(by omega);have g1:(arms.length:Int)<=12:=(by omega);have e0:arms=[]:=EH h0;exact⟨.Ea,H1,BE L4 OL (by simp[AJ,f79,h82,ha.len,e0,bsA,Ag,List.replicate,AF,AV.AA,Al]),ho1,fun h=>by cases h⟩
  .rw[if_neg h0];have g0:(0:Int)<(arms.length:Int):=(by omega);by_cases h12:12<arms.length
   .rw[if_pos h12];have g1:¬ ((arms.length:Int)<=12):=(by omega);have g2:¬ (arms.length<=12):=(by omega);have g3:0<arms.length:=(by omega);exact⟨.Ea,H1,BE L4 OL (by simp[AJ,f79,h82,ha.len,g0,g1,g2,g3,bsA,Ag,List.replicate,AF,AV.AA,Al]),ho1,fun h=>by cases h⟩
   .rw[if_neg h12];have g1:(arms.length:Int)<=12:=(by omega);have g2:arms.length<=12:=(by omega);have g3:0<arms.length:=(by omega);obtain⟨e,st,hlp,hq⟩:=AQ (M:=MX) (fid:=79) (N:=50) (C:=AG MX) (c:=AL f79 0) (n:=arms.length)
     (fun i (X:AE)=>([(9,v),(34,av),(35,.int .i64 arms.length),(36,.int .i64 i)],H1++X))
     (fun i X=>HX (CE l t) 0 arms=HX (CE l t) i (arms.drop i))
     (fun r=>∃ X,(r=(.ext 0,([(9,v),(34,av),(35,.int .i64 arms.length),(36,.int .i64 arms.length),(37,.bool false)],H1++X))/\HX (CE l t) 0 arms=(0,0))\/(r=(.ret,([(6,.Ea),(7,.int .i64 (HX (CE l t) 0 arms).1),(8,.int .i64 (HX (CE l t) 0 arms).2)],H1++X))/\(HX (CE l t) 0 arms).2≠0)) (fun i X hi hI=>by
       have hi':=Aa hi;have hw:=AZ hi hal;obtain⟨fe,hfe,hR⟩:=ha.ix hi;obtain⟨X',hc⟩:=c83 hd hR (has _ (An hi)) hS hs hsh hv (X++[Blk.var false fe]);rw[EJ hi]at hI;simp only[HX]at hI;obtain⟨tv,rfl,htv⟩:=hR.AY;obtain⟨id,rfl⟩:=hs.hp;have e1:H1++(X++[Blk.var false [.int .i64 arms[i].k,.int .i64 arms[i].v,.str arms[i].nm,tv]])++X'=H1++(X++(Blk.var false [.int .i64 arms[i].k,.int .i64 arms[i].v,.str arms[i].nm,tv]::X')):=(by simp);rw[e1]at hc;have hlast:(H1++(X++[Blk.var false [.int .i64 arms[i].k,.int .i64 arms[i].v,.str arms[i].nm,tv]]))[H1.length+X.length]? = some (.var false [.int .i64 arms[i].k,.int .i64 arms[i].v,.str arms[i].nm,tv]):=by
        rw[<- CO,<- E2];exact BD _ _
       by_cases hz2:Fm (CE l t) arms[i]=0
       .rw[if_pos hz2]at hI;rw[hz2]at hc;exact .inl ⟨X++(Blk.var false [.int .i64 arms[i].k,.int .i64 arms[i].v,.str arms[i].nm,tv]::X'),by simp[f79,hi',hfe,hlast,hc,hw],hI⟩
       .rw[if_neg hz2]at hI;have hzb:(Fm (CE l t) arms[i] != 0)=true:=(by simp[hz2]);refine .inr ⟨_,_,by simp[f79,hi',hfe,hlast,hc,hzb] <;> first | exact⟨rfl,rfl⟩ | rfl,by simp,X++(Blk.var false [.int .i64 arms[i].k,.int .i64 arms[i].v,.str arms[i].nm,tv]::X'),.inr ?_⟩;rw[hI];exact⟨rfl,hz2⟩) (fun X hI=>by
       rw[DD]at hI;exact⟨_,_,by simp[f79] <;> first | exact⟨rfl,rfl⟩ | rfl,by simp,X,.inl ⟨rfl,by rw[hI];rfl⟩⟩) [] (by simp)
    obtain⟨X,hq⟩:=hq;simp[f79]at hlp;obtain⟨id,rfl⟩:=hs.hp;rcases hq with⟨hq,hr⟩ | ⟨hq,hr⟩
    .cases hq;rw[hr];exact⟨.hp id 0,H1++X,BE L4 OL (by simp[AJ,f79,h82,ha.len,g0,g1,g2,g3,bsA,Ag,List.replicate,AF,AV.AA,Al,hlp]),ho2 X,fun _=>⟨n,S,fun x hx=>by have:=hS x hx;simp;omega,hs.mono n (fun _ h=>h) fun x hx=>A9 (hS x hx)⟩⟩
    .cases hq;exact⟨.Ea,H1++X,BE L4 OL (by simp[AJ,f79,h82,ha.len,g0,g1,g2,g3,bsA,Ag,List.replicate,AF,AV.AA,Al,hlp]),ho2 X,fun h=>absurd h hr⟩
 .rw[if_neg hz];have hzb:(DM l t != 0)=true:=by simp[hz]
  have hfo:∀ a b,Al [DM l t,a,b]=DM l t:=fun a b=>by simp[Al,hz]
  exact⟨.Ea,H1,BE L4 OL (by simp[AJ,f79,h82,ha.len,hfo,hzb,bsA,Ag,List.replicate,AF,AV.AA]),ho1,fun h=>absurd h hz⟩
end
inductive A4:TyV->List AV->Prop where
 | nil (v:Int) (nm:Bytes):A4 (.mk 0 v nm []) [.str nm,.int .i64 v,.AI]
 | sl (v:Int) (nm:Bytes) (ps:List TyV) (ex:Bool) (es:List (List AV)) (hl:es.length=ps.length) (h:∀(i:Nat) t e,ps[i]? = some t->es[i]? = some e->A4 t e) :
  A4 (.mk 0 v nm ps) [.str nm,.int .i64 v,.sl 3 ex es]
theorem A4.dest{k v:Int}{nm:Bytes}{ps:List TyV}{xs:List AV}(h:A4 (.mk k v nm ps) xs):k=0/\∃ pv,xs=[.str nm,.int .i64 v,pv]/\SlR A4 3 ps pv:=by
 cases h with
 | nil=>exact⟨rfl,_,rfl,.inl ⟨rfl,rfl⟩⟩
 | sl _ _ _ ex es hl h=>exact⟨rfl,_,rfl,.inr ⟨ex,es,rfl,hl,h⟩⟩
theorem A4.AY{t:TyV}{xs:List AV}(h:A4 t xs):∃ pv,xs=[.str t.nm,.int .i64 t.v,pv]/\SlR A4 3 t.ps pv:=by
 cases t;exact h.dest.2
theorem A4.k0{t:TyV}{xs:List AV}(h:A4 t xs):t.k=0:=by
 cases t;exact h.dest.1
theorem A4.intro{v:Int}{nm:Bytes}{ps:List TyV}{pv:AV}(h:SlR A4 3 ps pv):A4 (.mk 0 v nm ps) [.str nm,.int .i64 v,pv]:=by
 rcases h with⟨rfl,rfl⟩ | ⟨ex,es,rfl,hl,h⟩
 .exact .nil v nm
 .exact .sl v nm ps ex es hl h
theorem A4.AF{t:TyV}{xs:List AV}(h:A4 t xs):AF xs=true:=by
 obtain⟨pv,rfl,hp⟩:=h.AY;simp[Am.AF,AV.AA,hp.AA]
mutual
def same:TyV->TyV->Bool
 | .mk k v nm ps,t=>decide (k=t.k)&&(decide (v=t.v)&&((nm == t.nm)&&(decide (ps.length=t.ps.length)&&gF ps t.ps)))
def gF:List TyV->List TyV->Bool
 | [],_=>true
 | p::r,q=>same p (q.headD default)&&gF r q.tail
end
mutual
def C6:TyV->TyV->Bool
 | .mk k pv nm ps,v=>if k=3 then(v.nm == [])&&decide (v.v=pv)else if k=2 then(v.nm == nm)&&(decide (v.ps.length=ps.length)&&HC ps v.ps)else true
def HC:List TyV->List TyV->Bool
 | [],_=>true
 | p::r,q=>C6 p (q.headD default)&&HC r q.tail
end
theorem S1{ss ps:List TyV}{j:Nat}(hj:j<ps.length)(hs:j<ss.length):HC (ps.drop j) (ss.drop j)=(C6 ps[j] ss[j]&&HC (ps.drop (j+1)) (ss.drop (j+1))):=by
 rw[EJ hj,EJ hs];simp only[HC,Ll,Lo]
theorem c49(t:TyV):∀(xs:List AV),A4 t xs->Sm 1048577 t->∃ ys,A4 (id t) ys/\∀ h,AH MX (AG MX) 49 [.agg xs] h=some (.ret (.agg ys),h):=by
 induction t using TyV.ind with
 | h k v nm ps ih=>
  intro xs hx hs;have hn:([AV.agg xs]:List AV).all AV.AA=true:=by simp[AV.AA,hx.AF]
  obtain⟨rfl,pv,rfl,hp⟩:=hx.dest;obtain⟨s1,s2,s3⟩:=hs.dest;have hb:=Zs;simp[Ab,Az,f49]at hb;obtain⟨e,st,hlp,hq⟩:=AQ (M:=MX) (fid:=49) (N:=26) (C:=AG MX) (c:=AL f49 0) (n:=ps.length)
   (fun i (b:AV×AE×List (List AV))=>([(1,.hp 0 0),(2,.hp 1 0),(3,.hp 2 0),(4,.int .i64 i)],Blk.var false [AV.str nm,AV.int .i64 v,pv]::Blk.var false [AV.str [],AV.int .i64 0,AV.AI]::Blk.var false [AV.str nm,AV.int .i64 v,b.1]::b.2.1))
   (fun i b=>Ak 3 3 b.2.1 b.1 b.2.2/\b.2.2.length=((ps.map id).take i).length/\∀(j:Nat) t e,((ps.map id).take i)[j]? = some t->b.2.2[j]? = some e->A4 t e)
   (fun r=>∃ b:AV×AE×List (List AV),r=(.ext 0,([(1,.hp 0 0),(2,.hp 1 0),(3,.hp 2 0),(4,.int .i64 ps.length),(11,.bool false)],Blk.var false [AV.str nm,AV.int .i64 v,pv]::Blk.var false [AV.str [],AV.int .i64 0,AV.AI]::Blk.var false [AV.str nm,AV.int .i64 v,b.1]::b.2.1)) /\
     Ak 3 3 b.2.1 b.1 b.2.2/\b.2.2.length=(ps.map id).length/\∀(j:Nat) t e,(ps.map id)[j]? = some t->b.2.2[j]? = some e->A4 t e) (fun i b hi hI=>by
     obtain⟨a,rest,es⟩:=b;obtain⟨i1,i2,i3⟩:=hI;simp only at i1 i2 i3;obtain⟨e,he,hR⟩:=hp.ix hi;have hi':=Aa hi;have hw:=AZ hi s2;have him:i<(ps.map id).length:=(by simpa using hi);obtain⟨ys,hys,hcall⟩:=ih ps[i] (An hi) e hR (s3 _ (An hi));have hys':A4 (ps.map id)[i] ys:=(by simpa using hys);obtain⟨j1,j2⟩:=EU i2 i3 hys';rw[Cf him]at j1 j2;have hlen:es.length<16777215:=(by rw[i2,GH,FB];exact Hf (My _ _) (Jb s2 (by decide)));obtain⟨qv,rfl,hqv⟩:=hR.AY;obtain⟨a',rest',hap,hacc⟩:=Ak.push (byt:=48) (P:=[Blk.var false [AV.str nm,AV.int .i64 v,pv],Blk.var false [AV.str [],AV.int .i64 0,AV.AI],Blk.var false [AV.str nm,AV.int .i64 v,a]]) (rest:=rest) ys true (i1) (by decide) (by decide) hlen;simp only[Ej,Ev,id]at hap;have hyn:=hys.AF;have hys:A4 ps[i] ys:=hys;obtain⟨qy,rfl,hqy⟩:=hys.AY;exact .inl ⟨(a',rest',_),by simp[f49,hp.len,hi',he,hcall,bsA,Ag,List.replicate,hyn,hap,hacc.cells,hw,hb,AF,AV.AA,hqv.AA,hqy.AA],hacc,j1,j2⟩) (fun b hI=>by
     obtain⟨a,rest,es⟩:=b;obtain⟨i1,i2,i3⟩:=hI;rw[DU (by simp)]at i2 i3;exact⟨_,_,by simp[f49,hp.len] <;> first | exact⟨rfl,rfl⟩ | rfl,by simp,(a,rest,es),rfl,i1,i2,i3⟩) (.AI,[],[]) ⟨.nil _ _ _,by simp,fun j t e h=>by simp at h⟩
  obtain⟨⟨a,rest,es⟩,hq,i1,i2,i3⟩:=hq;cases hq;simp[f49]at hlp;obtain⟨v',rest',hsn,hrep,heq⟩:=JQ (P:=[Blk.var false [AV.str nm,AV.int .i64 v,pv],Blk.var false [AV.str nm,AV.int .i64 v,a],Blk.var false [AV.str nm,AV.int .i64 v,a]]) (fun a e h=>A4.AF h) i1 i2 i3;have fin:∀(hrun:AJ MX 49 [.agg [.str nm,.int .i64 v,pv]] []=some (.ret (.agg [.str nm,.int .i64 v,a]),[Blk.var false [AV.str nm,AV.int .i64 v,pv],Blk.var false [AV.str nm,AV.int .i64 v,a],Blk.var false [AV.str nm,AV.int .i64 v,a]]++rest)) h,
   AH MX (AG MX) 49 [.agg [.str nm,.int .i64 v,pv]] h=some (.ret (.agg [.str nm,.int .i64 v,v']),h):=fun hrun h=>by
   cases hna:a.AA with
   | true=>
    have:=heq hna;subst this;exact Ae U7 YW hn (by simp[AV.AA,AF,hna]) hrun h
   | false=>
    exact Jj U7 YW hn (by simp[AV.AA,AF,hna]) ((BC.agg (by simp[AF,AV.AA,hna]) (.cons (.flat rfl _) (.cons (.flat rfl _) (.cons hsn (.nil _))))).at (by decide)) (by simp[AV.AA,AF,hrep.AA]) hrun h
  refine⟨_,?_,fin (by simp[AJ,f49,hlp,DS])⟩;have:=A4.intro (v:=v) (nm:=nm) hrep;simpa using this
mutual
def GM(s:Sh):TyV->Int
 | .mk _ v nm ps=>match s with
  | .bit n=>if(nm == [])=true/\ps.length=0 then(if 0<=v/\v<=((2 ^ n.toNat:Nat):Int) - 1 then 0 else 2)else 3
  | .cons ns ss=>match ns.findIdx? (fun x=>x == nm)with
   | none=>6
   | some i=>if v≠0 then 3 else if ps.length≠(ss.getD i []).length then 10 else IU (ss.getD i []) ps
def IU(ss:List Sh):List TyV->Int
 | []=>0
 | p::r=>if GM (ss.headD default) p=0 then IU ss.tail r else GM (ss.headD default) p
end
theorem Ub{ss:List Sh}{ps:List TyV}{j:Nat}(hj:j<ps.length)(hs:j<ss.length):IU (ss.drop j) (ps.drop j)=if GM ss[j] ps[j]=0 then IU (ss.drop (j+1)) (ps.drop (j+1))else GM ss[j] ps[j]:=by
 rw[EJ hj,EJ hs];simp only[IU,Ll,Lo]
 all_goals first | rfl | (split <;> rfl)
theorem LV:∀{ss:List Sh} {ps:List TyV},ps.length=ss.length->(IU ss ps=0↔∀(i:Nat) x p,ss[i]? = some x->ps[i]? = some p->GM x p=0)
 | [],[],_=>by simp[IU]
 | x::ss,p::ps,h=>by
  show(if GM x p=0 then IU ss ps else GM x p)=0↔_;have ih:=LV (ss:=ss) (ps:=ps) (by simpa using h);by_cases h0:GM x p=0
  .rw[if_pos h0,ih];constructor
   .intro g i y q h1 h2;cases i with
    | zero=>simp at h1 h2;rw[<- h1,<- h2];exact h0
    | succ i=>exact g i y q (by simpa using h1) (by simpa using h2)
   .intro g i y q h1 h2;exact g (i+1) y q (by simpa using h1) (by simpa using h2)
  .rw[if_neg h0];exact⟨fun g=>absurd g h0,fun g=>g 0 x p rfl rfl⟩
 | [],p::ps,h=>by simp at h
 | x::ss,[],h=>by simp at h
theorem Es:∀{ss:List Sh} {ps:List TyV},ps.length=ss.length->(FV ss ps=0↔∀(i:Nat) x p,ss[i]? = some x->ps[i]? = some p->CB x p=0)
 | [],[],_=>by simp[FV]
 | x::ss,p::ps,h=>by
  show(if CB x p=0 then FV ss ps else CB x p)=0↔_;have ih:=Es (ss:=ss) (ps:=ps) (by simpa using h);by_cases h0:CB x p=0
  .rw[if_pos h0,ih];constructor
   .intro g i y q h1 h2;cases i with
    | zero=>simp at h1 h2;rw[<- h1,<- h2];exact h0
    | succ i=>exact g i y q (by simpa using h1) (by simpa using h2)
   .intro g i y q h1 h2;exact g (i+1) y q (by simpa using h1) (by simpa using h2)
  .rw[if_neg h0];exact⟨fun g=>absurd g h0,fun g=>g 0 x p rfl rfl⟩
 | [],p::ps,h=>by simp at h
 | x::ss,[],h=>by simp at h
section
variable{l:List AK}{lv:AV}(hl:SlR Ah 3 l lv)(hsl:SmL 1048577 l)(hok:DOK l)
include hl hsl hok
def LW(s:Sh)(u:TyV):Int:=if A7 u=true then GM s u else 8
end
theorem c188{t:TyV}{xs:List AV}(hx:A4 t xs):∃ pv,SlR A4 3 t.ps pv/\∀ h,AH MX (AG MX) 188 [.agg xs] h=some (.ret pv,h):=by
 have hn:([AV.agg xs]:List AV).all AV.AA=true:=by simp[AV.AA,hx.AF]
 obtain⟨pv,rfl,hp⟩:=hx.AY;exact⟨pv,hp,fun h=>Ae ZE dK hn hp.AA (hr:=[Blk.var false [.str t.nm,.int .i64 t.v,pv]]) (by simp[AJ,f188]) h⟩
theorem c214(t:TyV):∀(xs:List AV) (d c:Int) (B:Blk) (G:AE),A4 t xs->Sm 1048577 t->0<=d->d<=41->0<=c->c<=200 ->
 ∃ G',AH MX (AG MX) 214 [.agg xs,.int .i64 d,.hp 2 0,.hp 1 0,.hp 3 0] (B::Blk.var false [AV.fn 188 [] []]::Blk.var false [AV.int .i64 c]::Blk.var false [AV.fn 214 [] [.hp 2 0,.hp 1 0,.hp 3 0]]::G) =
  some (.ret (.bool (lgT t d c).1),B::Blk.var false [AV.fn 188 [] []]::Blk.var false [AV.int .i64 (lgT t d c).2]::Blk.var false [AV.fn 214 [] [.hp 2 0,.hp 1 0,.hp 3 0]]::G'):=by
 induction t using TyV.ind with
 | h k v nm ps ih=>
  intro xs d c B G hx hs d0 d1 c0 c1;have h188:=c188 hx;obtain⟨rfl,pv,rfl,hp0⟩:=hx.dest;obtain⟨s1,s2,s3⟩:=hs.dest;obtain⟨pv2,hp,h188⟩:=h188;replace hp:SlR A4 3 ps pv2:=hp;have wc:wr .i64 (c+1)=c+1:=BU (by omega) (by omega);have wd:wr .i64 (d+1)=d+1:=BU (by omega) (by omega);have goal:∀ r G',AJ MX 214 [.agg [.str nm,.int .i64 v,pv],.int .i64 d,.hp 2 0,.hp 1 0,.hp 3 0] (B::Blk.var false [AV.fn 188 [] []]::Blk.var false [AV.int .i64 c]::Blk.var false [AV.fn 214 [] [.hp 2 0,.hp 1 0,.hp 3 0]]::G) =
   some (.ret (.bool r.1),B::Blk.var false [AV.fn 188 [] []]::Blk.var false [AV.int .i64 r.2]::Blk.var false [AV.fn 214 [] [.hp 2 0,.hp 1 0,.hp 3 0]]::G')->(lgT (.mk 0 v nm ps) d c)=r ->
   ∃ G',AH MX (AG MX) 214 [.agg [.str nm,.int .i64 v,pv],.int .i64 d,.hp 2 0,.hp 1 0,.hp 3 0] (B::Blk.var false [AV.fn 188 [] []]::Blk.var false [AV.int .i64 c]::Blk.var false [AV.fn 214 [] [.hp 2 0,.hp 1 0,.hp 3 0]]::G) =
    some (.ret (.bool (lgT (.mk 0 v nm ps) d c).1),B::Blk.var false [AV.fn 188 [] []]::Blk.var false [AV.int .i64 (lgT (.mk 0 v nm ps) d c).2]::Blk.var false [AV.fn 214 [] [.hp 2 0,.hp 1 0,.hp 3 0]]::G'):=fun r G' h e=>by
   rw[e];exact⟨G',CU ZN dU h⟩
  by_cases e1:200<c+1
  .exact goal (false,c+1) _ (by simp[AJ,f214,wc,e1] <;> rfl) (by simp[lgT,e1])
  .by_cases e2:40<d
   .exact goal (false,c+1) _ (by simp[AJ,f214,wc,e1,e2] <;> rfl) (by simp[lgT,e1,e2])
   .have e:lgT (.mk 0 v nm ps) d c=lgs ps (d+1) (c+1):=(by simp[lgT,e1,e2]);obtain⟨ee,st,hlp,hq⟩:=AQ (M:=MX) (fid:=214) (N:=33) (C:=AG MX) (c:=AL f214 0) (n:=ps.length)
     (fun i (b:Int×AE)=>([(1,.int .i64 d),(4,.hp 3 0),(20,pv2),(21,.int .i64 ps.length),(22,.int .i64 i)],B::Blk.var false [AV.fn 188 [] []]::Blk.var false [AV.int .i64 b.1]::Blk.var false [AV.fn 214 [] [.hp 2 0,.hp 1 0,.hp 3 0]]::b.2))
     (fun i b=>0<=b.1/\b.1<=200/\lgs ps (d+1) (c+1)=lgs (ps.drop i) (d+1) b.1)
     (fun r=>∃ b:Int×AE,(r=(.ext 0,([(1,.int .i64 d),(4,.hp 3 0),(20,pv2),(21,.int .i64 ps.length),(22,.int .i64 ps.length),(23,.bool false)],B::Blk.var false [AV.fn 188 [] []]::Blk.var false [AV.int .i64 b.1]::Blk.var false [AV.fn 214 [] [.hp 2 0,.hp 1 0,.hp 3 0]]::b.2))/\lgs ps (d+1) (c+1)=(true,b.1)) \/
       (r=(.ret,([(7,.bool false)],B::Blk.var false [AV.fn 188 [] []]::Blk.var false [AV.int .i64 b.1]::Blk.var false [AV.fn 214 [] [.hp 2 0,.hp 1 0,.hp 3 0]]::b.2))/\lgs ps (d+1) (c+1)=(false,b.1))) (fun i b hi hI=>by
       obtain⟨cc,G1⟩:=b;obtain⟨i0,i1,i2⟩:=hI;simp only at i0 i1 i2;obtain⟨e,he,hR⟩:=hp.ix hi;have hi':=Aa hi;have hw:=AZ hi s2;have hmem:=An hi;have hrec:=fun G=>ih ps[i] hmem e (d+1) cc B G hR (s3 _ hmem) (by omega) (by omega) i0 i1
       obtain⟨r1,r2,r3⟩:=Hz ps[i] (d+1) cc i0 i1;obtain⟨qv,rfl,hqv⟩:=hR.AY;obtain⟨G2,hcall⟩:=hrec (G1++[Blk.var false [AV.str ps[i].nm,AV.int .i64 ps[i].v,qv]]);have hdr:ps.drop i=ps[i]::ps.drop (i+1):=EJ hi;rw[hdr]at i2;simp only[lgs]at i2;cases hb:(lgT ps[i] (d+1) cc).1 with
       | true=>
        rw[hb]at hcall i2;exact .inl ⟨((lgT ps[i] (d+1) cc).2,G2),by simp[f214,hi',he,wd,hcall,hw],by simp only;omega,r3 hb,by simpa using i2⟩
       | false=>
        rw[hb]at hcall i2;exact .inr ⟨_,_,by simp[f214,hi',he,wd,hcall] <;> first | exact⟨rfl,rfl⟩ | rfl,by simp,((lgT ps[i] (d+1) cc).2,G2),.inr ⟨rfl,by simpa using i2⟩⟩) (fun b hI=>by
       obtain⟨cc,G1⟩:=b;obtain⟨i0,i1,i2⟩:=hI;rw[DD]at i2;exact⟨_,_,by simp[f214] <;> first | exact⟨rfl,rfl⟩ | rfl,by simp,(cc,G1),.inl ⟨rfl,i2⟩⟩) (c+1,G++[Blk.var false [AV.str nm,AV.int .i64 v,pv]]) ⟨by simp;omega,by simp;omega,by simp⟩
    simp[f214]at hlp;obtain⟨⟨cc,G1⟩,hq⟩:=hq;rcases hq with⟨hq,hz⟩ | ⟨hq,hz⟩ <;> cases hq
    .exact goal (true,cc) G1 (by simp[AJ,f214,wc,e1,e2,h188,hp.len,hlp]) (by rw[e,hz])
    .exact goal (false,cc) G1 (by simp[AJ,f214,wc,e1,e2,h188,hp.len,hlp]) (by rw[e,hz])
theorem c187{t:TyV}{xs:List AV}(hx:A4 t xs)(hs:Sm 1048577 t)(h:AE):AH MX (AG MX) 187 [.agg xs,.fn 188 [] []] h=some (.ret (.int .i64 (if A7 t then 0 else 8)),h):=by
 have hn:([AV.agg xs,.fn 188 [] []]:List AV).all AV.AA=true:=by simp[AV.AA,hx.AF,AF]
 have h214:=fun B G=>c214 t xs 1 0 B G hx hs (by decide) (by decide) (by decide) (by decide)
 obtain⟨pv,rfl,hp⟩:=hx.AY;obtain⟨G',hcall⟩:=h214 (Blk.var false [.str t.nm,.int .i64 t.v,pv]) [];rw[Og]at hcall;cases hT:A7 t <;> rw[hT]at hcall <;> exact Ae ZD dJ hn rfl (by simp[AJ,f187,hcall] <;> rfl) h
theorem eQ{α:Type}{R:α->List AV->Prop}{l:List α}{v:AV}(hv:SlR R 3 l v)(hl:l.length<1048577)(hR:∀ a e,R a e->e.length=3){g:FuncId}{cap:List AV}(hp:MX.prim g=none)(Inv:Nat->AE->Prop)(Out:Nat->Int->AE->Prop)
 (hstep:∀(i:Nat) (hi:i<l.length) e H,R l[i] e->Inv i H->∃ err H',AH MX (AG MX) g (.int .i64 i::.agg e::cap) (H++[Blk.var false e])=some (.ret (.int .i64 err),H')/\(err=0->Inv (i+1) H')/\(err≠0->Out i err H'))
 (H0:AE) (h0:Inv 0 H0):∃(i:Nat) (err:Int) (H':AE),AH MX (AG MX) 219 [v,.fn g [] cap] H0=some (.ret (.tup [.int .i64 i,.int .i64 err]),H')/\((err=0/\i=0/\Inv l.length H')\/(err≠0/\i<l.length/\Out i err H')):=by
 obtain⟨e,st,hlp,hq⟩:=AQ (M:=MX) (fid:=219) (N:=25) (C:=AG MX) (c:=AL f219 0) (n:=l.length)
  (fun i (b:AE)=>([(1,AV.fn g [] cap),(9,v),(10,.int .i64 l.length),(11,.int .i64 i)],b)) (fun i b=>Inv i b)
  (fun r=>∃ b:AE,(r=(.ext 0,([(1,AV.fn g [] cap),(9,v),(10,.int .i64 l.length),(11,.int .i64 l.length),(12,.bool false)],b))/\Inv l.length b)\/∃(i:Nat) (err:Int),r=(.ret,([(4,.int .i64 i),(5,.int .i64 err)],b))/\err≠0/\i<l.length/\Out i err b) (fun i b hi hI=>by
    obtain⟨e,he,hRe⟩:=hv.ix hi;have hi':=Aa hi;have hw:=AZ hi hl;have hle:=hR _ _ hRe;have ht:e.take 3=e:=DU (by omega);obtain⟨err,H',h1,h2,h3⟩:=hstep i hi e b hRe hI;by_cases hz:err=0
    .exact .inl ⟨H',by simp[f219,hi',he,hle,ht,hp,h1,hz,hw],h2 hz⟩
    .have hne:(err != 0)=true:=(by simp[hz]);exact .inr ⟨_,_,by simp[f219,hi',he,hle,ht,hp,h1,hne] <;> first | exact⟨rfl,rfl⟩ | rfl,by simp,H',.inr ⟨i,err,rfl,hz,hi,h3 hz⟩⟩) (fun b hI=>by
    exact⟨_,_,by simp[f219] <;> first | exact⟨rfl,rfl⟩ | rfl,by simp,b,.inl ⟨rfl,hI⟩⟩) H0 h0
 simp[f219]at hlp;obtain⟨b,hq⟩:=hq;rcases hq with⟨hq,hI⟩ | ⟨i,err,hq,h1,h2,h3⟩ <;> cases hq
 .exact⟨0,0,b,CU SV Vg (by simp[AJ,f219,hv.len,hlp]),.inl ⟨rfl,rfl,hI⟩⟩
 .exact⟨i,err,b,CU SV Vg (by simp[AJ,f219,hv.len,hlp]),.inr ⟨h1,h2,h3⟩⟩
def WW(H:AE)(w:AV)(es:List (List AV)):Prop:=(w=.AI/\es=[])\/w=.sl 3 true es\/∃ j,w=.hs j es.length 3 0 es.length false/\H[j]? = some (.arr 3 false es)
theorem WW.app{H:AE}{w:AV}{es:List (List AV)}(h:WW H w es)(X:AE):WW (H++X) w es:=by
 rcases h with h | h | ⟨j,h1,h2⟩
 .exact .inl h
 .exact .inr (.inl h)
 .exact .inr (.inr ⟨j,h1,Af h2 X⟩)
theorem WW.len{H:AE}{w:AV}{es:List (List AV)}(h:WW H w es)(G:AE):Bi w G=some (.val (.int .i64 es.length) G):=by
 rcases h with⟨rfl,rfl⟩ | rfl | ⟨j,rfl,_⟩ <;> rfl
theorem WW.row{H:AE}{w:AV}{es:List (List AV)}(h:WW H w es){i:Nat}(hi:i<es.length):∃ p,ixA 3 w (.int .i64 i)=some p/\∀ X,EK (H++X) p=some es[i]:=by
 rcases h with⟨rfl,rfl⟩ | rfl | ⟨j,rfl,h⟩
 .cases hi
 .exact⟨.ro es[i],ID _ _ _ _ .i64 hi,fun X=>rfl⟩
 .refine⟨.ep j es.length 3 i 0,by rw[ED (kd:=.i64) (hi:=hi),DW],fun X => ?_⟩;have:=Af h X;simp[Fp,this,Ay,hi]
theorem c247{H:AE}{b:Nat}{lk:Bool}{nm n:Bytes}{fv pv:AV}(hb:H[b]? = some (.var lk [.str nm])):AH MX (AG MX) 247 [.agg [.str n,fv,pv],.hp b 0] H=some (.ret (.bool (n == nm)),H++[.var false [.str n,fv,pv]]):=by
 have hb':=Af hb [Blk.var false [.str n,fv,pv]];exact BE Zb dj (by simp[AJ,f247,hb'])
theorem c246{H:AE}{w:AV}{es:List (List AV)}(hw:WW H w es){ns:List Bytes}(hes:es.length=ns.length)(hln:ns.length<1048577)(hrow:∀(k:Nat) e nm,es[k]? = some e->ns[k]? = some nm->∃ fv pv,e=[.str nm,fv,pv]){b:Nat}{lk:Bool}{nm:Bytes}(hb:H[b]? = some (.var lk [.str nm])) :
 ∃ X,AH MX (AG MX) 246 [w,.fn 247 [] [.hp b 0]] H=some (.ret (.int .i64 (ixI (ns.findIdx? (fun x=>x == nm)))),H++X):=by
 have hlen:=hw.len;rw[hes]at hlen;obtain⟨e,st,hlp,hq⟩:=AQ (M:=MX) (fid:=246) (N:=19) (C:=AG MX) (c:=AL f246 0) (n:=ns.length) (fun i (X:AE)=>([(0,w),(1,.fn 247 [] [.hp b 0]),(7,.int .i64 ns.length),(8,.int .i64 i)],H++X)) (fun i _=>∀ j (hj:j<ns.length),j<i->(fun x=>x == nm) ns[j]=false)
  (fun r=>∃ X:AE,(r=(.ext 0,([(0,w),(1,.fn 247 [] [.hp b 0]),(7,.int .i64 ns.length),(8,.int .i64 ns.length),(9,.bool false)],H++X))/\ns.findIdx? (fun x=>x == nm)=none)\/(∃ i:Nat,r=(.ret,([(4,.int .i64 i)],H++X))/\ns.findIdx? (fun x=>x == nm)=some i)) (fun i X hi hI=>by
    have hi':=Aa hi;have hwi:=AZ hi hln;have hie:i<es.length:=(by omega);obtain⟨p,hp,hrd⟩:=hw.row hie;obtain⟨fv,pv,he⟩:=hrow i _ _ (AO hie) (AO hi);rw[he]at hrd;have hcall:=c247 (n:=ns[i]) (fv:=fv) (pv:=pv) (Af hb X);have hrd':=hrd X;cases hx:(ns[i] == nm)with
    | true=>rw[hx]at hcall;exact .inr ⟨_,_,by simp[f246,hi',hp,hrd',hcall] <;> exact⟨rfl,rfl⟩,by simp,X++[.var false [.str ns[i],fv,pv]],.inr ⟨i,by simp,FH (p:=(fun x=>x == nm)) hi hI hx⟩⟩
    | false=>rw[hx]at hcall;exact .inl ⟨X++[.var false [.str ns[i],fv,pv]],by simp[f246,hi',hp,hrd',hcall,hwi],FJ (p:=(fun x=>x == nm)) hi hI hx⟩) (fun X hI=>by
    exact⟨_,_,by simp[f246] <;> exact⟨rfl,rfl⟩,by simp,X,.inl ⟨rfl,FI (p:=(fun x=>x == nm)) fun j hj=>hI j hj hj⟩⟩) [] (fun j _ h0=>by omega)
 simp[f246]at hlp;obtain⟨X,hq⟩:=hq;rcases hq with⟨hq,hs⟩ | ⟨i,hq,hs⟩ <;> cases hq <;> exact⟨X,BE Za di (by simp[AJ,f246,hlen,hlp,hs,ixI])⟩
theorem c218{H:AE}{id:Nat}{m:Int}{w:AV}{es:List (List AV)}(hid:H[id]? = some (.var false [.int .i64 m,w]))(hw:WW H w es){ns:List Bytes}(hes:es.length=ns.length)(hln:ns.length<1048577)(hrow:∀(k:Nat) e nm,es[k]? = some e->ns[k]? = some nm->∃ fv pv,e=[.str nm,fv,pv])(nm:Bytes) :
 ∃ X,AH MX (AG MX) 218 [.hp id 0,.str nm] H=some (.ret (.int .i64 (ixI (ns.findIdx? (fun x=>x == nm)))),H++X):=by
 obtain⟨X,hc⟩:=c246 (hw.app [Blk.var false [.str nm]]) hes hln hrow (b:=H.length) (lk:=false) (nm:=nm) (BD _ _);have hid':=Af hid [Blk.var false [.str nm]];exact⟨[.var false [.str nm]]++X,BE ZQ dX (by simp[AJ,f218,hid',hc])⟩
theorem GL.blk{n:Nat}{S:Nat->Prop}{H:AE}{v:AV}{s:Sh}(h:GL (n+1) S H v s):∃ id m w es,v=.hp id 0/\H[id]? = some (.var false [.int .i64 m,w])/\WW H w es /\
 match s with
 | .bit k=>m=k/\es=[]/\w=.AI
 | .cons ns ss=>w≠.AI/\es.length=ns.length/\ss.length=ns.length/\∀(k:Nat) e nm parts,es[k]? = some e->ns[k]? = some nm->ss[k]? = some parts->∃ fv pv,e=[.str nm,fv,pv]/\IQ (GL n S H) S H pv parts:=by
 cases s with
 | bit k=>
  obtain⟨id,rfl,_,h2⟩:=h;exact⟨id,k,.AI,[],rfl,h2,.inl ⟨rfl,rfl⟩,rfl,rfl,rfl⟩
 | cons ns ss=>
  obtain⟨id,rfl,_,w,es,h2,h3,h4,h5,h6⟩:=h;refine⟨id,0,w,es,rfl,h2,?_,?_,h3,h4,h6⟩
  .rcases h5 with h | ⟨j,_,h,hj⟩
   .exact .inr (.inl h)
   .exact .inr (.inr ⟨j,h,hj⟩)
  .rcases h5 with rfl | ⟨j,_,rfl,hj⟩ <;> intro e <;> cases e
theorem c220{n:Nat}{S:Nat->Prop}{G:AE}{b:Nat}{lk:Bool}{nm:Bytes}{fv pv:AV}{parts:List Sh}(hb:G[b]? = some (.var lk [.str nm,fv,pv]))(hP:IQ (GL n S G) S G pv parts){i:Nat}(hi:i<parts.length){u:TyV}{px:List AV}(hu:A4 u px){z:Int}(ih:∀ v,GL n S G v parts[i]->∃ X,AH MX (AG MX) 189 [v,.agg px] (G++[.var false px])=some (.ret (.int .i64 z),G++[.var false px]++X)) :
 ∃ X,AH MX (AG MX) 220 [.int .i64 i,.agg px,.hp b 0] G=some (.ret (.int .i64 z),G++X):=by
 have hb1:=W5;simp[Ab,Az,f220]at hb1;rcases hP with⟨rfl,rfl⟩ | ⟨q,ptrs,h0,h1,rfl,h3,h4,h5⟩
 .simp at hi
 .have hkp:i<ptrs.length:=by omega
  obtain⟨v,hv,hs⟩:=h5 i ptrs[i] parts[i] (AO hkp) (AO hi);have hpk:ptrs[i]? = some [v]:=by rw[AO hkp,hv]
  obtain⟨X,hc⟩:=ih v hs;have hix:ixA 1 (.hs q parts.length 1 0 parts.length false) (.int .i64 i)=some (.ep q parts.length 1 i 0):=by
   rw[ED (kd:=.i64) (hi:=hi),DW]
  have hb':=Af hb [Blk.var false px];have h3':=Af h3 [Blk.var false px];have hlast:=BD G (Blk.var false px);obtain⟨qv,rfl,hq⟩:=hu.AY;exact⟨[Blk.var false [.str u.nm,.int .i64 u.v,qv]]++X,BE ZS dY (by simp at hc;simp[AJ,f220,hb',AW hb',h3',AW h3',hix,h4,hpk,hlast,AW hlast,hc,hb1])⟩
theorem c189{l:List AK}(hd:DV l)(u:TyV):∀(px:List AV),A4 u px->Sm 1048577 u->∀(n:Nat) (s:Sh) (t:TyV) (S:Nat->Prop) (H:AE) (v:AV) (X:AE),(∀ x,S x->x<H.length)->GL n S H v s->DT l t s->VT l t ->
 ∃ X',AH MX (AG MX) 189 [v,.agg px] (H++X)=some (.ret (.int .i64 (GM s u)),H++X++X'):=by
 induction u using TyV.ind with
 | h k uv nm ps ih=>
  intro px hpx hsp n s t S H v X hS hs hsh hvt;obtain⟨s1,s2,s3⟩:=hsp.dest;cases n with
  | zero=>exact hs.elim
  | succ n=>
   have hsG:GL (n+1) S (H++X) v s:=GL.mono _ hs (fun _ h=>h) (fun x hx=>A9 (hS x hx));have hSG:∀ x,S x->x<(H++X).length:=fun x hx=>by have:=hS x hx;simp;omega
   generalize H++X=G at hsG hSG;clear hs hS X H;obtain⟨id,m,w,es,rfl,hid,hw,hsd⟩:=hsG.blk;obtain⟨rfl,qv,rfl,hq⟩:=hpx.dest;have hid':=Af hid [Blk.var false [.str nm,.int .i64 uv,qv]];have hw':=hw.app [Blk.var false [.str nm,.int .i64 uv,qv]];have hlast:=BD G (Blk.var false [.str nm,.int .i64 uv,qv]);have hlz:((ps.length:Int) == 0)=decide (ps.length=0):=by
    rw[Js];simp
   have hb2:=W3;simp[Ab,Az,Tryz.f189]at hb2;have hb7:=W4;simp[Ab,Az,Tryz.f189]at hb7;cases hsh with
   | bit _ hbt hwd _=>
    obtain⟨rfl,rfl,rfl⟩:=hsd;have h216:=(c216 hid').1 rfl;obtain⟨P,hP⟩:∃ P:Nat,P=2 ^ (BX t).v.toNat:=⟨_,rfl⟩;have hsl:=Vz _ hwd.1 hwd.2;have hPb:P<=65536:=by
     rw[hP];exact Cz (Lj (by decide) (show(BX t).v.toNat<=16 by omega)) (by decide)
    have hPp:0<P:=(by rw[hP];exact Nat.pow_pos (by decide));have e:GM (.bit (BX t).v) (.mk 0 uv nm ps)=Al [if(nm == [])=true then(if ps.length=0 then 0 else 3)else 3,if 0<=uv/\uv<=(P:Int) - 1 then 0 else 2]:=by
     simp only[GM,hP];cases h0:nm == [] <;> by_cases hp:ps.length=0 <;> simp[hp,Al]
    rw[e];rw[<- hP]at hsl;have hwp:wr .i64 ((P:Int) - 1)=(P:Int) - 1:=BU (by omega) (by omega);cases h0:nm == []with
    | true=>exact⟨_,BE IE JN (by simp[AJ,Tryz.f189,hq.len,hq.C5,hlz,h0,h216,PJ,hid',AW hid',hlast,hsl,hwp,hb2,bsA,Ag,List.replicate,AF,AV.AA] <;> rfl)⟩
    | false=>exact⟨_,BE IE JN (by simp[AJ,Tryz.f189,hq.len,hq.C5,hlz,h0,h216,PJ,hid',AW hid',hlast,hsl,hwp,hb2,bsA,Ag,List.replicate,AF,AV.AA] <;> rfl)⟩
   | cons _ ns ss hbt hk2 hn hln hsp' hf=>
    obtain⟨hwn,he1,he2,he3⟩:=hsd;have hco:=hd.con t hvt hk2 hbt;have hnl:ns.length=(AN l t).length:=(by rw[hn,FB]);have hcv:P4 w es.length:=by
     rcases hw with⟨h,_⟩ | h | ⟨j,h,_⟩
     .exact absurd h hwn
     .rw[h];exact .sl es
     .rw[h];exact .hs j _
    have h216:=(c216 hid').2 _ hcv;obtain⟨X1,h218⟩:=c218 hid' hw' he1 (by rw[hnl];have:=hco.1;omega) (fun k e nm' h1 h2=>by
     have hks:k<ss.length:=(by have:=(Ac.1 h2).1;omega);obtain⟨fv',pv',e,_⟩:=he3 k e nm' _ h1 h2 (AO hks);exact⟨fv',pv',e⟩) nm
    cases hfi:ns.findIdx? (fun x=>x == nm)with
    | none=>
     rw[hfi]at h218;simp[ixI]at h218;have e:GM (.cons ns ss) (.mk 0 uv nm ps)=6:=(by simp[GM,hfi]);rw[e];exact⟨_,BE IE JN (by simp[AJ,Tryz.f189,h216,h218] <;> rfl)⟩
    | some i=>
     rw[hfi]at h218;simp only[ixI]at h218;have hin:=Gh hfi;have his:i<ss.length:=(by omega);have hie:i<es.length:=(by omega);have hic:i<(AN l t).length:=(by omega);obtain⟨rf,rv,hrow,hP⟩:=he3 i es[i] ns[i] ss[i] (AO hie) (AO hin) (AO his);have hei:es[i]? = some [.str ns[i],rf,rv]:=(by rw[AO hie,hrow]);obtain⟨hpl1,hpl2,hpl3⟩:=hP.len;have hgd:ss[i]?.getD []=ss[i]:=(by simp[his]);have hsl:=hsp' i _ _ (AO hic) (AO his);have hni:¬ ((i:Int)<0):=(by omega);let B:=Blk.var false [.str nm,.int .i64 uv,qv];let R:=Blk.var false [.str ns[i],rf,rv];have hidX:=Af hid ([B]++X1);have hlX:(G++([B]++X1))[G.length]? = some B:=by
      rw[En (Cd _)];simp
     have hlX2:(G++([B]++(X1++[R])))[G.length]? = some B:=by
      rw[En (Cd _)];simp
     have hRX:(G++([B]++(X1++[R])))[G.length+(X1.length+1)]? = some R:=by
      rw[En (by omega)];simp
     have e:GM (.cons ns ss) (.mk 0 uv nm ps)=if uv≠0 then 3 else if ps.length≠ss[i].length then 10 else IU ss[i] ps:=by simp[GM,hfi,hgd]
     rw[e];simp only[B,R,Ej,Ev]at hidX hlX hlX2 hRX;have pre:∀(z:Int) (T:AE),((uv≠0/\z=3/\T=X1++[R])\/(uv=0/\ps.length≠ss[i].length/\z=10/\T=X1++[R])\/(uv=0/\ps.length=ss[i].length/\∃ j:Int,AH MX (AG MX) 219 [qv,.fn 220 [] [.hp (G.length+(X1.length+1)) 0]] (G++Blk.var false [.str nm,.int .i64 uv,qv]::(X1++[Blk.var false [.str ns[i],rf,rv]]))=some (.ret (.tup [.int .i64 j,.int .i64 z]),G++Blk.var false [.str nm,.int .i64 uv,qv]::T))) ->
      AJ MX 189 [.hp id 0,.agg [.str nm,.int .i64 uv,qv]] G=some (.ret (.int .i64 z),G++Blk.var false [.str nm,.int .i64 uv,qv]::T):=by
      intro z T hz;rcases hw with⟨rfl,rfl⟩ | rfl | ⟨j,rfl,hj⟩
      .cases hie
      .have hixw:ixA 3 (.sl 3 true es) (.int .i64 i)=some (.ro [.str ns[i],rf,rv]):=(by rw[ID _ _ _ _ .i64 hie,hrow]);rcases hz with⟨h1,rfl,rfl⟩ | ⟨h1,h2,rfl,rfl⟩ | ⟨h1,h2,j2,h3⟩
       .have u0:(uv == 0)=false:=(by simp[h1]);cases hpb:((ps.length:Int) == (ss[i].length:Int)) <;> simp[AJ,Tryz.f189,h216,h218,hni,hidX,AW hidX,hlX,AW hlX,hlX2,AW hlX2,hRX,AW hRX,hixw,hpl1,hpl2,hpb,hq.len,hq.C5,u0,hb7,Al,bsA,Ag,List.replicate,AF,AV.AA,R]
       .have u0:(uv == 0)=true:=(by simp[h1]);have hpb:((ps.length:Int) == (ss[i].length:Int))=false:=(by rw[beq_eq_false_iff_ne];omega);simp[AJ,Tryz.f189,h216,h218,hni,hidX,AW hidX,hlX,AW hlX,hlX2,AW hlX2,hRX,AW hRX,hixw,hpl1,hpl2,hpb,hq.len,hq.C5,u0,hb7,Al,bsA,Ag,List.replicate,AF,AV.AA,R]
       .have u0:(uv == 0)=true:=(by simp[h1]);have hpb:((ps.length:Int) == (ss[i].length:Int))=true:=(by rw[beq_iff_eq];omega);simp[AJ,Tryz.f189,h216,h218,hni,hidX,AW hidX,hlX,AW hlX,hlX2,AW hlX2,hRX,AW hRX,hixw,hpl1,hpl2,hpb,hq.len,hq.C5,u0,hb7,Al,bsA,Ag,List.replicate,AF,AV.AA,h3]
      .have hixw:ixA 3 (.hs j es.length 3 0 es.length false) (.int .i64 i)=some (.ep j es.length 3 i 0):=(by rw[ED (kd:=.i64) (hi:=hie),DW]);have hjX:=Af hj ([B]++X1);simp only[B,Ej,Ev]at hjX;rcases hz with⟨h1,rfl,rfl⟩ | ⟨h1,h2,rfl,rfl⟩ | ⟨h1,h2,j2,h3⟩
       .have u0:(uv == 0)=false:=(by simp[h1]);cases hpb:((ps.length:Int) == (ss[i].length:Int)) <;> simp[AJ,Tryz.f189,h216,h218,hni,hidX,AW hidX,hlX,AW hlX,hlX2,AW hlX2,hRX,AW hRX,hixw,hjX,AW hjX,hei,hpl1,hpl2,hpb,hq.len,hq.C5,u0,hb7,Al,bsA,Ag,List.replicate,AF,AV.AA,R]
       .have u0:(uv == 0)=true:=(by simp[h1]);have hpb:((ps.length:Int) == (ss[i].length:Int))=false:=(by rw[beq_eq_false_iff_ne];omega);simp[AJ,Tryz.f189,h216,h218,hni,hidX,AW hidX,hlX,AW hlX,hlX2,AW hlX2,hRX,AW hRX,hixw,hjX,AW hjX,hei,hpl1,hpl2,hpb,hq.len,hq.C5,u0,hb7,Al,bsA,Ag,List.replicate,AF,AV.AA,R]
       .have u0:(uv == 0)=true:=(by simp[h1]);have hpb:((ps.length:Int) == (ss[i].length:Int))=true:=(by rw[beq_iff_eq];omega);simp[AJ,Tryz.f189,h216,h218,hni,hidX,AW hidX,hlX,AW hlX,hlX2,AW hlX2,hRX,AW hRX,hixw,hjX,AW hjX,hei,hpl1,hpl2,hpb,hq.len,hq.C5,u0,hb7,Al,bsA,Ag,List.replicate,AF,AV.AA,h3]
     by_cases hu0:uv=0
     .rw[if_neg (fun h=>h hu0)];by_cases hpl:ps.length=ss[i].length
      .rw[if_neg (fun h=>h hpl)];let K:=G++Blk.var false [.str nm,.int .i64 uv,qv]::(X1++[Blk.var false [.str ns[i],rf,rv]]);obtain⟨i',err,H',hc,hres⟩:=eQ hq s2 (fun a e h=>by obtain⟨q,rfl,_⟩:=h.AY;rfl) (g:=220) (cap:=[.hp (G.length+(X1.length+1)) 0]) ZR
        (fun j Hh=>∃ T,Hh=K++T/\IU ss[i] ps=IU (ss[i].drop j) (ps.drop j)) (fun j err Hh=>∃ T,Hh=K++T/\err=IU ss[i] ps) (fun j hj e Hh hR hI=>by
          obtain⟨T,rfl,hT⟩:=hI;have hj2:j<ss[i].length:=(by omega);have hjf:j<(AN l t)[i].fields.length:=(by omega);rw[Ub hj hj2]at hT;have hSK:∀ x,S x->(K++T++[Blk.var false e])[x]? = G[x]? := fun x hx=>by
           show(G++_++T++_)[x]? = _;rw[CO,CO];exact A9 (hSG x hx)
          have hKb:(K++T++[Blk.var false e])[G.length+(X1.length+1)]? = some (.var false [.str ns[i],rf,rv]):=by
           have hKl:K.length=G.length+(X1.length+2):=(by simp[K]);rw[CO,A9 (by omega)];exact hRX
          obtain⟨X',h220⟩:=c220 (z:=GM ss[i][j] ps[j]) hKb (hP.mono (fun v s h=>GL.mono n h (fun _ h=>h) hSK) (fun _ h=>h) hSK) hj2 hR (fun v hv=>by
           have h1:=hf i _ _ j _ _ (AO hic) (AO his) (AO hjf) (AO hj2);exact ih ps[j] (An hj) e hR (s3 _ (An hj)) n ss[i][j] _ S _ v [Blk.var false e] (fun x hx=>by have:=hSG x hx;simp[K];omega) hv h1 (hd.dok.fld t hvt hk2 hbt _ (An hic) _ (An hjf)))
          refine⟨_,_,h220,fun hz=>⟨T++([Blk.var false e]++X'),by simp,?_⟩,fun hz=>⟨T++([Blk.var false e]++X'),by simp,?_⟩⟩
          .rw[if_pos hz]at hT;exact hT
          .rw[if_neg hz]at hT;exact hT.symm) K ⟨[],by simp,by simp⟩
       rcases hres with⟨rfl,rfl,T,rfl,hT⟩ | ⟨hne,_,T,rfl,hT⟩
       .rw[DD]at hT;have hT0:IU ss[i] ps=0:=(by rw[hT];simp[IU]);rw[hT0];refine⟨Blk.var false [.str nm,.int .i64 uv,qv]::((X1++[R])++T),BE IE JN (pre _ _ (.inr (.inr ⟨hu0,hpl,((0:Nat):Int),?_⟩)))⟩;rw[hc];simp[K,R]
       .rw[<- hT];refine⟨Blk.var false [.str nm,.int .i64 uv,qv]::((X1++[R])++T),BE IE JN (pre _ _ (.inr (.inr ⟨hu0,hpl,(i':Int),?_⟩)))⟩;rw[hc];simp[K,R]
      .rw[if_pos hpl];exact⟨_,BE IE JN (pre _ _ (.inr (.inl ⟨hu0,hpl,rfl,rfl⟩)))⟩
     .rw[if_pos hu0];exact⟨_,BE IE JN (pre _ _ (.inl ⟨hu0,rfl,rfl⟩))⟩
section
variable{l:List AK}{lv:AV}(hl:SlR Ah 3 l lv)(hsl:SmL 1048577 l)
include hl hsl
theorem c174b{t:TyV}{xs:List AV}(hx:AU t xs)(hst:Sm 1048577 t)(hz:DM l t=0)(H:AE) :
 ∃ v H',AH MX (AG MX) 174 [lv,.agg xs] H=some (.ret (.tup [v,.agg [lv,.AI],.int .i64 0]),H')/\(∀ x,x<H.length->H'[x]? = H[x]?)/\H.length<=H'.length/\∃ n S,(∀ x,S x->x<H'.length)/\GL n S H' v (CE l t):=by
 obtain⟨hD,hv,hs⟩:=GK hz;have hd:=He hD;have hz2:=hz;unfold DM at hz2;rw[if_pos hD]at hz2;unfold Fw at hz2;have hT:Bp l [] t=0:=by
  by_cases h:Bp l [] t=0
  .exact h
  .rw[if_neg h]at hz2;exact absurd hz2 h
 rw[if_pos hT]at hz2;have hE:(EX l 40 t 0).2=0:=by
  by_cases h:(EX l 40 t 0).2=0
  .exact h
  .rw[if_neg h]at hz2;exact absurd hz2 h
 rw[if_pos hE]at hz2;have hW:1<=shW (CE l t)/\shW (CE l t)<=16:=by
  by_cases h:1<=shW (CE l t)/\shW (CE l t)<=16
  .exact h
  .rw[if_neg h]at hz2;cases hz2
 have h193:=c193 hl hsl;have hb12:=OZ;simp[Ab,Az,f174]at hb12;have h194:=fun h=>c194 hl hsl.1 (params:=[]) (pr:=.AI) (.inl ⟨rfl,rfl⟩) (by simp) (fun d hdm=>(hsl.2 d hdm).2.1) hd.nms hx hst h
 have h195:=c195 hl hsl hd 40 (by omega);rw[show(41 - ((40:Nat):Int))=1 from rfl]at h195;have hx0:=hx;obtain⟨pv,rfl,hp⟩:=hx.AY;let G:=H++[Blk.var false [.int .i64 t.k,.int .i64 t.v,.str t.nm,pv],Blk.var false [.AI,.AI],Blk.var false [lv,.AI],Blk.var false [.int .i64 0]];have hc:G[H.length+3]? = some (.var false [.int .i64 0]):=by simp[G]
 obtain⟨v,H',hcall,hlen,hold,hpost⟩:=h195 t _ hx0 hst hv G 0 (H.length+3) hc (by omega) (by omega);have hGl:G.length=H.length+4:=by simp[G]
 have r7:H'[H.length+2]? = some (.var false [lv,.AI]):=by rw[hold _ (by omega) (by omega)];simp[G]
 have r5:H'[H.length+1]? = some (.var false [.AI,.AI]):=by rw[hold _ (by omega) (by omega)];simp[G]
 simp only[G]at hcall;obtain⟨g1,g3⟩:=hpost hE;generalize CE l t=s at hs g3 hW;obtain⟨X,hw⟩:=c197 hd 41 s t _ H' v [] (fun x hx=>hx.2) g3 hs hv;rw[Hg]at hw;obtain⟨id,hid⟩:=g3.hp;have r7':=Af r7 X;have r5':=Af r5 X;have m1:((H.length+2)∈Da 0 (H'++X) ((H'++X).set (H.length+1) (.var false [lv,.AI])))=False:=E6 (by simp;omega) (by rw[BP (by omega)]);have r5'':((H'++X).set (H.length+1) (.var false [lv,.AI]))[H.length+1]? = some (.var false [lv,.AI]):=CM (by simp;omega);rw[hE]at hcall;have hkeep:∀ x,x<H'.length->x≠H.length+1->((H'++X).set (H.length+1) (.var false [lv,.AI]))[x]? = H'[x]? := fun x h1 h2=>by
  rw[BP (fun e=>h2 e.symm),A9 h1]
 refine⟨v,(H'++X).set (H.length+1) (.var false [lv,.AI]),BE KI L8 ?_,fun x hx => ?_,by simp;omega,_,_,fun x hx => ?_,GL.mono _ g3 (fun _ h=>h) (fun x hx=>hkeep x hx.2 (by have:=hx.1;omega))⟩
 .subst hid;have hWd:decide (1<=shW s/\shW s<=16)=true:=by simp[hW]
  simp[AJ,f174,h193,hD,h194,hT,hcall,hw,PJ,hWd,hW,r7',r5',AW r7',AW r5',m1,r5'',AW r5'',hl.cells,hb12,bsA,Ag,List.replicate,AF,AV.AA]
 .rw[hkeep x (by omega) (by omega),hold x (by omega) (by omega)];exact A9 hx
 .have:=hx.2;simp;omega
noncomputable def LX(l:List AK)(t u:TyV):Int:=if DM l t=0 then LW (CE l t) u else DM l t
theorem c159{t:TyV}{xs:List AV}(hx:AU t xs)(hst:Sm 1048577 t){u:TyV}{ys:List AV}(hu:A4 u ys)(hsu:Sm 1048577 u)(H:AE) :
 ∃ v H',AH MX (AG MX) 159 [lv,.agg xs,.agg ys] H=some (.ret (.tup [v,.int .i64 (LX l t u)]),H'):=by
 have h187:=c187 hu hsu;have hu0:=hu;unfold LX;by_cases hz:DM l t=0
 .rw[if_pos hz];obtain⟨hD,hv,hs⟩:=GK hz;have hd:=He hD;obtain⟨v,H1,h174,hold,hlen,n,S,hS,hsh⟩:=c174b hl hsl hx hst hz (H++[.var false xs,.var false ys]);have hb:H1[H.length+1]? = some (.var false ys):=by rw[hold _ (by simp)];simp
  have hb2:=Af hb [Blk.var false [lv,.AI]];obtain⟨X,h189⟩:=c189 hd u ys hu hsu n _ t S H1 v [Blk.var false [lv,.AI]] hS hsh hs hv;obtain⟨id,rfl⟩:=hsh.hp;obtain⟨pv,rfl,hp⟩:=hx.AY;obtain⟨qv,rfl,hq⟩:=hu.AY;unfold LW;cases hT:A7 u with
  | true=>
   rw[hT]at h187;simp at h187 h189;exact⟨_,_,BE OT Qv (by simp[AJ,f159,h174,hl.cells,h187,hb2,AW hb2,h189] <;> exact⟨rfl,rfl⟩)⟩
  | false=>
   rw[hT]at h187;simp at h187;exact⟨_,_,BE OT Qv (by simp[AJ,f159,h174,hl.cells,h187,hb2,AW hb2] <;> exact⟨rfl,rfl⟩)⟩
 .rw[if_neg hz];obtain⟨v,H1,h174⟩:=c174 hl hsl hx hst (H++[.var false xs,.var false ys]);have hzb:(DM l t == 0)=false:=by simp[hz]
  obtain⟨pv,rfl,hp⟩:=hx.AY;obtain⟨qv,rfl,hq⟩:=hu.AY;exact⟨_,_,BE OT Qv (by simp[AJ,f159,h174,hl.cells,hzb] <;> exact⟨rfl,rfl⟩)⟩
theorem c95{t:TyV}{xs:List AV}(hx:AU t xs)(hst:Sm 1048577 t){u:TyV}{ys:List AV}(hu:A4 u ys)(hsu:Sm 1048577 u)(h:AE):AH MX (AG MX) 95 [lv,.agg xs,.agg ys] h=some (.ret (.int .i64 (LX l t u)),h):=by
 have hn:([lv,AV.agg xs,AV.agg ys]:List AV).all AV.AA=true:=by simp[AV.AA,hx.AF,hl.AA,hu.AF]
 obtain⟨v,H',hc⟩:=c159 hl hsl hx hst hu hsu [.var false xs,.var false ys];obtain⟨pv,rfl,hp⟩:=hx.AY;obtain⟨qv,rfl,hq⟩:=hu.AY;exact Ae cI iL hn rfl (hr:=_) (by simp[AJ,f95,hc] <;> rfl) h
end
theorem c63{k:EM}{xs:List AV}(hx:D5 k xs)(hsk:SmT 1048577 k)(H:AE):∃ v H',AH MX (AG MX) 63 [.agg xs] H=some (.ret (.tup [v,.int .i64 (A8 k.data k.ty k.arms).2]),H')/\(∀ x,x<H.length->H'[x]? = H[x]?)/\((A8 k.data k.ty k.arms).2=0->∃ n S,(∀ x,S x->x<H'.length)/\BT n S H' v (CE k.data k.ty)):=by
 obtain⟨dv,pv,av,rfl,hd,hp,ht,ha⟩:=hx.dest;obtain⟨s1,s2,s3,s4⟩:=hsk;obtain⟨v,H',hc,hold,hok⟩:=c79 hd s1 ht s2 ha s3 s4 (H++[.var false [dv,.int .i64 k.ty.k,.int .i64 k.ty.v,.str k.ty.nm,pv,av]]);exact⟨v,H',BE bx gz (by simp[AJ,f63,hc]),fun x hx=>by rw[hold x (by simp;omega)];exact A9 hx,hok⟩
theorem c12{k:EM}{xs:List AV}(hx:D5 k xs)(hsk:SmT 1048577 k)(h:AE):AH MX (AG MX) 12 [.agg xs] h=some (.ret (.int .i64 (A8 k.data k.ty k.arms).2),h):=by
 have h32:=c32 hx hsk (okF k.data);obtain⟨dv,pv,av,rfl,hd,hp,ht,ha⟩:=hx.dest;exact Ae U3 gk (by simp[AV.AA,AF,hd.AA,hp.AA,ha.AA]) rfl (hr:=_) (by simp[AJ,Tryz.f12,h32] <;> rfl) h
noncomputable def Ij(k:EM)(u:TyV):Int:=if(A8 k.data k.ty k.arms).2=0 then LX k.data k.ty u else(A8 k.data k.ty k.arms).2
theorem c93{k:EM}{xs:List AV}(hx:D5 k xs)(hsk:SmT 1048577 k){u:TyV}{ys:List AV}(hu:A4 u ys)(hsu:Sm 1048577 u)(h:AE):AH MX (AG MX) 93 [.agg xs,.agg ys] h=some (.ret (.int .i64 (Ij k u)),h):=by
 obtain⟨v,H',h63,hold,_⟩:=c63 hx hsk [.var false xs,.var false ys];have hb0:H'[0]? = some (.var false xs):=hold 0 (by simp);have hb1:H'[1]? = some (.var false ys):=hold 1 (by simp);have hyn:=hu.AF;obtain⟨dv,pv,av,rfl,hd,hp,ht,ha⟩:=hx.dest;obtain⟨s1,s2,s3,s4⟩:=hsk;have h95:=c95 hd s1 ht s2 hu hsu;have hn:([AV.agg [dv,.int .i64 k.ty.k,.int .i64 k.ty.v,.str k.ty.nm,pv,av],AV.agg ys]:List AV).all AV.AA=true:=by simp[AV.AA,AF,hd.AA,hp.AA,ha.AA,hyn]
 obtain⟨qv,rfl,hq⟩:=hu.AY;unfold Ij;by_cases hz:(A8 k.data k.ty k.arms).2=0
 .rw[if_pos hz];rw[hz]at h63;exact Ae VF Yd hn rfl (hr:=_) (by simp[AJ,f93,h63,hb0,AW hb0,hb1,AW hb1,h95] <;> rfl) h
 .rw[if_neg hz];have hzb:((A8 k.data k.ty k.arms).2 != 0)=true:=by simp[hz]
  exact Ae VF Yd hn rfl (hr:=_) (by simp[AJ,f93,h63,hzb] <;> rfl) h
theorem XL{ns:List Bytes}{ss:List (List Sh)}{k v:Int}{nm:Bytes}{ps:List TyV}(h:GM (.cons ns ss) (.mk k v nm ps)=0):∃ i,ns.findIdx? (fun x=>x == nm)=some i/\v=0/\ps.length=(ss.getD i []).length/\IU (ss.getD i []) ps=0:=by
 simp only[GM]at h;split at h
 .cases h
 .rename_i i hi;refine⟨i,hi,?_⟩;by_cases h1:v=0
  .rw[if_neg (fun g=>g h1)]at h;by_cases h2:ps.length=(ss.getD i []).length
   .rw[if_neg (fun g=>g h2)]at h;exact⟨h1,h2,h⟩
   .rw[if_pos h2]at h;cases h
  .rw[if_pos h1]at h;cases h
theorem aO{n k v:Int}{nm:Bytes}{ps:List TyV}(h:GM (.bit n) (.mk k v nm ps)=0):nm=[]/\ps=[]/\0<=v/\v<=((2 ^ n.toNat:Nat):Int) - 1:=by
 simp only[GM]at h;by_cases h1:(nm == [])=true/\ps.length=0
 .rw[if_pos h1]at h;by_cases h2:0<=v/\v<=((2 ^ n.toNat:Nat):Int) - 1
  .exact⟨beq_iff_eq.1 h1.1,EH h1.2,h2.1,h2.2⟩
  .rw[if_neg h2]at h;cases h
 .rw[if_neg h1]at h;cases h
theorem Hs{s:Sh}{k v:Int}{nm:Bytes}{ps:List TyV}(h:CB s (.mk k v nm ps)=0) :
 (k=0/\ps=[])\/(k=1/\ps=[])\/(k=3/\ps=[]/\∃ n,s=.bit n)\/(k=2/\∃ ns ss i,s=.cons ns ss/\ns.findIdx? (fun x=>x == nm)=some i/\ps.length=(ss.getD i []).length/\FV (ss.getD i []) ps=0):=by
 have hnil:¬ 0<ps.length->ps=[]:=fun h=>EH (by omega)
 simp only[CB]at h;by_cases k0:k=0
 .rw[if_pos k0]at h;by_cases hp:0<ps.length
  .rw[if_pos hp]at h;cases h
  .exact .inl ⟨k0,hnil hp⟩
 .rw[if_neg k0]at h;by_cases k1:k=1
  .rw[if_pos k1]at h;by_cases hp:0<ps.length
   .rw[if_pos hp]at h;cases h
   .exact .inr (.inl ⟨k1,hnil hp⟩)
  .rw[if_neg k1]at h;by_cases k3:k=3
   .rw[if_pos k3]at h;cases s with
    | bit n=>
     simp only at h;by_cases hp:0<ps.length
     .rw[if_pos hp]at h;cases h
     .exact .inr (.inr (.inl ⟨k3,hnil hp,n,rfl⟩))
    | cons ns ss=>cases h
   .rw[if_neg k3]at h;by_cases k2:k=2
    .rw[if_pos k2]at h;cases s with
     | bit n=>cases h
     | cons ns ss=>
      simp only at h;split at h
      .cases h
      .rename_i i hi;by_cases hl:ps.length=(ss.getD i []).length
       .rw[if_neg (fun g=>g hl)]at h;exact .inr (.inr (.inr ⟨k2,ns,ss,i,rfl,hi,hl,h⟩))
       .rw[if_pos hl]at h;cases h
    .rw[if_neg k2]at h;cases h
theorem XM{s:Sh}{v:Int}{nm:Bytes}{ps:List TyV}{u:TyV}(hp:CB s (.mk 2 v nm ps)=0)(hu:GM s u=0)(hn:u.nm=nm):∃ xs:List Sh,ps.length=xs.length/\u.ps.length=xs.length/\(∀(i:Nat) x p,xs[i]? = some x->ps[i]? = some p->CB x p=0)/\∀(i:Nat) x p,xs[i]? = some x->u.ps[i]? = some p->GM x p=0:=by
 rcases Hs hp with⟨h,_⟩ | ⟨h,_⟩ | ⟨h,_⟩ | ⟨_,ns,ss,i,rfl,h1,h2,h3⟩
 .cases h
 .cases h
 .cases h
 .cases u with
  | mk k uv unm ups=>
   have hn:unm=nm:=hn;subst hn;obtain⟨j,g1,g2,g3,g4⟩:=XL hu;rw[h1]at g1;cases g1;exact⟨ss.getD i [],h2,g3,(Es h2).1 h3,(LV g3).1 g4⟩
theorem c91(p:TyV):∀(u:TyV) (s:Sh) (xs ys:List AV),AU p xs->A4 u ys->Sm 1048577 p->CB s p=0->GM s u=0->∀ h,AH MX (AG MX) 91 [.agg xs,.agg ys] h=some (.ret (.bool (C6 p u)),h):=by
 induction p using TyV.ind with
 | h k v nm ps ih=>
  intro u s xs ys hx hy hs hpe hve h;have hn:([AV.agg xs,.agg ys]:List AV).all AV.AA=true:=by simp[AV.AA,hx.AF,hy.AF]
  obtain⟨s1,s2,s3⟩:=hs.dest;have hb:=Zv;simp[Ab,Az,f91]at hb;obtain⟨pv,rfl,hp⟩:=hx.dest;obtain⟨qv,rfl,hq⟩:=hy.AY
  suffices hh:∃ hr,AJ MX 91 [.agg [.int .i64 k,.int .i64 v,.str nm,pv],.agg [.str u.nm,.int .i64 u.v,qv]] []=some (.ret (.bool (C6 (.mk k v nm ps) u)),hr) by
   obtain⟨hr,hh⟩:=hh;exact Ae cH iK hn rfl hh h
  simp only[C6];rcases Hs hpe with⟨rfl,rfl⟩ | ⟨rfl,rfl⟩ | ⟨rfl,rfl,n,rfl⟩ | ⟨rfl,_⟩
  .exact⟨_,by simp[AJ,f91] <;> rfl⟩
  .exact⟨_,by simp[AJ,f91] <;> rfl⟩
  .have hun:u.nm=[]:=(by cases u;exact(aO hve).1);have hvb:decide (u.v=v)=(v == u.v):=(by rw[Js];simp;exact eq_comm);rw[hun,hvb];exact⟨_,by simp[AJ,f91] <;> rfl⟩
  .have k3:¬ ((2:Int)=3):=(by decide);rw[if_neg k3,if_pos rfl];cases h0:u.nm == nm with
   | false=>
    have h0':(nm == u.nm)=false:=(by rw[beq_eq_false_iff_ne]at h0 ⊢;exact fun e=>h0 e.symm);by_cases hl0:ps.length=0
    .have e0:ps=[]:=EH hl0;subst e0;obtain⟨e,st,hlp,hq'⟩:=AQ (M:=MX) (fid:=91) (N:=48) (C:=AG MX) (c:=AL f91 0) (n:=0) (fun i (_:Unit)=>([(2,.hp 0 0),(3,.hp 1 0),(19,.int .i64 (0:Nat)),(20,.int .i64 i)],[.var false [.int .i64 2,.int .i64 v,.str nm,pv],.var false [.str u.nm,.int .i64 u.v,qv]])) (fun _ _=>True)
      (fun r=>r=(.ext 1,([(2,.hp 0 0),(3,.hp 1 0),(19,.int .i64 (0:Nat)),(20,.int .i64 (0:Nat)),(21,.bool false)],[.var false [.int .i64 2,.int .i64 v,.str nm,pv],.var false [.str u.nm,.int .i64 u.v,qv]]))) (fun i b hi _=>by omega) (fun b _=>by
        exact⟨_,_,by simp[f91] <;> first | exact⟨rfl,rfl⟩ | rfl,by simp,rfl⟩) () trivial
     cases hq';simp[f91]at hlp;have hpl:∀ h,Bi pv h=some (.val (.int .i64 0) h):=fun h=>hp.len h
     exact⟨_,by simp[AJ,f91,hpl,hlp,h0'] <;> rfl⟩
    .obtain⟨e,st,hlp,hq'⟩:=AQ (M:=MX) (fid:=91) (N:=48) (C:=AG MX) (c:=AL f91 0) (n:=ps.length) (fun i (_:Unit)=>([(2,.hp 0 0),(3,.hp 1 0),(19,.int .i64 ps.length),(20,.int .i64 i)],[.var false [.int .i64 2,.int .i64 v,.str nm,pv],.var false [.str u.nm,.int .i64 u.v,qv]])) (fun i _=>i=0)
      (fun r=>r=(.ret,([(4,.bool false)],[.var false [.int .i64 2,.int .i64 v,.str nm,pv],.var false [.str u.nm,.int .i64 u.v,qv]]))) (fun i b hi hI=>by
        subst hI;have hi':(0:Int)<(ps.length:Int):=(by omega);have hi'':0<ps.length:=hi;exact .inr ⟨_,_,by simp[f91,hi',hi'',h0',hb] <;> first | exact⟨rfl,rfl⟩ | rfl,by simp,rfl⟩) (fun b hI=>absurd hI hl0) () rfl
     cases hq';simp[f91]at hlp;exact⟨_,by simp[AJ,f91,hp.len,hlp] <;> rfl⟩
   | true=>
    have hun:=beq_iff_eq.1 h0;have h0':(nm == u.nm)=true:=(by rw[hun];exact beq_self_eq_true nm);obtain⟨zs,l1,l2,g1,g2⟩:=XM hpe hve hun;have h3:u.ps.length=ps.length:=(by omega);have d3:decide (u.ps.length=ps.length)=true:=decide_eq_true h3;obtain⟨e,st,hlp,hq'⟩:=AQ (M:=MX) (fid:=91) (N:=48) (C:=AG MX) (c:=AL f91 0) (n:=ps.length) (fun i (_:Unit)=>([(2,.hp 0 0),(3,.hp 1 0),(19,.int .i64 ps.length),(20,.int .i64 i)],[.var false [.int .i64 2,.int .i64 v,.str nm,pv],.var false [.str u.nm,.int .i64 u.v,qv]]))
     (fun i _=>HC ps u.ps=HC (ps.drop i) (u.ps.drop i))
     (fun r=>(r=(.ext 1,([(2,.hp 0 0),(3,.hp 1 0),(19,.int .i64 ps.length),(20,.int .i64 ps.length),(21,.bool false)],[.var false [.int .i64 2,.int .i64 v,.str nm,pv],.var false [.str u.nm,.int .i64 u.v,qv]]))/\HC ps u.ps=true)\/(r=(.ret,([(4,.bool false)],[.var false [.int .i64 2,.int .i64 v,.str nm,pv],.var false [.str u.nm,.int .i64 u.v,qv]]))/\HC ps u.ps=false)) (fun i b hi hI=>by
       obtain⟨e,he,hR⟩:=hp.ix hi;have hiu:i<u.ps.length:=(by omega);have hiz:i<zs.length:=(by omega);obtain⟨e2,he2,hR2⟩:=hq.ix hiu;have hi':=Aa hi;have hw:=AZ hi s2;rw[S1 hi hiu]at hI;have hrec:=ih ps[i] (An hi) u.ps[i] zs[i] e e2 hR hR2 (s3 _ (An hi)) (g1 i _ _ (AO hiz) (AO hi)) (g2 i _ _ (AO hiz) (AO hiu));obtain⟨q1,rfl,hq1⟩:=hR.AY;obtain⟨q2,rfl,hq2⟩:=hR2.AY;cases hs:C6 ps[i] u.ps[i]with
       | true=>
        rw[hs]at hI hrec;exact .inl ⟨(),by simp[f91,hi',he,he2,hrec,hw,hb,h0',AF,AV.AA,hq1.AA,hq2.AA],by simpa using hI⟩
       | false=>
        rw[hs]at hI hrec;exact .inr ⟨_,_,by simp[f91,hi',he,he2,hrec,hb,h0',AF,AV.AA,hq1.AA,hq2.AA] <;> first | exact⟨rfl,rfl⟩ | rfl,by simp,.inr ⟨rfl,by simpa using hI⟩⟩) (fun b hI=>by
       rw[DD]at hI;exact⟨_,_,by simp[f91] <;> first | exact⟨rfl,rfl⟩ | rfl,by simp,.inl ⟨rfl,by rw[hI];rfl⟩⟩) () (by simp)
    simp[f91]at hlp;simp only[d3,Jf];rcases hq' with⟨hq',hr⟩ | ⟨hq',hr⟩ <;> rw[hr] <;> cases hq' <;> exact⟨_,by simp[AJ,f91,h0',hp.len,hlp] <;> rfl⟩
theorem S2{f:FuncId}{id:Nat}{v:Int}{s:Bytes}{pv:AV}{h:AE}{b:Bool}{ps:List TyV}(hps:SlR A4 3 ps pv)(hh:h[id]? = some (.var b [.str s,.int .i64 v,pv])):snap C0 (.fn f [] [.hp id 0]) h=some (.fn f [] [.ro [.str s,.int .i64 v,pv]],h.set id (.var true [.str s,.int .i64 v,pv])):=by
 have hpv:=hps.AA;have:BC 9 (.fn f [] [.hp id 0]) h (.fn f [] [.ro [.str s,.int .i64 v,pv]]) (h.set id (.var true [.str s,.int .i64 v,pv])):=fun n=>by
  rcases hps with⟨_,rfl⟩ | ⟨ex,es,rfl,_⟩ <;> simp[AV.AA]at hpv <;> simp[Am.snap,Am.GY,AF,AV.AA,hh,hpv]
 exact this.at (by decide)
theorem c62{arms:List TyV}{av:AV}(ha:SlR AU 4 arms av)(hal:arms.length<1048577)(has:∀ p∈arms,Sm 1048577 p){u:TyV}{ys:List AV}(hy:A4 u ys){s:Sh}(hpe:∀ p∈arms,CB s p=0)(hve:GM s u=0)(h:AE):AH MX (AG MX) 62 [av,.agg ys] h=some (.ret (.int .i64 (ixI (arms.findIdx? (fun p=>C6 p u)))),h):=by
 have hn:([av,.agg ys]:List AV).all AV.AA=true:=by simp[AV.AA,ha.AA,hy.AF]
 have hyn:=hy.AF;have h115:∀(p:TyV) (px:List AV),AU p px->Sm 1048577 p->CB s p=0->∀ H,∃ B,AH MX (AG MX) 115 [.agg px,.ro ys] H=some (.ret (.bool (C6 p u)),H++[B]):=fun p px hR hs hpe H=>by
  have h91:=c91 p u s px ys hR hy hs hpe hve;obtain⟨q1,rfl,hq1⟩:=hR.AY;obtain⟨q2,rfl,hq2⟩:=hy.AY;exact⟨_,BE Yj cQ (by simp[AJ,f115,h91] <;> first | exact⟨rfl,rfl⟩ | rfl)⟩
 obtain⟨F,hF⟩:∃ F,F=AV.fn 115 [] [.ro ys]:=⟨_,rfl⟩;obtain⟨G,hG⟩:∃ G,AJ MX 114 [av,.fn 115 [] [.ro ys]] []=some (.ret (.int .i64 (ixI (arms.findIdx? (fun p=>C6 p u)))),G):=by
  rw[<- hF];obtain⟨e,st,hlp,hq⟩:=AQ (M:=MX) (fid:=114) (N:=19) (C:=AG MX) (c:=AL f114 0) (n:=arms.length) (fun i (b:AE)=>([(0,av),(1,F),(7,.int .i64 arms.length),(8,.int .i64 i)],b)) (fun i _=>∀ j (hj:j<arms.length),j<i->(fun p=>C6 p u) arms[j]=false)
   (fun r=>∃ b:AE,(r=(.ext 0,([(0,av),(1,F),(7,.int .i64 arms.length),(8,.int .i64 arms.length),(9,.bool false)],b))/\arms.findIdx? (fun p=>C6 p u)=none)\/(∃ i:Nat,r=(.ret,([(4,.int .i64 i)],b))/\arms.findIdx? (fun p=>C6 p u)=some i)) (fun i b hi hI=>by
     obtain⟨e,he,hR⟩:=ha.ix hi;have hi':=Aa hi;have hw:=AZ hi hal;have hmem:=An hi;obtain⟨B,hcall⟩:=h115 arms[i] e hR (has _ hmem) (hpe _ hmem) b;obtain⟨q1,rfl,hq1⟩:=hR.AY;cases hx:C6 arms[i] u with
     | true=>rw[hx]at hcall;exact .inr ⟨_,_,by simp[f114,hi',he,hcall,hF] <;> exact⟨rfl,rfl⟩,by simp,b++[B],.inr ⟨i,rfl,FH (p:=(fun p=>C6 p u)) hi hI hx⟩⟩
     | false=>rw[hx]at hcall;exact .inl ⟨b++[B],by simp[f114,hi',he,hcall,hw,hF],FJ (p:=(fun p=>C6 p u)) hi hI hx⟩) (fun b hI=>by
     exact⟨_,_,by simp[f114] <;> exact⟨rfl,rfl⟩,by simp,b,.inl ⟨rfl,FI (p:=(fun p=>C6 p u)) fun j hj=>hI j hj hj⟩⟩) [] (fun j _ h0=>by omega)
  simp[f114]at hlp;obtain⟨b,hq⟩:=hq;rcases hq with⟨hq,hs⟩ | ⟨i,hq,hs⟩ <;> cases hq <;> exact⟨b,by simp[AJ,f114,ha.len,hlp,hs,ixI]⟩
 obtain⟨q2,rfl,hq2⟩:=hy.AY;have h114:AH MX (AG MX) 114 [av,.fn 115 [] [.hp 0 0]] [.var false [.str u.nm,.int .i64 u.v,q2]]=some (.ret (.int .i64 (ixI (arms.findIdx? (fun p=>C6 p u)))),[.var true [.str u.nm,.int .i64 u.v,q2]]):=by
  have hsn:=S2 (f:=115) (id:=0) (b:=false) (h:=[.var false [.str u.nm,.int .i64 u.v,q2]]) hq2 rfl;exact EG (by simp[ON]) (args':=[av,.fn 115 [] [.ro [.str u.nm,.int .i64 u.v,q2]]]) (by simp[Aq,ha.AA,hsn,AV.AA,AF]) (by simp[ha.AA,AV.AA,AF,hq2.AA]) (Ae ON VH (by simp[ha.AA,AV.AA,AF,hq2.AA]) rfl hG _)
 exact Ae U8 gy hn rfl (hr:=_) (by simp[AJ,f62,h114] <;> rfl) h
theorem u32:und MX.ty 32=some (.slice 34):=by kernel_rfl
def ClnR(ps:List TyV)(r:AV)(X:AE)(n:Nat):Prop:=(ps=[]/\X=[]/\(r=.AI\/r=.sl 3 true []))\/∃ es,ps≠[]/\r=.hs n ps.length 3 0 ps.length false/\X=[.arr 3 false es]/\es.length=ps.length/\∀(j:Nat) p e,ps[j]? = some p->es[j]? = some e->A4 p e
theorem c163{ps:List TyV}{v:AV}(hv:SlR A4 3 ps v)(hl:ps.length<1048577)(h:AE):∃ r X,AH MX (AG MX) 163 [v] h=some (.ret r,h++X)/\ClnR ps r X h.length:=by
 have hn:([v]:List AV).all AV.AA=true:=by simp[hv.AA]
 rcases hv with⟨rfl,rfl⟩ | ⟨ex,es,rfl,h1,h2⟩
 .refine⟨.AI,[],?_,.inl ⟨rfl,rfl,.inl rfl⟩⟩;have hcl:=KS (H:=[]) (a:=.AI) (l:=[]) (.inl ⟨rfl,rfl⟩) h;simp only[nv,nb]at hcl;exact KQ L7 Qw hn (v:=.AI) (hr:=[]) (by simp[AJ,f163,u32,eqA]) hcl
 .have hnr:es.all AF=true:=BN h1 h2 (fun a e h=>h.AF);by_cases he:es=[]
  .subst he;have h0:ps=[]:=EH h1.symm;refine⟨.sl 3 true [],[],?_,.inl ⟨h0,rfl,.inr rfl⟩⟩;have hcl:Cm true h (.sl 3 true []) []=some (.sl 3 true [],h++[]):=rfl;have hap:apA 3 48 (.sl 3 true []) (.sl 3 ex []) []=some (.sl 3 true [],[]):=by
    simp[apA,apX,Bu,BF,Fs,Ax,Ay,A6,Bt]
   exact KQ L7 Qw hn (v:=.sl 3 true []) (hr:=[]) (by simp[AJ,f163,u32,eqA,bsA,Ag,List.replicate,AF,AV.AA,hap]) hcl
  .have hne:ps≠[]:=fun e=>he (EH (by rw[h1,e];rfl))
   obtain⟨x,r,hxr⟩:=List.exists_cons_of_ne_nil he;refine⟨.hs h.length ps.length 3 0 ps.length false,[.arr 3 false es],?_,.inr ⟨es,hne,rfl,rfl,h1,h2⟩⟩;have hap:apA 3 48 (.sl 3 true []) (.sl 3 ex es) []=some (.hs 0 ps.length 3 0 ps.length false,[.arr 3 false es]):=by
    have e2:ps.length * 48<=17592186044416:=(by omega);have e3:ps.length<=17592186044416:=(by omega);have hrd:Ax [] (.sl 3 ex es)=some es:=rfl;rw[<- h1]at e2 e3 ⊢;subst hxr;simp[apA,apX,Bu,BF,Fs,Aw,Ay,A6,Bt,hrd]at e2 e3 ⊢;simp[e2,e3]
   have hcl:Cm true h (.hs 0 ps.length 3 0 ps.length false) [.arr 3 false es]=some (.hs h.length ps.length 3 0 ps.length false,h++[.arr 3 false es]):=by
    have ht:PF (.hs 0 ps.length 3 0 ps.length false)=[0]:=rfl;have hrl:∀ b,Hc b [0] (.hs 0 ps.length 3 0 ps.length false)=some (.hs b ps.length 3 0 ps.length false):=fun b=>by
     simp[Hc,LK,GA,posOf,Ay]
    have hset:Am.settle [0] [.arr 3 false es]=some [.arr 3 false es]:=(by simp only[Am.settle,Gs,hnr]);have hkb:D8 [.arr 3 false es] [0]=some [.arr 3 false es]:=(by simp only[D8,Gs,Blk.AA,hnr]);simp only[Am.Cm,ht,hset,hrl,hkb];simp[Am.distinct]
   exact KQ L7 Qw hn (v:=.hs 0 ps.length 3 0 ps.length false) (hr:=[.arr 3 false es]) (by simp[AJ,f163,u32,eqA,bsA,Ag,List.replicate,AF,AV.AA,hap]) hcl
theorem SlR.OK{α:Type}{R:α->List AV->Prop}{sz:Nat}{l:List α}{v:AV}(hv:SlR R sz l v)(h:AE):BC 1 v h v h:=fun n=>by
 have hn:=hv.AA;rcases hv with⟨_,rfl⟩ | ⟨ex,es,rfl,_⟩
 .rfl
 .simp[AV.AA]at hn;simp[Am.snap,hn]
theorem Nc{α:Type}{R:α->List AV->Prop}{sz:Nat}{l:List α}{v:AV}(hv:SlR R sz l v)(ids:List Nat):Xd ids v=ids:=by
 rcases hv with⟨_,rfl⟩ | ⟨_,_,rfl,_⟩ <;> rfl
theorem Kq{α:Type}{R:α->List AV->Prop}{sz:Nat}{l:List α}{v:AV}(hv:SlR R sz l v)(b:Nat)(ids:List Nat):GA b ids v=some v:=by
 have hn:=hv.AA;rcases hv with⟨_,rfl⟩ | ⟨_,_,rfl,_⟩
 .rfl
 .simp only[GA,hn]
theorem c15{k:EM}{xs:List AV}(hx:D5 k xs)(hsk:SmT 1048577 k):∃ w pv es,SlR Ah 3 k.data w/\SlR AU 4 k.ty.ps pv/\AU k.ty [.int .i64 k.ty.k,.int .i64 k.ty.v,.str k.ty.nm,pv]/\es.length=k.arms.length/\(∀(i:Nat) p e,k.arms[i]? = some p->es[i]? = some e->AU p e) /\
 ((k.arms=[]/\∀ h,AH MX (AG MX) 15 [.agg xs] h=some (.ret (.agg [w,.int .i64 k.ty.k,.int .i64 k.ty.v,.str k.ty.nm,pv,.sl 4 true []]),h)) \/
   (k.arms≠[]/\∀ h,AH MX (AG MX) 15 [.agg xs] h=some (.ret (.agg [w,.int .i64 k.ty.k,.int .i64 k.ty.v,.str k.ty.nm,pv,.hs h.length k.arms.length 4 0 k.arms.length false]),h++[.arr 4 false es]))):=by
 obtain⟨dv,pv,av,rfl,hd,hp,ht,ha⟩:=hx.dest;obtain⟨s1,s2,s3,s4⟩:=hsk;obtain⟨w,hw,h31⟩:=c31 hd s1;have hn:([AV.agg [dv,.int .i64 k.ty.k,.int .i64 k.ty.v,.str k.ty.nm,pv,av]]:List AV).all AV.AA=true:=by simp[AV.AA,AF,hd.AA,hp.AA,ha.AA]
 have hb:=Zq;simp[Ab,Az,f15]at hb;let B:=Blk.var false [dv,.int .i64 k.ty.k,.int .i64 k.ty.v,.str k.ty.nm,pv,av];let Z:=Blk.var false [AV.AI,.int .i64 0,.int .i64 0,.str [],.AI,.AI];obtain⟨es,h1,h2,h3,h4⟩:=ha.rd [B,Z];have hnr:es.all AF=true:=BN h3 h4 (fun a e h=>h.AF);have hs:=ha.nstr;have hap:apA 4 56 (.sl 4 true []) av [B,Z]=apX 4 56 (.sl 4 true []) es 0 [B,Z]:=by
  unfold apA;cases av with
  | str b=>exact absurd rfl (hs b)
  | _=>first | simp only[h2,h1,Fs,Jd] | (simp only[Ax]at h1;cases h1)
 refine⟨w,pv,es,hw,hp,ht,h3,h4,?_⟩;by_cases he:es=[]
 .subst he;have h0:k.arms=[]:=EH h3.symm;have hap2:apA 4 56 (.sl 4 true []) av [B,Z]=some (.sl 4 true [],[B,Z]):=by
   rw[hap];simp[apX,Bu,BF,Ay,A6,Bt]
  simp only[B,Z]at hap2;refine .inl ⟨h0,fun h => ?_⟩;have hcl:∀ H:AE,Cm true h (.agg [w,.int .i64 k.ty.k,.int .i64 k.ty.v,.str k.ty.nm,pv,.sl 4 true []]) H=some (.agg [w,.int .i64 k.ty.k,.int .i64 k.ty.v,.str k.ty.nm,pv,.sl 4 true []],h):=fun H=>by
   have ht:PF (.agg [w,.int .i64 k.ty.k,.int .i64 k.ty.v,.str k.ty.nm,pv,.sl 4 true []])=[]:=by
    show List.foldl Xd [] _=[];simp only[Nr,List.foldl_nil,Nc hw,Nc hp];rfl
   have hr:∀ n,Hc n [] (.agg [w,.int .i64 k.ty.k,.int .i64 k.ty.v,.str k.ty.nm,pv,.sl 4 true []])=some (.agg [w,.int .i64 k.ty.k,.int .i64 k.ty.v,.str k.ty.nm,pv,.sl 4 true []]):=fun n=>by
    have e0:∀ v,v.AA=true->(∀ id off,v≠.hp id off)->GA n [] v=GA n [] v:=fun v _ _=>rfl
    show Option.map AV.agg (Ho n [] _)=_;simp only[Ho,Kq hw,Kq hp];simp[GA,AV.AA]
   have hs2:Am.settle [] H=some H:=rfl;have hk2:D8 H []=some []:=rfl;simp only[Cm,ht,hs2,hr,hk2];simp[Am.distinct]
  exact KQ U4 YR hn (v:=.agg [w,.int .i64 k.ty.k,.int .i64 k.ty.v,.str k.ty.nm,pv,.sl 4 true []]) (by simp[AJ,f15,h31,hap2,hd.cells,hw.cells,bsA,Ag,List.replicate,AF,AV.AA,hd.AA,hb,Hy,DS] <;> rfl) (hcl _)
 .obtain⟨a,r,hxr⟩:=List.exists_cons_of_ne_nil he;have hne:k.arms≠[]:=fun e=>he (EH (by rw[h3,e];rfl))
  have hap2:apA 4 56 (.sl 4 true []) av [B,Z]=some (.hs 2 k.arms.length 4 0 k.arms.length false,[B,Z,.arr 4 false es]):=by
   rw[hap,<- h3];have hn:es.length<1048577:=(by omega);subst hxr;have e2:(r.length+1) * 56<=17592186044416:=(by simp at hn;omega);have e3:r.length+1<=17592186044416:=(by simp at hn;omega);simp[apX,Bu,BF,Aw,Ay,A6,Bt,e2,e3]
  have m1:(0∈Da 0 [B,Z] [B,Z,.arr 4 false es])=False:=E6 (by simp) rfl;simp only[B,Z]at hap2 m1;refine .inr ⟨hne,fun h => ?_⟩;let V:=AV.agg [w,.int .i64 k.ty.k,.int .i64 k.ty.v,.str k.ty.nm,pv,.hs 2 k.arms.length 4 0 k.arms.length false];have hcl:Cm true h (.agg [w,.int .i64 k.ty.k,.int .i64 k.ty.v,.str k.ty.nm,pv,.hs 2 k.arms.length 4 0 k.arms.length false]) [Blk.var false [dv,.int .i64 k.ty.k,.int .i64 k.ty.v,.str k.ty.nm,pv,av],Blk.var false [w,.int .i64 k.ty.k,.int .i64 k.ty.v,.str k.ty.nm,pv,.hs 2 k.arms.length 4 0 k.arms.length false],.arr 4 false es]=some (.agg [w,.int .i64 k.ty.k,.int .i64 k.ty.v,.str k.ty.nm,pv,.hs h.length k.arms.length 4 0 k.arms.length false],h++[.arr 4 false es]):=by
   have ht:PF (.agg [w,.int .i64 k.ty.k,.int .i64 k.ty.v,.str k.ty.nm,pv,.hs 2 k.arms.length 4 0 k.arms.length false])=[2]:=by
    show List.foldl Xd [] _=[2];simp only[Nr,List.foldl_nil,Nc hw,Nc hp];rfl
   have hr:∀ n,Hc n [2] (.agg [w,.int .i64 k.ty.k,.int .i64 k.ty.v,.str k.ty.nm,pv,.hs 2 k.arms.length 4 0 k.arms.length false])=some (.agg [w,.int .i64 k.ty.k,.int .i64 k.ty.v,.str k.ty.nm,pv,.hs n k.arms.length 4 0 k.arms.length false]):=fun n=>by
    show Option.map AV.agg (Ho n [2] _)=_;simp only[Ho,Kq hw,Kq hp];simp[GA,AV.AA,posOf,Ay]
   have hset:∀ C D:Blk,Am.settle [2] [C,D,.arr 4 false es]=some [C,D,.arr 4 false es]:=fun C D=>by simp only[Am.settle,Jq,Gs,hnr]
   have hkb:∀ C D:Blk,D8 [C,D,.arr 4 false es] [2]=some [.arr 4 false es]:=fun C D=>by simp only[D8,Jq,Gs,Blk.AA,hnr]
   simp only[Am.Cm,ht,hset,hr,hkb];simp[Am.distinct]
  exact KQ U4 YR hn (by simp[AJ,f15,h31,hap2,m1,hd.cells,hw.cells,bsA,Ag,List.replicate,AF,AV.AA,hd.AA,hb,DS]) hcl
theorem P9{s:Sh}:∀(l:List TyV) (i:Nat),(HX s i l).2=0->∀ p∈l,Fm s p=0
 | [],_,_=>fun p h=>by cases h
 | q::r,i,h=>by
  simp only[HX]at h;split at h
  .rename_i h1;intro p hp;rcases CF.1 hp with rfl | hp
   .exact h1
   .exact P9 r (i+1) h p hp
  .rename_i h1;exact absurd h h1
theorem QA{s:Sh}{p:TyV}(h:Fm s p=0):A7 p=true/\CB s p=0/\K2 [] (BV p)=false:=by
 unfold Fm at h;by_cases h1:A7 p=false
 .rw[if_pos h1]at h;cases h
 .rw[if_neg h1]at h;by_cases h2:CB s p=0
  .rw[if_pos h2]at h;cases h3:K2 [] (BV p)with
   | true=>rw[h3]at h;cases h
   | false=>exact⟨by simpa using h1,h2,rfl⟩
  .rw[if_neg h2]at h;exact absurd h h2
theorem JU{l:List AK}{t:TyV}{arms:List TyV}(h:(A8 l t arms).2=0):DM l t=0/\0<arms.length/\arms.length<=12/\∀ p∈arms,Fm (CE l t) p=0:=by
 unfold A8 at h;by_cases h1:DM l t=0
 .rw[if_pos h1]at h;by_cases h2:arms.length=0
  .rw[if_pos h2]at h;cases h
  .rw[if_neg h2]at h;by_cases h3:12<arms.length
   .rw[if_pos h3]at h;cases h
   .rw[if_neg h3]at h;exact⟨h1,by omega,by omega,P9 arms 0 h⟩
 .rw[if_neg h1]at h;exact absurd h h1
theorem XN{s:Sh}{u:TyV}(h:LW s u=0):A7 u=true/\GM s u=0:=by
 unfold LW at h;split at h
 .rename_i h1;exact⟨h1,h⟩
 .cases h
theorem eR{k:EM}{u:TyV}(h:Ij k u=0):DM k.data k.ty=0/\0<k.arms.length/\k.arms.length<=12/\(∀ p∈k.arms,Fm (CE k.data k.ty) p=0)/\A7 u=true/\GM (CE k.data k.ty) u=0:=by
 unfold Ij at h;by_cases h1:(A8 k.data k.ty k.arms).2=0
 .rw[if_pos h1]at h;obtain⟨g1,g2,g3,g4⟩:=JU h1;unfold LX at h;rw[if_pos g1]at h;obtain⟨g5,g6⟩:=XN h;exact⟨g1,g2,g3,g4,g5,g6⟩
 .rw[if_neg h1]at h;exact absurd h h1
section
variable{k:EM}{xs:List AV}(hx:D5 k xs)(hsk:SmT 1048577 k){u:TyV}{ys:List AV}(hu:A4 u ys)(hsu:Sm 1048577 u)
include hx hsk hu hsu
theorem c43(h:AE):AH MX (AG MX) 43 [.agg xs,.agg ys] h=some (.ret (.tup [.int .i64 (if Ij k u=0 then ixI (k.arms.findIdx? (fun p=>C6 p u))else 0),.int .i64 (Ij k u)]),h):=by
 have h93:=c93 hx hsk hu hsu;have hyn:=hu.AF;obtain⟨dv,pv,av,rfl,hd,hp,ht,ha⟩:=hx.dest;obtain⟨s1,s2,s3,s4⟩:=hsk;have hn:([AV.agg [dv,.int .i64 k.ty.k,.int .i64 k.ty.v,.str k.ty.nm,pv,av],AV.agg ys]:List AV).all AV.AA=true:=by simp[AV.AA,AF,hd.AA,hp.AA,ha.AA,hu.AF]
 by_cases hz:Ij k u=0
 .obtain⟨g1,g2,g3,g4,g5,g6⟩:=eR hz;have h62:=c62 ha s3 s4 hu (s:=CE k.data k.ty) (fun p hp=>(QA (g4 p hp)).2.1) g6;rw[if_pos hz];rw[hz]at h93 ⊢;obtain⟨qv,rfl,hq⟩:=hu.AY;exact Ae NV YV hn rfl (hr:=_) (by simp[AJ,f43,h93,h62] <;> rfl) h
 .have hzb:(Ij k u != 0)=true:=by simp[hz]
  rw[if_neg hz];obtain⟨qv,rfl,hq⟩:=hu.AY;exact Ae NV YV hn rfl (hr:=_) (by simp[AJ,f43,h93,hzb] <;> rfl) h
end
end
section
theorem Ou{l:List AK}{params:List Bytes}:∀(r prev:List CZ),Fh l params prev r=0->∀ c∈r,BM c.nm=true
 | [],_,_=>fun f hf=>by cases hf
 | c::r,prev,h=>by
  simp only[Fh]at h;split at h
  .cases h
  .rename_i h0;split at h
   .cases h
   .split at h
    .cases h
    .split at h
     .cases h
     .split at h
      .cases h
      .split at h
       .intro g hg;rcases CF.1 hg with rfl | hg
        .simpa using h0
        .exact Ou r _ h g hg
       .rename_i h3;exact absurd h h3
theorem Uc{l:List AK}(h:(A0 l).2=0):∀ d∈l,∀ c∈d.cons,c.nm≠[]:=by
 intro d hd c hc e;have h1:∃ pre,Bj d pre=0:=by
  unfold A0 at h;split at h
  .cases h
  .obtain⟨pre,post,e,he⟩:=I4 l [] h d hd;exact⟨pre,he⟩
 obtain⟨pre,h1⟩:=h1;have h2:Fh pre d.params [] d.cons=0:=by
  unfold Bj at h1
  repeat (split at h1;first | cases h1 | skip)
  .exact h1
  .rename_i h3;exact absurd h1 h3
 have:=Ou _ _ h2 c hc;rw[e]at this;simp[BM]at this
theorem S3{l:List AK}(h:(A0 l).2=0)(t:TyV):∀ c∈AN l t,c.nm≠[]:=by
 intro c hc;unfold AN at hc;split at hc
 .simp only[CF,Jc,or_false]at hc;rcases hc with rfl | rfl <;> (show _≠([]:Bytes);decide)
 .split at hc
  .rename_i i hi;obtain⟨c0,hc0,rfl⟩:=E3.1 hc;have hil:=Gh hi;have hg:l.getD i default=l[i]:=(by simp[hil]);rw[hg]at hc0;exact Uc h _ (An hil) c0 hc0
  .cases hc
theorem DT.part{l:List AK}{t:TyV}{ns:List Bytes}{ss:List (List Sh)}(h:DT l t (.cons ns ss)){i j:Nat}{x:Sh}(hx:(ss.getD i [])[j]? = some x):∃ t',DT l t' x:=by
 cases h with
 | cons _ _ _ hb hk hn hl hs hf=>
  by_cases hi:i<ss.length
  .have hgi:ss.getD i []=ss[i]:=(by simp[hi]);rw[hgi]at hx;have hc:=AO (l:=AN l t) (i:=i) (by omega);have hlen:=hs i _ _ hc (AO hi);have hj:=(Ac.1 hx).1;exact⟨_,hf i _ _ j _ x hc (AO hi) (AO (by omega)) hx⟩
  .have:ss.getD i []=[]:=(by simp[Np hi]);rw[this]at hx;simp at hx
theorem DT.name{l:List AK}{t:TyV}{ns:List Bytes}{ss:List (List Sh)}(h:DT l t (.cons ns ss))(hd:(A0 l).2=0){nm:Bytes}{i:Nat}(hi:ns.findIdx? (fun x=>x == nm)=some i):nm≠[]:=by
 cases h with
 | cons _ _ _ hb hk hn hl hs hf=>
  obtain⟨h1,h2,_⟩:=Gr.1 hi;have h3:ns[i]=nm:=beq_iff_eq.1 h2;rw[<- h3];have hmem:ns[i]∈(AN l t).map (·.nm):=hn ▸ An h1;obtain⟨c,hc,e⟩:=E3.1 hmem;rw[<- e];exact S3 hd t c hc
end
end Go.Proofs.Am12
namespace Go.Proofs.Am12
open Go Go.Am Go.Proofs.YtggemipepaajmaaGreat Tryz
end Go.Proofs.Am12
namespace Go.Proofs.Am12
open Go Go.Am Tryz
section
attribute [local simp] Dc Bn Ec Dd CQ Dx Dy Ey BZ Ap Bh Av Gb FR EN HO D9 A5 FN EO HP HQ xUn FC EA FT BG DQ BH EB BI EC Ce Ca Bv BL EP Eo
 ev evs C4 DP OR.ofV OR.D4 OR.ofC Fg Tm.get Tm.init Tm.only Ay A6 Bt finish CK DS Hb D3 D7 unA Bz Bc B6 Bd Cp Cq Cr Be Cs Ct Bf Cu Cv Bg B7 AL CP Bb Cn Co Bx Ez E0 E1 Dz D0 Fo F7 F8 Fp stA BA DY Bo DR FD Gp B8 C1 CI FU Gq
attribute [local simp] DE CT Cb Bl DF DG DH DI DJ DK DL Ef Cg Eg Dh FW FX Gi Di Eh Dj BQ Dk BR Dl B9 Ei Ch FY FZ Fa Ci Dm Dn Fb Gj Fc Gk Gl Dp BS Cj CA Dq Dr Ck
theorem ga7{R T:AE}{A:Blk}:(R++A::T)[R.length]? = some A:=by simp
theorem gb7{R T:AE}{A B:Blk}:(R++A::B::T)[R.length+1]? = some B:=by
 rw[En (by omega)];simp
theorem _root_.Go.Am.GQ{M:Par}{fid N:Nat}{C:CH}{a b:Code}{s s':St}(h:AX M fid N C a s=some (.ret,s')):AX M fid N C (.seq a b) s=some (.ret,s'):=by
 rw[Ec,h]
end
section
def PvAt(H:AE)(ps:List TyV)(pv:AV):Prop:=SlR A4 3 ps pv\/∃ j lk es,pv=.hs j ps.length 3 0 ps.length false/\H[j]? = some (.arr 3 lk es)/\es.length=ps.length/\∀(i:Nat) p e,ps[i]? = some p->es[i]? = some e->A4 p e
def Fy(H:AE)(u:TyV)(row:List AV):Prop:=u.k=0/\∃ pv,row=[.str u.nm,.int .i64 u.v,pv]/\PvAt H u.ps pv
def LY(H:AE)(us:List TyV)(pv:AV):Prop:=(us=[]/\pv=.AI)\/∃ j lk es,us≠[]/\pv=.hs j us.length 3 0 us.length false/\H[j]? = some (.arr 3 lk es)/\es.length=us.length/\∀(i:Nat) p e,us[i]? = some p->es[i]? = some e->Fy H p e
theorem A4.row{u:TyV}{row:List AV}(h:A4 u row)(H:AE):Fy H u row:=by
 obtain⟨pv,rfl,hp⟩:=h.AY;exact⟨h.k0,pv,rfl,.inl hp⟩
def AExt(H H':AE):Prop:=∀(id:Nat) (lk:Bool) (es:List (List AV)),H[id]? = some (.arr 3 lk es)->∃ lk' es',H'[id]? = some (.arr 3 lk' es')/\es'.length=es.length/\∀(i:Nat) e e',es[i]? = some e->es'[i]? = some e'->∀ u,A4 u e->A4 u e'
theorem Fy.aP{H H':AE}(x:AExt H H'){u:TyV}{row:List AV}(h:Fy H u row):Fy H' u row:=by
 obtain⟨h0,pv,h1,h2⟩:=h;refine⟨h0,pv,h1,?_⟩;rcases h2 with h2 | ⟨j,lk,es,g1,g2,g3,g4⟩
 .exact .inl h2
 .obtain⟨lk',es',a1,a2,a3⟩:=x j lk es g2;refine .inr ⟨j,lk',es',g1,a1,a2.trans g3,fun i p e hp he => ?_⟩;have hi:=(Ac.1 he).1;have hie:=AO (l:=es) (i:=i) (by omega);exact a3 i _ e hie he p (g4 i p _ hp hie)
def S4(B:Blk):Prop:=∀ lk es,B≠.arr 3 lk es
def Ext(M:Nat->Prop)(H H':AE):Prop:=∀(id:Nat) (B:Blk),H[id]? = some B->∃ B',H'[id]? = some B'/\(B'=B\/(∃ lk es lk' es',B=.arr 3 lk es/\B'=.arr 3 lk' es'/\es'.length=es.length/\∀(i:Nat) e e',es[i]? = some e->es'[i]? = some e'->(∀ u,A4 u e->A4 u e')/\∀ u,Fy H u e->Fy H' u e')\/(M id/\S4 B/\S4 B'))
theorem Ext.a{M:Nat->Prop}{H H':AE}(x:Ext M H H'):AExt H H':=fun id lk es h=>by
 obtain⟨B',h1,h2 | ⟨lk0,es0,lk',es',h2,h3,h4,h5⟩ | ⟨_,h2,_⟩⟩:=x id _ h
 .subst h2;exact⟨lk,es,h1,rfl,fun i e e' a b u hu=>by rw[a]at b;cases b;exact hu⟩
 .cases h2;subst h3;exact⟨lk',es',h1,h4,fun i e e' a b=>(h5 i e e' a b).1⟩
 .exact absurd rfl (h2 lk es)
theorem Fy.ext{M:Nat->Prop}{H H':AE}(x:Ext M H H'){u:TyV}{row:List AV}(h:Fy H u row):Fy H' u row:=h.aP x.a
theorem LY.ext{M:Nat->Prop}{H H':AE}(x:Ext M H H'){us:List TyV}{pv:AV}(h:LY H us pv):LY H' us pv:=by
 rcases h with h | ⟨j,lk,es,g0,g1,g2,g3,g4⟩
 .exact .inl h
 .obtain⟨B',h1,h2 | ⟨lk0,es0,lk',es',h2,h3,h4,h5⟩ | ⟨_,h2,_⟩⟩:=x j _ g2
  .subst h2;exact .inr ⟨j,lk,es,g0,g1,h1,g3,fun i p e a b=>(g4 i p e a b).ext x⟩
  .cases h2;subst h3;refine .inr ⟨j,lk',es',g0,g1,h1,h4.trans g3,fun i p e a b => ?_⟩;have hi:=(Ac.1 b).1;have hie:=AO (l:=es) (i:=i) (by omega);exact(h5 i _ e hie b).2 p (g4 i p _ a hie)
  .exact absurd rfl (h2 lk es)
theorem Ext.refl{M:Nat->Prop}(H:AE):Ext M H H:=fun id B h=>⟨B,h,.inl rfl⟩
theorem Ext.trans{M:Nat->Prop}{H H1 H2:AE}(x:Ext M H H1)(y:Ext M H1 H2):Ext M H H2:=fun id B h=>by
 obtain⟨B1,h1,hx⟩:=x id B h;obtain⟨B2,h2,hy⟩:=y id B1 h1;refine⟨B2,h2,?_⟩;rcases hx with rfl | ⟨lk,es,lk1,es1,rfl,rfl,a1,a2⟩ | ⟨m1,n1,n2⟩
 .rcases hy with rfl | ⟨lk,es,lk2,es2,rfl,rfl,a1,a2⟩ | ⟨m1,n1,n2⟩
  .exact .inl rfl
  .refine .inr (.inl ⟨lk,es,lk2,es2,rfl,rfl,a1,fun i e e' b1 b2=>⟨(a2 i e e' b1 b2).1,fun u hu=>(a2 i e e' b1 b2).2 u (hu.ext x)⟩⟩)
  .exact .inr (.inr ⟨m1,n1,n2⟩)
 .rcases hy with rfl | ⟨lk',es',lk2,es2,h3,rfl,b1,b2⟩ | ⟨m1,n1,n2⟩
  .exact .inr (.inl ⟨lk,es,lk1,es1,rfl,rfl,a1,fun i e e' c1 c2=>⟨(a2 i e e' c1 c2).1,fun u hu=>((a2 i e e' c1 c2).2 u hu).ext y⟩⟩)
  .cases h3;refine .inr (.inl ⟨lk,es,lk2,es2,rfl,rfl,b1.trans a1,fun i e e' c1 c2 => ?_⟩);have hi:=(Ac.1 c1).1;have hm:=AO (l:=es1) (i:=i) (by omega);obtain⟨p1,p2⟩:=a2 i e _ c1 hm;obtain⟨q1,q2⟩:=b2 i _ e' hm c2;exact⟨fun u hu=>q1 u (p1 u hu),fun u hu=>q2 u (p2 u hu)⟩
  .exact absurd rfl (n1 lk1 es1)
 .rcases hy with rfl | ⟨lk',es',lk2,es2,rfl,rfl,b1,b2⟩ | ⟨_,n3,n4⟩
  .exact .inr (.inr ⟨m1,n1,n2⟩)
  .exact absurd rfl (n2 lk' es')
  .exact .inr (.inr ⟨m1,n1,n4⟩)
theorem Ext.app{M:Nat->Prop}(H X:AE):Ext M H (H++X):=fun id B h=>⟨B,by rw[A9 (Ac.1 h).1];exact h,.inl rfl⟩
theorem Ext.up{M M':Nat->Prop}{H H':AE}(x:Ext M H H')(hm:∀ i,M i->M' i):Ext M' H H':=fun id B h=>by
 obtain⟨B',h1,h2 | h2 | ⟨a,b,c⟩⟩:=x id B h
 .exact⟨B',h1,.inl h2⟩
 .exact⟨B',h1,.inr (.inl h2)⟩
 .exact⟨B',h1,.inr (.inr ⟨hm id a,b,c⟩)⟩
abbrev NoM:Nat->Prop:=fun _=>False
theorem Ext.any{M:Nat->Prop}{H H':AE}(x:Ext NoM H H'):Ext M H H':=x.up fun _ h=>h.elim
theorem Ext.keep{M:Nat->Prop}{H H':AE}(x:Ext M H H'){id:Nat}{B:Blk}(h:H[id]? = some B)(hm:¬ M id)(hb:S4 B):H'[id]? = some B:=by
 obtain⟨B',h1,h2 | ⟨lk,es,_,_,h2,_⟩ | ⟨a,_,_⟩⟩:=x id B h
 .rw[h1,h2]
 .exact absurd h2 (hb lk es)
 .exact absurd a hm
theorem Ext.var{M:Nat->Prop}{H H':AE}(x:Ext M H H'){id:Nat}{lk:Bool}{cs:List AV}(h:H[id]? = some (.var lk cs))(hm:¬ M id):H'[id]? = some (.var lk cs):=x.keep h hm fun _ _ e=>by cases e
theorem Ext.len{M:Nat->Prop}{H H':AE}(x:Ext M H H'):H.length<=H'.length:=by
 by_cases h0:H.length=0
 .omega
 .obtain⟨B',h1,_⟩:=x (H.length - 1) _ (AO (by omega));have:=(Ac.1 h1).1;omega
theorem Ext.set{M:Nat->Prop}{H:AE}{id:Nat}{B B':Blk}(h:H[id]? = some B)(hm:M id)(h1:S4 B)(h2:S4 B'):Ext M H (H.set id B'):=fun j C hj=>by
 by_cases e:j=id
 .subst e;rw[h]at hj;cases hj;exact⟨B',CM (Ac.1 h).1,.inr (.inr ⟨hm,h1,h2⟩)⟩
 .exact⟨C,by rw[BP (Ne.symm e)];exact hj,.inl rfl⟩
def Lk(H H':AE):Prop:=∀(id:Nat) (B:Blk),H[id]? = some B->∃ B',H'[id]? = some B'/\(B'=B\/∃ lk es,B=.arr 3 lk es/\B'=.arr 3 true es)
theorem Lk.refl(H:AE):Lk H H:=fun id B h=>⟨B,h,.inl rfl⟩
theorem Lk.trans{H H1 H2:AE}(x:Lk H H1)(y:Lk H1 H2):Lk H H2:=fun id B h=>by
 obtain⟨B1,h1,hx⟩:=x id B h;obtain⟨B2,h2,hy⟩:=y id B1 h1;refine⟨B2,h2,?_⟩;rcases hx with rfl | ⟨lk,es,rfl,rfl⟩
 .exact hy
 .rcases hy with rfl | ⟨lk',es',h3,rfl⟩
  .exact .inr ⟨lk,es,rfl,rfl⟩
  .cases h3;exact .inr ⟨lk,es,rfl,rfl⟩
theorem Lk.a{H H':AE}(x:Lk H H'):AExt H H':=fun id lk es h=>by
 obtain⟨B',h1,h2 | ⟨lk',es',h2,h3⟩⟩:=x id _ h
 .subst h2;exact⟨lk,es,h1,rfl,fun i e e' a b u hu=>by rw[a]at b;cases b;exact hu⟩
 .cases h2;subst h3;exact⟨true,es,h1,rfl,fun i e e' a b u hu=>by rw[a]at b;cases b;exact hu⟩
theorem Lk.ext{H H':AE}(x:Lk H H'):Ext NoM H H':=fun id B h=>by
 obtain⟨B',h1,h2 | ⟨lk,es,rfl,rfl⟩⟩:=x id B h
 .exact⟨B',h1,.inl h2⟩
 .exact⟨_,h1,.inr (.inl ⟨lk,es,true,es,rfl,rfl,rfl,fun i e e' a b=>by rw[a]at b;cases b;exact⟨fun u hu=>hu,fun u hu=>hu.aP x.a⟩⟩)⟩
theorem Lk.set{H:AE}{id:Nat}{lk:Bool}{es:List (List AV)}(h:H[id]? = some (.arr 3 lk es)):Lk H (H.set id (.arr 3 true es)):=fun j C hj=>by
 by_cases e:j=id
 .subst e;rw[h]at hj;cases hj;exact⟨_,CM (Ac.1 h).1,.inr ⟨lk,es,rfl,rfl⟩⟩
 .exact⟨C,by rw[BP (Ne.symm e)];exact hj,.inl rfl⟩
theorem Ov{H:AE}{u:TyV}{row:List AV}(h:Fy H u row):∃ row' H',BK 6 row H row' H'/\A4 u row'/\Lk H H'/\H'.length=H.length/\(∀ w,Fy H w row->A4 w row')/\(AF row=true->row'=row/\H'=H):=by
 obtain⟨h0,pv,rfl,h2⟩:=h;have k0:∀{w:TyV} {pv:AV},w.k=0->SlR A4 3 w.ps pv->A4 w [.str w.nm,.int .i64 w.v,pv]:=fun{w pv} a b=>by
  cases w with
  | mk k v nm ps=>
   have a:k=0:=a;subst a;exact A4.intro b
 have hfl:∀{w:TyV} {j n:Nat},u.nm=w.nm->u.v=w.v->True:=fun _ _=>trivial
 rcases h2 with h2 | ⟨j,lk,es,rfl,g2,g3,g4⟩
 .have hn:=h2.AA;have hs:BC 1 pv H pv H:=SlR.OK h2 H;refine⟨_,H,(BK.cons (BC.flat (c:=.str u.nm) rfl H) (BK.cons (BC.flat (c:=.int .i64 u.v) rfl H) (BK.cons hs (BK.nil _)))).mono (by decide),k0 h0 h2,Lk.refl H,rfl,fun w hw => ?_,fun _=>⟨rfl,rfl⟩⟩;obtain⟨w0,pv',e,hw2⟩:=hw;simp only[LG,AV.str.injEq,AV.int.injEq,true_and,and_true]at e;obtain⟨e1,e2,rfl⟩:=e;rcases hw2 with hw2 | ⟨j,lk,es,rfl,_⟩
  .rw[e1,e2];exact k0 w0 hw2
  .simp[AV.AA]at hn
 .have hnr:es.all AF=true:=BN g3 g4 (fun a e h=>h.AF);have h6:BC 1 (.hs j u.ps.length 3 0 u.ps.length false) H (.sl 3 false es) (H.set j (.arr 3 true es)):=fun n=>by
   have hb:(Nat.beq es.length u.ps.length&&Nat.beq 3 3&&Nat.ble (0+u.ps.length) es.length&&es.all AF)=true:=by
    rw[hnr,g3];simp[Ay,A6]
   simp only[Am.snap,g2,hb];simp[<- g3]
  refine⟨[.str u.nm,.int .i64 u.v,.sl 3 false es],_,(BK.cons (BC.flat (c:=.str u.nm) rfl H) (BK.cons (BC.flat (c:=.int .i64 u.v) rfl H) (BK.cons h6 (BK.nil _)))).mono (by decide),k0 h0 (.inr ⟨false,es,rfl,g3,g4⟩),Lk.set g2,by simp,fun w hw => ?_,fun hn=>by simp[AF,AV.AA]at hn⟩;obtain⟨w0,pv',e,hw2⟩:=hw;simp only[LG,AV.str.injEq,AV.int.injEq,true_and,and_true]at e;obtain⟨e1,e2,rfl⟩:=e;rcases hw2 with hw2 | ⟨j',lk',es',e3,b2,b3,b4⟩
  .have:=hw2.AA;simp[AV.AA]at this
  .simp only[AV.hs.injEq]at e3;obtain⟨rfl,e4,_⟩:=e3;rw[g2]at b2;simp only[AM,Blk.arr.injEq]at b2;obtain⟨_,_,rfl⟩:=b2;rw[e1,e2];exact k0 w0 (.inr ⟨false,es,rfl,b3,b4⟩)
theorem QB:∀(us:List TyV) (es:List (List AV)) (H:AE),es.length=us.length->(∀(i:Nat) p e,us[i]? = some p->es[i]? = some e->Fy H p e)->∃ es' H',CS (8+es.length) es H es' H'/\Lk H H'/\H'.length=H.length/\es'.length=es.length/\(∀(i:Nat) p e,us[i]? = some p->es'[i]? = some e->A4 p e)/\∀(i:Nat) e e',es[i]? = some e->es'[i]? = some e'->∀ w,Fy H w e->A4 w e'
 | [],[],H,_,_=>⟨[],H,(CS.nil H).mono (by omega),Lk.refl H,rfl,rfl,fun i p e h=>by simp at h,fun i e e' h=>by simp at h⟩
 | u::us,e::es,H,hl,hr=>by
  obtain⟨e1,H1,a1,a2,a3,a4,a5,_⟩:=Ov (hr 0 u e rfl rfl);obtain⟨es',H2,b1,b2,b3,b4,b5,b6⟩:=QB us es H1 (by simpa using hl) fun i p e' h1 h2=>(hr (i+1) p e' (by simpa using h1) (by simpa using h2)).aP a3.a
  refine⟨e1::es',H2,(CS.cons a1 b1).mono (by simp only[DC];omega),a3.trans b2,b3.trans a4,by simp[b4],fun i p e' h1 h2 => ?_,fun i f f' h1 h2 w hw => ?_⟩
  .cases i with
   | zero=>simp at h1 h2;subst h1;subst h2;exact a2
   | succ i=>exact b5 i p e' (by simpa using h1) (by simpa using h2)
  .cases i with
   | zero=>simp at h1 h2;subst h1;subst h2;exact a5 w hw
   | succ i=>exact b6 i f f' (by simpa using h1) (by simpa using h2) w (hw.aP a3.a)
 | [],_::_,_,h,_=>by simp at h
 | _::_,[],_,h,_=>by simp at h
theorem Ud{H:AE}{us:List TyV}{pv:AV}(h:LY H us pv)(hl:us.length<1048577):(us=[]/\pv=.AI)\/∃ es' H',Am.snap C0 pv H=some (.sl 3 false es',H')/\es'.length=us.length/\(∀(i:Nat) p e,us[i]? = some p->es'[i]? = some e->A4 p e)/\Ext NoM H H'/\H'.length=H.length:=by
 rcases h with h | ⟨j,lk,es,g0,rfl,g2,g3,g4⟩
 .exact .inl h
 .refine .inr ?_;have hb0:(Nat.beq es.length us.length&&Nat.beq 3 3&&Nat.ble (0+us.length) es.length)=true:=by
   rw[g3];simp[Ay,A6]
  by_cases hnr:es.all AF=true
  .have h6:BC 1 (.hs j us.length 3 0 us.length false) H (.sl 3 false es) (H.set j (.arr 3 true es)):=fun n=>by
    have hb:(Nat.beq es.length us.length&&Nat.beq 3 3&&Nat.ble (0+us.length) es.length&&es.all AF)=true:=by
     rw[hb0,hnr];rfl
    simp only[Am.snap,g2,hb];simp[<- g3]
   refine⟨es,_,h6.at (by decide),g3,fun i p e h1 h2 => ?_,(Lk.set g2).ext,by simp⟩;obtain⟨row',H',a1,a2,a3,a4,a5,a6⟩:=Ov (g4 i p e h1 h2);have:=(a6 (ER.1 hnr e (Bs h2))).1;rw[<- this];exact a2
  .have hnf:es.all AF=false:=(by simpa using hnr);obtain⟨es',H1,b1,b2,b3,b4,b5,b6⟩:=QB us es H g3 g4;have hb1:(Nat.beq es.length us.length&&Nat.beq 3 3&&Nat.ble (0+us.length) es.length&&es.all AF)=false:=by
    rw[hb0,hnf];rfl
   obtain⟨lk1,hH1⟩:∃ lk1,H1[j]? = some (.arr 3 lk1 es):=by
    obtain⟨B',c1,c2 | ⟨lk',es2,c2,c3⟩⟩:=b2 j _ g2
    .exact⟨lk,by rw[c1,c2]⟩
    .cases c2;subst c3;exact⟨true,c1⟩
   have h6:BC (8+es.length+1) (.hs j us.length 3 0 us.length false) H (.sl 3 false es') (H1.set j (.arr 3 true es')):=fun n=>by
    have hb2:(Nat.beq 3 3&&Nat.beq es.length es.length)=true:=(by simp[Ay]);show Am.snap ((n+(8+es.length))+1) _ _=_;simp only[Am.snap,g2,hb0,hnf,b1 n,hH1,hb2];simp[<- b4,<- g3,hb0,hnf]
   refine⟨es',_,h6.at (by rw[g3];show _<=10000000;omega),b4.trans g3,b5,fun id B hid => ?_,by simp[b3]⟩;by_cases e:id=j
   .subst e;rw[g2]at hid;cases hid;refine⟨_,CM (Ac.1 hH1).1,.inr (.inl ⟨lk,es,true,es',rfl,rfl,b4,fun i e e' h1 h2=>⟨fun u hu=>b6 i e e' h1 h2 u (hu.row H),fun u hu=>(b6 i e e' h1 h2 u hu).row _⟩⟩)⟩
   .obtain⟨B',c1,c2 | ⟨lk',es2,c2,c3⟩⟩:=b2 id B hid
    .exact⟨B',by rw[BP (Ne.symm e)];exact c1,.inl c2⟩
    .refine⟨B',by rw[BP (Ne.symm e)];exact c1,.inr (.inl ⟨lk',es2,true,es2,c2,c3,rfl,fun i f f' h1 h2 => ?_⟩)⟩;rw[h1]at h2;cases h2;refine⟨fun u hu=>hu,fun u hu=>hu.aP fun id lk2 es3 h3 => ?_⟩;by_cases e2:id=j
     .subst e2;rw[g2]at h3;cases h3;exact⟨true,es',CM (Ac.1 hH1).1,b4,fun i e e' h1 h2 u hu=>b6 i e e' h1 h2 u (hu.row H)⟩
     .obtain⟨lk4,es4,d1,d2⟩:=b2.a id lk2 es3 h3;exact⟨lk4,es4,by rw[BP (Ne.symm e2)];exact d1,d2⟩
theorem eS{H:AE}{us:List TyV}{pv:AV}(h:LY H us pv)(hl:us.length<1048577):∃ r H1 X,AH MX (AG MX) 163 [pv] H=some (.ret r,H1++X)/\Ext NoM H H1/\H1.length=H.length/\ClnR us r X H.length:=by
 rcases Ud h hl with⟨rfl,rfl⟩ | ⟨es',H1,a1,a2,a3,a4,a5⟩
 .obtain⟨r,X,h1,h2⟩:=c163 (ps:=[]) (v:=.AI) (.inl ⟨rfl,rfl⟩) (by decide) H;exact⟨r,H,X,h1,Ext.refl H,rfl,h2⟩
 .obtain⟨r,X,h1,h2⟩:=c163 (ps:=us) (v:=.sl 3 false es') (.inr ⟨false,es',rfl,a2,a3⟩) hl H1;have hnr:es'.all AF=true:=BN a2 a3 (fun a e h=>h.AF);refine⟨r,H1,X,?_,a4,a5,by rw[<- a5];exact h2⟩;cases hp:pv.AA with
  | true=>
   rcases h with⟨_,rfl⟩ | ⟨j,lk,es,_,rfl,_⟩
   .simp[Am.snap]at a1
   .simp[AV.AA]at hp
  | false=>
   exact EG (by simp[L7]) (args':=[.sl 3 false es']) (by simp only[Aq,hp,a1]) (by simp only[Hk,List.all_nil,AV.AA,hnr,Mf]) h1
theorem ClnR.row{us:List TyV}{r:AV}{X H:AE}{n:Nat}(h:ClnR us r X n)(hn:H.length=n)(nm:Bytes)(v:Int):Fy (H++X) (.mk 0 v nm us) [.str nm,.int .i64 v,r]:=by
 refine⟨rfl,r,rfl,?_⟩;rcases h with⟨rfl,rfl,rfl | rfl⟩ | ⟨es,h0,rfl,rfl,h1,h2⟩
 .exact .inl (.inl ⟨rfl,rfl⟩)
 .exact .inl (.inr ⟨true,[],rfl,rfl,fun i a e h=>by cases h⟩)
 .exact .inr ⟨n,false,es,rfl,by rw[<- hn];simp,h1,h2⟩
mutual
def Cw:Sh->List TyV
 | .bit n=>(List.range (2 ^ n.toNat)).map fun(i:Nat)=> .mk 0 (i:Int) [] []
 | .cons ns ss=>C7 ns ss
def C7:List Bytes->List (List Sh)->List TyV
 | _,[]=>[]
 | ns,s::r=>(Bk s).map (fun ps=> .mk 0 0 (ns.headD []) ps)++C7 ns.tail r
def Bk:List Sh->List (List TyV)
 | []=>[[]]
 | x::r=>(Cw x).flatMap fun v=>(Bk r).map fun ps=>v::ps
end
section
variable{σ:Type}
def andThen(r:σ×Bool)(k:σ->σ×Bool):σ×Bool:=match r with
 | (b,true)=>k b
 | (b,false)=>(b,false)
theorem PN(r:σ×Bool)(k m:σ->σ×Bool):andThen (andThen r k) m=andThen r fun b=>andThen (k b) m:=by
 obtain⟨b,c⟩:=r;cases c <;> rfl
theorem MO(r:σ×Bool):andThen r (fun b=>(b,true))=r:=by
 obtain⟨b,c⟩:=r;cases c <;> rfl
def walk(f:σ->TyV->σ×Bool):σ->List TyV->σ×Bool
 | b,[]=>(b,true)
 | b,v::r=>andThen (f b v) fun b'=>walk f b' r
theorem I9(f:σ->TyV->σ×Bool):∀(l m:List TyV) (b:σ),walk f b (l++m)=andThen (walk f b l) fun b'=>walk f b' m
 | [],m,b=>rfl
 | v::l,m,b=>by
  simp only[Ej,walk,PN]
  congr 1
  funext b';exact I9 f l m b'
theorem QC(f:σ->TyV->σ×Bool)(g:TyV->List TyV):∀(l:List TyV) (b:σ),walk f b (l.flatMap g)=walk (fun b v=>walk f b (g v)) b l
 | [],b=>rfl
 | v::l,b=>by
  simp only[List.flatMap_cons,I9,walk]
  congr 1
  funext b';exact QC f g l b'
theorem XO(f:σ->TyV->σ×Bool)(l:List TyV)(i:Nat)(hi:i<l.length)(b b':σ)(h:walk f b (l.take i)=(b',true)):walk f b (l.take (i+1))=f b' l[i]:=by
 rw[<- Cf hi,I9,h];show andThen (f b' l[i]) (fun b=>(b,true))=_;exact MO _
theorem XP(f:σ->TyV->σ×Bool)(l:List TyV)(i:Nat)(b b':σ)(h:walk f b (l.take i)=(b',false)):walk f b l=(b',false):=by
 have e:=I9 f (l.take i) (l.drop i) b;rw[QQ]at e;rw[e,h];rfl
structure Con(g:FuncId)(cap:List AV)(M:Nat->Prop)(P:σ->AE->Prop)(f:σ->TyV->σ×Bool)(V:TyV->Prop):Prop where
 prim:MX.prim g=none
 mode:MX.mode g = { }
 call:∀ b H u row,P b H->Fy H u row->V u->∃ H',AH MX (AG MX) g (.agg row::cap) H=some (.ret (.bool (f b u).2),H')/\P (f b u).1 H'/\Ext M H H'
 keep:∀ b H H',P b H->Ext NoM H H'->P b H'
end
theorem BT.ext:∀(n:Nat) {M S:Nat->Prop} {H H':AE} {v:AV} {s:Sh},BT n S H v s->Ext M H H'->(∀ x,S x->¬ M x)->BT n S H' v s
 | 0,_,_,_,_,_,_,h,_,_=>h
 | n+1,M,S,H,H',v,.bit m,⟨id,h1,h2,h3⟩,x,hm=>⟨id,h1,h2,x.var h3 (hm id h2)⟩
 | n+1,M,S,H,H',v,.cons ns ss,⟨id,h1,h2,w,es,h3,h4,h5,h6,h7⟩,x,hm=>by
  refine⟨id,h1,h2,w,es,x.var h3 (hm id h2),h4,h5,?_,fun k e nm parts a b c => ?_⟩
  .rcases h6 with h | ⟨j,g1,g2,g3⟩
   .exact .inl h
   .exact .inr ⟨j,g1,g2,x.keep g3 (hm j g1) fun _ _ e=>by cases e⟩
  .obtain⟨pv,d1,d2⟩:=h7 k e nm parts a b c;refine⟨pv,d1,?_⟩;rcases d2 with d2 | ⟨q,ptrs,c0,c1,c2,c3,c4,c5⟩
   .exact .inl d2
   .refine .inr ⟨q,ptrs,c0,c1,c2,x.keep c3 (hm q c1) (fun _ _ e=>by cases e),c4,fun k p s a b => ?_⟩;obtain⟨v,e1,e2⟩:=c5 k p s a b;exact⟨v,e1,BT.ext n e2 x hm⟩
theorem IQ.ext{n:Nat}{M S:Nat->Prop}{H H':AE}{pv:AV}{parts:List Sh}(h:IQ (BT n S H) S H pv parts)(x:Ext M H H')(hm:∀ x,S x->¬ M x):IQ (BT n S H') S H' pv parts:=by
 rcases h with d2 | ⟨q,ptrs,c0,c1,c2,c3,c4,c5⟩
 .exact .inl d2
 .refine .inr ⟨q,ptrs,c0,c1,c2,x.keep c3 (hm q c1) (fun _ _ e=>by cases e),c4,fun k p s a b => ?_⟩;obtain⟨v,e1,e2⟩:=c5 k p s a b;exact⟨v,e1,BT.ext n e2 x hm⟩
end
section
attribute [local simp] Dc Bn Ec Dd CQ Dx Dy Ey BZ Ap Bh Av Gb FR EN HO D9 A5 FN EO HP HQ xUn FC EA FT BG DQ BH EB BI EC Ce Ca Bv BL EP Eo
 ev evs C4 DP OR.ofV OR.D4 OR.ofC Fg Tm.get Tm.init Tm.only Ay A6 Bt finish CK DS Hb D3 D7 unA Bz Bc B6 Bd Cp Cq Cr Be Cs Ct Bf Cu Cv Bg B7 AL CP Bb Cn Co Bx Ez E0 E1 Dz D0 Fo F7 F8 Fp stA BA DY Bo DR FD Gp B8 C1 CI FU Gq
attribute [local simp] DE CT Cb Bl DF DG DH DI DJ DK DL Ef Cg Eg Dh FW FX Gi Di Eh Dj BQ Dk BR Dl B9 Ei Ch FY FZ Fa Ci Dm Dn Fb Gj Fc Gk Gl Dp BS Cj CA Dq Dr Ck
section
variable{σ:Type}{g:FuncId}{cap:List AV}{M:Nat->Prop}{P:σ->AE->Prop}{f:σ->TyV->σ×Bool}{V:TyV->Prop}
theorem jD(con:Con g cap M P f V){n:Nat}{S:Nat->Prop}{H:AE}{v:AV}{m:Int}(hs:BT n S H v (.bit m))(h0:1<=m)(h1:m<=16)(hm:∀ x,S x->¬ M x)(hV:∀ u∈Cw (.bit m),V u){b:σ}(hP:P b H) :
 ∃ H',AH MX (AG MX) 64 [v,.fn g [] cap] H=some (.ret (.bool (walk f b (Cw (.bit m))).2),H')/\P (walk f b (Cw (.bit m))).1 H'/\Ext M H H':=by
 cases n with
 | zero=>exact absurd hs (fun h=>h)
 | succ n=>
  obtain⟨id,rfl,hS,hid⟩:=hs;have h116:=c116 hid (.inl ⟨rfl,rfl⟩) (es:=[]);have hprim:=con.prim;have hsl:=Vz m h0 h1;have hPb:2 ^ m.toNat<=65536:=Cz (Lj (by decide) (show m.toNat<=16 by omega)) (by decide);have hlen:(Cw (.bit m)).length=2 ^ m.toNat:=by simp[Cw]
  have hel:∀ i (hi:i<(Cw (.bit m)).length),(Cw (.bit m))[i]=.mk 0 (i:Int) [] []:=fun i hi=>by simp[Cw]
  obtain⟨L,hL⟩:∃ L,L=Cw (.bit m):=⟨_,rfl⟩;rw[<- hL]at hlen hel hV ⊢;rw[<- hlen]at hPb hsl;obtain⟨e,st,hlp,hq⟩:=AQ (M:=MX) (fid:=64) (N:=38) (C:=AG MX) (c:=AL f64 0) (n:=L.length)
   (fun i (c:σ×AE)=>([(1,.fn g [] cap),(14,.int .i64 L.length),(15,.int .i64 i)],c.2))
   (fun i c=>walk f b (L.take i)=(c.1,true)/\P c.1 c.2/\Ext M H c.2)
   (fun r=>∃ c:σ×AE,(r=(.ext 0,([(1,.fn g [] cap),(14,.int .i64 L.length),(15,.int .i64 L.length),(16,.bool false)],c.2))/\walk f b L=(c.1,true)/\P c.1 c.2/\Ext M H c.2)\/(r=(.ret,([(4,.bool false)],c.2))/\walk f b L=(c.1,false)/\P c.1 c.2/\Ext M H c.2)) (fun i c hi hI=>by
     obtain⟨b',H1⟩:=c;obtain⟨i1,i2,i3⟩:=hI;have hi':=Aa hi;have hw:=AZ hi (show L.length<1048577 by omega);have hrow:Fy H1 L[i] [.str [],.int .i64 i,.AI]:=by
      rw[hel i hi];exact⟨rfl,_,rfl,.inl (.inl ⟨rfl,rfl⟩)⟩
     obtain⟨H2,c1,c2,c3⟩:=con.call b' H1 L[i] _ i2 hrow (hV _ (An hi));have hwt:=XO f L i hi b b' i1;cases hf:(f b' L[i]).2 with
     | true=>
      rw[hf]at c1;exact .inl ⟨((f b' L[i]).1,H2),by simp[f64,hi',hprim,c1,hw],by rw[hwt,<- hf],c2,i3.trans c3⟩
     | false=>
      rw[hf]at c1;have hst:=XP f L (i+1) b (f b' L[i]).1 (by rw[hwt,<- hf]);exact .inr ⟨_,_,by simp[f64,hi',hprim,c1] <;> first | exact⟨rfl,rfl⟩ | rfl,by simp,((f b' L[i]).1,H2),.inr ⟨rfl,hst,c2,i3.trans c3⟩⟩) (fun c hI=>by
     obtain⟨b',H1⟩:=c;obtain⟨i1,i2,i3⟩:=hI;rw[Gu]at i1;exact⟨_,_,by simp[f64] <;> first | exact⟨rfl,rfl⟩ | rfl,by simp,(b',H1),.inl ⟨rfl,i1,i2,i3⟩⟩) (b,H) ⟨rfl,hP,Ext.refl H⟩
  simp[f64]at hlp;simp at h116;obtain⟨⟨b',H1⟩,hq⟩:=hq;rcases hq with⟨hq,hz,h2,h3⟩ | ⟨hq,hz,h2,h3⟩ <;> cases hq <;> rw[hz] <;>
   exact⟨H1,CU U9 YX (by simp[AJ,f64,h116,hid,hsl,hlp]),h2,h3⟩
end
theorem gc7{R T:AE}{A B C:Blk}:(R++A::B::C::T)[R.length+2]? = some C:=by
 rw[En (by omega)];simp
theorem row3{H:AE}{u:TyV}{row:List AV}(h:Fy H u row):∃ pv,row=[.str u.nm,.int .i64 u.v,pv]/\pv.cells=some [pv]:=by
 obtain⟨_,pv,rfl,h | ⟨j,lk,es,rfl,_⟩⟩:=h
 .exact⟨pv,rfl,h.cells⟩
 .exact⟨_,rfl,rfl⟩
theorem LY.cells{H:AE}{us:List TyV}{pv:AV}(h:LY H us pv):pv.cells=some [pv]:=by
 rcases h with⟨_,rfl⟩ | ⟨j,lk,es,_,rfl,_⟩ <;> rfl
theorem LY.len{H:AE}{us:List TyV}{pv:AV}(h:LY H us pv)(G:AE):Bi pv G=some (.val (.int .i64 us.length) G):=by
 rcases h with⟨rfl,rfl⟩ | ⟨j,lk,es,_,rfl,_⟩ <;> rfl
theorem V2{T:AE}{us:List TyV}{pvv x:AV}{row:List AV}{es:List (List AV)}(hx:Bu 3 x=true)(hxs:∀ b,x≠.str b)(hrd:Ax T x=some [row])(hp:(us=[]/\pvv=.AI/\es=[])\/∃ j lk,us≠[]/\pvv=.hs j us.length 3 0 us.length false/\T[j]? = some (.arr 3 lk es)/\es.length=us.length)(hus:us.length<1048577) :
 ∃ cl,K8 3 [pvv]=some cl/\cl.cells=some [cl]/\apA 3 48 cl x T=some (.hs T.length (us.length+1) 3 0 (us.length+1) false,T++[.arr 3 false (es++[row])]):=by
 have s3:us.length+1<=17592186044416:=by omega
 have s4:(us.length+1) * 48<=17592186044416:=by omega
 have h0:∀ cl n,Fs cl=some n->apA 3 48 cl x T=apX 3 48 cl [row] n T:=fun cl n hl=>by
  unfold apA;cases x with
  | str b=>exact absurd rfl (hxs b)
  | _=>simp only[hx,hrd,hl]
 rcases hp with⟨rfl,rfl,rfl⟩ | ⟨j,lk,g0,rfl,g2,g3⟩
 .refine⟨.AI,rfl,rfl,?_⟩;rw[h0 .AI 0 rfl];simp[apX,Bu,BF,Aw,Ay,A6,Bt]
 .refine⟨.hs j us.length 3 0 us.length true,rfl,rfl,?_⟩;rw[h0 _ us.length rfl];have ht:List.take us.length es=es:=DU (by omega);simp only[apX,g2];simp[Bu,BF,Aw,Ay,A6,Bt,g3,s3,s4,ht]
theorem md7{G:AE}{x:Nat}(hx:x<G.length)(T T':AE):(x∈Da 0 (G++T) (G++T'))=False:=E6 (by simp;omega) (by rw[A9 hx,A9 hx])
theorem jE{G:AE}{a:Nat}{nm:Bytes}{cpv pvv:AV}{g:FuncId}{cap:List AV}{us:List TyV}{u:TyV}{row:List AV}(h1:G[a]? = some (.var false [.str nm,cpv]))(h2:G[a+1]? = some (.var false [pvv]))(h3:G[a+2]? = some (.var false [.fn g [] cap]))(hp:LY G us pvv)(hr:Fy G u row)(hus:us.length<1048577) :
 ∃(es:List (List AV)) (T:AE),es.length=us.length/\(∀(i:Nat) p e,us[i]? = some p->es[i]? = some e->Fy G p e)/\∀(c:Bool) (H':AE),AH MX (AG MX) 117 [.agg [.str nm,cpv],.hs (G.length+T.length) (us.length+1) 3 0 (us.length+1) false,.fn g [] cap] (G++(T++[.arr 3 false (es++[row])]))=some (.ret (.bool c),H') ->
  AH MX (AG MX) 164 [.agg row,.hp a 0,.hp (a+1) 0,.hp (a+2) 0] G=some (.ret (.bool c),H'):=by
 obtain⟨rv,rfl,hrc⟩:=row3 hr;have hb:=Wx;simp[Ab,Az,f164]at hb;have l3:=(Ac.1 h3).1;have e1:∀ T,(G++T)[a]? = some (.var false [.str nm,cpv]):=fun T=>by rw[A9 (by omega)];exact h1
 have e2:∀ T,(G++T)[a+1]? = some (.var false [pvv]):=fun T=>by rw[A9 (by omega)];exact h2
 have e3:∀ T,(G++T)[a+2]? = some (.var false [.fn g [] cap]):=fun T=>by rw[A9 (by omega)];exact h3
 have hpc:=hp.cells;have p165:MX.prim 165=some (K8 3):=rfl;have m0:=md7 (G:=G) (x:=a) (by omega);have m2:=md7 (G:=G) (x:=a+2) (by omega);have n1:¬ (a=G.length+1):=by omega
 have n2:¬ (a=G.length):=by omega
 have n3:¬ (a+1=G.length):=by omega
 have n4:¬ (a+2=G.length+1):=by omega
 obtain⟨es,hes,hrow,hpt⟩:∃ es:List (List AV),es.length=us.length/\(∀(i:Nat) p e,us[i]? = some p->es[i]? = some e->Fy G p e)/\∀ T,(us=[]/\pvv=.AI/\es=[])\/∃ j lk,us≠[]/\pvv=.hs j us.length 3 0 us.length false/\(G++T)[j]? = some (.arr 3 lk es)/\es.length=us.length:=by
  rcases hp with⟨rfl,rfl⟩ | ⟨j,lk,es,g0,rfl,g2,g3,g4⟩
  .exact⟨[],rfl,fun i p e h=>by simp at h,fun T=> .inl ⟨rfl,rfl,rfl⟩⟩
  .exact⟨es,g3,g4,fun T=> .inr ⟨j,lk,g0,rfl,Af g2 T,g3⟩⟩
 cases hrn:rv.AA with
 | true=>
  refine⟨es,[.var false [.str u.nm,.int .i64 u.v,rv]],hes,hrow,fun c H' hc=>CU OU VW ?_⟩;obtain⟨cl,k1,k2,k3⟩:=V2 (T:=G++[.var false [.str u.nm,.int .i64 u.v,rv]]) (x:=.sl 3 true [[.str u.nm,.int .i64 u.v,rv]]) (row:=[.str u.nm,.int .i64 u.v,rv]) rfl (fun b h=>by cases h) rfl (hpt _) hus;simp at hc k3;simp[AJ,f164,e1,e2,e3,p165,k1,hb,k3,hrc,hpc,k2,hrn,bsA,Ag,List.replicate,Aw,ga7,gb7,hc,AF,AV.AA,m0,m2]
 | false=>
  refine⟨es,[.var false [.str u.nm,.int .i64 u.v,rv],.arr 3 false [[.str u.nm,.int .i64 u.v,rv]]],hes,hrow,fun c H' hc=>CU OU VW ?_⟩;have hrd:Ax (G++[.var false [.str u.nm,.int .i64 u.v,rv],.arr 3 false [[.str u.nm,.int .i64 u.v,rv]]]) (.hs (G.length+1) 1 3 0 1 false)=some [[.str u.nm,.int .i64 u.v,rv]]:=by
   simp only[Ax,gb7];simp[Ay,A6]
  obtain⟨cl,k1,k2,k3⟩:=V2 (T:=G++[.var false [.str u.nm,.int .i64 u.v,rv],.arr 3 false [[.str u.nm,.int .i64 u.v,rv]]]) (x:=.hs (G.length+1) 1 3 0 1 false) (row:=[.str u.nm,.int .i64 u.v,rv]) rfl (fun b h=>by cases h) hrd (hpt _) hus;simp at hc k3;simp[AJ,f164,e1,e2,e3,p165,k1,hb,k3,hrc,hpc,k2,hrn,bsA,Ag,List.replicate,Aw,ga7,gb7,hc,AF,AV.AA,n1,n2,n3,n4,m0,m2]
theorem eT{H:AE}{cpv pvv:AV}{g:FuncId}{cap:List AV}{us:List TyV}{xs:List Sh}{nm:Bytes}(hp:LY H us pvv)(hcl:∀ G,Bi cpv G=some (.val (.int .i64 xs.length) G))(hcc:cpv.cells=some [cpv])(he:us.length=xs.length)(hus:us.length<1048577)(hprim:MX.prim g=none)(hmode:MX.mode g = { }) :
 ∃ r H1,Fy H1 (.mk 0 0 nm us) [.str nm,.int .i64 0,r]/\Ext NoM H H1/\∀(c:Bool) (H':AE),AH MX (AG MX) g (.agg [.str nm,.int .i64 0,r]::cap) H1=some (.ret (.bool c),H')->AH MX (AG MX) 117 [.agg [.str nm,cpv],pvv,.fn g [] cap] H=some (.ret (.bool c),H'):=by
 have hb:=Wg;simp[Ab,Az,f117]at hb;have hx:Ext NoM H (H++[.var false [.str nm,cpv],.var false [pvv],.var false [.fn g [] cap]]):=Ext.app _ _;obtain⟨r,H1,X,a1,a2,a3,a4⟩:=eS (hp.ext hx) hus;have hpc:=hp.cells;have hpl:=hp.len;have hrc:r.cells=some [r]:=by
  rcases a4 with⟨_,_,rfl | rfl⟩ | ⟨es,_,rfl,_⟩ <;> rfl
 refine⟨r,H1++X,a4.row a3 nm 0,(hx.trans a2).trans (Ext.app _ _),fun c H' hc=>CU R4 VI ?_⟩;have v0:(H1++X)[H.length]? = some (.var false [.str nm,cpv]):=(Ext.app H1 X).var (M:=NoM) (a2.var ga7 (fun h=>h)) (fun h=>h);have v2:(H1++X)[H.length+2]? = some (.var false [.fn g [] cap]):=(Ext.app H1 X).var (M:=NoM) (a2.var gc7 (fun h=>h)) (fun h=>h);have m0:(H.length∈Da 0 (H++[.var false [.str nm,cpv],.var false [pvv],.var false [.fn g [] cap]]) (H1++X))=False:=E6 (by simp) (by rw[v0,ga7]);have m2:(H.length+2∈Da 0 (H++[.var false [.str nm,cpv],.var false [pvv],.var false [.fn g [] cap]]) (H1++X))=False:=E6 (by simp) (by rw[v2,gc7]);simp[AJ,f117,hpl,hcl,he,a1,hb,hpc,hcc,hrc,hprim,hmode,hc,ga7,gb7,gc7,m0,m2,bsA,Ag,List.replicate]
theorem eU{H:AE}{pvv v':AV}{g:FuncId}{cap:List AV}{us:List TyV}{q n:Nat}{ptrs:List (List AV)}{nm:Bytes}(hp:LY H us pvv)(hq:H[q]? = some (.arr 1 false ptrs))(hpl:ptrs.length=n)(he:us.length<n)(hn:n<1048577)(hv:ptrs[us.length]? = some [v']) :
 ∀(c:Bool) (H':AE),AH MX (AG MX) 64 [v',.fn 164 [] [.hp H.length 0,.hp (H.length+1) 0,.hp (H.length+2) 0]] (H++[.var false [.str nm,.hs q n 1 0 n false],.var false [pvv],.var false [.fn g [] cap]])=some (.ret (.bool c),H') ->
  AH MX (AG MX) 117 [.agg [.str nm,.hs q n 1 0 n false],pvv,.fn g [] cap] H=some (.ret (.bool c),H'):=fun c H' hc=>by
 have hpc:=hp.cells;have hln:=hp.len;have lq:=(Ac.1 hq).1;have hne:¬ (us.length=n):=by omega
 have hix:ixA 1 (.hs q n 1 0 n false) (.int .i64 (us.length:Int))=some (.ep q n 1 us.length 0):=by
  rw[ED (kd:=.i64) (hi:=he),DW]
 have hrd:∀ T,(H++T)[q]? = some (.arr 1 false ptrs):=fun T=>Af hq T
 have hvv:ptrs[us.length]'(by omega)=[v']:=(Ac.1 hv).2;have hneI:((us.length:Int) == (n:Int))=false:=by rw[beq_eq_false_iff_ne];omega
 exact CU R4 VI (by simp[AJ,f117,hln,hneI,hne,hpc,hix,hrd,hpl,he,hvv,hc,ga7,gb7,gc7])
inductive ShW:Sh->Prop
 | bit (m:Int) (h0:1<=m) (h1:m<=16):ShW (.bit m)
 | cons (ns:List Bytes) (ss:List (List Sh)) (h1:ss.length=ns.length) (h2:ns≠[]) (h3:ns.length<1048577) (h4:∀ s∈ss,s.length<1048577) (h5:∀ s∈ss,∀ x∈s,ShW x) (h6:ns.Nodup) (h7:∀ n∈ns,n.length<1048577):ShW (.cons ns ss)
def Ok64(s:Sh):Prop:=∀(σ:Type) (g:FuncId) (cap:List AV) (M:Nat->Prop) (P:σ->AE->Prop) (f:σ->TyV->σ×Bool) (V:TyV->Prop),Con g cap M P f V->∀(n:Nat) (S:Nat->Prop) (H:AE) (v:AV) (b:σ),BT n S H v s->(∀ x,S x->¬ M x)->(∀ x,M x->x<H.length)->(∀ u∈Cw s,V u)->P b H ->
 ∃ H',AH MX (AG MX) 64 [v,.fn g [] cap] H=some (.ret (.bool (walk f b (Cw s)).2),H')/\P (walk f b (Cw s)).1 H'/\Ext M H H'
section
variable{σ:Type}{g:FuncId}{cap:List AV}{M:Nat->Prop}{P:σ->AE->Prop}{f:σ->TyV->σ×Bool}{V:TyV->Prop}
theorem aQ(b:σ)(v:TyV):walk f b [v]=f b v:=MO _
theorem Ue{b b':σ}{l:List TyV}(h:walk f b l=(b',false))(m:List TyV):walk f b (l++m)=(b',false):=by
 rw[I9,h];rfl
theorem c117{xs:List Sh}(hok:∀ x∈xs,Ok64 x)(hxl:xs.length<1048577)(nm:Bytes)(con:Con g cap M P f V){n:Nat}{S:Nat->Prop}(hS:∀ x,S x->¬ M x) :
 ∀(j:Nat) (H:AE) (cpv:AV) (us:List TyV) (pvv:AV) (b:σ),us.length+j=xs.length->IQ (BT n S H) S H cpv xs->LY H us pvv->(∀ x,M x->x<H.length)->(∀ ps∈Bk (xs.drop us.length),V (.mk 0 0 nm (us++ps)))->P b H ->
  ∃ H',AH MX (AG MX) 117 [.agg [.str nm,cpv],pvv,.fn g [] cap] H=some (.ret (.bool (walk f b ((Bk (xs.drop us.length)).map fun ps=> .mk 0 0 nm (us++ps))).2),H')/\P (walk f b ((Bk (xs.drop us.length)).map fun ps=> .mk 0 0 nm (us++ps))).1 H'/\Ext M H H':=by
 intro j;induction j with
 | zero=>
  intro H cpv us pvv b hj hpt hps hM hV hP;have hj:us.length=xs.length:=by omega
  have hd:xs.drop us.length=[]:=by rw[hj];simp
  rw[hd]at hV ⊢;have hV:=hV [] (by simp[Bk]);have hlist:(Bk []).map (fun ps=>TyV.mk 0 0 nm (us++ps))=[.mk 0 0 nm us]:=by simp[Bk]
  rw[hlist,aQ];rw[Hg]at hV;obtain⟨l1,_,l3⟩:=hpt.len;obtain⟨r,H1,a1,a2,a3⟩:=eT (nm:=nm) (cap:=cap) hps l1 l3 hj (by omega) con.prim con.mode;obtain⟨H',c1,c2,c3⟩:=con.call b H1 _ _ (con.keep b H H1 hP a2) a1 hV;exact⟨H',a3 _ _ c1,c2,a2.any.trans c3⟩
 | succ j ih=>
  intro H cpv us pvv b hj hpt hps hM hV hP;have hlt:us.length<xs.length:=by omega
  have hpt0:=hpt;rcases hpt with⟨h0,_⟩ | ⟨q,ptrs,h0,hSq,rfl,hq,hpl,hall⟩
  .rw[h0]at hlt;simp at hlt
  have hx:=AO hlt;have hp':=AO (l:=ptrs) (i:=us.length) (by omega);obtain⟨v',e1,hv'⟩:=hall us.length _ _ hp' hx;rw[e1]at hp';have hrun:=eU (g:=g) (cap:=cap) (nm:=nm) hps hq hpl hlt hxl hp';rw[EJ hlt]at hV ⊢;let B3:=Blk.var false [.str nm,.hs q xs.length 1 0 xs.length false];let B4:=Blk.var false [pvv];let B5:=Blk.var false [.fn g [] cap];let f1:σ->TyV->σ×Bool:=fun c u=>walk f c ((Bk (xs.drop (us.length+1))).map fun ps=> .mk 0 0 nm (us++u::ps))
  let V1:TyV->Prop:=fun u=>∀ ps∈Bk (xs.drop (us.length+1)),V (.mk 0 0 nm (us++u::ps))
  let P1:σ->AE->Prop:=fun c G=>P c G/\G[H.length]? = some B3/\G[H.length+1]? = some B4/\G[H.length+2]? = some B5/\LY G us pvv/\IQ (BT n S G) S G (.hs q xs.length 1 0 xs.length false) xs
  have con1:Con 164 [.hp H.length 0,.hp (H.length+1) 0,.hp (H.length+2) 0] M P1 f1 V1:=by
   refine⟨rfl,OU,fun c G u row hP1 hrow hV1 => ?_,fun c G G' hP1 hext => ?_⟩
   .obtain⟨p1,p2,p3,p4,p5,p6⟩:=hP1;have lG:=(Ac.1 p4).1;obtain⟨es,T,hes,hrows,hcall⟩:=jE p2 p3 p4 p5 hrow (by omega);have hG:Ext NoM G (G++(T++[.arr 3 false (es++[row])])):=Ext.app _ _;have hlu:(us++[u]).length=us.length+1:=(by simp);have hps':LY (G++(T++[.arr 3 false (es++[row])])) (us++[u]) (.hs (G.length+T.length) (us.length+1) 3 0 (us.length+1) false):=by
     refine .inr ⟨G.length+T.length,false,es++[row],by simp,by rw[hlu],?_,by simp[hes],fun i p e a1 a2 => ?_⟩
     .rw[<- CO,<- E2];exact BD _ _
     .by_cases hi:i<us.length
      .rw[A9 hi]at a1;rw[A9 (by omega)]at a2;exact(hrows i p e a1 a2).ext hG
      .have hi2:i=us.length:=by
        have:=(Ac.1 a1).1;rw[hlu]at this;omega
       subst hi2;rw[En (by omega),Nat.sub_self]at a1;rw[En (by omega),hes,Nat.sub_self]at a2;simp at a1 a2;subst a1;subst a2;exact hrow.ext hG
    obtain⟨H',c1,c2,c3⟩:=ih (G++(T++[.arr 3 false (es++[row])])) _ (us++[u]) _ c (by rw[hlu];omega) (p6.ext hG (fun x _ h=>h)) hps' (fun x hx=>by have:=hM x hx;rw[E2];omega) (by
     intro ps hps;rw[hlu]at hps;have:=hV1 ps hps;rw[CO];exact this) (con.keep c G _ p1 hG)
    rw[hlu]at c1 c2;have hl2:((Bk (xs.drop (us.length+1))).map fun ps=>TyV.mk 0 0 nm (us++[u]++ps))=(Bk (xs.drop (us.length+1))).map fun ps=> .mk 0 0 nm (us++u::ps):=by
     apply List.map_congr_left;intro ps _;rw[CO];rfl
    rw[hl2]at c1 c2;have hx':=hG.any.trans c3;have nl:∀ k,k<3->¬ M (H.length+k):=fun k _ h=>by have:=hM _ h;omega
    refine⟨H',hcall _ _ c1,⟨c2,hx'.var p2 (nl 0 (by decide)),hx'.var p3 (nl 1 (by decide)),hx'.var p4 (nl 2 (by decide)),p5.ext hx',p6.ext hx' hS⟩,hx'⟩
   .obtain⟨p1,p2,p3,p4,p5,p6⟩:=hP1;exact⟨con.keep c G G' p1 hext,hext.var p2 (fun h=>h),hext.var p3 (fun h=>h),hext.var p4 (fun h=>h),p5.ext hext,p6.ext hext (fun x _ h=>h)⟩
  have hx0:Ext NoM H (H++[B3,B4,B5]):=Ext.app _ _;have hP1:P1 b (H++[B3,B4,B5]):=⟨con.keep b H _ hP hx0,ga7,gb7,gc7,hps.ext hx0,hpt0.ext hx0 (fun x _ h=>h)⟩;obtain⟨H',c1,c2,c3⟩:=hok _ (An hlt) σ 164 _ M P1 f1 V1 con1 n S _ v' b (BT.ext n hv' hx0 (fun x _ h=>h)) hS (fun x hx=>by have:=hM x hx;rw[E2];omega) (fun u hu ps hps=>hV (u::ps) (by
   simp only[Bk,List.mem_flatMap,E3];exact⟨u,hu,ps,hps,rfl⟩)) hP1
  have hw:walk f b ((Bk (xs[us.length]::xs.drop (us.length+1))).map fun ps=> .mk 0 0 nm (us++ps))=walk f1 b (Cw xs[us.length]):=by
   have:((Bk (xs[us.length]::xs.drop (us.length+1))).map fun ps=>TyV.mk 0 0 nm (us++ps))=(Cw xs[us.length]).flatMap fun v=>(Bk (xs.drop (us.length+1))).map fun ps=> .mk 0 0 nm (us++v::ps):=by
    simp only[Bk,List.map_flatMap,List.map_map];rfl
   rw[this,QC]
  rw[hw];exact⟨H',hrun _ _ c1,c2.1,hx0.any.trans c3⟩
end
end
end Go.Proofs.Am12
