/- The abstract machine of this claim, part 15. -/
import Derived.Test.YtggemipepaajmaaGreatChk14
set_option linter.unusedSimpArgs false
set_option linter.unusedVariables false
set_option linter.unusedSectionVars false
set_option linter.unnecessarySimpa false
namespace Go.Proofs.Am12
open Go Go.Am
attribute [local simp] Dq B8 EL Dr CS Ds Dt Ee BT BP Bb Ap Fy Ez D9 Gn D1 A4 El EA Gp Gq xUn Ej D2 E0 BF C7 BG D3 BH D4 Cb CV Bx BE EB EK
 ev evs C3 C4 OR.ofV OR.DQ OR.ofC E6 Tm.get Tm.init Tm.only A2 A7 CF finish B6 Cm Gm Db D0 unA CA Bg CB Bh Cp Cq Cr Bi Cs Ct Bj Cu Cv Bk CC AP CJ Bf Cn Co B9 Ef Eg Eh Du Dv FM Fa Fb FN stA A3 DE B7 C8 Ek GH CD DA CG E1 GI
set_option maxHeartbeats 1000000
attribute [local simp] DH CU CM Bl DI DJ DK DL DM DN DP ES Cy ET Df FC FD Ga Dg EU Dh BU Di BV Dj CP EV Cz FE FF FG C0 Dk Dl FH Gb FI Gc Gd Dm BW C1 CQ Dn Dp C2
theorem Tv {f:FuncId} {id:Nat} {k v:Int} {s:Bytes} {pv:AV} {h:AE} {b:Bool} {ps:List TyV} (hps:SlR AU 4 ps pv) (hh:h[id]? = some (.var b [.int .i64 k,.int .i64 v,.str s,pv])):snap CX (.fn f [] [.hp id 0]) h=some (.fn f [] [.ro [.int .i64 k,.int .i64 v,.str s,pv]],h.set id (.var true [.int .i64 k,.int .i64 v,.str s,pv])):=by
 have hpv:=hps.AD
 have:BC 9 (.fn f [] [.hp id 0]) h (.fn f [] [.ro [.int .i64 k,.int .i64 v,.str s,pv]]) (h.set id (.var true [.int .i64 k,.int .i64 v,.str s,pv])):=fun n=>by
  rcases hps with ⟨_,rfl⟩ | ⟨ex,es,rfl,_⟩ <;> simp [AV.AD] at hpv <;> simp [Am.snap,Am.FZ,AG,AV.AD,hh,hpv]
 exact this.at (by decide)
theorem c176 {d:AO} {dx:List AV} (hd:Ac d dx) (k v:Int) (s:Bytes) (pv:AV) (h:AE):∃ B,AK MX (AH MX) 176 [.agg dx,.ro [.int .i64 k,.int .i64 v,.str s,pv]] h=some (.ret (.bool (d.nm == s)),h++[B]):=by
 obtain ⟨qv,cv,rfl,hp,hc⟩:=hd.dest
 refine ⟨_,Dy Sp Vh (by simp [AN,Tryz.f176] <;> first | exact ⟨rfl,rfl⟩ | rfl)⟩
theorem t175b {l:List AO} {w:AV} (k v:Int) (s:Bytes) (pv:AV) (hv:SlR Ac 3 l w) (hl:l.length<1048577):∃ G,AN MX 175 [w,.fn 176 [] [.ro [.int .i64 k,.int .i64 v,.str s,pv]]] []=some (.ret (.int .i64 (ixI (l.findIdx? (fun x:AO=>x.nm == s)))),G):=by
 obtain ⟨F,hF⟩:∃ F,F=AV.fn 176 [] [.ro [.int .i64 k,.int .i64 v,.str s,pv]]:=⟨_,rfl⟩
 rw [← hF]
 obtain ⟨e,st,hlp,hq⟩:=AR (M:=MX) (fid:=175) (N:=19) (C:=AH MX) (c:=AP Tryz.f175 0) (n:=l.length) (fun i (b:AE)=>([(0,w),(1,F),(7,.int .i64 l.length),(8,.int .i64 i)],b)) (fun i _=>∀ j (hj:j<l.length),j<i→(fun x:AO=>x.nm == s) l[j]=false)
  (fun r=>∃ b:AE,(r=(.ext 0,([(0,w),(1,F),(7,.int .i64 l.length),(8,.int .i64 l.length),(9,.bool false)],b))∧l.findIdx? (fun x:AO=>x.nm == s)=none)∨(∃ i:Nat,r=(.ret,([(4,.int .i64 i)],b))∧l.findIdx? (fun x:AO=>x.nm == s)=some i)) (fun i b hi hI=>by
    obtain ⟨e,he,hR⟩:=hv.ix hi
    have hi':=Aa hi
    have hw:=AZ hi hl
    obtain ⟨B,hcall⟩:=c176 hR k v s pv b
    obtain ⟨qv,cv,rfl,hp,hc⟩:=hR.dest
    cases hx:(l[i].nm == s) with
    | true=>rw [hx] at hcall;exact .inr ⟨_,_,by simp [Tryz.f175,hi',he,hcall,hF] <;> exact ⟨rfl,rfl⟩,by simp,b++[B],.inr ⟨i,rfl,EN (p:=(fun x:AO=>x.nm == s)) hi hI hx⟩⟩
    | false=>rw [hx] at hcall;exact .inl ⟨b++[B],by simp [Tryz.f175,hi',he,hcall,hw,hF],EP (p:=(fun x:AO=>x.nm == s)) hi hI hx⟩) (fun b hI=>by
    exact ⟨_,_,by simp [Tryz.f175] <;> exact ⟨rfl,rfl⟩,by simp,b,.inl ⟨rfl,EO (p:=(fun x:AO=>x.nm == s)) fun j hj=>hI j hj hj⟩⟩) [] (fun j _ h0=>by omega)
 simp [Tryz.f175] at hlp
 obtain ⟨b,hq⟩:=hq
 rcases hq with ⟨hq,hs⟩ | ⟨i,hq,hs⟩ <;> cases hq <;> exact ⟨b,by simp [AN,Tryz.f175,hv.len,hlp,hs,ixI]⟩
theorem c175b {l:List AO} {w:AV} {k v:Int} {s:Bytes} {pv:AV} {ps:List TyV} (hps:SlR AU 4 ps pv) (hv:SlR Ac 3 l w) (hl:l.length<1048577) {id:Nat} {b:Bool} {h:AE} (hk:h[id]? = some (.var b [.int .i64 k,.int .i64 v,.str s,pv])):AK MX (AH MX) 175 [w,.fn 176 [] [.hp id 0]] h=some (.ret (.int .i64 (ixI (l.findIdx? (fun x:AO=>x.nm == s)))),h.set id (.var true [.int .i64 k,.int .i64 v,.str s,pv])):=by
 obtain ⟨G,hG⟩:=t175b k v s pv hv hl
 have hpv:=hps.AD
 exact Eo (by simp [JK]) (args':=[w,.fn 176 [] [.ro [.int .i64 k,.int .i64 v,.str s,pv]]]) (by simp [Ax,hv.AD,Tv hps hk,AV.AD,AG]) (by simp [hv.AD,AV.AD,AG,hpv]) (Ae JK P2 (by simp [hv.AD,AV.AD,AG,hpv]) rfl hG _)
theorem c198 {u:TyV} {xs:List AV} (hu:AU u xs) {b:Nat} {lk:Bool} {H:AE} (hb:H[b]? = some (.var lk xs)):AK MX (AH MX) 198 [.hp b 0] H=some (.ret (.hp H.length 0),H++[.var false [.int .i64 u.v,.AI]]):=by
 obtain ⟨pv,rfl,hp⟩:=hu.AY
 exact BI S0 Vr (by simp [AN,Tryz.f198,hb])
theorem c179 {u:TyV} {xs:List AV} (hu:AU u xs) {own:Nat} {es:List (Bytes×AV)} {H:AE} (ho:H[own]? = some (.mp (mpE es))) (p:Bytes) (pm:AV) :
  (u.k=2→AK MX (AH MX) 179 [.hm own,.str p,.agg xs,pm] H=some (.ret (.tup []),(H++[Blk.var false xs]).set own (.mp (mpE (HH p (.fn 198 [] [.hp H.length 0]) es))))) ∧
  (u.k=1→AK MX (AH MX) 179 [.hm own,.str p,.agg xs,pm] H=some (.ret (.tup []),H++[Blk.var false xs])) ∧
  (∀ f,u.k=0→lkA (some .string) .FY pm (.str u.nm) false (H++[Blk.var false xs])=some f→AK MX (AH MX) 179 [.hm own,.str p,.agg xs,pm] H=some (.ret (.tup []),(H++[Blk.var false xs]).set own (.mp (mpE (HH p f es))))):=by
 obtain ⟨pv,rfl,hp⟩:=hu.AY
 have ho':=Al ho [Blk.var false [.int .i64 u.k,.int .i64 u.v,.str u.nm,pv]]
 have hup:=Tu ho' p
 refine ⟨fun hk => ?_,fun hk => ?_,fun f hk hf => ?_⟩
 ·have h2:(u.k == 2)=true:=by simp [hk]
  exact BI Kn Mb (by simp [AN,Tryz.f179,h2,hup])
 ·have h2:(u.k == 2)=false:=by simp [hk]
  have h0:(u.k == 0)=false:=by simp [hk]
  exact BI Kn Mb (by simp [AN,Tryz.f179,h2,h0])
 ·have h2:(u.k == 2)=false:=by simp [hk]
  have h0:(u.k == 0)=true:=by simp [hk]
  exact BI Kn Mb (by simp [AN,Tryz.f179,h2,h0,hf,hup])
theorem c177 {u:TyV} {xs:List AV} (hu:AU u xs) {pm:AV} {H:AE}:(u.k≠0→AK MX (AH MX) 177 [.agg xs,pm] H=some (.ret (.int .i64 u.v),H++[Blk.var false xs])) ∧
  (∀ f b r m w H',u.k=0→f=.fn 198 [] [.hp b 0]→lkA (some .string) .FY pm (.str u.nm) false (H++[Blk.var false xs])=some f→AK MX (AH MX) 198 [.hp b 0] (H++[Blk.var false xs])=some (.ret (.hp r 0),H')→H'[r]? = some (.var false [.int .i64 m,w])→AK MX (AH MX) 177 [.agg xs,pm] H=some (.ret (.int .i64 m),H')):=by
 obtain ⟨pv,rfl,hp⟩:=hu.AY
 refine ⟨fun hk => ?_,fun f b r m w H' hk hf hl hc hr => ?_⟩
 ·have hk':(u.k == 0)=false:=by simp [hk]
  exact BI NY P3 (by simp [AN,Tryz.f177,hk'])
 ·have h0:(u.k == 0)=true:=by simp [hk]
  subst hf
  exact BI NY P3 (by simp [AN,Tryz.f177,h0,hl,hc,hr])
def Lv (l:List AO) (lv:AV) (d:Nat) (t:TyV) (s:Sh):Prop:=∀ (u:TyV) (xs:List AV) (params:List Bytes) (args:List TyV) (pm:AV) (S:Nat→Prop) (H:AE),AU u xs→Ah l params u=0→(∀ a∈args,VT l a)→params.length=args.length→Br params args u=t→(∀ x,S x→x<H.length)→Gj (D8 l lv d S H) S H pm params args →
 ∃ v H',AK MX (AH MX) 144 [lv,.agg xs,pm] H=some (.ret v,H')∧H.length≤H'.length∧(∀ x,x<H.length→H'[x]? = H[x]?)∧BA (shD s) (fun x=>H.length≤x∧x<H'.length) H' v s
section
variable {l:List AO} {lv:AV} (hl:SlR Ac 3 l lv)
include hl
theorem c178 {d:Nat} {t:TyV} {s:Sh} (ih:Lv l lv d t s) {S:Nat→Prop} {H:AE} (hS:∀ x,S x→x<H.length) {a b c e:Nat} {la lb lc le:Bool} {u:TyV} {xs:List AV} {pm:AV} {params:List Bytes} {args:List TyV} {k:Nat} (hk:k<u.ps.length) (h2:H[a]? = some (.var la [lv])) (h3:H[b]? = some (.var lb xs)) (h4:AU u xs) (h5:H[c]? = some (.var lc [.int .i64 k])) (h6:H[e]? = some (.var le [pm])) (h7:Gj (D8 l lv d S H) S H pm params args) (h8:Ah l params u.ps[k]=0) (h9:∀ x∈args,VT l x) (h10:params.length=args.length) (h11:Br params args u.ps[k]=t) :
  ∃ v H',AK MX (AH MX) 178 [.hp a 0,.hp b 0,.hp c 0,.hp e 0] H=some (.ret v,H')∧H.length≤H'.length∧(∀ x,x<H.length→H'[x]? = H[x]?)∧BA (shD s) (fun x=>H.length≤x∧x<H'.length) H' v s:=by
 obtain ⟨pv,rfl,hp⟩:=h4.AY
 obtain ⟨fe,hfe,hR⟩:=hp.ix hk
 obtain ⟨v,H',q1,q2,q3,q4⟩:=ih u.ps[k] fe params args pm S H hR h8 h9 h10 h11 hS h7
 obtain ⟨qv,rfl,hq⟩:=hR.AY
 have hb:=Q4
 simp [BK,Be,Tryz.f178] at hb
 exact ⟨v,H',BI Sq Vi (by simp [AN,Tryz.f178,h2,h3,h5,h6,Ag h2,Ag h3,Ag h5,Ag h6,hfe,q1,hb]),q2,q3,q4⟩
theorem Tw {d:Nat} {t:TyV} {s:Sh} (ht:t.k=1) (ih:∀ d',d'<d→Lv l lv d' t s) {u:TyV} {xs:List AV} {params:List Bytes} {args:List TyV} {pm:AV} {S:Nat→Prop} {H:AE} (hu:AU u xs) (hk:u.k=0) (hv:Ah l params u=0) (hln:params.length=args.length) (hr:Br params args u=t) (hS:∀ x,S x→x<H.length) (hE:Gj (D8 l lv d S H) S H pm params args) :
  ∃ v H',AK MX (AH MX) 144 [lv,.agg xs,pm] H=some (.ret v,H')∧H.length≤H'.length∧(∀ x,x<H.length→H'[x]? = H[x]?)∧BA (shD s) (fun x=>H.length≤x∧x<H'.length) H' v s:=by
 obtain ⟨i,hi,hp,hti⟩:∃ i,∃ hi:i<params.length,params[i]=u.nm∧args[i]'(by omega)=t:=by
  cases u with
  | mk k v nm ps=>
   have hk:k=0:=hk
   subst hk
   rw [Bd] at hv
   have hne:=hv.2.1 rfl
   cases hf:params.findIdx? (fun x=>x == nm) with
   | none=>exact absurd hf hne
   | some i=>
    have hil:=F3 hf
    have hnm:params[i]=nm:=by
     have h3:=hf
     rw [List.findIdx?_eq_some_iff_getElem] at h3
     exact beq_iff_eq.1 h3.2.1
    refine ⟨i,hil,hnm,?_⟩
    rw [← hr]
    simp only [Br,if_true,hf]
    rw [List.getD_eq_getElem?_getD,List.getElem?_eq_getElem (by omega)]
    rfl
 have hcp:=hE.cells
 rcases hE with ⟨h0,_⟩ | ⟨id,es,hid,rfl,hmp,hfn⟩
 ·rw [h0] at hi;cases hi
 obtain ⟨f,hf,hC⟩:=hfn i _ _ (List.getElem?_eq_getElem hi) (List.getElem?_eq_getElem (by omega))
 rw [hp] at hf
 rw [hti] at hC
 obtain ⟨pv,rfl,hpv⟩:=hu.AY
 let T:=[Blk.var false [lv],.var false [.int .i64 u.k,.int .i64 u.v,.str u.nm,pv],.var false [.hm id]]
 have hS':∀ x,S x→x<(H++T).length:=fun x hx=>by have:=hS x hx;simp;omega
 have hX:∀ x,S x→(H++T)[x]? = H[x]? := fun x hx=>List.getElem?_append_left (hS x hx)
 have hC':=D8.mono d hC (fun _ h=>h) hX
 have hlk:=PL (Al hmp T) hf
 cases d with
 | zero=>exact hC.elim
 | succ d=>
  rcases hC' with ⟨h2,_⟩ | ⟨_,a,b,c,e,la,lb,lc,le,u',xs',pm',params',args',k,hk',rfl,s1,s2,s3,s4,g2,g3,g4,g5,g6,g7,g8,g9,g10,g11⟩
  ·omega
  obtain ⟨v,H',q1,q2,q3,q4⟩:=c178 hl (ih d (by omega)) hS' hk' g2 g3 g4 g5 g6 g7 g8 g9 g10 g11
  have h0:(u.k == 0)=true:=by simp [hk]
  simp only [T] at hlk q1
  refine ⟨v,H',BI JH KB ?_,by simp at q2;omega,fun x hx => ?_,BA.mono _ q4 (fun x hx=>⟨by have:=hx.1;simp at this;omega,hx.2⟩) (fun _ _=>rfl)⟩
  ·simp [AN,Tryz.f144,hl.cells,h0,hlk,q1]
  ·rw [q3 x (by simp;omega)]
   exact List.getElem?_append_left hx
theorem Tx (hll:l.length<1048577) {u:TyV} {pv pm:AV} (hp:SlR AU 4 u.ps pv) (H:AE):AK MX (AH MX) 175 [lv,.fn 176 [] [.hp (H.length+1) 0]] (H++[Blk.var false [lv],.var false [.int .i64 u.k,.int .i64 u.v,.str u.nm,pv],.var false [pm]])=some (.ret (.int .i64 (ixI (l.findIdx? (fun x:AO=>x.nm == u.nm)))),H++[Blk.var false [lv],.var true [.int .i64 u.k,.int .i64 u.v,.str u.nm,pv],.var false [pm]]):=by
 have:=c175b (w:=lv) hp hl hll (id:=H.length+1) (b:=false) (h:=H++[Blk.var false [lv],.var false [.int .i64 u.k,.int .i64 u.v,.str u.nm,pv],.var false [pm]]) (k:=u.k) (v:=u.v) (s:=u.nm) (by simp)
 rw [this]
 congr 2
 simp
theorem Yf (hll:l.length<1048577) {d:Nat} {t:TyV} {u:TyV} {xs:List AV} {params:List Bytes} {args:List TyV} {pm:AV} {S:Nat→Prop} {H:AE} (hu:AU u xs) (hk:u.k=1) (hb:u.nm=Cd) (hv:Ah l params u=0) (hln:params.length=args.length) (hr:Br params args u=t) (h2:(BM t).k=2) (hS:∀ x,S x→x<H.length) (hE:Gj (D8 l lv d S H) S H pm params args) :
  ∃ v H',AK MX (AH MX) 144 [lv,.agg xs,pm] H=some (.ret v,H')∧H.length≤H'.length∧(∀ x,x<H.length→H'[x]? = H[x]?)∧BA (shD (.bit (BM t).v)) (fun x=>H.length≤x∧x<H'.length) H' v (.bit (BM t).v):=by
 have hcp:=hE.cells
 obtain ⟨pv,rfl,hpv⟩:=hu.AY
 have h175:=Tx hl hll (pm:=pm) hpv H
 have hb5:=Qw
 simp [BK,Be,Tryz.f144] at hb5
 have hlen:0<u.ps.length:=by
  cases u with
  | mk k v nm ps=>
   have hk:k=1:=hk
   have hb:nm=Cd:=hb
   subst hk;subst hb
   rw [Bd] at hv
   have:=hv.2.2.1
   simp only [DT,if_true,beq_self_eq_true] at this
   have:=Option.some.inj this
   show 0<ps.length
   omega
 have harg:BM t=Br params args u.ps[0]:=by
  cases u with
  | mk k v nm ps=>
   have hk:k=1:=hk
   subst hk
   rw [← hr]
   have hlen:0<ps.length:=hlen
   have h1:¬ ((1:Int)=0):=by decide
   simp only [Br,h1,if_false,Ed]
   show (ps.map (Br params args)).getD 0 default=_
   rw [List.getD_eq_getElem?_getD,List.getElem?_eq_getElem (by simpa using hlen),List.getElem_map]
   rfl
 have ha0:Ah l params u.ps[0]=0:=by
  cases u with
  | mk k v nm ps=>
   rw [Bd] at hv
   exact hv.2.2.2.2 _ (List.getElem_mem hlen)
 obtain ⟨fe,hfe,hR⟩:=hpv.ix hlen
 have hfe0:ixA 4 pv (.int .i64 (0:Int))=some (.ro fe):=hfe .i64
 obtain ⟨a,ha⟩:∃ a,a=u.ps[0]:=⟨_,rfl⟩
 rw [← ha] at harg ha0 hR
 let T:=[Blk.var false [lv],.var true [.int .i64 u.k,.int .i64 u.v,.str u.nm,pv],.var false [pm]]
 obtain ⟨X,h177⟩:∃ X,AK MX (AH MX) 177 [.agg fe,pm] (H++T)=some (.ret (.int .i64 (BM t).v),H++(T++X)):=by
  by_cases hka:a.k=0
  ·-- a parameter
   obtain ⟨i,hi,hp,hti⟩:∃ i,∃ hi:i<params.length,params[i]=a.nm∧args[i]'(by omega)=BM t:=by
    cases a with
    | mk k v nm ps=>
     have hka:k=0:=hka
     subst hka
     rw [Bd] at ha0
     have hne:=ha0.2.1 rfl
     cases hf:params.findIdx? (fun x=>x == nm) with
     | none=>exact absurd hf hne
     | some i=>
      have hil:=F3 hf
      have hnm:params[i]=nm:=by
       have h3:=hf
       rw [List.findIdx?_eq_some_iff_getElem] at h3
       exact beq_iff_eq.1 h3.2.1
      refine ⟨i,hil,hnm,?_⟩
      rw [harg]
      simp only [Br,if_true,hf]
      rw [List.getD_eq_getElem?_getD,List.getElem?_eq_getElem (by omega)]
      rfl
   rcases hE with ⟨h0,_⟩ | ⟨id,es,hid,rfl,hmp,hfn⟩
   ·rw [h0] at hi;cases hi
   obtain ⟨f,hf,hC⟩:=hfn i _ _ (List.getElem?_eq_getElem hi) (List.getElem?_eq_getElem (by omega))
   rw [hp] at hf
   rw [hti] at hC
   cases d with
   | zero=>exact hC.elim
   | succ d=>
    rcases hC with ⟨_,b,lk,u',xs',rfl,s1,g1,g2,g3⟩ | ⟨h1,_⟩
    ·have hlk:=PL (Al (Al hmp T) [Blk.var false fe]) hf
     have g1':=Al (Al g1 T) [Blk.var false fe]
     have h198:=c198 g2 g1'
     have h177:=(c177 hR (pm:=.hm id) (H:=H++T)).2 _ b _ u'.v .AI _ hka rfl hlk h198 (by simp)
     rw [g3] at h177
     exact ⟨[Blk.var false fe,.var false [.int .i64 (BM t).v,.AI]],by rw [h177];simp⟩
    ·omega
  ·have h177:=(c177 hR (pm:=pm) (H:=H++T)).1 hka
   have hva:(BM t).v=a.v:=by
    rw [harg]
    cases a with
    | mk k v nm ps=>
     have hka:¬ k=0:=hka
     simp only [Br,hka,if_false]
     rfl
   rw [← hva] at h177
   exact ⟨[Blk.var false fe],by rw [h177];simp⟩
 simp only [T] at h177
 obtain ⟨qv,rfl,hq⟩:=hR.AY
 have h0:(u.k == 0)=false:=by simp [hk]
 have hbn:(u.nm == [66,105,116])=true:=by rw [hb];rfl
 refine ⟨.hp (H.length+(T++X).length) 0,H++(T++X)++[Blk.var false [.int .i64 (BM t).v,.AI]],BI JH KB ?_,by simp,fun x hx => ?_,?_⟩
 ·simp only [T]
  simp at h177
  simp [AN,Tryz.f144,hl.cells,hcp,h0,hbn,h175,hfe0,h177,hb5,Nat.add_assoc]
 ·rw [List.append_assoc]
  exact List.getElem?_append_left hx
 ·refine ⟨_,rfl,⟨by omega,by simp⟩,?_⟩
  rw [List.getElem?_append_right (by simp)]
  simp
end
theorem D8.up {l:List AO} {lv:AV}:∀ (d:Nat) {S:Nat→Prop} {H:AE} {f:AV} {t:TyV},D8 l lv d S H f t→D8 l lv (d+1) S H f t
 | 0,_,_,_,_,h=>h.elim
 | d+1,S,H,f,t,h=>by
  rcases h with h | ⟨h0,a,b,c,e,la,lb,lc,le,u,xs,pm,params,args,k,hk,h1,s1,s2,s3,s4,h2,h3,h4,h5,h6,h7,h8⟩
  ·exact .inl h
  ·exact .inr ⟨h0,a,b,c,e,la,lb,lc,le,u,xs,pm,params,args,k,hk,h1,s1,s2,s3,s4,h2,h3,h4,h5,h6,h7.mono (fun f t h=>D8.up d h) (fun _ h=>h) (fun _ _=>rfl),h8⟩
theorem Tz {X Y:AE} {n:Nat} (A B:Blk) (hn:n<X.length):(X.set n A++Y).set n B=(X++Y).set n B:=by
 rw [← List.set_append_left _ _ hn,List.set_set]
theorem T0 {X Y:AE} {n:Nat} (A:Blk) (hn:n<X.length):X.set n A++Y=(X++Y).set n A:=by
 rw [List.set_append_left _ _ hn]
structure PI (l:List AO) (lv:AV) (d:Nat) (H:AE) (u:TyV) (pv pm:AV) (params:List Bytes) (args:List TyV) (ps:List Bytes) (j:Nat) (b:AE) (es:List (Bytes×AV)):Prop where
 old:∀ x,x<H.length→b[x]? = H[x]?
 ba:b[H.length]? = some (.var false [lv])
 bb:b[H.length+1]? = some (.var true [.int .i64 u.k,.int .i64 u.v,.str u.nm,pv])
 be:b[H.length+2]? = some (.var false [pm])
 bo:b[H.length+3]? = some (.mp (mpE es))
 le:H.length+4≤b.length
 ent:∀ (m:Nat) p t,m<j→ps[m]? = some p→u.ps[m]? = some t→∃ f,G6 p es=some f∧D8 l lv (d+1) (fun x=>x<b.length∧x≠H.length+3) b f (Br params args t)
theorem PI.step {l:List AO} {lv:AV} {d:Nat} {H:AE} {u:TyV} {pv pm:AV} {params:List Bytes} {args:List TyV} {ps:List Bytes} {j:Nat} {b:AE} {es es':List (Bytes×AV)} (h:PI l lv d H u pv pm params args ps j b es) (hnd:ps.Nodup) {p:Bytes} {t:TyV} (hp:ps[j]? = some p) (ht:u.ps[j]? = some t) {X:AE} (he:∀ q,q≠p→G6 q es'=G6 q es)
  (hf:∃ f,G6 p es'=some f∧D8 l lv (d+1) (fun x=>x<(b++X).length∧x≠H.length+3) ((b++X).set (H.length+3) (.mp (mpE es'))) f (Br params args t)):PI l lv d H u pv pm params args ps (j+1) ((b++X).set (H.length+3) (.mp (mpE es'))) es':=by
 have hle:=h.le
 have hk:∀ x,x<b.length→x≠H.length+3→((b++X).set (H.length+3) (.mp (mpE es')))[x]? = b[x]? := fun x h1 h2=>by
  rw [List.getElem?_set_ne (fun e=>h2 e.symm),List.getElem?_append_left h1]
 refine ⟨fun x hx=>by rw [hk x (by omega) (by omega)];exact h.old x hx,by rw [hk _ (by omega) (by omega)];exact h.ba,by rw [hk _ (by omega) (by omega)];exact h.bb,by rw [hk _ (by omega) (by omega)];exact h.be,List.getElem?_set_self (by simp;omega),by simp;omega,fun m p' t' hm h1 h2 => ?_⟩
 by_cases hmj:m=j
 ·subst hmj
  rw [hp] at h1;cases h1
  rw [ht] at h2;cases h2
  obtain ⟨f,f1,f2⟩:=hf
  exact ⟨f,f1,D8.mono _ f2 (fun x hx=>⟨by rw [List.length_set];exact hx.1,hx.2⟩) (fun _ _=>rfl)⟩
 ·obtain ⟨f,f1,f2⟩:=h.ent m p' t' (by omega) h1 h2
  have hne:p'≠p:=fun e=>by
   subst e
   obtain ⟨a1,a2⟩:=List.getElem?_eq_some_iff.1 h1
   obtain ⟨b1,b2⟩:=List.getElem?_eq_some_iff.1 hp
   exact List.pairwise_iff_getElem.1 hnd m j a1 b1 (by omega) (a2.trans b2.symm)
  exact ⟨f,by rw [he p' hne];exact f1,D8.mono _ f2 (fun x hx=>⟨by simp;have:=hx.1;omega,hx.2⟩) (fun x hx=>hk x hx.1 hx.2)⟩
section
variable {l:List AO} {lv:AV} (hl:SlR Ac 3 l lv)
include hl
theorem params144 {d:Nat} {H:AE} {u:TyV} {pv pm:AV} (hu:AU u [.int .i64 u.k,.int .i64 u.v,.str u.nm,pv]) (hpv:SlR AU 4 u.ps pv) {params:List Bytes} {args:List TyV} {S:Nat→Prop} (hS:∀ x,S x→x<H.length) (hE:Gj (D8 l lv d S H) S H pm params args) (hua:∀ t∈u.ps,Ah l params t=0) (hva:∀ a∈args,VT l a) (hln:params.length=args.length)
  {ps:List Bytes} {qv:AV} (hq:SlR CI 1 ps qv) (hnd:ps.Nodup) (hps:ps.length=u.ps.length) (hpl:ps.length<1048577) {i:Nat} :
  ∃ (b:AE) (es:List (Bytes×AV)),Em MX 144 118 (AH MX) (AP Tryz.f144 0) ([(3,.hp H.length 0),(4,.hp (H.length+1) 0),(5,.hp (H.length+2) 0),(7,.int .i64 i),(8,.hm (H.length+3)),(53,qv),(54,.int .i64 ps.length),(55,.int .i64 (0:Nat))],H++[Blk.var false [lv],.var true [.int .i64 u.k,.int .i64 u.v,.str u.nm,pv],.var false [pm],.mp []]) =
   some (.ext 1,([(3,.hp H.length 0),(4,.hp (H.length+1) 0),(5,.hp (H.length+2) 0),(7,.int .i64 i),(8,.hm (H.length+3)),(53,qv),(54,.int .i64 ps.length),(55,.int .i64 ps.length),(56,.bool false)],b))∧PI l lv d H u pv pm params args ps ps.length b es:=by
 have hb13:=Ot
 simp [BK,Be,Tryz.f144] at hb13
 obtain ⟨e,st,hlp,hq'⟩:=AR (M:=MX) (fid:=144) (N:=118) (C:=AH MX) (c:=AP Tryz.f144 0) (n:=ps.length)
  (fun j (b:AE×List (Bytes×AV))=>([(3,.hp H.length 0),(4,.hp (H.length+1) 0),(5,.hp (H.length+2) 0),(7,.int .i64 i),(8,.hm (H.length+3)),(53,qv),(54,.int .i64 ps.length),(55,.int .i64 j)],b.1))
  (fun j b=>PI l lv d H u pv pm params args ps j b.1 b.2)
  (fun r=>∃ b:AE×List (Bytes×AV),r=(.ext 1,([(3,.hp H.length 0),(4,.hp (H.length+1) 0),(5,.hp (H.length+2) 0),(7,.int .i64 i),(8,.hm (H.length+3)),(53,qv),(54,.int .i64 ps.length),(55,.int .i64 ps.length),(56,.bool false)],b.1))∧PI l lv d H u pv pm params args ps ps.length b.1 b.2) (fun j b hj hI=>by
    obtain ⟨b,es⟩:=b
    have hI:PI l lv d H u pv pm params args ps j b es:=hI
    have hj':=Aa hj
    have hw:=AZ hj hpl
    obtain ⟨pe,hpe,hpR⟩:=hq.ix hj
    have hpR:pe=[.str ps[j]]:=hpR
    subst hpR
    have hju:j<u.ps.length:=by omega
    obtain ⟨fe,hfe,hfR⟩:=hpv.ix hju
    have hle:=hI.le
    have hn0:=hua _ (List.getElem_mem hju)
    -- the map with the thunk
    let F:=AV.fn 178 [] [.hp H.length 0,.hp (H.length+1) 0,.hp b.length 0,.hp (H.length+2) 0]
    let b1:=(b++[Blk.var false [.int .i64 j]]).set (H.length+3) (.mp (mpE (HH ps[j] F es)))
    have hup:=Tu (Al hI.bo [Blk.var false [.int .i64 j]]) ps[j] F
    have hb1:b1[H.length+3]? = some (.mp (mpE (HH ps[j] F es))):=List.getElem?_set_self (by simp;omega)
    have hk1:∀ x,x<b.length→x≠H.length+3→b1[x]? = b[x]? := fun x h1 h2=>by
     show ((b++_).set _ _)[x]? = _
     rw [List.getElem?_set_ne (fun e=>h2 e.symm),List.getElem?_append_left h1]
    have hbb1:b1[H.length+1]? = some (.var true [.int .i64 u.k,.int .i64 u.v,.str u.nm,pv]):=by rw [hk1 _ (by omega) (by omega)];exact hI.bb
    have hbe1:b1[H.length+2]? = some (.var false [pm]):=by rw [hk1 _ (by omega) (by omega)];exact hI.be
    have hbn1:b1[b.length]? = some (.var false [.int .i64 j]):=by
     show ((b++_).set _ _)[b.length]? = _
     rw [List.getElem?_set_ne (by omega)];simp
    have hb1l:b1.length=b.length+1:=by simp [b1]
    -- what numbers does
    obtain ⟨es',h179,hne,hff⟩:∃ es',AK MX (AH MX) 179 [.hm (H.length+3),.str ps[j],.agg fe,pm] b1=some (.ret (.tup []),(b++[Blk.var false [.int .i64 j],.var false fe]).set (H.length+3) (.mp (mpE es')))∧(∀ q,q≠ps[j]→G6 q es'=G6 q es) ∧
      ∃ f,G6 ps[j] es'=some f∧D8 l lv (d+1) (fun x=>x<(b++[Blk.var false [.int .i64 j],.var false fe]).length∧x≠H.length+3) ((b++[Blk.var false [.int .i64 j],.var false fe]).set (H.length+3) (.mp (mpE es'))) f (Br params args u.ps[j]):=by
     obtain ⟨n2,n1,n0⟩:=c179 hfR hb1 ps[j] pm
     have hset:∀ es'',(b1++[Blk.var false fe]).set (H.length+3) (.mp (mpE es''))=(b++[Blk.var false [.int .i64 j],.var false fe]).set (H.length+3) (.mp (mpE es'')):=fun es''=>by
      show ((b++_).set _ _++_).set _ _=_
      rw [Tz _ _ (by simp;omega)]
      simp
     have hkk:∀ es'' x,x<b.length→x≠H.length+3→((b++[Blk.var false [.int .i64 j],.var false fe]).set (H.length+3) (.mp (mpE es'')))[x]? = b[x]? := fun es'' x h1 h2=>by
      rw [List.getElem?_set_ne (fun e=>h2 e.symm),List.getElem?_append_left h1]
     have hkH:∀ es'' x,S x→((b++[Blk.var false [.int .i64 j],.var false fe]).set (H.length+3) (.mp (mpE es'')))[x]? = H[x]? := fun es'' x hx=>by
      have:=hS x hx
      rw [hkk es'' x (by omega) (by omega)]
      exact hI.old x (hS x hx)
     have hSS:∀ x,S x→x<(b++[Blk.var false [.int .i64 j],.var false fe]).length∧x≠H.length+3:=fun x hx=>by
      have:=hS x hx
      simp;omega
     have hkind:(u.ps[j].k=0∨u.ps[j].k=1∨u.ps[j].k=2)∧(u.ps[j].k≠0→(Br params args u.ps[j]).k=u.ps[j].k∧(Br params args u.ps[j]).v=u.ps[j].v):=by
      generalize u.ps[j]=t at hn0
      cases t with
      | mk k v nm qs=>
       rw [Bd] at hn0
       refine ⟨?_,fun h => ?_⟩
       ·show k=0∨k=1∨k=2
        have:=hn0.1
        omega
       ·have h:¬ k=0:=h
        simp only [Br,h,if_false]
        exact ⟨rfl,rfl⟩
     obtain ⟨hk3,hkv⟩:=hkind
     rcases hk3 with hk | hk | hk
     ·-- a parameter
      obtain ⟨i',hi',hp',hti⟩:∃ i',∃ hi:i'<params.length,params[i']=u.ps[j].nm∧args[i']'(by omega)=Br params args u.ps[j]:=by
       generalize u.ps[j]=t at hn0 hk
       cases t with
       | mk k v nm qs=>
        have hk:k=0:=hk
        subst hk
        rw [Bd] at hn0
        have hne:=hn0.2.1 rfl
        cases hf:params.findIdx? (fun x=>x == nm) with
        | none=>exact absurd hf hne
        | some i=>
         have hil:=F3 hf
         have hnm:params[i]=nm:=by
          have h3:=hf
          rw [List.findIdx?_eq_some_iff_getElem] at h3
          exact beq_iff_eq.1 h3.2.1
         refine ⟨i,hil,hnm,?_⟩
         simp only [Br,if_true,hf]
         rw [List.getD_eq_getElem?_getD,List.getElem?_eq_getElem (by omega)]
         rfl
      rcases hE with ⟨h0,_⟩ | ⟨id,es0,hid,rfl,hmp,hfn⟩
      ·rw [h0] at hi';cases hi'
      obtain ⟨f,hf,hC⟩:=hfn i' _ _ (List.getElem?_eq_getElem hi') (List.getElem?_eq_getElem (by omega))
      rw [hp'] at hf
      rw [hti] at hC
      have hidl:=hS id hid
      have hmp1:(b1++[Blk.var false fe])[id]? = some (.mp (mpE es0)):=by
       rw [List.getElem?_append_left (by omega),hk1 id (by omega) (by omega),hI.old id hidl]
       exact hmp
      refine ⟨HH ps[j] f (HH ps[j] F es),by rw [n0 f hk (PL hmp1 hf),hset],fun q hq=>by rw [IK hq,IK hq],f,JV _ _ _,?_⟩
      exact D8.up d (D8.mono d hC hSS (hkH _))
     ·-- a thunk
      refine ⟨HH ps[j] F es,by
       rw [n1 hk]
       show some (_,(b++_).set _ _++_)=_
       rw [T0 _ (by simp;omega)]
       simp,fun q hq=>IK hq _ _,F,JV _ _ _,.inr ⟨by rw [(hkv (by omega)).1];exact hk,H.length,H.length+1,b.length,H.length+2,false,true,false,false,u,_,pm,params,args,j,hju,rfl,⟨by simp;omega,by omega⟩,⟨by simp;omega,by omega⟩,⟨by simp,by omega⟩,⟨by simp;omega,by omega⟩,by rw [hkk _ _ (by omega) (by omega)];exact hI.ba,by rw [hkk _ _ (by omega) (by omega)];exact hI.bb,?_,by rw [List.getElem?_set_ne (by omega)];simp,by rw [hkk _ _ (by omega) (by omega)];exact hI.be,hE.mono (fun f t h=>D8.mono d h hSS (hkH _)) hSS (hkH _),hn0,hva,hln,rfl⟩⟩
      exact hu
     ·-- a number
      refine ⟨HH ps[j] (.fn 198 [] [.hp b1.length 0]) (HH ps[j] F es),by rw [n2 hk,hset],fun q hq=>by rw [IK hq,IK hq],_,JV _ _ _,.inl ⟨by rw [(hkv (by omega)).1];exact hk,b1.length,false,u.ps[j],fe,rfl,⟨by rw [hb1l];simp,by omega⟩,?_,hfR,(hkv (by omega)).2.symm⟩⟩
      rw [hb1l,List.getElem?_set_ne (by omega)]
      simp
    refine .inl ⟨((b++[Blk.var false [.int .i64 j],.var false fe]).set (H.length+3) (.mp (mpE es')),es'),?_,hI.step hnd (List.getElem?_eq_getElem hj) (List.getElem?_eq_getElem hju) hne hff⟩
    simp only [F] at hup
    have hcp:=hE.cells
    obtain ⟨tv,rfl,htv⟩:=hfR.AY
    obtain ⟨G,hG⟩:∃ G,G=b1:=⟨_,rfl⟩
    have hG':(b++[Blk.var false [.int .i64 j]]).set (H.length+3) (.mp (mpE (HH ps[j] (.fn 178 [] [.hp H.length 0,.hp (H.length+1) 0,.hp b.length 0,.hp (H.length+2) 0]) es)))=G:=hG.symm
    rw [hG'] at hup
    rw [← hG] at h179 hbb1 hbe1 hbn1
    simp [Tryz.f144,hj',hpe,hup,hw,hb13,hbb1,hbe1,hbn1,Ag hbb1,Ag hbe1,Ag hbn1,hfe,h179]) (fun b hI=>by
    exact ⟨_,_,by simp [Tryz.f144] <;> first | exact ⟨rfl,rfl⟩ | rfl,by simp,b,rfl,hI⟩) (H++[Blk.var false [lv],.var true [.int .i64 u.k,.int .i64 u.v,.str u.nm,pv],.var false [pm],.mp []],[]) ⟨fun x hx=>List.getElem?_append_left hx,by simp,by simp,by simp,by simp [mpE],by simp,fun m p t h=>by omega⟩
 obtain ⟨⟨b,es⟩,hq',hI⟩:=hq'
 cases hq'
 exact ⟨b,es,hlp,hI⟩
end
def HY (N:Nat) (Q:Nat→Prop) (b:AE) (w:AV) (ns:List Bytes) (ss:List (List Sh)) (k lo:Nat):Prop:=(k=0∧w=.AI)∨∃ q es,k≠0∧¬ Q q∧lo<q∧q<b.length∧w=.hs q k 2 0 k false∧b[q]? = some (.arr 2 false es)∧es.length=k∧∀ (i:Nat) e nm parts,es[i]? = some e→ns[i]? = some nm→ss[i]? = some parts→∃ pv,e=[.str nm,pv]∧Gi (BA N Q b) Q b pv parts
theorem HY.cells {N:Nat} {Q:Nat→Prop} {b:AE} {w:AV} {ns:List Bytes} {ss:List (List Sh)} {k lo:Nat} (h:HY N Q b w ns ss k lo):w.cells=some [w]:=by
 rcases h with ⟨_,rfl⟩ | ⟨q,es,_,_,_,_,rfl,_⟩ <;> rfl
theorem HY.mono {N:Nat} {Q Q':Nat→Prop} {b b':AE} {w:AV} {ns:List Bytes} {ss:List (List Sh)} {k lo:Nat} (h:HY N Q b w ns ss k lo) (hl:b.length≤b'.length) (hQ:∀ x,Q x→Q' x) (hn:∀ x es,Q' x→¬ Q x→b[x]? = some (.arr 2 false es)→False) (hQb:∀ x,Q x→b'[x]? = b[x]?) (ha:∀ x es,lo<x→b[x]? = some (.arr 2 false es)→b'[x]? = b[x]?):HY N Q' b' w ns ss k lo:=by
 rcases h with h | ⟨q,es,h0,h1,h2,h3,h4,h5,h6,h7⟩
 ·exact .inl h
 ·refine .inr ⟨q,es,h0,fun hq=>hn q es hq h1 h5,h2,by omega,h4,by rw [ha q es h2 h5];exact h5,h6,fun i e nm parts a c d => ?_⟩
  obtain ⟨pv,e1,e2⟩:=h7 i e nm parts a c d
  exact ⟨pv,e1,e2.mono (fun v s hv=>BA.mono N hv hQ hQb) hQ hQb⟩
theorem HY.push {N:Nat} {Q:Nat→Prop} {b b1:AE} {w x:AV} {ns:List Bytes} {ss:List (List Sh)} {k lo:Nat} (h:HY N Q b w ns ss k lo) (hQ:∀ x,Q x→x<b.length) (hlo:lo<b.length) {nm:Bytes} {pv:AV} {parts:List Sh} (hx:b1=b∧x=.sl 2 true [[.str nm,pv]]∨b1=b++[.arr 2 false [[.str nm,pv]]]∧x=.hs b.length 1 2 0 1 false) (hk:ns[k]? = some nm) (hs:ss[k]? = some parts) (hp:Gi (BA N Q b) Q b pv parts) (hkl:k<1048577) :
  ∃ w' b',apA 2 40 w x b1=some (w',b')∧w'.cells=some [w']∧HY N Q b' w' ns ss (k+1) lo∧b.length≤b'.length∧∀ y,y<b.length→b'[y]? = b[y]? ∨ ∃ es,b[y]? = some (.arr 2 false es)∧¬ Q y∧lo<y:=by
 have hrd:Az b1 x=some [[.str nm,pv]]:=by
  rcases hx with ⟨rfl,rfl⟩ | ⟨rfl,rfl⟩
  ·rfl
  ·simp [Az,A2,A7]
 have hsz:CE 2 x=true:=by rcases hx with ⟨_,rfl⟩ | ⟨_,rfl⟩ <;> simp [CE,BO]
 have hnx:∀ s,x≠.str s:=fun s e=>by rcases hx with ⟨_,h⟩ | ⟨_,h⟩ <;> rw [h] at e <;> cases e
 have hap:∀ n,FQ w=some n→apA 2 40 w x b1=apX 2 40 w [[.str nm,pv]] n b1:=fun n hn=>by
  unfold apA
  cases x with
  | str s=>exact absurd rfl (hnx s)
  | _=>first | simp only [hsz,hrd,hn] | (simp only [Az] at hrd;cases hrd)
 have hb1:b.length≤b1.length∧∀ y,y<b.length→b1[y]? = b[y]? := by
  rcases hx with ⟨rfl,_⟩ | ⟨rfl,_⟩
  ·exact ⟨Nat.le_refl _,fun _ _=>rfl⟩
  ·exact ⟨by simp,fun y hy=>List.getElem?_append_left hy⟩
 obtain ⟨hb1l,hb1e⟩:=hb1
 rcases h with ⟨rfl,rfl⟩ | ⟨q,es,h0,h1,h2,h3,rfl,h5,h6,h7⟩
 ·refine ⟨.hs b1.length 1 2 0 1 false,b1++[.arr 2 false [[.str nm,pv]]],?_,rfl,.inr ⟨b1.length,[[.str nm,pv]],by simp,fun hq => ?_,by omega,by simp,rfl,by simp,rfl,fun i e nm' parts' a c d => ?_⟩,by simp;omega,fun y hy=> .inl ?_⟩
  ·rw [hap 0 rfl]
   simp [apX,CE,BO,Av,A2,A7,CF]
  ·have:=hQ _ hq;omega
  ·match i with
   | 0=>
    simp only [List.getElem?_cons_zero,Option.some.injEq] at a
    rw [hk] at c
    rw [hs] at d
    cases c;cases d
    exact ⟨pv,a.symm,hp.mono (fun v s hv=>BA.mono N hv (fun _ h=>h) (fun x hx=>by rw [List.getElem?_append_left (by have:=hQ x hx;omega)];exact hb1e x (hQ x hx))) (fun _ h=>h) (fun x hx=>by rw [List.getElem?_append_left (by have:=hQ x hx;omega)];exact hb1e x (hQ x hx))⟩
   | i+1=>simp at a
  ·rw [List.getElem?_append_left (by omega)]
   exact hb1e y hy
 ·have e2:(k+1) * 40≤17592186044416:=by omega
  have e3:k+1≤17592186044416:=by omega
  have h5':b1[q]? = some (.arr 2 false es):=by rw [hb1e q h3];exact h5
  have hpres:∀ x,Q x→(b1.set q (.arr 2 false (es++[[.str nm,pv]])))[x]? = b[x]? := fun x hx=>by
   rw [List.getElem?_set_ne (fun e=>h1 (by rw [e];exact hx))]
   exact hb1e x (hQ x hx)
  refine ⟨.hs q (k+1) 2 0 (k+1) false,b1.set q (.arr 2 false (es++[[.str nm,pv]])),?_,rfl,.inr ⟨q,es++[[.str nm,pv]],by simp,h1,h2,by simp;omega,rfl,List.getElem?_set_self (by omega),by simp [h6],fun i e nm' parts' a c d => ?_⟩,by simp;omega,fun y hy => ?_⟩
  ·rw [hap k rfl]
   have e4:List.take k es=es:=List.take_of_length_le (by omega)
   simp [apX,CE,BO,Av,A2,A7,CF,e2,e3,h5',h6,e4]
  ·by_cases hi:i<es.length
   ·rw [List.getElem?_append_left hi] at a
    obtain ⟨pv',e1,e2⟩:=h7 i e nm' parts' a c d
    exact ⟨pv',e1,e2.mono (fun v s hv=>BA.mono N hv (fun _ h=>h) hpres) (fun _ h=>h) hpres⟩
   ·have hi2:i=k:=by
     have:=(List.getElem?_eq_some_iff.1 a).1
     simp at this
     omega
    subst hi2
    rw [hk] at c
    rw [hs] at d
    cases c;cases d
    have a':[.str nm,pv]=e:=by rw [← h6] at a;simpa using a
    exact ⟨pv,a'.symm,hp.mono (fun v s hv=>BA.mono N hv (fun _ h=>h) hpres) (fun _ h=>h) hpres⟩
  ·by_cases hyq:q=y
   ·subst hyq;exact .inr ⟨es,h5,h1,h2⟩
   ·exact .inl (by rw [List.getElem?_set_ne hyq];exact hb1e y hy)
theorem IX.done2 {n:Nat} {Q:Nat→Prop} {lo:Nat} {b:AE} {pv:AV} {parts:List Sh} (h:IX n Q lo b pv parts):∃ Q':Nat→Prop,(∀ x,Q x→Q' x)∧(∀ x,Q' x→Q x∨lo≤x∧x<b.length∧∃ es,b[x]? = some (.arr 1 false es))∧Gi (BA n Q' b) Q' b pv parts:=by
 rcases h with h | ⟨q,ptrs,h0,h1,h2,h3,h4,h5,h6,h7⟩
 ·exact ⟨Q,fun _ h=>h,fun x h=> .inl h,.inl h⟩
 ·refine ⟨fun x=>Q x∨x=q,fun x h=> .inl h,fun x hx => ?_,.inr ⟨q,ptrs,h0,.inr rfl,h4,h5,h6,fun k p s a c => ?_⟩⟩
  ·rcases hx with hx | rfl
   ·exact .inl hx
   ·exact .inr ⟨h2,h3,ptrs,h5⟩
  ·obtain ⟨v,e,f⟩:=h7 k p s a c
   exact ⟨v,e,BA.mono n f (fun x h=> .inl h) (fun _ _=>rfl)⟩
structure SI (K:AE) (N:Nat) (Q:Nat→Prop) (b:AE) (w:AV) (ns:List Bytes) (ss:List (List Sh)) (k:Nat):Prop where
 ext:∀ x,x<K.length→b[x]? = K[x]?
 o:b[K.length]? = some (.var false [.int .i64 0,w])
 len:K.length<b.length
 q:∀ x,Q x→K.length<x∧x<b.length
 rows:HY N Q b w ns ss k K.length
theorem RJ {l:List AO} {lv:AV} {d:Nat} {K:AE} {a own:Nat} (ha:K[a]? = some (.var false [lv])) {ps:List Bytes} {args:List TyV} (hE:Gj (D8 l lv d (fun x=>x<K.length) K) (fun x=>x<K.length) K (.hm own) ps args) (hva:∀ x∈args,VT l x) (hln:ps.length=args.length)
  {fs:List CO} {fv:AV} (hfv:SlR BS 5 fs fv) (hfl:fs.length<1048577) (hfe:∀ f∈fs,Ah l ps f.ty=0) {parts:List Sh} (hpl:parts.length=fs.length) {N:Nat} (hN:∀ x∈parts,shD x≤N) (ih:∀ (m:Nat) f x,fs[m]? = some f→parts[m]? = some x→Lv l lv d (Br ps args f.ty) x)
  {Q0:Nat→Prop} {b0:AE} {w cv:AV} {ns:List Bytes} {ss:List (List Sh)} {k cl:Nat} (h0:SI K N Q0 b0 w ns ss k) {c2:Nat} {nm:Bytes} (hc2:b0[c2]? = some (.var false [.str nm,.AI])) (hc2l:K.length<c2) (hc2q:¬ Q0 c2) :
  ∃ (b:AE) (Q:Nat→Prop) (pv:AV),Em MX 144 118 (AH MX) (AP Tryz.f144 2) ([(3,.hp a 0),(8,.hm own),(11,.hp K.length 0),(14,.hp c2 0),(79,cv),(80,.int .i64 cl),(81,.int .i64 k),(89,fv),(90,.int .i64 fs.length),(91,.int .i64 (0:Nat))],b0) =
   some (.ext 5,([(3,.hp a 0),(8,.hm own),(11,.hp K.length 0),(14,.hp c2 0),(79,cv),(80,.int .i64 cl),(81,.int .i64 k),(89,fv),(90,.int .i64 fs.length),(91,.int .i64 fs.length),(92,.bool false)],b))∧SI K N Q b w ns ss k∧b[c2]? = some (.var false [.str nm,pv])∧¬ Q c2∧IX N Q (K.length+1) b pv parts:=by
 have hb23:=Ou
 simp [BK,Be,Tryz.f144] at hb23
 have hal:=(List.getElem?_eq_some_iff.1 ha).1
 obtain ⟨e,st,hlp,hq⟩:=AR (M:=MX) (fid:=144) (N:=118) (C:=AH MX) (c:=AP Tryz.f144 2) (n:=fs.length)
  (fun m (b:AE)=>([(3,.hp a 0),(8,.hm own),(11,.hp K.length 0),(14,.hp c2 0),(79,cv),(80,.int .i64 cl),(81,.int .i64 k),(89,fv),(90,.int .i64 fs.length),(91,.int .i64 m)],b))
  (fun m b=>∃ Q pv,SI K N Q b w ns ss k∧b[c2]? = some (.var false [.str nm,pv])∧¬ Q c2∧IX N Q (K.length+1) b pv (parts.take m))
  (fun r=>∃ b Q pv,r=(.ext 5,([(3,.hp a 0),(8,.hm own),(11,.hp K.length 0),(14,.hp c2 0),(79,cv),(80,.int .i64 cl),(81,.int .i64 k),(89,fv),(90,.int .i64 fs.length),(91,.int .i64 fs.length),(92,.bool false)],b))∧SI K N Q b w ns ss k∧b[c2]? = some (.var false [.str nm,pv])∧¬ Q c2∧IX N Q (K.length+1) b pv parts) (fun m b hm hI=>by
    obtain ⟨Q,pv,hS,hcon,hnq,hC⟩:=hI
    obtain ⟨fe,hfe',hR⟩:=hfv.ix hm
    have hm':=Aa hm
    have hw:=AZ hm hfl
    have hmp:m<parts.length:=by omega
    obtain ⟨tx,rfl,htx⟩:=hR
    have hmem:=List.getElem_mem hm
    have hcl:=(List.getElem?_eq_some_iff.1 hcon).1
    have hKb:=hS.len
    let b1:=b++[Blk.var false (.str fs[m].nm::tx)]
    have hK1:∀ x,x<K.length→b1[x]? = K[x]? := fun x hx=>by
     rw [List.getElem?_append_left (by omega)];exact hS.ext x hx
    obtain ⟨v,H',hcall,hlen,hold,hsrt⟩:=ih m _ _ (List.getElem?_eq_getElem hm) (List.getElem?_eq_getElem hmp) fs[m].ty tx ps args (.hm own) (fun x=>x<K.length) b1 htx (hfe _ hmem) hva hln rfl (fun x hx=>by simp [b1];omega) (hE.mono (fun f t h=>D8.mono d h (fun _ h=>h) hK1) (fun _ h=>h) hK1)
    have hb1l:b1.length=b.length+1:=by simp [b1]
    have hold':∀ x,x<b.length→H'[x]? = b[x]? := fun x hx=>by
     rw [hold x (by omega)];exact List.getElem?_append_left hx
    obtain ⟨id,hid⟩:=hsrt.hp
    have hQl:∀ x,Q x→x<b.length:=fun x hx=>(hS.q x hx).2
    have hC1:IX N (fun x=>Q x∨b.length+1≤x∧x<H'.length) (K.length+1) H' pv (parts.take m):=hC.mono (by omega) (fun x h=> .inl h) (fun x h h2=>by rcases h with h | h;exact absurd h h2;omega) (fun x hx=>hold' x (hQl x hx)) (fun x es hx hbx=>hold' x (List.getElem?_eq_some_iff.1 hbx).1)
    obtain ⟨pv',b2,k1,k2,k3,k4,k5⟩:=hC1.push (v:=v) (s:=parts[m]) (fun x hx=>by rcases hx with hx | hx;have:=hQl x hx;omega;omega) (by omega) (BA.mono _ (hsrt.le (hN _ (List.getElem_mem hmp))) (fun x hx=> .inr (by rw [hb1l] at hx;exact hx)) (fun _ _=>rfl)) (by rw [List.length_take];omega)
    have htk:parts.take m++[parts[m]]=parts.take (m+1):=by simp
    rw [htk] at k3
    have hconH:H'[c2]? = some (.var false [.str nm,pv]):=by rw [hold' c2 hcl];exact hcon
    have hcon2:b2[c2]? = some (.var false [.str nm,pv]):=by
     rcases k5 c2 (by omega) with h | ⟨_,h,_⟩
     ·rw [h];exact hconH
     ·rw [hconH] at h;cases h
    have hlast:=Ce b (Blk.var false (.str fs[m].nm::tx))
    have ha1:b1[a]? = some (.var false [lv]):=by rw [hK1 a hal];exact ha
    have hcon1:b1[c2]? = some (.var false [.str nm,pv]):=Al hcon _
    have m1:(c2∈Ck 0 b1 H')=False:=E8 (by omega) (hold c2 (by omega))
    have hne:¬ c2=H'.length:=by omega
    have hset:∀ x,x≠c2→(b2.set c2 (.var false [.str nm,pv']))[x]? = b2[x]? := fun x hx=>List.getElem?_set_ne (fun e=>hx e.symm)
    have hK2:∀ x,x≤K.length→b2[x]? = b[x]? := fun x hx=>by
     rcases k5 x (by omega) with h | ⟨_,_,_,h⟩
     ·rw [h];exact hold' x (by omega)
     ·omega
    have hQ2:∀ x,(Q x∨b.length+1≤x∧x<H'.length)→x≠c2∧b2[x]? = H'[x]? := fun x hx=>by
     refine ⟨fun e => ?_,?_⟩
     ·subst e
      rcases hx with h | h
      ·exact hnq h
      ·omega
     ·have hxl:x<H'.length:=by
       rcases hx with h | h
       ·have:=hQl x h;omega
       ·exact h.2
      rcases k5 x hxl with h | ⟨_,_,h,_⟩
      ·exact h
      ·exact absurd hx h
    refine .inl ⟨b2.set c2 (.var false [.str nm,pv']),?_,fun x=>Q x∨b.length+1≤x∧x<H'.length,pv',⟨fun x hx => ?_,?_,by simp;omega,fun x hx => ?_,?_⟩,?_,?_,?_⟩
    ·obtain ⟨qv,rfl,hqv⟩:=htx.AY
     rw [hid] at hcall k1
     have hcc:=hC.cells
     have hcallb:∀ y,b1=y→AK MX (AH MX) 144 [lv,.agg [.int .i64 fs[m].ty.k,.int .i64 fs[m].ty.v,.str fs[m].ty.nm,qv],.hm own] y=some (.ret (.hp id 0),H'):=fun y hy=>hy ▸ hcall
     have hcall2:=hcallb _ rfl
     have ha2:(b++[Blk.var false [.str fs[m].nm,.int .i64 fs[m].ty.k,.int .i64 fs[m].ty.v,.str fs[m].ty.nm,qv]])[a]? = some (.var false [lv]):=ha1
     have hc21:(b++[Blk.var false [.str fs[m].nm,.int .i64 fs[m].ty.k,.int .i64 fs[m].ty.v,.str fs[m].ty.nm,qv]])[c2]? = some (.var false [.str nm,pv]):=hcon1
     have m1':(c2∈Ck 0 (b++[Blk.var false [.str fs[m].nm,.int .i64 fs[m].ty.k,.int .i64 fs[m].ty.v,.str fs[m].ty.nm,qv]]) H')=False:=m1
     simp only [b1] at hcall2
     simp [Tryz.f144,hm',hfe',hlast,Ag hlast,ha2,Ag ha2,hc21,Ag hc21,hcall2,hb23,m1',hne,hcc,bsA,Ak,List.replicate,Av,AG,AV.AD,k1,k2,hcon2,Ag hcon2,hw]
    ·rw [hset x (by omega),hK2 x (by omega)];exact hS.ext x hx
    ·rw [hset _ (by omega),hK2 _ (by omega)];exact hS.o
    ·rcases hx with h | h
     ·have:=hS.q x h;simp;omega
     ·simp;omega
    ·refine hS.rows.mono (by simp;omega) (fun x h=> .inl h) (fun x es h1 h2 h3 => ?_) (fun x hx => ?_) (fun x es hx hbx => ?_)
     ·have:=(List.getElem?_eq_some_iff.1 h3).1
      rcases h1 with h | h
      ·exact h2 h
      ·omega
     ·obtain ⟨e1,e2⟩:=hQ2 x (.inl hx)
      rw [hset x e1,e2];exact hold' x (hQl x hx)
     ·have hxl:=(List.getElem?_eq_some_iff.1 hbx).1
      have hxc:x≠c2:=fun e=>by rw [e,hcon] at hbx;cases hbx
      rw [hset x hxc]
      rcases k5 x (by omega) with h | ⟨_,h,_⟩
      ·rw [h];exact hold' x hxl
      ·rw [hold' x hxl,hbx] at h;cases h
    ·exact List.getElem?_set_self (by omega)
    ·rintro (h | h)
     ·exact hnq h
     ·omega
    ·refine k3.mono (by simp) (fun _ h=>h) (fun x h1 h2=>absurd h1 h2) (fun x hx=>hset x (hQ2 x hx).1) (fun x es hx hbx=>hset x (fun e=>by rw [e,hcon2] at hbx;cases hbx))) (fun b hI=>by
    obtain ⟨Q,pv,hS,hcon,hnq,hC⟩:=hI
    rw [List.take_of_length_le (by omega)] at hC
    exact ⟨_,_,by simp [Tryz.f144] <;> first | exact ⟨rfl,rfl⟩ | rfl,by simp,b,Q,pv,rfl,hS,hcon,hnq,hC⟩) b0 ⟨Q0,.AI,h0,hc2,hc2q,.inl ⟨by simp,rfl⟩⟩
 obtain ⟨b,Q,pv,hq,g1,g2,g3,g4⟩:=hq
 cases hq
 exact ⟨b,Q,pv,hlp,g1,g2,g3,g4⟩
theorem WU {l:List AO} {lv:AV} {d:Nat} {K:AE} {a own:Nat} (ha:K[a]? = some (.var false [lv])) {ps:List Bytes} {args:List TyV} (hE:Gj (D8 l lv d (fun x=>x<K.length) K) (fun x=>x<K.length) K (.hm own) ps args) (hva:∀ x∈args,VT l x) (hln:ps.length=args.length)
  {cs:List Bm} {cv:AV} (hcv:SlR DR 2 cs cv) (hcl:cs.length<1048577) (hfl:∀ c∈cs,c.fields.length<1048577) (hfe:∀ c∈cs,∀ f∈c.fields,Ah l ps f.ty=0) {ss:List (List Sh)} (hss:ss.length=cs.length) (hsp:∀ (i:Nat) c s,cs[i]? = some c→ss[i]? = some s→s.length=c.fields.length) {N:Nat} (hN:∀ s∈ss,∀ x∈s,shD x≤N)
  (ih:∀ (i:Nat) c s (m:Nat) f x,cs[i]? = some c→ss[i]? = some s→c.fields[m]? = some f→s[m]? = some x→Lv l lv d (Br ps args f.ty) x) :
  ∃ (b:AE) (Q:Nat→Prop) (w:AV),Em MX 144 118 (AH MX) (AP Tryz.f144 1) ([(3,.hp a 0),(8,.hm own),(11,.hp K.length 0),(79,cv),(80,.int .i64 cs.length),(81,.int .i64 (0:Nat))],K++[Blk.var false [.int .i64 0,.AI]]) =
   some (.ext 3,([(3,.hp a 0),(8,.hm own),(11,.hp K.length 0),(79,cv),(80,.int .i64 cs.length),(81,.int .i64 cs.length),(82,.bool false)],b))∧SI K N Q b w (cs.map (·.nm)) ss cs.length:=by
 have hb25:=Ov
 simp [BK,Be,Tryz.f144] at hb25
 obtain ⟨e,st,hlp,hq⟩:=AR (M:=MX) (fid:=144) (N:=118) (C:=AH MX) (c:=AP Tryz.f144 1) (n:=cs.length)
  (fun k (b:AE)=>([(3,.hp a 0),(8,.hm own),(11,.hp K.length 0),(79,cv),(80,.int .i64 cs.length),(81,.int .i64 k)],b))
  (fun k b=>∃ Q w,SI K N Q b w (cs.map (·.nm)) ss k)
  (fun r=>∃ b Q w,r=(.ext 3,([(3,.hp a 0),(8,.hm own),(11,.hp K.length 0),(79,cv),(80,.int .i64 cs.length),(81,.int .i64 cs.length),(82,.bool false)],b))∧SI K N Q b w (cs.map (·.nm)) ss cs.length) (fun k b hk hI=>by
    obtain ⟨Q,w,hS⟩:=hI
    obtain ⟨ce,hce,hR⟩:=hcv.ix hk
    have hk':=Aa hk
    have hw:=AZ hk hcl
    have hks:k<ss.length:=by omega
    obtain ⟨fv,rfl,hfv⟩:=hR.dest
    have hmem:=List.getElem_mem hk
    have hcg:=List.getElem?_eq_getElem hk
    have hsg:=List.getElem?_eq_getElem hks
    have hlen:=hS.len
    obtain ⟨b0,hb0⟩:∃ b0,b0=b++[Blk.var false [.str cs[k].nm,fv],Blk.var false [.str cs[k].nm,.AI]]:=⟨_,rfl⟩
    have hb0l:b0.length=b.length+2:=by rw [hb0];simp
    have hb0o:∀ x,x<b.length→b0[x]? = b[x]? := fun x hx=>by rw [hb0];exact List.getElem?_append_left hx
    have hS0:SI K N Q b0 w (cs.map (·.nm)) ss k:=⟨fun x hx=>by rw [hb0o x (by omega)];exact hS.ext x hx,by rw [hb0o _ (by omega)];exact hS.o,by omega,fun x hx=>by have:=hS.q x hx;omega,hS.rows.mono (by omega) (fun _ h=>h) (fun x es h1 h2=>absurd h1 h2) (fun x hx=>hb0o x (hS.q x hx).2) (fun x es _ hbx=>hb0o x (List.getElem?_eq_some_iff.1 hbx).1)⟩
    have hc2:b0[b.length+1]? = some (.var false [.str cs[k].nm,.AI]):=by rw [hb0];simp
    obtain ⟨b',Q',pv,f1,g1,g2,g3,g4⟩:=RJ ha hE hva hln hfv (hfl _ hmem) (hfe _ hmem) (hsp k _ _ hcg hsg) (hN _ (List.getElem_mem hks)) (fun m f x h1 h2=>ih k _ _ m f x hcg hsg h1 h2) (cv:=cv) (cl:=cs.length) hS0 hc2 (by omega) (fun h=>by have:=(hS.q _ h).2;omega)
    have hcc:=g4.cells
    obtain ⟨Q2,q1,q2,q3⟩:=g4.done2
    have g2l:=(List.getElem?_eq_some_iff.1 g2).1
    have glen:=g1.len
    have hQ2:∀ x,Q2 x→K.length<x∧x<b'.length:=fun x hx=>by
     rcases q2 x hx with h | ⟨h1,h2,_⟩
     ·exact g1.q x h
     ·omega
    have hrows:=g1.rows.mono (Q':=Q2) (Nat.le_refl _) q1 (fun x es h1 h2 h3=>by
     rcases q2 x h1 with h | ⟨_,_,es',h⟩
     ·exact h2 h
     ·rw [h] at h3;cases h3) (fun _ _=>rfl) (fun _ _ _ _=>rfl)
    have hwc:=hrows.cells
    simp [Tryz.f144,hb0] at f1
    have hlast0:(b++[Blk.var false [.str cs[k].nm,fv]])[b.length]? = some (.var false [.str cs[k].nm,fv]):=Ce _ _
    have hlast1:(b++[Blk.var false [.str cs[k].nm,fv],Blk.var false [.str cs[k].nm,.AI]])[b.length]? = some (.var false [.str cs[k].nm,fv]):=by simp
    have hne:¬ K.length=b'.length:=by omega
    -- with the row x
    have fin:∀ (x:AV) (b1:AE) ,(b1=b'∧x=.sl 2 true [[.str cs[k].nm,pv]]∨b1=b'++[.arr 2 false [[.str cs[k].nm,pv]]]∧x=.hs b'.length 1 2 0 1 false)→∃ w' b'',apA 2 40 w x b1=some (w',b'')∧w'.cells=some [w']∧b''[K.length]? = some (.var false [.int .i64 0,w])∧SI K N Q2 (b''.set K.length (.var false [.int .i64 0,w'])) w' (cs.map (·.nm)) ss (k+1):=by
     intro x b1 hx
     obtain ⟨w',b'',p1,p2,p3,p4,p5⟩:=hrows.push (fun x hx=>(hQ2 x hx).2) glen hx (by rw [List.getElem?_map,hcg];rfl) hsg q3 (by omega)
     have hset:∀ y,y≠K.length→(b''.set K.length (.var false [.int .i64 0,w']))[y]? = b''[y]? := fun y hy=>List.getElem?_set_ne (fun e=>hy e.symm)
     refine ⟨w',b'',p1,p2,?_,fun y hy => ?_,List.getElem?_set_self (by omega),by simp;omega,fun y hy => ?_,?_⟩
     ·rcases p5 K.length (by omega) with h | ⟨_,h,_⟩
      ·rw [h];exact g1.o
      ·rw [g1.o] at h;cases h
     ·rw [hset y (by omega)]
      rcases p5 y (by omega) with h | ⟨_,_,_,h⟩
      ·rw [h];exact g1.ext y hy
      ·omega
     ·have:=hQ2 y hy
      simp;omega
     ·exact p3.mono (by simp) (fun _ h=>h) (fun y es h1 h2=>absurd h1 h2) (fun y hy=>hset y (by have:=(hQ2 y hy).1;omega)) (fun y es hy _=>hset y (by omega))
    have go:=g1.o
    cases hpn:pv.AD with
    | true=>
     obtain ⟨w',b'',p1,p2,p3,p4⟩:=fin _ _ (.inl ⟨rfl,rfl⟩)
     exact .inl ⟨b''.set K.length (.var false [.int .i64 0,w']),by simp [Tryz.f144,hk',hce,hlast0,hlast1,hfv.cells,hfv.len,f1,hw,go,Ag go,g2,Ag g2,hb25,hcc,hwc,hpn,bsA,Ak,List.replicate,AG,AV.AD,p1,p2,p3,Ag p3],Q2,w',p4⟩
    | false=>
     obtain ⟨w',b'',p1,p2,p3,p4⟩:=fin _ _ (.inr ⟨rfl,rfl⟩)
     exact .inl ⟨b''.set K.length (.var false [.int .i64 0,w']),by simp [Tryz.f144,hk',hce,hlast0,hlast1,hfv.cells,hfv.len,f1,hw,go,Ag go,g2,Ag g2,hb25,hcc,hwc,hpn,hne,Av,bsA,Ak,List.replicate,AG,AV.AD,p1,p2,p3,Ag p3],Q2,w',p4⟩) (fun b hI=>by
    obtain ⟨Q,w,hS⟩:=hI
    exact ⟨_,_,by simp [Tryz.f144] <;> first | exact ⟨rfl,rfl⟩ | rfl,by simp,b,Q,w,rfl,hS⟩) (K++[Blk.var false [.int .i64 0,.AI]]) ⟨fun _=>False,.AI,⟨fun x hx=>List.getElem?_append_left hx,by simp,by simp,fun x h=>h.elim,.inl ⟨rfl,rfl⟩⟩⟩
 obtain ⟨b,Q,w,hq,hS⟩:=hq
 cases hq
 exact ⟨b,Q,w,hlp,hS⟩
section
variable {l:List AO} {lv:AV} (hl:SlR Ac 3 l lv) (hll:l.length<1048577)
include hl hll
theorem WX {u:TyV} {xs:List AV} {pm:AV} (hpm:pm.cells=some [pm]) {H:AE} (hu:AU u xs) (hk:u.k=1) (hb:(u.nm == Cd)=false) (hf:l.findIdx? (fun d=>d.nm == u.nm)=none) {ss:List (List Sh)} (hs2:ss.length=2) (hs0:∀ s∈ss,s=[]) :
  ∃ v H',AK MX (AH MX) 144 [lv,.agg xs,pm] H=some (.ret v,H')∧H.length≤H'.length∧(∀ x,x<H.length→H'[x]? = H[x]?)∧BA (shD (.cons [Bz,DG] ss)) (fun x=>H.length≤x∧x<H'.length) H' v (.cons [Bz,DG] ss):=by
 obtain ⟨pv,rfl,hpv⟩:=hu.AY
 have h175:=Tx hl hll (pm:=pm) hpv H
 rw [hf] at h175
 simp only [ixI] at h175
 have h0:(u.k == 0)=false:=by simp [hk]
 have hbn:(u.nm == [66,105,116])=false:=hb
 refine ⟨.hp (H.length+3) 0,H++[Blk.var false [lv],.var true [.int .i64 u.k,.int .i64 u.v,.str u.nm,pv],.var false [pm],.var false [.int .i64 0,.sl 2 true [[.str Bz,.AI],[.str DG,.AI]]]],BI JH KB ?_,by simp,fun x hx=>List.getElem?_append_left hx,?_⟩
 ·simp [AN,Tryz.f144,hl.cells,hpm,h0,hbn,h175,bsA,Ak,List.replicate,AG,AV.AD,Bz,DG]
 ·refine ⟨_,rfl,⟨by omega,by simp⟩,_,[[.str Bz,.AI],[.str DG,.AI]],by simp,rfl,by rw [hs2];rfl,.inl rfl,fun k e nm parts h1 h2 h3 => ?_⟩
  have hp0:=hs0 parts (List.mem_of_getElem? h3)
  match k with
  | 0=>simp at h1 h2;subst h1;subst h2;exact ⟨.AI,rfl,.inl ⟨hp0,rfl⟩⟩
  | 1=>simp at h1 h2;subst h1;subst h2;exact ⟨.AI,rfl,.inl ⟨hp0,rfl⟩⟩
  | k+2=>simp at h1
theorem WY (hsl:SmL 1048577 l) {d:Nat} {u:TyV} {xs:List AV} {params:List Bytes} {args:List TyV} {pm:AV} {S:Nat→Prop} {H:AE} (hu:AU u xs) (hk:u.k=1) (hb:(u.nm == Cd)=false) (hua:∀ t∈u.ps,Ah l params t=0) (hva:∀ a∈args,VT l a) (hln:params.length=args.length) (hS:∀ x,S x→x<H.length) (hE:Gj (D8 l lv d S H) S H pm params args)
  {i:Nat} (hi:i<l.length) (hf:l.findIdx? (fun d=>d.nm == u.nm)=some i) (hnd:l[i].params.Nodup) (hps:l[i].params.length=u.ps.length) (hva':∀ x∈u.ps.map (Br params args),VT l x) (hfe:∀ c∈l[i].cons,∀ f∈c.fields,Ah l l[i].params f.ty=0) {ss:List (List Sh)} (hss:ss.length=l[i].cons.length) (hsp:∀ (j:Nat) c s,l[i].cons[j]? = some c→ss[j]? = some s→s.length=c.fields.length)
  (hne:l[i].cons≠[]) (ih:∀ (j:Nat) c s (m:Nat) f x,l[i].cons[j]? = some c→ss[j]? = some s→c.fields[m]? = some f→s[m]? = some x→Lv l lv (d+1) (Br l[i].params (u.ps.map (Br params args)) f.ty) x) :
  ∃ v H',AK MX (AH MX) 144 [lv,.agg xs,pm] H=some (.ret v,H')∧H.length≤H'.length∧(∀ x,x<H.length→H'[x]? = H[x]?)∧BA (shD (.cons (l[i].cons.map (·.nm)) ss)) (fun x=>H.length≤x∧x<H'.length) H' v (.cons (l[i].cons.map (·.nm)) ss):=by
 have hcp:=hE.cells
 have hu0:=hu
 obtain ⟨pv,rfl,hpv⟩:=hu.AY
 have h175:=Tx hl hll (pm:=pm) hpv H
 rw [hf] at h175
 simp only [ixI] at h175
 have h0:(u.k == 0)=false:=by simp [hk]
 have hbn:(u.nm == [66,105,116])=false:=hb
 obtain ⟨dx,hdx,hdR⟩:=hl.ix hi
 obtain ⟨qv,cv,rfl,hq,hcv⟩:=hdR.dest
 have hsd:=hsl.2 _ (List.getElem_mem hi)
 obtain ⟨K,es,f1,hP⟩:=params144 hl (i:=i) hu0 hpv hS hE hua hva hln hq hnd hps hsd.2.1
 have hE':Gj (D8 l lv (d+1) (fun x=>x<K.length) K) (fun x=>x<K.length) K (.hm (H.length+3)) l[i].params (u.ps.map (Br params args)):=by
  have hle:=hP.le
  refine .inr ⟨H.length+3,es,by omega,rfl,hP.bo,fun m p t h1 h2 => ?_⟩
  rw [List.getElem?_map,Option.map_eq_some_iff] at h2
  obtain ⟨t0,h2,rfl⟩:=h2
  obtain ⟨f,g1,g2⟩:=hP.ent m p t0 (List.getElem?_eq_some_iff.1 h1).1 h1 h2
  exact ⟨f,g1,D8.mono _ g2 (fun x hx=>hx.1) (fun _ _=>rfl)⟩
 obtain ⟨b,Q,w,f2,hSI⟩:=WU hP.ba hE' hva' (by simp [hps]) hcv hsd.2.2.2.1 (fun c hc=>(hsd.2.2.2.2 c hc).2.1) hfe hss hsp (N:=Ig ss) (fun s hs x hx=>Lt hx hs) ih
 have hle:=hP.le
 have hlen:=hSI.len
 have hext:∀ x,x<H.length→b[x]? = H[x]? := fun x hx=>by rw [hSI.ext x (by omega)];exact hP.old x hx
 refine ⟨.hp K.length 0,b,BI JH KB ?_,by omega,hext,?_⟩
 ·have hni:¬ ((i:Int)<0):=by omega
  have hba:=hP.ba
  have hba2:=Al hba [Blk.var false [.int .i64 0,.AI]]
  simp [Tryz.f144] at f1 f2
  have hd:=hdx .i64
  simp [AN,Tryz.f144,hl.cells,hcp,h0,hbn,h175,hni,hd,hq.len,hcv.len,f1,f2,hba,Ag hba,hba2,Ag hba2]
 ·rcases hSI.rows with ⟨h,_⟩ | ⟨q,es',h1,h2,h3,h4,rfl,h6,h7,h8⟩
  ·exact absurd (List.eq_nil_of_length_eq_zero h) hne
  ·have ho:=hSI.o
   refine ⟨K.length,rfl,⟨by omega,by omega⟩,_,es',ho,by rw [h7];simp,by rw [hss];simp,.inr ⟨q,⟨by omega,h4⟩,by rw [h7],h6⟩,fun k e nm parts a c e' => ?_⟩
   obtain ⟨pv',e1,e2⟩:=h8 k e nm parts a c e'
   have hQ:∀ x,Q x→H.length≤x∧x<b.length:=fun x hx=>by have:=hSI.q x hx;omega
   exact ⟨pv',e1,e2.mono (fun v s hv=>BA.mono _ hv hQ (fun _ _=>rfl)) hQ (fun _ _=>rfl)⟩
theorem c144 (hsl:SmL 1048577 l) (hd:DV l) (hnd:∀ d∈l,d.params.Nodup) {t:TyV} {s:Sh} (hs:Cw l t s):VT l t→∀ d,Lv l lv d t s:=by
 induction hs with
 | bit t hb hw h2=>
  intro hv d
  induction d using Nat.strongRecOn with
  | ind d ihd=>
   intro u xs params args pm S H hu hnu hva hln hr hS hE
   have ht:t.k=1:=by simp only [DF,Bool.and_eq_true,decide_eq_true_eq] at hb;exact hb.1
   by_cases hk:u.k=0
   ·exact Tw hl ht ihd hu hk hnu hln hr hS hE
   ·have hkn:u.k=1∧u.nm=Cd:=by
     cases u with
     | mk k v nm ps=>
      have hk:¬ k=0:=hk
      simp only [Br,hk,if_false] at hr
      subst hr
      simp only [DF,Bool.and_eq_true,decide_eq_true_eq,beq_iff_eq] at hb
      exact hb
    exact Yf hl hll hu hkn.1 hkn.2 hnu hln hr h2 hS hE
 | cons t ns ss hb hk hn hln' hsp hf ih=>
  intro hv d
  induction d using Nat.strongRecOn with
  | ind d ihd=>
   intro u xs params args pm S H hu hnu hva hln hr hS hE
   have ht:t.k=1:=by rcases hv.kind with h | h;exact h;exact absurd h hk
   by_cases hk0:u.k=0
   ·exact Tw hl ht ihd hu hk0 hnu hln hr hS hE
   ·have hcp:=hE.cells
    have hkn:u.k=1∧(u.nm == Cd)=false∧t.nm=u.nm∧t.ps=u.ps.map (Br params args)∧DT l 1 u.nm=some u.ps.length∧∀ t∈u.ps,Ah l params t=0:=by
     cases u with
     | mk k v nm ps=>
      have hk0:¬ k=0:=hk0
      simp only [Br,hk0,if_false] at hr
      subst hr
      have ht:k=1:=ht
      subst ht
      rw [Bd] at hnu
      refine ⟨rfl,?_,rfl,?_,hnu.2.2.1,hnu.2.2.2.2⟩
      ·have e:DF (.mk 1 v nm (Nn params args ps))=(nm == Cd):=by
        show (decide ((1:Int)=1)&&(nm == Cd))=(nm == Cd)
        simp
       exact e.symm.trans hb
      ·exact Ed params args ps
    obtain ⟨hk1,hbn,htn,htp,hrc,hua⟩:=hkn
    simp only [DT,if_true,hbn,Bool.false_eq_true,if_false] at hrc
    cases hbo:(u.nm == Bn) with
    | true=>
     have hcons:AQ l t=[⟨Bz,[]⟩,⟨DG,[]⟩]:=by simp only [AQ,htn,hbo,if_true]
     have hfn:l.findIdx? (fun d=>d.nm == u.nm)=none:=by
      rw [List.findIdx?_eq_none_iff]
      intro x hx
      rw [beq_iff_eq.1 hbo]
      exact (hd.nms x hx).2
     rw [hcons] at hn hln' hsp
     subst hn
     have hs0:∀ s∈ss,s=[]:=fun s hs=>by
      obtain ⟨i,hi,rfl⟩:=List.mem_iff_getElem.1 hs
      have hi2:i<2:=by simp at hln';omega
      have:=hsp i _ _ (List.getElem?_eq_getElem (by simpa using hi2)) (List.getElem?_eq_getElem hi)
      have h01:i=0∨i=1:=by omega
      rcases h01 with rfl | rfl <;> exact List.eq_nil_of_length_eq_zero this
     exact WX hl hll hcp hu hk1 hbn hfn hln' hs0
    | false=>
     rw [hbo] at hrc
     simp only [Bool.false_eq_true,if_false] at hrc
     rw [Option.map_eq_some_iff] at hrc
     obtain ⟨i,hfi,hpl⟩:=hrc
     have hi:=F3 hfi
     have hgd:l.getD i default=l[i]:=by simp [hi]
     rw [hgd] at hpl
     have hcons:AQ l t=l[i].cons.map (E2 l[i].params (u.ps.map (Br params args))):=by
      simp only [AQ,htn,hbo,hfi,hgd,htp];rfl
     have hne:l[i].cons≠[]:=fun e=>by
      have:=(hd.con t hv hk hb).2.1
      rw [hcons,e] at this
      exact this rfl
     have hns:ns=l[i].cons.map (·.nm):=by
      rw [hn,hcons,List.map_map]
      rfl
     subst hns
     have hva':∀ x∈u.ps.map (Br params args),VT l x:=fun x hx=>by
      obtain ⟨y,hy,rfl⟩:=List.mem_map.1 hx
      exact Ic hva (by omega) y (hua y hy)
     have hcg:∀ (j:Nat) c,l[i].cons[j]? = some c→(AQ l t)[j]? = some (E2 l[i].params (u.ps.map (Br params args)) c):=fun j c h=>by
      rw [hcons,List.getElem?_map,h];rfl
     refine WY hl hll hsl hu hk1 hbn hua hva hln hS hE hi hfi (hnd _ (List.getElem_mem hi)) hpl hva' (hd.flds _ (List.getElem_mem hi)) (by rw [hln',hcons];simp) (fun j c s h1 h2 => ?_) hne (fun j c s m f x h1 h2 h3 h4 => ?_)
     ·have:=hsp j _ s (hcg j c h1) h2
      simpa [E2] using this
     ·have h3':(E2 l[i].params (u.ps.map (Br params args)) c).fields[m]? = some ⟨f.nm,Br l[i].params (u.ps.map (Br params args)) f.ty⟩:=by
       simp only [E2,List.getElem?_map,h3,Option.map_some]
      have hvf:=hd.dok.fld t hv hk hb _ (List.mem_of_getElem? (hcg j c h1)) _ (List.mem_of_getElem? h3')
      exact ih j _ s m _ x (hcg j c h1) h2 h3' h4 hvf (d+1)
end
def WV (H:AE) (w:AV) (es:List (List AV)):Prop:=(w=.AI∧es=[])∨w=.sl 2 true es∨∃ j,w=.hs j es.length 2 0 es.length false∧H[j]? = some (.arr 2 false es)
theorem WV.app {H:AE} {w:AV} {es:List (List AV)} (h:WV H w es) (X:AE):WV (H++X) w es:=by
 rcases h with h | h | ⟨j,h1,h2⟩
 ·exact .inl h
 ·exact .inr (.inl h)
 ·exact .inr (.inr ⟨j,h1,Al h2 X⟩)
theorem WV.len {H:AE} {w:AV} {es:List (List AV)} (h:WV H w es) (G:AE):Bu w G=some (.val (.int .i64 es.length) G):=by
 rcases h with ⟨rfl,rfl⟩ | rfl | ⟨j,rfl,_⟩ <;> rfl
theorem WV.cells {H:AE} {w:AV} {es:List (List AV)} (h:WV H w es):w.cells=some [w]:=by
 rcases h with ⟨rfl,rfl⟩ | rfl | ⟨j,rfl,_⟩ <;> rfl
theorem WV.row {H:AE} {w:AV} {es:List (List AV)} (h:WV H w es) {i:Nat} (hi:i<es.length):∃ p,ixA 2 w (.int .i64 i)=some p∧∀ X,DC (H++X) p=some es[i]:=by
 rcases h with ⟨rfl,rfl⟩ | rfl | ⟨j,rfl,h⟩
 ·cases hi
 ·exact ⟨.ro es[i],G0 _ _ _ _ .i64 hi,fun X=>rfl⟩
 ·refine ⟨.ep j es.length 2 i 0,by rw [A8 (kd:=.i64) (hi:=hi),Nat.zero_add],fun X => ?_⟩
  have:=Al h X
  simp [FN,this,A2,hi]
theorem c200 {H:AE} {b:Nat} {lk:Bool} {nm n:Bytes} {pv:AV} (hb:H[b]? = some (.var lk [.str nm])):AK MX (AH MX) 200 [.agg [.str n,pv],.hp b 0] H=some (.ret (.bool (n == nm)),H++[.var false [.str n,pv]]):=by
 have hb':=Al hb [Blk.var false [.str n,pv]]
 exact BI S2 Vt (by simp [AN,Tryz.f200,hb'])
theorem c199 {H:AE} {w:AV} {es:List (List AV)} (hw:WV H w es) {ns:List Bytes} (hes:es.length=ns.length) (hln:ns.length<1048577) (hrow:∀ (k:Nat) e nm,es[k]? = some e→ns[k]? = some nm→∃ pv,e=[.str nm,pv]) {b:Nat} {lk:Bool} {nm:Bytes} (hb:H[b]? = some (.var lk [.str nm])) :
  ∃ X,AK MX (AH MX) 199 [w,.fn 200 [] [.hp b 0]] H=some (.ret (.int .i64 (ixI (ns.findIdx? (fun x=>x == nm)))),H++X):=by
 have hlen:=hw.len
 rw [hes] at hlen
 obtain ⟨e,st,hlp,hq⟩:=AR (M:=MX) (fid:=199) (N:=19) (C:=AH MX) (c:=AP Tryz.f199 0) (n:=ns.length) (fun i (X:AE)=>([(0,w),(1,.fn 200 [] [.hp b 0]),(7,.int .i64 ns.length),(8,.int .i64 i)],H++X)) (fun i _=>∀ j (hj:j<ns.length),j<i→(fun x=>x == nm) ns[j]=false)
  (fun r=>∃ X:AE,(r=(.ext 0,([(0,w),(1,.fn 200 [] [.hp b 0]),(7,.int .i64 ns.length),(8,.int .i64 ns.length),(9,.bool false)],H++X))∧ns.findIdx? (fun x=>x == nm)=none)∨(∃ i:Nat,r=(.ret,([(4,.int .i64 i)],H++X))∧ns.findIdx? (fun x=>x == nm)=some i)) (fun i X hi hI=>by
    have hi':=Aa hi
    have hwi:=AZ hi hln
    have hie:i<es.length:=by omega
    obtain ⟨p,hp,hrd⟩:=hw.row hie
    obtain ⟨pv,he⟩:=hrow i _ _ (List.getElem?_eq_getElem hie) (List.getElem?_eq_getElem hi)
    rw [he] at hrd
    have hcall:=c200 (n:=ns[i]) (pv:=pv) (Al hb X)
    have hrd':=hrd X
    cases hx:(ns[i] == nm) with
    | true=>rw [hx] at hcall;exact .inr ⟨_,_,by simp [Tryz.f199,hi',hp,hrd',hcall] <;> exact ⟨rfl,rfl⟩,by simp,X++[.var false [.str ns[i],pv]],.inr ⟨i,by simp,EN (p:=(fun x=>x == nm)) hi hI hx⟩⟩
    | false=>rw [hx] at hcall;exact .inl ⟨X++[.var false [.str ns[i],pv]],by simp [Tryz.f199,hi',hp,hrd',hcall,hwi],EP (p:=(fun x=>x == nm)) hi hI hx⟩) (fun X hI=>by
    exact ⟨_,_,by simp [Tryz.f199] <;> exact ⟨rfl,rfl⟩,by simp,X,.inl ⟨rfl,EO (p:=(fun x=>x == nm)) fun j hj=>hI j hj hj⟩⟩) [] (fun j _ h0=>by omega)
 simp [Tryz.f199] at hlp
 obtain ⟨X,hq⟩:=hq
 rcases hq with ⟨hq,hs⟩ | ⟨i,hq,hs⟩ <;> cases hq <;> exact ⟨X,BI S1 Vs (by simp [AN,Tryz.f199,hlen,hlp,hs,ixI])⟩
theorem c182 {H:AE} {id:Nat} {m:Int} {w:AV} {es:List (List AV)} (hid:H[id]? = some (.var false [.int .i64 m,w])) (hw:WV H w es) {ns:List Bytes} (hes:es.length=ns.length) (hln:ns.length<1048577) (hrow:∀ (k:Nat) e nm,es[k]? = some e→ns[k]? = some nm→∃ pv,e=[.str nm,pv]) (nm:Bytes) :
  ∃ X,AK MX (AH MX) 182 [.hp id 0,.str nm] H=some (.ret (.int .i64 (ixI (ns.findIdx? (fun x=>x == nm)))),H++X):=by
 obtain ⟨X,hc⟩:=c199 (hw.app [Blk.var false [.str nm]]) hes hln hrow (b:=H.length) (lk:=false) (nm:=nm) (Ce _ _)
 have hid':=Al hid [Blk.var false [.str nm]]
 exact ⟨[.var false [.str nm]]++X,BI Su Vl (by simp [AN,Tryz.f182,hid',hc])⟩
theorem c116 {H:AE} {id:Nat} {m:Int} {w:AV} {es:List (List AV)} (hid:H[id]? = some (.var false [.int .i64 m,w])) (hw:WV H w es):AK MX (AH MX) 116 [.hp id 0] H=some (.ret (.bool (es.length == 0)),H):=by
 have hl:=hw.len
 have he:((es.length:Int) == 0)=(es.length == 0):=by
  cases h:es.length with
  | zero=>rfl
  | succ n=>
   have:(((n+1:Nat):Int) == 0)=false:=by simp;omega
   rw [this];rfl
 exact BI SZ VR (by simp [AN,Tryz.f116,hid,hl,he])
theorem XO (m:Int) (h0:1≤m) (h1:m≤16):GQ .shl .i64 1 m=some (.int .i64 ((2 ^ m.toNat:Nat):Int)):=by
 have:m=1∨m=2∨m=3∨m=4∨m=5∨m=6∨m=7∨m=8∨m=9∨m=10∨m=11∨m=12∨m=13∨m=14∨m=15∨m=16:=by omega
 rcases this with rfl | rfl | rfl | rfl | rfl | rfl | rfl | rfl | rfl | rfl | rfl | rfl | rfl | rfl | rfl | rfl <;> rfl
theorem Gi.len {R:AV→Sh→Prop} {S:Nat→Prop} {H:AE} {pv:AV} {parts:List Sh} (h:Gi R S H pv parts):(∀ G,Bu pv G=some (.val (.int .i64 parts.length) G))∧Go.Am.E3 (some pv)=.st∧pv.cells=some [pv]:=by
 rcases h with ⟨rfl,rfl⟩ | ⟨q,ptrs,_,_,rfl,_⟩ <;> exact ⟨fun _=>rfl,rfl,rfl⟩
theorem BA.blk {n:Nat} {S:Nat→Prop} {H:AE} {v:AV} {s:Sh} (h:BA (n+1) S H v s):∃ id m w es,v=.hp id 0∧H[id]? = some (.var false [.int .i64 m,w])∧WV H w es ∧
  match s with
  | .bit k=>m=k∧es=[]
  | .cons ns ss=>es.length=ns.length∧ss.length=ns.length∧∀ (k:Nat) e nm parts,es[k]? = some e→ns[k]? = some nm→ss[k]? = some parts→∃ pv,e=[.str nm,pv]∧Gi (BA n S H) S H pv parts:=by
 cases s with
 | bit k=>
  obtain ⟨id,rfl,_,h2⟩:=h
  exact ⟨id,k,.AI,[],rfl,h2,.inl ⟨rfl,rfl⟩,rfl,rfl⟩
 | cons ns ss=>
  obtain ⟨id,rfl,_,w,es,h2,h3,h4,h5,h6⟩:=h
  refine ⟨id,0,w,es,rfl,h2,?_,h3,h4,h6⟩
  rcases h5 with h | ⟨j,_,h,hj⟩
  ·exact .inr (.inl h)
  ·exact .inr (.inr ⟨j,h,hj⟩)
theorem T3 {G:AE} {id i:Nat} {m:Int} {w:AV} {es:List (List AV)} (hid:G[id]? = some (.var false [.int .i64 m,w])) (hw:WV G w es) {nm:Bytes} {pv:AV} (hei:es[i]? = some [.str nm,pv]) {n:Nat} {S:Nat→Prop} {parts:List Sh} (hS:∀ x,S x→x<G.length) (hP:Gi (BA n S G) S G pv parts)
  {ps:List TyV} {qv:AV} (hq:SlR AU 4 ps qv) (hpl:ps.length<1048577) (hlen:ps.length=parts.length) (ih:∀ (k:Nat) (hk:k<ps.length) (hk2:k<parts.length) (px:List AV) (v:AV) (X:AE),AU ps[k] px→BA n S G v parts[k]→∃ X',AK MX (AH MX) 147 [v,.agg px] (G++X)=some (.ret (.int .i64 (Ch parts[k] ps[k])),G++X++X')) (X0:AE) :
  ∃ (X:AE) (r:Ex×St),Em MX 147 98 (AH MX) (AP Tryz.f147 0) ([(0,.hp id 0),(6,.int .i64 i),(74,qv),(75,.int .i64 ps.length),(76,.int .i64 (0:Nat))],G++X0)=some r ∧
   (r=(.ext 1,([(0,.hp id 0),(6,.int .i64 i),(74,qv),(75,.int .i64 ps.length),(76,.int .i64 ps.length),(77,.bool false)],G++X))∧Eb parts ps=0∨r=(.ret,([(4,.int .i64 (Eb parts ps))],G++X))∧Eb parts ps≠0):=by
 have hb18:=Ox
 simp [BK,Be,Tryz.f147] at hb18
 have hie:=(List.getElem?_eq_some_iff.1 hei).1
 have hei':es[i]=[.str nm,pv]:=(List.getElem?_eq_some_iff.1 hei).2
 obtain ⟨e,st,hlp,hq'⟩:=AR (M:=MX) (fid:=147) (N:=98) (C:=AH MX) (c:=AP Tryz.f147 0) (n:=ps.length)
  (fun k (X:AE)=>([(0,.hp id 0),(6,.int .i64 i),(74,qv),(75,.int .i64 ps.length),(76,.int .i64 k)],G++X))
  (fun k X=>Eb parts ps=Eb (parts.drop k) (ps.drop k))
  (fun r=>∃ X,r=(.ext 1,([(0,.hp id 0),(6,.int .i64 i),(74,qv),(75,.int .i64 ps.length),(76,.int .i64 ps.length),(77,.bool false)],G++X))∧Eb parts ps=0∨r=(.ret,([(4,.int .i64 (Eb parts ps))],G++X))∧Eb parts ps≠0) (fun k X hk hI=>by
    have hk':=Aa hk
    have hwk:=AZ hk hpl
    have hk2:k<parts.length:=by omega
    obtain ⟨fe,hfe,hR⟩:=hq.ix hk
    rw [Ku hk hk2] at hI
    rcases hP with ⟨rfl,rfl⟩ | ⟨q,ptrs,h0,h1,rfl,h3,h4,h5⟩
    ·simp at hk2
    ·have hkp:k<ptrs.length:=by omega
     obtain ⟨v,hv,hs⟩:=h5 k ptrs[k] parts[k] (List.getElem?_eq_getElem hkp) (List.getElem?_eq_getElem hk2)
     have hpk:ptrs[k]? = some [v]:=by rw [List.getElem?_eq_getElem hkp,hv]
     obtain ⟨X',hc⟩:=ih k hk hk2 fe v (X++[Blk.var false fe]) hR hs
     obtain ⟨tv,rfl,htv⟩:=hR.AY
     have hix:ixA 1 (.hs q parts.length 1 0 parts.length false) (.int .i64 k)=some (.ep q parts.length 1 k 0):=by
      rw [A8 (kd:=.i64) (hi:=hk2),Nat.zero_add]
     have hid':=Al hid (X++[Blk.var false [.int .i64 ps[k].k,.int .i64 ps[k].v,.str ps[k].nm,tv]])
     have hq3:=Al h3 (X++[Blk.var false [.int .i64 ps[k].k,.int .i64 ps[k].v,.str ps[k].nm,tv]])
     have hlast:(G++(X++[Blk.var false [.int .i64 ps[k].k,.int .i64 ps[k].v,.str ps[k].nm,tv]]))[G.length+X.length]? = some (.var false [.int .i64 ps[k].k,.int .i64 ps[k].v,.str ps[k].nm,tv]):=by
      rw [← List.append_assoc,← List.length_append];exact Ce _ _
     have e1:G++(X++[Blk.var false [.int .i64 ps[k].k,.int .i64 ps[k].v,.str ps[k].nm,tv]])++X'=G++(X++([Blk.var false [.int .i64 ps[k].k,.int .i64 ps[k].v,.str ps[k].nm,tv]]++X')):=by simp
     rw [e1] at hc
     have key:∀ z:Int,(Ch parts[k] ps[k]=z)→(z=0→AW MX 147 98 (AH MX) (AP Tryz.f147 0) ([(0,.hp id 0),(6,.int .i64 i),(74,qv),(75,.int .i64 ps.length),(76,.int .i64 k)],G++X)=some (.nrm,([(0,.hp id 0),(6,.int .i64 i),(74,qv),(75,.int .i64 ps.length),(76,.int .i64 (k+1:Nat))],G++(X++([Blk.var false [.int .i64 ps[k].k,.int .i64 ps[k].v,.str ps[k].nm,tv]]++X'))))) ∧
       (z≠0→AW MX 147 98 (AH MX) (AP Tryz.f147 0) ([(0,.hp id 0),(6,.int .i64 i),(74,qv),(75,.int .i64 ps.length),(76,.int .i64 k)],G++X)=some (.ret,([(4,.int .i64 z)],G++(X++([Blk.var false [.int .i64 ps[k].k,.int .i64 ps[k].v,.str ps[k].nm,tv]]++X'))))):=by
      intro z hz
      rw [hz] at hc
      rcases hw with ⟨rfl,rfl⟩ | rfl | ⟨j,rfl,hj⟩
      ·cases hie
      ·have hixw:ixA 2 (.sl 2 true es) (.int .i64 i)=some (.ro [.str nm,.hs q parts.length 1 0 parts.length false]):=by rw [G0 _ _ _ _ .i64 hie,hei']
       refine ⟨fun h => ?_,fun h => ?_⟩
       ·subst h
        simp [Tryz.f147,hk',hfe,hid',Ag hid',hixw,hix,hq3,Ag hq3,h4,hpk,hlast,Ag hlast,hc,hb18,hwk]
       ·have hzb:(z != 0)=true:=by simp [h]
        simp [Tryz.f147,hk',hfe,hid',Ag hid',hixw,hix,hq3,Ag hq3,h4,hpk,hlast,Ag hlast,hc,hb18,hzb]
      ·have hixw:ixA 2 (.hs j es.length 2 0 es.length false) (.int .i64 i)=some (.ep j es.length 2 i 0):=by rw [A8 (kd:=.i64) (hi:=hie),Nat.zero_add]
       have hj':=Al hj (X++[Blk.var false [.int .i64 ps[k].k,.int .i64 ps[k].v,.str ps[k].nm,tv]])
       refine ⟨fun h => ?_,fun h => ?_⟩
       ·subst h
        simp [Tryz.f147,hk',hfe,hid',Ag hid',hixw,hj',Ag hj',hei,hix,hq3,Ag hq3,h4,hpk,hlast,Ag hlast,hc,hb18,hwk]
       ·have hzb:(z != 0)=true:=by simp [h]
        simp [Tryz.f147,hk',hfe,hid',Ag hid',hixw,hj',Ag hj',hei,hix,hq3,Ag hq3,h4,hpk,hlast,Ag hlast,hc,hb18,hzb]
     obtain ⟨k1,k2⟩:=key _ rfl
     by_cases hz:Ch parts[k] ps[k]=0
     ·rw [if_pos hz] at hI
      exact .inl ⟨_,k1 hz,hI⟩
     ·rw [if_neg hz] at hI
      exact .inr ⟨_,_,k2 hz,by simp,_,.inr ⟨by rw [hI],by rw [hI];exact hz⟩⟩) (fun X hI=>by
    rw [List.drop_length] at hI
    exact ⟨_,_,by simp [Tryz.f147] <;> first | exact ⟨rfl,rfl⟩ | rfl,by simp,X,.inl ⟨rfl,by rw [hI];simp [Eb]⟩⟩) X0 (by simp)
 obtain ⟨X,hq'⟩:=hq'
 exact ⟨X,_,hlp,hq'⟩
theorem c147 {l:List AO} (hd:DV l) (p:TyV):∀ (px:List AV),AU p px→Sm 1048577 p→∀ (n:Nat) (s:Sh) (t:TyV) (S:Nat→Prop) (H:AE) (v:AV) (X:AE),(∀ x,S x→x<H.length)→BA n S H v s→Cw l t s→VT l t →
  ∃ X',AK MX (AH MX) 147 [v,.agg px] (H++X)=some (.ret (.int .i64 (Ch s p)),H++X++X'):=by
 induction p using TyV.ind with
 | h k pv nm ps ih=>
  intro px hpx hsp n s t S H v X hS hs hsh hvt
  obtain ⟨s1,s2,s3⟩:=hsp.dest
  cases n with
  | zero=>exact hs.elim
  | succ n=>
   have hsG:BA (n+1) S (H++X) v s:=BA.mono _ hs (fun _ h=>h) (fun x hx=>List.getElem?_append_left (hS x hx))
   have hSG:∀ x,S x→x<(H++X).length:=fun x hx=>by have:=hS x hx;simp;omega
   generalize H++X=G at hsG hSG
   clear hs hS X H
   obtain ⟨id,m,w,es,rfl,hid,hw,hsd⟩:=hsG.blk
   obtain ⟨qv,rfl,hq⟩:=hpx.dest
   have hleaf:(((ps.length:Int) == 0)=true→ps=[]):=fun h=>by
    have:ps.length=0:=by simpa using h
    exact List.eq_nil_of_length_eq_zero this
   have hid':=Al hid [Blk.var false [.int .i64 k,.int .i64 pv,.str nm,qv]]
   have hw':=hw.app [Blk.var false [.int .i64 k,.int .i64 pv,.str nm,qv]]
   have hlast:=Ce G (Blk.var false [.int .i64 k,.int .i64 pv,.str nm,qv])
   have hnm:=c180 nm s1
   have h116:=c116 hid' hw'
   have hlz:((ps.length:Int) == 0)=decide (ps.length=0):=by
    rw [Bool.eq_iff_iff];simp
   have hb8:=Qx
   simp [BK,Be,Tryz.f147] at hb8
   have hb13:=Ow
   simp [BK,Be,Tryz.f147] at hb13
   by_cases k0:k=0
   ·have e:Ch s (.mk k pv nm ps)=if ps.length=0 then 0 else 10:=by
     subst k0
     simp only [Ch,if_true]
     by_cases hp:ps.length=0 <;> simp [hp] <;> omega
    rw [e]
    have k0b:(k == 0)=true:=by simp [k0]
    exact ⟨_,BI FT GJ (by simp [AN,Tryz.f147,hq.len,hlz,k0b] <;> rfl)⟩
   have k0b:(k == 0)=false:=by simp [k0]
   by_cases k1:k=1
   ·have e:Ch s (.mk k pv nm ps)=An [if ps.length=0 then 0 else 10,if A6 nm then 0 else 4]:=by
     subst k1
     simp only [Ch]
     by_cases hp:ps.length=0 <;> cases hn:A6 nm <;> simp [hp,An,hn]
     all_goals (have:0<ps.length:=by omega) <;> simp [this]
    rw [e]
    have k1b:(k == 1)=true:=by simp [k1]
    exact ⟨_,BI FT GJ (by simp [AN,Tryz.f147,hq.len,hlz,k0b,k1b,hnm,bsA,Ak,List.replicate,AG,AV.AD] <;> rfl)⟩
   have k1b:(k == 1)=false:=by simp [k1]
   by_cases k3:k=3
   ·have k3b:(k == 3)=true:=by simp [k3]
    cases hsh with
    | bit _ hbt hwd _=>
     obtain ⟨rfl,rfl⟩:=hsd
     obtain ⟨P,hP⟩:∃ P:Nat,P=2 ^ (BM t).v.toNat:=⟨_,rfl⟩
     have hsl:=XO _ hwd.1 hwd.2
     have hPb:P≤65536:=by
      rw [hP]
      exact Nat.le_trans (Nat.pow_le_pow_right (by decide) (show (BM t).v.toNat≤16 by omega)) (by decide)
     have hPp:0<P:=by rw [hP];exact Nat.pow_pos (by decide)
     have e:Ch (.bit (BM t).v) (.mk k pv nm ps)=An [0,if ps.length=0 then 0 else 10,if 0≤pv∧pv≤(P:Int) - 1 then 0 else 2]:=by
      subst k3
      simp only [Ch,hP]
      by_cases hp:ps.length=0
      ·simp [hp,An]
      ·have:0<ps.length:=by omega
       simp [hp,this,An]
     rw [e]
     rw [← hP] at hsl
     have hwp:wr .i64 ((P:Int) - 1)=(P:Int) - 1:=BD (by omega) (by omega)
     simp at h116
     exact ⟨_,BI FT GJ (by simp [AN,Tryz.f147,hq.len,hlz,k0b,k1b,k3b,h116,hid',Ag hid',hlast,hsl,hwp,hb8,GP,bsA,Ak,List.replicate,AG,AV.AD] <;> rfl)⟩
    | cons _ ns ss hbt hk2 hn hln hsp' hf=>
     obtain ⟨he1,he2,he3⟩:=hsd
     have e:Ch (.cons ns ss) (.mk k pv nm ps)=26:=by subst k3;simp [Ch]
     rw [e]
     have hne:0<es.length:=by
      have:=(hd.con t hvt hk2 hbt).2.1
      rw [he1,hn,List.length_map]
      exact List.length_pos_iff.2 this
     have heb:(es.length == 0)=false:=by simp;intro h;rw [h] at hne;simp at hne
     rw [heb] at h116
     exact ⟨_,BI FT GJ (by simp [AN,Tryz.f147,hq.len,hlz,k0b,k1b,k3b,h116,hid',Ag hid',hlast,hb8,GP,An,bsA,Ak,List.replicate,AG,AV.AD] <;> rfl)⟩
   have k3b:(k == 3)=false:=by simp [k3]
   by_cases k2:k=2
   ·have k2b:(k == 2)=true:=by simp [k2]
    cases hsh with
    | bit _ hbt hwd _=>
     obtain ⟨rfl,rfl⟩:=hsd
     have e:Ch (.bit (BM t).v) (.mk k pv nm ps)=6:=by subst k2;simp [Ch]
     rw [e]
     obtain ⟨X1,h182⟩:=c182 hid' hw' (ns:=[]) rfl (by simp) (fun k e nm h=>by simp at h) nm
     simp [ixI] at h182
     exact ⟨_,BI FT GJ (by simp [AN,Tryz.f147,hq.len,hlz,k0b,k1b,k3b,k2b,h182] <;> rfl)⟩
    | cons _ ns ss hbt hk2 hn hln hsp' hf=>
     obtain ⟨he1,he2,he3⟩:=hsd
     have hco:=hd.con t hvt hk2 hbt
     have hnl:ns.length=(AQ l t).length:=by rw [hn,List.length_map]
     obtain ⟨X1,h182⟩:=c182 hid' hw' he1 (by rw [hnl];have:=hco.1;omega) (fun k e nm' h1 h2=>by
      have hks:k<ss.length:=by have:=(List.getElem?_eq_some_iff.1 h2).1;omega
      obtain ⟨pv',e,_⟩:=he3 k e nm' _ h1 h2 (List.getElem?_eq_getElem hks)
      exact ⟨pv',e⟩) nm
     cases hfi:ns.findIdx? (fun x=>x == nm) with
     | none=>
      rw [hfi] at h182
      simp [ixI] at h182
      have e:Ch (.cons ns ss) (.mk k pv nm ps)=6:=by subst k2;simp [Ch,hfi]
      rw [e]
      exact ⟨_,BI FT GJ (by simp [AN,Tryz.f147,hq.len,hlz,k0b,k1b,k3b,k2b,h182] <;> rfl)⟩
     | some i=>
      rw [hfi] at h182
      simp only [ixI] at h182
      have hin:=F3 hfi
      have his:i<ss.length:=by omega
      have hie:i<es.length:=by omega
      have hic:i<(AQ l t).length:=by omega
      obtain ⟨rv,hrow,hP⟩:=he3 i es[i] ns[i] ss[i] (List.getElem?_eq_getElem hie) (List.getElem?_eq_getElem hin) (List.getElem?_eq_getElem his)
      have hei:es[i]? = some [.str ns[i],rv]:=by rw [List.getElem?_eq_getElem hie,hrow]
      obtain ⟨hpl1,hpl2,hpl3⟩:=hP.len
      have hgd:ss.getD i []=ss[i]:=by simp [his]
      have hgd':ss[i]?.getD []=ss[i]:=by simp [his]
      have hsl:=hsp' i _ _ (List.getElem?_eq_getElem hic) (List.getElem?_eq_getElem his)
      have hni:¬ ((i:Int)<0):=by omega
      let B:=Blk.var false [.int .i64 k,.int .i64 pv,.str nm,qv]
      have hidX:=Al hid ([B]++X1)
      have hlX:(G++([B]++X1))[G.length]? = some B:=by
       rw [List.getElem?_append_right (Nat.le_refl _)];simp
      simp only [B,List.cons_append,List.nil_append] at hidX hlX
      by_cases hpl:ps.length=ss[i].length
      ·-- its parts
       have e:Ch (.cons ns ss) (.mk k pv nm ps)=Eb ss[i] ps:=by
        subst k2;simp [Ch,hfi,hgd,hgd',hpl]
       rw [e]
       obtain ⟨X2,r,f1,f2⟩:=T3 hid hw hei hSG hP hq s2 hpl (fun j hj hj2 px v X hR hv=>by
        have hjf:j<(AQ l t)[i].fields.length:=by omega
        have h1:=hf i _ _ j _ _ (List.getElem?_eq_getElem hic) (List.getElem?_eq_getElem his) (List.getElem?_eq_getElem hjf) (List.getElem?_eq_getElem hj2)
        exact ih ps[j] (List.getElem_mem hj) px hR (s3 _ (List.getElem_mem hj)) n ss[i][j] _ S G v X hSG hv h1 (hd.dok.fld t hvt hk2 hbt _ (List.getElem_mem hic) _ (List.getElem_mem hjf))) ([B]++X1)
       simp only [B,List.cons_append,List.nil_append] at f1
       simp [Tryz.f147] at f1
       have hpb:((ps.length:Int) != (ss[i].length:Int))=false:=by rw [hpl];simp
       have fin:∀ z,(r=(.ext 1,([(0,.hp id 0),(6,.int .i64 i),(74,qv),(75,.int .i64 ps.length),(76,.int .i64 ps.length),(77,.bool false)],G++X2))∧z=0∨r=(.ret,([(4,.int .i64 z)],G++X2))∧z≠0)→AN MX 147 [.hp id 0,.agg [.int .i64 k,.int .i64 pv,.str nm,qv]] G=some (.ret (.int .i64 z),G++X2):=by
        intro z hz
        rcases hw with ⟨rfl,rfl⟩ | rfl | ⟨j,rfl,hj⟩
        ·cases hie
        ·have hixw:ixA 2 (.sl 2 true es) (.int .i64 i)=some (.ro [.str ns[i],rv]):=by rw [G0 _ _ _ _ .i64 hie,hrow]
         rcases hz with ⟨rfl,rfl⟩ | ⟨rfl,hz⟩ <;> simp [AN,Tryz.f147,hq.len,hq.E3,hlz,k0b,k1b,k3b,k2b,h182,hni,hidX,Ag hidX,hlX,Ag hlX,hixw,hpl1,hpl2,hpb,hb13,f1]
        ·have hixw:ixA 2 (.hs j es.length 2 0 es.length false) (.int .i64 i)=some (.ep j es.length 2 i 0):=by rw [A8 (kd:=.i64) (hi:=hie),Nat.zero_add]
         have hjX:=Al hj ([B]++X1)
         simp only [B,List.cons_append,List.nil_append] at hjX
         rcases hz with ⟨rfl,rfl⟩ | ⟨rfl,hz⟩ <;> simp [AN,Tryz.f147,hq.len,hq.E3,hlz,k0b,k1b,k3b,k2b,h182,hni,hidX,Ag hidX,hlX,Ag hlX,hixw,hjX,Ag hjX,hei,hpl1,hpl2,hpb,hb13,f1]
       exact ⟨X2,BI FT GJ (fin _ f2)⟩
      ·have e:Ch (.cons ns ss) (.mk k pv nm ps)=10:=by
        subst k2;simp [Ch,hfi,hgd,hgd',hpl]
       rw [e]
       have hpb:((ps.length:Int) != (ss[i].length:Int))=true:=by simp;omega
       refine ⟨[B]++X1,BI FT GJ ?_⟩
       simp only [B,List.cons_append,List.nil_append]
       rcases hw with ⟨rfl,rfl⟩ | rfl | ⟨j,rfl,hj⟩
       ·cases hie
       ·have hixw:ixA 2 (.sl 2 true es) (.int .i64 i)=some (.ro [.str ns[i],rv]):=by rw [G0 _ _ _ _ .i64 hie,hrow]
        simp [AN,Tryz.f147,hq.len,hq.E3,hlz,k0b,k1b,k3b,k2b,h182,hni,hidX,Ag hidX,hlX,Ag hlX,hixw,hpl1,hpl2,hpb,hb13]
       ·have hixw:ixA 2 (.hs j es.length 2 0 es.length false) (.int .i64 i)=some (.ep j es.length 2 i 0):=by rw [A8 (kd:=.i64) (hi:=hie),Nat.zero_add]
        have hjX:=Al hj ([B]++X1)
        simp only [B,List.cons_append,List.nil_append] at hjX
        simp [AN,Tryz.f147,hq.len,hq.E3,hlz,k0b,k1b,k3b,k2b,h182,hni,hidX,Ag hidX,hlX,Ag hlX,hixw,hjX,Ag hjX,hei,hpl1,hpl2,hpb,hb13]
   ·have k2b:(k == 2)=false:=by simp [k2]
    have e:Ch s (.mk k pv nm ps)=15:=by simp [Ch,k0,k1,k2,k3]
    rw [e]
    exact ⟨_,BI FT GJ (by simp [AN,Tryz.f147,hq.len,hlz,k0b,k1b,k3b,k2b] <;> rfl)⟩
end Go.Proofs.Am12
namespace Go.Proofs.Am12
open Go Go.Am
theorem N3:∀ (l prev:List Bytes),IV prev l=false↔l.Nodup∧∀ x∈l,x ∉ prev
 | [],prev=>by simp [IV]
 | x::r,prev=>by
  have hx:(prev.findIdx? (fun y=>y == x)).isSome=decide (x∈prev):=by
   rw [List.findIdx?_isSome,Bool.eq_iff_iff,List.any_eq_true,decide_eq_true_iff]
   exact ⟨fun ⟨y,hy,e⟩=>beq_iff_eq.1 e ▸ hy,fun h=>⟨x,h,beq_self_eq_true x⟩⟩
  simp only [IV,Bool.or_eq_false_iff,hx,decide_eq_false_iff_not,N3 r,List.nodup_cons,List.mem_append,List.mem_singleton,List.forall_mem_cons,not_or]
  constructor
  ·rintro ⟨h1,h2,h3⟩
   exact ⟨⟨fun h=>(h3 x h).2 rfl,h2⟩,h1,fun y hy=>(h3 y hy).1⟩
  ·rintro ⟨⟨h1,h2⟩,h3,h4⟩
   exact ⟨h3,h2,fun y hy=>⟨h4 y hy,fun e=>h1 (e ▸ hy)⟩⟩
def HI (l:List Bytes):List Bytes:=l.mergeSort fun x y=>decide (x≤y)
theorem K4 (l:List Bytes):(HI l).Perm l:=List.mergeSort_perm l _
theorem Lw (l:List Bytes):(HI l).length=l.length:=(K4 l).length_eq
theorem T4 (l:List Bytes):(HI l).Pairwise (· ≤ ·):=by
 have:=List.pairwise_mergeSort (le:=fun x y:Bytes=>decide (x≤y)) (fun a b c h k=>by
  simp only [decide_eq_true_eq] at *;exact List.le_trans h k) (fun a b=>by
  rw [Bool.or_eq_true,decide_eq_true_eq,decide_eq_true_eq];exact List.le_total a b) l
 exact this.imp fun h=>by simpa using h
theorem LM {s:List Bytes} (hs:s.Pairwise (· ≤ ·)):(Lib.compact s).length=s.length↔s.Nodup:=by
 have hk:(Lib.compact s).length=s.length↔∀ j,j<s.length→Lib.keeps s.toArray j=true:=by
  unfold Lib.compact Lib.compactUpTo
  rw [List.length_map]
  have := @List.length_filter_eq_length_iff _ (Lib.keeps s.toArray) (List.range s.length)
  rw [List.length_range] at this
  rw [this]
  exact ⟨fun h j hj=>h j (List.mem_range.2 hj),fun h j hj=>h j (List.mem_range.1 hj)⟩
 rw [hk]
 have hg:∀ j (hj:j<s.length),s.toArray[j]! = s[j]:=fun j hj=>by simp [getElem!_pos,hj]
 constructor
 ·intro h
  unfold List.Nodup
  rw [List.pairwise_iff_getElem]
  intro i j hi hj hij e
  rw [List.pairwise_iff_getElem] at hs
  have h1:=h (i+1) (by omega)
  simp only [Lib.keeps,decide_eq_true_eq] at h1
  rcases h1 with h1 | h1
  ·omega
  rw [hg (i+1) (by omega),Nat.add_sub_cancel,hg i hi] at h1
  apply h1
  have a1:s[i]≤s[i+1]:=hs i (i+1) hi (by omega) (by omega)
  by_cases hj1:i+1=j
  ·subst hj1;exact e.symm
  ·have a2:s[i+1]≤s[j]:=hs (i+1) j (by omega) hj (by omega)
   rw [← e] at a2
   exact List.le_antisymm a2 a1
 ·intro h j hj
  simp only [Lib.keeps,decide_eq_true_eq]
  by_cases h0:j=0
  ·exact .inl h0
  ·refine .inr fun e => ?_
   rw [hg j hj,hg (j - 1) (by omega)] at e
   exact List.pairwise_iff_getElem.1 h (j - 1) j (by omega) hj (by omega) e.symm
theorem Ml (l:List Bytes):((Lib.compact (HI l)).length=l.length)↔IV [] l=false:=by
 rw [← Lw l,LM (T4 l),(K4 l).nodup_iff,N3]
 simp
end Go.Proofs.Am12
namespace Go.Proofs.Am12
open Go Go.Am
attribute [local simp] Dq B8 EL Dr CS Ds Dt Ee BT BP Bb Ap Fy Ez D9 Gn D1 A4 El EA Gp Gq xUn Ej D2 E0 BF C7 BG D3 BH D4 Cb CV Bx BE EB EK
 ev evs C3 C4 OR.ofV OR.DQ OR.ofC E6 Tm.get Tm.init Tm.only A2 A7 CF finish B6 Cm Gm Db D0 unA CA Bg CB Bh Cp Cq Cr Bi Cs Ct Bj Cu Cv Bk CC AP CJ Bf Cn Co B9 Ef Eg Eh Du Dv FM Fa Fb FN stA A3 DE B7 C8 Ek GH CD DA CG E1 GI
set_option maxHeartbeats 1000000
attribute [local simp] DH CU CM Bl DI DJ DK DL DM DN DP ES Cy ET Df FC FD Ga Dg EU Dh BU Di BV Dj CP EV Cz FE FF FG C0 Dk Dl FH Gb FI Gc Gd Dm BW C1 CQ Dn Dp C2
theorem QN {f:FuncId} {args:List AV} {h:AE} {r:CR×AE} {e:List AV→AE→Option (CR×AE)} (hm:MX.mode f = { }) (he:MX.eff f=some e) (hr:e args h=some r):AK MX (AH MX) f args h=some r:=by
 unfold AK
 simp only [hm]
 exact Ll he hr
theorem Lx (l:List Bytes):HR (strs l)=some l:=Jt l
theorem c149 {Y:AE} {l:List Bytes} (hl:l≠[]) (hb:l.length<4294967296):AK MX (AH MX) 149 [.hs Y.length l.length 1 0 l.length false] (Y++[.arr 1 false (strs l)])=some (.ret (.tup []),Y++[.arr 1 false (strs (HI l))]):=by
 refine QN NR Pt ?_
 have h1:(Y++[Blk.arr 1 false (strs l)])[Y.length]? = some (.arr 1 false (strs l)):=Ce _ _
 have h2:(strs l).length=l.length:=by simp [strs]
 have h0:0<l.length:=List.length_pos_iff.2 hl
 have hc:(Nat.beq (strs l).length l.length&&Nat.beq l.length l.length&&Nat.blt 0 l.length&&Nat.blt l.length 4611686018427387904)=true:=by
  rw [h2]
  simp only [Bool.and_eq_true,Bs,Fg]
  exact ⟨⟨⟨trivial,trivial⟩,h0⟩,by omega⟩
 simp only [NH,h1,Lx,hc]
 have hset:(Y++[Blk.arr 1 false (strs l)]).set Y.length (.arr 1 false (strs (HI l)))=Y++[.arr 1 false (strs (HI l))]:=by simp
 exact congrArg (fun z=>some (CR.ret (AV.tup []),z)) hset
theorem c150 {Y:AE} {B:Blk} {l:List Bytes} (hl:l≠[]) (hb:l.length<4294967296):∃ Z,AK MX (AH MX) 150 [.hs (Y.length+1) l.length 1 0 l.length false] (Y++[B,.arr 1 false (strs l)])=some (.ret (.hs (Y.length+1) l.length 1 0 (Lib.compact l).length false),Y++[B,Z]):=by
 refine ⟨.arr 1 false (strs (Lib.compact l++List.replicate (l.length - (Lib.compact l).length) [])),QN NS Pu ?_⟩
 ·have h1:(Y++[B,Blk.arr 1 false (strs l)])[Y.length+1]? = some (.arr 1 false (strs l)):=by simp
  have h2:(strs l).length=l.length:=by simp [strs]
  have h0:0<l.length:=List.length_pos_iff.2 hl
  have hc:(Nat.beq (strs l).length l.length&&Nat.beq l.length l.length&&Nat.blt 0 l.length&&Nat.blt l.length 4611686018427387904)=true:=by
   rw [h2]
   simp only [Bool.and_eq_true,Bs,Fg]
   exact ⟨⟨⟨trivial,trivial⟩,h0⟩,by omega⟩
  simp only [Hs,h1,Lx,hc]
  have hset:∀ C,(Y++[B,Blk.arr 1 false (strs l)]).set (Y.length+1) C=Y++[B,C]:=fun C=>by simp
  exact congrArg (fun z=>some (CR.ret (AV.hs (Y.length+1) l.length 1 0 (Lib.compact l).length false),z)) (hset _)
theorem u100:und MX.ty 100=some (.slice 9):=by kernel_rfl
theorem c151 {Y:AE} {l:List Bytes} (hl:l≠[]) (hb:l.length<4294967296):AK MX (AH MX) 151 [.hs Y.length l.length 1 0 l.length false] (Y++[.arr 1 false (strs l)])=some (.ret (.hs (Y.length+1) l.length 1 0 l.length false),Y++[.arr 1 true (strs l),.arr 1 false (strs l)]):=by
 have h1:(Y++[Blk.arr 1 false (strs l)])[Y.length]? = some (.arr 1 false (strs l)):=Ce _ _
 have h2:(strs l).length=l.length:=by simp [strs]
 have h0:0<l.length:=List.length_pos_iff.2 hl
 have hall:=F6 l
 have hsn:Am.snap CX (.hs Y.length l.length 1 0 l.length false) (Y++[Blk.arr 1 false (strs l)])=some (.sl 1 false (strs l),(Y++[Blk.arr 1 false (strs l)]).set Y.length (.arr 1 true (strs l))):=by
  have hb:(Nat.beq (strs l).length l.length&&Nat.beq 1 1&&Nat.ble (0+l.length) (strs l).length&&(strs l).all AG)=true:=by
   rw [h2,hall];simp [A2,A7]
  have:BC 1 (.hs Y.length l.length 1 0 l.length false) (Y++[Blk.arr 1 false (strs l)]) (.sl 1 false (strs l)) ((Y++[Blk.arr 1 false (strs l)]).set Y.length (.arr 1 true (strs l))):=fun n=>by
   simp only [Am.snap,h1,hb]
   have:(strs l).take l.length=strs l:=List.take_of_length_le (by omega)
   simp [this]
  exact this.at (by decide)
 have hset:(Y++[Blk.arr 1 false (strs l)]).set Y.length (.arr 1 true (strs l))=Y++[.arr 1 true (strs l)]:=by simp
 rw [hset] at hsn
 have e2:l.length * 16≤17592186044416:=by omega
 have e3:l.length≤17592186044416:=by omega
 have hne:strs l≠[]:=fun h=>by rw [h] at h2;simp at h2;omega
 have hap:∀ H:AE,apA 1 16 (.sl 1 true []) (.sl 1 false (strs l)) H=some (.hs H.length l.length 1 0 l.length false,H++[.arr 1 false (strs l)]):=fun H=>by
  have hrd:Az H (.sl 1 false (strs l))=some (strs l):=rfl
  cases he:strs l with
  | nil=>exact absurd he hne
  | cons a r=>
   rw [he] at hrd h2
   simp only [List.length_cons] at h2
   simp [apA,apX,CE,BO,FQ,Av,A2,A7,CF,hrd,h2,e2,e3]
 refine Eo (by simp [Kl]) (args':=[.sl 1 false (strs l)]) (h':=Y++[Blk.arr 1 true (strs l)]) (by simp [Ax,AV.AD,hsn]) (by simp [AV.AD] <;> exact List.all_eq_true.1 hall) ?_
 have hap0:=hap []
 simp only [List.length_nil,List.nil_append] at hap0
 have hcl:=H6 (H:=[.arr 1 false (strs l)]) (a:=.hs 0 l.length 1 0 l.length false) (l:=l) (.inr ⟨0,hl,rfl,rfl⟩) (Y++[.arr 1 true (strs l)])
 have hnv:nv l (Y++[Blk.arr 1 true (strs l)]).length=.hs (Y.length+1) l.length 1 0 l.length false:=by cases l with
  | nil=>exact absurd rfl hl
  | cons a r=>simp [nv]
 have hnb:nb l=[.arr 1 false (strs l)]:=by cases l with
  | nil=>exact absurd rfl hl
  | cons a r=>rfl
 rw [hnv,hnb] at hcl
 have:=H4 Kl Pv (by simp [AV.AD] <;> exact List.all_eq_true.1 hall) (args:=[.sl 1 false (strs l)]) (v:=.hs 0 l.length 1 0 l.length false) (hr:=[.arr 1 false (strs l)]) (h:=Y++[Blk.arr 1 true (strs l)]) (by simp [AN,Tryz.f151,u100,eqA,bsA,Ak,List.replicate,AG,AV.AD,hap0]) hcl
 rw [this]
 simp
theorem c83 {l:List AO} (hd:DV l) {p:TyV} {px:List AV} (hx:AU p px) (hsm:Sm 1048577 p) {n:Nat} {s:Sh} {t:TyV} {S:Nat→Prop} {H:AE} {v:AV} (hS:∀ x,S x→x<H.length) (hs:BA n S H v s) (hsh:Cw l t s) (hvt:VT l t) (X:AE) :
  ∃ X',AK MX (AH MX) 83 [v,.agg px] (H++X)=some (.ret (.int .i64 (FJ s p)),H++X++X'):=by
 have h145:=c145 hx hsm
 obtain ⟨X2,h147⟩:=c147 hd p px hx hsm n s t S H v (X++[Blk.var false px]) hS hs hsh hvt
 obtain ⟨id,rfl⟩:=hs.hp
 have e1:H++(X++[Blk.var false px])++X2=H++(X++(Blk.var false px::X2)):=by simp
 rw [e1] at h147
 obtain ⟨Y,hY⟩:∃ Y,Y=H++(X++(Blk.var false px::X2)):=⟨_,rfl⟩
 rw [← hY] at h147
 have hbox:Y[H.length+X.length]? = some (.var false px):=by
  rw [hY,← List.append_assoc,← List.length_append,List.getElem?_append_right (Nat.le_refl _),Nat.sub_self];rfl
 have hlast:(H++(X++[Blk.var false px]))[H.length+X.length]? = some (.var false px):=by
  rw [← List.append_assoc,← List.length_append];exact Ce _ _
 unfold FJ
 cases hT:A1 p with
 | false=>
  rw [hT] at h145
  simp at h145
  obtain ⟨qv,rfl,hq⟩:=hx.AY
  exact ⟨[Blk.var false [.int .i64 p.k,.int .i64 p.v,.str p.nm,qv]],BI JG Kj (by simp [AN,Tryz.f83,h145])⟩
 | true=>
  rw [hT] at h145
  simp at h145
  by_cases hz:Ch s p=0
  ·rw [hz] at h147
   have hnl:=JP hT
   have h148:=c148 p px hx hsm (by omega) Y
   have hfin:∃ Z,AK MX (AH MX) 83 [.hp id 0,.agg px] (H++X)=some (.ret (.int .i64 (if IV [] (BB p)=true then 23 else 0)),Y++Z):=by
    obtain ⟨qv,rfl,hq⟩:=hx.AY
    cases hn:BB p with
    | nil=>
     rw [hn] at h148
     simp [nv,nb] at h148
     have h149:AK MX (AH MX) 149 [.AI] Y=some (.ret (.tup []),Y):=QN NR Pt rfl
     have h151:AK MX (AH MX) 151 [.AI] Y=some (.ret .AI,Y):=by
      have hcl:=H6 (H:=[]) (a:=.AI) (l:=[]) (.inl ⟨rfl,rfl⟩) Y
      simp [nv,nb] at hcl
      exact H4 Kl Pv rfl (v:=.AI) (hr:=[]) (by simp [AN,Tryz.f151,u100,eqA]) hcl
     have h150:AK MX (AH MX) 150 [.AI] Y=some (.ret .AI,Y):=QN NS Pu rfl
     exact ⟨[],BI JG Kj (by simp [AN,Tryz.f83,h145,hlast,h147,hbox,Ag hbox,h148,h149,h150,h151,IV])⟩
    | cons a r=>
     obtain ⟨L,hL⟩:∃ L,L=a::r:=⟨_,rfl⟩
     rw [← hL] at hn ⊢
     have hne:L≠[]:=by rw [hL];exact List.cons_ne_nil _ _
     have hLl:L.length<4294967296:=by rw [← hn];omega
     rw [hn] at h148
     have hnv:nv L Y.length=.hs Y.length L.length 1 0 L.length false:=by rw [hL];rfl
     have hnb:nb L=[.arr 1 false (strs L)]:=by rw [hL];rfl
     rw [hnv,hnb] at h148
     have h149:=c149 (Y:=Y) hne hLl
     have hsl:=Lw L
     have hsne:HI L≠[]:=fun h=>by rw [h] at hsl;exact hne (List.eq_nil_of_length_eq_zero hsl.symm)
     have h151:=c151 (Y:=Y) hsne (by rw [hsl];exact hLl)
     obtain ⟨Z,h150⟩:=c150 (Y:=Y) (B:=.arr 1 true (strs (HI L))) hsne (by rw [hsl];exact hLl)
     rw [hsl] at h150 h151
     have hcd:=Ml L
     cases hdd:IV [] L with
     | true=>
      have hnc:(((Lib.compact (HI L)).length:Int) == (L.length:Int))=false:=by
       rw [beq_eq_false_iff_ne]
       intro h
       have:=hcd.1 (by omega)
       rw [hdd] at this;cases this
      exact ⟨[.arr 1 true (strs (HI L)),Z],BI JG Kj (by simp [AN,Tryz.f83,h145,hlast,h147,hbox,Ag hbox,h148,h149,h151,h150,hnc])⟩
     | false=>
      have hnc:(((Lib.compact (HI L)).length:Int) == (L.length:Int))=true:=by
       rw [beq_iff_eq]
       have:=hcd.2 hdd
       omega
      exact ⟨[.arr 1 true (strs (HI L)),Z],BI JG Kj (by simp [AN,Tryz.f83,h145,hlast,h147,hbox,Ag hbox,h148,h149,h151,h150,hnc])⟩
   obtain ⟨Z,hfin⟩:=hfin
   refine ⟨(Blk.var false px::X2)++Z,?_⟩
   rw [hfin,hY]
   simp [hz]
  ·have hzb:(Ch s p != 0)=true:=by simp [hz]
   refine ⟨Blk.var false px::X2,?_⟩
   have e2:H++X++(Blk.var false px::X2)=Y:=by rw [hY,List.append_assoc]
   rw [e2,if_neg (by simp),if_neg hz]
   obtain ⟨qv,rfl,hq⟩:=hx.AY
   exact BI JG Kj (by simp [AN,Tryz.f83,h145,hlast,h147,hzb])
theorem K5:∀ (l prev:List Bytes),Cg prev l=0→l.Nodup∧∀ x∈l,x ∉ prev
 | [],prev,_=>⟨List.nodup_nil,fun x h=>by cases h⟩
 | x::r,prev,h=>by
  simp only [Cg] at h
  split at h
  ·cases h
  ·split at h
   ·cases h
   ·rename_i h2
    obtain ⟨h3,h4⟩:=K5 r _ h
    have hx:x ∉ prev:=fun hm=>h2 (by
     rw [List.findIdx?_isSome,List.any_eq_true]
     exact ⟨x,hm,beq_self_eq_true x⟩)
    refine ⟨List.nodup_cons.2 ⟨fun hm=>h4 x hm (by simp),h3⟩,fun y hy => ?_⟩
    rcases List.mem_cons.1 hy with rfl | hy
    ·exact hx
    ·exact fun hm=>h4 y hy (List.mem_append.2 (.inl hm))
theorem N4 {d:AO} {l:List AO} (h:BL d l=0):d.params.Nodup:=by
 have h2:Cg [] d.params=0:=by
  unfold BL at h
  repeat (split at h;first | cases h | skip)
  ·rename_i h2;exact h2
  ·exact h
 exact (K5 _ _ h2).1
theorem Yg {l:List AO} (h:(Au l).2=0):∀ d∈l,d.params.Nodup:=fun d hdm=>by
 unfold Au at h
 split at h
 ·cases h
 ·obtain ⟨pre,post,e,he⟩:=HF l [] h d hdm
  exact N4 he
section
variable {l:List AO} {lv:AV} (hl:SlR Ac 3 l lv) (hsl:SmL 1048577 l)
include hl hsl
theorem c82 {t:TyV} {xs:List AV} (hx:AU t xs) (hst:Sm 1048577 t) (H:AE) :
  ∃ v H',AK MX (AH MX) 82 [lv,.agg xs] H=some (.ret (.tup [v,.int .i64 (DD l t)]),H')∧(∀ x,x<H.length→H'[x]? = H[x]?)∧(DD l t=0→DV l∧VT l t∧Cw l t (CY l t)∧∃ n S,(∀ x,S x→x<H'.length)∧BA n S H' v (CY l t)):=by
 have h143:=c143 hl hsl hx hst
 by_cases hz:DD l t=0
 ·obtain ⟨h1,h2,h3⟩:=Gf hz
  have hd:=HX h1
  obtain ⟨v,H',q1,q2,q3,q4⟩:=c144 hl hsl.1 hsl hd (Yg h1) h3 h2 0 t xs [] [] .FW (fun _=>False) (H++[Blk.var false xs]) hx h2 (fun a h=>by cases h) rfl (Ns [] t) (fun x h=>h.elim) (.inl ⟨rfl,rfl⟩)
  obtain ⟨pv,rfl,hp⟩:=hx.AY
  refine ⟨v,H',BI Pn SQ ?_,fun x hx=>by rw [q3 x (by simp;omega)];exact List.getElem?_append_left hx,fun _=>⟨hd,h2,h3,_,_,fun x hx=>hx.2,q4⟩⟩
  simp [AN,Tryz.f82,h143,hz,q1]
 ·have hzb:(DD l t != 0)=true:=by simp [hz]
  obtain ⟨pv,rfl,hp⟩:=hx.AY
  exact ⟨.D6,_,BI Pn SQ (by simp [AN,Tryz.f82,h143,hzb] <;> rfl),fun x hx=>List.getElem?_append_left hx,fun h=>absurd h hz⟩
theorem c79 {t:TyV} {xs:List AV} (hx:AU t xs) (hst:Sm 1048577 t) {arms:List TyV} {av:AV} (ha:SlR AU 4 arms av) (hal:arms.length<1048577) (has:∀ p∈arms,Sm 1048577 p) (H:AE) :
  ∃ v H',AK MX (AH MX) 79 [lv,.agg xs,av] H=some (.ret (.tup [v,.int .i64 (Aq l t arms).1,.int .i64 (Aq l t arms).2]),H')∧(∀ x,x<H.length→H'[x]? = H[x]?)∧((Aq l t arms).2=0→∃ n S,(∀ x,S x→x<H'.length)∧BA n S H' v (CY l t)):=by
 obtain ⟨v,H1,h82,hold,hok⟩:=c82 hl hsl hx hst (H++[Blk.var false xs])
 have hlt:H.length<H1.length:=by
  have h1:=hold H.length (by simp)
  rw [Ce] at h1
  exact (List.getElem?_eq_some_iff.1 h1).1
 have ho1:∀ x,x<H.length→H1[x]? = H[x]? := fun x hx=>by
  rw [hold x (by simp;omega)];exact List.getElem?_append_left hx
 have ho2:∀ (X:AE) x,x<H.length→(H1++X)[x]? = H[x]? := fun X x hx=>by
  rw [List.getElem?_append_left (by omega)];exact ho1 x hx
 obtain ⟨pv,rfl,hp⟩:=hx.AY
 unfold Aq
 by_cases hz:DD l t=0
 ·rw [if_pos hz]
  obtain ⟨hd,hv,hsh,n,S,hS,hs⟩:=hok hz
  rw [hz] at h82
  by_cases h0:arms.length=0
  ·rw [if_pos h0]
   have g0:¬ ((0:Int)<(arms.length:Int)):=by omega
   have g1:(arms.length:Int)≤12:=by omega
   have e0:arms=[]:=List.eq_nil_of_length_eq_zero h0
   exact ⟨.D6,H1,BI JF Ki (by simp [AN,Tryz.f79,h82,ha.len,e0,bsA,Ak,List.replicate,AG,AV.AD,An]),ho1,fun h=>by cases h⟩
  ·rw [if_neg h0]
   have g0:(0:Int)<(arms.length:Int):=by omega
   by_cases h12:12<arms.length
   ·rw [if_pos h12]
    have g1:¬ ((arms.length:Int)≤12):=by omega
    have g2:¬ (arms.length≤12):=by omega
    have g3:0<arms.length:=by omega
    exact ⟨.D6,H1,BI JF Ki (by simp [AN,Tryz.f79,h82,ha.len,g0,g1,g2,g3,bsA,Ak,List.replicate,AG,AV.AD,An]),ho1,fun h=>by cases h⟩
   ·rw [if_neg h12]
    have g1:(arms.length:Int)≤12:=by omega
    have g2:arms.length≤12:=by omega
    have g3:0<arms.length:=by omega
    obtain ⟨e,st,hlp,hq⟩:=AR (M:=MX) (fid:=79) (N:=50) (C:=AH MX) (c:=AP Tryz.f79 0) (n:=arms.length)
     (fun i (X:AE)=>([(9,v),(34,av),(35,.int .i64 arms.length),(36,.int .i64 i)],H1++X))
     (fun i X=>F5 (CY l t) 0 arms=F5 (CY l t) i (arms.drop i))
     (fun r=>∃ X,(r=(.ext 0,([(9,v),(34,av),(35,.int .i64 arms.length),(36,.int .i64 arms.length),(37,.bool false)],H1++X))∧F5 (CY l t) 0 arms=(0,0))∨(r=(.ret,([(6,.D6),(7,.int .i64 (F5 (CY l t) 0 arms).1),(8,.int .i64 (F5 (CY l t) 0 arms).2)],H1++X))∧(F5 (CY l t) 0 arms).2≠0)) (fun i X hi hI=>by
       have hi':=Aa hi
       have hw:=AZ hi hal
       obtain ⟨fe,hfe,hR⟩:=ha.ix hi
       obtain ⟨X',hc⟩:=c83 hd hR (has _ (List.getElem_mem hi)) hS hs hsh hv (X++[Blk.var false fe])
       rw [List.drop_eq_getElem_cons hi] at hI
       simp only [F5] at hI
       obtain ⟨tv,rfl,htv⟩:=hR.AY
       obtain ⟨id,rfl⟩:=hs.hp
       have e1:H1++(X++[Blk.var false [.int .i64 arms[i].k,.int .i64 arms[i].v,.str arms[i].nm,tv]])++X'=H1++(X++(Blk.var false [.int .i64 arms[i].k,.int .i64 arms[i].v,.str arms[i].nm,tv]::X')):=by simp
       rw [e1] at hc
       have hlast:(H1++(X++[Blk.var false [.int .i64 arms[i].k,.int .i64 arms[i].v,.str arms[i].nm,tv]]))[H1.length+X.length]? = some (.var false [.int .i64 arms[i].k,.int .i64 arms[i].v,.str arms[i].nm,tv]):=by
        rw [← List.append_assoc,← List.length_append];exact Ce _ _
       by_cases hz2:FJ (CY l t) arms[i]=0
       ·rw [if_pos hz2] at hI
        rw [hz2] at hc
        exact .inl ⟨X++(Blk.var false [.int .i64 arms[i].k,.int .i64 arms[i].v,.str arms[i].nm,tv]::X'),by simp [Tryz.f79,hi',hfe,hlast,hc,hw],hI⟩
       ·rw [if_neg hz2] at hI
        have hzb:(FJ (CY l t) arms[i] != 0)=true:=by simp [hz2]
        refine .inr ⟨_,_,by simp [Tryz.f79,hi',hfe,hlast,hc,hzb] <;> first | exact ⟨rfl,rfl⟩ | rfl,by simp,X++(Blk.var false [.int .i64 arms[i].k,.int .i64 arms[i].v,.str arms[i].nm,tv]::X'),.inr ?_⟩
        rw [hI]
        exact ⟨rfl,hz2⟩) (fun X hI=>by
       rw [List.drop_length] at hI
       exact ⟨_,_,by simp [Tryz.f79] <;> first | exact ⟨rfl,rfl⟩ | rfl,by simp,X,.inl ⟨rfl,by rw [hI];rfl⟩⟩) [] (by simp)
    obtain ⟨X,hq⟩:=hq
    simp [Tryz.f79] at hlp
    obtain ⟨id,rfl⟩:=hs.hp
    rcases hq with ⟨hq,hr⟩ | ⟨hq,hr⟩
    ·cases hq
     rw [hr]
     exact ⟨.hp id 0,H1++X,BI JF Ki (by simp [AN,Tryz.f79,h82,ha.len,g0,g1,g2,g3,bsA,Ak,List.replicate,AG,AV.AD,An,hlp]),ho2 X,fun _=>⟨n,S,fun x hx=>by have:=hS x hx;simp;omega,hs.mono n (fun _ h=>h) fun x hx=>List.getElem?_append_left (hS x hx)⟩⟩
    ·cases hq
     exact ⟨.D6,H1++X,BI JF Ki (by simp [AN,Tryz.f79,h82,ha.len,g0,g1,g2,g3,bsA,Ak,List.replicate,AG,AV.AD,An,hlp]),ho2 X,fun h=>absurd h hr⟩
 ·rw [if_neg hz]
  have hzb:(DD l t != 0)=true:=by simp [hz]
  have hfo:∀ a b,An [DD l t,a,b]=DD l t:=fun a b=>by simp [An,hz]
  exact ⟨.D6,H1,BI JF Ki (by simp [AN,Tryz.f79,h82,ha.len,hfo,hzb,bsA,Ak,List.replicate,AG,AV.AD]),ho1,fun h=>absurd h hz⟩
end
inductive Ay:TyV→List AV→Prop where
 | nil (v:Int) (nm:Bytes):Ay (.mk 0 v nm []) [.str nm,.int .i64 v,.AI]
 | sl (v:Int) (nm:Bytes) (ps:List TyV) (ex:Bool) (es:List (List AV)) (hl:es.length=ps.length) (h:∀ (i:Nat) t e,ps[i]? = some t→es[i]? = some e→Ay t e) :
   Ay (.mk 0 v nm ps) [.str nm,.int .i64 v,.sl 3 ex es]
theorem Ay.dest {k v:Int} {nm:Bytes} {ps:List TyV} {xs:List AV} (h:Ay (.mk k v nm ps) xs):k=0∧∃ pv,xs=[.str nm,.int .i64 v,pv]∧SlR Ay 3 ps pv:=by
 cases h with
 | nil=>exact ⟨rfl,_,rfl,.inl ⟨rfl,rfl⟩⟩
 | sl _ _ _ ex es hl h=>exact ⟨rfl,_,rfl,.inr ⟨ex,es,rfl,hl,h⟩⟩
theorem Ay.AY {t:TyV} {xs:List AV} (h:Ay t xs):∃ pv,xs=[.str t.nm,.int .i64 t.v,pv]∧SlR Ay 3 t.ps pv:=by
 cases t
 exact h.dest.2
theorem Ay.k0 {t:TyV} {xs:List AV} (h:Ay t xs):t.k=0:=by
 cases t
 exact h.dest.1
theorem Ay.intro {v:Int} {nm:Bytes} {ps:List TyV} {pv:AV} (h:SlR Ay 3 ps pv):Ay (.mk 0 v nm ps) [.str nm,.int .i64 v,pv]:=by
 rcases h with ⟨rfl,rfl⟩ | ⟨ex,es,rfl,hl,h⟩
 ·exact .nil v nm
 ·exact .sl v nm ps ex es hl h
theorem Ay.AG {t:TyV} {xs:List AV} (h:Ay t xs):AG xs=true:=by
 obtain ⟨pv,rfl,hp⟩:=h.AY
 simp [Am.AG,AV.AD,hp.AD]
mutual
def same:TyV→TyV→Bool
 | .mk k v nm ps,t=>decide (k=t.k)&&(decide (v=t.v)&&((nm == t.nm)&&(decide (ps.length=t.ps.length)&&XP ps t.ps)))
def XP:List TyV→List TyV→Bool
 | [],_=>true
 | p::r,q=>same p (q.headD default)&&XP r q.tail
end
mutual
def DX:TyV→TyV→Bool
 | .mk k pv nm ps,v=>if k=3 then (v.nm == [])&&decide (v.v=pv) else if k=2 then (v.nm == nm)&&(decide (v.ps.length=ps.length)&&Fu ps v.ps) else true
def Fu:List TyV→List TyV→Bool
 | [],_=>true
 | p::r,q=>DX p (q.headD default)&&Fu r q.tail
end
theorem Jx {ss ps:List TyV} {j:Nat} (hj:j<ps.length) (hs:j<ss.length):Fu (ps.drop j) (ss.drop j)=(DX ps[j] ss[j]&&Fu (ps.drop (j+1)) (ss.drop (j+1))):=by
 rw [List.drop_eq_getElem_cons hj,List.drop_eq_getElem_cons hs]
 simp only [Fu,List.headD_cons,List.tail_cons]
theorem c120 (t:TyV):∀ (xs:List AV) (d c:Int),Ay t xs→Sm 1048577 t→0≤d→d≤41→0≤c→c≤201→∀ h,AK MX (AH MX) 120 [.agg xs,.int .i64 d,.int .i64 c] h=some (.ret (.int .i64 (ER t d c)),h):=by
 induction t using TyV.ind with
 | h k v nm ps ih=>
  intro xs d c hx hs d0 d1 c0 c1 h
  have hn:([AV.agg xs,.int .i64 d,.int .i64 c]:List AV).all AV.AD=true:=by simp [AV.AD,hx.AG]
  obtain ⟨rfl,pv,rfl,hp⟩:=hx.dest
  obtain ⟨s1,s2,s3⟩:=hs.dest
  have wc:wr .i64 (c+1)=c+1:=BD (by omega) (by omega)
  have wd:wr .i64 (d+1)=d+1:=BD (by omega) (by omega)
  refine Ae Sb VV hn rfl (hr:=[.var false [.str nm,.int .i64 v,pv]]) ?_ h
  by_cases h1:40<d
  ·simp [AN,Tryz.f120,wc,h1,ER]
  ·by_cases h2:200<c+1
   ·simp [AN,Tryz.f120,wc,h1,h2,ER]
   ·by_cases h3:200<(ps.length:Int)
    ·simp [AN,Tryz.f120,wc,h1,h2,h3,hp.len,ER]
    ·obtain ⟨e,st,hlp,hq⟩:=AR (M:=MX) (fid:=120) (N:=43) (C:=AH MX) (c:=AP Tryz.f120 0) (n:=ps.length) (fun i (b:Int)=>([(1,.int .i64 d),(2,.int .i64 b),(3,.hp 0 0),(7,.int .i64 i)],[.var false [.str nm,.int .i64 v,pv]]))
      (fun i b=>Bo ps (d+1) (c+1)=Bo (ps.drop i) (d+1) b∧0≤b∧b≤201)
      (fun r=>∃ (i:Nat) (x:AV),r=(.ext 0,([(1,.int .i64 d),(2,.int .i64 (Bo ps (d+1) (c+1))),(3,.hp 0 0),(7,.int .i64 i),(30,x)],[.var false [.str nm,.int .i64 v,pv]]))) (fun i b hi hI=>by
        obtain ⟨e,he,hR⟩:=hp.ix hi
        have hi':=Aa hi
        have hw:=AZ hi s2
        obtain ⟨i1,i2,i3⟩:=hI
        have hdr:ps.drop i=ps[i]::ps.drop (i+1):=List.drop_eq_getElem_cons hi
        rw [hdr] at i1
        simp only [Bo] at i1
        have hrec:=ih ps[i] (List.getElem_mem hi) e (d+1) b hR (s3 _ (List.getElem_mem hi)) (by omega) (by omega) i2 i3
        obtain ⟨q,hq,hq'⟩:=hR.AY
        subst hq
        by_cases hb:b≤200
        ·rw [if_pos hb] at i1
         have hrange:=It ps[i] (d+1) b i2 i3
         exact .inl ⟨ER ps[i] (d+1) b,by simp [Tryz.f120,hp.len,hi',he,hb,hw,wd,hrec],i1,hrange⟩
        ·rw [if_neg hb] at i1
         exact .inr ⟨_,_,by simp [Tryz.f120,hp.len,hi',hb] <;> exact ⟨rfl,rfl⟩,by simp,i,_,by rw [i1]⟩) (fun b hI=>by
        obtain ⟨i1,i2,i3⟩:=hI
        rw [List.drop_length] at i1
        simp only [Bo] at i1
        exact ⟨_,_,by simp [Tryz.f120,hp.len] <;> exact ⟨rfl,rfl⟩,by simp,ps.length,_,by rw [i1]⟩) (c+1) ⟨by simp,by omega,by omega⟩
     obtain ⟨i,x,hq⟩:=hq
     cases hq
     simp [Tryz.f120] at hlp
     simp [AN,Tryz.f120,wc,h1,h2,h3,hp.len,hlp,ER]
theorem c70 {t:TyV} {xs:List AV} (hx:Ay t xs) (hs:Sm 1048577 t) (h:AE):AK MX (AH MX) 70 [.agg xs] h=some (.ret (.bool (A1 t)),h):=by
 have hn:([AV.agg xs]:List AV).all AV.AD=true:=by simp [AV.AD,hx.AG]
 have hc:=c120 t xs 1 0 hx hs (by omega) (by omega) (by omega) (by omega)
 obtain ⟨pv,rfl,hp⟩:=hx.AY
 exact Ae U7 X3 hn rfl (hr:=[.var false [.str t.nm,.int .i64 t.v,pv]]) (by simp [AN,Tryz.f70,hc,A1]) h
theorem c39 (p:TyV):∀ (u:TyV) (xs ys:List AV),AU p xs→Ay u ys→Sm 1048577 p→∀ h,AK MX (AH MX) 39 [.agg xs,.agg ys] h=some (.ret (.bool (DX p u)),h):=by
 induction p using TyV.ind with
 | h k v nm ps ih=>
  intro u xs ys hx hy hs h
  have hn:([AV.agg xs,.agg ys]:List AV).all AV.AD=true:=by simp [AV.AD,hx.AG,hy.AG]
  obtain ⟨s1,s2,s3⟩:=hs.dest
  have hb:=Qo
  simp [BK,Be,Tryz.f39] at hb
  obtain ⟨pv,rfl,hp⟩:=hx.dest
  obtain ⟨qv,rfl,hq⟩:=hy.AY
  suffices hh:∃ hr,AN MX 39 [.agg [.int .i64 k,.int .i64 v,.str nm,pv],.agg [.str u.nm,.int .i64 u.v,qv]] []=some (.ret (.bool (DX (.mk k v nm ps) u)),hr) by
   obtain ⟨hr,hh⟩:=hh
   exact Ae U2 Xu hn rfl hh h
  simp only [DX]
  by_cases k3:k=3
  ·have k3b:(k == 3)=true:=by simp [k3]
   rw [if_pos k3]
   have hvb:decide (u.v=v)=(u.v == v):=by rw [Bool.eq_iff_iff];simp
   rw [hvb]
   cases h0:u.nm == [] with
   | true=>exact ⟨_,by simp [AN,Tryz.f39,k3b,h0] <;> rfl⟩
   | false=>exact ⟨_,by simp [AN,Tryz.f39,k3b,h0] <;> rfl⟩
  ·have k3b:(k == 3)=false:=by simp [k3]
   rw [if_neg k3]
   by_cases k2:k=2
   ·have k2b:(k == 2)=true:=by simp [k2]
    rw [if_pos k2]
    cases h0:u.nm == nm with
    | false=>exact ⟨_,by simp [AN,Tryz.f39,k3b,k2b,h0] <;> rfl⟩
    | true=>
     by_cases h3:u.ps.length=ps.length
     ·have hl3:((u.ps.length:Int) != (ps.length:Int))=false:=by rw [h3];simp
      have d3:decide (u.ps.length=ps.length)=true:=decide_eq_true h3
      obtain ⟨e,st,hlp,hq'⟩:=AR (M:=MX) (fid:=39) (N:=55) (C:=AH MX) (c:=AP Tryz.f39 0) (n:=ps.length) (fun i (_:Unit)=>([(2,.hp 0 0),(3,.hp 1 0),(5,.int .i64 i)],[.var false [.int .i64 k,.int .i64 v,.str nm,pv],.var false [.str u.nm,.int .i64 u.v,qv]]))
       (fun i _=>Fu ps u.ps=Fu (ps.drop i) (u.ps.drop i))
       (fun r=>(r=(.ext 1,([(2,.hp 0 0),(3,.hp 1 0),(5,.int .i64 ps.length),(40,.bool false)],[.var false [.int .i64 k,.int .i64 v,.str nm,pv],.var false [.str u.nm,.int .i64 u.v,qv]]))∧Fu ps u.ps=true)∨(r=(.ret,([(4,.bool false)],[.var false [.int .i64 k,.int .i64 v,.str nm,pv],.var false [.str u.nm,.int .i64 u.v,qv]]))∧Fu ps u.ps=false)) (fun i b hi hI=>by
         obtain ⟨e,he,hR⟩:=hp.ix hi
         have hiu:i<u.ps.length:=by omega
         obtain ⟨e2,he2,hR2⟩:=hq.ix hiu
         have hi':=Aa hi
         have hw:=AZ hi s2
         rw [Jx hi hiu] at hI
         have hrec:=ih ps[i] (List.getElem_mem hi) u.ps[i] e e2 hR hR2 (s3 _ (List.getElem_mem hi))
         obtain ⟨q1,rfl,hq1⟩:=hR.AY
         obtain ⟨q2,rfl,hq2⟩:=hR2.AY
         cases hs:DX ps[i] u.ps[i] with
         | true=>
          rw [hs] at hI hrec
          exact .inl ⟨(),by simp [Tryz.f39,hp.len,hi',he,he2,hrec,hw,hb,AG,AV.AD,hq1.AD,hq2.AD],by simpa using hI⟩
         | false=>
          rw [hs] at hI hrec
          exact .inr ⟨_,_,by simp [Tryz.f39,hp.len,hi',he,he2,hrec,hb,AG,AV.AD,hq1.AD,hq2.AD] <;> first | exact ⟨rfl,rfl⟩ | rfl,by simp,.inr ⟨rfl,by simpa using hI⟩⟩) (fun b hI=>by
         rw [List.drop_length] at hI
         exact ⟨_,_,by simp [Tryz.f39,hp.len] <;> first | exact ⟨rfl,rfl⟩ | rfl,by simp,.inl ⟨rfl,by rw [hI];rfl⟩⟩) () (by simp)
      simp [Tryz.f39] at hlp
      simp only [d3,Bool.true_and]
      rcases hq' with ⟨hq',hr⟩ | ⟨hq',hr⟩ <;> rw [hr] <;> cases hq' <;> exact ⟨_,by simp [AN,Tryz.f39,k3b,k2b,h0,hp.len,hq.len,hl3,hlp] <;> rfl⟩
     ·have hl3:((u.ps.length:Int) != (ps.length:Int))=true:=by simp;omega
      have d3:decide (u.ps.length=ps.length)=false:=decide_eq_false h3
      simp only [d3,Bool.true_and,Bool.false_and]
      exact ⟨_,by simp [AN,Tryz.f39,k3b,k2b,h0,hp.len,hq.len,hl3] <;> rfl⟩
   ·have k2b:(k == 2)=false:=by simp [k2]
    rw [if_neg k2]
    exact ⟨_,by simp [AN,Tryz.f39,k3b,k2b] <;> rfl⟩
theorem c23 {arms:List TyV} {av:AV} (ha:SlR AU 4 arms av) (hal:arms.length<1048577) (has:∀ p∈arms,Sm 1048577 p) {u:TyV} {ys:List AV} (hy:Ay u ys) (h:AE):AK MX (AH MX) 23 [av,.agg ys] h=some (.ret (.int .i64 (ixI (arms.findIdx? (fun p=>DX p u)))),h):=by
 have hn:([av,.agg ys]:List AV).all AV.AD=true:=by simp [AV.AD,ha.AD,hy.AG]
 have hb:=TU
 simp [BK,Be,Tryz.f23] at hb
 have h39:=fun {p:TyV} {px:List AV} (hR:AU p px) (hs:Sm 1048577 p)=>c39 p u px ys hR hy hs
 obtain ⟨qv,rfl,hq⟩:=hy.AY
 obtain ⟨e,st,hlp,hq'⟩:=AR (M:=MX) (fid:=23) (N:=19) (C:=AH MX) (c:=AP Tryz.f23 0) (n:=arms.length) (fun i (_:Unit)=>([(0,av),(3,.hp 0 0),(5,.int .i64 i)],[.var false [.str u.nm,.int .i64 u.v,qv]]))
  (fun i _=>∀ j (hj:j<arms.length),j<i→(fun p=>DX p u) arms[j]=false)
  (fun r=>(r=(.ext 0,([(0,av),(3,.hp 0 0),(5,.int .i64 arms.length),(9,.bool false)],[.var false [.str u.nm,.int .i64 u.v,qv]]))∧arms.findIdx? (fun p=>DX p u)=none)∨(∃ i:Nat,r=(.ret,([(4,.int .i64 i)],[.var false [.str u.nm,.int .i64 u.v,qv]]))∧arms.findIdx? (fun p=>DX p u)=some i)) (fun i b hi hI=>by
    obtain ⟨e,he,hR⟩:=ha.ix hi
    have hi':=Aa hi
    have hw:=AZ hi hal
    have hrec:=h39 hR (has _ (List.getElem_mem hi))
    obtain ⟨q1,rfl,hq1⟩:=hR.AY
    cases hs:DX arms[i] u with
    | true=>rw [hs] at hrec;exact .inr ⟨_,_,by simp [Tryz.f23,ha.len,hi',he,hrec,hb,AG,AV.AD,hq.AD,hq1.AD] <;> first | exact ⟨rfl,rfl⟩ | rfl,by simp,.inr ⟨i,rfl,EN (p:=(fun p=>DX p u)) hi hI hs⟩⟩
    | false=>rw [hs] at hrec;exact .inl ⟨(),by simp [Tryz.f23,ha.len,hi',he,hrec,hw,hb,AG,AV.AD,hq.AD,hq1.AD],EP (p:=(fun p=>DX p u)) hi hI hs⟩) (fun b hI=>by
    exact ⟨_,_,by simp [Tryz.f23,ha.len] <;> first | exact ⟨rfl,rfl⟩ | rfl,by simp,.inl ⟨rfl,EO (p:=(fun p=>DX p u)) fun j hj=>hI j hj hj⟩⟩) () (fun j _ h0=>by omega)
 simp [Tryz.f23] at hlp
 rcases hq' with ⟨hq',hs⟩ | ⟨i,hq',hs⟩ <;> cases hq' <;> exact Ae Ux Xp hn rfl (hr:=_) (by simp [AN,Tryz.f23,hlp,hs,ixI] <;> rfl) h
mutual
def HJ (s:Sh):TyV→Int
 | .mk _ v nm ps=>match s with
  | .bit n=>if (nm == [])=true∧ps.length=0 then (if 0≤v∧v≤((2 ^ n.toNat:Nat):Int) - 1 then 0 else 2) else 3
  | .cons ns ss=>match ns.findIdx? (fun x=>x == nm) with
   | none=>6
   | some i=>if v≠0 then 3 else if ps.length≠(ss.getD i []).length then 10 else Lz (ss.getD i []) ps
def Lz (ss:List Sh):List TyV→Int
 | []=>0
 | p::r=>if HJ (ss.headD default) p=0 then Lz ss.tail r else HJ (ss.headD default) p
end
theorem Ix:∀ {ss:List Sh} {ps:List TyV},ps.length=ss.length→(Lz ss ps=0↔∀ (i:Nat) x p,ss[i]? = some x→ps[i]? = some p→HJ x p=0)
 | [],[],_=>by simp [Lz]
 | x::ss,p::ps,h=>by
  show (if HJ x p=0 then Lz ss ps else HJ x p)=0↔_
  have ih:=Ix (ss:=ss) (ps:=ps) (by simpa using h)
  by_cases h0:HJ x p=0
  ·rw [if_pos h0,ih]
   constructor
   ·intro g i y q h1 h2
    cases i with
    | zero=>simp at h1 h2;rw [← h1,← h2];exact h0
    | succ i=>exact g i y q (by simpa using h1) (by simpa using h2)
   ·intro g i y q h1 h2
    exact g (i+1) y q (by simpa using h1) (by simpa using h2)
  ·rw [if_neg h0]
   exact ⟨fun g=>absurd g h0,fun g=>g 0 x p rfl rfl⟩
 | [],p::ps,h=>by simp at h
 | x::ss,[],h=>by simp at h
theorem K6:∀ {ss:List Sh} {ps:List TyV},ps.length=ss.length→(Eb ss ps=0↔∀ (i:Nat) x p,ss[i]? = some x→ps[i]? = some p→Ch x p=0)
 | [],[],_=>by simp [Eb]
 | x::ss,p::ps,h=>by
  show (if Ch x p=0 then Eb ss ps else Ch x p)=0↔_
  have ih:=K6 (ss:=ss) (ps:=ps) (by simpa using h)
  by_cases h0:Ch x p=0
  ·rw [if_pos h0,ih]
   constructor
   ·intro g i y q h1 h2
    cases i with
    | zero=>simp at h1 h2;rw [← h1,← h2];exact h0
    | succ i=>exact g i y q (by simpa using h1) (by simpa using h2)
   ·intro g i y q h1 h2
    exact g (i+1) y q (by simpa using h1) (by simpa using h2)
  ·rw [if_neg h0]
   exact ⟨fun g=>absurd g h0,fun g=>g 0 x p rfl rfl⟩
 | [],p::ps,h=>by simp at h
 | x::ss,[],h=>by simp at h
section
variable {l:List AO} {lv:AV} (hl:SlR Ac 3 l lv) (hsl:SmL 1048577 l) (hok:DOK l)
include hl hsl hok
def PM (s:Sh) (u:TyV):Int:=if A1 u=true then HJ s u else 8
end
def WW (H:AE) (w:AV) (es:List (List AV)):Prop:=(w=.AI∧es=[])∨w=.sl 3 true es∨∃ j,w=.hs j es.length 3 0 es.length false∧H[j]? = some (.arr 3 false es)
theorem WW.app {H:AE} {w:AV} {es:List (List AV)} (h:WW H w es) (X:AE):WW (H++X) w es:=by
 rcases h with h | h | ⟨j,h1,h2⟩
 ·exact .inl h
 ·exact .inr (.inl h)
 ·exact .inr (.inr ⟨j,h1,Al h2 X⟩)
theorem WW.len {H:AE} {w:AV} {es:List (List AV)} (h:WW H w es) (G:AE):Bu w G=some (.val (.int .i64 es.length) G):=by
 rcases h with ⟨rfl,rfl⟩ | rfl | ⟨j,rfl,_⟩ <;> rfl
theorem WW.cells {H:AE} {w:AV} {es:List (List AV)} (h:WW H w es):w.cells=some [w]:=by
 rcases h with ⟨rfl,rfl⟩ | rfl | ⟨j,rfl,_⟩ <;> rfl
theorem WW.row {H:AE} {w:AV} {es:List (List AV)} (h:WW H w es) {i:Nat} (hi:i<es.length):∃ p,ixA 3 w (.int .i64 i)=some p∧∀ X,DC (H++X) p=some es[i]:=by
 rcases h with ⟨rfl,rfl⟩ | rfl | ⟨j,rfl,h⟩
 ·cases hi
 ·exact ⟨.ro es[i],G0 _ _ _ _ .i64 hi,fun X=>rfl⟩
 ·refine ⟨.ep j es.length 3 i 0,by rw [A8 (kd:=.i64) (hi:=hi),Nat.zero_add],fun X => ?_⟩
  have:=Al h X
  simp [FN,this,A2,hi]
theorem GK.blk {n:Nat} {S:Nat→Prop} {H:AE} {v:AV} {s:Sh} (h:GK (n+1) S H v s):∃ id m w es,v=.hp id 0∧H[id]? = some (.var false [.int .i64 m,w])∧WW H w es ∧
  match s with
  | .bit k=>m=k∧es=[]∧w=.AI
  | .cons ns ss=>w≠.AI∧es.length=ns.length∧ss.length=ns.length∧∀ (k:Nat) e nm parts,es[k]? = some e→ns[k]? = some nm→ss[k]? = some parts→∃ fv pv,e=[.str nm,fv,pv]∧Gi (GK n S H) S H pv parts:=by
 cases s with
 | bit k=>
  obtain ⟨id,rfl,_,h2⟩:=h
  exact ⟨id,k,.AI,[],rfl,h2,.inl ⟨rfl,rfl⟩,rfl,rfl,rfl⟩
 | cons ns ss=>
  obtain ⟨id,rfl,_,w,es,h2,h3,h4,h5,h6⟩:=h
  refine ⟨id,0,w,es,rfl,h2,?_,?_,h3,h4,h6⟩
  ·rcases h5 with h | ⟨j,_,h,hj⟩
   ·exact .inr (.inl h)
   ·exact .inr (.inr ⟨j,h,hj⟩)
  ·rcases h5 with rfl | ⟨j,_,rfl,hj⟩ <;> intro e <;> cases e
section
variable {l:List AO} {lv:AV} (hl:SlR Ac 3 l lv) (hsl:SmL 1048577 l)
include hl hsl
end
theorem c63 {k:Dx} {xs:List AV} (hx:DS k xs) (hsk:SmT 1048577 k) (H:AE):∃ v H',AK MX (AH MX) 63 [.agg xs] H=some (.ret (.tup [v,.int .i64 (Aq k.data k.ty k.arms).2]),H')∧(∀ x,x<H.length→H'[x]? = H[x]?)∧((Aq k.data k.ty k.arms).2=0→∃ n S,(∀ x,S x→x<H'.length)∧BA n S H' v (CY k.data k.ty)):=by
 obtain ⟨dv,pv,av,rfl,hd,hp,ht,ha⟩:=hx.dest
 obtain ⟨s1,s2,s3,s4⟩:=hsk
 obtain ⟨v,H',hc,hold,hok⟩:=c79 hd s1 ht s2 ha s3 s4 (H++[.var false [dv,.int .i64 k.ty.k,.int .i64 k.ty.v,.str k.ty.nm,pv,av]])
 exact ⟨v,H',BI U4 Xx (by simp [AN,Tryz.f63,hc]),fun x hx=>by rw [hold x (by simp;omega)];exact List.getElem?_append_left hx,hok⟩
theorem c12 {k:Dx} {xs:List AV} (hx:DS k xs) (hsk:SmT 1048577 k) (h:AE):AK MX (AH MX) 12 [.agg xs] h=some (.ret (.int .i64 (Aq k.data k.ty k.arms).2),h):=by
 have h32:=c32 hx hsk (okF k.data)
 obtain ⟨dv,pv,av,rfl,hd,hp,ht,ha⟩:=hx.dest
 exact Ae Uv Xn (by simp [AV.AD,AG,hd.AD,hp.AD,ha.AD]) rfl (hr:=_) (by simp [AN,Tryz.f12,h32] <;> rfl) h
theorem RK {ns:List Bytes} {ss:List (List Sh)} {k v:Int} {nm:Bytes} {ps:List TyV} (h:HJ (.cons ns ss) (.mk k v nm ps)=0):∃ i,ns.findIdx? (fun x=>x == nm)=some i∧v=0∧ps.length=(ss.getD i []).length∧Lz (ss.getD i []) ps=0:=by
 simp only [HJ] at h
 split at h
 ·cases h
 ·rename_i i hi
  refine ⟨i,hi,?_⟩
  by_cases h1:v=0
  ·rw [if_neg (fun g=>g h1)] at h
   by_cases h2:ps.length=(ss.getD i []).length
   ·rw [if_neg (fun g=>g h2)] at h
    exact ⟨h1,h2,h⟩
   ·rw [if_pos h2] at h;cases h
  ·rw [if_pos h1] at h;cases h
theorem T5 {n k v:Int} {nm:Bytes} {ps:List TyV} (h:HJ (.bit n) (.mk k v nm ps)=0):nm=[]∧ps=[]∧0≤v∧v≤((2 ^ n.toNat:Nat):Int) - 1:=by
 simp only [HJ] at h
 by_cases h1:(nm == [])=true∧ps.length=0
 ·rw [if_pos h1] at h
  by_cases h2:0≤v∧v≤((2 ^ n.toNat:Nat):Int) - 1
  ·exact ⟨beq_iff_eq.1 h1.1,List.eq_nil_of_length_eq_zero h1.2,h2.1,h2.2⟩
  ·rw [if_neg h2] at h;cases h
 ·rw [if_neg h1] at h;cases h
theorem QO {s:Sh} {k v:Int} {nm:Bytes} {ps:List TyV} (h:Ch s (.mk k v nm ps)=0) :
  (k=0∧ps=[])∨(k=1∧ps=[])∨(k=3∧ps=[]∧∃ n,s=.bit n)∨(k=2∧∃ ns ss i,s=.cons ns ss∧ns.findIdx? (fun x=>x == nm)=some i∧ps.length=(ss.getD i []).length∧Eb (ss.getD i []) ps=0):=by
 have hnil:¬ 0<ps.length→ps=[]:=fun h=>List.eq_nil_of_length_eq_zero (by omega)
 simp only [Ch] at h
 by_cases k0:k=0
 ·rw [if_pos k0] at h
  by_cases hp:0<ps.length
  ·rw [if_pos hp] at h;cases h
  ·exact .inl ⟨k0,hnil hp⟩
 ·rw [if_neg k0] at h
  by_cases k1:k=1
  ·rw [if_pos k1] at h
   by_cases hp:0<ps.length
   ·rw [if_pos hp] at h;cases h
   ·exact .inr (.inl ⟨k1,hnil hp⟩)
  ·rw [if_neg k1] at h
   by_cases k3:k=3
   ·rw [if_pos k3] at h
    cases s with
    | bit n=>
     simp only at h
     by_cases hp:0<ps.length
     ·rw [if_pos hp] at h;cases h
     ·exact .inr (.inr (.inl ⟨k3,hnil hp,n,rfl⟩))
    | cons ns ss=>cases h
   ·rw [if_neg k3] at h
    by_cases k2:k=2
    ·rw [if_pos k2] at h
     cases s with
     | bit n=>cases h
     | cons ns ss=>
      simp only at h
      split at h
      ·cases h
      ·rename_i i hi
       by_cases hl:ps.length=(ss.getD i []).length
       ·rw [if_neg (fun g=>g hl)] at h
        exact .inr (.inr (.inr ⟨k2,ns,ss,i,rfl,hi,hl,h⟩))
       ·rw [if_pos hl] at h;cases h
    ·rw [if_neg k2] at h;cases h
theorem RL {s:Sh} {v:Int} {nm:Bytes} {ps:List TyV} {u:TyV} (hp:Ch s (.mk 2 v nm ps)=0) (hu:HJ s u=0) (hn:u.nm=nm):∃ xs:List Sh,ps.length=xs.length∧u.ps.length=xs.length∧(∀ (i:Nat) x p,xs[i]? = some x→ps[i]? = some p→Ch x p=0)∧∀ (i:Nat) x p,xs[i]? = some x→u.ps[i]? = some p→HJ x p=0:=by
 rcases QO hp with ⟨h,_⟩ | ⟨h,_⟩ | ⟨h,_⟩ | ⟨_,ns,ss,i,rfl,h1,h2,h3⟩
 ·cases h
 ·cases h
 ·cases h
 ·cases u with
  | mk k uv unm ups=>
   have hn:unm=nm:=hn
   subst hn
   obtain ⟨j,g1,g2,g3,g4⟩:=RK hu
   rw [h1] at g1
   cases g1
   exact ⟨ss.getD i [],h2,g3,(K6 h2).1 h3,(Ix g3).1 g4⟩
theorem c91 (p:TyV):∀ (u:TyV) (s:Sh) (xs ys:List AV),AU p xs→Ay u ys→Sm 1048577 p→Ch s p=0→HJ s u=0→∀ h,AK MX (AH MX) 91 [.agg xs,.agg ys] h=some (.ret (.bool (DX p u)),h):=by
 induction p using TyV.ind with
 | h k v nm ps ih=>
  intro u s xs ys hx hy hs hpe hve h
  have hn:([AV.agg xs,.agg ys]:List AV).all AV.AD=true:=by simp [AV.AD,hx.AG,hy.AG]
  obtain ⟨s1,s2,s3⟩:=hs.dest
  have hb:=TY
  simp [BK,Be,Tryz.f91] at hb
  obtain ⟨pv,rfl,hp⟩:=hx.dest
  obtain ⟨qv,rfl,hq⟩:=hy.AY
  suffices hh:∃ hr,AN MX 91 [.agg [.int .i64 k,.int .i64 v,.str nm,pv],.agg [.str u.nm,.int .i64 u.v,qv]] []=some (.ret (.bool (DX (.mk k v nm ps) u)),hr) by
   obtain ⟨hr,hh⟩:=hh
   exact Ae VH YC hn rfl hh h
  simp only [DX]
  rcases QO hpe with ⟨rfl,rfl⟩ | ⟨rfl,rfl⟩ | ⟨rfl,rfl,n,rfl⟩ | ⟨rfl,_⟩
  ·exact ⟨_,by simp [AN,Tryz.f91] <;> rfl⟩
  ·exact ⟨_,by simp [AN,Tryz.f91] <;> rfl⟩
  ·have hun:u.nm=[]:=by cases u;exact (T5 hve).1
   have hvb:decide (u.v=v)=(v == u.v):=by rw [Bool.eq_iff_iff];simp;exact eq_comm
   rw [hun,hvb]
   exact ⟨_,by simp [AN,Tryz.f91] <;> rfl⟩
  ·have k3:¬ ((2:Int)=3):=by decide
   rw [if_neg k3,if_pos rfl]
   cases h0:u.nm == nm with
   | false=>
    have h0':(nm == u.nm)=false:=by rw [beq_eq_false_iff_ne] at h0 ⊢;exact fun e=>h0 e.symm
    by_cases hl0:ps.length=0
    ·have e0:ps=[]:=List.eq_nil_of_length_eq_zero hl0
     subst e0
     obtain ⟨e,st,hlp,hq'⟩:=AR (M:=MX) (fid:=91) (N:=48) (C:=AH MX) (c:=AP Tryz.f91 0) (n:=0) (fun i (_:Unit)=>([(2,.hp 0 0),(3,.hp 1 0),(19,.int .i64 (0:Nat)),(20,.int .i64 i)],[.var false [.int .i64 2,.int .i64 v,.str nm,pv],.var false [.str u.nm,.int .i64 u.v,qv]])) (fun _ _=>True)
      (fun r=>r=(.ext 1,([(2,.hp 0 0),(3,.hp 1 0),(19,.int .i64 (0:Nat)),(20,.int .i64 (0:Nat)),(21,.bool false)],[.var false [.int .i64 2,.int .i64 v,.str nm,pv],.var false [.str u.nm,.int .i64 u.v,qv]]))) (fun i b hi _=>by omega) (fun b _=>by
        exact ⟨_,_,by simp [Tryz.f91] <;> first | exact ⟨rfl,rfl⟩ | rfl,by simp,rfl⟩) () trivial
     cases hq'
     simp [Tryz.f91] at hlp
     have hpl:∀ h,Bu pv h=some (.val (.int .i64 0) h):=fun h=>hp.len h
     exact ⟨_,by simp [AN,Tryz.f91,hpl,hlp,h0'] <;> rfl⟩
    ·obtain ⟨e,st,hlp,hq'⟩:=AR (M:=MX) (fid:=91) (N:=48) (C:=AH MX) (c:=AP Tryz.f91 0) (n:=ps.length) (fun i (_:Unit)=>([(2,.hp 0 0),(3,.hp 1 0),(19,.int .i64 ps.length),(20,.int .i64 i)],[.var false [.int .i64 2,.int .i64 v,.str nm,pv],.var false [.str u.nm,.int .i64 u.v,qv]])) (fun i _=>i=0)
      (fun r=>r=(.ret,([(4,.bool false)],[.var false [.int .i64 2,.int .i64 v,.str nm,pv],.var false [.str u.nm,.int .i64 u.v,qv]]))) (fun i b hi hI=>by
        subst hI
        have hi':(0:Int)<(ps.length:Int):=by omega
        have hi'':0<ps.length:=hi
        exact .inr ⟨_,_,by simp [Tryz.f91,hi',hi'',h0',hb] <;> first | exact ⟨rfl,rfl⟩ | rfl,by simp,rfl⟩) (fun b hI=>absurd hI hl0) () rfl
     cases hq'
     simp [Tryz.f91] at hlp
     exact ⟨_,by simp [AN,Tryz.f91,hp.len,hlp] <;> rfl⟩
   | true=>
    have hun:=beq_iff_eq.1 h0
    have h0':(nm == u.nm)=true:=by rw [hun];exact beq_self_eq_true nm
    obtain ⟨zs,l1,l2,g1,g2⟩:=RL hpe hve hun
    have h3:u.ps.length=ps.length:=by omega
    have d3:decide (u.ps.length=ps.length)=true:=decide_eq_true h3
    obtain ⟨e,st,hlp,hq'⟩:=AR (M:=MX) (fid:=91) (N:=48) (C:=AH MX) (c:=AP Tryz.f91 0) (n:=ps.length) (fun i (_:Unit)=>([(2,.hp 0 0),(3,.hp 1 0),(19,.int .i64 ps.length),(20,.int .i64 i)],[.var false [.int .i64 2,.int .i64 v,.str nm,pv],.var false [.str u.nm,.int .i64 u.v,qv]]))
     (fun i _=>Fu ps u.ps=Fu (ps.drop i) (u.ps.drop i))
     (fun r=>(r=(.ext 1,([(2,.hp 0 0),(3,.hp 1 0),(19,.int .i64 ps.length),(20,.int .i64 ps.length),(21,.bool false)],[.var false [.int .i64 2,.int .i64 v,.str nm,pv],.var false [.str u.nm,.int .i64 u.v,qv]]))∧Fu ps u.ps=true)∨(r=(.ret,([(4,.bool false)],[.var false [.int .i64 2,.int .i64 v,.str nm,pv],.var false [.str u.nm,.int .i64 u.v,qv]]))∧Fu ps u.ps=false)) (fun i b hi hI=>by
       obtain ⟨e,he,hR⟩:=hp.ix hi
       have hiu:i<u.ps.length:=by omega
       have hiz:i<zs.length:=by omega
       obtain ⟨e2,he2,hR2⟩:=hq.ix hiu
       have hi':=Aa hi
       have hw:=AZ hi s2
       rw [Jx hi hiu] at hI
       have hrec:=ih ps[i] (List.getElem_mem hi) u.ps[i] zs[i] e e2 hR hR2 (s3 _ (List.getElem_mem hi)) (g1 i _ _ (List.getElem?_eq_getElem hiz) (List.getElem?_eq_getElem hi)) (g2 i _ _ (List.getElem?_eq_getElem hiz) (List.getElem?_eq_getElem hiu))
       obtain ⟨q1,rfl,hq1⟩:=hR.AY
       obtain ⟨q2,rfl,hq2⟩:=hR2.AY
       cases hs:DX ps[i] u.ps[i] with
       | true=>
        rw [hs] at hI hrec
        exact .inl ⟨(),by simp [Tryz.f91,hi',he,he2,hrec,hw,hb,h0',AG,AV.AD,hq1.AD,hq2.AD],by simpa using hI⟩
       | false=>
        rw [hs] at hI hrec
        exact .inr ⟨_,_,by simp [Tryz.f91,hi',he,he2,hrec,hb,h0',AG,AV.AD,hq1.AD,hq2.AD] <;> first | exact ⟨rfl,rfl⟩ | rfl,by simp,.inr ⟨rfl,by simpa using hI⟩⟩) (fun b hI=>by
       rw [List.drop_length] at hI
       exact ⟨_,_,by simp [Tryz.f91] <;> first | exact ⟨rfl,rfl⟩ | rfl,by simp,.inl ⟨rfl,by rw [hI];rfl⟩⟩) () (by simp)
    simp [Tryz.f91] at hlp
    simp only [d3,Bool.true_and]
    rcases hq' with ⟨hq',hr⟩ | ⟨hq',hr⟩ <;> rw [hr] <;> cases hq' <;> exact ⟨_,by simp [AN,Tryz.f91,h0',hp.len,hlp] <;> rfl⟩
theorem N5 {f:FuncId} {id:Nat} {v:Int} {s:Bytes} {pv:AV} {h:AE} {b:Bool} {ps:List TyV} (hps:SlR Ay 3 ps pv) (hh:h[id]? = some (.var b [.str s,.int .i64 v,pv])):snap CX (.fn f [] [.hp id 0]) h=some (.fn f [] [.ro [.str s,.int .i64 v,pv]],h.set id (.var true [.str s,.int .i64 v,pv])):=by
 have hpv:=hps.AD
 have:BC 9 (.fn f [] [.hp id 0]) h (.fn f [] [.ro [.str s,.int .i64 v,pv]]) (h.set id (.var true [.str s,.int .i64 v,pv])):=fun n=>by
  rcases hps with ⟨_,rfl⟩ | ⟨ex,es,rfl,_⟩ <;> simp [AV.AD] at hpv <;> simp [Am.snap,Am.FZ,AG,AV.AD,hh,hpv]
 exact this.at (by decide)
theorem c62 {arms:List TyV} {av:AV} (ha:SlR AU 4 arms av) (hal:arms.length<1048577) (has:∀ p∈arms,Sm 1048577 p) {u:TyV} {ys:List AV} (hy:Ay u ys) {s:Sh} (hpe:∀ p∈arms,Ch s p=0) (hve:HJ s u=0) (h:AE):AK MX (AH MX) 62 [av,.agg ys] h=some (.ret (.int .i64 (ixI (arms.findIdx? (fun p=>DX p u)))),h):=by
 have hn:([av,.agg ys]:List AV).all AV.AD=true:=by simp [AV.AD,ha.AD,hy.AG]
 have hyn:=hy.AG
 have h115:∀ (p:TyV) (px:List AV),AU p px→Sm 1048577 p→Ch s p=0→∀ H,∃ B,AK MX (AH MX) 115 [.agg px,.ro ys] H=some (.ret (.bool (DX p u)),H++[B]):=fun p px hR hs hpe H=>by
  have h91:=c91 p u s px ys hR hy hs hpe hve
  obtain ⟨q1,rfl,hq1⟩:=hR.AY
  obtain ⟨q2,rfl,hq2⟩:=hy.AY
  exact ⟨_,BI SY VQ (by simp [AN,Tryz.f115,h91] <;> first | exact ⟨rfl,rfl⟩ | rfl)⟩
 obtain ⟨F,hF⟩:∃ F,F=AV.fn 115 [] [.ro ys]:=⟨_,rfl⟩
 obtain ⟨G,hG⟩:∃ G,AN MX 114 [av,.fn 115 [] [.ro ys]] []=some (.ret (.int .i64 (ixI (arms.findIdx? (fun p=>DX p u)))),G):=by
  rw [← hF]
  obtain ⟨e,st,hlp,hq⟩:=AR (M:=MX) (fid:=114) (N:=19) (C:=AH MX) (c:=AP Tryz.f114 0) (n:=arms.length) (fun i (b:AE)=>([(0,av),(1,F),(7,.int .i64 arms.length),(8,.int .i64 i)],b)) (fun i _=>∀ j (hj:j<arms.length),j<i→(fun p=>DX p u) arms[j]=false)
   (fun r=>∃ b:AE,(r=(.ext 0,([(0,av),(1,F),(7,.int .i64 arms.length),(8,.int .i64 arms.length),(9,.bool false)],b))∧arms.findIdx? (fun p=>DX p u)=none)∨(∃ i:Nat,r=(.ret,([(4,.int .i64 i)],b))∧arms.findIdx? (fun p=>DX p u)=some i)) (fun i b hi hI=>by
     obtain ⟨e,he,hR⟩:=ha.ix hi
     have hi':=Aa hi
     have hw:=AZ hi hal
     have hmem:=List.getElem_mem hi
     obtain ⟨B,hcall⟩:=h115 arms[i] e hR (has _ hmem) (hpe _ hmem) b
     obtain ⟨q1,rfl,hq1⟩:=hR.AY
     cases hx:DX arms[i] u with
     | true=>rw [hx] at hcall;exact .inr ⟨_,_,by simp [Tryz.f114,hi',he,hcall,hF] <;> exact ⟨rfl,rfl⟩,by simp,b++[B],.inr ⟨i,rfl,EN (p:=(fun p=>DX p u)) hi hI hx⟩⟩
     | false=>rw [hx] at hcall;exact .inl ⟨b++[B],by simp [Tryz.f114,hi',he,hcall,hw,hF],EP (p:=(fun p=>DX p u)) hi hI hx⟩) (fun b hI=>by
     exact ⟨_,_,by simp [Tryz.f114] <;> exact ⟨rfl,rfl⟩,by simp,b,.inl ⟨rfl,EO (p:=(fun p=>DX p u)) fun j hj=>hI j hj hj⟩⟩) [] (fun j _ h0=>by omega)
  simp [Tryz.f114] at hlp
  obtain ⟨b,hq⟩:=hq
  rcases hq with ⟨hq,hs⟩ | ⟨i,hq,hs⟩ <;> cases hq <;> exact ⟨b,by simp [AN,Tryz.f114,ha.len,hlp,hs,ixI]⟩
 obtain ⟨q2,rfl,hq2⟩:=hy.AY
 have h114:AK MX (AH MX) 114 [av,.fn 115 [] [.hp 0 0]] [.var false [.str u.nm,.int .i64 u.v,q2]]=some (.ret (.int .i64 (ixI (arms.findIdx? (fun p=>DX p u)))),[.var true [.str u.nm,.int .i64 u.v,q2]]):=by
  have hsn:=N5 (f:=115) (id:=0) (b:=false) (h:=[.var false [.str u.nm,.int .i64 u.v,q2]]) hq2 rfl
  exact Eo (by simp [NN]) (args':=[av,.fn 115 [] [.ro [.str u.nm,.int .i64 u.v,q2]]]) (by simp [Ax,ha.AD,hsn,AV.AD,AG]) (by simp [ha.AD,AV.AD,AG,hq2.AD]) (Ae NN VP (by simp [ha.AD,AV.AD,AG,hq2.AD]) rfl hG _)
 exact Ae Ph Xw hn rfl (hr:=_) (by simp [AN,Tryz.f62,h114] <;> rfl) h
theorem u32:und MX.ty 32=some (.slice 34):=by kernel_rfl
def ClnR (ps:List TyV) (r:AV) (X:AE) (n:Nat):Prop:=(ps=[]∧X=[]∧(r=.AI∨r=.sl 3 true []))∨∃ es,ps≠[]∧r=.hs n ps.length 3 0 ps.length false∧X=[.arr 3 false es]∧es.length=ps.length∧∀ (j:Nat) p e,ps[j]? = some p→es[j]? = some e→Ay p e
theorem c163 {ps:List TyV} {v:AV} (hv:SlR Ay 3 ps v) (hl:ps.length<1048577) (h:AE):∃ r X,AK MX (AH MX) 163 [v] h=some (.ret r,h++X)∧ClnR ps r X h.length:=by
 have hn:([v]:List AV).all AV.AD=true:=by simp [hv.AD]
 rcases hv with ⟨rfl,rfl⟩ | ⟨ex,es,rfl,h1,h2⟩
 ·refine ⟨.AI,[],?_,.inl ⟨rfl,rfl,.inl rfl⟩⟩
  have hcl:=H6 (H:=[]) (a:=.AI) (l:=[]) (.inl ⟨rfl,rfl⟩) h
  simp only [nv,nb] at hcl
  exact H4 JI Ma hn (v:=.AI) (hr:=[]) (by simp [AN,Tryz.f163,u32,eqA]) hcl
 ·have hnr:es.all AG=true:=BR h1 h2 (fun a e h=>h.AG)
  by_cases he:es=[]
  ·subst he
   have h0:ps=[]:=List.eq_nil_of_length_eq_zero h1.symm
   refine ⟨.sl 3 true [],[],?_,.inl ⟨h0,rfl,.inr rfl⟩⟩
   have hcl:Bw true h (.sl 3 true []) []=some (.sl 3 true [],h++[]):=rfl
   have hap:apA 3 48 (.sl 3 true []) (.sl 3 ex []) []=some (.sl 3 true [],[]):=by
    simp [apA,apX,CE,BO,FQ,Az,A2,A7,CF]
   exact H4 JI Ma hn (v:=.sl 3 true []) (hr:=[]) (by simp [AN,Tryz.f163,u32,eqA,bsA,Ak,List.replicate,AG,AV.AD,hap]) hcl
  ·have hne:ps≠[]:=fun e=>he (List.eq_nil_of_length_eq_zero (by rw [h1,e];rfl))
   obtain ⟨x,r,hxr⟩:=List.exists_cons_of_ne_nil he
   refine ⟨.hs h.length ps.length 3 0 ps.length false,[.arr 3 false es],?_,.inr ⟨es,hne,rfl,rfl,h1,h2⟩⟩
   have hap:apA 3 48 (.sl 3 true []) (.sl 3 ex es) []=some (.hs 0 ps.length 3 0 ps.length false,[.arr 3 false es]):=by
    have e2:ps.length * 48≤17592186044416:=by omega
    have e3:ps.length≤17592186044416:=by omega
    have hrd:Az [] (.sl 3 ex es)=some es:=rfl
    rw [← h1] at e2 e3 ⊢
    subst hxr
    simp [apA,apX,CE,BO,FQ,Av,A2,A7,CF,hrd] at e2 e3 ⊢
    simp [e2,e3]
   have hcl:Bw true h (.hs 0 ps.length 3 0 ps.length false) [.arr 3 false es]=some (.hs h.length ps.length 3 0 ps.length false,h++[.arr 3 false es]):=by
    have ht:LJ (.hs 0 ps.length 3 0 ps.length false)=[0]:=rfl
    have hrl:∀ b,F9 b [0] (.hs 0 ps.length 3 0 ps.length false)=some (.hs b ps.length 3 0 ps.length false):=fun b=>by
     simp [F9,Ik,E4,posOf,A2]
    have hset:Am.settle [0] [.arr 3 false es]=some [.arr 3 false es]:=by simp only [Am.settle,List.getElem?_cons_zero,hnr]
    have hkb:C6 [.arr 3 false es] [0]=some [.arr 3 false es]:=by simp only [C6,List.getElem?_cons_zero,Blk.AD,hnr]
    simp only [Am.Bw,ht,hset,hrl,hkb]
    simp [Am.distinct]
   exact H4 JI Ma hn (v:=.hs 0 ps.length 3 0 ps.length false) (hr:=[.arr 3 false es]) (by simp [AN,Tryz.f163,u32,eqA,bsA,Ak,List.replicate,AG,AV.AD,hap]) hcl
def XQ (b:Bytes×TyV) (e:List AV):Prop:=∃ ys,e=.str b.1::ys∧Ay b.2 ys
theorem XQ.AG {b:Bytes×TyV} {e:List AV} (h:XQ b e):AG e=true:=by
 obtain ⟨ys,rfl,hy⟩:=h
 have:=hy.AG
 simp [Am.AG,AV.AD] at this ⊢
 exact this
theorem SlR.app {α:Type} {R:α→List AV→Prop} {sz:Nat} {l:List α} {v:AV} (hv:SlR R sz l v) (H:AE):∃ es,Az H v=some es∧CE sz v=true∧es.length=l.length∧∀ (i:Nat) a e,l[i]? = some a→es[i]? = some e→R a e:=hv.rd H
theorem SlR.Kh {α:Type} {R:α→List AV→Prop} {sz:Nat} {l:List α} {v:AV} (hv:SlR R sz l v) (h:AE):BC 1 v h v h:=fun n=>by
 have hn:=hv.AD
 rcases hv with ⟨_,rfl⟩ | ⟨ex,es,rfl,_⟩
 ·rfl
 ·simp [AV.AD] at hn
  simp [Am.snap,hn]
theorem KF {α:Type} {R:α→List AV→Prop} {sz:Nat} {l:List α} {v:AV} (hv:SlR R sz l v) (ids:List Nat):RY ids v=ids:=by
 rcases hv with ⟨_,rfl⟩ | ⟨_,_,rfl,_⟩ <;> rfl
theorem IL {α:Type} {R:α→List AV→Prop} {sz:Nat} {l:List α} {v:AV} (hv:SlR R sz l v) (b:Nat) (ids:List Nat):E4 b ids v=some v:=by
 have hn:=hv.AD
 rcases hv with ⟨_,rfl⟩ | ⟨_,_,rfl,_⟩
 ·rfl
 ·simp only [E4,hn]
theorem c15 {k:Dx} {xs:List AV} (hx:DS k xs) (hsk:SmT 1048577 k):∃ w pv es,SlR Ac 3 k.data w∧SlR AU 4 k.ty.ps pv∧AU k.ty [.int .i64 k.ty.k,.int .i64 k.ty.v,.str k.ty.nm,pv]∧es.length=k.arms.length∧(∀ (i:Nat) p e,k.arms[i]? = some p→es[i]? = some e→AU p e) ∧
  ((k.arms=[]∧∀ h,AK MX (AH MX) 15 [.agg xs] h=some (.ret (.agg [w,.int .i64 k.ty.k,.int .i64 k.ty.v,.str k.ty.nm,pv,.sl 4 true []]),h)) ∨
    (k.arms≠[]∧∀ h,AK MX (AH MX) 15 [.agg xs] h=some (.ret (.agg [w,.int .i64 k.ty.k,.int .i64 k.ty.v,.str k.ty.nm,pv,.hs h.length k.arms.length 4 0 k.arms.length false]),h++[.arr 4 false es]))):=by
 obtain ⟨dv,pv,av,rfl,hd,hp,ht,ha⟩:=hx.dest
 obtain ⟨s1,s2,s3,s4⟩:=hsk
 obtain ⟨w,hw,h31⟩:=c31 hd s1
 have hn:([AV.agg [dv,.int .i64 k.ty.k,.int .i64 k.ty.v,.str k.ty.nm,pv,av]]:List AV).all AV.AD=true:=by simp [AV.AD,AG,hd.AD,hp.AD,ha.AD]
 have hb:=TT
 simp [BK,Be,Tryz.f15] at hb
 let B:=Blk.var false [dv,.int .i64 k.ty.k,.int .i64 k.ty.v,.str k.ty.nm,pv,av]
 let Z:=Blk.var false [AV.AI,.int .i64 0,.int .i64 0,.str [],.AI,.AI]
 obtain ⟨es,h1,h2,h3,h4⟩:=ha.rd [B,Z]
 have hnr:es.all AG=true:=BR h3 h4 (fun a e h=>h.AG)
 have hs:=ha.nstr
 have hap:apA 4 56 (.sl 4 true []) av [B,Z]=apX 4 56 (.sl 4 true []) es 0 [B,Z]:=by
  unfold apA
  cases av with
  | str b=>exact absurd rfl (hs b)
  | _=>first | simp only [h2,h1,FQ,List.length_nil] | (simp only [Az] at h1;cases h1)
 refine ⟨w,pv,es,hw,hp,ht,h3,h4,?_⟩
 by_cases he:es=[]
 ·subst he
  have h0:k.arms=[]:=List.eq_nil_of_length_eq_zero h3.symm
  have hap2:apA 4 56 (.sl 4 true []) av [B,Z]=some (.sl 4 true [],[B,Z]):=by
   rw [hap];simp [apX,CE,BO,A2,A7,CF]
  simp only [B,Z] at hap2
  refine .inl ⟨h0,fun h => ?_⟩
  have hcl:∀ H:AE,Bw true h (.agg [w,.int .i64 k.ty.k,.int .i64 k.ty.v,.str k.ty.nm,pv,.sl 4 true []]) H=some (.agg [w,.int .i64 k.ty.k,.int .i64 k.ty.v,.str k.ty.nm,pv,.sl 4 true []],h):=fun H=>by
   have ht:LJ (.agg [w,.int .i64 k.ty.k,.int .i64 k.ty.v,.str k.ty.nm,pv,.sl 4 true []])=[]:=by
    show List.foldl RY [] _=[]
    simp only [List.foldl_cons,List.foldl_nil,KF hw,KF hp]
    rfl
   have hr:∀ n,F9 n [] (.agg [w,.int .i64 k.ty.k,.int .i64 k.ty.v,.str k.ty.nm,pv,.sl 4 true []])=some (.agg [w,.int .i64 k.ty.k,.int .i64 k.ty.v,.str k.ty.nm,pv,.sl 4 true []]):=fun n=>by
    have e0:∀ v,v.AD=true→(∀ id off,v≠.hp id off)→E4 n [] v=E4 n [] v:=fun v _ _=>rfl
    show Option.map AV.agg (GD n [] _)=_
    simp only [GD,IL hw,IL hp]
    simp [E4,AV.AD]
   have hs2:Am.settle [] H=some H:=rfl
   have hk2:C6 H []=some []:=rfl
   simp only [Bw,ht,hs2,hr,hk2]
   simp [Am.distinct]
  exact H4 Pe SJ hn (v:=.agg [w,.int .i64 k.ty.k,.int .i64 k.ty.v,.str k.ty.nm,pv,.sl 4 true []]) (by simp [AN,Tryz.f15,h31,hap2,hd.cells,hw.cells,bsA,Ak,List.replicate,AG,AV.AD,hd.AD,hb,GP,Cm] <;> rfl) (hcl _)
 ·obtain ⟨a,r,hxr⟩:=List.exists_cons_of_ne_nil he
  have hne:k.arms≠[]:=fun e=>he (List.eq_nil_of_length_eq_zero (by rw [h3,e];rfl))
  have hap2:apA 4 56 (.sl 4 true []) av [B,Z]=some (.hs 2 k.arms.length 4 0 k.arms.length false,[B,Z,.arr 4 false es]):=by
   rw [hap,← h3]
   have hn:es.length<1048577:=by omega
   subst hxr
   have e2:(r.length+1) * 56≤17592186044416:=by simp at hn;omega
   have e3:r.length+1≤17592186044416:=by simp at hn;omega
   simp [apX,CE,BO,Av,A2,A7,CF,e2,e3]
  have m1:(0∈Ck 0 [B,Z] [B,Z,.arr 4 false es])=False:=E8 (by simp) rfl
  simp only [B,Z] at hap2 m1
  refine .inr ⟨hne,fun h => ?_⟩
  let V:=AV.agg [w,.int .i64 k.ty.k,.int .i64 k.ty.v,.str k.ty.nm,pv,.hs 2 k.arms.length 4 0 k.arms.length false]
  have hcl:Bw true h (.agg [w,.int .i64 k.ty.k,.int .i64 k.ty.v,.str k.ty.nm,pv,.hs 2 k.arms.length 4 0 k.arms.length false]) [Blk.var false [dv,.int .i64 k.ty.k,.int .i64 k.ty.v,.str k.ty.nm,pv,av],Blk.var false [w,.int .i64 k.ty.k,.int .i64 k.ty.v,.str k.ty.nm,pv,.hs 2 k.arms.length 4 0 k.arms.length false],.arr 4 false es]=some (.agg [w,.int .i64 k.ty.k,.int .i64 k.ty.v,.str k.ty.nm,pv,.hs h.length k.arms.length 4 0 k.arms.length false],h++[.arr 4 false es]):=by
   have ht:LJ (.agg [w,.int .i64 k.ty.k,.int .i64 k.ty.v,.str k.ty.nm,pv,.hs 2 k.arms.length 4 0 k.arms.length false])=[2]:=by
    show List.foldl RY [] _=[2]
    simp only [List.foldl_cons,List.foldl_nil,KF hw,KF hp]
    rfl
   have hr:∀ n,F9 n [2] (.agg [w,.int .i64 k.ty.k,.int .i64 k.ty.v,.str k.ty.nm,pv,.hs 2 k.arms.length 4 0 k.arms.length false])=some (.agg [w,.int .i64 k.ty.k,.int .i64 k.ty.v,.str k.ty.nm,pv,.hs n k.arms.length 4 0 k.arms.length false]):=fun n=>by
    show Option.map AV.agg (GD n [2] _)=_
    simp only [GD,IL hw,IL hp]
    simp [E4,AV.AD,posOf,A2]
   have hset:∀ C D:Blk,Am.settle [2] [C,D,.arr 4 false es]=some [C,D,.arr 4 false es]:=fun C D=>by simp only [Am.settle,List.getElem?_cons_succ,List.getElem?_cons_zero,hnr]
   have hkb:∀ C D:Blk,C6 [C,D,.arr 4 false es] [2]=some [.arr 4 false es]:=fun C D=>by simp only [C6,List.getElem?_cons_succ,List.getElem?_cons_zero,Blk.AD,hnr]
   simp only [Am.Bw,ht,hset,hr,hkb]
   simp [Am.distinct]
  exact H4 Pe SJ hn (by simp [AN,Tryz.f15,h31,hap2,m1,hd.cells,hw.cells,bsA,Ak,List.replicate,AG,AV.AD,hd.AD,hb,Cm]) hcl
theorem L0 {s:Sh}:∀ (l:List TyV) (i:Nat),(F5 s i l).2=0→∀ p∈l,FJ s p=0
 | [],_,_=>fun p h=>by cases h
 | q::r,i,h=>by
  simp only [F5] at h
  split at h
  ·rename_i h1
   intro p hp
   rcases List.mem_cons.1 hp with rfl | hp
   ·exact h1
   ·exact L0 r (i+1) h p hp
  ·rename_i h1;exact absurd h h1
theorem RM {s:Sh} {p:TyV} (h:FJ s p=0):A1 p=true∧Ch s p=0∧IV [] (BB p)=false:=by
 unfold FJ at h
 by_cases h1:A1 p=false
 ·rw [if_pos h1] at h;cases h
 ·rw [if_neg h1] at h
  by_cases h2:Ch s p=0
  ·rw [if_pos h2] at h
   cases h3:IV [] (BB p) with
   | true=>rw [h3] at h;cases h
   | false=>exact ⟨by simpa using h1,h2,rfl⟩
  ·rw [if_neg h2] at h;exact absurd h h2
theorem JW {l:List AO} {t:TyV} {arms:List TyV} (h:(Aq l t arms).2=0):DD l t=0∧0<arms.length∧arms.length≤12∧∀ p∈arms,FJ (CY l t) p=0:=by
 unfold Aq at h
 by_cases h1:DD l t=0
 ·rw [if_pos h1] at h
  by_cases h2:arms.length=0
  ·rw [if_pos h2] at h;cases h
  ·rw [if_neg h2] at h
   by_cases h3:12<arms.length
   ·rw [if_pos h3] at h;cases h
   ·rw [if_neg h3] at h
    exact ⟨h1,by omega,by omega,L0 arms 0 h⟩
 ·rw [if_neg h1] at h;exact absurd h h1
section
variable {k:Dx} {xs:List AV} (hx:DS k xs) (hsk:SmT 1048577 k) {u:TyV} {ys:List AV} (hu:Ay u ys) (hsu:Sm 1048577 u)
include hx hsk hu hsu
end
end Go.Proofs.Am12
namespace Go.Proofs.Am12
open Go Go.Am
theorem K7 {l:List AO} {params:List Bytes}:∀ (r prev:List Bm),EZ l params prev r=0→∀ c∈r,A6 c.nm=true
 | [],_,_=>fun f hf=>by cases hf
 | c::r,prev,h=>by
  simp only [EZ] at h
  split at h
  ·cases h
  ·rename_i h0
   split at h
   ·cases h
   ·split at h
    ·cases h
    ·split at h
     ·cases h
     ·split at h
      ·cases h
      ·split at h
       ·intro g hg
        rcases List.mem_cons.1 hg with rfl | hg
        ·simpa using h0
        ·exact K7 r _ h g hg
       ·rename_i h3;exact absurd h h3
theorem PN {l:List AO} (h:(Au l).2=0):∀ d∈l,∀ c∈d.cons,c.nm≠[]:=by
 intro d hd c hc e
 have h1:∃ pre,BL d pre=0:=by
  unfold Au at h
  split at h
  ·cases h
  ·obtain ⟨pre,post,e,he⟩:=HF l [] h d hd
   exact ⟨pre,he⟩
 obtain ⟨pre,h1⟩:=h1
 have h2:EZ pre d.params [] d.cons=0:=by
  unfold BL at h1
  repeat (split at h1;first | cases h1 | skip)
  ·exact h1
  ·rename_i h3;exact absurd h1 h3
 have:=K7 _ _ h2 c hc
 rw [e] at this
 simp [A6] at this
theorem N6 {l:List AO} (h:(Au l).2=0) (t:TyV):∀ c∈AQ l t,c.nm≠[]:=by
 intro c hc
 unfold AQ at hc
 split at hc
 ·simp only [List.mem_cons,List.not_mem_nil,or_false] at hc
  rcases hc with rfl | rfl <;> (show _≠([]:Bytes);decide)
 ·split at hc
  ·rename_i i hi
   obtain ⟨c0,hc0,rfl⟩:=List.mem_map.1 hc
   have hil:=F3 hi
   have hg:l.getD i default=l[i]:=by simp [hil]
   rw [hg] at hc0
   exact PN h _ (List.getElem_mem hil) c0 hc0
  ·cases hc
theorem Cw.part {l:List AO} {t:TyV} {ns:List Bytes} {ss:List (List Sh)} (h:Cw l t (.cons ns ss)) {i j:Nat} {x:Sh} (hx:(ss.getD i [])[j]? = some x):∃ t',Cw l t' x:=by
 cases h with
 | cons _ _ _ hb hk hn hl hs hf=>
  by_cases hi:i<ss.length
  ·have hgi:ss.getD i []=ss[i]:=by simp [hi]
   rw [hgi] at hx
   have hc:=List.getElem?_eq_getElem (l:=AQ l t) (i:=i) (by omega)
   have hlen:=hs i _ _ hc (List.getElem?_eq_getElem hi)
   have hj:=(List.getElem?_eq_some_iff.1 hx).1
   exact ⟨_,hf i _ _ j _ x hc (List.getElem?_eq_getElem hi) (List.getElem?_eq_getElem (by omega)) hx⟩
  ·have:ss.getD i []=[]:=by simp [Nat.le_of_not_lt hi]
   rw [this] at hx
   simp at hx
theorem Cw.name {l:List AO} {t:TyV} {ns:List Bytes} {ss:List (List Sh)} (h:Cw l t (.cons ns ss)) (hd:(Au l).2=0) {nm:Bytes} {i:Nat} (hi:ns.findIdx? (fun x=>x == nm)=some i):nm≠[]:=by
 cases h with
 | cons _ _ _ hb hk hn hl hs hf=>
  obtain ⟨h1,h2,_⟩:=List.findIdx?_eq_some_iff_getElem.1 hi
  have h3:ns[i]=nm:=beq_iff_eq.1 h2
  rw [← h3]
  have hmem:ns[i]∈(AQ l t).map (·.nm):=hn ▸ List.getElem_mem h1
  obtain ⟨c,hc,e⟩:=List.mem_map.1 hmem
  rw [← e]
  exact N6 hd t c hc
end Go.Proofs.Am12
namespace Go.Proofs.Am12
open Go Go.Am Go.Proofs.YtggemipepaajmaaGreat
theorem L1:und MX.ty 34=some (.struct #[{ name := "Name",type:=9,offset:=0,embedded:=false,tag := "",pkgPath := "",byteOffset:=0 },{ name := "Number",type:=3,offset:=1,embedded:=false,tag := "",pkgPath := "",byteOffset:=16 },{ name := "Parts",type:=32,offset:=2,embedded:=false,tag := "",pkgPath := "",byteOffset:=24 }]):=by kernel_rfl
theorem K8:und MX.ty 32=some (.slice 34):=by kernel_rfl
theorem Yh:siz MX.ty 34=3:=by kernel_rfl
theorem WZ {H:Type} {t:TypeId} {d:DataW H} {xs:List AV} (h:Shp MX t d xs) {b:Nat} (hb:Rows.uptoBulk d<b) :
  (t=34→∃ tv,Ay tv xs∧Sm b tv)∧(t=32→∃ l v,xs=[v]∧SlR Ay 3 l v∧l.length<b∧∀ x∈l,Sm b x):=by
 induction h with
 | bool h b=>exact ⟨fun e=>(by subst e;rw [L1] at h;cases h),fun e=>(by subst e;rw [K8] at h;cases h)⟩
 | int h n hw=>exact ⟨fun e=>(by subst e;rw [L1] at h;cases h),fun e=>(by subst e;rw [K8] at h;cases h)⟩
 | str h bs=>exact ⟨fun e=>(by subst e;rw [L1] at h;cases h),fun e=>(by subst e;rw [K8] at h;cases h)⟩
 | nil h=>exact ⟨fun e=>(by subst e;rw [L1] at h;cases h),fun e=>⟨[],.AI,rfl,.inl ⟨rfl,rfl⟩,by have:=one_le (DataW.nil:DataW H);simp;omega,fun x hx=>by cases hx⟩⟩
 | sl h ds sp es hl hs ih=>
  refine ⟨fun e=>(by subst e;rw [L1] at h;cases h),fun e => ?_⟩
  subst e
  rw [K8] at h
  cases h
  rw [Yh]
  simp only [Rows.uptoBulk] at hb
  obtain ⟨l,h1,h2,h3⟩:=Gx (R:=Ay) (S:=Sm b) es (fun x hx=>by
   obtain ⟨i,hi⟩:=List.mem_iff_getElem?.1 hx
   have hlt:i<ds.length:=by rw [← hl];exact (List.getElem?_eq_some_iff.1 hi).1
   exact (ih i ds[i] x (List.getElem?_eq_getElem hlt) hi (by have:=KD (List.getElem_mem hlt);omega)).1 rfl)
  have:=length_le ds
  exact ⟨l,_,rfl,.inr ⟨false,es,rfl,h1,h2⟩,by omega,h3⟩
 | struct h ds rows hl hf hs ih=>
  refine ⟨fun e => ?_,fun e=>(by subst e;rw [K8] at h;cases h)⟩
  subst e
  rw [L1] at h
  cases h
  simp only [List.size_toArray,List.length_cons,List.length_nil] at hf
  match ds,rows,hf,hl with
  | [d0,d1,d2],[a0,a1,a2],_,_=>
   simp only [Rows.uptoBulk,Rows.uptoBulkAll] at hb
   obtain ⟨nm,rfl,hnm⟩:=HU (b:=b) (hs 0 _ d0 a0 rfl rfl rfl) (by omega)
   obtain ⟨v,rfl,_⟩:=Gy (hs 1 _ d1 a1 rfl rfl rfl)
   obtain ⟨l,pv,rfl,hp,hlb,hS⟩:=(ih 2 _ d2 a2 rfl rfl rfl (by omega)).2 rfl
   exact ⟨.mk 0 v nm l,Ay.intro hp,.mk 0 v nm l hnm hlb hS⟩
theorem Yi {H:Type} {b:Nat} (d:DataW H) (xs:List AV) (h:Shp MX 34 d xs) (hb:Rows.uptoBulk d<b):∃ tv,Ay tv xs∧Sm b tv:=(WZ h hb).1 rfl
end Go.Proofs.Am12
namespace Go.Proofs.Am12
open Go Go.Am
attribute [local simp] Dq B8 EL Dr CS Ds Dt Ee BT BP Bb Ap Fy Ez D9 Gn D1 A4 El EA Gp Gq xUn Ej D2 E0 BF C7 BG D3 BH D4 Cb CV Bx BE EB EK
 ev evs C3 C4 OR.ofV OR.DQ OR.ofC E6 Tm.get Tm.init Tm.only A2 A7 CF finish B6 Cm Gm Db D0 unA CA Bg CB Bh Cp Cq Cr Bi Cs Ct Bj Cu Cv Bk CC AP CJ Bf Cn Co B9 Ef Eg Eh Du Dv FM Fa Fb FN stA A3 DE B7 C8 Ek GH CD DA CG E1 GI
set_option maxHeartbeats 1000000
attribute [local simp] DH CU CM Bl DI DJ DK DL DM DN DP ES Cy ET Df FC FD Ga Dg EU Dh BU Di BV Dj CP EV Cz FE FF FG C0 Dk Dl FH Gb FI Gc Gd Dm BW C1 CQ Dn Dp C2
section
variable {dv pv av qv:AV} {kk kv:Int} {knm:Bytes} {uv:Int} {unm:Bytes} {R:AE}
variable {O:List AV} {R' R2:AE} {xr:List (Nat×AV)}
variable {b:Bool} {z z2 z3 z4 z5:Int} {w dw:AV} {zs:List AV}
end
section
variable {dv pv av qv:AV} {kk kv:Int} {knm:Bytes} {uv:Int} {unm:Bytes} {X:AE}
variable {b:Bool} {z z2 z3 z4 z5 e e2:Int} {w r:AV} {junk:List (Nat×AV)}
variable {pk pv2:Int} {pnm:Bytes} {pp:AV} {f:Bool}
variable {w2:AV}
end
theorem ga7 {R T:AE} {A:Blk}:(R++A::T)[R.length]? = some A:=by simp
theorem gb7 {R T:AE} {A B:Blk}:(R++A::B::T)[R.length+1]? = some B:=by
 rw [List.getElem?_append_right (by omega)]
 simp
section
variable {dv pv av qv:AV} {kk kv:Int} {knm:Bytes} {uv:Int} {unm:Bytes} {X:AE}
variable {w w2:AV}
variable {R:AE} {w0 pv':AV} {es:List (List AV)} {n:Nat} {m:Int}
variable {pk pv2 ek ev2:Int} {pnm enm:Bytes} {pp ep:AV} {qk qv2:Int} {qnm:Bytes} {qp:AV}
end
theorem _root_.Go.Am.FV {M:Par} {fid N:Nat} {C:CH} {a b:Code} {s s':St} (h:AW M fid N C a s=some (.ret,s')):AW M fid N C (.seq a b) s=some (.ret,s'):=by
 rw [EL,h]
end Go.Proofs.Am12
namespace Go.Proofs.Am12
open Go Go.Am
def PvAt (H:AE) (ps:List TyV) (pv:AV):Prop:=SlR Ay 3 ps pv∨∃ j lk es,pv=.hs j ps.length 3 0 ps.length false∧H[j]? = some (.arr 3 lk es)∧es.length=ps.length∧∀ (i:Nat) p e,ps[i]? = some p→es[i]? = some e→Ay p e
def Er (H:AE) (u:TyV) (row:List AV):Prop:=u.k=0∧∃ pv,row=[.str u.nm,.int .i64 u.v,pv]∧PvAt H u.ps pv
def Iy (H:AE) (us:List TyV) (pv:AV):Prop:=(us=[]∧pv=.AI)∨∃ j lk es,us≠[]∧pv=.hs j us.length 3 0 us.length false∧H[j]? = some (.arr 3 lk es)∧es.length=us.length∧∀ (i:Nat) p e,us[i]? = some p→es[i]? = some e→Er H p e
theorem Ay.row {u:TyV} {row:List AV} (h:Ay u row) (H:AE):Er H u row:=by
 obtain ⟨pv,rfl,hp⟩:=h.AY
 exact ⟨h.k0,pv,rfl,.inl hp⟩
def AExt (H H':AE):Prop:=∀ (id:Nat) (lk:Bool) (es:List (List AV)),H[id]? = some (.arr 3 lk es)→∃ lk' es',H'[id]? = some (.arr 3 lk' es')∧es'.length=es.length∧∀ (i:Nat) e e',es[i]? = some e→es'[i]? = some e'→∀ u,Ay u e→Ay u e'
theorem Er.T6 {H H':AE} (x:AExt H H') {u:TyV} {row:List AV} (h:Er H u row):Er H' u row:=by
 obtain ⟨h0,pv,h1,h2⟩:=h
 refine ⟨h0,pv,h1,?_⟩
 rcases h2 with h2 | ⟨j,lk,es,g1,g2,g3,g4⟩
 ·exact .inl h2
 ·obtain ⟨lk',es',a1,a2,a3⟩:=x j lk es g2
  refine .inr ⟨j,lk',es',g1,a1,a2.trans g3,fun i p e hp he => ?_⟩
  have hi:=(List.getElem?_eq_some_iff.1 he).1
  have hie:=List.getElem?_eq_getElem (l:=es) (i:=i) (by omega)
  exact a3 i _ e hie he p (g4 i p _ hp hie)
def N7 (B:Blk):Prop:=∀ lk es,B≠.arr 3 lk es
def Ext (M:Nat→Prop) (H H':AE):Prop:=∀ (id:Nat) (B:Blk),H[id]? = some B→∃ B',H'[id]? = some B'∧(B'=B∨(∃ lk es lk' es',B=.arr 3 lk es∧B'=.arr 3 lk' es'∧es'.length=es.length∧∀ (i:Nat) e e',es[i]? = some e→es'[i]? = some e'→(∀ u,Ay u e→Ay u e')∧∀ u,Er H u e→Er H' u e')∨(M id∧N7 B∧N7 B'))
theorem Ext.a {M:Nat→Prop} {H H':AE} (x:Ext M H H'):AExt H H':=fun id lk es h=>by
 obtain ⟨B',h1,h2 | ⟨lk0,es0,lk',es',h2,h3,h4,h5⟩ | ⟨_,h2,_⟩⟩:=x id _ h
 ·subst h2
  exact ⟨lk,es,h1,rfl,fun i e e' a b u hu=>by rw [a] at b;cases b;exact hu⟩
 ·cases h2
  subst h3
  exact ⟨lk',es',h1,h4,fun i e e' a b=>(h5 i e e' a b).1⟩
 ·exact absurd rfl (h2 lk es)
theorem Er.ext {M:Nat→Prop} {H H':AE} (x:Ext M H H') {u:TyV} {row:List AV} (h:Er H u row):Er H' u row:=h.T6 x.a
theorem Iy.ext {M:Nat→Prop} {H H':AE} (x:Ext M H H') {us:List TyV} {pv:AV} (h:Iy H us pv):Iy H' us pv:=by
 rcases h with h | ⟨j,lk,es,g0,g1,g2,g3,g4⟩
 ·exact .inl h
 ·obtain ⟨B',h1,h2 | ⟨lk0,es0,lk',es',h2,h3,h4,h5⟩ | ⟨_,h2,_⟩⟩:=x j _ g2
  ·subst h2
   exact .inr ⟨j,lk,es,g0,g1,h1,g3,fun i p e a b=>(g4 i p e a b).ext x⟩
  ·cases h2
   subst h3
   refine .inr ⟨j,lk',es',g0,g1,h1,h4.trans g3,fun i p e a b => ?_⟩
   have hi:=(List.getElem?_eq_some_iff.1 b).1
   have hie:=List.getElem?_eq_getElem (l:=es) (i:=i) (by omega)
   exact (h5 i _ e hie b).2 p (g4 i p _ a hie)
  ·exact absurd rfl (h2 lk es)
theorem Ext.refl {M:Nat→Prop} (H:AE):Ext M H H:=fun id B h=>⟨B,h,.inl rfl⟩
theorem Ext.trans {M:Nat→Prop} {H H1 H2:AE} (x:Ext M H H1) (y:Ext M H1 H2):Ext M H H2:=fun id B h=>by
 obtain ⟨B1,h1,hx⟩:=x id B h
 obtain ⟨B2,h2,hy⟩:=y id B1 h1
 refine ⟨B2,h2,?_⟩
 rcases hx with rfl | ⟨lk,es,lk1,es1,rfl,rfl,a1,a2⟩ | ⟨m1,n1,n2⟩
 ·rcases hy with rfl | ⟨lk,es,lk2,es2,rfl,rfl,a1,a2⟩ | ⟨m1,n1,n2⟩
  ·exact .inl rfl
  ·refine .inr (.inl ⟨lk,es,lk2,es2,rfl,rfl,a1,fun i e e' b1 b2=>⟨(a2 i e e' b1 b2).1,fun u hu=>(a2 i e e' b1 b2).2 u (hu.ext x)⟩⟩)
  ·exact .inr (.inr ⟨m1,n1,n2⟩)
 ·rcases hy with rfl | ⟨lk',es',lk2,es2,h3,rfl,b1,b2⟩ | ⟨m1,n1,n2⟩
  ·exact .inr (.inl ⟨lk,es,lk1,es1,rfl,rfl,a1,fun i e e' c1 c2=>⟨(a2 i e e' c1 c2).1,fun u hu=>((a2 i e e' c1 c2).2 u hu).ext y⟩⟩)
  ·cases h3
   refine .inr (.inl ⟨lk,es,lk2,es2,rfl,rfl,b1.trans a1,fun i e e' c1 c2 => ?_⟩)
   have hi:=(List.getElem?_eq_some_iff.1 c1).1
   have hm:=List.getElem?_eq_getElem (l:=es1) (i:=i) (by omega)
   obtain ⟨p1,p2⟩:=a2 i e _ c1 hm
   obtain ⟨q1,q2⟩:=b2 i _ e' hm c2
   exact ⟨fun u hu=>q1 u (p1 u hu),fun u hu=>q2 u (p2 u hu)⟩
  ·exact absurd rfl (n1 lk1 es1)
 ·rcases hy with rfl | ⟨lk',es',lk2,es2,rfl,rfl,b1,b2⟩ | ⟨_,n3,n4⟩
  ·exact .inr (.inr ⟨m1,n1,n2⟩)
  ·exact absurd rfl (n2 lk' es')
  ·exact .inr (.inr ⟨m1,n1,n4⟩)
theorem Ext.app {M:Nat→Prop} (H X:AE):Ext M H (H++X):=fun id B h=>⟨B,by rw [List.getElem?_append_left (List.getElem?_eq_some_iff.1 h).1];exact h,.inl rfl⟩
theorem Ext.up {M M':Nat→Prop} {H H':AE} (x:Ext M H H') (hm:∀ i,M i→M' i):Ext M' H H':=fun id B h=>by
 obtain ⟨B',h1,h2 | h2 | ⟨a,b,c⟩⟩:=x id B h
 ·exact ⟨B',h1,.inl h2⟩
 ·exact ⟨B',h1,.inr (.inl h2)⟩
 ·exact ⟨B',h1,.inr (.inr ⟨hm id a,b,c⟩)⟩
abbrev NoM:Nat→Prop:=fun _=>False
theorem Ext.any {M:Nat→Prop} {H H':AE} (x:Ext NoM H H'):Ext M H H':=x.up fun _ h=>h.elim
theorem Ext.keep {M:Nat→Prop} {H H':AE} (x:Ext M H H') {id:Nat} {B:Blk} (h:H[id]? = some B) (hm:¬ M id) (hb:N7 B):H'[id]? = some B:=by
 obtain ⟨B',h1,h2 | ⟨lk,es,_,_,h2,_⟩ | ⟨a,_,_⟩⟩:=x id B h
 ·rw [h1,h2]
 ·exact absurd h2 (hb lk es)
 ·exact absurd a hm
theorem Ext.var {M:Nat→Prop} {H H':AE} (x:Ext M H H') {id:Nat} {lk:Bool} {cs:List AV} (h:H[id]? = some (.var lk cs)) (hm:¬ M id):H'[id]? = some (.var lk cs):=x.keep h hm fun _ _ e=>by cases e
theorem Ext.len {M:Nat→Prop} {H H':AE} (x:Ext M H H'):H.length≤H'.length:=by
 by_cases h0:H.length=0
 ·omega
 ·obtain ⟨B',h1,_⟩:=x (H.length - 1) _ (List.getElem?_eq_getElem (by omega))
  have:=(List.getElem?_eq_some_iff.1 h1).1
  omega
theorem Ext.set {M:Nat→Prop} {H:AE} {id:Nat} {B B':Blk} (h:H[id]? = some B) (hm:M id) (h1:N7 B) (h2:N7 B'):Ext M H (H.set id B'):=fun j C hj=>by
 by_cases e:j=id
 ·subst e
  rw [h] at hj
  cases hj
  exact ⟨B',List.getElem?_set_self (List.getElem?_eq_some_iff.1 h).1,.inr (.inr ⟨hm,h1,h2⟩)⟩
 ·exact ⟨C,by rw [List.getElem?_set_ne (Ne.symm e)];exact hj,.inl rfl⟩
def Lk (H H':AE):Prop:=∀ (id:Nat) (B:Blk),H[id]? = some B→∃ B',H'[id]? = some B'∧(B'=B∨∃ lk es,B=.arr 3 lk es∧B'=.arr 3 true es)
theorem Lk.refl (H:AE):Lk H H:=fun id B h=>⟨B,h,.inl rfl⟩
theorem Lk.trans {H H1 H2:AE} (x:Lk H H1) (y:Lk H1 H2):Lk H H2:=fun id B h=>by
 obtain ⟨B1,h1,hx⟩:=x id B h
 obtain ⟨B2,h2,hy⟩:=y id B1 h1
 refine ⟨B2,h2,?_⟩
 rcases hx with rfl | ⟨lk,es,rfl,rfl⟩
 ·exact hy
 ·rcases hy with rfl | ⟨lk',es',h3,rfl⟩
  ·exact .inr ⟨lk,es,rfl,rfl⟩
  ·cases h3;exact .inr ⟨lk,es,rfl,rfl⟩
theorem Lk.a {H H':AE} (x:Lk H H'):AExt H H':=fun id lk es h=>by
 obtain ⟨B',h1,h2 | ⟨lk',es',h2,h3⟩⟩:=x id _ h
 ·subst h2;exact ⟨lk,es,h1,rfl,fun i e e' a b u hu=>by rw [a] at b;cases b;exact hu⟩
 ·cases h2;subst h3;exact ⟨true,es,h1,rfl,fun i e e' a b u hu=>by rw [a] at b;cases b;exact hu⟩
theorem Lk.ext {H H':AE} (x:Lk H H'):Ext NoM H H':=fun id B h=>by
 obtain ⟨B',h1,h2 | ⟨lk,es,rfl,rfl⟩⟩:=x id B h
 ·exact ⟨B',h1,.inl h2⟩
 ·exact ⟨_,h1,.inr (.inl ⟨lk,es,true,es,rfl,rfl,rfl,fun i e e' a b=>by rw [a] at b;cases b;exact ⟨fun u hu=>hu,fun u hu=>hu.T6 x.a⟩⟩)⟩
theorem Lk.set {H:AE} {id:Nat} {lk:Bool} {es:List (List AV)} (h:H[id]? = some (.arr 3 lk es)):Lk H (H.set id (.arr 3 true es)):=fun j C hj=>by
 by_cases e:j=id
 ·subst e
  rw [h] at hj
  cases hj
  exact ⟨_,List.getElem?_set_self (List.getElem?_eq_some_iff.1 h).1,.inr ⟨lk,es,rfl,rfl⟩⟩
 ·exact ⟨C,by rw [List.getElem?_set_ne (Ne.symm e)];exact hj,.inl rfl⟩
theorem Lk.len {H H':AE} (x:Lk H H'):H.length≤H'.length:=x.ext.len
theorem K9 {H:AE} {u:TyV} {row:List AV} (h:Er H u row):∃ row' H',A9 6 row H row' H'∧Ay u row'∧Lk H H'∧H'.length=H.length∧(∀ w,Er H w row→Ay w row')∧(AG row=true→row'=row∧H'=H):=by
 obtain ⟨h0,pv,rfl,h2⟩:=h
 have k0:∀ {w:TyV} {pv:AV},w.k=0→SlR Ay 3 w.ps pv→Ay w [.str w.nm,.int .i64 w.v,pv]:=fun {w pv} a b=>by
  cases w with
  | mk k v nm ps=>
   have a:k=0:=a
   subst a
   exact Ay.intro b
 have hfl:∀ {w:TyV} {j n:Nat},u.nm=w.nm→u.v=w.v→True:=fun _ _=>trivial
 rcases h2 with h2 | ⟨j,lk,es,rfl,g2,g3,g4⟩
 ·have hn:=h2.AD
  have hs:BC 1 pv H pv H:=SlR.Kh h2 H
  refine ⟨_,H,(A9.cons (BC.flat (c:=.str u.nm) rfl H) (A9.cons (BC.flat (c:=.int .i64 u.v) rfl H) (A9.cons hs (A9.nil _)))).mono (by decide),k0 h0 h2,Lk.refl H,rfl,fun w hw => ?_,fun _=>⟨rfl,rfl⟩⟩
  obtain ⟨w0,pv',e,hw2⟩:=hw
  simp only [List.cons.injEq,AV.str.injEq,AV.int.injEq,true_and,and_true] at e
  obtain ⟨e1,e2,rfl⟩:=e
  rcases hw2 with hw2 | ⟨j,lk,es,rfl,_⟩
  ·rw [e1,e2];exact k0 w0 hw2
  ·simp [AV.AD] at hn
 ·have hnr:es.all AG=true:=BR g3 g4 (fun a e h=>h.AG)
  have h6:BC 1 (.hs j u.ps.length 3 0 u.ps.length false) H (.sl 3 false es) (H.set j (.arr 3 true es)):=fun n=>by
   have hb:(Nat.beq es.length u.ps.length&&Nat.beq 3 3&&Nat.ble (0+u.ps.length) es.length&&es.all AG)=true:=by
    rw [hnr,g3];simp [A2,A7]
   simp only [Am.snap,g2,hb]
   simp [← g3]
  refine ⟨[.str u.nm,.int .i64 u.v,.sl 3 false es],_,(A9.cons (BC.flat (c:=.str u.nm) rfl H) (A9.cons (BC.flat (c:=.int .i64 u.v) rfl H) (A9.cons h6 (A9.nil _)))).mono (by decide),k0 h0 (.inr ⟨false,es,rfl,g3,g4⟩),Lk.set g2,by simp,fun w hw => ?_,fun hn=>by simp [AG,AV.AD] at hn⟩
  obtain ⟨w0,pv',e,hw2⟩:=hw
  simp only [List.cons.injEq,AV.str.injEq,AV.int.injEq,true_and,and_true] at e
  obtain ⟨e1,e2,rfl⟩:=e
  rcases hw2 with hw2 | ⟨j',lk',es',e3,b2,b3,b4⟩
  ·have:=hw2.AD
   simp [AV.AD] at this
  ·simp only [AV.hs.injEq] at e3
   obtain ⟨rfl,e4,_⟩:=e3
   rw [g2] at b2
   simp only [Option.some.injEq,Blk.arr.injEq] at b2
   obtain ⟨_,_,rfl⟩:=b2
   rw [e1,e2];exact k0 w0 (.inr ⟨false,es,rfl,b3,b4⟩)
theorem L2:∀ (us:List TyV) (es:List (List AV)) (H:AE),es.length=us.length→(∀ (i:Nat) p e,us[i]? = some p→es[i]? = some e→Er H p e)→∃ es' H',Bq (8+es.length) es H es' H'∧Lk H H'∧H'.length=H.length∧es'.length=es.length∧(∀ (i:Nat) p e,us[i]? = some p→es'[i]? = some e→Ay p e)∧∀ (i:Nat) e e',es[i]? = some e→es'[i]? = some e'→∀ w,Er H w e→Ay w e'
 | [],[],H,_,_=>⟨[],H,(Bq.nil H).mono (by omega),Lk.refl H,rfl,rfl,fun i p e h=>by simp at h,fun i e e' h=>by simp at h⟩
 | u::us,e::es,H,hl,hr=>by
  obtain ⟨e1,H1,a1,a2,a3,a4,a5,_⟩:=K9 (hr 0 u e rfl rfl)
  obtain ⟨es',H2,b1,b2,b3,b4,b5,b6⟩:=L2 us es H1 (by simpa using hl) fun i p e' h1 h2=>(hr (i+1) p e' (by simpa using h1) (by simpa using h2)).T6 a3.a
  refine ⟨e1::es',H2,(Bq.cons a1 b1).mono (by simp only [List.length_cons];omega),a3.trans b2,b3.trans a4,by simp [b4],fun i p e' h1 h2 => ?_,fun i f f' h1 h2 w hw => ?_⟩
  ·cases i with
   | zero=>simp at h1 h2;subst h1;subst h2;exact a2
   | succ i=>exact b5 i p e' (by simpa using h1) (by simpa using h2)
  ·cases i with
   | zero=>simp at h1 h2;subst h1;subst h2;exact a5 w hw
   | succ i=>exact b6 i f f' (by simpa using h1) (by simpa using h2) w (hw.T6 a3.a)
 | [],_::_,_,h,_=>by simp at h
 | _::_,[],_,h,_=>by simp at h
theorem PO {H:AE} {us:List TyV} {pv:AV} (h:Iy H us pv) (hl:us.length<1048577):(us=[]∧pv=.AI)∨∃ es' H',Am.snap CX pv H=some (.sl 3 false es',H')∧es'.length=us.length∧(∀ (i:Nat) p e,us[i]? = some p→es'[i]? = some e→Ay p e)∧Ext NoM H H'∧H'.length=H.length:=by
 rcases h with h | ⟨j,lk,es,g0,rfl,g2,g3,g4⟩
 ·exact .inl h
 ·refine .inr ?_
  have hb0:(Nat.beq es.length us.length&&Nat.beq 3 3&&Nat.ble (0+us.length) es.length)=true:=by
   rw [g3];simp [A2,A7]
  by_cases hnr:es.all AG=true
  ·have h6:BC 1 (.hs j us.length 3 0 us.length false) H (.sl 3 false es) (H.set j (.arr 3 true es)):=fun n=>by
    have hb:(Nat.beq es.length us.length&&Nat.beq 3 3&&Nat.ble (0+us.length) es.length&&es.all AG)=true:=by
     rw [hb0,hnr];rfl
    simp only [Am.snap,g2,hb]
    simp [← g3]
   refine ⟨es,_,h6.at (by decide),g3,fun i p e h1 h2 => ?_,(Lk.set g2).ext,by simp⟩
   obtain ⟨row',H',a1,a2,a3,a4,a5,a6⟩:=K9 (g4 i p e h1 h2)
   have:=(a6 (List.all_eq_true.1 hnr e (List.mem_of_getElem? h2))).1
   rw [← this];exact a2
  ·have hnf:es.all AG=false:=by simpa using hnr
   obtain ⟨es',H1,b1,b2,b3,b4,b5,b6⟩:=L2 us es H g3 g4
   have hb1:(Nat.beq es.length us.length&&Nat.beq 3 3&&Nat.ble (0+us.length) es.length&&es.all AG)=false:=by
    rw [hb0,hnf];rfl
   obtain ⟨lk1,hH1⟩:∃ lk1,H1[j]? = some (.arr 3 lk1 es):=by
    obtain ⟨B',c1,c2 | ⟨lk',es2,c2,c3⟩⟩:=b2 j _ g2
    ·exact ⟨lk,by rw [c1,c2]⟩
    ·cases c2;subst c3;exact ⟨true,c1⟩
   have h6:BC (8+es.length+1) (.hs j us.length 3 0 us.length false) H (.sl 3 false es') (H1.set j (.arr 3 true es')):=fun n=>by
    have hb2:(Nat.beq 3 3&&Nat.beq es.length es.length)=true:=by simp [A2]
    show Am.snap ((n+(8+es.length))+1) _ _=_
    simp only [Am.snap,g2,hb0,hnf,b1 n,hH1,hb2]
    simp [← b4,← g3,hb0,hnf]
   refine ⟨es',_,h6.at (by rw [g3];show _≤10000000;omega),b4.trans g3,b5,fun id B hid => ?_,by simp [b3]⟩
   by_cases e:id=j
   ·subst e
    rw [g2] at hid
    cases hid
    refine ⟨_,List.getElem?_set_self (List.getElem?_eq_some_iff.1 hH1).1,.inr (.inl ⟨lk,es,true,es',rfl,rfl,b4,fun i e e' h1 h2=>⟨fun u hu=>b6 i e e' h1 h2 u (hu.row H),fun u hu=>(b6 i e e' h1 h2 u hu).row _⟩⟩)⟩
   ·obtain ⟨B',c1,c2 | ⟨lk',es2,c2,c3⟩⟩:=b2 id B hid
    ·exact ⟨B',by rw [List.getElem?_set_ne (Ne.symm e)];exact c1,.inl c2⟩
    ·refine ⟨B',by rw [List.getElem?_set_ne (Ne.symm e)];exact c1,.inr (.inl ⟨lk',es2,true,es2,c2,c3,rfl,fun i f f' h1 h2 => ?_⟩)⟩
     rw [h1] at h2
     cases h2
     refine ⟨fun u hu=>hu,fun u hu=>hu.T6 fun id lk2 es3 h3 => ?_⟩
     by_cases e2:id=j
     ·subst e2
      rw [g2] at h3
      cases h3
      exact ⟨true,es',List.getElem?_set_self (List.getElem?_eq_some_iff.1 hH1).1,b4,fun i e e' h1 h2 u hu=>b6 i e e' h1 h2 u (hu.row H)⟩
     ·obtain ⟨lk4,es4,d1,d2⟩:=b2.a id lk2 es3 h3
      exact ⟨lk4,es4,by rw [List.getElem?_set_ne (Ne.symm e2)];exact d1,d2⟩
theorem Wa {H:AE} {us:List TyV} {pv:AV} (h:Iy H us pv) (hl:us.length<1048577):∃ r H1 X,AK MX (AH MX) 163 [pv] H=some (.ret r,H1++X)∧Ext NoM H H1∧H1.length=H.length∧ClnR us r X H.length:=by
 rcases PO h hl with ⟨rfl,rfl⟩ | ⟨es',H1,a1,a2,a3,a4,a5⟩
 ·obtain ⟨r,X,h1,h2⟩:=c163 (ps:=[]) (v:=.AI) (.inl ⟨rfl,rfl⟩) (by decide) H
  exact ⟨r,H,X,h1,Ext.refl H,rfl,h2⟩
 ·obtain ⟨r,X,h1,h2⟩:=c163 (ps:=us) (v:=.sl 3 false es') (.inr ⟨false,es',rfl,a2,a3⟩) hl H1
  have hnr:es'.all AG=true:=BR a2 a3 (fun a e h=>h.AG)
  refine ⟨r,H1,X,?_,a4,a5,by rw [← a5];exact h2⟩
  cases hp:pv.AD with
  | true=>
   rcases h with ⟨_,rfl⟩ | ⟨j,lk,es,_,rfl,_⟩
   ·simp [Am.snap] at a1
   ·simp [AV.AD] at hp
  | false=>
   exact Eo (by simp [JI]) (args':=[.sl 3 false es']) (by simp only [Ax,hp,a1]) (by simp only [List.all_cons,List.all_nil,AV.AD,hnr,Bool.and_self]) h1
theorem ClnR.row {us:List TyV} {r:AV} {X H:AE} {n:Nat} (h:ClnR us r X n) (hn:H.length=n) (nm:Bytes) (v:Int):Er (H++X) (.mk 0 v nm us) [.str nm,.int .i64 v,r]:=by
 refine ⟨rfl,r,rfl,?_⟩
 rcases h with ⟨rfl,rfl,rfl | rfl⟩ | ⟨es,h0,rfl,rfl,h1,h2⟩
 ·exact .inl (.inl ⟨rfl,rfl⟩)
 ·exact .inl (.inr ⟨true,[],rfl,rfl,fun i a e h=>by cases h⟩)
 ·exact .inr ⟨n,false,es,rfl,by rw [← hn];simp,h1,h2⟩
mutual
def Cx:Sh→List TyV
 | .bit n=>(List.range (2 ^ n.toNat)).map fun (i:Nat)=> .mk 0 (i:Int) [] []
 | .cons ns ss=>CK ns ss
def CK:List Bytes→List (List Sh)→List TyV
 | _,[]=>[]
 | ns,s::r=>(BN s).map (fun ps=> .mk 0 0 (ns.headD []) ps)++CK ns.tail r
def BN:List Sh→List (List TyV)
 | []=>[[]]
 | x::r=>(Cx x).flatMap fun v=>(BN r).map fun ps=>v::ps
end
section
variable {σ:Type}
def andThen (r:σ×Bool) (k:σ→σ×Bool):σ×Bool:=match r with
 | (b,true)=>k b
 | (b,false)=>(b,false)
theorem LN (r:σ×Bool) (k m:σ→σ×Bool):andThen (andThen r k) m=andThen r fun b=>andThen (k b) m:=by
 obtain ⟨b,c⟩:=r
 cases c <;> rfl
theorem JX (r:σ×Bool):andThen r (fun b=>(b,true))=r:=by
 obtain ⟨b,c⟩:=r
 cases c <;> rfl
def walk (f:σ→TyV→σ×Bool):σ→List TyV→σ×Bool
 | b,[]=>(b,true)
 | b,v::r=>andThen (f b v) fun b'=>walk f b' r
theorem HK (f:σ→TyV→σ×Bool):∀ (l m:List TyV) (b:σ),walk f b (l++m)=andThen (walk f b l) fun b'=>walk f b' m
 | [],m,b=>rfl
 | v::l,m,b=>by
  simp only [List.cons_append,walk,LN]
  congr 1
  funext b'
  exact HK f l m b'
theorem L3 (f:σ→TyV→σ×Bool) (g:TyV→List TyV):∀ (l:List TyV) (b:σ),walk f b (l.flatMap g)=walk (fun b v=>walk f b (g v)) b l
 | [],b=>rfl
 | v::l,b=>by
  simp only [List.flatMap_cons,HK,walk]
  congr 1
  funext b'
  exact L3 f g l b'
theorem RN (f:σ→TyV→σ×Bool) (l:List TyV) (i:Nat) (hi:i<l.length) (b b':σ) (h:walk f b (l.take i)=(b',true)):walk f b (l.take (i+1))=f b' l[i]:=by
 rw [← Cj hi,HK,h]
 show andThen (f b' l[i]) (fun b=>(b,true))=_
 exact JX _
theorem RP (f:σ→TyV→σ×Bool) (l:List TyV) (i:Nat) (b b':σ) (h:walk f b (l.take i)=(b',false)):walk f b l=(b',false):=by
 have e:=HK f (l.take i) (l.drop i) b
 rw [List.take_append_drop] at e
 rw [e,h]
 rfl
structure Con (g:FuncId) (cap:List AV) (M:Nat→Prop) (P:σ→AE→Prop) (f:σ→TyV→σ×Bool) (V:TyV→Prop):Prop where
 prim:MX.prim g=none
 mode:MX.mode g = { }
 call:∀ b H u row,P b H→Er H u row→V u→∃ H',AK MX (AH MX) g (.agg row::cap) H=some (.ret (.bool (f b u).2),H')∧P (f b u).1 H'∧Ext M H H'
 keep:∀ b H H',P b H→Ext NoM H H'→P b H'
end
theorem BA.ext:∀ (n:Nat) {M S:Nat→Prop} {H H':AE} {v:AV} {s:Sh},BA n S H v s→Ext M H H'→(∀ x,S x→¬ M x)→BA n S H' v s
 | 0,_,_,_,_,_,_,h,_,_=>h
 | n+1,M,S,H,H',v,.bit m,⟨id,h1,h2,h3⟩,x,hm=>⟨id,h1,h2,x.var h3 (hm id h2)⟩
 | n+1,M,S,H,H',v,.cons ns ss,⟨id,h1,h2,w,es,h3,h4,h5,h6,h7⟩,x,hm=>by
   refine ⟨id,h1,h2,w,es,x.var h3 (hm id h2),h4,h5,?_,fun k e nm parts a b c => ?_⟩
   ·rcases h6 with h | ⟨j,g1,g2,g3⟩
    ·exact .inl h
    ·exact .inr ⟨j,g1,g2,x.keep g3 (hm j g1) fun _ _ e=>by cases e⟩
   ·obtain ⟨pv,d1,d2⟩:=h7 k e nm parts a b c
    refine ⟨pv,d1,?_⟩
    rcases d2 with d2 | ⟨q,ptrs,c0,c1,c2,c3,c4,c5⟩
    ·exact .inl d2
    ·refine .inr ⟨q,ptrs,c0,c1,c2,x.keep c3 (hm q c1) (fun _ _ e=>by cases e),c4,fun k p s a b => ?_⟩
     obtain ⟨v,e1,e2⟩:=c5 k p s a b
     exact ⟨v,e1,BA.ext n e2 x hm⟩
theorem Gi.ext {n:Nat} {M S:Nat→Prop} {H H':AE} {pv:AV} {parts:List Sh} (h:Gi (BA n S H) S H pv parts) (x:Ext M H H') (hm:∀ x,S x→¬ M x):Gi (BA n S H') S H' pv parts:=by
 rcases h with d2 | ⟨q,ptrs,c0,c1,c2,c3,c4,c5⟩
 ·exact .inl d2
 ·refine .inr ⟨q,ptrs,c0,c1,c2,x.keep c3 (hm q c1) (fun _ _ e=>by cases e),c4,fun k p s a b => ?_⟩
  obtain ⟨v,e1,e2⟩:=c5 k p s a b
  exact ⟨v,e1,BA.ext n e2 x hm⟩
end Go.Proofs.Am12
namespace Go.Proofs.Am12
open Go Go.Am
attribute [local simp] Dq B8 EL Dr CS Ds Dt Ee BT BP Bb Ap Fy Ez D9 Gn D1 A4 El EA Gp Gq xUn Ej D2 E0 BF C7 BG D3 BH D4 Cb CV Bx BE EB EK
 ev evs C3 C4 OR.ofV OR.DQ OR.ofC E6 Tm.get Tm.init Tm.only A2 A7 CF finish B6 Cm Gm Db D0 unA CA Bg CB Bh Cp Cq Cr Bi Cs Ct Bj Cu Cv Bk CC AP CJ Bf Cn Co B9 Ef Eg Eh Du Dv FM Fa Fb FN stA A3 DE B7 C8 Ek GH CD DA CG E1 GI
set_option maxHeartbeats 1000000
attribute [local simp] DH CU CM Bl DI DJ DK DL DM DN DP ES Cy ET Df FC FD Ga Dg EU Dh BU Di BV Dj CP EV Cz FE FF FG C0 Dk Dl FH Gb FI Gc Gd Dm BW C1 CQ Dn Dp C2
section
variable {σ:Type} {g:FuncId} {cap:List AV} {M:Nat→Prop} {P:σ→AE→Prop} {f:σ→TyV→σ×Bool} {V:TyV→Prop}
theorem Yj (con:Con g cap M P f V) {n:Nat} {S:Nat→Prop} {H:AE} {v:AV} {m:Int} (hs:BA n S H v (.bit m)) (h0:1≤m) (h1:m≤16) (hm:∀ x,S x→¬ M x) (hV:∀ u∈Cx (.bit m),V u) {b:σ} (hP:P b H) :
  ∃ H',AK MX (AH MX) 64 [v,.fn g [] cap] H=some (.ret (.bool (walk f b (Cx (.bit m))).2),H')∧P (walk f b (Cx (.bit m))).1 H'∧Ext M H H':=by
 cases n with
 | zero=>exact absurd hs (fun h=>h)
 | succ n=>
  obtain ⟨id,rfl,hS,hid⟩:=hs
  have h116:=c116 hid (.inl ⟨rfl,rfl⟩) (es:=[])
  have hprim:=con.prim
  have hsl:=XO m h0 h1
  have hPb:2 ^ m.toNat≤65536:=Nat.le_trans (Nat.pow_le_pow_right (by decide) (show m.toNat≤16 by omega)) (by decide)
  have hlen:(Cx (.bit m)).length=2 ^ m.toNat:=by simp [Cx]
  have hel:∀ i (hi:i<(Cx (.bit m)).length),(Cx (.bit m))[i]=.mk 0 (i:Int) [] []:=fun i hi=>by simp [Cx]
  obtain ⟨L,hL⟩:∃ L,L=Cx (.bit m):=⟨_,rfl⟩
  rw [← hL] at hlen hel hV ⊢
  rw [← hlen] at hPb hsl
  obtain ⟨e,st,hlp,hq⟩:=AR (M:=MX) (fid:=64) (N:=38) (C:=AH MX) (c:=AP Tryz.f64 0) (n:=L.length)
   (fun i (c:σ×AE)=>([(1,.fn g [] cap),(14,.int .i64 L.length),(15,.int .i64 i)],c.2))
   (fun i c=>walk f b (L.take i)=(c.1,true)∧P c.1 c.2∧Ext M H c.2)
   (fun r=>∃ c:σ×AE,(r=(.ext 0,([(1,.fn g [] cap),(14,.int .i64 L.length),(15,.int .i64 L.length),(16,.bool false)],c.2))∧walk f b L=(c.1,true)∧P c.1 c.2∧Ext M H c.2)∨(r=(.ret,([(4,.bool false)],c.2))∧walk f b L=(c.1,false)∧P c.1 c.2∧Ext M H c.2)) (fun i c hi hI=>by
     obtain ⟨b',H1⟩:=c
     obtain ⟨i1,i2,i3⟩:=hI
     have hi':=Aa hi
     have hw:=AZ hi (show L.length<1048577 by omega)
     have hrow:Er H1 L[i] [.str [],.int .i64 i,.AI]:=by
      rw [hel i hi]
      exact ⟨rfl,_,rfl,.inl (.inl ⟨rfl,rfl⟩)⟩
     obtain ⟨H2,c1,c2,c3⟩:=con.call b' H1 L[i] _ i2 hrow (hV _ (List.getElem_mem hi))
     have hwt:=RN f L i hi b b' i1
     cases hf:(f b' L[i]).2 with
     | true=>
      rw [hf] at c1
      exact .inl ⟨((f b' L[i]).1,H2),by simp [Tryz.f64,hi',hprim,c1,hw],by rw [hwt,← hf],c2,i3.trans c3⟩
     | false=>
      rw [hf] at c1
      have hst:=RP f L (i+1) b (f b' L[i]).1 (by rw [hwt,← hf])
      exact .inr ⟨_,_,by simp [Tryz.f64,hi',hprim,c1] <;> first | exact ⟨rfl,rfl⟩ | rfl,by simp,((f b' L[i]).1,H2),.inr ⟨rfl,hst,c2,i3.trans c3⟩⟩) (fun c hI=>by
     obtain ⟨b',H1⟩:=c
     obtain ⟨i1,i2,i3⟩:=hI
     rw [List.take_length] at i1
     exact ⟨_,_,by simp [Tryz.f64] <;> first | exact ⟨rfl,rfl⟩ | rfl,by simp,(b',H1),.inl ⟨rfl,i1,i2,i3⟩⟩) (b,H) ⟨rfl,hP,Ext.refl H⟩
  simp [Tryz.f64] at hlp
  simp at h116
  obtain ⟨⟨b',H1⟩,hq⟩:=hq
  rcases hq with ⟨hq,hz,h2,h3⟩ | ⟨hq,hz,h2,h3⟩ <;> cases hq <;> rw [hz] <;>
   exact ⟨H1,Dy Pj SM (by simp [AN,Tryz.f64,h116,hid,hsl,hlp]),h2,h3⟩
end
theorem gc7 {R T:AE} {A B C:Blk}:(R++A::B::C::T)[R.length+2]? = some C:=by
 rw [List.getElem?_append_right (by omega)]
 simp
theorem row3 {H:AE} {u:TyV} {row:List AV} (h:Er H u row):∃ pv,row=[.str u.nm,.int .i64 u.v,pv]∧pv.cells=some [pv]:=by
 obtain ⟨_,pv,rfl,h | ⟨j,lk,es,rfl,_⟩⟩:=h
 ·exact ⟨pv,rfl,h.cells⟩
 ·exact ⟨_,rfl,rfl⟩
theorem Iy.cells {H:AE} {us:List TyV} {pv:AV} (h:Iy H us pv):pv.cells=some [pv]:=by
 rcases h with ⟨_,rfl⟩ | ⟨j,lk,es,_,rfl,_⟩ <;> rfl
theorem Iy.len {H:AE} {us:List TyV} {pv:AV} (h:Iy H us pv) (G:AE):Bu pv G=some (.val (.int .i64 us.length) G):=by
 rcases h with ⟨rfl,rfl⟩ | ⟨j,lk,es,_,rfl,_⟩ <;> rfl
theorem QP {T:AE} {us:List TyV} {pvv x:AV} {row:List AV} {es:List (List AV)} (hx:CE 3 x=true) (hxs:∀ b,x≠.str b) (hrd:Az T x=some [row]) (hp:(us=[]∧pvv=.AI∧es=[])∨∃ j lk,us≠[]∧pvv=.hs j us.length 3 0 us.length false∧T[j]? = some (.arr 3 lk es)∧es.length=us.length) (hus:us.length<1048577) :
  ∃ cl,IZ 3 [pvv]=some cl∧cl.cells=some [cl]∧apA 3 48 cl x T=some (.hs T.length (us.length+1) 3 0 (us.length+1) false,T++[.arr 3 false (es++[row])]):=by
 have s3:us.length+1≤17592186044416:=by omega
 have s4:(us.length+1) * 48≤17592186044416:=by omega
 have h0:∀ cl n,FQ cl=some n→apA 3 48 cl x T=apX 3 48 cl [row] n T:=fun cl n hl=>by
  unfold apA
  cases x with
  | str b=>exact absurd rfl (hxs b)
  | _=>simp only [hx,hrd,hl]
 rcases hp with ⟨rfl,rfl,rfl⟩ | ⟨j,lk,g0,rfl,g2,g3⟩
 ·refine ⟨.AI,rfl,rfl,?_⟩
  rw [h0 .AI 0 rfl]
  simp [apX,CE,BO,Av,A2,A7,CF]
 ·refine ⟨.hs j us.length 3 0 us.length true,rfl,rfl,?_⟩
  rw [h0 _ us.length rfl]
  have ht:List.take us.length es=es:=List.take_of_length_le (by omega)
  simp only [apX,g2]
  simp [CE,BO,Av,A2,A7,CF,g3,s3,s4,ht]
theorem md7 {G:AE} {x:Nat} (hx:x<G.length) (T T':AE):(x∈Ck 0 (G++T) (G++T'))=False:=E8 (by simp;omega) (by rw [List.getElem?_append_left hx,List.getElem?_append_left hx])
theorem Yk {G:AE} {a:Nat} {nm:Bytes} {cpv pvv:AV} {g:FuncId} {cap:List AV} {us:List TyV} {u:TyV} {row:List AV} (h1:G[a]? = some (.var false [.str nm,cpv])) (h2:G[a+1]? = some (.var false [pvv])) (h3:G[a+2]? = some (.var false [.fn g [] cap])) (hp:Iy G us pvv) (hr:Er G u row) (hus:us.length<1048577) :
  ∃ (es:List (List AV)) (T:AE),es.length=us.length∧(∀ (i:Nat) p e,us[i]? = some p→es[i]? = some e→Er G p e)∧∀ (c:Bool) (H':AE),AK MX (AH MX) 117 [.agg [.str nm,cpv],.hs (G.length+T.length) (us.length+1) 3 0 (us.length+1) false,.fn g [] cap] (G++(T++[.arr 3 false (es++[row])]))=some (.ret (.bool c),H') →
   AK MX (AH MX) 164 [.agg row,.hp a 0,.hp (a+1) 0,.hp (a+2) 0] G=some (.ret (.bool c),H'):=by
 obtain ⟨rv,rfl,hrc⟩:=row3 hr
 have hb:=Qz
 simp [BK,Be,Tryz.f164] at hb
 have l3:=(List.getElem?_eq_some_iff.1 h3).1
 have e1:∀ T,(G++T)[a]? = some (.var false [.str nm,cpv]):=fun T=>by rw [List.getElem?_append_left (by omega)];exact h1
 have e2:∀ T,(G++T)[a+1]? = some (.var false [pvv]):=fun T=>by rw [List.getElem?_append_left (by omega)];exact h2
 have e3:∀ T,(G++T)[a+2]? = some (.var false [.fn g [] cap]):=fun T=>by rw [List.getElem?_append_left (by omega)];exact h3
 have hpc:=hp.cells
 have p165:MX.prim 165=some (IZ 3):=rfl
 have m0:=md7 (G:=G) (x:=a) (by omega)
 have m2:=md7 (G:=G) (x:=a+2) (by omega)
 have n1:¬ (a=G.length+1):=by omega
 have n2:¬ (a=G.length):=by omega
 have n3:¬ (a+1=G.length):=by omega
 have n4:¬ (a+2=G.length+1):=by omega
 obtain ⟨es,hes,hrow,hpt⟩:∃ es:List (List AV),es.length=us.length∧(∀ (i:Nat) p e,us[i]? = some p→es[i]? = some e→Er G p e)∧∀ T,(us=[]∧pvv=.AI∧es=[])∨∃ j lk,us≠[]∧pvv=.hs j us.length 3 0 us.length false∧(G++T)[j]? = some (.arr 3 lk es)∧es.length=us.length:=by
  rcases hp with ⟨rfl,rfl⟩ | ⟨j,lk,es,g0,rfl,g2,g3,g4⟩
  ·exact ⟨[],rfl,fun i p e h=>by simp at h,fun T=> .inl ⟨rfl,rfl,rfl⟩⟩
  ·exact ⟨es,g3,g4,fun T=> .inr ⟨j,lk,g0,rfl,Al g2 T,g3⟩⟩
 cases hrn:rv.AD with
 | true=>
  refine ⟨es,[.var false [.str u.nm,.int .i64 u.v,rv]],hes,hrow,fun c H' hc=>Dy Km P0 ?_⟩
  obtain ⟨cl,k1,k2,k3⟩:=QP (T:=G++[.var false [.str u.nm,.int .i64 u.v,rv]]) (x:=.sl 3 true [[.str u.nm,.int .i64 u.v,rv]]) (row:=[.str u.nm,.int .i64 u.v,rv]) rfl (fun b h=>by cases h) rfl (hpt _) hus
  simp at hc k3
  simp [AN,Tryz.f164,e1,e2,e3,p165,k1,hb,k3,hrc,hpc,k2,hrn,bsA,Ak,List.replicate,Av,ga7,gb7,hc,AG,AV.AD,m0,m2]
 | false=>
  refine ⟨es,[.var false [.str u.nm,.int .i64 u.v,rv],.arr 3 false [[.str u.nm,.int .i64 u.v,rv]]],hes,hrow,fun c H' hc=>Dy Km P0 ?_⟩
  have hrd:Az (G++[.var false [.str u.nm,.int .i64 u.v,rv],.arr 3 false [[.str u.nm,.int .i64 u.v,rv]]]) (.hs (G.length+1) 1 3 0 1 false)=some [[.str u.nm,.int .i64 u.v,rv]]:=by
   simp only [Az,gb7];simp [A2,A7]
  obtain ⟨cl,k1,k2,k3⟩:=QP (T:=G++[.var false [.str u.nm,.int .i64 u.v,rv],.arr 3 false [[.str u.nm,.int .i64 u.v,rv]]]) (x:=.hs (G.length+1) 1 3 0 1 false) (row:=[.str u.nm,.int .i64 u.v,rv]) rfl (fun b h=>by cases h) hrd (hpt _) hus
  simp at hc k3
  simp [AN,Tryz.f164,e1,e2,e3,p165,k1,hb,k3,hrc,hpc,k2,hrn,bsA,Ak,List.replicate,Av,ga7,gb7,hc,AG,AV.AD,n1,n2,n3,n4,m0,m2]
theorem Wb {H:AE} {cpv pvv:AV} {g:FuncId} {cap:List AV} {us:List TyV} {xs:List Sh} {nm:Bytes} (hp:Iy H us pvv) (hcl:∀ G,Bu cpv G=some (.val (.int .i64 xs.length) G)) (hcc:cpv.cells=some [cpv]) (he:us.length=xs.length) (hus:us.length<1048577) (hprim:MX.prim g=none) (hmode:MX.mode g = { }) :
  ∃ r H1,Er H1 (.mk 0 0 nm us) [.str nm,.int .i64 0,r]∧Ext NoM H H1∧∀ (c:Bool) (H':AE),AK MX (AH MX) g (.agg [.str nm,.int .i64 0,r]::cap) H1=some (.ret (.bool c),H')→AK MX (AH MX) 117 [.agg [.str nm,cpv],pvv,.fn g [] cap] H=some (.ret (.bool c),H'):=by
 have hb:=Qt
 simp [BK,Be,Tryz.f117] at hb
 have hx:Ext NoM H (H++[.var false [.str nm,cpv],.var false [pvv],.var false [.fn g [] cap]]):=Ext.app _ _
 obtain ⟨r,H1,X,a1,a2,a3,a4⟩:=Wa (hp.ext hx) hus
 have hpc:=hp.cells
 have hpl:=hp.len
 have hrc:r.cells=some [r]:=by
  rcases a4 with ⟨_,_,rfl | rfl⟩ | ⟨es,_,rfl,_⟩ <;> rfl
 refine ⟨r,H1++X,a4.row a3 nm 0,(hx.trans a2).trans (Ext.app _ _),fun c H' hc=>Dy NO Pq ?_⟩
 have v0:(H1++X)[H.length]? = some (.var false [.str nm,cpv]):=(Ext.app H1 X).var (M:=NoM) (a2.var ga7 (fun h=>h)) (fun h=>h)
 have v2:(H1++X)[H.length+2]? = some (.var false [.fn g [] cap]):=(Ext.app H1 X).var (M:=NoM) (a2.var gc7 (fun h=>h)) (fun h=>h)
 have m0:(H.length∈Ck 0 (H++[.var false [.str nm,cpv],.var false [pvv],.var false [.fn g [] cap]]) (H1++X))=False:=E8 (by simp) (by rw [v0,ga7])
 have m2:(H.length+2∈Ck 0 (H++[.var false [.str nm,cpv],.var false [pvv],.var false [.fn g [] cap]]) (H1++X))=False:=E8 (by simp) (by rw [v2,gc7])
 simp [AN,Tryz.f117,hpl,hcl,he,a1,hb,hpc,hcc,hrc,hprim,hmode,hc,ga7,gb7,gc7,m0,m2,bsA,Ak,List.replicate]
theorem Wc {H:AE} {pvv v':AV} {g:FuncId} {cap:List AV} {us:List TyV} {q n:Nat} {ptrs:List (List AV)} {nm:Bytes} (hp:Iy H us pvv) (hq:H[q]? = some (.arr 1 false ptrs)) (hpl:ptrs.length=n) (he:us.length<n) (hn:n<1048577) (hv:ptrs[us.length]? = some [v']) :
  ∀ (c:Bool) (H':AE),AK MX (AH MX) 64 [v',.fn 164 [] [.hp H.length 0,.hp (H.length+1) 0,.hp (H.length+2) 0]] (H++[.var false [.str nm,.hs q n 1 0 n false],.var false [pvv],.var false [.fn g [] cap]])=some (.ret (.bool c),H') →
   AK MX (AH MX) 117 [.agg [.str nm,.hs q n 1 0 n false],pvv,.fn g [] cap] H=some (.ret (.bool c),H'):=fun c H' hc=>by
 have hpc:=hp.cells
 have hln:=hp.len
 have lq:=(List.getElem?_eq_some_iff.1 hq).1
 have hne:¬ (us.length=n):=by omega
 have hix:ixA 1 (.hs q n 1 0 n false) (.int .i64 (us.length:Int))=some (.ep q n 1 us.length 0):=by
  rw [A8 (kd:=.i64) (hi:=he),Nat.zero_add]
 have hrd:∀ T,(H++T)[q]? = some (.arr 1 false ptrs):=fun T=>Al hq T
 have hvv:ptrs[us.length]'(by omega)=[v']:=(List.getElem?_eq_some_iff.1 hv).2
 have hneI:((us.length:Int) == (n:Int))=false:=by rw [beq_eq_false_iff_ne];omega
 exact Dy NO Pq (by simp [AN,Tryz.f117,hln,hneI,hne,hpc,hix,hrd,hpl,he,hvv,hc,ga7,gb7,gc7])
inductive ShW:Sh→Prop
 | bit (m:Int) (h0:1≤m) (h1:m≤16):ShW (.bit m)
 | cons (ns:List Bytes) (ss:List (List Sh)) (h1:ss.length=ns.length) (h2:ns≠[]) (h3:ns.length<1048577) (h4:∀ s∈ss,s.length<1048577) (h5:∀ s∈ss,∀ x∈s,ShW x) (h6:ns.Nodup) (h7:∀ n∈ns,n.length<1048577):ShW (.cons ns ss)
def Ok64 (s:Sh):Prop:=∀ (σ:Type) (g:FuncId) (cap:List AV) (M:Nat→Prop) (P:σ→AE→Prop) (f:σ→TyV→σ×Bool) (V:TyV→Prop),Con g cap M P f V→∀ (n:Nat) (S:Nat→Prop) (H:AE) (v:AV) (b:σ),BA n S H v s→(∀ x,S x→¬ M x)→(∀ x,M x→x<H.length)→(∀ u∈Cx s,V u)→P b H →
 ∃ H',AK MX (AH MX) 64 [v,.fn g [] cap] H=some (.ret (.bool (walk f b (Cx s)).2),H')∧P (walk f b (Cx s)).1 H'∧Ext M H H'
section
variable {σ:Type} {g:FuncId} {cap:List AV} {M:Nat→Prop} {P:σ→AE→Prop} {f:σ→TyV→σ×Bool} {V:TyV→Prop}
theorem T7 (b:σ) (v:TyV):walk f b [v]=f b v:=JX _
theorem PQ {b b':σ} {l:List TyV} (h:walk f b l=(b',false)) (m:List TyV):walk f b (l++m)=(b',false):=by
 rw [HK,h];rfl
theorem c117 {xs:List Sh} (hok:∀ x∈xs,Ok64 x) (hxl:xs.length<1048577) (nm:Bytes) (con:Con g cap M P f V) {n:Nat} {S:Nat→Prop} (hS:∀ x,S x→¬ M x) :
  ∀ (j:Nat) (H:AE) (cpv:AV) (us:List TyV) (pvv:AV) (b:σ),us.length+j=xs.length→Gi (BA n S H) S H cpv xs→Iy H us pvv→(∀ x,M x→x<H.length)→(∀ ps∈BN (xs.drop us.length),V (.mk 0 0 nm (us++ps)))→P b H →
   ∃ H',AK MX (AH MX) 117 [.agg [.str nm,cpv],pvv,.fn g [] cap] H=some (.ret (.bool (walk f b ((BN (xs.drop us.length)).map fun ps=> .mk 0 0 nm (us++ps))).2),H')∧P (walk f b ((BN (xs.drop us.length)).map fun ps=> .mk 0 0 nm (us++ps))).1 H'∧Ext M H H':=by
 intro j
 induction j with
 | zero=>
  intro H cpv us pvv b hj hpt hps hM hV hP
  have hj:us.length=xs.length:=by omega
  have hd:xs.drop us.length=[]:=by rw [hj];simp
  rw [hd] at hV ⊢
  have hV:=hV [] (by simp [BN])
  have hlist:(BN []).map (fun ps=>TyV.mk 0 0 nm (us++ps))=[.mk 0 0 nm us]:=by simp [BN]
  rw [hlist,T7]
  rw [List.append_nil] at hV
  obtain ⟨l1,_,l3⟩:=hpt.len
  obtain ⟨r,H1,a1,a2,a3⟩:=Wb (nm:=nm) (cap:=cap) hps l1 l3 hj (by omega) con.prim con.mode
  obtain ⟨H',c1,c2,c3⟩:=con.call b H1 _ _ (con.keep b H H1 hP a2) a1 hV
  exact ⟨H',a3 _ _ c1,c2,a2.any.trans c3⟩
 | succ j ih=>
  intro H cpv us pvv b hj hpt hps hM hV hP
  have hlt:us.length<xs.length:=by omega
  have hpt0:=hpt
  rcases hpt with ⟨h0,_⟩ | ⟨q,ptrs,h0,hSq,rfl,hq,hpl,hall⟩
  ·rw [h0] at hlt;simp at hlt
  have hx:=List.getElem?_eq_getElem hlt
  have hp':=List.getElem?_eq_getElem (l:=ptrs) (i:=us.length) (by omega)
  obtain ⟨v',e1,hv'⟩:=hall us.length _ _ hp' hx
  rw [e1] at hp'
  have hrun:=Wc (g:=g) (cap:=cap) (nm:=nm) hps hq hpl hlt hxl hp'
  rw [List.drop_eq_getElem_cons hlt] at hV ⊢
  let B3:=Blk.var false [.str nm,.hs q xs.length 1 0 xs.length false]
  let B4:=Blk.var false [pvv]
  let B5:=Blk.var false [.fn g [] cap]
  let f1:σ→TyV→σ×Bool:=fun c u=>walk f c ((BN (xs.drop (us.length+1))).map fun ps=> .mk 0 0 nm (us++u::ps))
  let V1:TyV→Prop:=fun u=>∀ ps∈BN (xs.drop (us.length+1)),V (.mk 0 0 nm (us++u::ps))
  let P1:σ→AE→Prop:=fun c G=>P c G∧G[H.length]? = some B3∧G[H.length+1]? = some B4∧G[H.length+2]? = some B5∧Iy G us pvv∧Gi (BA n S G) S G (.hs q xs.length 1 0 xs.length false) xs
  have con1:Con 164 [.hp H.length 0,.hp (H.length+1) 0,.hp (H.length+2) 0] M P1 f1 V1:=by
   refine ⟨rfl,Km,fun c G u row hP1 hrow hV1 => ?_,fun c G G' hP1 hext => ?_⟩
   ·obtain ⟨p1,p2,p3,p4,p5,p6⟩:=hP1
    have lG:=(List.getElem?_eq_some_iff.1 p4).1
    obtain ⟨es,T,hes,hrows,hcall⟩:=Yk p2 p3 p4 p5 hrow (by omega)
    have hG:Ext NoM G (G++(T++[.arr 3 false (es++[row])])):=Ext.app _ _
    have hlu:(us++[u]).length=us.length+1:=by simp
    have hps':Iy (G++(T++[.arr 3 false (es++[row])])) (us++[u]) (.hs (G.length+T.length) (us.length+1) 3 0 (us.length+1) false):=by
     refine .inr ⟨G.length+T.length,false,es++[row],by simp,by rw [hlu],?_,by simp [hes],fun i p e a1 a2 => ?_⟩
     ·rw [← List.append_assoc,← List.length_append];exact Ce _ _
     ·by_cases hi:i<us.length
      ·rw [List.getElem?_append_left hi] at a1
       rw [List.getElem?_append_left (by omega)] at a2
       exact (hrows i p e a1 a2).ext hG
      ·have hi2:i=us.length:=by
        have:=(List.getElem?_eq_some_iff.1 a1).1
        rw [hlu] at this
        omega
       subst hi2
       rw [List.getElem?_append_right (by omega),Nat.sub_self] at a1
       rw [List.getElem?_append_right (by omega),hes,Nat.sub_self] at a2
       simp at a1 a2
       subst a1;subst a2
       exact hrow.ext hG
    obtain ⟨H',c1,c2,c3⟩:=ih (G++(T++[.arr 3 false (es++[row])])) _ (us++[u]) _ c (by rw [hlu];omega) (p6.ext hG (fun x _ h=>h)) hps' (fun x hx=>by have:=hM x hx;rw [List.length_append];omega) (by
     intro ps hps
     rw [hlu] at hps
     have:=hV1 ps hps
     rw [List.append_assoc]
     exact this) (con.keep c G _ p1 hG)
    rw [hlu] at c1 c2
    have hl2:((BN (xs.drop (us.length+1))).map fun ps=>TyV.mk 0 0 nm (us++[u]++ps))=(BN (xs.drop (us.length+1))).map fun ps=> .mk 0 0 nm (us++u::ps):=by
     apply List.map_congr_left
     intro ps _
     rw [List.append_assoc]
     rfl
    rw [hl2] at c1 c2
    have hx':=hG.any.trans c3
    have nl:∀ k,k<3→¬ M (H.length+k):=fun k _ h=>by have:=hM _ h;omega
    refine ⟨H',hcall _ _ c1,⟨c2,hx'.var p2 (nl 0 (by decide)),hx'.var p3 (nl 1 (by decide)),hx'.var p4 (nl 2 (by decide)),p5.ext hx',p6.ext hx' hS⟩,hx'⟩
   ·obtain ⟨p1,p2,p3,p4,p5,p6⟩:=hP1
    exact ⟨con.keep c G G' p1 hext,hext.var p2 (fun h=>h),hext.var p3 (fun h=>h),hext.var p4 (fun h=>h),p5.ext hext,p6.ext hext (fun x _ h=>h)⟩
  have hx0:Ext NoM H (H++[B3,B4,B5]):=Ext.app _ _
  have hP1:P1 b (H++[B3,B4,B5]):=⟨con.keep b H _ hP hx0,ga7,gb7,gc7,hps.ext hx0,hpt0.ext hx0 (fun x _ h=>h)⟩
  obtain ⟨H',c1,c2,c3⟩:=hok _ (List.getElem_mem hlt) σ 164 _ M P1 f1 V1 con1 n S _ v' b (BA.ext n hv' hx0 (fun x _ h=>h)) hS (fun x hx=>by have:=hM x hx;rw [List.length_append];omega) (fun u hu ps hps=>hV (u::ps) (by
   simp only [BN,List.mem_flatMap,List.mem_map]
   exact ⟨u,hu,ps,hps,rfl⟩)) hP1
  have hw:walk f b ((BN (xs[us.length]::xs.drop (us.length+1))).map fun ps=> .mk 0 0 nm (us++ps))=walk f1 b (Cx xs[us.length]):=by
   have:((BN (xs[us.length]::xs.drop (us.length+1))).map fun ps=>TyV.mk 0 0 nm (us++ps))=(Cx xs[us.length]).flatMap fun v=>(BN (xs.drop (us.length+1))).map fun ps=> .mk 0 0 nm (us++v::ps):=by
    simp only [BN,List.map_flatMap,List.map_map]
    rfl
   rw [this,L3]
  rw [hw]
  exact ⟨H',hrun _ _ c1,c2.1,hx0.any.trans c3⟩
end
theorem F7:∀ (i:Nat) (ns:List Bytes) (ss:List (List Sh)),CK ns ss=CK (ns.take i) (ss.take i)++CK (ns.drop i) (ss.drop i)
 | 0,ns,ss=>by simp [CK]
 | i+1,ns,[]=>by simp [CK]
 | i+1,[],s::ss=>by
  have:=F7 i [] ss
  simp only [List.take_nil,List.drop_nil] at this
  simp only [List.take_nil,List.drop_nil,List.take_succ_cons,List.drop_succ_cons,CK,List.append_assoc,List.tail_nil]
  rw [this]
 | i+1,n::ns,s::ss=>by
  simp only [List.take_succ_cons,List.drop_succ_cons,CK,List.append_assoc,List.tail_cons,List.headD_cons]
  rw [← F7 i ns ss]
theorem LA {ns:List Bytes} {ss:List (List Sh)} {i:Nat} (h1:i<ns.length) (h2:i<ss.length):CK (ns.take (i+1)) (ss.take (i+1))=CK (ns.take i) (ss.take i)++(BN ss[i]).map fun ps=> .mk 0 0 ns[i] ps:=by
 rw [F7 i (ns.take (i+1)) (ss.take (i+1))]
 rw [List.take_take,List.take_take,Nat.min_eq_left (Nat.le_succ i)]
 congr 1
 have e1:(ns.take (i+1)).drop i=[ns[i]]:=by
  rw [List.drop_take,List.drop_eq_getElem_cons h1,show i+1 - i=1 by omega]
  rfl
 have e2:(ss.take (i+1)).drop i=[ss[i]]:=by
  rw [List.drop_take,List.drop_eq_getElem_cons h2,show i+1 - i=1 by omega]
  rfl
 rw [e1,e2]
 simp [CK]
theorem Yl {ns:List Bytes} {ss:List (List Sh)} (h1:ss.length=ns.length) (h2:ns≠[]) (h3:ns.length<1048577) (h4:∀ s∈ss,s.length<1048577) (hok:∀ s∈ss,∀ x∈s,Ok64 x):Ok64 (.cons ns ss):=by
 intro σ g cap M P f V con n S H v b hs hS hM hV hP
 cases n with
 | zero=>exact absurd hs (fun h=>h)
 | succ n=>
  have hs0:=hs
  obtain ⟨id,rfl,hSid,w,es,hid,hel,hsl,hw,hrow⟩:=hs
  have hwv:∀ G,Ext M H G→WV G w es:=fun G x=>by
   rcases hw with rfl | ⟨j,hj,rfl,hj2⟩
   ·exact .inr (.inl rfl)
   ·exact .inr (.inr ⟨j,rfl,x.keep hj2 (hS j hj) fun _ _ e=>by cases e⟩)
  have h116:=c116 hid (hwv H (Ext.refl H))
  have hne:¬ (es.length=0):=by rw [hel];intro h;exact h2 (List.eq_nil_of_length_eq_zero h)
  have heb:(es.length == 0)=false:=by simpa using hne
  have hwc:=(hwv H (Ext.refl H)).cells
  have hwl:=(hwv H (Ext.refl H)).len
  have hVc:∀ u∈CK ns ss,V u:=hV
  obtain ⟨e,st,hlp,hq⟩:=AR (M:=MX) (fid:=64) (N:=38) (C:=AH MX) (c:=AP Tryz.f64 1) (n:=es.length)
   (fun i (c:σ×AE)=>([(1,.fn g [] cap),(27,w),(28,.int .i64 es.length),(29,.int .i64 i)],c.2))
   (fun i c=>walk f b (CK (ns.take i) (ss.take i))=(c.1,true)∧P c.1 c.2∧Ext M H c.2)
   (fun r=>∃ c:σ×AE,(r=(.ext 2,([(1,.fn g [] cap),(27,w),(28,.int .i64 es.length),(29,.int .i64 es.length),(30,.bool false)],c.2))∧walk f b (CK ns ss)=(c.1,true)∧P c.1 c.2∧Ext M H c.2)∨(r=(.ret,([(4,.bool false)],c.2))∧walk f b (CK ns ss)=(c.1,false)∧P c.1 c.2∧Ext M H c.2)) (fun i c hi hI=>by
     obtain ⟨b',H1⟩:=c
     obtain ⟨i1,i2,i3⟩:=hI
     simp only at i1 i2 i3
     have hi':=Aa hi
     have hwr:=AZ hi (show es.length<1048577 by omega)
     have hin:i<ns.length:=by omega
     have his:i<ss.length:=by omega
     obtain ⟨pv,he,hpt⟩:=hrow i es[i] ns[i] ss[i] (List.getElem?_eq_getElem hi) (List.getElem?_eq_getElem hin) (List.getElem?_eq_getElem his)
     have hpt1:=hpt.ext i3 hS
     obtain ⟨_,_,hpc⟩:=hpt.len
     obtain ⟨p,hix,hrd⟩:=(hwv H1 i3).row hi
     have hrd0:=hrd []
     rw [List.append_nil,he] at hrd0
     have hX:Ext NoM H1 (H1++[.var false [.str ns[i],pv]]):=Ext.app _ _
     have hmem:=List.getElem_mem his
     have hsub:∀ ps∈BN ss[i],V (.mk 0 0 ns[i] ps):=fun ps hps=>hVc _ (by
      rw [F7 (i+1) ns ss,LA hin his]
      simp only [List.mem_append,List.mem_map]
      exact .inl (.inr ⟨ps,hps,rfl⟩))
     obtain ⟨H2,c1,c2,c3⟩:=c117 (hok _ hmem) (h4 _ hmem) ns[i] con hS ss[i].length (H1++[.var false [.str ns[i],pv]]) pv [] .AI b' (by simp) (hpt1.ext hX (fun x _ h=>h)) (.inl ⟨rfl,rfl⟩) (fun x hx=>by have:=hM x hx;have:=i3.len;simp;omega) (by simpa using hsub) (con.keep b' H1 _ i2 hX)
     have hseg:((BN (ss[i].drop ([]:List TyV).length)).map fun ps=>TyV.mk 0 0 ns[i] ([]++ps))=(BN ss[i]).map fun ps=> .mk 0 0 ns[i] ps:=rfl
     rw [hseg] at c1 c2
     have hnext:walk f b (CK (ns.take (i+1)) (ss.take (i+1)))=walk f b' ((BN ss[i]).map fun ps=> .mk 0 0 ns[i] ps):=by
      rw [LA hin his,HK,i1];rfl
     have hx':=i3.trans (hX.any.trans c3)
     cases hf:(walk f b' ((BN ss[i]).map fun ps=>TyV.mk 0 0 ns[i] ps)).2 with
     | true=>
      rw [hf] at c1
      exact .inl ⟨((walk f b' ((BN ss[i]).map fun ps=>TyV.mk 0 0 ns[i] ps)).1,H2),by simp [Tryz.f64,hi',hix,hrd0,hpc,c1,hwr,bsA,Ak,List.replicate],by rw [hnext,← hf],c2,hx'⟩
     | false=>
      rw [hf] at c1
      have hst:=PQ (show walk f b (CK (ns.take (i+1)) (ss.take (i+1)))=((walk f b' ((BN ss[i]).map fun ps=>TyV.mk 0 0 ns[i] ps)).1,false) by rw [hnext,← hf]) (CK (ns.drop (i+1)) (ss.drop (i+1)))
      rw [← F7] at hst
      exact .inr ⟨_,_,by simp [Tryz.f64,hi',hix,hrd0,hpc,c1,bsA,Ak,List.replicate] <;> first | exact ⟨rfl,rfl⟩ | rfl,by simp,((walk f b' ((BN ss[i]).map fun ps=>TyV.mk 0 0 ns[i] ps)).1,H2),.inr ⟨rfl,hst,c2,hx'⟩⟩) (fun c hI=>by
     obtain ⟨b',H1⟩:=c
     obtain ⟨i1,i2,i3⟩:=hI
     simp only at i1 i2 i3
     rw [List.take_of_length_le (by omega),List.take_of_length_le (by omega)] at i1
     exact ⟨_,_,by simp [Tryz.f64] <;> first | exact ⟨rfl,rfl⟩ | rfl,by simp,(b',H1),.inl ⟨rfl,i1,i2,i3⟩⟩) (b,H) ⟨by simp [CK,walk],hP,Ext.refl H⟩
  simp [Tryz.f64] at hlp
  rw [heb] at h116
  have hall:Cx (.cons ns ss)=CK ns ss:=by simp [Cx]
  rw [hall]
  obtain ⟨⟨b',H1⟩,hq⟩:=hq
  rcases hq with ⟨hq,hz,g2,g3⟩ | ⟨hq,hz,g2,g3⟩ <;> cases hq <;> rw [hz] <;>
   exact ⟨H1,Dy Pj SM (by simp [AN,Tryz.f64,h116,hid,hwc,hwl,hlp]),g2,g3⟩
theorem c64 {s:Sh} (h:ShW s):Ok64 s:=by
 induction h with
 | bit m h0 h1=>
  intro σ g cap M P f V con n S H v b hs hS hM hV hP
  exact Yj con hs h0 h1 hS hV hP
 | cons ns ss h1 h2 h3 h4 h5 h6 h7 ih=>exact Yl h1 h2 h3 h4 ih
end Go.Proofs.Am12
namespace Go.Proofs.Am12
open Go Go.Am
theorem N8 {l:List AO} {params:List Bytes}:∀ (r prev:List Bm),EZ l params prev r=0→(r.map (·.nm)).Nodup∧∀ c∈r,∀ g∈prev,g.nm≠c.nm
 | [],_,_=>⟨List.nodup_nil,fun f hf=>by cases hf⟩
 | c::r,prev,h=>by
  simp only [EZ] at h
  split at h
  ·cases h
  ·split at h
   ·cases h
   ·split at h
    ·cases h
    ·rename_i h0
     split at h
     ·cases h
     ·split at h
      ·cases h
      ·split at h
       ·obtain ⟨g1,g2⟩:=N8 r _ h
        have hc:∀ g∈prev,g.nm≠c.nm:=fun g hg e=>by
         apply h0
         rw [List.findIdx?_isSome,List.any_eq_true]
         exact ⟨g,hg,by simp [e]⟩
        refine ⟨?_,fun d hd => ?_⟩
        ·rw [List.map_cons,List.nodup_cons]
         refine ⟨fun hm => ?_,g1⟩
         obtain ⟨d,hd,e⟩:=List.mem_map.1 hm
         exact g2 d hd c (by simp) e.symm
        ·rcases List.mem_cons.1 hd with rfl | hd
         ·exact hc
         ·exact fun g hg=>g2 d hd g (by simp [hg])
       ·rename_i h3;exact absurd h h3
theorem T8 {l:List AO} (h:(Au l).2=0):∀ d∈l,(d.cons.map (·.nm)).Nodup:=by
 intro d hd
 have h1:∃ pre,BL d pre=0:=by
  unfold Au at h
  split at h
  ·cases h
  ·obtain ⟨pre,post,e,he⟩:=HF l [] h d hd
   exact ⟨pre,he⟩
 obtain ⟨pre,h1⟩:=h1
 have h2:EZ pre d.params [] d.cons=0:=by
  unfold BL at h1
  repeat (split at h1;first | cases h1 | skip)
  ·exact h1
  ·rename_i h3;exact absurd h1 h3
 exact (N8 _ _ h2).1
theorem RQ {l:List AO} (h:(Au l).2=0) (t:TyV):((AQ l t).map (·.nm)).Nodup:=by
 unfold AQ
 split
 ·simp only [List.map_cons,List.map_nil]
  decide
 ·split
  ·rename_i i hi
   have hil:=F3 hi
   have hg:l.getD i default=l[i]:=by simp [hil]
   rw [hg,List.map_map]
   exact T8 h _ (List.getElem_mem hil)
  ·exact List.nodup_nil
theorem PR {l:List AO} (h:(Au l).2=0) (hsl:SmL 1048577 l) {t:TyV} {s:Sh} (hs:Cw l t s):VT l t→Sm 1048577 t→ShW s:=by
 have hd:=HX h
 induction hs with
 | bit t hb hw h2=>exact fun _ _=> .bit _ hw.1 hw.2
 | cons t ns ss hb hk hn hl hsp hf ih=>
  intro hv hst
  obtain ⟨c1,c2,c3⟩:=hd.con t hv hk hb
  have hsm:=Ev hsl hst (by decide)
  have hlen:ns.length=(AQ l t).length:=by rw [hn,List.length_map]
  refine .cons ns ss (hl.trans hlen.symm) (fun e=>c2 (List.eq_nil_of_length_eq_zero (by rw [← hlen,e];rfl))) (by omega) (fun s hs => ?_) (fun s hs x hx => ?_) (by rw [hn];exact RQ h t) (fun n hnm => ?_)
  ·obtain ⟨i,hi,rfl⟩:=List.getElem_of_mem hs
   rw [hsp i _ _ (List.getElem?_eq_getElem (by omega)) (List.getElem?_eq_getElem hi)]
   have:=c3 _ (List.getElem_mem (show i<(AQ l t).length by omega))
   omega
  ·obtain ⟨i,hi,rfl⟩:=List.getElem_of_mem hs
   obtain ⟨j,hj,rfl⟩:=List.getElem_of_mem hx
   have hci:=List.getElem?_eq_getElem (l:=AQ l t) (i:=i) (by omega)
   have hfl:=hsp i _ _ hci (List.getElem?_eq_getElem hi)
   have hfj:=List.getElem?_eq_getElem (l:=((AQ l t)[i]'(by omega)).fields) (i:=j) (by omega)
   have hcm:=List.getElem_mem (show i<(AQ l t).length by omega)
   have hfm:=List.mem_of_getElem? hfj
   exact ih i _ _ j _ _ hci (List.getElem?_eq_getElem hi) hfj (List.getElem?_eq_getElem hj) (hd.dok.fld t hv hk hb _ hcm _ hfm) ((hsm.2 _ hcm).2.2 _ hfm).2
  ·rw [hn] at hnm
   obtain ⟨c,hc,rfl⟩:=List.mem_map.1 hnm
   exact (hsm.2 c hc).1
theorem IM:∀ (xs:List Sh) (ps:List TyV),ps∈BN xs→ps.length=xs.length∧∀ (j:Nat) x p,xs[j]? = some x→ps[j]? = some p→p∈Cx x
 | [],ps,h=>by
  simp [BN] at h
  subst h
  exact ⟨rfl,fun j x p h=>by simp at h⟩
 | x::r,ps,h=>by
  simp only [BN,List.mem_flatMap,List.mem_map] at h
  obtain ⟨v,hv,qs,hq,rfl⟩:=h
  obtain ⟨h1,h2⟩:=IM r qs hq
  refine ⟨by simp [h1],fun j y p a b => ?_⟩
  cases j with
  | zero=>simp at a b;subst a;subst b;exact hv
  | succ j=>exact h2 j y p (by simpa using a) (by simpa using b)
theorem Ji:∀ (ns:List Bytes) (ss:List (List Sh)) (u:TyV),ss.length=ns.length→u∈CK ns ss→∃ i,∃ (h1:i<ns.length) (h2:i<ss.length),∃ ps∈BN ss[i],u=.mk 0 0 ns[i] ps
 | _,[],u,_,h=>by simp [CK] at h
 | [],_::_,u,h,_=>by simp at h
 | n::ns,s::ss,u,hl,h=>by
  simp only [CK,List.headD_cons,List.tail_cons,List.mem_append,List.mem_map] at h
  rcases h with ⟨ps,hps,rfl⟩ | h
  ·exact ⟨0,by simp,by simp,ps,hps,rfl⟩
  ·obtain ⟨i,h1,h2,ps,hps,rfl⟩:=Ji ns ss u (by simpa using hl) h
   exact ⟨i+1,by simpa using h1,by simpa using h2,ps,by simpa using hps,by simp⟩
theorem Mm {s:Sh} (h:ShW s):∀ u∈Cx s,HJ s u=0∧Sm 1048577 u∧u.k=0:=by
 induction h with
 | bit m h0 h1=>
  intro u hu
  simp only [Cx,List.mem_map,List.mem_range] at hu
  obtain ⟨i,hi,rfl⟩:=hu
  refine ⟨?_,.mk _ _ _ _ (by decide) (by decide) (fun p hp=>by cases hp),rfl⟩
  have hpos:0<2 ^ m.toNat:=Nat.pow_pos (by decide)
  simp only [HJ]
  rw [if_pos ⟨rfl,rfl⟩,if_pos ⟨by omega,by omega⟩]
 | cons ns ss h1 h2 h3 h4 h5 h6 h7 ih=>
  intro u hu
  have hu:u∈CK ns ss:=hu
  obtain ⟨i,g1,g2,ps,hps,rfl⟩:=Ji ns ss u h1 hu
  obtain ⟨p1,p2⟩:=IM _ _ hps
  have hmem:=List.getElem_mem g2
  have hfi:ns.findIdx? (fun x=>x == ns[i])=some i:=by
   rw [List.findIdx?_eq_some_iff_getElem]
   refine ⟨g1,by simp,fun j hj => ?_⟩
   simp only [Bool.not_eq_true,beq_eq_false_iff_ne]
   exact (List.pairwise_iff_getElem.1 h6) j i (by omega) g1 hj
  have hgd:ss.getD i []=ss[i]:=by simp [g2]
  have hsub:∀ (j:Nat) x p,ss[i][j]? = some x→ps[j]? = some p→HJ x p=0∧Sm 1048577 p∧p.k=0:=fun j x p a b=>ih _ hmem x (List.mem_of_getElem? a) p (p2 j x p a b)
  refine ⟨?_,.mk _ _ _ _ (h7 _ (List.getElem_mem g1)) (by rw [p1];exact h4 _ hmem) (fun p hp => ?_),rfl⟩
  ·simp only [HJ,hfi,hgd]
   rw [if_neg (by simp),if_neg (by rw [p1];simp)]
   exact (Ix p1).2 fun j x p a b=>(hsub j x p a b).1
  ·obtain ⟨j,hj,rfl⟩:=List.getElem_of_mem hp
   exact (hsub j _ _ (List.getElem?_eq_getElem (by omega)) (List.getElem?_eq_getElem hj)).2.1
end Go.Proofs.Am12
namespace Go.Proofs.Am12
open Go Go.Am
attribute [local simp] Dq B8 EL Dr CS Ds Dt Ee BT BP Bb Ap Fy Ez D9 Gn D1 A4 El EA Gp Gq xUn Ej D2 E0 BF C7 BG D3 BH D4 Cb CV Bx BE EB EK
 ev evs C3 C4 OR.ofV OR.DQ OR.ofC E6 Tm.get Tm.init Tm.only A2 A7 CF finish B6 Cm Gm Db D0 unA CA Bg CB Bh Cp Cq Cr Bi Cs Ct Bj Cu Cv Bk CC AP CJ Bf Cn Co B9 Ef Eg Eh Du Dv FM Fa Fb FN stA A3 DE B7 C8 Ek GH CD DA CG E1 GI
set_option maxHeartbeats 1000000
attribute [local simp] DH CU CM Bl DI DJ DK DL DM DN DP ES Cy ET Df FC FD Ga Dg EU Dh BU Di BV Dj CP EV Cz FE FF FG C0 Dk Dl FH Gb FI Gc Gd Dm BW C1 CQ Dn Dp C2
theorem T9 {H:AE} {u:TyV} {row:List AV} (hr:Er H u row):∃ row' H',Ay u row'∧Ext NoM H H'∧H'.length=H.length∧∀ (f:FuncId) (pre:List AV) (r:CR×AE),(MX.mode f).fresh=true→pre.all AV.AD=true→AK MX (AH MX) f (pre++[.agg row']) H'=some r→AK MX (AH MX) f (pre++[.agg row]) H=some r:=by
 obtain ⟨row',H',a1,a2,a3,a4,a5,a6⟩:=K9 hr
 have happ:∀ (pre:List AV),pre.all AV.AD=true→∀ (x:AV) (G:AE),Ax (pre++[x]) G=(Ax [x] G).map fun q=>(pre++q.1,q.2):=by
  intro pre
  induction pre with
  | nil=>intro _ x G;cases h:Ax [x] G <;> simp [h]
  | cons a r ih=>
   intro hn x G
   simp only [List.all_cons,Bool.and_eq_true] at hn
   rw [List.cons_append,Ax,hn.1]
   simp only [ih hn.2]
   cases h:Ax [x] G <;> simp
 refine ⟨row',H',a2,a3.ext,a4,fun f pre r hm hp hc => ?_⟩
 cases hn:AG row with
 | true=>
  obtain ⟨rfl,rfl⟩:=a6 hn
  exact hc
 | false=>
  have hs:snap CX (.agg row) H=some (.agg row',H'):=(BC.agg hn a1).at (by decide)
  have hx:Ax [.agg row] H=some ([.agg row'],H'):=by
   simp only [Ax,AV.AD,hn,hs]
  refine Eo hm (by rw [happ pre hp,hx];rfl) ?_ hc
  rw [List.all_append,hp]
  simp [AV.AD,a2.AG]
abbrev tcs (k:Dx) (dv pv av:AV):List AV:=[dv,.int .i64 k.ty.k,.int .i64 k.ty.v,.str k.ty.nm,pv,av]
abbrev VS (s:Sh) (u:TyV):Prop:=HJ s u=0∧Sm 1048577 u∧u.k=0
section
variable {k:Dx} {dv pv av:AV} (ha:SlR AU 4 k.arms av) (hal:k.arms.length<1048577) (has:∀ p∈k.arms,Sm 1048577 p) {s:Sh} (hpe:∀ p∈k.arms,Ch s p=0) (t:Nat)
include ha hal has hpe
end
theorem LB {k:Dx} (hsk:SmT 1048577 k) (h:(Aq k.data k.ty k.arms).2=0):ShW (CY k.data k.ty)∧Cw k.data k.ty (CY k.data k.ty)∧VT k.data k.ty∧(Au k.data).2=0:=by
 have h1:DD k.data k.ty=0:=by
  unfold Aq at h
  split at h
  ·rename_i h1;exact h1
  ·exact h
 obtain ⟨a,b,c⟩:=Gf h1
 exact ⟨PR a hsk.1 c b hsk.2.1,c,b,a⟩
section
variable {k:Dx} {xs:List AV} (hx:DS k xs) (hsk:SmT 1048577 k)
include hx hsk
theorem RR (h:(Aq k.data k.ty k.arms).2=0):∀ p∈k.arms,Ch (CY k.data k.ty) p=0:=fun p hp=>
 (RM ((JW h).2.2.2 p hp)).2.1
end
abbrev UA (k:Dx) (u:TyV):Option Nat:=k.arms.findIdx? fun p=>DX p u
section
variable {k:Dx} {xs:List AV} (hx:DS k xs) (hsk:SmT 1048577 k)
include hx hsk
end
def HZ (n:Int) (xs:List AV):Prop:=xs=[.int .i64 n]
theorem RS (n:Int) (xs:List AV) (h:HZ n xs):AG xs=true:=by subst h;rfl
def zs (l:List Int) (i:Nat):List Int:=((List.range i).filter fun (j:Nat)=>l.getD j 0 == 0).map fun (j:Nat)=>(j:Int)
section
variable {k:Dx} {xs:List AV} (hx:DS k xs) (hsk:SmT 1048577 k)
include hx hsk
end
end Go.Proofs.Am12
