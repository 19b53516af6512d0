/- The abstract machine of this claim, part 16. -/
import Derived.Test.YtggemipepaajmaaGreatTwo15
set_option linter.unusedSimpArgs false
set_option linter.unusedVariables false
set_option linter.unusedSectionVars false
set_option linter.unnecessarySimpa false
namespace Go.Proofs.Am12
open Go Go.Am
attribute [local simp] Dz Cd EW D0 Cq D1 D2 Ez Bd BS Bg Al F9 E7 EP Gw Dv BA E3 ER Gx Gy xUn El Dw E8 BO DC BP Dx BQ Dy Cu Cj CL BH ES EU
 ev evs Cz DB OR.ofV OR.Dd OR.ofC E9 Tm.get Tm.init Tm.only A3 BB CV finish CO Cc Gu Dk Du unA Cf Bz Cg B6 DI DJ DK B7 DL DM B8 DN DP B9 Ch AU CY Bx DG DH Ce E0 E1 E2 D3 D4 Fa GG GH Fb stA A5 DS Bv DD Em GY Ci Db CZ FB GZ
set_option maxHeartbeats 1000000
attribute [local simp] Dl Cr CW Bm Dm Dn Dp Dq Dr Ds Dt Et DU Eu EA Fl Fm HL EB Ev EC Bq ED Br EF Cx Ew DW Fo Fp Fq DX EG EH Fs HM Ft HN HO EJ Bs DY Cy EK EL DZ
theorem PE:und MX.ty 155=some (.pointer 34):=by kernel_rfl
def QI (b:Option TyV) (H:AF) (fd:Nat):Prop:=match b with
 | none=>H[fd]? = some (.var false [.Cm])
 | some u=>∃ j row,H[fd]? = some (.var false [.hp j 0])∧H[j]? = some (.var false row)∧j≠fd∧EM H u row
abbrev IL (q:TyV→Bool):Option TyV→TyV→Option TyV×Bool:=fun b u=>match q u with
 | true=>(some u,false)
 | false=>(b,b.isNone)
theorem Yc {g:FuncId} {t fb fd:Nat} {tc:List AV} {q:TyV→Bool} {V:TyV→Prop} (hh:Hold g t tc q V) (n1:t≠fd) (n2:fb≠fd) :
  Con 112 [.hp fb 0,.hp fd 0] (fun x=>x=fd) (fun b H=>H[t]? = some (.var false tc)∧H[fb]? = some (.var false [.fn g [] [.hp t 0]])∧QI b H fd) (IL q) V:=by
 have hprim:=hh.prim
 have hmode:=hh.mode
 refine ⟨rfl,KX,fun b H u row hP hr hV => ?_,fun b H H' hP x => ?_⟩
 ·obtain ⟨p1,p2,p3⟩:=hP
  obtain ⟨rv,rfl,hrc⟩:=RM hr
  have hX:Ext NoM H (H++[.var false [.str u.nm,.int .i64 u.v,rv]]):=Ext.app _ _
  have e1:=Ac p1 [.var false [.str u.nm,.int .i64 u.v,rv]]
  have e2:=Ac p2 [.var false [.str u.nm,.int .i64 u.v,rv]]
  obtain ⟨H1,c1,c2⟩:=hh.call _ u _ e1 (hr.ext hX) hV
  have f1:=c2.var e1 (fun h=>h)
  have f2:=c2.var e2 (fun h=>h)
  have fx:=c2.var (CD H (.var false [.str u.nm,.int .i64 u.v,rv])) (fun h=>h)
  obtain ⟨w,hw⟩:∃ w,H[fd]? = some (.var false [w])∧w.cells=some [w]∧(b=none→w=.Cm)∧∀ u',b=some u'→∃ j,w=.hp j 0:=by
   cases b with
   | none=>exact ⟨.Cm,p3,rfl,fun _=>rfl,fun u' h=>by cases h⟩
   | some u'=>obtain ⟨j,r,a,_⟩:=p3;exact ⟨.hp j 0,a,rfl,(fun h=>by cases h),fun u' h=>⟨j,rfl⟩⟩
  obtain ⟨w1,w2,w3,w4⟩:=hw
  have fw:=c2.var (Ac w1 [.var false [.str u.nm,.int .i64 u.v,rv]]) (fun h=>h)
  have hlt:fd<H.length:=(List.getElem?_eq_some_iff.1 w1).1
  have hlt1:fd<H1.length:=(List.getElem?_eq_some_iff.1 fw).1
  cases hq:q u with
  | true=>
   rw [hq] at c1
   have hs:Ext (fun x=>x=fd) H1 (H1.set fd (.var false [.hp H.length 0])):=Ext.set (M:=fun x=>x=fd) fw rfl (fun _ _ e=>by cases e) (fun _ _ e=>by cases e)
   refine ⟨H1.set fd (.var false [.hp H.length 0]),CS KX Pf ?_,⟨hs.var f1 n1,hs.var f2 n2,?_⟩,(hX.trans c2).any.trans hs⟩
   ·simp [AN,Tryz.f112,PE,eqA,hrc,e2,hprim,c1,fw,Ad fw,hlt1,IL,hq]
   ·simp only [IL,hq]
    exact ⟨H.length,_,List.getElem?_set_self hlt1,hs.var fx (fun (h:H.length=fd)=>by omega),by omega,((hr.ext hX).ext c2).ext hs⟩
  | false=>
   rw [hq] at c1
   refine ⟨H1,CS KX Pf ?_,⟨f1,f2,?_⟩,(hX.trans c2).any⟩
   ·cases b with
    | none=>rw [w3 rfl] at fw;simp [AN,Tryz.f112,PE,eqA,hrc,e2,hprim,c1,fw,IL,hq]
    | some u'=>obtain ⟨j,rfl⟩:=w4 u' rfl;simp [AN,Tryz.f112,PE,eqA,hrc,e2,hprim,c1,fw,IL,hq]
   ·simp only [IL,hq]
    cases b with
    | none=>rw [w3 rfl] at fw;exact fw
    | some u'=>
     obtain ⟨j,r,a1,a2,a3,a4⟩:=p3
     rw [w1] at a1
     cases a1
     exact ⟨j,r,fw,(hX.trans c2).var a2 (fun h=>h),a3,(a4.ext hX).ext c2⟩
 ·obtain ⟨p1,p2,p3⟩:=hP
  refine ⟨x.var p1 (fun h=>h),x.var p2 (fun h=>h),?_⟩
  cases b with
  | none=>exact x.var p3 (fun h=>h)
  | some u'=>obtain ⟨j,r,a1,a2,a3,a4⟩:=p3;exact ⟨j,r,x.var a1 (fun h=>h),x.var a2 (fun h=>h),a3,a4.ext x⟩
theorem Lo (q:TyV→Bool):∀ l:List TyV,walk (IL q) none l=(l.find? q,(l.find? q).isNone)
 | []=>rfl
 | u::l=>by
  simp only [walk,List.find?_cons]
  cases hq:q u with
  | true=>simp [IL,hq,andThen]
  | false=>
   have:IL q none u=(none,true):=by simp [IL,hq]
   rw [this]
   exact Lo q l
noncomputable def CG (k:C7) (n:Nat) (q:TyV→Bool):TyV×Int:=
 if (AX k.data k.ty k.arms).2=0 then (if k.arms.length<n then (.mk 0 0 [] [],10) else match (Bt (Bb k.data k.ty)).find? q with
  | none=>(.mk 0 0 [] [],12)
  | some u=>(u,0)) else (.mk 0 0 [] [],(AX k.data k.ty k.arms).2)
theorem JH {k:C7} (hsk:SmT 1048577 k) (h:(AX k.data k.ty k.arms).2=0):ShW (Bb k.data k.ty)∧C5 k.data k.ty (Bb k.data k.ty)∧VT k.data k.ty∧(An k.data).2=0:=by
 have h1:Cv k.data k.ty=0:=by
  unfold AX at h
  split at h
  ·rename_i h1;exact h1
  ·exact h
 obtain ⟨a,b,c⟩:=Gj h1
 exact ⟨T6 a hsk.1 c b hsk.2.1,c,b,a⟩
theorem c60 {k:C7} {dv pv av:AV} (hx:Ck k (tcs k dv pv av)) (hsk:SmT 1048577 k) {g:FuncId} {t:Nat} {q:TyV→Bool} {H:AF} (ht:H[t]? = some (.var false (tcs k dv pv av))) {n:Nat} (hn:n≤2) (hh:(AX k.data k.ty k.arms).2=0→n≤k.arms.length→Hold g t (tcs k dv pv av) q (VS (Bb k.data k.ty))) :
  ∃ ys H',AL MX (AH MX) 60 [.agg (tcs k dv pv av),.int .i64 n,.fn g [] [.hp t 0]] H=some (.ret (.tup [.agg ys,.int .i64 (CG k n q).2]),H')∧A7 (CG k n q).1 ys∧∀ (x:Nat) lk cs,H[x]? = some (.var lk cs)→H'[x]? = some (.var lk cs):=by
 have hxc:∃ c,Ck k [dv,.int .i64 k.ty.k,.int .i64 k.ty.v,.str k.ty.nm,pv,av]∧c=AV.agg (tcs k dv pv av):=⟨_,hx,rfl⟩
 have h0:A7 (.mk 0 0 [] []) [.str [],.int .i64 0,.AI]:=A7.intro (.inl ⟨rfl,rfl⟩)
 obtain ⟨dv',pv',av',he,hd,hp,htr,ha⟩:=hx.dest
 simp only [tcs,List.cons.injEq,true_and,and_true] at he
 obtain ⟨rfl,rfl,rfl⟩:=he
 have hdc:=hd.cells
 have hpc:=hp.cells
 have hac:=ha.cells
 obtain ⟨v,H1,h63,hold,hok⟩:=c63 hx hsk (H++[.var false (tcs k dv pv av),.var false [.fn g [] [.hp t 0]],.var false [.str [],.int .i64 0,.AI]])
 have b0:H1[H.length]? = some (.var false (tcs k dv pv av)):=by rw [hold _ (by simp)];exact ga7
 have b1:H1[H.length+1]? = some (.var false [.fn g [] [.hp t 0]]):=by rw [hold _ (by simp)];exact gb7
 have b2:H1[H.length+2]? = some (.var false [.str [],.int .i64 0,.AI]):=by rw [hold _ (by simp)];exact gc7
 have bt:H1[t]? = some (.var false (tcs k dv pv av)):=by
  have hlt:=(List.getElem?_eq_some_iff.1 ht).1
  rw [hold _ (by simp;omega),List.getElem?_append_left hlt];exact ht
 have l2:H.length+2<H1.length:=(List.getElem?_eq_some_iff.1 b2).1
 have hk1:∀ (x:Nat) lk cs,H[x]? = some (.var lk cs)→H1[x]? = some (.var lk cs)∧x<H.length:=fun x lk cs hx=>by
  have hlt:=(List.getElem?_eq_some_iff.1 hx).1
  rw [hold _ (by simp;omega),List.getElem?_append_left hlt];exact ⟨hx,hlt⟩
 have hk2:∀ (G:AF) (B:Blk),(∀ (x:Nat) lk cs,H[x]? = some (.var lk cs)→G[x]? = some (.var lk cs))→∀ (x:Nat) lk cs,H[x]? = some (.var lk cs)→(G.set (H.length+2) B)[x]? = some (.var lk cs):=fun G B hg x lk cs hx=>by
  have hlt:=(List.getElem?_eq_some_iff.1 hx).1
  rw [List.getElem?_set_ne (by omega)];exact hg x lk cs hx
 unfold CG
 by_cases hE:(AX k.data k.ty k.arms).2=0
 ·rw [if_pos hE]
  rw [hE] at h63
  by_cases hlt:k.arms.length<n
  ·rw [if_pos hlt]
   have g0:¬ ((n:Int)≤(k.arms.length:Int)):=by omega
   have g1:¬ (n≤k.arms.length):=by omega
   exact ⟨[.str [],.int .i64 0,.AI],H1.set (H.length+2) (.var false [.str [],.int .i64 0,.AI]),CS Jx ML (by simp [AN,Tryz.f60,PE,eqA,hdc,hpc,hac,h63,b0,b1,b2,ha.len,g0,g1,l2,bsA,Ar,List.replicate,AG,AV.AD,Av,Ad b2]),h0,hk2 _ _ fun x lk cs hx=>(hk1 x lk cs hx).1⟩
  ·rw [if_neg hlt]
   have g0:(n:Int)≤(k.arms.length:Int):=by omega
   have g1:n≤k.arms.length:=by omega
   obtain ⟨m,S,hS,hs⟩:=hok hE
   obtain ⟨hw,hsh,hvt,hcd⟩:=JH hsk hE
   have hX:Ext NoM H1 (H1++[.var false [.Cm]]):=Ext.app _ _
   have hcon:=Yc (hh hE g1) (fb:=H.length+1) (fd:=H1.length) (by have:=(List.getElem?_eq_some_iff.1 bt).1;omega) (by omega)
   have hP0:QI none (H1++[Blk.var false [.Cm]]) H1.length:=CD _ _
   obtain ⟨H2,c1,c2,c3⟩:=c64 hw (Option TyV) 112 _ (fun x=>x=H1.length) _ _ _ hcon m S (H1++[.var false [.Cm]]) v none (A8.ext m hs hX (fun x _ h=>h)) (fun x hx h=>by have:=hS x hx;omega) (fun x hx=>by simp;omega) (fun u hu=>J2 hw u hu) ⟨Ac bt _,Ac b1 _,hP0⟩
   rw [Lo] at c1 c2
   obtain ⟨_,_,c2⟩:=c2
   have e2:=c3.var (Ac b2 [.var false [.Cm]]) (fun (h:H.length+2=H1.length)=>by omega)
   have l3:H.length+2<H2.length:=(List.getElem?_eq_some_iff.1 e2).1
   cases hf:(Bt (Bb k.data k.ty)).find? q with
   | none=>
    rw [hf] at c1 c2
    have c2:H2[H1.length]? = some (.var false [.Cm]):=c2
    simp at c1
    exact ⟨[.str [],.int .i64 0,.AI],H2.set (H.length+2) (.var false [.str [],.int .i64 0,.AI]),CS Jx ML (by simp [AN,Tryz.f60,PE,eqA,hdc,hpc,hac,h63,b0,b1,b2,ha.len,g0,g1,l2,bsA,Ar,List.replicate,AG,AV.AD,Av,c1,c2,e2,l3,Ad e2]),h0,hk2 _ _ fun x lk cs hx=>c3.var (Ac (hk1 x lk cs hx).1 _) (fun (h:x=H1.length)=>by have:=(hk1 x lk cs hx).2;omega)⟩
   | some u=>
    rw [hf] at c1 c2
    obtain ⟨j,row,d1,d2,d3,d4⟩:=c2
    simp at c1
    obtain ⟨rv,rfl,hrc⟩:=RM d4
    have hmem:=List.mem_of_find?_eq_some hf
    obtain ⟨v1,v2,v3⟩:=J2 hw u hmem
    obtain ⟨row',H3,r1,r2,r3,r4⟩:=JT d4
    obtain ⟨ys,y1,y2⟩:=c113 u row' r1 v2
    have hc113:=r4 113 [] _ (by simp [KY]) rfl (y2 H3)
    simp at hc113
    have e3:=r2.var e2 (fun h=>h)
    have l4:H.length+2<H3.length:=(List.getElem?_eq_some_iff.1 e3).1
    obtain ⟨yv,hys,hy⟩:=y1.AW
    have hyc:=hy.cells
    subst hys
    exact ⟨_,H3.set (H.length+2) (.var false [.str u.nm,.int .i64 u.v,yv]),CS Jx ML (by simp [AN,Tryz.f60,PE,eqA,hdc,hpc,hac,h63,b0,b1,b2,ha.len,g0,g1,l2,bsA,Ar,List.replicate,AG,AV.AD,Av,c1,d1,d2,hc113,hyc,e3,l4,Ad e3]),y1,hk2 _ _ fun x lk cs hx=>r2.var (c3.var (Ac (hk1 x lk cs hx).1 _) (fun (h:x=H1.length)=>by have:=(hk1 x lk cs hx).2;omega)) (fun h=>h)⟩
 ·rw [if_neg hE]
  have hfo:∀ a,Av [(AX k.data k.ty k.arms).2,a]=(AX k.data k.ty k.arms).2:=fun a=>by simp [Av,hE]
  have hzb:((AX k.data k.ty k.arms).2 != 0)=true:=by simp [hE]
  exact ⟨[.str [],.int .i64 0,.AI],H1.set (H.length+2) (.var false [.str [],.int .i64 0,.AI]),CS Jx ML (by simp [AN,Tryz.f60,PE,eqA,hdc,hpc,hac,h63,b0,b1,b2,ha.len,l2,hfo,hzb,bsA,Ar,List.replicate,AG,AV.AD,Ad b2]),h0,hk2 _ _ fun x lk cs hx=>(hk1 x lk cs hx).1⟩
abbrev Gr (k:C7) (u:TyV):Bool:=A0 (k.arms.getD 0 default) u&&A0 (k.arms.getD 1 default) u
abbrev Gs (k:C7) (u:TyV):Bool := !A0 (k.arms.getD 0 default) u&&A0 (k.arms.getD 1 default) u
section
variable {k:C7} {xs:List AV} (hx:Ck k xs) (hsk:SmT 1048577 k)
include hx hsk
theorem JU (h:(AX k.data k.ty k.arms).2=0):∀ p∈k.arms,CA (Bb k.data k.ty) p=0:=fun p hp=>
 (RJ ((H8 h).2.2.2 p hp)).2.1
theorem c36:∃ ys,A7 (CG k 2 (Gr k)).1 ys∧∀ h,AL MX (AH MX) 36 [.agg xs] h=some (.ret (.tup [.agg ys,.int .i64 (CG k 2 (Gr k)).2]),h):=by
 have hx0:=hx
 have hxn:AG xs=true:=by obtain ⟨dv,pv,av,rfl,hd,hp,ht,ha⟩:=hx.dest;simp [AV.AD,AG,hd.AD,hp.AD,ha.AD]
 obtain ⟨dv,pv,av,rfl,hd,hp,ht,ha⟩:=hx.dest
 obtain ⟨s1,s2,s3,s4⟩:=hsk
 obtain ⟨ys,H',c1,c2,c3⟩:=c60 hx0 ⟨s1,s2,s3,s4⟩ (H:=[.var false (tcs k dv pv av),.var false [.str [],.int .i64 0,.AI]]) (t:=0) (g:=90) (n:=2) (q:=Gr k) rfl (by decide) (fun he hl=>Ya ha s3 s4 (JU hx0 ⟨s1,s2,s3,s4⟩ he) 0 hl)
 rw [show ((2:Nat):Int)=2 from rfl] at c1
 have b1:=c3 1 _ _ rfl
 have hyn:=c2.AG
 have lb:=(List.getElem?_eq_some_iff.1 b1).1
 obtain ⟨yv,rfl,hy⟩:=c2.AW
 have hyc:=hy.cells
 refine ⟨_,c2,Ak PX Xk (by simp [AV.AD,hxn]) (by simp [AV.AD,AG] at hyn ⊢ <;> exact hyn) (hr:=_) (by simp [AN,Tryz.f36,c1,b1,Ad b1,lb,hd.cells,hp.cells,ha.cells,hyc] <;> rfl)⟩
theorem c37 (h:AF):AL MX (AH MX) 37 [.agg xs] h=some (.ret (.tup [.bool (decide ((CG k 2 (Gs k)).2=12)),.int .i64 (if (CG k 2 (Gs k)).2=12 then 0 else (CG k 2 (Gs k)).2)]),h):=by
 have hx0:=hx
 have hxn:AG xs=true:=by obtain ⟨dv,pv,av,rfl,hd,hp,ht,ha⟩:=hx.dest;simp [AV.AD,AG,hd.AD,hp.AD,ha.AD]
 obtain ⟨dv,pv,av,rfl,hd,hp,ht,ha⟩:=hx.dest
 obtain ⟨s1,s2,s3,s4⟩:=hsk
 obtain ⟨ys,H',c1,c2,c3⟩:=c60 hx0 ⟨s1,s2,s3,s4⟩ (H:=[.var false (tcs k dv pv av)]) (t:=0) (g:=92) (n:=2) (q:=Gs k) rfl (by decide) (fun he hl=>Yb ha s3 s4 (JU hx0 ⟨s1,s2,s3,s4⟩ he) 0 hl)
 rw [show ((2:Nat):Int)=2 from rfl] at c1
 obtain ⟨yv,rfl,hy⟩:=c2.AW
 have hyc:=hy.cells
 by_cases hz:(CG k 2 (Gs k)).2=12
 ·have hzb:((CG k 2 (Gs k)).2 == 12)=true:=by simp [hz]
  exact Ak MK SH (by simp [AV.AD,hxn]) rfl (hr:=_) (by simp [AN,Tryz.f37,c1,hd.cells,hp.cells,ha.cells,hyc,hz,hzb] <;> rfl) h
 ·have hzb:((CG k 2 (Gs k)).2 == 12)=false:=by simp [hz]
  exact Ak MK SH (by simp [AV.AD,hxn]) rfl (hr:=_) (by simp [AN,Tryz.f37,c1,hd.cells,hp.cells,ha.cells,hyc,hz,hzb] <;> rfl) h
end
theorem ms_39 (n:Nat) (hn:n<1048577) (h:AF):EV MX.ty 39 (.int .i64 n) (.int .i64 n) h=some (Aw h 1 (List.replicate n [.int .i64 0])):=by
 have e1:und MX.ty 39=some (.slice 3):=by kernel_rfl
 have e2:siz MX.ty 3=1:=by kernel_rfl
 have e3:byt MX.ty 3=8:=by kernel_rfl
 have e4:C6 MX.ty 3=some [.int .i64 0]:=by kernel_rfl
 unfold EV
 have h1:(n:Int)<17592186044416:=by omega
 have h2:8 * (n:Int)≤17592186044416:=by omega
 simp only [e1,Am.intOf,e2,e3,e4]
 simp [Aw,h1,h2]
def Fh (b:List Int):Option Nat→List Int
 | none=>b
 | some i=>b.set i (wr .i64 (b.getD i 0+1))
theorem Lp (b:List Int) (o:Option Nat):(Fh b o).length=b.length:=by
 cases o <;> simp [Fh]
abbrev IM (k:C7) (u:TyV):Option Nat:=k.arms.findIdx? fun p=>A0 p u
theorem con65 {k:C7} {dv pv av:AV} (ha:SlR AQ 4 k.arms av) (hal:k.arms.length<1048577) (has:∀ p∈k.arms,Sm 1048577 p) {s:Sh} (hpe:∀ p∈k.arms,CA s p=0) {t o a:Nat} (n1:t≠a) (n2:o≠a) :
  Con 65 [.hp t 0,.hp o 0] (fun x=>x=a) (fun (b:List Int) H=>H[t]? = some (.var false (tcs k dv pv av))∧H[o]? = some (.var false [.hs a k.arms.length 1 0 k.arms.length false])∧H[a]? = some (.arr 1 false (ints b))∧b.length=k.arms.length) (fun b u=>(Fh b (IM k u),true)) (VS s):=by
 refine ⟨rfl,MM,fun b H u row hP hr hv => ?_,fun b H H' hP x => ?_⟩
 ·obtain ⟨p1,p2,p3,p4⟩:=hP
  obtain ⟨rv,rfl,hrc⟩:=RM hr
  have hX:Ext NoM H (H++[.var false [.str u.nm,.int .i64 u.v,rv]]):=Ext.app _ _
  have e1:=Ac p1 [.var false [.str u.nm,.int .i64 u.v,rv]]
  obtain ⟨row',H',b1,b2,b3,b4⟩:=JT (hr.ext hX)
  have h62:=b4 62 [av] _ (by simp [PY]) (by simp [ha.AD]) (c62 ha hal has b1 hpe hv.1 H')
  simp at h62
  have f1:=(hX.trans b2).var p1 (fun h=>h)
  have f2:=(hX.trans b2).var p2 (fun h=>h)
  have f3:=(hX.trans b2).keep p3 (fun h=>h) (fun _ _ e=>by cases e)
  cases hf:k.arms.findIdx? (fun p=>A0 p u) with
  | none=>
   rw [hf] at h62
   refine ⟨H',CS MM SK (by simp [AN,Tryz.f65,hrc,e1,h62,ixI]),?_,(hX.trans b2).any⟩
   simp only [IM,hf,Fh]
   exact ⟨f1,f2,f3,p4⟩
  | some i=>
   rw [hf] at h62
   have hi:i<k.arms.length:=by
    obtain ⟨h,_⟩:=List.findIdx?_eq_some_iff_getElem.1 hf
    exact h
   have hib:i<b.length:=by omega
   have hne:((i:Int) != -1)=true:=by
    have:((i:Int) == -1)=false:=by rw [beq_eq_false_iff_ne];omega
    simp [bne,this]
   have hlen:(ints b).length=k.arms.length:=by simp [ints,p4]
   have hge:(ints b)[i]? = some [.int .i64 b[i]]:=by simp [ints,hib]
   have hset:(ints b).set i [.int .i64 (wr .i64 (b[i]+1))]=ints (Fh b (some i)):=by
    simp [ints,Fh,hib,List.map_set]
   have hs:Ext (fun x=>x=a) H' (H'.set a (.arr 1 false (ints (Fh b (some i))))):=Ext.set (M:=fun x=>x=a) f3 rfl (fun _ _ e=>by cases e) (fun _ _ e=>by cases e)
   have hla:=(List.getElem?_eq_some_iff.1 f3).1
   refine ⟨H'.set a (.arr 1 false (ints (Fh b (some i)))),CS MM SK ?_,?_,(hX.trans b2).any.trans hs⟩
   ·have hix:ixA 1 (.hs a k.arms.length 1 0 k.arms.length false) (.int .i64 (i:Int))=some (.ep a k.arms.length 1 i 0):=by
     rw [A6 (kd:=.i64) (hi:=hi),Nat.zero_add]
    simp [AN,Tryz.f65,hrc,e1,h62,ixI,hne,f2,hix,f3,hlen,hge,hset]
   ·simp only [IM,hf]
    exact ⟨hs.var f1 n1,hs.var f2 n2,List.getElem?_set_self hla,by rw [Lp];exact p4⟩
 ·obtain ⟨p1,p2,p3,p4⟩:=hP
  exact ⟨x.var p1 (fun h=>h),x.var p2 (fun h=>h),x.keep p3 (fun h=>h) (fun _ _ e=>by cases e),p4⟩
noncomputable def HH (k:C7):List Int:=(walk (fun b u=>(Fh b (IM k u),true)) (List.replicate k.arms.length 0) (Bt (Bb k.data k.ty))).1
theorem H9 {σ:Type} (f:σ→TyV→σ):∀ (l:List TyV) (b:σ),walk (fun b u=>(f b u,true)) b l=(l.foldl f b,true)
 | [],_=>rfl
 | u::l,b=>by simp only [walk,andThen,List.foldl_cons];exact H9 f l _
section
variable {k:C7} {xs:List AV} (hx:Ck k xs) (hsk:SmT 1048577 k)
include hx hsk
theorem c17:∃ w,(((AX k.data k.ty k.arms).2=0∧w=.sl 1 false (ints (HH k))∧(HH k).length=k.arms.length)∨((AX k.data k.ty k.arms).2≠0∧w=.AI))∧∀ h,AL MX (AH MX) 17 [.agg xs] h=some (.ret (.tup [w,.int .i64 (AX k.data k.ty k.arms).2]),h):=by
 have hx0:=hx
 have hxn:AG xs=true:=by obtain ⟨dv,pv,av,rfl,hd,hp,ht,ha⟩:=hx.dest;simp [AV.AD,AG,hd.AD,hp.AD,ha.AD]
 obtain ⟨dv,pv,av,rfl,hd,hp,ht,ha⟩:=hx.dest
 have hsk0:=hsk
 obtain ⟨s1,s2,s3,s4⟩:=hsk
 obtain ⟨v,H1,h63,hold,hok⟩:=c63 hx0 hsk0 [.var false (tcs k dv pv av)]
 have b0:H1[0]? = some (.var false (tcs k dv pv av)):=hold 0 (by simp)
 have l0:=(List.getElem?_eq_some_iff.1 b0).1
 by_cases hE:(AX k.data k.ty k.arms).2=0
 ·rw [hE] at h63 ⊢
  obtain ⟨m,S,hS,hs⟩:=hok hE
  obtain ⟨hw,hsh,hvt,hcd⟩:=JH hsk0 hE
  have hms:=ms_39 k.arms.length s3
  obtain ⟨Z,hZ⟩:∃ Z:List Int,Z=List.replicate k.arms.length 0:=⟨_,rfl⟩
  have hrep:List.replicate k.arms.length [AV.int .i64 0]=ints Z:=by rw [hZ];simp [ints]
  rw [hrep] at hms
  have hZl:(ints Z).length=k.arms.length:=by rw [hZ];simp [ints]
  let T:AF:=[.arr 1 false (ints Z),.var false [.hs H1.length k.arms.length 1 0 k.arms.length false]]
  have hX:Ext NoM H1 (H1++T):=Ext.app _ _
  have hcon:=con65 (dv:=dv) (pv:=pv) ha s3 s4 (JU hx0 hsk0 hE) (t:=0) (o:=H1.length+1) (a:=H1.length) (by omega) (by omega)
  obtain ⟨H2,c1,c2,c3⟩:=c64 hw (List Int) 65 _ (fun x=>x=H1.length) _ _ _ hcon m S (H1++T) v Z (A8.ext m hs hX (fun x _ h=>h)) (fun x hx h=>by have:=hS x hx;omega) (fun x hx=>by simp [T];omega) (fun u hu=>J2 hw u hu) ⟨Ac b0 _,gb7,ga7,by rw [hZ];simp⟩
  rw [H9] at c1 c2
  have hcnt:HH k=(Bt (Bb k.data k.ty)).foldl (fun b u=>Fh b (IM k u)) Z:=by
   unfold HH
   rw [H9,hZ]
  rw [← hcnt] at c2
  obtain ⟨_,d2,d3,d4⟩:=c2
  refine ⟨.sl 1 false (ints (HH k)),.inl ⟨rfl,rfl,d4⟩,?_⟩
  have hil:(ints (HH k)).length=k.arms.length:=by simp [ints,d4]
  have hnr:(ints (HH k)).all AG=true:=by
   rw [List.all_eq_true]
   intro e he
   simp only [ints,List.mem_map] at he
   obtain ⟨z,_,rfl⟩:=he
   rfl
  have hsn:A1 9 (.tup [.hs H1.length k.arms.length 1 0 k.arms.length false,.int .i64 0]) H2 (.tup [.sl 1 false (ints (HH k)),.int .i64 0]) (H2.set H1.length (.arr 1 true (ints (HH k)))):=by
   refine (A1.tup (by rfl) (Az.cons (K:=1) (c':=.sl 1 false (ints (HH k))) (h1:=H2.set H1.length (.arr 1 true (ints (HH k)))) (fun n => ?_) (Az.cons (A1.flat (c:=.int .i64 0) rfl _) (Az.nil _)))).mono (by decide)
   have hb:(Nat.beq (ints (HH k)).length k.arms.length&&Nat.beq 1 1&&Nat.ble (0+k.arms.length) (ints (HH k)).length&&(ints (HH k)).all AG)=true:=by
    rw [hnr,hil];simp [A3,BB]
   simp only [Am.snap,d3,hb]
   simp [← hil]
  intro h
  exact Hl PU SE (by simp [AV.AD,hxn]) (by simp [AV.AD,AG]) (hsn.at (by decide)) (by simp [AV.AD,AG] <;> exact List.all_eq_true.1 hnr) (hr:=H2) (by
   simp only [T] at c1
   simp [AN,Tryz.f17,h63,b0,ha.len,hms,Aw,hZl,c1,d2,Ad d2,hd.cells,hp.cells,ha.cells]) h
 ·have hzb:((AX k.data k.ty k.arms).2 != 0)=true:=by simp [hE]
  exact ⟨.AI,.inr ⟨hE,rfl⟩,fun h=>Ak PU SE (by simp [AV.AD,hxn]) rfl (hr:=_) (by simp [AN,Tryz.f17,h63,hzb,hd.cells,hp.cells,ha.cells] <;> rfl) h⟩
end
def Hr (n:Int) (xs:List AV):Prop:=xs=[.int .i64 n]
theorem RP (n:Int) (xs:List AV) (h:Hr n xs):AG xs=true:=by subst h;rfl
theorem T7 {l:List Int} {i:Nat} {a:Int} {e:List AV} (h1:l[i]? = some a) (h2:(ints l)[i]? = some e):Hr a e:=by
 simp only [ints,List.getElem?_map,h1,Option.map_some,Option.some.injEq] at h2
 exact h2.symm
theorem Yd (ex:Bool) (l:List Int):SlR Hr 1 l (.sl 1 ex (ints l)):=.inr ⟨ex,_,rfl,by simp [ints],fun i a e h1 h2=>T7 h1 h2⟩
def zs (l:List Int) (i:Nat):List Int:=((List.range i).filter fun (j:Nat)=>l.getD j 0 == 0).map fun (j:Nat)=>(j:Int)
theorem QJ (l:List Int) (i:Nat):zs l (i+1)=if (l.getD i 0 == 0)=true then zs l i++[(i:Int)] else zs l i:=by
 simp only [zs,List.range_succ,List.filter_append,List.map_append,List.filter_cons,List.filter_nil]
 split <;> simp
theorem T8 (l:List Int) (i:Nat):(zs l i).length≤i:=by
 simp only [zs,List.length_map]
 exact Nat.le_trans (List.length_filter_le ..) (by simp)
section
variable {k:C7} {xs:List AV} (hx:Ck k xs) (hsk:SmT 1048577 k)
include hx hsk
theorem c16:∃ w,SlR Hr 1 (if (AX k.data k.ty k.arms).2=0 then zs (HH k) k.arms.length else []) w∧∀ h,AL MX (AH MX) 16 [.agg xs] h=some (.ret (.tup [w,.int .i64 (AX k.data k.ty k.arms).2]),h):=by
 obtain ⟨w,hw,h17⟩:=c17 hx hsk
 have hxn:AG xs=true:=by obtain ⟨dv,pv,av,rfl,hd,hp,ht,ha⟩:=hx.dest;simp [AV.AD,AG,hd.AD,hp.AD,ha.AD]
 obtain ⟨dv,pv,av,rfl,hd,hp,ht,ha⟩:=hx.dest
 have hal:=hsk.2.2.1
 rcases hw with ⟨hE,rfl,hlen⟩ | ⟨hE,rfl⟩
 ·rw [hE] at h17 ⊢
  obtain ⟨L,hL⟩:∃ L,L=HH k:=⟨_,rfl⟩
  rw [← hL] at h17 hlen ⊢
  have hL0:k.arms.length=L.length:=hlen.symm
  rw [hL0] at hal ⊢
  have hsl:=Yd false L
  obtain ⟨v,hv⟩:∃ v,v=AV.sl 1 false (ints L):=⟨_,rfl⟩
  rw [← hv] at h17 hsl
  obtain ⟨e,st,hlp,hq⟩:=AR (M:=MX) (fid:=16) (N:=32) (C:=AH MX) (c:=AU Tryz.f16 0) (n:=L.length)
   (fun i (b:AV×AF×List (List AV))=>([(6,b.1),(17,v),(18,.int .i64 L.length),(19,.int .i64 i)],Blk.var false (tcs k dv pv av)::b.2.1))
   (fun i b=>Aj 1 1 b.2.1 b.1 b.2.2∧b.2.2.length=(zs L i).length∧∀ (j:Nat) t e,(zs L i)[j]? = some t→b.2.2[j]? = some e→Hr t e)
   (fun r=>∃ b:AV×AF×List (List AV),r=(.ext 0,([(6,b.1),(17,v),(18,.int .i64 L.length),(19,.int .i64 L.length),(20,.bool false)],Blk.var false (tcs k dv pv av)::b.2.1))∧Aj 1 1 b.2.1 b.1 b.2.2∧b.2.2.length=(zs L L.length).length∧∀ (j:Nat) t e,(zs L L.length)[j]? = some t→b.2.2[j]? = some e→Hr t e) (fun i b hi hI=>by
     obtain ⟨a,rest,es⟩:=b
     obtain ⟨i1,i2,i3⟩:=hI
     simp only at i1 i2 i3
     have hi':=AZ hi
     have hwr:=AY hi hal
     obtain ⟨e,he,hR⟩:=hsl.ix hi
     subst hR
     have hg:L.getD i 0=L[i]:=by simp [hi]
     cases hz:L[i] == 0 with
     | true=>
      have hs:zs L (i+1)=zs L i++[(i:Int)]:=by rw [QJ,hg,if_pos hz]
      obtain ⟨a',rest',hap,hacc⟩:=Aj.push (byt:=8) (P:=[Blk.var false (tcs k dv pv av)]) [.int .i64 (i:Int)] true i1 (by decide) (by decide) (by have:=T8 L i;omega)
      obtain ⟨j1,j2⟩:=D8 i2 i3 (show Hr (i:Int) [.int .i64 (i:Int)] from rfl)
      simp only [List.cons_append,List.nil_append] at hap
      exact .inl ⟨(a',rest',es++[[.int .i64 (i:Int)]]),by simp [Tryz.f16,hi',he,hwr,hz,hap,bsA,Ar,List.replicate,AG,AV.AD],hacc,by rw [hs];exact j1,by rw [hs];exact j2⟩
     | false=>
      have hs:zs L (i+1)=zs L i:=by rw [QJ,hg,if_neg (by rw [hz];decide)]
      exact .inl ⟨(a,rest,es),by simp [Tryz.f16,hi',he,hwr,hz],i1,by rw [hs];exact i2,by rw [hs];exact i3⟩) (fun b hI=>by
     obtain ⟨a,rest,es⟩:=b
     obtain ⟨i1,i2,i3⟩:=hI
     exact ⟨_,_,by simp [Tryz.f16] <;> first | exact ⟨rfl,rfl⟩ | rfl,by simp,(a,rest,es),rfl,i1,i2,i3⟩) (.AI,[],[]) ⟨Aj.nil _ _ _,rfl,fun j t e h=>by simp [zs] at h⟩
  obtain ⟨⟨a,rest,es⟩,hq,q1,q2,q3⟩:=hq
  simp only at q1 q2 q3 hq
  cases hq
  simp [Tryz.f16] at hlp
  obtain ⟨v',rest',hsn,hrep,heq⟩:=HA (P:=[Blk.var false (tcs k dv pv av)]) RP q1 q2 q3
  refine ⟨v',hrep,fun h => ?_⟩
  have hac:=q1.cells
  cases han:a.AD with
  | true=>
   have:=heq han
   subst this
   exact Ak Jw OU (by simp [AV.AD,hxn]) (by simp [AV.AD,AG,han]) (hr:=_) (by simp [AN,Tryz.f16,h17,hsl.len,hlp,hd.cells,hp.cells,ha.cells] <;> rfl) h
  | false=>
   have hsn2:A1 9 (.tup [a,.int .i64 0]) ([Blk.var false (tcs k dv pv av)]++rest) (.tup [v',.int .i64 0]) ([Blk.var false (tcs k dv pv av)]++rest'):=(A1.tup (by simp [AG,han]) (Az.cons hsn (Az.cons (A1.flat (c:=.int .i64 0) rfl _) (Az.nil _)))).mono (by decide)
   exact Hl Jw OU (by simp [AV.AD,hxn]) (by simp [AV.AD,AG,han]) (hsn2.at (by decide)) (by simp [AV.AD,AG,hrep.AD]) (hr:=_) (by simp [AN,Tryz.f16,h17,hsl.len,hlp,hd.cells,hp.cells,ha.cells] <;> rfl) h
 ·have hzb:((AX k.data k.ty k.arms).2 != 0)=true:=by simp [hE]
  rw [if_neg hE]
  exact ⟨.AI,.inl ⟨rfl,rfl⟩,fun h=>Ak Jw OU (by simp [AV.AD,hxn]) rfl (hr:=_) (by simp [AN,Tryz.f16,h17,hzb,hd.cells,hp.cells,ha.cells] <;> rfl) h⟩
end
end Go.Proofs.Am12
namespace Go.Proofs.Am12
open Go Go.Am
mutual
def shN:Sh→Nat
 | .bit _=>1
 | .cons _ ss=>1+IP ss
def IP:List (List Sh)→Nat
 | []=>0
 | s::r=>Jq s+IP r
def Jq:List Sh→Nat
 | []=>0
 | x::r=>shN x+Jq r
end
mutual
def shX:Sh→Nat
 | .bit n=>n.toNat
 | .cons _ ss=>(I8 ss.length).toNat+Gt ss
def Gt:List (List Sh)→Nat
 | []=>0
 | s::r=>max (ID s) (Gt r)
def ID:List Sh→Nat
 | []=>0
 | x::r=>shX x+ID r
end
theorem XK {l:List AO} {rec:Rec} (hr:∀ t c s,C5 l t s→(rec t c).2=0→(rec t c).1=c+shN s):∀ (fs:List Bj) (ss:List Sh) c,ss.length=fs.length→(∀ (j:Nat) f y,fs[j]? = some f→ss[j]? = some y→C5 l f.ty y)→(eFs rec fs c).2=0→(eFs rec fs c).1=c+Jq ss
 | [],[],c,_,_,_=>by simp [eFs,Jq]
 | f::r,x::ss,c,hl,hs,h=>by
  simp only [eFs] at h ⊢
  split at h
  ·rename_i hz
   rw [if_pos hz]
   have h1:=hr f.ty c x (hs 0 _ _ rfl rfl) hz
   rw [XK hr r ss _ (by simpa using hl) (fun j f y a b=>hs (j+1) f y (by simpa using a) (by simpa using b)) h,h1]
   simp only [Jq]
   omega
  ·rename_i hz;exact absurd h hz
 | [],_::_,_,h,_,_=>by simp at h
 | _::_,[],_,h,_,_=>by simp at h
theorem XL {l:List AO} {rec:Rec} (hr:∀ t c s,C5 l t s→(rec t c).2=0→(rec t c).1=c+shN s):∀ (cs:List Ba) (ss:List (List Sh)) c,ss.length=cs.length→(∀ (i:Nat) k s,cs[i]? = some k→ss[i]? = some s→s.length=k.fields.length∧∀ (j:Nat) f y,k.fields[j]? = some f→s[j]? = some y→C5 l f.ty y)→(eCs rec cs c).2=0→(eCs rec cs c).1=c+IP ss
 | [],[],c,_,_,_=>by simp [eCs,IP]
 | k::r,s::ss,c,hl,hs,h=>by
  simp only [eCs] at h ⊢
  split at h
  ·rename_i hz
   rw [if_pos hz]
   obtain ⟨a1,a2⟩:=hs 0 _ _ rfl rfl
   have h1:=XK hr k.fields s c a1 a2 hz
   rw [XL hr r ss _ (by simpa using hl) (fun i k s a b=>hs (i+1) k s (by simpa using a) (by simpa using b)) h,h1]
   simp only [IP]
   omega
  ·rename_i hz;exact absurd h hz
 | [],_::_,_,h,_,_=>by simp at h
 | _::_,[],_,h,_,_=>by simp at h
theorem QK {l:List AO} {r:Option Rec} (hr:∀ rec,r=some rec→∀ t c s,C5 l t s→(rec t c).2=0→(rec t c).1=c+shN s) (t:TyV) (c:Int) (s:Sh) (hs:C5 l t s) (h:(Cs l r t c).2=0):(Cs l r t c).1=c+shN s:=by
 unfold Cs at h ⊢
 split at h
 ·cases h
 rename_i g1
 rw [if_neg g1]
 split at h
 ·cases h
 rename_i g2
 rw [if_neg g2]
 split at h
 ·cases h
 rename_i g3
 rw [if_neg g3]
 split at h
 ·cases h
 rename_i g4
 rw [if_neg g4]
 split at h
 ·cases h
 rename_i g5
 rw [if_neg g5]
 cases r with
 | none=>cases h
 | some rec=>
  simp only at h ⊢
  cases hs with
  | bit _ hb hw h2=>rw [if_pos hb];simp [shN]
  | cons _ ns ss hb hk hn hl h3 hf=>
   have hbn:¬ (C8 t=true):=by rw [hb];decide
   rw [if_neg hbn] at h ⊢
   rw [XL (hr rec rfl) _ ss _ hl (fun i k s a b=>⟨h3 i k s a b,fun j f y d e=>hf i k s j f y a b d e⟩) h]
   simp only [shN]
   omega
theorem T9 (l:List AO):∀ n t c s,C5 l t s→(DA l n t c).2=0→(DA l n t c).1=c+shN s
 | 0=>fun t c s hs h=>QK (fun rec h=>by cases h) t c s hs h
 | n+1=>fun t c s hs h=>QK (fun rec h=>by cases h;exact T9 l n) t c s hs h
theorem QL (n:Nat):0≤I8 n∧I8 n≤4:=by
 unfold I8
 repeat (split;first | exact ⟨by decide,by decide⟩ | skip)
 exact ⟨by decide,by decide⟩
theorem QM:∀ (ss:List Sh) (a:Int),0≤a→(∀ x∈ss,shW x=shX x)→a+ID ss<9223372036854775808→FR ss a=a+ID ss
 | [],a,_,_,_=>by simp [FR,ID]
 | x::r,a,h0,hs,hb=>by
  simp only [ID] at hb ⊢
  have hx:=hs x (by simp)
  have hw:Jo a (shW x)=a+shX x:=by
   rw [hx];exact Be (by omega) (by omega)
  simp only [FR,hw]
  rw [QM r _ (by omega) (fun y hy=>hs y (by simp [hy])) (by omega)]
  omega
theorem Nu:∀ (ss:List (List Sh)) (m:Int),0≤m→(∀ s∈ss,FR s 0=ID s)→ET ss m=max m (Gt ss)
 | [],m,h0,_=>by simp only [ET,Gt];omega
 | s::r,m,h0,hs=>by
  have hx:=hs s (by simp)
  simp only [ET,Gt,hx]
  rw [Nu r _ (by split <;> omega) (fun y hy=>hs y (by simp [hy]))]
  split <;> omega
theorem Nv {x:Sh}:∀ {r:List Sh},x∈r→shN x≤Jq r
 | y::r,h=>by
  simp only [Jq]
  rcases List.mem_cons.1 h with rfl | h
  ·omega
  ·have:=Nv h;omega
theorem Lq {s:List Sh}:∀ {r:List (List Sh)},s∈r→Jq s≤IP r
 | y::r,h=>by
  simp only [IP]
  rcases List.mem_cons.1 h with rfl | h
  ·omega
  ·have:=Lq h;omega
theorem J3:∀ {r:List Sh},(∀ x∈r,shX x≤16 * shN x)→ID r≤16 * Jq r
 | [],_=>by simp [ID,Jq]
 | y::r,h=>by
  simp only [ID,Jq]
  have h1:=h y (by simp)
  have h2:=J3 (r:=r) (fun x hx=>h x (by simp [hx]))
  omega
theorem K1:∀ {r:List (List Sh)},(∀ s∈r,ID s≤16 * Jq s)→Gt r≤16 * IP r
 | [],_=>by simp [Gt,IP]
 | y::r,h=>by
  simp only [Gt,IP]
  have h1:=h y (by simp)
  have h2:=K1 (r:=r) (fun x hx=>h x (by simp [hx]))
  omega
theorem UA {s:Sh} (h:ShW s):shX s≤16 * shN s:=by
 induction h with
 | bit m h0 h1=>simp only [shX,shN];omega
 | cons ns ss h1 h2 h3 h4 h5 h6 h7 ih=>
  simp only [shX,shN]
  have:=QL ss.length
  have:=K1 (r:=ss) fun s hs=>J3 fun x hx=>ih s hs x hx
  omega
theorem Ye {s:Sh} (h:ShW s) (hb:shN s≤1000):shW s=shX s:=by
 induction h with
 | bit m h0 h1=>simp only [shW,shX];omega
 | cons ns ss h1 h2 h3 h4 h5 h6 h7 ih=>
  simp only [shN] at hb
  have hs:∀ s∈ss,FR s 0=ID s:=fun s hs=>by
   have hl:=Lq hs
   rw [QM s 0 (by decide) (fun x hx=>ih s hs x hx (by have:=Nv hx;omega)) (by have:=J3 (r:=s) fun x hx=>UA (h5 s hs x hx);omega)]
   omega
  have hr:=Nu ss 0 (by decide) hs
  have hx:=K1 (r:=ss) fun s hs=>J3 fun x hx=>UA (h5 s hs x hx)
  have ht:=QL ss.length
  simp only [shW,shX,hr]
  have:max (0:Int) (Gt ss)=Gt ss:=by omega
  rw [this]
  unfold Jo
  rw [Be (by omega) (by omega)]
  omega
theorem Ef (x:Sh) (r:List Sh):(BG (x::r)).length=(Bt x).length * (BG r).length:=by
 simp only [BG,List.length_flatMap,List.length_map]
 induction Bt x with
 | nil=>simp
 | cons a t ih=>simp only [List.map_cons,List.sum_cons,List.length_cons,ih,Nat.succ_mul];omega
theorem HI (ns:List Bytes) (s:List Sh) (r:List (List Sh)):(Bw ns (s::r)).length=(BG s).length+(Bw ns.tail r).length:=by
 simp [Bw]
theorem K2 (m:Int):(Bt (.bit m)).length=2 ^ m.toNat:=by simp [Bt]
theorem Nw:∀ (ps:List Sh),(∀ x∈ps,(Bt x).length≤2 ^ shX x)→(BG ps).length≤2 ^ ID ps
 | [],_=>by simp [BG,ID]
 | x::r,h=>by
  rw [Ef]
  simp only [ID,Nat.pow_add]
  exact Nat.mul_le_mul (h x (by simp)) (Nw r fun y hy=>h y (by simp [hy]))
theorem Nx:∀ (ss:List (List Sh)) (ns:List Bytes) (m:Nat),(∀ s∈ss,(BG s).length≤2 ^ m)→(Bw ns ss).length≤ss.length * 2 ^ m
 | [],ns,m,_=>by simp [Bw]
 | s::r,ns,m,h=>by
  rw [HI]
  have h1:=h s (by simp)
  have h2:=Nx r ns.tail m fun y hy=>h y (by simp [hy])
  simp only [List.length_cons,Nat.succ_mul]
  omega
theorem Lr {s:List Sh}:∀ {r:List (List Sh)},s∈r→ID s≤Gt r
 | y::r,h=>by
  simp only [Gt]
  rcases List.mem_cons.1 h with rfl | h
  ·omega
  ·have:=Lr h;omega
theorem WQ (n:Nat) (h:n≤16):n≤2 ^ (I8 n).toNat:=by
 have:∀ m:Fin 17,m.1≤2 ^ (I8 m.1).toNat:=by decide
 exact this ⟨n,by omega⟩
inductive UB:Sh→Prop
 | bit (m:Int):UB (.bit m)
 | cons (ns:List Bytes) (ss:List (List Sh)) (h1:ss.length≤16) (h2:∀ s∈ss,∀ x∈s,UB x):UB (.cons ns ss)
theorem WR {s:Sh} (h:UB s):(Bt s).length≤2 ^ shX s:=by
 induction h with
 | bit m=>rw [K2];exact Nat.le_refl _
 | cons ns ss h1 h2 ih=>
  have h3:=Nx ss ns (Gt ss) fun s hs=>Nat.le_trans (Nw s fun x hx=>ih s hs x hx) (Nat.pow_le_pow_right (by decide) (Lr hs))
  simp only [Bt,shX,Nat.pow_add]
  exact Nat.le_trans h3 (Nat.mul_le_mul_right _ (WQ _ h1))
theorem WS {l:List AO} (hd:DV l) {t:TyV} {s:Sh} (hs:C5 l t s):VT l t→UB s:=by
 induction hs with
 | bit t hb hw h2=>exact fun _=> .bit _
 | cons t ns ss hb hk hn hl hsp hf ih=>
  intro hv
  obtain ⟨c1,c2,c3⟩:=hd.con t hv hk hb
  refine .cons _ _ (by omega) fun s hs x hx => ?_
  obtain ⟨i,hi,rfl⟩:=List.getElem_of_mem hs
  obtain ⟨j,hj,rfl⟩:=List.getElem_of_mem hx
  have hci:=List.getElem?_eq_getElem (l:=AP l t) (i:=i) (by omega)
  have hfl:=hsp i _ _ hci (List.getElem?_eq_getElem hi)
  have hfj:=List.getElem?_eq_getElem (l:=((AP l t)[i]'(by omega)).fields) (i:=j) (by omega)
  exact ih i _ _ j _ _ hci (List.getElem?_eq_getElem hi) hfj (List.getElem?_eq_getElem hj) (hd.dok.fld t hv hk hb _ (List.getElem_mem _) _ (List.mem_of_getElem? hfj))
theorem JV {l:List AO} {t:TyV} (hsl:SmL 1048577 l) (hst:Sm 1048577 t) (h:Cv l t=0):(Bt (Bb l t)).length≤65536:=by
 obtain ⟨a,b,c⟩:=Gj h
 have hw:=T6 a hsl c b hst
 have h16:=WS (HE a) c b
 unfold Cv at h
 rw [if_pos a] at h
 unfold FD at h
 split at h
 ·split at h
  ·rename_i hz
   split at h
   ·rename_i hr
    have hN:=T9 l 40 t 0 _ c hz
    have hR:=(HB l 40 t 0 (by decide) (by decide)).2.2 hz
    have hX:=Ye hw (by omega)
    have hle:=WR h16
    refine Nat.le_trans hle ?_
    exact Nat.le_trans (Nat.pow_le_pow_right (by decide) (show shX (Bb l t)≤16 by omega)) (by decide)
   ·cases h
  ·rename_i hz;exact absurd h hz
 ·rename_i hz;exact absurd h hz
end Go.Proofs.Am12
namespace Go.Proofs.Am12
open Go Go.Am
attribute [local simp] Dz Cd EW D0 Cq D1 D2 Ez Bd BS Bg Al F9 E7 EP Gw Dv BA E3 ER Gx Gy xUn El Dw E8 BO DC BP Dx BQ Dy Cu Cj CL BH ES EU
 ev evs Cz DB OR.ofV OR.Dd OR.ofC E9 Tm.get Tm.init Tm.only A3 BB CV finish CO Cc Gu Dk Du unA Cf Bz Cg B6 DI DJ DK B7 DL DM B8 DN DP B9 Ch AU CY Bx DG DH Ce E0 E1 E2 D3 D4 Fa GG GH Fb stA A5 DS Bv DD Em GY Ci Db CZ FB GZ
set_option maxHeartbeats 1000000
attribute [local simp] Dl Cr CW Bm Dm Dn Dp Dq Dr Ds Dt Et DU Eu EA Fl Fm HL EB Ev EC Bq ED Br EF Cx Ew DW Fo Fp Fq DX EG EH Fs HM Ft HN HO EJ Bs DY Cy EK EL DZ
theorem QN (n:Int):wr .i64 n=n.bmod 18446744073709551616:=by
 rw [Int.bmod_def]
 have e:(((18446744073709551616:Nat):Int)+1) / 2=9223372036854775808:=by decide
 have e2:((18446744073709551616:Nat):Int)=18446744073709551616:=rfl
 rw [e,e2]
 show (match decide (0≤n∧n<9223372036854775808) with
  | true=>n
  | false=>match decide (n % 18446744073709551616<9223372036854775808) with
   | true=>n % 18446744073709551616
   | false=>n % 18446744073709551616 - 18446744073709551616)=_
 by_cases h:0≤n∧n<9223372036854775808
 ·rw [decide_eq_true h]
  have:n % 18446744073709551616=n:=Int.emod_eq_of_lt h.1 (by omega)
  rw [this,if_pos h.2]
 ·rw [decide_eq_false h]
  by_cases h2:n % 18446744073709551616<9223372036854775808
  ·rw [decide_eq_true h2,if_pos h2]
  ·rw [decide_eq_false h2,if_neg h2]
theorem WT (p q:Nat):wr .i64 (wr .i64 (p:Int) * wr .i64 (q:Int))=wr .i64 ((p * q:Nat):Int):=by
 simp only [QN,Int.bmod_mul_bmod,Int.mul_bmod_bmod,Int.natCast_mul]
theorem WU (p q:Nat):wr .i64 (wr .i64 (p:Int)+wr .i64 (q:Int))=wr .i64 ((p+q:Nat):Int):=by
 simp only [QN,Int.bmod_add_bmod,Int.add_bmod_bmod,Int.natCast_add]
theorem GP {n:Nat} (h:n<9223372036854775808):wr .i64 (n:Int)=n:=Be (by omega) (by omega)
abbrev cn (s:Sh):Nat:=(Bt s).length
abbrev cnP (ps:List Sh):Nat:=(BG ps).length
def cnC:List (List Sh)→Nat
 | []=>0
 | s::r=>cnP s+cnC r
theorem Me:∀ (ss:List (List Sh)) (ns:List Bytes),(Bw ns ss).length=cnC ss
 | [],ns=>by simp [Bw,cnC]
 | s::r,ns=>by rw [HI,Me r];rfl
theorem UC {s:List Sh} {j:Nat} (hj:j<s.length):cnP (s.drop j)=cn s[j] * cnP (s.drop (j+1)):=by
 rw [List.drop_eq_getElem_cons hj];exact Ef _ _
theorem Ny {ss:List (List Sh)} {j:Nat} (hj:j<ss.length):cnC (ss.drop j)=cnP ss[j]+cnC (ss.drop (j+1)):=by
 rw [List.drop_eq_getElem_cons hj];rfl
section
variable {l:List AO} {lv:AV} (hl:SlR Ab 3 l lv) (hsl:SmL 1048577 l) (hok:DOK l)
include hl hsl hok
theorem c69 {t:TyV} {ns:List Bytes} {ss:List (List Sh)} (hst:Sm 1048577 t) (hv:VT l t) (hs:C5 l t (.cons ns ss)) (ih:∀ s∈ss,∀ x∈s,∀ (t:TyV) (xs:List AV),AQ t xs→Sm 1048577 t→VT l t→C5 l t x→∀ h,AL MX (AH MX) 21 [lv,.agg xs] h=some (.ret (.int .i64 (wr .i64 (cn x))),h))
  {i:Nat} (hi:i<(AP l t).length) (hi2:i<ss.length) {cx:List AV} (hcx:C2 (AP l t)[i] cx) (h:AF):AL MX (AH MX) 69 [lv,.agg cx] h=some (.ret (.int .i64 (wr .i64 (cnP ss[i]))),h):=by
 cases hs with
 | cons _ _ _ hb hk hnn hll hs0 hf0=>
 have hn2:([lv,AV.agg cx]:List AV).all AV.AD=true:=by simp [AV.AD,FU _ _ hcx,hl.AD]
 have hcsm:=Ee hsl hst (by decide)
 have hvf:=hok.fld t hv hk hb
 obtain ⟨fv,rfl,hfv⟩:=hcx.dest
 have f1:=hs0 i _ _ (List.getElem?_eq_getElem hi) (List.getElem?_eq_getElem hi2)
 have f2:=fun j f y=>hf0 i _ _ j f y (List.getElem?_eq_getElem hi) (List.getElem?_eq_getElem hi2)
 have hsc:=hcsm.2 _ (List.getElem_mem hi)
 obtain ⟨e,st,hlp,hq⟩:=AR (M:=MX) (fid:=69) (N:=25) (C:=AH MX) (c:=AU Tryz.f69 0) (n:=(AP l t)[i].fields.length)
  (fun j (p:Nat)=>([(0,lv),(3,.hp 0 0),(5,.int .i64 (wr .i64 p)),(6,.int .i64 j)],[Blk.var false [AV.str (AP l t)[i].nm,fv]]))
  (fun j p=>cnP ss[i]=p * cnP (ss[i].drop j))
  (fun r=>r=(.ext 0,([(0,lv),(3,.hp 0 0),(5,.int .i64 (wr .i64 (cnP ss[i]))),(6,.int .i64 (AP l t)[i].fields.length),(11,.bool false)],[Blk.var false [AV.str (AP l t)[i].nm,fv]]))) (fun j p hj hJ=>by
    obtain ⟨fe,hfe,hfR⟩:=hfv.ix hj
    have hj':=AZ hj
    have hwj:=AY hj hsc.2.1
    have hmf:=List.getElem_mem hj
    have hjs:j<ss[i].length:=by omega
    obtain ⟨tx,rfl,htx⟩:=hfR
    have hrec:=ih ss[i] (List.getElem_mem hi2) ss[i][j] (List.getElem_mem hjs) (AP l t)[i].fields[j].ty tx htx (hsc.2.2 _ hmf).2 (hvf _ (List.getElem_mem hi) _ hmf) (f2 j _ _ (List.getElem?_eq_getElem hj) (List.getElem?_eq_getElem hjs))
    obtain ⟨qv,rfl,hqv⟩:=htx.AW
    rw [UC hjs] at hJ
    have hm:=WT p (cn ss[i][j])
    exact .inl ⟨p * cn ss[i][j],by simp only [cn] at hrec hm ⊢;simp [Tryz.f69,hfv.len,hj',hfe,hrec,hwj];simpa using hm,by rw [hJ,Nat.mul_assoc]⟩) (fun p hJ=>by
    rw [List.drop_of_length_le (by omega)] at hJ
    simp only [cnP,BG,List.length_singleton,Nat.mul_one] at hJ
    exact ⟨_,_,by simp [Tryz.f69,hfv.len] <;> first | exact ⟨rfl,rfl⟩ | rfl,by simp,by simp only [cnP];rw [hJ]⟩) 1 (by simp)
 cases hq
 simp [Tryz.f69] at hlp
 rw [show wr .i64 1=1 from rfl] at hlp
 exact Ak U3 Xs hn2 rfl (hr:=[Blk.var false [AV.str (AP l t)[i].nm,fv]]) (by simp [AN,Tryz.f69,hlp]) h
theorem c21 (s:Sh):∀ (t:TyV) (xs:List AV),AQ t xs→Sm 1048577 t→VT l t→C5 l t s→∀ h,AL MX (AH MX) 21 [lv,.agg xs] h=some (.ret (.int .i64 (wr .i64 (cn s))),h):=by
 induction s using Sh.ind with
 | hb n=>
  intro t xs hx hst hv hs h
  have hn:([lv,AV.agg xs]:List AV).all AV.AD=true:=by simp [AV.AD,hx.AG,hl.AD]
  have hB:=c66 hx
  obtain ⟨pv,rfl,hp⟩:=hx.AW
  cases hs with
  | bit _ hb hw=>
   have hb1:=hok.bit t hv hb
   obtain ⟨e,he,hR⟩:=hp.ix (i:=0) (by omega)
   have hag:BF t=t.ps[0]'(by omega):=by simp [BF,hb1]
   rw [← hag] at hR
   obtain ⟨qv,rfl,hq⟩:=hR.AW
   have h67:=c67 (BF t).v (by omega) (by omega)
   have hle:(2:Nat) ^ (BF t).v.toNat≤65536:=Nat.le_trans (Nat.pow_le_pow_right (by decide) (show (BF t).v.toNat≤16 by omega)) (by decide)
   have hcn:wr .i64 ((cn (.bit (BF t).v):Nat):Int)=((2 ^ (BF t).v.toNat:Nat):Int):=by
    rw [cn,K2];exact GP (by omega)
   rw [hcn]
   simp only [Int.natCast_zero] at he
   exact Ak PV SF hn rfl (hr:=[Blk.var false [AV.int .i64 t.k,AV.int .i64 t.v,AV.str t.nm,pv]]) (by simp at h67;simp [AN,Tryz.f21,hB,hb,he,h67]) h
 | hc ns ss ih=>
  intro t xs hx hst hv hs h
  have h69:=fun i hi hi2 cx hcx=>c69 hl hsl hok hst hv hs ih (i:=i) hi hi2 (cx:=cx) hcx
  cases hs with
  | cons _ _ _ hb hk hnn hll hs0 hf0=>
  have hn:([lv,AV.agg xs]:List AV).all AV.AD=true:=by simp [AV.AD,hx.AG,hl.AD]
  have hB:=c66 hx
  obtain ⟨w,hw,h68⟩:=c68 hl hsl hx hst (hok.has t hv hk hb)
  have hcsm:=Ee hsl hst (by decide)
  obtain ⟨pv,rfl,hp⟩:=hx.AW
  obtain ⟨e,st,hlp,hq⟩:=AR (M:=MX) (fid:=21) (N:=34) (C:=AH MX) (c:=AU Tryz.f21 0) (n:=(AP l t).length)
   (fun i (p:Nat)=>([(0,lv),(5,w),(6,.int .i64 (wr .i64 p)),(7,.int .i64 i)],[Blk.var false [AV.int .i64 t.k,AV.int .i64 t.v,AV.str t.nm,pv]]))
   (fun i p=>cnC ss=p+cnC (ss.drop i))
   (fun r=>r=(.ext 0,([(0,lv),(5,w),(6,.int .i64 (wr .i64 (cnC ss))),(7,.int .i64 (AP l t).length),(22,.bool false)],[Blk.var false [AV.int .i64 t.k,AV.int .i64 t.v,AV.str t.nm,pv]]))) (fun i p hi hI=>by
     obtain ⟨ce,hce,hcR⟩:=hw.ix hi
     have hi':=AZ hi
     have hwi:=AY hi hcsm.1
     have hi2:i<ss.length:=by omega
     have hW:=h69 i hi hi2 ce hcR
     obtain ⟨fv,rfl,hfv⟩:=hcR.dest
     rw [Ny hi2] at hI
     have hm:=WU p (cnP ss[i])
     exact .inl ⟨p+cnP ss[i],by simp only [cnP] at hW hm ⊢;simp [Tryz.f21,hw.len,hi',hce,hW,hwi];simpa using hm,by rw [hI,Nat.add_assoc]⟩) (fun p hI=>by
     rw [List.drop_of_length_le (by omega)] at hI
     simp only [cnC,Nat.add_zero] at hI
     exact ⟨_,_,by simp [Tryz.f21,hw.len] <;> first | exact ⟨rfl,rfl⟩ | rfl,by simp,by rw [hI]⟩) 0 (by simp)
  cases hq
  simp [Tryz.f21] at hlp
  rw [show wr .i64 0=0 from rfl] at hlp
  have hcn:cn (.cons ns ss)=cnC ss:=by simp only [cn,Bt,Me]
  rw [hcn]
  exact Ak PV SF hn rfl (hr:=[Blk.var false [AV.int .i64 t.k,AV.int .i64 t.v,AV.str t.nm,pv]]) (by simp [AN,Tryz.f21,hB,hb,h68,hlp]) h
end
theorem c13 {k:C7} {xs:List AV} (hx:Ck k xs) (hsk:SmT 1048577 k) (hE:(AX k.data k.ty k.arms).2=0) (h:AF):AL MX (AH MX) 13 [.agg xs] h=some (.ret (.bool (decide (cn (Bb k.data k.ty)≤300))),h):=by
 have h1:Cv k.data k.ty=0:=(H8 hE).1
 obtain ⟨a,b,c⟩:=Gj h1
 have hle:=JV hsk.1 hsk.2.1 h1
 have hxn:AG xs=true:=by obtain ⟨dv,pv,av,rfl,hd,hp,ht,ha⟩:=hx.dest;simp [AV.AD,AG,hd.AD,hp.AD,ha.AD]
 obtain ⟨dv,pv,av,rfl,hd,hp,ht,ha⟩:=hx.dest
 have h21:=c21 hd hsk.1 (HE a).dok _ k.ty _ ht hsk.2.1 b c
 rw [GP (show cn (Bb k.data k.ty)<9223372036854775808 by simp only [cn];omega)] at h21
 have hdec:decide (((cn (Bb k.data k.ty):Nat):Int)≤300)=decide (cn (Bb k.data k.ty)≤300):=by
  rw [decide_eq_decide];omega
 rw [← hdec]
 exact Ak Us Xf (by simp [AV.AD,hxn]) rfl (hr:=_) (by simp [AN,Tryz.f13,h21] <;> rfl) h
theorem ms_32 (n:Nat) (hn:n<1048577) (h:AF):EV MX.ty 32 (.int .i64 n) (.int .i64 n) h=some (Aw h 3 (List.replicate n [.str [],.int .i64 0,.AI])):=by
 have e1:und MX.ty 32=some (.slice 34):=by kernel_rfl
 have e2:siz MX.ty 34=3:=by kernel_rfl
 have e3:byt MX.ty 34=48:=by kernel_rfl
 have e4:C6 MX.ty 34=some [.str [],.int .i64 0,.AI]:=by kernel_rfl
 have h1:(n:Int)<17592186044416:=by omega
 have h2:48 * (n:Int)≤17592186044416:=by omega
 unfold EV
 simp only [e1,Am.intOf,e2,e3,e4]
 simp [Aw,h1,h2]
theorem ShW.pos {s:Sh} (h:ShW s):0<cn s:=by
 induction h with
 | bit m h0 h1=>rw [cn,K2];exact Nat.pow_pos (by decide)
 | cons ns ss h1 h2 h3 h4 h5 h6 h7 ih=>
  have hp:∀ (r:List Sh),(∀ x∈r,0<cn x)→0<cnP r:=by
   intro r
   induction r with
   | nil=>intro _;simp [cnP,BG]
   | cons x r ihr=>
    intro hr
    rw [cnP,Ef]
    exact Nat.mul_pos (hr x (by simp)) (ihr fun y hy=>hr y (by simp [hy]))
  cases ss with
  | nil=>exact absurd (List.eq_nil_of_length_eq_zero (by simpa using h1.symm)) h2
  | cons s r=>
   have h8:cn (.cons ns (s::r))=cnP s+(Bw ns.tail r).length:=by simp only [cn,Bt,HI]
   rw [h8]
   have:=hp s fun x hx=>ih s (by simp) x hx
   omega
theorem QO {r:List Sh} (h:∀ x∈r,ShW x):0<cnP r:=by
 induction r with
 | nil=>simp [cnP,BG]
 | cons x r ih=>
  rw [cnP,Ef]
  exact Nat.mul_pos (h x (by simp)).pos (ih fun y hy=>h y (by simp [hy]))
theorem Mf {s:List Sh}:∀ {r:List (List Sh)},s∈r→cnP s≤cnC r
 | y::r,h=>by
  simp only [cnC]
  rcases List.mem_cons.1 h with rfl | h
  ·omega
  ·have:=Mf h;omega
theorem Mg {x:Sh}:∀ {r:List Sh},(∀ y∈r,ShW y)→x∈r→cn x≤cnP r
 | y::r,hw,h=>by
  rw [cnP,Ef]
  rcases List.mem_cons.1 h with rfl | h
  ·exact Nat.le_mul_of_pos_right _ (QO fun y hy=>hw y (by simp [hy]))
  ·exact Nat.le_trans (Mg (fun y hy=>hw y (by simp [hy])) h) (Nat.le_mul_of_pos_left _ (hw y (by simp)).pos)
theorem RQ (x:Sh) (r:List Sh) (m:Nat) (h:m<cn x * cnP r):∃ (h1:m / cnP r<cn x) (h2:m % cnP r<cnP r),(BG (x::r))[m]? = some ((Bt x)[m / cnP r]::(BG r)[m % cnP r]):=by
 have hp:0<cnP r:=by
  rcases Nat.eq_zero_or_pos (cnP r) with h0 | h0
  ·rw [h0,Nat.mul_zero] at h;omega
  ·exact h0
 have h1:m / cnP r<cn x:=Nat.div_lt_of_lt_mul (by rw [Nat.mul_comm];exact h)
 have h2:=Nat.mod_lt m hp
 refine ⟨h1,h2,?_⟩
 have key:∀ (L:List TyV) (m:Nat) (h:m<L.length * cnP r) (h1:m / cnP r<L.length),(L.flatMap fun v=>(BG r).map fun ps=>v::ps)[m]? = some (L[m / cnP r]::(BG r)[m % cnP r]'(Nat.mod_lt m hp)):=by
  intro L
  induction L with
  | nil=>intro m h;simp at h
  | cons v L ih=>
   intro m h h1
   rw [List.flatMap_cons]
   by_cases hm:m<cnP r
   ·rw [List.getElem?_append_left (by simpa using hm)]
    have e1:m / cnP r=0:=Nat.div_eq_of_lt hm
    have e2:m % cnP r=m:=Nat.mod_eq_of_lt hm
    simp only [e1,e2,List.getElem_cons_zero,List.getElem?_map,List.getElem?_eq_getElem hm,Option.map_some]
   ·have hm:cnP r≤m:=by omega
    rw [List.getElem?_append_right (by simpa using hm)]
    have hl:((BG r).map fun ps=>v::ps).length=cnP r:=by simp
    rw [hl]
    have hlt:m - cnP r<L.length * cnP r:=by
     rw [List.length_cons,Nat.succ_mul] at h;omega
    have e1:(m - cnP r) / cnP r=m / cnP r - 1:=by rw [Nat.div_eq_sub_div hp hm,Nat.add_sub_cancel]
    have e2:(m - cnP r) % cnP r=m % cnP r:=(Nat.mod_eq_sub_mod hm).symm
    have hd:0<m / cnP r:=Nat.div_pos hm hp
    have hlt2:(m - cnP r) / cnP r<L.length:=by rw [e1];rw [List.length_cons] at h1;omega
    rw [ih (m - cnP r) hlt hlt2]
    simp only [e1,e2]
    congr 2
    rw [List.getElem_cons,dif_neg (by omega)]
 simp only [BG]
 exact key _ m h h1
theorem JI (x:Sh) (r:List Sh):cnP (x::r)=cn x * cnP r:=Ef x r
def dn (n i:Nat):Int:=(n:Int) - 1 - i
theorem WX {ns:List Bytes} {ss:List (List Sh)} (hl:ss.length=ns.length) {i:Nat} (h1:i<ns.length) (h2:i<ss.length) {m:Nat} (h:m<cnP ss[i]):(Bw (ns.drop i) (ss.drop i))[m]? = some (.mk 0 0 ns[i] ((BG ss[i])[m]'h)):=by
 have e1:ns.drop i=ns[i]::ns.drop (i+1):=List.drop_eq_getElem_cons h1
 have e2:ss.drop i=ss[i]::ss.drop (i+1):=List.drop_eq_getElem_cons h2
 rw [e1,e2]
 simp only [Bw,List.headD_cons,List.tail_cons]
 rw [List.getElem?_append_left (by simpa using h)]
 simp
theorem UD {ns:List Bytes} {ss:List (List Sh)} (hl:ss.length=ns.length) {i:Nat} (h1:i<ns.length) (h2:i<ss.length) {m:Nat} (h:cnP ss[i]≤m):(Bw (ns.drop i) (ss.drop i))[m]? = (Bw (ns.drop (i+1)) (ss.drop (i+1)))[m - cnP ss[i]]? := by
 have e1:ns.drop i=ns[i]::ns.drop (i+1):=List.drop_eq_getElem_cons h1
 have e2:ss.drop i=ss[i]::ss.drop (i+1):=List.drop_eq_getElem_cons h2
 rw [e1,e2]
 simp only [Bw,List.headD_cons,List.tail_cons]
 rw [List.getElem?_append_right (by simpa using h)]
 simp
structure AtI (ps:List Sh) (m:Nat) (es:List (List AV)) (j:Nat):Prop where
 len:es.length=ps.length
 le:j≤ps.length
 r3:∀ e∈es,e.length=3
 rep:∀ (q:List TyV),(BG (ps.drop j))[m % cnP (ps.drop j)]? = some q→∀ (i:Nat) p e,q[i]? = some p→es[j+i]? = some e→A7 p e
theorem AtI.next {ps:List Sh} (hw:∀ x∈ps,ShW x) {m:Nat} {es:List (List AV)} {j:Nat} (h:AtI ps m es (j+1)) {hj:j<ps.length} {row:List AV} {hlt:m / cnP (ps.drop (j+1)) % cn ps[j]<cn ps[j]} (hr:A7 ((Bt ps[j])[m / cnP (ps.drop (j+1)) % cn ps[j]]'hlt) row):AtI ps m (es.set j row) j:=by
 obtain ⟨h1,h2,h4,h3⟩:=h
 refine ⟨by simp [h1],by omega,fun e he=>by
  rcases List.mem_or_eq_of_mem_set he with he | rfl
  ·exact h4 e he
  ·obtain ⟨v,rfl,_⟩:=hr.AW;rfl,fun q hq i p e hp he => ?_⟩
 have e1:ps.drop j=ps[j]::ps.drop (j+1):=List.drop_eq_getElem_cons hj
 have hwd:∀ x∈ps.drop (j+1),ShW x:=fun x hx=>hw x (List.mem_of_mem_drop hx)
 have hP:=QO hwd
 have hc:=(hw _ (List.getElem_mem hj)).pos
 rw [e1] at hq
 have hm:m % cnP (ps[j]::ps.drop (j+1))<cn ps[j] * cnP (ps.drop (j+1)):=by
  rw [JI];exact Nat.mod_lt _ (Nat.mul_pos hc hP)
 obtain ⟨g1,g2,g3⟩:=RQ ps[j] (ps.drop (j+1)) _ hm
 rw [g3] at hq
 simp only [Option.some.injEq] at hq
 subst hq
 have d1:m % cnP (ps[j]::ps.drop (j+1)) / cnP (ps.drop (j+1))=m / cnP (ps.drop (j+1)) % cn ps[j]:=by
  rw [JI,Nat.mul_comm,Nat.mod_mul_right_div_self]
 have d2:m % cnP (ps[j]::ps.drop (j+1)) % cnP (ps.drop (j+1))=m % cnP (ps.drop (j+1)):=by
  rw [JI,Nat.mod_mul_left_mod]
 cases i with
 | zero=>
  simp only [List.getElem?_cons_zero,Option.some.injEq] at hp
  rw [Nat.add_zero,List.getElem?_set_self (by omega)] at he
  simp only [Option.some.injEq] at he
  subst he
  subst hp
  simp only [d1]
  exact hr
 | succ i=>
  simp only [List.getElem?_cons_succ] at hp
  rw [List.getElem?_set_ne (by omega)] at he
  refine h3 _ ?_ i p e hp (by rw [← he];congr 1;omega)
  rw [← d2]
  exact List.getElem?_eq_getElem _
theorem AtI.div {ps:List Sh} {m j:Nat} (hj:j<ps.length):m / cnP (ps.drop (j+1)) / cn ps[j]=m / cnP (ps.drop j):=by
 rw [Nat.div_div_eq_div_mul,List.drop_eq_getElem_cons hj,JI,Nat.mul_comm]
theorem Yf (a b:Nat) (hb:0<b) (ha:a<9223372036854775808):wr .i64 ((a:Int).tdiv b)=((a / b:Nat):Int):=by
 rw [show (a:Int).tdiv b=((a / b:Nat):Int) from rfl]
 exact GP (Nat.lt_of_le_of_lt (Nat.div_le_self a b) ha)
theorem Yg (a b:Nat):((a:Int).tmod b)=((a % b:Nat):Int):=rfl
theorem Yh {a b:Nat} (h:b≤a) (ha:a<9223372036854775808):wr .i64 ((a:Int) - (b:Int))=((a - b:Nat):Int):=by
 rw [show (a:Int) - (b:Int)=((a - b:Nat):Int) by omega]
 exact GP (by omega)
section
variable {l:List AO} {lv:AV} (hl:SlR Ab 3 l lv) (hsl:SmL 1048577 l) (hok:DOK l)
include hl hsl hok
def At25 (l:List AO) (lv:AV) (x:Sh):Prop:=∀ (t:TyV) (xs:List AV) (n:Nat) (hn:n<cn x),AQ t xs→Sm 1048577 t→VT l t→C5 l t x→∃ ys,A7 ((Bt x)[n]'hn) ys∧∀ h,AL MX (AH MX) 25 [lv,.agg xs,.int .i64 n] h=some (.ret (.agg ys),h)
theorem WY {t:TyV} {xs:List AV} (hx:AQ t xs) (hst:Sm 1048577 t) (hv:VT l t) {ns:List Bytes} {ss:List (List Sh)} (hs:C5 l t (.cons ns ss)) (hw:ShW (.cons ns ss)) (hb:cn (.cons ns ss)≤65536) {w:AV} (hwr:SlR C2 2 (AP l t) w) {n:Nat} (hn:n<cn (.cons ns ss)) (T:AF) :
  ∃ (i m:Nat) (h1:i<ns.length) (h2:i<ss.length) (h3:m<cnP ss[i]),(Bt (.cons ns ss))[n]=.mk 0 0 ns[i] ((BG ss[i])[m]'h3)∧cnP ss[i]≤65536 ∧
   E6 MX 25 83 (AH MX) (AU Tryz.f25 0) ([(0,lv),(2,.int .i64 n),(6,.hp 1 0),(7,w),(8,.int .i64 (0:Nat))],T)=some (.ext 0,([(0,lv),(2,.int .i64 m),(6,.hp 1 0),(7,w),(8,.int .i64 i),(27,.bool false)],T)):=by
 have h69:=fun i hi hi2 cx hcx=>c69 hl hsl hok hst hv hs (fun s _ x _=>c21 hl hsl hok x) (i:=i) hi hi2 (cx:=cx) hcx
 have hcn:cn (.cons ns ss)=cnC ss:=by simp only [cn,Bt,Me]
 cases hw with
 | cons _ _ w1 w2 w3 w4 w5 w6 w7=>
 cases hs with
 | cons _ _ _ hb' hk hnn hll hs0 hf0=>
 have hcsm:=Ee hsl hst (by decide)
 have hle:∀ i (hi:i<ss.length),cnP ss[i]≤65536:=fun i hi=>by
  have:=Mf (List.getElem_mem hi);omega
 obtain ⟨e,st,hlp,hq⟩:=AR (M:=MX) (fid:=25) (N:=83) (C:=AH MX) (c:=AU Tryz.f25 0) (n:=ss.length)
  (fun i (m:Nat)=>([(0,lv),(2,.int .i64 m),(6,.hp 1 0),(7,w),(8,.int .i64 i)],T))
  (fun i m=>m<cnC (ss.drop i)∧m≤n∧(Bw ns ss)[n]? = (Bw (ns.drop i) (ss.drop i))[m]?)
  (fun r=>∃ (i m:Nat) (h1:i<ns.length) (h2:i<ss.length) (h3:m<cnP ss[i]),(Bw ns ss)[n]? = some (.mk 0 0 ns[i] ((BG ss[i])[m]'h3))∧r=(.ext 0,([(0,lv),(2,.int .i64 m),(6,.hp 1 0),(7,w),(8,.int .i64 i),(27,.bool false)],T))) (fun i m hi hI=>by
    obtain ⟨j1,j0,j2⟩:=hI
    have hin:i<ns.length:=by omega
    have hic:i<(AP l t).length:=by omega
    obtain ⟨ce,hce,hcR⟩:=hwr.ix hic
    have hwi:=AY (show i<ns.length by omega) w3
    have hW:=h69 i hic hi ce hcR
    have hli:=hle i hi
    rw [GP (show cnP ss[i]<9223372036854775808 by omega)] at hW
    obtain ⟨fv,rfl,hfv⟩:=hcR.dest
    by_cases hge:cnP ss[i]≤m
    ·have hgi:((m:Int) ≥ (cnP ss[i]:Int)):=by omega
     have hsub:=Yh hge (show m<9223372036854775808 by omega)
     refine .inl ⟨m - cnP ss[i],by simp only [cnP] at hW hgi hsub ⊢;simp [Tryz.f25,hce,hW,hgi,hsub,hwi],?_,by omega,by rw [j2,UD w1 hin hi hge]⟩
     rw [Ny hi] at j1
     omega
    ·have hgi:¬ ((m:Int) ≥ (cnP ss[i]:Int)):=by omega
     refine .inr ⟨_,_,by simp only [cnP] at hW hgi ⊢;simp [Tryz.f25,hce,hW,hgi] <;> first | exact ⟨rfl,rfl⟩ | rfl,by simp,i,m,hin,hi,by omega,by rw [j2,WX w1 hin hi (by omega)],rfl⟩) (fun m hI=>by
    obtain ⟨j1,_,_⟩:=hI
    rw [List.drop_of_length_le (Nat.le_refl _)] at j1
    simp [cnC] at j1) n ⟨by rw [List.drop_zero,← hcn];exact hn,Nat.le_refl _,rfl⟩
 obtain ⟨i,m,h1,h2,h3,h4,h5⟩:=hq
 cases h5
 refine ⟨i,m,h1,h2,h3,?_,hle i h2,hlp⟩
 have hl':n<(Bw ns ss).length:=hn
 rw [List.getElem?_eq_getElem hl'] at h4
 simp only [Option.some.injEq] at h4
 simpa [Bt] using h4
end
theorem WZ {n i:Nat} (hi:i<n):dn n i=((n - 1 - i:Nat):Int)∧(dn n i ≥ 0):=by
 unfold dn;constructor <;> omega
section
variable {l:List AO} {lv:AV} (hl:SlR Ab 3 l lv) (hsl:SmL 1048577 l) (hok:DOK l)
include hl hsl hok
theorem Wa {t:TyV} (hst:Sm 1048577 t) (hv:VT l t) {ns:List Bytes} {ss:List (List Sh)} (hs:C5 l t (.cons ns ss)) (hw:ShW (.cons ns ss)) (ih:∀ s∈ss,∀ x∈s,At25 l lv x) {w:AV} (hwr:SlR C2 2 (AP l t) w) {i:Nat} (h2:i<ss.length) (hbd:cnP ss[i]≤65536) {m:Nat} (hm:m<cnP ss[i]) (B0 B1:Blk) :
  ∃ (es:List (List AV)) (T:AF) (z:Int),AtI ss[i] m es 0∧E6 MX 25 83 (AH MX) (AU Tryz.f25 1) ([(0,lv),(2,.int .i64 m),(6,.hp 1 0),(7,w),(8,.int .i64 i),(9,.hs 2 ss[i].length 3 0 ss[i].length false),(10,.int .i64 (dn ss[i].length 0))],B0::B1::.arr 3 false (List.replicate ss[i].length [.str [],.int .i64 0,.AI])::[])=some (.ext 2,([(0,lv),(2,.int .i64 z),(6,.hp 1 0),(7,w),(8,.int .i64 i),(9,.hs 2 ss[i].length 3 0 ss[i].length false),(10,.int .i64 (-1)),(49,.bool false)],B0::B1::.arr 3 false es::T)):=by
 have hbf:=Qg
 simp [BE,BU,Tryz.f25] at hbf
 cases hw with
 | cons _ _ w1 w2 w3 w4 w5 w6 w7=>
 cases hs with
 | cons _ _ _ hb' hk hnn hll hs0 hf0=>
 have hcsm:=Ee hsl hst (by decide)
 have hic:i<(AP l t).length:=by omega
 obtain ⟨ce,hce,hcR⟩:=hwr.ix hic
 obtain ⟨fv,rfl,hfv⟩:=hcR.dest
 have hvf:=hok.fld t hv hk hb'
 have hsc:=hcsm.2 _ (List.getElem_mem hic)
 have f1:=hs0 i _ _ (List.getElem?_eq_getElem hic) (List.getElem?_eq_getElem h2)
 have f2:=fun j f y=>hf0 i _ _ j f y (List.getElem?_eq_getElem hic) (List.getElem?_eq_getElem h2)
 have hmem:=List.getElem_mem h2
 obtain ⟨P,hP⟩:∃ P,P=ss[i]:=⟨_,rfl⟩
 rw [← hP] at f1 f2 hm hbd hmem ⊢
 have hwP:=w5 P hmem
 have hPl:=w4 P hmem
 obtain ⟨e,st,hlp,hq⟩:=AR (M:=MX) (fid:=25) (N:=83) (C:=AH MX) (c:=AU Tryz.f25 1) (n:=P.length)
  (fun q (b:List (List AV)×AF)=>([(0,lv),(2,.int .i64 ((m / cnP (P.drop (P.length - q)):Nat):Int)),(6,.hp 1 0),(7,w),(8,.int .i64 i),(9,.hs 2 P.length 3 0 P.length false),(10,.int .i64 (dn P.length q))],B0::B1::.arr 3 false b.1::b.2))
  (fun q b=>q≤P.length∧AtI P m b.1 (P.length - q))
  (fun r=>∃ (b:List (List AV)×AF) (z:Int),AtI P m b.1 0∧r=(.ext 2,([(0,lv),(2,.int .i64 z),(6,.hp 1 0),(7,w),(8,.int .i64 i),(9,.hs 2 P.length 3 0 P.length false),(10,.int .i64 (-1)),(49,.bool false)],B0::B1::.arr 3 false b.1::b.2))) (fun q b hq hI=>by
    obtain ⟨es,T⟩:=b
    obtain ⟨j0,j1⟩:=hI
    simp only at j1
    obtain ⟨d1,d2⟩:=WZ hq
    obtain ⟨j,hj⟩:∃ j,j=P.length - 1 - q:=⟨_,rfl⟩
    rw [← hj] at d1
    have e1:P.length - q=j+1:=by omega
    have e2:P.length - (q+1)=j:=by omega
    have hjP:j<P.length:=by omega
    rw [e1] at j1
    simp only [e1,e2]
    have hjf:j<(AP l t)[i].fields.length:=by omega
    obtain ⟨fe,hfe,hfR⟩:=hfv.ix hjf
    obtain ⟨tx,rfl,htx⟩:=hfR
    have hmf:=List.getElem_mem hjf
    have hsh:=f2 j _ _ (List.getElem?_eq_getElem hjf) (List.getElem?_eq_getElem hjP)
    have hvt:=hvf _ (List.getElem_mem hic) _ hmf
    have hsf:=(hsc.2.2 _ hmf).2
    have hpos:=(hwP _ (List.getElem_mem hjP)).pos
    have hcle:cn P[j]≤65536:=Nat.le_trans (Mg hwP (List.getElem_mem hjP)) hbd
    have h21:=c21 hl hsl hok P[j] _ tx htx hsf hvt hsh
    rw [GP (show cn P[j]<9223372036854775808 by omega)] at h21
    have hlt:m / cnP (P.drop (j+1)) % cn P[j]<cn P[j]:=Nat.mod_lt _ hpos
    obtain ⟨ys,hys,h25⟩:=ih P hmem P[j] (List.getElem_mem hjP) _ tx _ hlt htx hsf hvt hsh
    have hnx:=AtI.next hwP j1 (hj:=hjP) hys
    obtain ⟨u,hu⟩:∃ u,u=(Bt P[j])[m / cnP (P.drop (j+1)) % cn P[j]]'hlt:=⟨_,rfl⟩
    rw [← hu] at hys
    obtain ⟨yv,rfl,hyv⟩:=hys.AW
    have hmle:m / cnP (P.drop (j+1))≤m:=Nat.div_le_self _ _
    have hdv:=Yf (m / cnP (P.drop (j+1))) (cn P[j]) hpos (by omega)
    rw [AtI.div hjP] at hdv
    have hmd:=Yg (m / cnP (P.drop (j+1))) (cn P[j])
    have hne:¬ (cn P[j]=0):=by omega
    obtain ⟨c,hc⟩:∃ c,c=cn P[j]:=⟨_,rfl⟩
    obtain ⟨D,hD⟩:∃ D,D=m / cnP (P.drop (j+1)):=⟨_,rfl⟩
    obtain ⟨D',hD'⟩:∃ D',D'=m / cnP (P.drop j):=⟨_,rfl⟩
    rw [← hc] at hne hmd hdv h21 h25
    rw [← hD] at hmd hdv h25 ⊢
    rw [← hD'] at hdv ⊢
    simp only [Int.natCast_emod] at h25
    simp at hdv
    have hix:ixA 3 (.hs 2 P.length 3 0 P.length false) (.int .i64 (j:Int))=some (.ep 2 P.length 3 j 0):=by
     rw [A6 (kd:=.i64) (hi:=hjP),Nat.zero_add]
    have hel:es.length=P.length:=j1.len
    have hej:∃ r,es[j]? = some r∧r.length=3:=⟨_,List.getElem?_eq_getElem (show j<es.length by omega),j1.r3 _ (List.getElem_mem _)⟩
    obtain ⟨r,her,hrl⟩:=hej
    obtain ⟨a1,a2,a3,rfl⟩:∃ a1 a2 a3,r=[a1,a2,a3]:=by
     match r,hrl with
     | [a1,a2,a3],_=>exact ⟨a1,a2,a3,rfl⟩
    have hwd:wr .i64 ((j:Int) - 1)=dn P.length (q+1):=by
     rw [show (j:Int) - 1=dn P.length (q+1) by unfold dn;omega]
     by_cases h0:0≤dn P.length (q+1)
     ·exact Be h0 (by unfold dn;omega)
     ·have:dn P.length (q+1) = -1:=by unfold dn at h0 ⊢;omega
      rw [this];decide
    obtain ⟨qv,rfl,hqv⟩:=htx.AW
    refine .inl ⟨(es.set j [.str u.nm,.int .i64 u.v,yv],T++[.var false [.int .i64 (AP l t)[i].fields[j].ty.k,.int .i64 (AP l t)[i].fields[j].ty.v,.str (AP l t)[i].fields[j].ty.nm,qv]]),?_,by omega,hnx⟩
    simp [Tryz.f25,d1,hce,hfe,h21,hmd,hne,h25,hdv,hix,hel,her,hwd,hbf,hl.AD,hqv.AD,AG,AV.AD])
    (fun b hI=>by
    obtain ⟨es,T⟩:=b
    obtain ⟨_,j1⟩:=hI
    have hd:dn P.length P.length = -1:=by unfold dn;omega
    exact ⟨_,_,by simp [Tryz.f25,hd] <;> first | exact ⟨rfl,rfl⟩ | rfl,by simp,(es,T),_,by simpa using j1,rfl⟩) (List.replicate P.length [.str [],.int .i64 0,.AI],[]) ⟨by omega,by simp,by omega,fun e he=>by rw [(List.mem_replicate.1 he).2];rfl,fun q hq i p e hp he=>by
     simp only [Nat.sub_zero,List.drop_length] at hq
     have hq':q∈BG []:=List.mem_of_getElem? hq
     simp [BG] at hq'
     subst hq'
     simp at hp⟩
 obtain ⟨⟨es,T⟩,z,q1,q2⟩:=hq
 simp only [Prod.mk.injEq] at q1 q2
 obtain ⟨rfl,rfl⟩:=q2
 refine ⟨es,T,z,q1,?_⟩
 have e0:m / cnP (P.drop (P.length - 0))=m:=by simp [cnP,BG]
 simp only [e0] at hlp
 exact hlp
end
section
variable {l:List AO} {lv:AV} (hl:SlR Ab 3 l lv) (hsl:SmL 1048577 l) (hok:DOK l)
include hl hsl hok
theorem c25 (s:Sh):ShW s→cn s≤65536→At25 l lv s:=by
 intro hw
 induction hw with
 | bit n h0 h1=>
  intro hb t xs m hm hx hst hv hs
  have hn:([lv,AV.agg xs,.int .i64 m]:List AV).all AV.AD=true:=by simp [AV.AD,hx.AG,hl.AD]
  have hB:=c66 hx
  obtain ⟨pv,rfl,hp⟩:=hx.AW
  have hib:C8 t=true:=by cases hs;assumption
  refine ⟨[.str [],.int .i64 m,.AI],?_,fun h=>Ak PW SG hn rfl (hr:=_) (by simp [AN,Tryz.f25,hB,hib] <;> rfl) h⟩
  have:(Bt (.bit n))[m]=.mk 0 m [] []:=by simp [Bt]
  rw [this]
  exact A7.intro (.inl ⟨rfl,rfl⟩)
 | cons ns ss w1 w2 w3 w4 w5 w6 w7 ih=>
  intro hb t xs m hm hx hst hv hs
  have hW:ShW (.cons ns ss):=.cons ns ss w1 w2 w3 w4 w5 w6 w7
  have hn:([lv,AV.agg xs,.int .i64 m]:List AV).all AV.AD=true:=by simp [AV.AD,hx.AG,hl.AD]
  have hB:=c66 hx
  have hcn:cn (.cons ns ss)=cnC ss:=by simp only [cn,Bt,Me]
  have hib:C8 t=false:=by cases hs;assumption
  have hk:t.k≠2:=by cases hs;assumption
  obtain ⟨w,hwr,h68⟩:=c68 hl hsl hx hst (hok.has t hv hk hib)
  have hih:∀ s∈ss,∀ x∈s,At25 l lv x:=fun s hs' x hx'=>ih s hs' x hx' (by
   have h1:=Mg (w5 s hs') hx'
   have h2:=Mf hs'
   omega)
  obtain ⟨pv,rfl,hp⟩:=hx.AW
  obtain ⟨i,q,h1,h2,h3,h4,h5,hl1⟩:=WY hl hsl hok hx hst hv hs hW hb hwr hm [Blk.var false [.int .i64 t.k,.int .i64 t.v,.str t.nm,pv],Blk.var false [.str [],.int .i64 0,.AI]]
  obtain ⟨es,T,z,g1,hl2⟩:=Wa hl hsl hok hst hv hs hW hih hwr h2 h5 h3 (Blk.var false [.int .i64 t.k,.int .i64 t.v,.str t.nm,pv]) (Blk.var false [.str [],.int .i64 0,.AI])
  have hms:=ms_32 ss[i].length (w4 _ (List.getElem_mem h2))
  have hic:i<(AP l t).length:=by
   cases hs with
   | cons _ _ _ _ _ hnn hll _ _=>omega
  have hnm:(AP l t)[i].nm=ns[i]∧(AP l t)[i].fields.length=ss[i].length:=by
   cases hs with
   | cons _ _ _ _ _ hnn hll hs0 _=>
    refine ⟨?_,(hs0 i _ _ (List.getElem?_eq_getElem hic) (List.getElem?_eq_getElem h2)).symm⟩
    simp [hnn]
  obtain ⟨n1,n2⟩:=hnm
  obtain ⟨ce,hce,hcR⟩:=hwr.ix hic
  obtain ⟨fv,rfl,hfv⟩:=hcR.dest
  rw [n1] at hce
  have hfl:=hfv.len
  rw [n2] at hfl
  simp [Tryz.f25] at hl1 hl2
  have hdn:dn ss[i].length 0=(ss[i].length:Int) - 1:=by unfold dn;omega
  rw [hdn] at hl2
  have hwd:wr .i64 ((ss[i].length:Int) - 1)=(ss[i].length:Int) - 1:=by
   by_cases h0:0≤(ss[i].length:Int) - 1
   ·exact Be h0 (by have:=w4 _ (List.getElem_mem h2);omega)
   ·have:(ss[i].length:Int) - 1 = -1:=by omega
    rw [this];decide
  obtain ⟨g2,g3,g4,g5⟩:=g1
  have hq:(BG (ss[i].drop 0))[q % cnP (ss[i].drop 0)]? = some (BG ss[i])[q]:=by
   rw [List.drop_zero,Nat.mod_eq_of_lt h3];exact List.getElem?_eq_getElem h3
  have hpl:=(JS _ _ (List.getElem_mem h3)).1
  have hrep:∀ (j:Nat) p e,((BG ss[i])[q])[j]? = some p→es[j]? = some e→A7 p e:=fun j p e a b=>g5 _ hq j p e a (by rw [Nat.zero_add];exact b)
  have hnr:es.all AG=true:=BX (by rw [g2,hpl]) hrep (fun a e h=>h.AG)
  have hsn:A1 9 (.agg [.str ns[i],.int .i64 0,.hs 2 ss[i].length 3 0 ss[i].length false]) (Blk.var false [.int .i64 t.k,.int .i64 t.v,.str t.nm,pv]::Blk.var false [.str ns[i],.int .i64 0,.hs 2 ss[i].length 3 0 ss[i].length false]::.arr 3 false es::T) (.agg [.str ns[i],.int .i64 0,.sl 3 false es]) (Blk.var false [.int .i64 t.k,.int .i64 t.v,.str t.nm,pv]::Blk.var false [.str ns[i],.int .i64 0,.hs 2 ss[i].length 3 0 ss[i].length false]::.arr 3 true es::T):=by
   refine (A1.agg rfl (Az.cons (A1.flat (c:=.str ns[i]) rfl _) (Az.cons (A1.flat (c:=.int .i64 0) rfl _) (Az.cons (K:=1) (fun n => ?_) (Az.nil _))))).mono (by decide)
   have hb:(Nat.beq es.length ss[i].length&&Nat.beq 3 3&&Nat.ble (0+ss[i].length) es.length&&es.all AG)=true:=by
    rw [hnr,g2];simp [A3,BB]
   simp [Am.snap,hb,← g2,hnr]
  refine ⟨[.str ns[i],.int .i64 0,.sl 3 false es],?_,fun h=>Hl PW SG hn rfl (hsn.at (by decide)) (by simp [AV.AD,AG] <;> exact List.all_eq_true.1 hnr) (hr:=_) (by
   simp [AN,Tryz.f25,hB,hib,h68,hl1,hce,hfl,hms,Aw,hwd,hl2] <;> rfl) h⟩
  rw [h4]
  exact A7.intro (.inr ⟨false,es,rfl,by rw [g2,hpl],hrep⟩)
end
section
variable {k:C7} {xs:List AV} (hx:Ck k xs) (hsk:SmT 1048577 k)
include hx hsk
theorem c38 (hE:(AX k.data k.ty k.arms).2=0):∃ w,SlR A7 3 (Bt (Bb k.data k.ty)) w∧∀ h,AL MX (AH MX) 38 [.agg xs] h=some (.ret w,h):=by
 have h1:Cv k.data k.ty=0:=(H8 hE).1
 obtain ⟨a,b,c⟩:=Gj h1
 have hle:=JV hsk.1 hsk.2.1 h1
 obtain ⟨hw,_,_,_⟩:=JH hsk hE
 have hxn:AG xs=true:=by obtain ⟨dv,pv,av,rfl,hd,hp,ht,ha⟩:=hx.dest;simp [AV.AD,AG,hd.AD,hp.AD,ha.AD]
 obtain ⟨dv,pv,av,rfl,hd,hp,ht,ha⟩:=hx.dest
 have h21:=c21 hd hsk.1 (HE a).dok _ k.ty _ ht hsk.2.1 b c
 rw [GP (show cn (Bb k.data k.ty)<9223372036854775808 by simp only [cn];omega)] at h21
 have h25:=c25 hd hsk.1 (HE a).dok _ hw hle
 obtain ⟨L,hL⟩:∃ L,L=Bt (Bb k.data k.ty):=⟨_,rfl⟩
 have hcn:cn (Bb k.data k.ty)=L.length:=by rw [hL]
 rw [hcn] at h21
 have h25':∀ (n:Nat) (hn:n<L.length),∃ ys,A7 L[n] ys∧∀ h,AL MX (AH MX) 25 [dv,.agg [.int .i64 k.ty.k,.int .i64 k.ty.v,.str k.ty.nm,pv],.int .i64 n] h=some (.ret (.agg ys),h):=fun n hn=>by
  subst hL
  exact h25 k.ty _ n hn ht hsk.2.1 b c
 rw [← hL] at hle ⊢
 obtain ⟨e,st,hlp,hq⟩:=AR (M:=MX) (fid:=38) (N:=26) (C:=AH MX) (c:=AU Tryz.f38 0) (n:=L.length)
  (fun i (b:AV×AF×List (List AV))=>([(1,.hp 0 0),(3,b.1),(4,.int .i64 L.length),(5,.int .i64 i)],Blk.var false (tcs k dv pv av)::b.2.1))
  (fun i b=>Aj 3 1 b.2.1 b.1 b.2.2∧b.2.2.length=(L.take i).length∧∀ (j:Nat) t e,(L.take i)[j]? = some t→b.2.2[j]? = some e→A7 t e)
  (fun r=>∃ b:AV×AF×List (List AV),r=(.ext 0,([(1,.hp 0 0),(3,b.1),(4,.int .i64 L.length),(5,.int .i64 L.length),(13,.bool false)],Blk.var false (tcs k dv pv av)::b.2.1))∧Aj 3 1 b.2.1 b.1 b.2.2∧b.2.2.length=L.length∧∀ (j:Nat) t e,L[j]? = some t→b.2.2[j]? = some e→A7 t e) (fun i b hi hI=>by
    obtain ⟨a,rest,es⟩:=b
    obtain ⟨i1,i2,i3⟩:=hI
    simp only at i1 i2 i3
    have hi':=AZ hi
    have hwr:=AY hi (show L.length<1048577 by omega)
    obtain ⟨ys,hys,hc25⟩:=h25' i hi
    have hyn:=hys.AG
    obtain ⟨j1,j2⟩:=D8 i2 i3 hys
    rw [CU hi] at j1 j2
    obtain ⟨yv,rfl,hyv⟩:=hys.AW
    obtain ⟨a',rest',hap,hacc⟩:=Aj.push (byt:=48) (P:=[Blk.var false (tcs k dv pv av)]) [.str L[i].nm,.int .i64 L[i].v,yv] true i1 (by decide) (by decide) (by rw [i2,List.length_take];omega)
    simp only [List.cons_append,List.nil_append] at hap
    exact .inl ⟨(a',rest',es++[[.str L[i].nm,.int .i64 L[i].v,yv]]),by simp [Tryz.f38,hi',hc25,hwr,hap,bsA,Ar,List.replicate,AG,AV.AD,hyv.AD],hacc,j1,j2⟩) (fun b hI=>by
    obtain ⟨a,rest,es⟩:=b
    obtain ⟨i1,i2,i3⟩:=hI
    rw [List.take_length] at i2 i3
    exact ⟨_,_,by simp [Tryz.f38] <;> first | exact ⟨rfl,rfl⟩ | rfl,by simp,(a,rest,es),rfl,i1,i2,i3⟩) (.AI,[],[]) ⟨Aj.nil _ _ _,by simp,fun j t e h=>by simp at h⟩
 obtain ⟨⟨a,rest,es⟩,hq,q1,q2,q3⟩:=hq
 simp only at q1 q2 q3 hq
 cases hq
 simp [Tryz.f38] at hlp
 obtain ⟨v',rest',hsn,hrep,heq⟩:=HA (P:=[Blk.var false (tcs k dv pv av)]) (fun a e h=>h.AG) q1 q2 q3
 exact ⟨v',hrep,fun h=>P8 Ux Xl (by simp [AV.AD,hxn]) hsn (by decide) hrep.AD heq (by simp [AN,Tryz.f38,h21,hlp]) h⟩
end
theorem c40 {l:List Int} {v:AV} (hv:SlR Hr 1 l v) (hl:l.length<1048577) (n:Int) (h:AF):AL MX (AH MX) 40 [v,.int .i64 n] h=some (.ret (.bool (l.contains n)),h):=by
 obtain ⟨e,st,hlp,hq⟩:=AR (M:=MX) (fid:=40) (N:=18) (C:=AH MX) (c:=AU Tryz.f40 0) (n:=l.length)
  (fun i (_:Unit)=>([(0,v),(1,.int .i64 n),(5,.int .i64 i)],[]))
  (fun i _=>l.contains n=(l.drop i).contains n)
  (fun r=>(r=(.ext 0,([(0,v),(1,.int .i64 n),(5,.int .i64 l.length),(9,.bool false)],[]))∧l.contains n=false)∨(r=(.ret,([(4,.bool true)],[]))∧l.contains n=true)) (fun i b hi hI=>by
    have hi':=AZ hi
    have hwr:=AY hi hl
    obtain ⟨e,he,hR⟩:=hv.ix hi
    subst hR
    rw [List.drop_eq_getElem_cons hi,List.contains_cons] at hI
    cases hz:l[i] == n with
    | true=>
     have hz2:(n == l[i])=true:=by rw [beq_iff_eq] at hz ⊢;exact hz.symm
     exact .inr ⟨_,_,by simp [Tryz.f40,hv.len,hi',he,hz] <;> first | exact ⟨rfl,rfl⟩ | rfl,by simp,.inr ⟨rfl,by rw [hI,hz2];rfl⟩⟩
    | false=>
     have hz2:(n == l[i])=false:=by rw [beq_eq_false_iff_ne] at hz ⊢;exact fun h=>hz h.symm
     exact .inl ⟨(),by simp [Tryz.f40,hv.len,hi',he,hz,hwr],by rw [hI,hz2];rfl⟩) (fun b hI=>by
    rw [List.drop_length] at hI
    exact ⟨_,_,by simp [Tryz.f40,hv.len] <;> first | exact ⟨rfl,rfl⟩ | rfl,by simp,.inl ⟨rfl,hI⟩⟩) () rfl
 simp [Tryz.f40] at hlp
 rcases hq with ⟨hq,hr⟩ | ⟨hq,hr⟩ <;> cases hq <;> rw [hr] <;> exact Ak Uz Xn (by simp [AV.AD,hv.AD]) rfl (hr:=[]) (by simp [AN,Tryz.f40,hlp]) h
end Go.Proofs.Am12
namespace Go.Proofs.Am12
open Go Go.Am
theorem Jk {l:List AO} {params:List Bytes}:∀ (r:List TyV),(∀ p∈r,Af l params p≠12)→BK l params r≠12
 | [],_=>by simp [BK]
 | p::r,h=>by
  simp only [BK]
  split
  ·exact Jk r fun q hq=>h q (by simp [hq])
  ·exact h p (by simp)
theorem PF {l:List AO} {params:List Bytes} (t:TyV):Af l params t≠12:=by
 induction t using TyV.ind with
 | h k v nm ps ih=>
  simp only [Af]
  repeat' split
  all_goals first | decide | exact Jk ps ih
theorem K3 {l:List AO} {params:List Bytes} (t:TyV):BL l params t≠12:=by
 unfold BL
 split
 ·exact PF t
 ·decide
theorem Ls {l:List AO} {params:List Bytes}:∀ (r prev:List Bj),C4 l params prev r≠12
 | [],_=>by simp [C4]
 | f::r,prev=>by
  simp only [C4]
  repeat' split
  all_goals first | decide | exact Ls r _ | exact K3 _
theorem Mh {l:List AO} {params:List Bytes} (fs:List Bj):Bk l params fs≠12:=by
 unfold Bk
 split
 ·decide
 ·exact Ls _ _
theorem QP {l:List AO} {params:List Bytes}:∀ (r prev:List Ba),Dh l params prev r≠12
 | [],_=>by simp [Dh]
 | f::r,prev=>by
  simp only [Dh]
  repeat' split
  all_goals first | decide | exact QP r _ | exact Mh _
theorem Lt:∀ (r prev:List Bytes),Bn prev r≠12
 | [],_=>by simp [Bn]
 | f::r,prev=>by
  simp only [Bn]
  repeat' split
  all_goals first | decide | exact Lt r _
theorem PG (d:AO) (l:List AO):BC d l≠12:=by
 unfold BC
 repeat' split
 all_goals first | decide | exact QP _ _ | exact Lt _ _
theorem Nz:∀ (r prev:List AO),(D5 prev r).2≠12
 | [],_=>by simp [D5]
 | f::r,prev=>by
  simp only [D5]
  split
  ·exact Nz r _
  ·exact PG _ _
theorem XM {rec:Rec} (hr:∀ t c,(rec t c).2≠12):∀ (fs:List Bj) c,(eFs rec fs c).2≠12
 | [],c=>by simp [eFs]
 | f::r,c=>by
  simp only [eFs]
  split
  ·exact XM hr r _
  ·exact hr _ _
theorem UE {rec:Rec} (hr:∀ t c,(rec t c).2≠12):∀ (cs:List Ba) c,(eCs rec cs c).2≠12
 | [],c=>by simp [eCs]
 | k::r,c=>by
  simp only [eCs]
  split
  ·exact UE hr r _
  ·exact XM hr _ _
theorem QQ {l:List AO} {r:Option Rec} (hr:∀ rec,r=some rec→∀ t c,(rec t c).2≠12) (t:TyV) (c:Int):(Cs l r t c).2≠12:=by
 unfold Cs
 repeat' split
 all_goals first | simp;done | (rename_i rec _ _;exact UE (hr _ rfl) _ _) | (rename_i rec _;exact UE (hr _ rfl) _ _)
theorem UF (l:List AO):∀ n t c,(DA l n t c).2≠12
 | 0=>QQ fun rec h=>by cases h
 | n+1=>QQ fun rec h=>by cases h;exact UF l n
theorem Wb (l:List AO) (t:TyV):Cv l t≠12:=by
 unfold Cv
 split
 ·unfold FD
  split
  ·split
   ·split <;> decide
   ·exact UF _ _ _ _
  ·exact K3 _
 ·unfold An
  split
  ·decide
  ·exact Nz _ _
theorem QR:∀ (ps:List TyV) (ss:List Sh),(∀ p∈ps,∀ s,CA s p≠12)→Di ss ps≠12
 | [],ss,_=>by simp [Di]
 | p::r,ss,h=>by
  simp only [Di]
  split
  ·exact QR r _ fun q hq=>h q (by simp [hq])
  ·exact h p (by simp) _
theorem Yi (p:TyV):∀ s,CA s p≠12:=by
 induction p using TyV.ind with
 | h k v nm ps ih=>
  intro s
  simp only [CA]
  repeat' split
  all_goals first | decide | exact QR ps _ ih
theorem UG (s:Sh) (p:TyV):Dg s p≠12:=by
 unfold Dg
 repeat' split
 all_goals first | decide | exact Yi _ _
theorem QS (s:Sh):∀ (r:List TyV) (i:Nat),(Ei s i r).2≠12
 | [],_=>by simp [Ei]
 | p::r,i=>by
  simp only [Ei]
  split
  ·exact QS s r _
  ·exact UG s p
theorem Wc (l:List AO) (t:TyV) (arms:List TyV):(AX l t arms).2≠12:=by
 unfold AX
 split
 ·split
  ·decide
  ·split
   ·decide
   ·exact QS _ _ _
 ·exact Wb l t
theorem Lu {k:C7} (h:(AX k.data k.ty k.arms).2=0) {arms:List TyV} (h1:arms≠[]) (h2:arms.length≤12) (h3:∀ p∈arms,Dg (Bb k.data k.ty) p=0):(AX k.data k.ty arms).2=0:=by
 obtain ⟨g1,g2,g3,g4⟩:=H8 h
 unfold AX
 rw [if_pos g1,if_neg (fun e=>h1 (List.eq_nil_of_length_eq_zero e)),if_neg (by omega)]
 have:∀ (r:List TyV) (i:Nat),(∀ p∈r,Dg (Bb k.data k.ty) p=0)→(Ei (Bb k.data k.ty) i r).2=0:=by
  intro r
  induction r with
  | nil=>intro i _;rfl
  | cons p r ih=>
   intro i hp
   simp only [Ei]
   rw [if_pos (hp p (by simp))]
   exact ih _ fun q hq=>hp q (by simp [hq])
 exact this arms 0 h3
theorem N0 {g:TyV→Option Nat} {N:Nat} (hg:∀ u j,g u=some j→j<N):∀ (l:List TyV) (b:List Int),b.length=N→(∀ x∈b,0≤x∧x+l.length<1000000)→∀ i,i<N→(l.foldl (fun b u=>Fh b (g u)) b).getD i 0=b.getD i 0+((l.filter fun u=>g u == some i).length:Int)
 | [],b,_,_,i,_=>by simp
 | u::l,b,hl,hb,i,hi=>by
  simp only [List.foldl_cons]
  have hb':∀ x∈Fh b (g u),0≤x∧x+l.length<1000000:=fun x hx=>by
   cases ho:g u with
   | none=>
    rw [ho] at hx
    have:=hb x hx
    simp only [List.length_cons] at this
    omega
   | some j=>
    rw [ho] at hx
    have hj:j<b.length:=by rw [hl];exact hg u j ho
    rcases List.mem_or_eq_of_mem_set hx with hx | hx
    ·have:=hb x hx
     simp only [List.length_cons] at this
     omega
    ·have hg:b.getD j 0=b[j]:=by simp [hj]
     have h2:=hb _ (List.getElem_mem hj)
     simp only [List.length_cons] at h2
     rw [hg,Be (by omega) (by omega)] at hx
     subst hx
     omega
  rw [N0 hg l _ (by rw [Lp];exact hl) hb' i hi]
  cases ho:g u with
  | none=>simp [Fh,ho]
  | some j=>
   have hj:j<b.length:=by rw [hl];exact hg u j ho
   have hg:b.getD j 0=b[j]:=by simp [hj]
   have h2:=hb _ (List.getElem_mem hj)
   simp only [List.length_cons] at h2
   by_cases hij:j=i
   ·subst hij
    have:(Fh b (some j)).getD j 0=b[j]+1:=by
     simp only [Fh,hg]
     rw [Be (by omega) (by omega)]
     simp [hj]
    rw [this,hg]
    simp only [List.filter_cons,ho,beq_self_eq_true,if_true,List.length_cons]
    omega
   ·have:(Fh b (some j)).getD i 0=b.getD i 0:=by
     simp only [Fh]
     simp [List.getD_eq_getElem?_getD,List.getElem?_set_ne hij]
    rw [this]
    have hne:(some j == some i)=false:=by simp [hij]
    simp only [List.filter_cons,ho,hne,Bool.false_eq_true,if_false]
theorem UH {k:C7} (u:TyV) (j:Nat) (h:IM k u=some j):j<k.arms.length:=by
 obtain ⟨h,_⟩:=List.findIdx?_eq_some_iff_getElem.1 h
 exact h
theorem UI {k:C7} (hlen:(Bt (Bb k.data k.ty)).length≤65536) {i:Nat} (hi:i<k.arms.length):(HH k).getD i 0=(((Bt (Bb k.data k.ty)).filter fun u=>IM k u == some i).length:Int):=by
 unfold HH
 rw [H9,N0 UH _ _ (by simp) (fun x hx=>by rw [(List.mem_replicate.1 hx).2];omega) i hi]
 simp [hi]
end Go.Proofs.Am12
namespace Go.Proofs.Am12
open Go Go.Am
attribute [local simp] Dz Cd EW D0 Cq D1 D2 Ez Bd BS Bg Al F9 E7 EP Gw Dv BA E3 ER Gx Gy xUn El Dw E8 BO DC BP Dx BQ Dy Cu Cj CL BH ES EU
 ev evs Cz DB OR.ofV OR.Dd OR.ofC E9 Tm.get Tm.init Tm.only A3 BB CV finish CO Cc Gu Dk Du unA Cf Bz Cg B6 DI DJ DK B7 DL DM B8 DN DP B9 Ch AU CY Bx DG DH Ce E0 E1 E2 D3 D4 Fa GG GH Fb stA A5 DS Bv DD Em GY Ci Db CZ FB GZ
set_option maxHeartbeats 1000000
attribute [local simp] Dl Cr CW Bm Dm Dn Dp Dq Dr Ds Dt Et DU Eu EA Fl Fm HL EB Ev EC Bq ED Br EF Cx Ew DW Fo Fp Fq DX EG EH Fs HM Ft HN HO EJ Bs DY Cy EK EL DZ
theorem Lv {l:List AO} {w:AV} (hw:SlR Ab 3 l w) {ps:List TyV} {pv:AV} (hp:SlR AQ 4 ps pv) {es:List (List AV)} (hnr:es.all AG=true) {id m:Nat} (hm:m≤es.length) {lk:Bool} {H:AF} (hH:H[id]? = some (.arr 4 lk es)) {kk vv:Int} {nm:Bytes} :
  Ax [.agg [w,.int .i64 kk,.int .i64 vv,.str nm,pv,.hs id es.length 4 0 m false]] H=some ([.agg [w,.int .i64 kk,.int .i64 vv,.str nm,pv,.sl 4 false (es.take m)]],H.set id (.arr 4 true es)):=by
 have h6:A1 1 (.hs id es.length 4 0 m false) H (.sl 4 false (es.take m)) (H.set id (.arr 4 true es)):=fun n=>by
  have hb:(Nat.beq es.length es.length&&Nat.beq 4 4&&Nat.ble (0+m) es.length&&es.all AG)=true:=by
   rw [hnr];simp [A3,BB,hm]
  simp only [Am.snap,hH,hb]
  simp
 have hn:AG [w,.int .i64 kk,.int .i64 vv,.str nm,pv,.hs id es.length 4 0 m false]=false:=by simp [AG,AV.AD,hw.AD,hp.AD]
 have hs:=(A1.agg hn (Az.cons (SlR.KU hw H) (Az.cons (A1.flat (c:=.int .i64 kk) rfl H) (Az.cons (A1.flat (c:=.int .i64 vv) rfl H) (Az.cons (A1.flat (c:=.str nm) rfl H) (Az.cons (SlR.KU hp H) (Az.cons h6 (Az.nil _)))))))).at (by decide)
 have hn':AV.AD (.agg [w,.int .i64 kk,.int .i64 vv,.str nm,pv,.hs id es.length 4 0 m false])=false:=hn
 simp only [Ax,hn',hs]
theorem own1 {k:C7} {xs:List AV} (hx:Ck k xs) (hsk:SmT 1048577 k):∃ xs',Ck k xs'∧∀ R:AF,∃ O Y Y',AL MX (AH MX) 15 [.agg xs] R=some (.ret (.agg O),R++Y)∧∀ (F:FuncId) (r:AV),(MX.mode F).fresh=true→(∀ h,AL MX (AH MX) F [.agg xs'] h=some (.ret r,h))→AL MX (AH MX) F [.agg O] (R++Y)=some (.ret r,R++Y'):=by
 obtain ⟨w0,pv,es,hw0,hpv,ht,hel,her,hc⟩:=c15 hx hsk
 rcases hc with ⟨h0,h15⟩ | ⟨h0,h15⟩
 ·exact ⟨_,⟨w0,_,.sl 4 true [],rfl,hw0,ht,.inr ⟨true,[],rfl,by rw [h0];rfl,fun i a e h=>by rw [h0] at h;simp at h⟩⟩,fun R=>⟨_,[],[],by rw [List.append_nil];exact h15 R,fun F r _ h=>by rw [List.append_nil];exact h R⟩⟩
 ·have hnr:es.all AG=true:=BX hel her (fun a e h=>h.AG)
  refine ⟨_,⟨w0,_,.sl 4 false es,rfl,hw0,ht,.inr ⟨false,es,rfl,hel,her⟩⟩,fun R=>⟨_,_,[.arr 4 true es],h15 R,fun F r hm h => ?_⟩⟩
  have hs:=Lv hw0 hpv hnr (id:=R.length) (m:=es.length) (Nat.le_refl _) (lk:=false) (H:=R++[.arr 4 false es]) (by simp) (kk:=k.ty.k) (vv:=k.ty.v) (nm:=k.ty.nm)
  rw [hel,← hel,List.take_length] at hs
  have hset:(R++[Blk.arr 4 false es]).set R.length (.arr 4 true es)=R++[.arr 4 true es]:=by simp
  rw [hset] at hs
  rw [← hel]
  refine EY hm hs ?_ (h _)
  simp [AV.AD,AG,hw0.AD,hpv.AD] <;> exact List.all_eq_true.1 hnr
noncomputable def Cw:Code:=Tryz.f6.body.getD .skip
noncomputable def hd6 (n:Nat):Code:=sub Cw (List.replicate n 1++[0])
theorem UJ:Cw=.seq (hd6 0) (.seq (hd6 1) (.seq (hd6 2) (.seq (hd6 3) (.seq (hd6 4) (.seq (hd6 5) (.seq (hd6 6) (.seq (hd6 7) (.seq (hd6 8) (.seq (hd6 9) (.seq (hd6 10) (.seq (hd6 11) (.seq (hd6 12) (.seq (hd6 13) (.seq (hd6 14) (.seq (hd6 15) (.seq (hd6 16) (.seq (hd6 17) (.seq (hd6 18) (.seq (hd6 19) (sub Cw (List.replicate 20 1))))))))))))))))))))):=rfl
theorem run6 {a:AV} {H:AF} (h:Ag MX 6 192 (AH MX) Cw (Tm.init 0 [a],[])=some (.ret,([(2,.bool true)],H))):AN MX 6 [a] []=some (.ret (.bool true),H):=by
 have hb:Tryz.f6.body=some Cw:=rfl
 have hn:Tryz.f6.ntmps=192:=rfl
 have hr:Tryz.f6.results = #[.tmp 2]:=rfl
 simp only [AN,fn_6,hb,hn,h]
 simp [hr]
theorem UK:MX.prim 10=some (GU [([],.bool true)]):=rfl
section
variable {dv pv av:AV} {kk kv:Int} {knm:Bytes} {R:AF}
theorem s6_0:Ag MX 6 192 (AH MX) (hd6 0) (Tm.init 0 [(AV.agg [dv,AV.int IntKind.i64 kk,AV.int IntKind.i64 kv,AV.str knm,pv,av])],[])=some (.nrm,([(1,.hp 0 0)],[(Blk.var false [dv,AV.int IntKind.i64 kk,AV.int IntKind.i64 kv,AV.str knm,pv,av])])):=by
 simp [Tryz.f6,hd6,Cw,sub,List.replicate]
theorem s6_1 {H:AF}:Ag MX 6 192 (AH MX) (hd6 1) ([(1,.hp 0 0)],H)=some (.nrm,([(1,.hp 0 0),(21,.bool false)],H)):=by
 simp [Tryz.f6,hd6,Cw,sub,List.replicate,UK,GU,IA]
theorem s6_2 {b:Bool} (h11:∀ h,AL MX (AH MX) 11 [(AV.agg [dv,AV.int IntKind.i64 kk,AV.int IntKind.i64 kv,AV.str knm,pv,av])] h=some (.ret (.bool b),h)):Ag MX 6 192 (AH MX) (hd6 2) ([(1,.hp 0 0),(21,.bool false)],(Blk.var false [dv,AV.int IntKind.i64 kk,AV.int IntKind.i64 kv,AV.str knm,pv,av])::R)=some (match b with
  | false=>(.ret,([(2,.bool true)],(Blk.var false [dv,AV.int IntKind.i64 kk,AV.int IntKind.i64 kv,AV.str knm,pv,av])::R))
  | true=>(.nrm,([(1,.hp 0 0),(24,.bool false)],(Blk.var false [dv,AV.int IntKind.i64 kk,AV.int IntKind.i64 kv,AV.str knm,pv,av])::R))):=by
 cases b <;> simp [Tryz.f6,hd6,Cw,sub,List.replicate,h11]
theorem s6_3 {d:Int} (h12:∀ h,AL MX (AH MX) 12 [(AV.agg [dv,AV.int IntKind.i64 kk,AV.int IntKind.i64 kv,AV.str knm,pv,av])] h=some (.ret (.int .i64 d),h)):Ag MX 6 192 (AH MX) (hd6 3) ([(1,.hp 0 0),(24,.bool false)],(Blk.var false [dv,AV.int IntKind.i64 kk,AV.int IntKind.i64 kv,AV.str knm,pv,av])::R)=some (.nrm,([(1,.hp 0 0),(3,.int .i64 d)],(Blk.var false [dv,AV.int IntKind.i64 kk,AV.int IntKind.i64 kv,AV.str knm,pv,av])::R)):=by
 simp [Tryz.f6,hd6,Cw,sub,List.replicate,h12]
theorem s6_4 {d:Int} {b:Bool} (h13:d=0→∀ h,AL MX (AH MX) 13 [(AV.agg [dv,AV.int IntKind.i64 kk,AV.int IntKind.i64 kv,AV.str knm,pv,av])] h=some (.ret (.bool b),h)):Ag MX 6 192 (AH MX) (hd6 4) ([(1,.hp 0 0),(3,.int .i64 d)],(Blk.var false [dv,AV.int IntKind.i64 kk,AV.int IntKind.i64 kv,AV.str knm,pv,av])::R)=some (if d=0∧b=false then (.ret,([(2,.bool true)],(Blk.var false [dv,AV.int IntKind.i64 kk,AV.int IntKind.i64 kv,AV.str knm,pv,av])::R)) else (.nrm,([(1,.hp 0 0),(3,.int .i64 d),(33,.bool false)],(Blk.var false [dv,AV.int IntKind.i64 kk,AV.int IntKind.i64 kv,AV.str knm,pv,av])::R))):=by
 by_cases hd:d=0
 ·subst hd
  have h13:=h13 rfl
  cases b <;> simp [Tryz.f6,hd6,Cw,sub,List.replicate,h13]
 ·have hdb:(d == 0)=false:=by simp [hd]
  rw [if_neg (fun h=>hd h.1)]
  simp [Tryz.f6,hd6,Cw,sub,List.replicate,hdb]
variable {d e:Int} {O ys:List AV} {Y Y':AF}
theorem s6_5 {vn:Bytes} {vv:Int} {vp:AV} (hvc:vp.cells=some [vp]) (h15:AL MX (AH MX) 15 [(AV.agg [dv,AV.int IntKind.i64 kk,AV.int IntKind.i64 kv,AV.str knm,pv,av])] ((Blk.var false [dv,AV.int IntKind.i64 kk,AV.int IntKind.i64 kv,AV.str knm,pv,av])::R)=some (.ret (.agg O),(Blk.var false [dv,AV.int IntKind.i64 kk,AV.int IntKind.i64 kv,AV.str knm,pv,av])::R++Y)) (h36:AL MX (AH MX) 36 [.agg O] ((Blk.var false [dv,AV.int IntKind.i64 kk,AV.int IntKind.i64 kv,AV.str knm,pv,av])::R++Y)=some (.ret (.tup [.agg [.str vn,.int .i64 vv,vp],.int .i64 e]),(Blk.var false [dv,AV.int IntKind.i64 kk,AV.int IntKind.i64 kv,AV.str knm,pv,av])::R++Y')) :
  Ag MX 6 192 (AH MX) (hd6 5) ([(1,.hp 0 0),(3,.int .i64 d),(33,.bool false)],(Blk.var false [dv,AV.int IntKind.i64 kk,AV.int IntKind.i64 kv,AV.str knm,pv,av])::R)=some (.nrm,([(1,.hp 0 0),(3,.int .i64 d),(4,.hp (R++Y').length.succ 0),(5,.int .i64 e)],(Blk.var false [dv,AV.int IntKind.i64 kk,AV.int IntKind.i64 kv,AV.str knm,pv,av])::(R++Y'++[.var false [.str vn,.int .i64 vv,vp]]))):=by
 simp only [List.cons_append] at h15 h36
 simp [Tryz.f6,hd6,Cw,sub,List.replicate,h15,h36,hvc]
theorem s6_6 {p:Nat} {b:Bool} {f:Int} (h15:AL MX (AH MX) 15 [(AV.agg [dv,AV.int IntKind.i64 kk,AV.int IntKind.i64 kv,AV.str knm,pv,av])] ((Blk.var false [dv,AV.int IntKind.i64 kk,AV.int IntKind.i64 kv,AV.str knm,pv,av])::R)=some (.ret (.agg O),(Blk.var false [dv,AV.int IntKind.i64 kk,AV.int IntKind.i64 kv,AV.str knm,pv,av])::R++Y)) (h37:AL MX (AH MX) 37 [.agg O] ((Blk.var false [dv,AV.int IntKind.i64 kk,AV.int IntKind.i64 kv,AV.str knm,pv,av])::R++Y)=some (.ret (.tup [.bool b,.int .i64 f]),(Blk.var false [dv,AV.int IntKind.i64 kk,AV.int IntKind.i64 kv,AV.str knm,pv,av])::R++Y')) :
  Ag MX 6 192 (AH MX) (hd6 6) ([(1,.hp 0 0),(3,.int .i64 d),(4,.hp p 0),(5,.int .i64 e)],(Blk.var false [dv,AV.int IntKind.i64 kk,AV.int IntKind.i64 kv,AV.str knm,pv,av])::R)=some (.nrm,([(1,.hp 0 0),(3,.int .i64 d),(4,.hp p 0),(5,.int .i64 e),(6,.bool b),(7,.int .i64 f)],(Blk.var false [dv,AV.int IntKind.i64 kk,AV.int IntKind.i64 kv,AV.str knm,pv,av])::(R++Y'))):=by
 simp only [List.cons_append] at h15 h37
 simp [Tryz.f6,hd6,Cw,sub,List.replicate,h15,h37]
theorem s6_7 {p n:Nat} {b:Bool} {f:Int} (hal:∀ h,C0 av h=some (.val (.int .i64 n) h)) :
  Ag MX 6 192 (AH MX) (hd6 7) ([(1,.hp 0 0),(3,.int .i64 d),(4,.hp p 0),(5,.int .i64 e),(6,.bool b),(7,.int .i64 f)],(Blk.var false [dv,AV.int IntKind.i64 kk,AV.int IntKind.i64 kv,AV.str knm,pv,av])::R)=some (.nrm,([(1,.hp 0 0),(3,.int .i64 (if d=0∧n<2 then 10 else d)),(4,.hp p 0),(5,.int .i64 e),(6,.bool b),(7,.int .i64 f)]++(if d=0∧n<2 then [] else [(53,.bool false)]),(Blk.var false [dv,AV.int IntKind.i64 kk,AV.int IntKind.i64 kv,AV.str knm,pv,av])::R)):=by
 by_cases hd:d=0
 ·subst hd
  by_cases hn:n<2
  ·have hni:(n:Int)<2:=by omega
   simp [Tryz.f6,hd6,Cw,sub,List.replicate,hal,hn,hni]
  ·have hni:¬ (n:Int)<2:=by omega
   simp [Tryz.f6,hd6,Cw,sub,List.replicate,hal,hn,hni]
 ·have hdb:(d == 0)=false:=by simp [hd]
  simp [Tryz.f6,hd6,Cw,sub,List.replicate,hdb,hd]
theorem XN {p:Nat} {row:List AV} {junk:List (Nat×AV)} (hd:d≠0) (hrn:AG row=true) (hrow:row.length=3) (hp:((Blk.var false [dv,AV.int IntKind.i64 kk,AV.int IntKind.i64 kv,AV.str knm,pv,av])::R)[p]? = some (.var false row)) (h18:∀ h,AL MX (AH MX) 18 [.agg row,.agg [.str [],.int .i64 0,.AI]] h=some (.ret (.bool true),h)) :
  Ag MX 6 192 (AH MX) (hd6 8) ((1,.hp 0 0)::(3,.int .i64 d)::(4,.hp p 0)::(5,.int .i64 d)::(6,.bool false)::(7,.int .i64 d)::junk,(Blk.var false [dv,AV.int IntKind.i64 kk,AV.int IntKind.i64 kv,AV.str knm,pv,av])::R)=some (.ret,([(2,.bool true)],(Blk.var false [dv,AV.int IntKind.i64 kk,AV.int IntKind.i64 kv,AV.str knm,pv,av])::R)):=by
 have hdb:(d != 0)=true:=by simp [hd]
 obtain ⟨a1,a2,a3,rfl⟩:∃ a1 a2 a3,row=[a1,a2,a3]:=by
  match row,hrow with
  | [a1,a2,a3],_=>exact ⟨a1,a2,a3,rfl⟩
 simp only [AG,Bool.and_true,Bool.and_eq_true] at hrn
 simp [Tryz.f6,hd6,Cw,sub,List.replicate,hdb,hp,h18,AG,AV.AD,hrn]
theorem s6_8b {p:Nat} {b:Bool} {f:Int} {junk:List (Nat×AV)}:Ag MX 6 192 (AH MX) (hd6 8) ((1,.hp 0 0)::(3,.int .i64 0)::(4,.hp p 0)::(5,.int .i64 e)::(6,.bool b)::(7,.int .i64 f)::junk,(Blk.var false [dv,AV.int IntKind.i64 kk,AV.int IntKind.i64 kv,AV.str knm,pv,av])::R)=some (.nrm,([(1,.hp 0 0),(3,.int .i64 0),(4,.hp p 0),(5,.int .i64 e),(6,.bool b),(7,.int .i64 f),(55,.bool false)],(Blk.var false [dv,AV.int IntKind.i64 kk,AV.int IntKind.i64 kv,AV.str knm,pv,av])::R)):=by
 simp [Tryz.f6,hd6,Cw,sub,List.replicate]
theorem s6_9 {p:Nat} {b:Bool} {f:Int} {w:AV} (h38:∀ h,AL MX (AH MX) 38 [(AV.agg [dv,AV.int IntKind.i64 kk,AV.int IntKind.i64 kv,AV.str knm,pv,av])] h=some (.ret w,h)):Ag MX 6 192 (AH MX) (hd6 9) ([(1,.hp 0 0),(3,.int .i64 0),(4,.hp p 0),(5,.int .i64 e),(6,.bool b),(7,.int .i64 f),(55,.bool false)],(Blk.var false [dv,AV.int IntKind.i64 kk,AV.int IntKind.i64 kv,AV.str knm,pv,av])::R)=some (.nrm,([(1,.hp 0 0),(4,.hp p 0),(5,.int .i64 e),(6,.bool b),(7,.int .i64 f),(8,w)],(Blk.var false [dv,AV.int IntKind.i64 kk,AV.int IntKind.i64 kv,AV.str knm,pv,av])::R)):=by
 simp [Tryz.f6,hd6,Cw,sub,List.replicate,h38]
theorem s6_10 {p:Nat} {b:Bool} {f:Int} {w:AV}:Ag MX 6 192 (AH MX) (hd6 10) ([(1,.hp 0 0),(4,.hp p 0),(5,.int .i64 e),(6,.bool b),(7,.int .i64 f),(8,w)],(Blk.var false [dv,AV.int IntKind.i64 kk,AV.int IntKind.i64 kv,AV.str knm,pv,av])::R)=some (.nrm,([(1,.hp 0 0),(4,.hp p 0),(5,.int .i64 e),(6,.bool b),(7,.int .i64 f),(8,w),(9,.int .i64 (-1)),(10,.bool true)],(Blk.var false [dv,AV.int IntKind.i64 kk,AV.int IntKind.i64 kv,AV.str knm,pv,av])::R)):=by
 simp [Tryz.f6,hd6,Cw,sub,List.replicate]
end
theorem Wd {α:Type} (q:α→Bool) (L:List α) {i:Nat} (hi:i<L.length):(L.take (i+1)).findIdx? q=match (L.take i).findIdx? q with
  | some j=>some j
  | none=>if q L[i]=true then some i else none:=by
 rw [← CU hi,List.findIdx?_append]
 cases h:(L.take i).findIdx? q with
 | some j=>simp
 | none=>
  have hl:(L.take i).length=i:=by simp;omega
  cases hq:q L[i] <;> simp [hq,List.findIdx?_cons,hl]
section
variable {dv pv av:AV} {kk kv:Int} {knm:Bytes} {R:AF}
variable {d e f:Int} {b:Bool} {p:Nat} {w:AV}
theorem s6_11 {L:List TyV} (hw:SlR A7 3 L w) (hL:L.length<1048577) {arms:List TyV} (ha:SlR AQ 4 arms av) (has:∀ p∈arms,Sm 1048577 p) (h2:2≤arms.length) :
  Ag MX 6 192 (AH MX) (hd6 11) ([(1,.hp 0 0),(4,.hp p 0),(5,.int .i64 e),(6,.bool b),(7,.int .i64 f),(8,w),(9,.int .i64 (-1)),(10,.bool true)],(Blk.var false [dv,AV.int IntKind.i64 kk,AV.int IntKind.i64 kv,AV.str knm,pv,av])::R)=some (.nrm,([(1,.hp 0 0),(4,.hp p 0),(5,.int .i64 e),(6,.bool b),(7,.int .i64 f),(8,w),(9,.int .i64 (ixI (L.findIdx? fun u=>A0 (arms.getD 0 default) u&&A0 (arms.getD 1 default) u))),(10,.bool (L.all fun u=>A0 (arms.getD 0 default) u || !A0 (arms.getD 1 default) u)),(11,.int .i64 L.length),(78,.bool false)],(Blk.var false [dv,AV.int IntKind.i64 kk,AV.int IntKind.i64 kv,AV.str knm,pv,av])::R)):=by
 have hb:=TM
 simp [BE,BU,Tryz.f6] at hb
 have g0:arms.getD 0 default=arms[0]:=by simp [show 0<arms.length by omega]
 have g1:arms.getD 1 default=arms[1]:=by simp [show 1<arms.length by omega]
 simp only [g0,g1]
 obtain ⟨p0,i0,r0⟩:=ha.ix (show 0<arms.length by omega)
 obtain ⟨p1,i1,r1⟩:=ha.ix (show 1<arms.length by omega)
 have i0:ixA 4 av (.int .i64 (0:Int))=some (.ro p0):=i0 .i64
 have i1:ixA 4 av (.int .i64 (1:Int))=some (.ro p1):=i1 .i64
 obtain ⟨e',st,hlp,hq⟩:=AR (M:=MX) (fid:=6) (N:=192) (C:=AH MX) (c:=AU Tryz.f6 0) (n:=L.length)
  (fun i (c:Option Nat×Bool)=>([(1,.hp 0 0),(4,.hp p 0),(5,.int .i64 e),(6,.bool b),(7,.int .i64 f),(8,w),(9,.int .i64 (ixI c.1)),(10,.bool c.2),(11,.int .i64 i)],(Blk.var false [dv,AV.int IntKind.i64 kk,AV.int IntKind.i64 kv,AV.str knm,pv,av])::R))
  (fun i c=>c.1=(L.take i).findIdx? (fun u=>A0 arms[0] u&&A0 arms[1] u)∧c.2=(L.take i).all fun u=>A0 arms[0] u || !A0 arms[1] u)
  (fun r=>r=(.ext 0,([(1,.hp 0 0),(4,.hp p 0),(5,.int .i64 e),(6,.bool b),(7,.int .i64 f),(8,w),(9,.int .i64 (ixI (L.findIdx? fun u=>A0 arms[0] u&&A0 arms[1] u))),(10,.bool (L.all fun u=>A0 arms[0] u || !A0 arms[1] u)),(11,.int .i64 L.length),(78,.bool false)],(Blk.var false [dv,AV.int IntKind.i64 kk,AV.int IntKind.i64 kv,AV.str knm,pv,av])::R))) (fun i c hi hI=>by
    obtain ⟨o,cv⟩:=c
    obtain ⟨j1,j2⟩:=hI
    simp only at j1 j2
    have hi':=AZ hi
    have hwr:=AY hi hL
    obtain ⟨e,he,hR⟩:=hw.ix hi
    have a0:=c39 arms[0] L[i] p0 e r0 hR (has _ (List.getElem_mem _))
    have a1:=c39 arms[1] L[i] p1 e r1 hR (has _ (List.getElem_mem _))
    have hal:(L.take (i+1)).all (fun u=>A0 arms[0] u || !A0 arms[1] u)=(cv&&(A0 arms[0] L[i] || !A0 arms[1] L[i])):=by
     rw [← CU hi,List.all_append,← j2];simp
    have hfi:=Wd (fun u=>A0 arms[0] u&&A0 arms[1] u) L hi
    rw [← j1] at hfi
    obtain ⟨q0,rfl,hq0⟩:=r0.AW
    obtain ⟨q1,rfl,hq1⟩:=r1.AW
    obtain ⟨qe,rfl,hqe⟩:=hR.AW
    refine .inl ⟨((L.take (i+1)).findIdx? (fun u=>A0 arms[0] u&&A0 arms[1] u),(L.take (i+1)).all fun u=>A0 arms[0] u || !A0 arms[1] u),?_,rfl,rfl⟩
    simp only [hal,hfi]
    cases ho:o with
    | none=>cases h0:A0 arms[0] L[i] <;> cases h1:A0 arms[1] L[i] <;> cases cv <;> rw [h0] at a0 <;> rw [h1] at a1 <;> simp [Tryz.f6,hw.len,hi',i0,i1,he,a0,a1,hb,hwr,ixI,AG,AV.AD,hq0.AD,hq1.AD,hqe.AD]
    | some j=>
     have hnj:¬ ((j:Int)<0):=by omega
     cases h0:A0 arms[0] L[i] <;> cases h1:A0 arms[1] L[i] <;> cases cv <;> rw [h0] at a0 <;> rw [h1] at a1 <;> simp [Tryz.f6,hw.len,hi',i0,i1,he,a0,a1,hb,hwr,ixI,hnj,AG,AV.AD,hq0.AD,hq1.AD,hqe.AD]) (fun c hI=>by
    obtain ⟨o,cv⟩:=c
    obtain ⟨j1,j2⟩:=hI
    rw [List.take_length] at j1 j2
    simp only at j1 j2
    subst j1;subst j2
    exact ⟨_,_,by simp [Tryz.f6,hw.len] <;> first | exact ⟨rfl,rfl⟩ | rfl,by simp,rfl⟩) (none,true) ⟨by simp,by simp⟩
 cases hq
 have hi0:ixI none = -1:=rfl
 simp [Tryz.f6,hi0] at hlp
 simp [Tryz.f6,hd6,Cw,sub,List.replicate,hlp]
end
section
variable {dv pv av:AV} {kk kv:Int} {knm:Bytes} {R:AF}
variable {f:Int} {b c:Bool} {p n:Nat} {w:AV}
theorem Yj {a1 a2 a3:AV} (hn1:a1.AD=true) (hn2:a2.AD=true) (hn3:a3.AD=true) (hp:((Blk.var false [dv,AV.int IntKind.i64 kk,AV.int IntKind.i64 kv,AV.str knm,pv,av])::R)[p]? = some (.var false [a1,a2,a3])) (h18:∀ h,AL MX (AH MX) 18 [.agg [a1,a2,a3],.agg [.str [],.int .i64 0,.AI]] h=some (.ret (.bool true),h)) :
  Ag MX 6 192 (AH MX) (hd6 12) ([(1,.hp 0 0),(4,.hp p 0),(5,.int .i64 12),(6,.bool b),(7,.int .i64 f),(8,w),(9,.int .i64 (-1)),(10,.bool c),(11,.int .i64 n),(78,.bool false)],(Blk.var false [dv,AV.int IntKind.i64 kk,AV.int IntKind.i64 kv,AV.str knm,pv,av])::R)=some (.nrm,([(1,.hp 0 0),(6,.bool b),(7,.int .i64 f),(10,.bool c),(144,.bool false)],(Blk.var false [dv,AV.int IntKind.i64 kk,AV.int IntKind.i64 kv,AV.str knm,pv,av])::R)):=by
 have hb:=NZ
 simp [BE,BU,Tryz.f6] at hb
 simp [Tryz.f6,hd6,Cw,sub,List.replicate,hp,h18,hb,AG,AV.AD,hn1,hn2,hn3]
theorem Yk {a1 a2 a3 e1 e2 e3:AV} (hn1:a1.AD=true) (hn2:a2.AD=true) (hn3:a3.AD=true) (hm1:e1.AD=true) (hm2:e2.AD=true) (hm3:e3.AD=true) (hp:((Blk.var false [dv,AV.int IntKind.i64 kk,AV.int IntKind.i64 kv,AV.str knm,pv,av])::R)[p]? = some (.var false [a1,a2,a3])) {j:Nat} (hix:ixA 3 w (.int .i64 (j:Int))=some (.ro [e1,e2,e3])) (h18:∀ h,AL MX (AH MX) 18 [.agg [a1,a2,a3],.agg [e1,e2,e3]] h=some (.ret (.bool true),h)) :
  Ag MX 6 192 (AH MX) (hd6 12) ([(1,.hp 0 0),(4,.hp p 0),(5,.int .i64 0),(6,.bool b),(7,.int .i64 f),(8,w),(9,.int .i64 (j:Int)),(10,.bool c),(11,.int .i64 n),(78,.bool false)],(Blk.var false [dv,AV.int IntKind.i64 kk,AV.int IntKind.i64 kv,AV.str knm,pv,av])::R)=some (.nrm,([(1,.hp 0 0),(6,.bool b),(7,.int .i64 f),(10,.bool c),(144,.bool false)],(Blk.var false [dv,AV.int IntKind.i64 kk,AV.int IntKind.i64 kv,AV.str knm,pv,av])::R)):=by
 have hb:=NZ
 simp [BE,BU,Tryz.f6] at hb
 have hnj:¬ ((j:Int)<0):=by omega
 have hnj2:((j:Int) ≥ 0):=by omega
 simp [Tryz.f6,hd6,Cw,sub,List.replicate,hp,hix,h18,hb,hnj,hnj2,AG,AV.AD,hn1,hn2,hn3,hm1,hm2,hm3]
theorem s6_13:Ag MX 6 192 (AH MX) (hd6 13) ([(1,.hp 0 0),(6,.bool c),(7,.int .i64 0),(10,.bool c),(144,.bool false)],(Blk.var false [dv,AV.int IntKind.i64 kk,AV.int IntKind.i64 kv,AV.str knm,pv,av])::R)=some (.nrm,([(1,.hp 0 0),(10,.bool c),(151,.bool false)],(Blk.var false [dv,AV.int IntKind.i64 kk,AV.int IntKind.i64 kv,AV.str knm,pv,av])::R)):=by
 have hbb:∀ x y:Bool,eqA (und MX.ty 4) (.bool x) (.bool y)=some (x == y):=fun x y=>by rfl
 cases c <;> simp [Tryz.f6,hd6,Cw,sub,List.replicate,hbb]
variable {w0 pv':AV} {es:List (List AV)} {m:Nat}
theorem s6_14 (h15:AL MX (AH MX) 15 [(AV.agg [dv,AV.int IntKind.i64 kk,AV.int IntKind.i64 kv,AV.str knm,pv,av])] ((Blk.var false [dv,AV.int IntKind.i64 kk,AV.int IntKind.i64 kv,AV.str knm,pv,av])::R)=some (.ret (.agg [w0,.int .i64 kk,.int .i64 kv,.str knm,pv',.hs (R.length+1) m 4 0 m false]),(Blk.var false [dv,AV.int IntKind.i64 kk,AV.int IntKind.i64 kv,AV.str knm,pv,av])::(R++[.arr 4 false es]))) :
  Ag MX 6 192 (AH MX) (hd6 14) ([(1,.hp 0 0),(10,.bool c),(151,.bool false)],(Blk.var false [dv,AV.int IntKind.i64 kk,AV.int IntKind.i64 kv,AV.str knm,pv,av])::R)=some (.nrm,([(1,.hp 0 0),(10,.bool c),(14,.hp (R.length+2) 0)],(Blk.var false [dv,AV.int IntKind.i64 kk,AV.int IntKind.i64 kv,AV.str knm,pv,av])::(R++[.arr 4 false es,.var false [w0,.int .i64 kk,.int .i64 kv,.str knm,pv',.hs (R.length+1) m 4 0 m false]]))):=by
 simp [Tryz.f6,hd6,Cw,sub,List.replicate,h15]
theorem s6_15 (h2:2≤m) :
  Ag MX 6 192 (AH MX) (hd6 15) ([(1,.hp 0 0),(10,.bool c),(14,.hp (R.length+2) 0)],(Blk.var false [dv,AV.int IntKind.i64 kk,AV.int IntKind.i64 kv,AV.str knm,pv,av])::(R++[.arr 4 false es,.var false [w0,.int .i64 kk,.int .i64 kv,.str knm,pv',.hs (R.length+1) m 4 0 m false]]))=some (.nrm,([(1,.hp 0 0),(10,.bool c),(14,.hp (R.length+2) 0)],(Blk.var false [dv,AV.int IntKind.i64 kk,AV.int IntKind.i64 kv,AV.str knm,pv,av])::(R++[.arr 4 false es,.var false [w0,.int .i64 kk,.int .i64 kv,.str knm,pv',.hs (R.length+1) m 4 0 2 false]]))):=by
 have hsl:slA 4 (.hs (R.length+1) m 4 0 m false) none (some (.int .i64 2)) none=some (.hs (R.length+1) m 4 0 2 false):=by
  have:((2:Int)≤(m:Int)):=by omega
  simp [slA,CK,FG,Ij,Am.intOf,A3,this,h2]
 simp [Tryz.f6,hd6,Cw,sub,List.replicate,gb7,hsl]
end
section
variable {dv pv av:AV} {kk kv:Int} {knm:Bytes} {R:AF}
variable {f:Int} {b c:Bool} {p n:Nat} {w:AV} {w0 pv':AV} {es:List (List AV)} {m:Nat}
theorem s6_16 {H H':AF} (hg:((Blk.var false [dv,AV.int IntKind.i64 kk,AV.int IntKind.i64 kv,AV.str knm,pv,av])::H)[p]? = some (.var false [w0,.int .i64 kk,.int .i64 kv,.str knm,pv',.hs (R.length+1) m 4 0 2 false])) (h16:AL MX (AH MX) 16 [.agg [w0,.int .i64 kk,.int .i64 kv,.str knm,pv',.hs (R.length+1) m 4 0 2 false]] ((Blk.var false [dv,AV.int IntKind.i64 kk,AV.int IntKind.i64 kv,AV.str knm,pv,av])::H)=some (.ret (.tup [w,.int .i64 0]),(Blk.var false [dv,AV.int IntKind.i64 kk,AV.int IntKind.i64 kv,AV.str knm,pv,av])::H')) :
  Ag MX 6 192 (AH MX) (hd6 16) ([(1,.hp 0 0),(10,.bool c),(14,.hp p 0)],(Blk.var false [dv,AV.int IntKind.i64 kk,AV.int IntKind.i64 kv,AV.str knm,pv,av])::H)=some (.nrm,([(1,.hp 0 0),(10,.bool c),(15,w),(16,.int .i64 0)],(Blk.var false [dv,AV.int IntKind.i64 kk,AV.int IntKind.i64 kv,AV.str knm,pv,av])::H')):=by
 simp [Tryz.f6,hd6,Cw,sub,List.replicate,hg,h16]
theorem s6_17 (h15:AL MX (AH MX) 15 [(AV.agg [dv,AV.int IntKind.i64 kk,AV.int IntKind.i64 kv,AV.str knm,pv,av])] ((Blk.var false [dv,AV.int IntKind.i64 kk,AV.int IntKind.i64 kv,AV.str knm,pv,av])::R)=some (.ret (.agg [w0,.int .i64 kk,.int .i64 kv,.str knm,pv',.hs (R.length+1) m 4 0 m false]),(Blk.var false [dv,AV.int IntKind.i64 kk,AV.int IntKind.i64 kv,AV.str knm,pv,av])::(R++[.arr 4 false es]))) :
  Ag MX 6 192 (AH MX) (hd6 17) ([(1,.hp 0 0),(10,.bool c),(15,w),(16,.int .i64 0)],(Blk.var false [dv,AV.int IntKind.i64 kk,AV.int IntKind.i64 kv,AV.str knm,pv,av])::R)=some (.nrm,([(1,.hp 0 0),(10,.bool c),(15,w),(16,.int .i64 0),(17,.hp (R.length+2) 0)],(Blk.var false [dv,AV.int IntKind.i64 kk,AV.int IntKind.i64 kv,AV.str knm,pv,av])::(R++[.arr 4 false es,.var false [w0,.int .i64 kk,.int .i64 kv,.str knm,pv',.hs (R.length+1) m 4 0 m false]]))):=by
 simp [Tryz.f6,hd6,Cw,sub,List.replicate,h15]
theorem s6_18 {a1 a2 a3 a4:AV} (hn1:a1.AD=true) (hn2:a2.AD=true) (hn3:a3.AD=true) (hn4:a4.AD=true) (hix:ixA 4 av (.int .i64 (1:Int))=some (.ro [a1,a2,a3,a4])) :
  Ag MX 6 192 (AH MX) (hd6 18) ([(1,.hp 0 0),(10,.bool c),(15,w),(16,.int .i64 0),(17,.hp (R.length+2) 0)],(Blk.var false [dv,AV.int IntKind.i64 kk,AV.int IntKind.i64 kv,AV.str knm,pv,av])::(R++[.arr 4 false es,.var false [w0,.int .i64 kk,.int .i64 kv,.str knm,pv',.hs (R.length+1) m 4 0 m false]]))=some (.nrm,([(10,.bool c),(15,w),(16,.int .i64 0),(17,.hp (R.length+2) 0)],(Blk.var false [dv,AV.int IntKind.i64 kk,AV.int IntKind.i64 kv,AV.str knm,pv,av])::(R++[.arr 4 false es,.var false [w0,.int .i64 kk,.int .i64 kv,.str knm,pv',.sl 4 true [[.int .i64 0,.int .i64 0,.str [],.AI],[a1,a2,a3,a4]]]]))):=by
 simp [Tryz.f6,hd6,Cw,sub,List.replicate,gb7,hix,bsA,Ar,AG,AV.AD,hn1,hn2,hn3,hn4]
theorem s6_19 {H:AF} {v:AV} (hg:((Blk.var false [dv,AV.int IntKind.i64 kk,AV.int IntKind.i64 kv,AV.str knm,pv,av])::H)[p]? = some (.var false [w0,.int .i64 kk,.int .i64 kv,.str knm,pv',v])) (h37:∀ h,AL MX (AH MX) 37 [.agg [w0,.int .i64 kk,.int .i64 kv,.str knm,pv',v]] h=some (.ret (.tup [.bool true,.int .i64 0]),h)) :
  Ag MX 6 192 (AH MX) (hd6 19) ([(10,.bool c),(15,w),(16,.int .i64 0),(17,.hp p 0)],(Blk.var false [dv,AV.int IntKind.i64 kk,AV.int IntKind.i64 kv,AV.str knm,pv,av])::H)=some (.nrm,([(10,.bool c),(15,w),(16,.int .i64 0),(18,.bool true),(19,.int .i64 0)],(Blk.var false [dv,AV.int IntKind.i64 kk,AV.int IntKind.i64 kv,AV.str knm,pv,av])::H)):=by
 simp [Tryz.f6,hd6,Cw,sub,List.replicate,hg,h37]
theorem s6_20 {H:AF} (h40:∀ h,AL MX (AH MX) 40 [w,.int .i64 1] h=some (.ret (.bool c),h)) (hwn:w.AD=true) :
  Ag MX 6 192 (AH MX) (sub Cw (List.replicate 20 1)) ([(10,.bool c),(15,w),(16,.int .i64 0),(18,.bool true),(19,.int .i64 0)],H)=some (.ret,([(2,.bool true)],H)):=by
 have hbb:∀ x y:Bool,eqA (und MX.ty 4) (.bool x) (.bool y)=some (x == y):=fun x y=>by rfl
 cases c <;> simp [Tryz.f6,Cw,sub,List.replicate,hbb,h40,hwn]
end
theorem QT {q:TyV→Bool}:∀ (L:List TyV),(match L.findIdx? q with
  | none=>L.find? q=none
  | some j=>∃ h:j<L.length,L.find? q=some L[j])
 | []=>by simp
 | u::L=>by
  have ih:=QT (q:=q) L
  rw [List.findIdx?_cons,List.find?_cons]
  cases hq:q u with
  | true=>simp
  | false=>
   cases hf:L.findIdx? q with
   | none=>rw [hf] at ih;simpa using ih
   | some j=>
    rw [hf] at ih
    obtain ⟨h,h2⟩:=ih
    simp only [Option.map_some,Bool.false_eq_true,if_false]
    exact ⟨by simpa using h,by simpa using h2⟩
theorem UL {q:TyV→Bool} (L:List TyV):(L.find? q).isNone=L.all fun u => !q u:=by
 induction L with
 | nil=>rfl
 | cons u L ih=>
  rw [List.find?_cons,List.all_cons]
  cases hq:q u <;> simp_all
theorem We (s:Sh):Dg s (.mk 0 0 [] [])=0:=by
 have h1:BJ (.mk 0 0 [] [])=true:=by decide
 simp [Dg,h1,CA,A9,BN,Hm]
theorem N1 (l:List Int) (n:Nat) (hn:1<n):(zs l n).contains 1=(l.getD 1 0 == 0):=by
 cases hz:l.getD 1 0 == 0 with
 | true=>
  rw [List.contains_iff_mem]
  simp only [zs,List.mem_map,List.mem_filter,List.mem_range]
  exact ⟨1,⟨hn,hz⟩,rfl⟩
 | false=>
  rw [← Bool.not_eq_true,List.contains_iff_mem]
  simp only [zs,List.mem_map,List.mem_filter,List.mem_range]
  rintro ⟨j,⟨_,h2⟩,h3⟩
  have:j=1:=by omega
  subst this
  rw [hz] at h2
  cases h2
theorem Wf {k:C7} (p0 p1:TyV) (h:k.arms=[p0,p1]) (u:TyV):(IM k u == some 1)=(!A0 p0 u&&A0 p1 u):=by
 unfold IM
 rw [h]
 simp only [List.findIdx?_cons,List.findIdx?_nil]
 cases A0 p0 u <;> cases A0 p1 u <;> rfl
theorem N2 {k:C7} {p0 p1:TyV} (h:k.arms=[p0,p1]) (hlen:(Bt (Bb k.data k.ty)).length≤65536):(zs (HH k) k.arms.length).contains 1=(Bt (Bb k.data k.ty)).all fun u=>A0 p0 u || !A0 p1 u:=by
 have hl:k.arms.length=2:=by rw [h];rfl
 rw [hl,N1 _ _ (by decide),UI hlen (by omega)]
 have he:((Bt (Bb k.data k.ty)).filter fun u=>IM k u == some 1)=(Bt (Bb k.data k.ty)).filter fun u => !A0 p0 u&&A0 p1 u:=by
  apply List.filter_congr
  intro u _
  exact Wf p0 p1 h u
 rw [he]
 induction Bt (Bb k.data k.ty) with
 | nil=>rfl
 | cons u L ih=>
  rw [List.all_cons,List.filter_cons]
  cases A0 p0 u <;> cases A0 p1 u <;> simp_all <;> omega
theorem Cl {a b:Code} {s s':St} {l:List (Nat×AV)} (h:Ag MX 6 192 (AH MX) a s=some (.nrm,s')) (h2:∃ T,Ag MX 6 192 (AH MX) b s'=some (.ret,(l,T))):∃ T,Ag MX 6 192 (AH MX) (.seq a b) s=some (.ret,(l,T)):=by
 obtain ⟨T,h2⟩:=h2
 exact ⟨T,F3 h h2⟩
theorem J4 {a b:Code} {s:St} {l:List (Nat×AV)} {T:AF} (h:Ag MX 6 192 (AH MX) a s=some (.ret,(l,T))):∃ T,Ag MX 6 192 (AH MX) (.seq a b) s=some (.ret,(l,T)):=⟨T,WL h⟩
theorem law6 {k:C7} {xs:List AV} (hx:Ck k xs) (hsk:SmT 1048577 k):∃ hr,AN MX 6 [.agg xs] []=some (.ret (.bool true),hr):=by
 have h11:=c11 hx hsk
 have h12:=c12 hx hsk
 have h13:=c13 hx hsk
 obtain ⟨xs',hx',hown⟩:=own1 hx hsk
 have hc15:=c15 hx hsk
 have h38:=c38 hx hsk
 obtain ⟨ys,hys,h36⟩:=c36 hx' hsk
 have h37:=c37 hx' hsk
 obtain ⟨dv,pv,av,rfl,hd,hp,ht,ha⟩:=hx.dest
 obtain ⟨s1,s2,s3,s4⟩:=hsk
 have hz0:A7 (.mk 0 0 [] []) [.str [],.int .i64 0,.AI]:=A7.intro (.inl ⟨rfl,rfl⟩)
 have hys0:=hys
 obtain ⟨vp,rfl,hvp⟩:=hys.AW
 have hend:∃ T,Ag MX 6 192 (AH MX) Cw (Tm.init 0 [.agg [dv,.int .i64 k.ty.k,.int .i64 k.ty.v,.str k.ty.nm,pv,av]],[])=some (.ret,([(2,.bool true)],T)):=by
  rw [UJ]
  refine Cl s6_0 (Cl s6_1 ?_)
  cases hS:Ow k with
  | false=>
   rw [hS] at h11
   exact J4 (s6_2 h11)
  | true=>
   rw [hS] at h11
   refine Cl (s6_2 h11) (Cl (s6_3 h12) ?_)
   have g4:=s6_4 (R:=[]) h13
   by_cases hL:(AX k.data k.ty k.arms).2=0∧decide (cn (Bb k.data k.ty)≤300)=false
   ·rw [if_pos hL] at g4
    exact J4 g4
   ·rw [if_neg hL] at g4
    refine Cl g4 ?_
    obtain ⟨O1,Y1,Y1',o1,f1⟩:=hown [Blk.var false [dv,.int .i64 k.ty.k,.int .i64 k.ty.v,.str k.ty.nm,pv,av]]
    have e36:=f1 36 _ (by simp [PX]) h36
    refine Cl (s6_5 hvp.cells o1 e36) ?_
    obtain ⟨R,hR⟩:∃ R,R=[]++Y1'++[Blk.var false [.str (CG k 2 (Gr k)).1.nm,.int .i64 (CG k 2 (Gr k)).1.v,vp]]:=⟨_,rfl⟩
    have hp1:∀ (B:Blk) (X:AF),(B::(R++X))[([]++Y1').length.succ]? = some (.var false [.str (CG k 2 (Gr k)).1.nm,.int .i64 (CG k 2 (Gr k)).1.v,vp]):=fun B X=>by
     rw [hR];simp
    rw [← hR]
    obtain ⟨P,hP⟩:∃ P,P=([]++Y1').length.succ:=⟨_,rfl⟩
    rw [← hP] at hp1 ⊢
    obtain ⟨O2,Y2,Y2',o2,f2⟩:=hown (Blk.var false [dv,.int .i64 k.ty.k,.int .i64 k.ty.v,.str k.ty.nm,pv,av]::R)
    have e37:=f2 37 _ (by simp [MK]) h37
    refine Cl (s6_6 o2 e37) (Cl (s6_7 ha.len) ?_)
    by_cases hE:(AX k.data k.ty k.arms).2=0
    ·by_cases hn:k.arms.length<2
     ·have hc:(AX k.data k.ty k.arms).2=0∧k.arms.length<2:=⟨hE,hn⟩
      simp only [if_pos hc]
      have r1:CG k 2 (Gr k)=(.mk 0 0 [] [],10):=by unfold CG;rw [if_pos hE,if_pos hn]
      have r2:CG k 2 (Gs k)=(.mk 0 0 [] [],10):=by unfold CG;rw [if_pos hE,if_pos hn]
      simp only [r1,r2] at hys0 hp1 ⊢
      have h18:=c18 _ _ _ _ hys0 hz0 (.mk _ _ _ _ (by decide) (by decide) (fun p hp=>by cases hp))
      rw [JF] at h18
      exact J4 (XN (d:=10) (by decide) hys0.AG rfl (hp1 _ _) h18)
     ·have hc:¬ ((AX k.data k.ty k.arms).2=0∧k.arms.length<2):=fun h=>hn h.2
      rw [if_neg hc,if_neg hc,hE]
      simp only [List.cons_append,List.nil_append]
      refine Cl s6_8b ?_
      obtain ⟨w,hw,h38⟩:=h38 hE
      refine Cl (s6_9 h38) (Cl s6_10 ?_)
      have hbt:Cv k.data k.ty=0:=(H8 hE).1
      have hlen:=JV s1 s2 hbt
      obtain ⟨hsw,_,_,_⟩:=JH ⟨s1,s2,s3,s4⟩ hE
      have h2:2≤k.arms.length:=by omega
      refine Cl (s6_11 hw (by omega) ha s4 h2) ?_
      have hov:CG k 2 (Gr k)=match (Bt (Bb k.data k.ty)).find? (Gr k) with
        | none=>(.mk 0 0 [] [],12)
        | some u=>(u,0):=by unfold CG;rw [if_pos hE,if_neg hn] <;> rfl
      have hcv:CG k 2 (Gs k)=match (Bt (Bb k.data k.ty)).find? (Gs k) with
        | none=>(.mk 0 0 [] [],12)
        | some u=>(u,0):=by unfold CG;rw [if_pos hE,if_neg hn] <;> rfl
      obtain ⟨c,hc⟩:∃ c,c=(Bt (Bb k.data k.ty)).all (fun u=>A0 (k.arms.getD 0 default) u || !A0 (k.arms.getD 1 default) u):=⟨_,rfl⟩
      rw [← hc]
      have hfa:=UL (q:=Gs k) (Bt (Bb k.data k.ty))
      have hcc:((Bt (Bb k.data k.ty)).all fun u => !Gs k u)=c:=by
       rw [hc];congr 1;funext u;simp only [Gs];cases A0 (k.arms.getD 0 default) u <;> cases A0 (k.arms.getD 1 default) u <;> rfl
      rw [hcc] at hfa
      have hcov:decide ((CG k 2 (Gs k)).2=12)=c∧(if (CG k 2 (Gs k)).2=12 then (0:Int) else (CG k 2 (Gs k)).2)=0:=by
       cases hf:(Bt (Bb k.data k.ty)).find? (Gs k) with
       | none=>rw [hf] at hcv hfa;rw [hcv];exact ⟨hfa,rfl⟩
       | some u=>rw [hf] at hcv hfa;rw [hcv];exact ⟨hfa,rfl⟩
      rw [hcov.1,hcov.2]
      -- the rest
      suffices hrest:∃ T,Ag MX 6 192 (AH MX) (.seq (hd6 13) (.seq (hd6 14) (.seq (hd6 15) (.seq (hd6 16) (.seq (hd6 17) (.seq (hd6 18) (.seq (hd6 19) (sub Cw (List.replicate 20 1)))))))))
        ([(1,.hp 0 0),(6,.bool c),(7,.int .i64 0),(10,.bool c),(144,.bool false)],Blk.var false [dv,.int .i64 k.ty.k,.int .i64 k.ty.v,.str k.ty.nm,pv,av]::(R++Y2'))=some (.ret,([(2,.bool true)],T)) by
       have hfi:=QT (q:=Gr k) (Bt (Bb k.data k.ty))
       cases hf:(Bt (Bb k.data k.ty)).findIdx? (Gr k) with
       | none=>
        rw [hf] at hfi
        have hfi:(Bt (Bb k.data k.ty)).find? (Gr k)=none:=hfi
        rw [hfi] at hov
        simp only [hov] at hys0 hp1 ⊢
        have h18:=c18 _ _ _ _ hys0 hz0 (.mk _ _ _ _ (by decide) (by decide) (fun p hp=>by cases hp))
        rw [JF] at h18
        exact Cl (Yj rfl rfl hvp.AD (hp1 _ _) h18) hrest
       | some j=>
        rw [hf] at hfi
        obtain ⟨hj,hfi⟩:=hfi
        rw [hfi] at hov
        simp only [hov] at hys0 hp1 ⊢
        obtain ⟨we,hwe,hwR⟩:=hw.ix hj
        have hok:=J2 hsw _ (List.getElem_mem hj)
        have h18:=c18 _ _ _ _ hys0 hwR hok.2.1
        rw [JF] at h18
        obtain ⟨q,rfl,hq⟩:=hwR.AW
        exact Cl (Yk rfl rfl hvp.AD rfl rfl hq.AD (hp1 _ _) (hwe .i64) h18) hrest
      refine Cl s6_13 ?_
      obtain ⟨w0,pv',es,hw0,hpv,ht',hel,her,h15⟩:=hc15
      rcases h15 with ⟨h0,_⟩ | ⟨h0,h15⟩
      ·rw [h0] at h2;simp at h2
      have hnr:es.all AG=true:=BX hel her (fun a e h=>h.AG)
      obtain ⟨R2,hR2⟩:∃ R2,R2=R++Y2':=⟨_,rfl⟩
      rw [← hR2]
      have q1:=h15 (Blk.var false [dv,.int .i64 k.ty.k,.int .i64 k.ty.v,.str k.ty.nm,pv,av]::R2)
      simp only [List.length_cons,List.cons_append] at q1
      refine Cl (s6_14 q1) (Cl (s6_15 h2) ?_)
      obtain ⟨p0,p1,rest,harms⟩:∃ p0 p1 rest,k.arms=p0::p1::rest:=by
       match h:k.arms,h2 with
       | p0::p1::rest,_=>exact ⟨p0,p1,rest,rfl⟩
      have hd0:k.arms.getD 0 default=p0:=by rw [harms];rfl
      have hd1:k.arms.getD 1 default=p1:=by rw [harms];rfl
      rw [hd0,hd1] at hc
      have hm0:p0∈k.arms:=by rw [harms];simp
      have hm1:p1∈k.arms:=by rw [harms];simp
      have hpe:=(H8 hE).2.2.2
      -- both arms alone
      have hE2:(AX k.data k.ty [p0,p1]).2=0:=Lu hE (by simp) (by simp) fun p hp=>by
       rcases List.mem_cons.1 hp with rfl | hp
       ·exact hpe _ hm0
       ·rcases List.mem_cons.1 hp with rfl | hp
        ·exact hpe _ hm1
        ·cases hp
      have hsk2:SmT 1048577 ⟨k.data,k.ty,[p0,p1]⟩:=⟨s1,s2,(show (2:Nat)<1048577 by decide),fun p hp=>by
       rcases List.mem_cons.1 hp with rfl | hp
       ·exact s4 _ hm0
       ·rcases List.mem_cons.1 hp with rfl | hp
        ·exact s4 _ hm1
        ·cases hp⟩
      have hx2:Ck ⟨k.data,k.ty,[p0,p1]⟩ [w0,.int .i64 k.ty.k,.int .i64 k.ty.v,.str k.ty.nm,pv',.sl 4 false (es.take 2)]:=
       ⟨w0,_,.sl 4 false (es.take 2),rfl,hw0,ht',.inr ⟨false,_,rfl,by simp [hel];omega,fun i a e h1 h2=>by
        have hi:i<2:=(List.getElem?_eq_some_iff.1 h1).1
        rw [List.getElem?_take,if_pos hi] at h2
        refine her i a e ?_ h2
        rw [harms]
        match i,hi with
        | 0,_=>exact h1
        | 1,_=>exact h1⟩⟩
      obtain ⟨w16,hw16,h16⟩:=c16 hx2 hsk2
      simp only [hE2,if_true] at hw16 h16
      have hs16:=Lv hw0 hpv hnr (id:=R2.length+1) (m:=2) (by omega) (lk:=false) (H:=Blk.var false [dv,.int .i64 k.ty.k,.int .i64 k.ty.v,.str k.ty.nm,pv,av]::(R2++[.arr 4 false es,.var false [w0,.int .i64 k.ty.k,.int .i64 k.ty.v,.str k.ty.nm,pv',.hs (R2.length+1) k.arms.length 4 0 2 false]])) (by simp) (kk:=k.ty.k) (vv:=k.ty.v) (nm:=k.ty.nm)
      rw [hel] at hs16
      have hset:∀ (B A A' D:Blk),(B::(R2++[A,D])).set (R2.length+1) A'=B::(R2++[A',D]):=fun B A A' D=>by simp
      rw [hset] at hs16
      have hn16:AG [w0,.int .i64 k.ty.k,.int .i64 k.ty.v,.str k.ty.nm,pv',.sl 4 false (es.take 2)]=true:=by
       simp only [AG,AV.AD,hw0.AD,hpv.AD,Bool.true_and,Bool.and_true]
      have q16:=EY (by simp [Jw]) hs16 (by simp only [List.all_cons,List.all_nil,AV.AD,hn16,Bool.and_self]) (h16 _)
      refine Cl (s6_16 (p:=R2.length+2) (R:=R2) (by simp) q16) ?_
      obtain ⟨R3,hR3⟩:∃ R3,R3=R2++[.arr 4 true es,.var false [w0,.int .i64 k.ty.k,.int .i64 k.ty.v,.str k.ty.nm,pv',.hs (R2.length+1) k.arms.length 4 0 2 false]]:=⟨_,rfl⟩
      rw [← hR3]
      have q2:=h15 (Blk.var false [dv,.int .i64 k.ty.k,.int .i64 k.ty.v,.str k.ty.nm,pv,av]::R3)
      simp only [List.length_cons,List.cons_append] at q2
      obtain ⟨pe,hpe1,hpR⟩:=ha.ix (show 1<k.arms.length by omega)
      have hg1:k.arms[1]=p1:=by simp [harms]
      rw [hg1] at hpR
      have hpR0:=hpR
      obtain ⟨pp,rfl,hpp⟩:=hpR.AW
      refine Cl (s6_17 q2) (Cl (s6_18 rfl rfl rfl hpp.AD (hpe1 .i64)) ?_)
      -- any pattern and the second arm
      have hE3:(AX k.data k.ty [.mk 0 0 [] [],p1]).2=0:=Lu hE (by simp) (by simp) fun p hp=>by
       rcases List.mem_cons.1 hp with rfl | hp
       ·exact We _
       ·rcases List.mem_cons.1 hp with rfl | hp
        ·exact hpe _ hm1
        ·cases hp
      have hsk3:SmT 1048577 ⟨k.data,k.ty,[.mk 0 0 [] [],p1]⟩:=⟨s1,s2,(show (2:Nat)<1048577 by decide),fun p hp=>by
       rcases List.mem_cons.1 hp with rfl | hp
       ·exact .mk _ _ _ _ (by decide) (by decide) (fun p hp=>by cases hp)
       ·rcases List.mem_cons.1 hp with rfl | hp
        ·exact s4 _ hm1
        ·cases hp⟩
      have hx3:Ck ⟨k.data,k.ty,[.mk 0 0 [] [],p1]⟩ [w0,.int .i64 k.ty.k,.int .i64 k.ty.v,.str k.ty.nm,pv',.sl 4 true [[.int .i64 0,.int .i64 0,.str [],.AI],[.int .i64 p1.k,.int .i64 p1.v,.str p1.nm,pp]]]:=
       ⟨w0,_,_,rfl,hw0,ht',.inr ⟨true,_,rfl,rfl,fun i a e h1 h2=>by
        match i with
        | 0=>simp at h1 h2;subst h1;subst h2;exact AQ.intro (.inl ⟨rfl,rfl⟩)
        | 1=>simp at h1 h2;subst h1;subst h2;exact hpR0
        | i+2=>simp at h1⟩⟩
      have h37b:=c37 hx3 hsk3
      have hr3:(CG ⟨k.data,k.ty,[.mk 0 0 [] [],p1]⟩ 2 (Gs ⟨k.data,k.ty,[.mk 0 0 [] [],p1]⟩)).2=12:=by
       unfold CG
       rw [if_pos hE3,if_neg (by simp)]
       have:(Bt (Bb k.data k.ty)).find? (Gs ⟨k.data,k.ty,[.mk 0 0 [] [],p1]⟩)=none:=by
        rw [List.find?_eq_none]
        intro u _
        simp [Gs,A0]
       rw [this]
      rw [hr3] at h37b
      refine Cl (s6_19 (p:=R3.length+2) (by simp) h37b) ?_
      have hreach:=N2 (k:=⟨k.data,k.ty,[p0,p1]⟩) (p0:=p0) (p1:=p1) rfl hlen
      rw [← hc] at hreach
      have h40:=c40 hw16 (by exact Nat.lt_of_le_of_lt (T8 _ 2) (by decide)) 1
      rw [hreach] at h40
      exact ⟨_,s6_20 h40 hw16.AD⟩
    ·have hc:¬ ((AX k.data k.ty k.arms).2=0∧k.arms.length<2):=fun h=>hE h.1
     have r1:∀ q,CG k 2 q=(.mk 0 0 [] [],(AX k.data k.ty k.arms).2):=fun q=>by unfold CG;rw [if_neg hE]
     have h12':=Wc k.data k.ty k.arms
     simp only [if_neg hc,r1,if_neg h12',decide_eq_false h12'] at hys0 hp1 ⊢
     have h18:=c18 _ _ _ _ hys0 hz0 (.mk _ _ _ _ (by decide) (by decide) (fun p hp=>by cases hp))
     rw [JF] at h18
     exact J4 (XN hE hys0.AG rfl (hp1 _ _) h18)
 obtain ⟨T,hend⟩:=hend
 exact ⟨T,run6 hend⟩
end Go.Proofs.Am12
