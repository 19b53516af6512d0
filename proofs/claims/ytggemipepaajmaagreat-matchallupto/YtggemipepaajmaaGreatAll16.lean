/- The abstract machine of this claim, part 16. -/
import Derived.Test.YtggemipepaajmaaGreatAll15
set_option linter.unusedSimpArgs false
set_option linter.unusedVariables false
set_option linter.unusedSectionVars false
set_option linter.unnecessarySimpa false
namespace Go.Proofs.Am12
open Go Go.Am
attribute [local simp] Du CY EX Dv Ch Dw Dx Ew Ba BS Bg Al GC FC EK Gv D2 BA E3 EL Gw Gx xUn Er D3 FD BK DD BL D4 BM D5 Cp Cf B8 BG EM EO
 ev evs Cy DC OR.ofV OR.Dc OR.ofC FH Tm.get Tm.init Tm.only A2 BC CO finish CB Cg Gu Dn D1 unA Ca Br Cb Bs C4 C5 C6 Bt C7 C8 Bu C9 DA Bv Cc AQ CQ Bq C2 C3 CZ Ey Ez E0 Dy Dz FT F6 F7 FU stA A5 DQ B6 DE Es Gd Cd DT CS FG Ge
set_option maxHeartbeats 1000000
attribute [local simp] Dd Ck CM Bk De Df Dg Dh Di Dj Dk El DJ Em D7 Ff Fg G6 D8 En D9 Bm EA Bn EB Cl Eo DK Fh Fi Fj DL EC ED Fk G7 Fl G8 G9 EF Bo DM Cm EG EH DN
theorem PU {H:AE} {u:TyV} {row:List AV} (hr:EU H u row):∃ row' H',A0 u row'∧Ext NoM H H'∧H'.length=H.length∧∀ (f:FuncId) (pre:List AV) (r:CR×AE),(MX.mode f).fresh=true→pre.all AV.AD=true→AK MX (AH MX) f (pre++[.agg row']) H'=some r→AK MX (AH MX) f (pre++[.agg row]) H=some r:=by
 obtain ⟨row',H',a1,a2,a3,a4,a5,a6⟩:=K9 hr
 have happ:∀ (pre:List AV),pre.all AV.AD=true→∀ (x:AV) (G:AE),Ax (pre++[x]) G=(Ax [x] G).map fun q=>(pre++q.1,q.2):=by
  intro pre
  induction pre with
  | nil=>intro _ x G;cases h:Ax [x] G <;> simp [h]
  | cons a r ih=>
   intro hn x G
   simp only [List.all_cons,Bool.and_eq_true] at hn
   rw [List.cons_append,Ax,hn.1]
   simp only [ih hn.2]
   cases h:Ax [x] G <;> simp
 refine ⟨row',H',a2,a3.ext,a4,fun f pre r hm hp hc => ?_⟩
 cases hn:AG row with
 | true=>
  obtain ⟨rfl,rfl⟩:=a6 hn
  exact hc
 | false=>
  have hs:snap Cn (.agg row) H=some (.agg row',H'):=(A1.agg hn a1).at (by decide)
  have hx:Ax [.agg row] H=some ([.agg row'],H'):=by
   simp only [Ax,AV.AD,hn,hs]
  refine Eb hm (by rw [happ pre hp,hx];rfl) ?_ hc
  rw [List.all_append,hp]
  simp [AV.AD,a2.AG]
abbrev tcs (k:C0) (dv pv av:AV):List AV:=[dv,.int .i64 k.ty.k,.int .i64 k.ty.v,.str k.ty.nm,pv,av]
structure Hold (g:FuncId) (t:Nat) (tc:List AV) (q:TyV→Bool) (V:TyV→Prop):Prop where
 prim:MX.prim g=none
 mode:MX.mode g = { }
 call:∀ H u row,H[t]? = some (.var false tc)→EU H u row→V u→∃ H',AK MX (AH MX) g [.agg row,.hp t 0] H=some (.ret (.bool (q u)),H')∧Ext NoM H H'
abbrev VS (s:Sh) (u:TyV):Prop:=E5 s u=0∧Sm 1048577 u∧u.k=0
section
variable {k:C0} {dv pv av:AV} (ha:SlR AU 4 k.arms av) (hal:k.arms.length<1048577) (has:∀ p∈k.arms,Sm 1048577 p) {s:Sh} (hpe:∀ p∈k.arms,CW s p=0) (t:Nat)
include ha hal has hpe
theorem Yu:Hold 61 t (tcs k dv pv av) (fun u=>(k.arms.findIdx? fun p=>CF p u).isNone) (VS s):=by
 refine ⟨rfl,Pp,fun H u row ht hr hv => ?_⟩
 obtain ⟨rv,rfl,hrc⟩:=UN hr
 have hX:Ext NoM H (H++[.var false [.str u.nm,.int .i64 u.v,rv]]):=Ext.app _ _
 obtain ⟨row',H',b1,b2,b3,b4⟩:=PU (hr.ext hX)
 have h62:=b4 62 [av] _ (by simp [MY]) (by simp [ha.AD]) (c62 ha hal has b1 hpe hv.1 H')
 have ht2:=Ad ht [.var false [.str u.nm,.int .i64 u.v,rv]]
 simp at h62
 refine ⟨H',Co Pp YA ?_,hX.trans b2⟩
 cases hf:k.arms.findIdx? (fun p=>CF p u) with
 | none=>simp [AN,Tryz.f61,hrc,ht2,h62,hf,ixI]
 | some i=>
  have:((i:Int) == -1)=false:=by rw [beq_eq_false_iff_ne];omega
  simp [AN,Tryz.f61,hrc,ht2,h62,hf,ixI,this]
end
theorem PV:und MX.ty 155=some (.pointer 34):=by kernel_rfl
def QZ (b:Option TyV) (H:AE) (fd:Nat):Prop:=match b with
 | none=>H[fd]? = some (.var false [.Cq])
 | some u=>∃ j row,H[fd]? = some (.var false [.hp j 0])∧H[j]? = some (.var false row)∧j≠fd∧EU H u row
abbrev Ic (q:TyV→Bool):Option TyV→TyV→Option TyV×Bool:=fun b u=>match q u with
 | true=>(some u,false)
 | false=>(b,b.isNone)
theorem Yv {g:FuncId} {t fb fd:Nat} {tc:List AV} {q:TyV→Bool} {V:TyV→Prop} (hh:Hold g t tc q V) (n1:t≠fd) (n2:fb≠fd) :
  Con 112 [.hp fb 0,.hp fd 0] (fun x=>x=fd) (fun b H=>H[t]? = some (.var false tc)∧H[fb]? = some (.var false [.fn g [] [.hp t 0]])∧QZ b H fd) (Ic q) V:=by
 have hprim:=hh.prim
 have hmode:=hh.mode
 refine ⟨rfl,Ki,fun b H u row hP hr hV => ?_,fun b H H' hP x => ?_⟩
 ·obtain ⟨p1,p2,p3⟩:=hP
  obtain ⟨rv,rfl,hrc⟩:=UN hr
  have hX:Ext NoM H (H++[.var false [.str u.nm,.int .i64 u.v,rv]]):=Ext.app _ _
  have e1:=Ad p1 [.var false [.str u.nm,.int .i64 u.v,rv]]
  have e2:=Ad p2 [.var false [.str u.nm,.int .i64 u.v,rv]]
  obtain ⟨H1,c1,c2⟩:=hh.call _ u _ e1 (hr.ext hX) hV
  have f1:=c2.var e1 (fun h=>h)
  have f2:=c2.var e2 (fun h=>h)
  have fx:=c2.var (Ci H (.var false [.str u.nm,.int .i64 u.v,rv])) (fun h=>h)
  obtain ⟨w,hw⟩:∃ w,H[fd]? = some (.var false [w])∧w.cells=some [w]∧(b=none→w=.Cq)∧∀ u',b=some u'→∃ j,w=.hp j 0:=by
   cases b with
   | none=>exact ⟨.Cq,p3,rfl,fun _=>rfl,fun u' h=>by cases h⟩
   | some u'=>obtain ⟨j,r,a,_⟩:=p3;exact ⟨.hp j 0,a,rfl,(fun h=>by cases h),fun u' h=>⟨j,rfl⟩⟩
  obtain ⟨w1,w2,w3,w4⟩:=hw
  have fw:=c2.var (Ad w1 [.var false [.str u.nm,.int .i64 u.v,rv]]) (fun h=>h)
  have hlt:fd<H.length:=(List.getElem?_eq_some_iff.1 w1).1
  have hlt1:fd<H1.length:=(List.getElem?_eq_some_iff.1 fw).1
  cases hq:q u with
  | true=>
   rw [hq] at c1
   have hs:Ext (fun x=>x=fd) H1 (H1.set fd (.var false [.hp H.length 0])):=Ext.set (M:=fun x=>x=fd) fw rfl (fun _ _ e=>by cases e) (fun _ _ e=>by cases e)
   refine ⟨H1.set fd (.var false [.hp H.length 0]),Co Ki Px ?_,⟨hs.var f1 n1,hs.var f2 n2,?_⟩,(hX.trans c2).any.trans hs⟩
   ·simp [AN,Tryz.f112,PV,eqA,hrc,e2,hprim,c1,fw,Ae fw,hlt1,Ic,hq]
   ·simp only [Ic,hq]
    exact ⟨H.length,_,List.getElem?_set_self hlt1,hs.var fx (fun (h:H.length=fd)=>by omega),by omega,((hr.ext hX).ext c2).ext hs⟩
  | false=>
   rw [hq] at c1
   refine ⟨H1,Co Ki Px ?_,⟨f1,f2,?_⟩,(hX.trans c2).any⟩
   ·cases b with
    | none=>rw [w3 rfl] at fw;simp [AN,Tryz.f112,PV,eqA,hrc,e2,hprim,c1,fw,Ic,hq]
    | some u'=>obtain ⟨j,rfl⟩:=w4 u' rfl;simp [AN,Tryz.f112,PV,eqA,hrc,e2,hprim,c1,fw,Ic,hq]
   ·simp only [Ic,hq]
    cases b with
    | none=>rw [w3 rfl] at fw;exact fw
    | some u'=>
     obtain ⟨j,r,a1,a2,a3,a4⟩:=p3
     rw [w1] at a1
     cases a1
     exact ⟨j,r,fw,(hX.trans c2).var a2 (fun h=>h),a3,(a4.ext hX).ext c2⟩
 ·obtain ⟨p1,p2,p3⟩:=hP
  refine ⟨x.var p1 (fun h=>h),x.var p2 (fun h=>h),?_⟩
  cases b with
  | none=>exact x.var p3 (fun h=>h)
  | some u'=>obtain ⟨j,r,a1,a2,a3,a4⟩:=p3;exact ⟨j,r,x.var a1 (fun h=>h),x.var a2 (fun h=>h),a3,a4.ext x⟩
theorem L0 (q:TyV→Bool):∀ l:List TyV,walk (Ic q) none l=(l.find? q,(l.find? q).isNone)
 | []=>rfl
 | u::l=>by
  simp only [walk,List.find?_cons]
  cases hq:q u with
  | true=>simp [Ic,hq,andThen]
  | false=>
   have:Ic q none u=(none,true):=by simp [Ic,hq]
   rw [this]
   exact L0 q l
noncomputable def E2 (k:C0) (n:Nat) (q:TyV→Bool):TyV×Int:=
 if (Ak k.data k.ty k.arms).2=0 then (if k.arms.length<n then (.mk 0 0 [] [],10) else match (BJ (BQ k.data k.ty)).find? q with
  | none=>(.mk 0 0 [] [],12)
  | some u=>(u,0)) else (.mk 0 0 [] [],(Ak k.data k.ty k.arms).2)
theorem H4 {k:C0} (hsk:SmT 1048577 k) (h:(Ak k.data k.ty k.arms).2=0):ShW (BQ k.data k.ty)∧CD k.data k.ty (BQ k.data k.ty)∧VT k.data k.ty∧(Ao k.data).2=0:=by
 have h1:Cx k.data k.ty=0:=by
  unfold Ak at h
  split at h
  ·rename_i h1;exact h1
  ·exact h
 obtain ⟨a,b,c⟩:=Fx h1
 exact ⟨PT a hsk.1 c b hsk.2.1,c,b,a⟩
theorem c60 {k:C0} {dv pv av:AV} (hx:C1 k (tcs k dv pv av)) (hsk:SmT 1048577 k) {g:FuncId} {t:Nat} {q:TyV→Bool} {H:AE} (ht:H[t]? = some (.var false (tcs k dv pv av))) {n:Nat} (hn:n≤2) (hh:(Ak k.data k.ty k.arms).2=0→n≤k.arms.length→Hold g t (tcs k dv pv av) q (VS (BQ k.data k.ty))) :
  ∃ ys H',AK MX (AH MX) 60 [.agg (tcs k dv pv av),.int .i64 n,.fn g [] [.hp t 0]] H=some (.ret (.tup [.agg ys,.int .i64 (E2 k n q).2]),H')∧A0 (E2 k n q).1 ys∧∀ (x:Nat) lk cs,H[x]? = some (.var lk cs)→H'[x]? = some (.var lk cs):=by
 have hxc:∃ c,C1 k [dv,.int .i64 k.ty.k,.int .i64 k.ty.v,.str k.ty.nm,pv,av]∧c=AV.agg (tcs k dv pv av):=⟨_,hx,rfl⟩
 have h0:A0 (.mk 0 0 [] []) [.str [],.int .i64 0,.AI]:=A0.intro (.inl ⟨rfl,rfl⟩)
 obtain ⟨dv',pv',av',he,hd,hp,htr,ha⟩:=hx.dest
 simp only [tcs,List.cons.injEq,true_and,and_true] at he
 obtain ⟨rfl,rfl,rfl⟩:=he
 have hdc:=hd.cells
 have hpc:=hp.cells
 have hac:=ha.cells
 obtain ⟨v,H1,h63,hold,hok⟩:=c63 hx hsk (H++[.var false (tcs k dv pv av),.var false [.fn g [] [.hp t 0]],.var false [.str [],.int .i64 0,.AI]])
 have b0:H1[H.length]? = some (.var false (tcs k dv pv av)):=by rw [hold _ (by simp)];exact ga7
 have b1:H1[H.length+1]? = some (.var false [.fn g [] [.hp t 0]]):=by rw [hold _ (by simp)];exact gb7
 have b2:H1[H.length+2]? = some (.var false [.str [],.int .i64 0,.AI]):=by rw [hold _ (by simp)];exact gc7
 have bt:H1[t]? = some (.var false (tcs k dv pv av)):=by
  have hlt:=(List.getElem?_eq_some_iff.1 ht).1
  rw [hold _ (by simp;omega),List.getElem?_append_left hlt];exact ht
 have l2:H.length+2<H1.length:=(List.getElem?_eq_some_iff.1 b2).1
 have hk1:∀ (x:Nat) lk cs,H[x]? = some (.var lk cs)→H1[x]? = some (.var lk cs)∧x<H.length:=fun x lk cs hx=>by
  have hlt:=(List.getElem?_eq_some_iff.1 hx).1
  rw [hold _ (by simp;omega),List.getElem?_append_left hlt];exact ⟨hx,hlt⟩
 have hk2:∀ (G:AE) (B:Blk),(∀ (x:Nat) lk cs,H[x]? = some (.var lk cs)→G[x]? = some (.var lk cs))→∀ (x:Nat) lk cs,H[x]? = some (.var lk cs)→(G.set (H.length+2) B)[x]? = some (.var lk cs):=fun G B hg x lk cs hx=>by
  have hlt:=(List.getElem?_eq_some_iff.1 hx).1
  rw [List.getElem?_set_ne (by omega)];exact hg x lk cs hx
 unfold E2
 by_cases hE:(Ak k.data k.ty k.arms).2=0
 ·rw [if_pos hE]
  rw [hE] at h63
  by_cases hlt:k.arms.length<n
  ·rw [if_pos hlt]
   have g0:¬ ((n:Int)≤(k.arms.length:Int)):=by omega
   have g1:¬ (n≤k.arms.length):=by omega
   exact ⟨[.str [],.int .i64 0,.AI],H1.set (H.length+2) (.var false [.str [],.int .i64 0,.AI]),Co J7 MV (by simp [AN,Tryz.f60,PV,eqA,hdc,hpc,hac,h63,b0,b1,b2,ha.len,g0,g1,l2,bsA,Ar,List.replicate,AG,AV.AD,Av,Ae b2]),h0,hk2 _ _ fun x lk cs hx=>(hk1 x lk cs hx).1⟩
  ·rw [if_neg hlt]
   have g0:(n:Int)≤(k.arms.length:Int):=by omega
   have g1:n≤k.arms.length:=by omega
   obtain ⟨m,S,hS,hs⟩:=hok hE
   obtain ⟨hw,hsh,hvt,hcd⟩:=H4 hsk hE
   have hX:Ext NoM H1 (H1++[.var false [.Cq]]):=Ext.app _ _
   have hcon:=Yv (hh hE g1) (fb:=H.length+1) (fd:=H1.length) (by have:=(List.getElem?_eq_some_iff.1 bt).1;omega) (by omega)
   have hP0:QZ none (H1++[Blk.var false [.Cq]]) H1.length:=Ci _ _
   obtain ⟨H2,c1,c2,c3⟩:=c64 hw (Option TyV) 112 _ (fun x=>x=H1.length) _ _ _ hcon m S (H1++[.var false [.Cq]]) v none (A9.ext m hs hX (fun x _ h=>h)) (fun x hx h=>by have:=hS x hx;omega) (fun x hx=>by simp;omega) (fun u hu=>JT hw u hu) ⟨Ad bt _,Ad b1 _,hP0⟩
   rw [L0] at c1 c2
   obtain ⟨_,_,c2⟩:=c2
   have e2:=c3.var (Ad b2 [.var false [.Cq]]) (fun (h:H.length+2=H1.length)=>by omega)
   have l3:H.length+2<H2.length:=(List.getElem?_eq_some_iff.1 e2).1
   cases hf:(BJ (BQ k.data k.ty)).find? q with
   | none=>
    rw [hf] at c1 c2
    have c2:H2[H1.length]? = some (.var false [.Cq]):=c2
    simp at c1
    exact ⟨[.str [],.int .i64 0,.AI],H2.set (H.length+2) (.var false [.str [],.int .i64 0,.AI]),Co J7 MV (by simp [AN,Tryz.f60,PV,eqA,hdc,hpc,hac,h63,b0,b1,b2,ha.len,g0,g1,l2,bsA,Ar,List.replicate,AG,AV.AD,Av,c1,c2,e2,l3,Ae e2]),h0,hk2 _ _ fun x lk cs hx=>c3.var (Ad (hk1 x lk cs hx).1 _) (fun (h:x=H1.length)=>by have:=(hk1 x lk cs hx).2;omega)⟩
   | some u=>
    rw [hf] at c1 c2
    obtain ⟨j,row,d1,d2,d3,d4⟩:=c2
    simp at c1
    obtain ⟨rv,rfl,hrc⟩:=UN d4
    have hmem:=List.mem_of_find?_eq_some hf
    obtain ⟨v1,v2,v3⟩:=JT hw u hmem
    obtain ⟨row',H3,r1,r2,r3,r4⟩:=PU d4
    obtain ⟨ys,y1,y2⟩:=c113 u row' r1 v2
    have hc113:=r4 113 [] _ (by simp [Kj]) rfl (y2 H3)
    simp at hc113
    have e3:=r2.var e2 (fun h=>h)
    have l4:H.length+2<H3.length:=(List.getElem?_eq_some_iff.1 e3).1
    obtain ⟨yv,hys,hy⟩:=y1.AW
    have hyc:=hy.cells
    subst hys
    exact ⟨_,H3.set (H.length+2) (.var false [.str u.nm,.int .i64 u.v,yv]),Co J7 MV (by simp [AN,Tryz.f60,PV,eqA,hdc,hpc,hac,h63,b0,b1,b2,ha.len,g0,g1,l2,bsA,Ar,List.replicate,AG,AV.AD,Av,c1,d1,d2,hc113,hyc,e3,l4,Ae e3]),y1,hk2 _ _ fun x lk cs hx=>r2.var (c3.var (Ad (hk1 x lk cs hx).1 _) (fun (h:x=H1.length)=>by have:=(hk1 x lk cs hx).2;omega)) (fun h=>h)⟩
 ·rw [if_neg hE]
  have hfo:∀ a,Av [(Ak k.data k.ty k.arms).2,a]=(Ak k.data k.ty k.arms).2:=fun a=>by simp [Av,hE]
  have hzb:((Ak k.data k.ty k.arms).2 != 0)=true:=by simp [hE]
  exact ⟨[.str [],.int .i64 0,.AI],H1.set (H.length+2) (.var false [.str [],.int .i64 0,.AI]),Co J7 MV (by simp [AN,Tryz.f60,PV,eqA,hdc,hpc,hac,h63,b0,b1,b2,ha.len,l2,hfo,hzb,bsA,Ar,List.replicate,AG,AV.AD,Ae b2]),h0,hk2 _ _ fun x lk cs hx=>(hk1 x lk cs hx).1⟩
abbrev E6 (k:C0) (u:TyV):Bool:=(k.arms.findIdx? fun p=>CF p u).isNone
section
variable {k:C0} {xs:List AV} (hx:C1 k xs) (hsk:SmT 1048577 k)
include hx hsk
theorem L1 (h:(Ak k.data k.ty k.arms).2=0):∀ p∈k.arms,CW (BQ k.data k.ty) p=0:=fun p hp=>
 (Re ((Gm h).2.2.2 p hp)).2.1
theorem c14:∃ ys,A0 (E2 k 1 (E6 k)).1 ys∧∀ h,AK MX (AH MX) 14 [.agg xs] h=some (.ret (.tup [.agg ys,.int .i64 (E2 k 1 (E6 k)).2]),h):=by
 have hx0:=hx
 have hxn:AG xs=true:=by obtain ⟨dv,pv,av,rfl,hd,hp,ht,ha⟩:=hx.dest;simp [AV.AD,AG,hd.AD,hp.AD,ha.AD]
 obtain ⟨dv,pv,av,rfl,hd,hp,ht,ha⟩:=hx.dest
 obtain ⟨s1,s2,s3,s4⟩:=hsk
 obtain ⟨ys,H',c1,c2,c3⟩:=c60 hx0 ⟨s1,s2,s3,s4⟩ (H:=[.var false (tcs k dv pv av),.var false [.str [],.int .i64 0,.AI]]) (t:=0) (g:=61) (n:=1) (q:=E6 k) rfl (by decide) (fun he _=>Yu ha s3 s4 (L1 hx0 ⟨s1,s2,s3,s4⟩ he) 0)
 rw [show ((1:Nat):Int)=1 from rfl] at c1
 have b1:=c3 1 _ _ rfl
 have hyn:=c2.AG
 have lb:=(List.getElem?_eq_some_iff.1 b1).1
 obtain ⟨yv,rfl,hy⟩:=c2.AW
 have hyc:=hy.cells
 refine ⟨_,c2,Ai Pj Xx (by simp [AV.AD,hxn]) (by simp [AV.AD,AG] at hyn ⊢ <;> exact hyn) (hr:=_) (by simp [AN,Tryz.f14,c1,b1,Ae b1,lb,hd.cells,hp.cells,ha.cells,hyc] <;> rfl)⟩
end
theorem Xa (n:Nat) (hn:n<1048577) (h:AE):Dp MX.ty 39 (.int .i64 n) (.int .i64 n) h=some (Aw h 1 (List.replicate n [.int .i64 0])):=by
 have e1:und MX.ty 39=some (.slice 3):=by kernel_rfl
 have e2:siz MX.ty 3=1:=by kernel_rfl
 have e3:byt MX.ty 3=8:=by kernel_rfl
 have e4:DH MX.ty 3=some [.int .i64 0]:=by kernel_rfl
 unfold Dp
 have h1:(n:Int)<17592186044416:=by omega
 have h2:8 * (n:Int)≤17592186044416:=by omega
 simp only [e1,Am.intOf,e2,e3,e4]
 simp [Aw,h1,h2]
def DW (b:List Int):Option Nat→List Int
 | none=>b
 | some i=>b.set i (wr .i64 (b.getD i 0+1))
theorem HH (b:List Int) (o:Option Nat):(DW b o).length=b.length:=by
 cases o <;> simp [DW]
abbrev FL (k:C0) (u:TyV):Option Nat:=k.arms.findIdx? fun p=>CF p u
theorem con65 {k:C0} {dv pv av:AV} (ha:SlR AU 4 k.arms av) (hal:k.arms.length<1048577) (has:∀ p∈k.arms,Sm 1048577 p) {s:Sh} (hpe:∀ p∈k.arms,CW s p=0) {t o a:Nat} (n1:t≠a) (n2:o≠a) :
  Con 65 [.hp t 0,.hp o 0] (fun x=>x=a) (fun (b:List Int) H=>H[t]? = some (.var false (tcs k dv pv av))∧H[o]? = some (.var false [.hs a k.arms.length 1 0 k.arms.length false])∧H[a]? = some (.arr 1 false (ints b))∧b.length=k.arms.length) (fun b u=>(DW b (FL k u),true)) (VS s):=by
 refine ⟨rfl,MZ,fun b H u row hP hr hv => ?_,fun b H H' hP x => ?_⟩
 ·obtain ⟨p1,p2,p3,p4⟩:=hP
  obtain ⟨rv,rfl,hrc⟩:=UN hr
  have hX:Ext NoM H (H++[.var false [.str u.nm,.int .i64 u.v,rv]]):=Ext.app _ _
  have e1:=Ad p1 [.var false [.str u.nm,.int .i64 u.v,rv]]
  obtain ⟨row',H',b1,b2,b3,b4⟩:=PU (hr.ext hX)
  have h62:=b4 62 [av] _ (by simp [MY]) (by simp [ha.AD]) (c62 ha hal has b1 hpe hv.1 H')
  simp at h62
  have f1:=(hX.trans b2).var p1 (fun h=>h)
  have f2:=(hX.trans b2).var p2 (fun h=>h)
  have f3:=(hX.trans b2).keep p3 (fun h=>h) (fun _ _ e=>by cases e)
  cases hf:k.arms.findIdx? (fun p=>CF p u) with
  | none=>
   rw [hf] at h62
   refine ⟨H',Co MZ Se (by simp [AN,Tryz.f65,hrc,e1,h62,ixI]),?_,(hX.trans b2).any⟩
   simp only [FL,hf,DW]
   exact ⟨f1,f2,f3,p4⟩
  | some i=>
   rw [hf] at h62
   have hi:i<k.arms.length:=by
    obtain ⟨h,_⟩:=List.findIdx?_eq_some_iff_getElem.1 hf
    exact h
   have hib:i<b.length:=by omega
   have hne:((i:Int) != -1)=true:=by
    have:((i:Int) == -1)=false:=by rw [beq_eq_false_iff_ne];omega
    simp [bne,this]
   have hlen:(ints b).length=k.arms.length:=by simp [ints,p4]
   have hge:(ints b)[i]? = some [.int .i64 b[i]]:=by simp [ints,hib]
   have hset:(ints b).set i [.int .i64 (wr .i64 (b[i]+1))]=ints (DW b (some i)):=by
    simp [ints,DW,hib,List.map_set]
   have hs:Ext (fun x=>x=a) H' (H'.set a (.arr 1 false (ints (DW b (some i))))):=Ext.set (M:=fun x=>x=a) f3 rfl (fun _ _ e=>by cases e) (fun _ _ e=>by cases e)
   have hla:=(List.getElem?_eq_some_iff.1 f3).1
   refine ⟨H'.set a (.arr 1 false (ints (DW b (some i)))),Co MZ Se ?_,?_,(hX.trans b2).any.trans hs⟩
   ·have hix:ixA 1 (.hs a k.arms.length 1 0 k.arms.length false) (.int .i64 (i:Int))=some (.ep a k.arms.length 1 i 0):=by
     rw [A7 (kd:=.i64) (hi:=hi),Nat.zero_add]
    simp [AN,Tryz.f65,hrc,e1,h62,ixI,hne,f2,hix,f3,hlen,hge,hset]
   ·simp only [FL,hf]
    exact ⟨hs.var f1 n1,hs.var f2 n2,List.getElem?_set_self hla,by rw [HH];exact p4⟩
 ·obtain ⟨p1,p2,p3,p4⟩:=hP
  exact ⟨x.var p1 (fun h=>h),x.var p2 (fun h=>h),x.keep p3 (fun h=>h) (fun _ _ e=>by cases e),p4⟩
noncomputable def FA (k:C0):List Int:=(walk (fun b u=>(DW b (FL k u),true)) (List.replicate k.arms.length 0) (BJ (BQ k.data k.ty))).1
theorem GM {σ:Type} (f:σ→TyV→σ):∀ (l:List TyV) (b:σ),walk (fun b u=>(f b u,true)) b l=(l.foldl f b,true)
 | [],_=>rfl
 | u::l,b=>by simp only [walk,andThen,List.foldl_cons];exact GM f l _
section
variable {k:C0} {xs:List AV} (hx:C1 k xs) (hsk:SmT 1048577 k)
include hx hsk
theorem c17:∃ w,(((Ak k.data k.ty k.arms).2=0∧w=.sl 1 false (ints (FA k))∧(FA k).length=k.arms.length)∨((Ak k.data k.ty k.arms).2≠0∧w=.AI))∧∀ h,AK MX (AH MX) 17 [.agg xs] h=some (.ret (.tup [w,.int .i64 (Ak k.data k.ty k.arms).2]),h):=by
 have hx0:=hx
 have hxn:AG xs=true:=by obtain ⟨dv,pv,av,rfl,hd,hp,ht,ha⟩:=hx.dest;simp [AV.AD,AG,hd.AD,hp.AD,ha.AD]
 obtain ⟨dv,pv,av,rfl,hd,hp,ht,ha⟩:=hx.dest
 have hsk0:=hsk
 obtain ⟨s1,s2,s3,s4⟩:=hsk
 obtain ⟨v,H1,h63,hold,hok⟩:=c63 hx0 hsk0 [.var false (tcs k dv pv av)]
 have b0:H1[0]? = some (.var false (tcs k dv pv av)):=hold 0 (by simp)
 have l0:=(List.getElem?_eq_some_iff.1 b0).1
 by_cases hE:(Ak k.data k.ty k.arms).2=0
 ·rw [hE] at h63 ⊢
  obtain ⟨m,S,hS,hs⟩:=hok hE
  obtain ⟨hw,hsh,hvt,hcd⟩:=H4 hsk0 hE
  have hms:=Xa k.arms.length s3
  obtain ⟨Z,hZ⟩:∃ Z:List Int,Z=List.replicate k.arms.length 0:=⟨_,rfl⟩
  have hrep:List.replicate k.arms.length [AV.int .i64 0]=ints Z:=by rw [hZ];simp [ints]
  rw [hrep] at hms
  have hZl:(ints Z).length=k.arms.length:=by rw [hZ];simp [ints]
  let T:AE:=[.arr 1 false (ints Z),.var false [.hs H1.length k.arms.length 1 0 k.arms.length false]]
  have hX:Ext NoM H1 (H1++T):=Ext.app _ _
  have hcon:=con65 (dv:=dv) (pv:=pv) ha s3 s4 (L1 hx0 hsk0 hE) (t:=0) (o:=H1.length+1) (a:=H1.length) (by omega) (by omega)
  obtain ⟨H2,c1,c2,c3⟩:=c64 hw (List Int) 65 _ (fun x=>x=H1.length) _ _ _ hcon m S (H1++T) v Z (A9.ext m hs hX (fun x _ h=>h)) (fun x hx h=>by have:=hS x hx;omega) (fun x hx=>by simp [T];omega) (fun u hu=>JT hw u hu) ⟨Ad b0 _,gb7,ga7,by rw [hZ];simp⟩
  rw [GM] at c1 c2
  have hcnt:FA k=(BJ (BQ k.data k.ty)).foldl (fun b u=>DW b (FL k u)) Z:=by
   unfold FA
   rw [GM,hZ]
  rw [← hcnt] at c2
  obtain ⟨_,d2,d3,d4⟩:=c2
  refine ⟨.sl 1 false (ints (FA k)),.inl ⟨rfl,rfl,d4⟩,?_⟩
  have hil:(ints (FA k)).length=k.arms.length:=by simp [ints,d4]
  have hnr:(ints (FA k)).all AG=true:=by
   rw [List.all_eq_true]
   intro e he
   simp only [ints,List.mem_map] at he
   obtain ⟨z,_,rfl⟩:=he
   rfl
  have hsn:A1 9 (.tup [.hs H1.length k.arms.length 1 0 k.arms.length false,.int .i64 0]) H2 (.tup [.sl 1 false (ints (FA k)),.int .i64 0]) (H2.set H1.length (.arr 1 true (ints (FA k)))):=by
   refine (A1.tup (by rfl) (Az.cons (K:=1) (c':=.sl 1 false (ints (FA k))) (h1:=H2.set H1.length (.arr 1 true (ints (FA k)))) (fun n => ?_) (Az.cons (A1.flat (c:=.int .i64 0) rfl _) (Az.nil _)))).mono (by decide)
   have hb:(Nat.beq (ints (FA k)).length k.arms.length&&Nat.beq 1 1&&Nat.ble (0+k.arms.length) (ints (FA k)).length&&(ints (FA k)).all AG)=true:=by
    rw [hnr,hil];simp [A2,BC]
   simp only [Am.snap,d3,hb]
   simp [← hil]
  intro h
  exact HY MR SX (by simp [AV.AD,hxn]) (by simp [AV.AD,AG]) (hsn.at (by decide)) (by simp [AV.AD,AG] <;> exact List.all_eq_true.1 hnr) (hr:=H2) (by
   simp only [T] at c1
   simp [AN,Tryz.f17,h63,b0,ha.len,hms,Aw,hZl,c1,d2,Ae d2,hd.cells,hp.cells,ha.cells]) h
 ·have hzb:((Ak k.data k.ty k.arms).2 != 0)=true:=by simp [hE]
  exact ⟨.AI,.inr ⟨hE,rfl⟩,fun h=>Ai MR SX (by simp [AV.AD,hxn]) rfl (hr:=_) (by simp [AN,Tryz.f17,h63,hzb,hd.cells,hp.cells,ha.cells] <;> rfl) h⟩
end
def FB (n:Int) (xs:List AV):Prop:=xs=[.int .i64 n]
theorem L2 (n:Int) (xs:List AV) (h:FB n xs):AG xs=true:=by subst h;rfl
theorem UQ {l:List Int} {i:Nat} {a:Int} {e:List AV} (h1:l[i]? = some a) (h2:(ints l)[i]? = some e):FB a e:=by
 simp only [ints,List.getElem?_map,h1,Option.map_some,Option.some.injEq] at h2
 exact h2.symm
theorem LB (ex:Bool) (l:List Int):SlR FB 1 l (.sl 1 ex (ints l)):=.inr ⟨ex,_,rfl,by simp [ints],fun i a e h1 h2=>UQ h1 h2⟩
def zs (l:List Int) (i:Nat):List Int:=((List.range i).filter fun (j:Nat)=>l.getD j 0 == 0).map fun (j:Nat)=>(j:Int)
theorem KC (l:List Int) (i:Nat):zs l (i+1)=if (l.getD i 0 == 0)=true then zs l i++[(i:Int)] else zs l i:=by
 simp only [zs,List.range_succ,List.filter_append,List.map_append,List.filter_cons,List.filter_nil]
 split <;> simp
theorem PW (l:List Int) (i:Nat):(zs l i).length≤i:=by
 simp only [zs,List.length_map]
 exact Nat.le_trans (List.length_filter_le ..) (by simp)
section
variable {k:C0} {xs:List AV} (hx:C1 k xs) (hsk:SmT 1048577 k)
include hx hsk
theorem c16:∃ w,SlR FB 1 (if (Ak k.data k.ty k.arms).2=0 then zs (FA k) k.arms.length else []) w∧∀ h,AK MX (AH MX) 16 [.agg xs] h=some (.ret (.tup [w,.int .i64 (Ak k.data k.ty k.arms).2]),h):=by
 obtain ⟨w,hw,h17⟩:=c17 hx hsk
 have hxn:AG xs=true:=by obtain ⟨dv,pv,av,rfl,hd,hp,ht,ha⟩:=hx.dest;simp [AV.AD,AG,hd.AD,hp.AD,ha.AD]
 obtain ⟨dv,pv,av,rfl,hd,hp,ht,ha⟩:=hx.dest
 have hal:=hsk.2.2.1
 rcases hw with ⟨hE,rfl,hlen⟩ | ⟨hE,rfl⟩
 ·rw [hE] at h17 ⊢
  obtain ⟨L,hL⟩:∃ L,L=FA k:=⟨_,rfl⟩
  rw [← hL] at h17 hlen ⊢
  have hL0:k.arms.length=L.length:=hlen.symm
  rw [hL0] at hal ⊢
  have hsl:=LB false L
  obtain ⟨v,hv⟩:∃ v,v=AV.sl 1 false (ints L):=⟨_,rfl⟩
  rw [← hv] at h17 hsl
  obtain ⟨e,st,hlp,hq⟩:=AR (M:=MX) (fid:=16) (N:=32) (C:=AH MX) (c:=AQ Tryz.f16 0) (n:=L.length)
   (fun i (b:AV×AE×List (List AV))=>([(6,b.1),(17,v),(18,.int .i64 L.length),(19,.int .i64 i)],Blk.var false (tcs k dv pv av)::b.2.1))
   (fun i b=>Af 1 1 b.2.1 b.1 b.2.2∧b.2.2.length=(zs L i).length∧∀ (j:Nat) t e,(zs L i)[j]? = some t→b.2.2[j]? = some e→FB t e)
   (fun r=>∃ b:AV×AE×List (List AV),r=(.ext 0,([(6,b.1),(17,v),(18,.int .i64 L.length),(19,.int .i64 L.length),(20,.bool false)],Blk.var false (tcs k dv pv av)::b.2.1))∧Af 1 1 b.2.1 b.1 b.2.2∧b.2.2.length=(zs L L.length).length∧∀ (j:Nat) t e,(zs L L.length)[j]? = some t→b.2.2[j]? = some e→FB t e) (fun i b hi hI=>by
     obtain ⟨a,rest,es⟩:=b
     obtain ⟨i1,i2,i3⟩:=hI
     simp only at i1 i2 i3
     have hi':=AY hi
     have hwr:=AX hi hal
     obtain ⟨e,he,hR⟩:=hsl.ix hi
     subst hR
     have hg:L.getD i 0=L[i]:=by simp [hi]
     cases hz:L[i] == 0 with
     | true=>
      have hs:zs L (i+1)=zs L i++[(i:Int)]:=by rw [KC,hg,if_pos hz]
      obtain ⟨a',rest',hap,hacc⟩:=Af.push (byt:=8) (P:=[Blk.var false (tcs k dv pv av)]) [.int .i64 (i:Int)] true i1 (by decide) (by decide) (by have:=PW L i;omega)
      obtain ⟨j1,j2⟩:=D6 i2 i3 (show FB (i:Int) [.int .i64 (i:Int)] from rfl)
      simp only [List.cons_append,List.nil_append] at hap
      exact .inl ⟨(a',rest',es++[[.int .i64 (i:Int)]]),by simp [Tryz.f16,hi',he,hwr,hz,hap,bsA,Ar,List.replicate,AG,AV.AD],hacc,by rw [hs];exact j1,by rw [hs];exact j2⟩
     | false=>
      have hs:zs L (i+1)=zs L i:=by rw [KC,hg,if_neg (by rw [hz];decide)]
      exact .inl ⟨(a,rest,es),by simp [Tryz.f16,hi',he,hwr,hz],i1,by rw [hs];exact i2,by rw [hs];exact i3⟩) (fun b hI=>by
     obtain ⟨a,rest,es⟩:=b
     obtain ⟨i1,i2,i3⟩:=hI
     exact ⟨_,_,by simp [Tryz.f16] <;> first | exact ⟨rfl,rfl⟩ | rfl,by simp,(a,rest,es),rfl,i1,i2,i3⟩) (.AI,[],[]) ⟨Af.nil _ _ _,rfl,fun j t e h=>by simp [zs] at h⟩
  obtain ⟨⟨a,rest,es⟩,hq,q1,q2,q3⟩:=hq
  simp only at q1 q2 q3 hq
  cases hq
  simp [Tryz.f16] at hlp
  obtain ⟨v',rest',hsn,hrep,heq⟩:=Gk (P:=[Blk.var false (tcs k dv pv av)]) L2 q1 q2 q3
  refine ⟨v',hrep,fun h => ?_⟩
  have hac:=q1.cells
  cases han:a.AD with
  | true=>
   have:=heq han
   subst this
   exact Ai J6 Og (by simp [AV.AD,hxn]) (by simp [AV.AD,AG,han]) (hr:=_) (by simp [AN,Tryz.f16,h17,hsl.len,hlp,hd.cells,hp.cells,ha.cells] <;> rfl) h
  | false=>
   have hsn2:A1 9 (.tup [a,.int .i64 0]) ([Blk.var false (tcs k dv pv av)]++rest) (.tup [v',.int .i64 0]) ([Blk.var false (tcs k dv pv av)]++rest'):=(A1.tup (by simp [AG,han]) (Az.cons hsn (Az.cons (A1.flat (c:=.int .i64 0) rfl _) (Az.nil _)))).mono (by decide)
   exact HY J6 Og (by simp [AV.AD,hxn]) (by simp [AV.AD,AG,han]) (hsn2.at (by decide)) (by simp [AV.AD,AG,hrep.AD]) (hr:=_) (by simp [AN,Tryz.f16,h17,hsl.len,hlp,hd.cells,hp.cells,ha.cells] <;> rfl) h
 ·have hzb:((Ak k.data k.ty k.arms).2 != 0)=true:=by simp [hE]
  rw [if_neg hE]
  exact ⟨.AI,.inl ⟨rfl,rfl⟩,fun h=>Ai J6 Og (by simp [AV.AD,hxn]) rfl (hr:=_) (by simp [AN,Tryz.f16,h17,hzb,hd.cells,hp.cells,ha.cells] <;> rfl) h⟩
end
end Go.Proofs.Am12
namespace Go.Proofs.Am12
open Go Go.Am
mutual
def shN:Sh→Nat
 | .bit _=>1
 | .cons _ ss=>1+Ie ss
def Ie:List (List Sh)→Nat
 | []=>0
 | s::r=>Iw s+Ie r
def Iw:List Sh→Nat
 | []=>0
 | x::r=>shN x+Iw r
end
mutual
def shX:Sh→Nat
 | .bit n=>n.toNat
 | .cons _ ss=>(JL ss.length).toNat+HI ss
def HI:List (List Sh)→Nat
 | []=>0
 | s::r=>max (IV s) (HI r)
def IV:List Sh→Nat
 | []=>0
 | x::r=>shX x+IV r
end
theorem Xb {l:List AO} {rec:Rec} (hr:∀ t c s,CD l t s→(rec t c).2=0→(rec t c).1=c+shN s):∀ (fs:List B7) (ss:List Sh) c,ss.length=fs.length→(∀ (j:Nat) f y,fs[j]? = some f→ss[j]? = some y→CD l f.ty y)→(eFs rec fs c).2=0→(eFs rec fs c).1=c+Iw ss
 | [],[],c,_,_,_=>by simp [eFs,Iw]
 | f::r,x::ss,c,hl,hs,h=>by
  simp only [eFs] at h ⊢
  split at h
  ·rename_i hz
   rw [if_pos hz]
   have h1:=hr f.ty c x (hs 0 _ _ rfl rfl) hz
   rw [Xb hr r ss _ (by simpa using hl) (fun j f y a b=>hs (j+1) f y (by simpa using a) (by simpa using b)) h,h1]
   simp only [Iw]
   omega
  ·rename_i hz;exact absurd h hz
 | [],_::_,_,h,_,_=>by simp at h
 | _::_,[],_,h,_,_=>by simp at h
theorem Xc {l:List AO} {rec:Rec} (hr:∀ t c s,CD l t s→(rec t c).2=0→(rec t c).1=c+shN s):∀ (cs:List Bb) (ss:List (List Sh)) c,ss.length=cs.length→(∀ (i:Nat) k s,cs[i]? = some k→ss[i]? = some s→s.length=k.fields.length∧∀ (j:Nat) f y,k.fields[j]? = some f→s[j]? = some y→CD l f.ty y)→(eCs rec cs c).2=0→(eCs rec cs c).1=c+Ie ss
 | [],[],c,_,_,_=>by simp [eCs,Ie]
 | k::r,s::ss,c,hl,hs,h=>by
  simp only [eCs] at h ⊢
  split at h
  ·rename_i hz
   rw [if_pos hz]
   obtain ⟨a1,a2⟩:=hs 0 _ _ rfl rfl
   have h1:=Xb hr k.fields s c a1 a2 hz
   rw [Xc hr r ss _ (by simpa using hl) (fun i k s a b=>hs (i+1) k s (by simpa using a) (by simpa using b)) h,h1]
   simp only [Ie]
   omega
  ·rename_i hz;exact absurd h hz
 | [],_::_,_,h,_,_=>by simp at h
 | _::_,[],_,h,_,_=>by simp at h
theorem Qa {l:List AO} {r:Option Rec} (hr:∀ rec,r=some rec→∀ t c s,CD l t s→(rec t c).2=0→(rec t c).1=c+shN s) (t:TyV) (c:Int) (s:Sh) (hs:CD l t s) (h:(Cw l r t c).2=0):(Cw l r t c).1=c+shN s:=by
 unfold Cw at h ⊢
 split at h
 ·cases h
 rename_i g1
 rw [if_neg g1]
 split at h
 ·cases h
 rename_i g2
 rw [if_neg g2]
 split at h
 ·cases h
 rename_i g3
 rw [if_neg g3]
 split at h
 ·cases h
 rename_i g4
 rw [if_neg g4]
 split at h
 ·cases h
 rename_i g5
 rw [if_neg g5]
 cases r with
 | none=>cases h
 | some rec=>
  simp only at h ⊢
  cases hs with
  | bit _ hb hw h2=>rw [if_pos hb];simp [shN]
  | cons _ ns ss hb hk hn hl h3 hf=>
   have hbn:¬ (Cv t=true):=by rw [hb];decide
   rw [if_neg hbn] at h ⊢
   rw [Xc (hr rec rfl) _ ss _ hl (fun i k s a b=>⟨h3 i k s a b,fun j f y d e=>hf i k s j f y a b d e⟩) h]
   simp only [shN]
   omega
theorem PX (l:List AO):∀ n t c s,CD l t s→(DP l n t c).2=0→(DP l n t c).1=c+shN s
 | 0=>fun t c s hs h=>Qa (fun rec h=>by cases h) t c s hs h
 | n+1=>fun t c s hs h=>Qa (fun rec h=>by cases h;exact PX l n) t c s hs h
theorem Qb (n:Nat):0≤JL n∧JL n≤4:=by
 unfold JL
 repeat (split;first | exact ⟨by decide,by decide⟩ | skip)
 exact ⟨by decide,by decide⟩
theorem Qc:∀ (ss:List Sh) (a:Int),0≤a→(∀ x∈ss,shW x=shX x)→a+IV ss<9223372036854775808→Fm ss a=a+IV ss
 | [],a,_,_,_=>by simp [Fm,IV]
 | x::r,a,h0,hs,hb=>by
  simp only [IV] at hb ⊢
  have hx:=hs x (by simp)
  have hw:J0 a (shW x)=a+shX x:=by
   rw [hx];exact BI (by omega) (by omega)
  simp only [Fm,hw]
  rw [Qc r _ (by omega) (fun y hy=>hs y (by simp [hy])) (by omega)]
  omega
theorem N3:∀ (ss:List (List Sh)) (m:Int),0≤m→(∀ s∈ss,Fm s 0=IV s)→EY ss m=max m (HI ss)
 | [],m,h0,_=>by simp only [EY,HI];omega
 | s::r,m,h0,hs=>by
  have hx:=hs s (by simp)
  simp only [EY,HI,hx]
  rw [N3 r _ (by split <;> omega) (fun y hy=>hs y (by simp [hy]))]
  split <;> omega
theorem N4 {x:Sh}:∀ {r:List Sh},x∈r→shN x≤Iw r
 | y::r,h=>by
  simp only [Iw]
  rcases List.mem_cons.1 h with rfl | h
  ·omega
  ·have:=N4 h;omega
theorem Jh {s:List Sh}:∀ {r:List (List Sh)},s∈r→Iw s≤Ie r
 | y::r,h=>by
  simp only [Ie]
  rcases List.mem_cons.1 h with rfl | h
  ·omega
  ·have:=Jh h;omega
theorem KD:∀ {r:List Sh},(∀ x∈r,shX x≤16 * shN x)→IV r≤16 * Iw r
 | [],_=>by simp [IV,Iw]
 | y::r,h=>by
  simp only [IV,Iw]
  have h1:=h y (by simp)
  have h2:=KD (r:=r) (fun x hx=>h x (by simp [hx]))
  omega
theorem LC:∀ {r:List (List Sh)},(∀ s∈r,IV s≤16 * Iw s)→HI r≤16 * Ie r
 | [],_=>by simp [HI,Ie]
 | y::r,h=>by
  simp only [HI,Ie]
  have h1:=h y (by simp)
  have h2:=LC (r:=r) (fun x hx=>h x (by simp [hx]))
  omega
theorem UR {s:Sh} (h:ShW s):shX s≤16 * shN s:=by
 induction h with
 | bit m h0 h1=>simp only [shX,shN];omega
 | cons ns ss h1 h2 h3 h4 h5 h6 h7 ih=>
  simp only [shX,shN]
  have:=Qb ss.length
  have:=LC (r:=ss) fun s hs=>KD fun x hx=>ih s hs x hx
  omega
theorem Yw {s:Sh} (h:ShW s) (hb:shN s≤1000):shW s=shX s:=by
 induction h with
 | bit m h0 h1=>simp only [shW,shX];omega
 | cons ns ss h1 h2 h3 h4 h5 h6 h7 ih=>
  simp only [shN] at hb
  have hs:∀ s∈ss,Fm s 0=IV s:=fun s hs=>by
   have hl:=Jh hs
   rw [Qc s 0 (by decide) (fun x hx=>ih s hs x hx (by have:=N4 hx;omega)) (by have:=KD (r:=s) fun x hx=>UR (h5 s hs x hx);omega)]
   omega
  have hr:=N3 ss 0 (by decide) hs
  have hx:=LC (r:=ss) fun s hs=>KD fun x hx=>UR (h5 s hs x hx)
  have ht:=Qb ss.length
  simp only [shW,shX,hr]
  have:max (0:Int) (HI ss)=HI ss:=by omega
  rw [this]
  unfold J0
  rw [BI (by omega) (by omega)]
  omega
theorem Ep (x:Sh) (r:List Sh):(A4 (x::r)).length=(BJ x).length * (A4 r).length:=by
 simp only [A4,List.length_flatMap,List.length_map]
 induction BJ x with
 | nil=>simp
 | cons a t ih=>simp only [List.map_cons,List.sum_cons,List.length_cons,ih,Nat.succ_mul];omega
theorem HV (ns:List Bytes) (s:List Sh) (r:List (List Sh)):(Bj ns (s::r)).length=(A4 s).length+(Bj ns.tail r).length:=by
 simp [Bj]
theorem LD (m:Int):(BJ (.bit m)).length=2 ^ m.toNat:=by simp [BJ]
theorem N5:∀ (ps:List Sh),(∀ x∈ps,(BJ x).length≤2 ^ shX x)→(A4 ps).length≤2 ^ IV ps
 | [],_=>by simp [A4,IV]
 | x::r,h=>by
  rw [Ep]
  simp only [IV,Nat.pow_add]
  exact Nat.mul_le_mul (h x (by simp)) (N5 r fun y hy=>h y (by simp [hy]))
theorem N6:∀ (ss:List (List Sh)) (ns:List Bytes) (m:Nat),(∀ s∈ss,(A4 s).length≤2 ^ m)→(Bj ns ss).length≤ss.length * 2 ^ m
 | [],ns,m,_=>by simp [Bj]
 | s::r,ns,m,h=>by
  rw [HV]
  have h1:=h s (by simp)
  have h2:=N6 r ns.tail m fun y hy=>h y (by simp [hy])
  simp only [List.length_cons,Nat.succ_mul]
  omega
theorem L3 {s:List Sh}:∀ {r:List (List Sh)},s∈r→IV s≤HI r
 | y::r,h=>by
  simp only [HI]
  rcases List.mem_cons.1 h with rfl | h
  ·omega
  ·have:=L3 h;omega
theorem Wl (n:Nat) (h:n≤16):n≤2 ^ (JL n).toNat:=by
 have:∀ m:Fin 17,m.1≤2 ^ (JL m.1).toNat:=by decide
 exact this ⟨n,by omega⟩
inductive US:Sh→Prop
 | bit (m:Int):US (.bit m)
 | cons (ns:List Bytes) (ss:List (List Sh)) (h1:ss.length≤16) (h2:∀ s∈ss,∀ x∈s,US x):US (.cons ns ss)
theorem Wm {s:Sh} (h:US s):(BJ s).length≤2 ^ shX s:=by
 induction h with
 | bit m=>rw [LD];exact Nat.le_refl _
 | cons ns ss h1 h2 ih=>
  have h3:=N6 ss ns (HI ss) fun s hs=>Nat.le_trans (N5 s fun x hx=>ih s hs x hx) (Nat.pow_le_pow_right (by decide) (L3 hs))
  simp only [BJ,shX,Nat.pow_add]
  exact Nat.le_trans h3 (Nat.mul_le_mul_right _ (Wl _ h1))
theorem Wn {l:List AO} (hd:DV l) {t:TyV} {s:Sh} (hs:CD l t s):VT l t→US s:=by
 induction hs with
 | bit t hb hw h2=>exact fun _=> .bit _
 | cons t ns ss hb hk hn hl hsp hf ih=>
  intro hv
  obtain ⟨c1,c2,c3⟩:=hd.con t hv hk hb
  refine .cons _ _ (by omega) fun s hs x hx => ?_
  obtain ⟨i,hi,rfl⟩:=List.getElem_of_mem hs
  obtain ⟨j,hj,rfl⟩:=List.getElem_of_mem hx
  have hci:=List.getElem?_eq_getElem (l:=AP l t) (i:=i) (by omega)
  have hfl:=hsp i _ _ hci (List.getElem?_eq_getElem hi)
  have hfj:=List.getElem?_eq_getElem (l:=((AP l t)[i]'(by omega)).fields) (i:=j) (by omega)
  exact ih i _ _ j _ _ hci (List.getElem?_eq_getElem hi) hfj (List.getElem?_eq_getElem hj) (hd.dok.fld t hv hk hb _ (List.getElem_mem _) _ (List.mem_of_getElem? hfj))
theorem IK {l:List AO} {t:TyV} (hsl:SmL 1048577 l) (hst:Sm 1048577 t) (h:Cx l t=0):(BJ (BQ l t)).length≤65536:=by
 obtain ⟨a,b,c⟩:=Fx h
 have hw:=PT a hsl c b hst
 have h16:=Wn (Gr a) c b
 unfold Cx at h
 rw [if_pos a] at h
 unfold FK at h
 split at h
 ·split at h
  ·rename_i hz
   split at h
   ·rename_i hr
    have hN:=PX l 40 t 0 _ c hz
    have hR:=(GX l 40 t 0 (by decide) (by decide)).2.2 hz
    have hX:=Yw hw (by omega)
    have hle:=Wm h16
    refine Nat.le_trans hle ?_
    exact Nat.le_trans (Nat.pow_le_pow_right (by decide) (show shX (BQ l t)≤16 by omega)) (by decide)
   ·cases h
  ·rename_i hz;exact absurd h hz
 ·rename_i hz;exact absurd h hz
end Go.Proofs.Am12
namespace Go.Proofs.Am12
open Go Go.Am
attribute [local simp] Du CY EX Dv Ch Dw Dx Ew Ba BS Bg Al GC FC EK Gv D2 BA E3 EL Gw Gx xUn Er D3 FD BK DD BL D4 BM D5 Cp Cf B8 BG EM EO
 ev evs Cy DC OR.ofV OR.Dc OR.ofC FH Tm.get Tm.init Tm.only A2 BC CO finish CB Cg Gu Dn D1 unA Ca Br Cb Bs C4 C5 C6 Bt C7 C8 Bu C9 DA Bv Cc AQ CQ Bq C2 C3 CZ Ey Ez E0 Dy Dz FT F6 F7 FU stA A5 DQ B6 DE Es Gd Cd DT CS FG Ge
set_option maxHeartbeats 1000000
attribute [local simp] Dd Ck CM Bk De Df Dg Dh Di Dj Dk El DJ Em D7 Ff Fg G6 D8 En D9 Bm EA Bn EB Cl Eo DK Fh Fi Fj DL EC ED Fk G7 Fl G8 G9 EF Bo DM Cm EG EH DN
theorem Qd (n:Int):wr .i64 n=n.bmod 18446744073709551616:=by
 rw [Int.bmod_def]
 have e:(((18446744073709551616:Nat):Int)+1) / 2=9223372036854775808:=by decide
 have e2:((18446744073709551616:Nat):Int)=18446744073709551616:=rfl
 rw [e,e2]
 show (match decide (0≤n∧n<9223372036854775808) with
  | true=>n
  | false=>match decide (n % 18446744073709551616<9223372036854775808) with
   | true=>n % 18446744073709551616
   | false=>n % 18446744073709551616 - 18446744073709551616)=_
 by_cases h:0≤n∧n<9223372036854775808
 ·rw [decide_eq_true h]
  have:n % 18446744073709551616=n:=Int.emod_eq_of_lt h.1 (by omega)
  rw [this,if_pos h.2]
 ·rw [decide_eq_false h]
  by_cases h2:n % 18446744073709551616<9223372036854775808
  ·rw [decide_eq_true h2,if_pos h2]
  ·rw [decide_eq_false h2,if_neg h2]
theorem Wo (p q:Nat):wr .i64 (wr .i64 (p:Int) * wr .i64 (q:Int))=wr .i64 ((p * q:Nat):Int):=by
 simp only [Qd,Int.bmod_mul_bmod,Int.mul_bmod_bmod,Int.natCast_mul]
theorem Wp (p q:Nat):wr .i64 (wr .i64 (p:Int)+wr .i64 (q:Int))=wr .i64 ((p+q:Nat):Int):=by
 simp only [Qd,Int.bmod_add_bmod,Int.add_bmod_bmod,Int.natCast_add]
theorem EJ {n:Nat} (h:n<9223372036854775808):wr .i64 (n:Int)=n:=BI (by omega) (by omega)
abbrev cn (s:Sh):Nat:=(BJ s).length
abbrev cnP (ps:List Sh):Nat:=(A4 ps).length
def cnC:List (List Sh)→Nat
 | []=>0
 | s::r=>cnP s+cnC r
theorem Ji:∀ (ss:List (List Sh)) (ns:List Bytes),(Bj ns ss).length=cnC ss
 | [],ns=>by simp [Bj,cnC]
 | s::r,ns=>by rw [HV,Ji r];rfl
theorem UT {s:List Sh} {j:Nat} (hj:j<s.length):cnP (s.drop j)=cn s[j] * cnP (s.drop (j+1)):=by
 rw [List.drop_eq_getElem_cons hj];exact Ep _ _
theorem LF {ss:List (List Sh)} {j:Nat} (hj:j<ss.length):cnC (ss.drop j)=cnP ss[j]+cnC (ss.drop (j+1)):=by
 rw [List.drop_eq_getElem_cons hj];rfl
section
variable {l:List AO} {lv:AV} (hl:SlR Ab 3 l lv) (hsl:SmL 1048577 l) (hok:DOK l)
include hl hsl hok
theorem c69 {t:TyV} {ns:List Bytes} {ss:List (List Sh)} (hst:Sm 1048577 t) (hv:VT l t) (hs:CD l t (.cons ns ss)) (ih:∀ s∈ss,∀ x∈s,∀ (t:TyV) (xs:List AV),AU t xs→Sm 1048577 t→VT l t→CD l t x→∀ h,AK MX (AH MX) 21 [lv,.agg xs] h=some (.ret (.int .i64 (wr .i64 (cn x))),h))
  {i:Nat} (hi:i<(AP l t).length) (hi2:i<ss.length) {cx:List AV} (hcx:Cu (AP l t)[i] cx) (h:AE):AK MX (AH MX) 69 [lv,.agg cx] h=some (.ret (.int .i64 (wr .i64 (cnP ss[i]))),h):=by
 cases hs with
 | cons _ _ _ hb hk hnn hll hs0 hf0=>
 have hn2:([lv,AV.agg cx]:List AV).all AV.AD=true:=by simp [AV.AD,Fp _ _ hcx,hl.AD]
 have hcsm:=Da hsl hst (by decide)
 have hvf:=hok.fld t hv hk hb
 obtain ⟨fv,rfl,hfv⟩:=hcx.dest
 have f1:=hs0 i _ _ (List.getElem?_eq_getElem hi) (List.getElem?_eq_getElem hi2)
 have f2:=fun j f y=>hf0 i _ _ j f y (List.getElem?_eq_getElem hi) (List.getElem?_eq_getElem hi2)
 have hsc:=hcsm.2 _ (List.getElem_mem hi)
 obtain ⟨e,st,hlp,hq⟩:=AR (M:=MX) (fid:=69) (N:=25) (C:=AH MX) (c:=AQ Tryz.f69 0) (n:=(AP l t)[i].fields.length)
  (fun j (p:Nat)=>([(0,lv),(3,.hp 0 0),(5,.int .i64 (wr .i64 p)),(6,.int .i64 j)],[Blk.var false [AV.str (AP l t)[i].nm,fv]]))
  (fun j p=>cnP ss[i]=p * cnP (ss[i].drop j))
  (fun r=>r=(.ext 0,([(0,lv),(3,.hp 0 0),(5,.int .i64 (wr .i64 (cnP ss[i]))),(6,.int .i64 (AP l t)[i].fields.length),(11,.bool false)],[Blk.var false [AV.str (AP l t)[i].nm,fv]]))) (fun j p hj hJ=>by
    obtain ⟨fe,hfe,hfR⟩:=hfv.ix hj
    have hj':=AY hj
    have hwj:=AX hj hsc.2.1
    have hmf:=List.getElem_mem hj
    have hjs:j<ss[i].length:=by omega
    obtain ⟨tx,rfl,htx⟩:=hfR
    have hrec:=ih ss[i] (List.getElem_mem hi2) ss[i][j] (List.getElem_mem hjs) (AP l t)[i].fields[j].ty tx htx (hsc.2.2 _ hmf).2 (hvf _ (List.getElem_mem hi) _ hmf) (f2 j _ _ (List.getElem?_eq_getElem hj) (List.getElem?_eq_getElem hjs))
    obtain ⟨qv,rfl,hqv⟩:=htx.AW
    rw [UT hjs] at hJ
    have hm:=Wo p (cn ss[i][j])
    exact .inl ⟨p * cn ss[i][j],by simp only [cn] at hrec hm ⊢;simp [Tryz.f69,hfv.len,hj',hfe,hrec,hwj];simpa using hm,by rw [hJ,Nat.mul_assoc]⟩) (fun p hJ=>by
    rw [List.drop_of_length_le (by omega)] at hJ
    simp only [cnP,A4,List.length_singleton,Nat.mul_one] at hJ
    exact ⟨_,_,by simp [Tryz.f69,hfv.len] <;> first | exact ⟨rfl,rfl⟩ | rfl,by simp,by simp only [cnP];rw [hJ]⟩) 1 (by simp)
 cases hq
 simp [Tryz.f69] at hlp
 rw [show wr .i64 1=1 from rfl] at hlp
 exact Ai VI YE hn2 rfl (hr:=[Blk.var false [AV.str (AP l t)[i].nm,fv]]) (by simp [AN,Tryz.f69,hlp]) h
theorem c21 (s:Sh):∀ (t:TyV) (xs:List AV),AU t xs→Sm 1048577 t→VT l t→CD l t s→∀ h,AK MX (AH MX) 21 [lv,.agg xs] h=some (.ret (.int .i64 (wr .i64 (cn s))),h):=by
 induction s using Sh.ind with
 | hb n=>
  intro t xs hx hst hv hs h
  have hn:([lv,AV.agg xs]:List AV).all AV.AD=true:=by simp [AV.AD,hx.AG,hl.AD]
  have hB:=c66 hx
  obtain ⟨pv,rfl,hp⟩:=hx.AW
  cases hs with
  | bit _ hb hw=>
   have hb1:=hok.bit t hv hb
   obtain ⟨e,he,hR⟩:=hp.ix (i:=0) (by omega)
   have hag:A8 t=t.ps[0]'(by omega):=by simp [A8,hb1]
   rw [← hag] at hR
   obtain ⟨qv,rfl,hq⟩:=hR.AW
   have h67:=c67 (A8 t).v (by omega) (by omega)
   have hle:(2:Nat) ^ (A8 t).v.toNat≤65536:=Nat.le_trans (Nat.pow_le_pow_right (by decide) (show (A8 t).v.toNat≤16 by omega)) (by decide)
   have hcn:wr .i64 ((cn (.bit (A8 t).v):Nat):Int)=((2 ^ (A8 t).v.toNat:Nat):Int):=by
    rw [cn,LD];exact EJ (by omega)
   rw [hcn]
   simp only [Int.natCast_zero] at he
   exact Ai Pl SZ hn rfl (hr:=[Blk.var false [AV.int .i64 t.k,AV.int .i64 t.v,AV.str t.nm,pv]]) (by simp at h67;simp [AN,Tryz.f21,hB,hb,he,h67]) h
 | hc ns ss ih=>
  intro t xs hx hst hv hs h
  have h69:=fun i hi hi2 cx hcx=>c69 hl hsl hok hst hv hs ih (i:=i) hi hi2 (cx:=cx) hcx
  cases hs with
  | cons _ _ _ hb hk hnn hll hs0 hf0=>
  have hn:([lv,AV.agg xs]:List AV).all AV.AD=true:=by simp [AV.AD,hx.AG,hl.AD]
  have hB:=c66 hx
  obtain ⟨w,hw,h68⟩:=c68 hl hsl hx hst (hok.has t hv hk hb)
  have hcsm:=Da hsl hst (by decide)
  obtain ⟨pv,rfl,hp⟩:=hx.AW
  obtain ⟨e,st,hlp,hq⟩:=AR (M:=MX) (fid:=21) (N:=34) (C:=AH MX) (c:=AQ Tryz.f21 0) (n:=(AP l t).length)
   (fun i (p:Nat)=>([(0,lv),(5,w),(6,.int .i64 (wr .i64 p)),(7,.int .i64 i)],[Blk.var false [AV.int .i64 t.k,AV.int .i64 t.v,AV.str t.nm,pv]]))
   (fun i p=>cnC ss=p+cnC (ss.drop i))
   (fun r=>r=(.ext 0,([(0,lv),(5,w),(6,.int .i64 (wr .i64 (cnC ss))),(7,.int .i64 (AP l t).length),(22,.bool false)],[Blk.var false [AV.int .i64 t.k,AV.int .i64 t.v,AV.str t.nm,pv]]))) (fun i p hi hI=>by
     obtain ⟨ce,hce,hcR⟩:=hw.ix hi
     have hi':=AY hi
     have hwi:=AX hi hcsm.1
     have hi2:i<ss.length:=by omega
     have hW:=h69 i hi hi2 ce hcR
     obtain ⟨fv,rfl,hfv⟩:=hcR.dest
     rw [LF hi2] at hI
     have hm:=Wp p (cnP ss[i])
     exact .inl ⟨p+cnP ss[i],by simp only [cnP] at hW hm ⊢;simp [Tryz.f21,hw.len,hi',hce,hW,hwi];simpa using hm,by rw [hI,Nat.add_assoc]⟩) (fun p hI=>by
     rw [List.drop_of_length_le (by omega)] at hI
     simp only [cnC,Nat.add_zero] at hI
     exact ⟨_,_,by simp [Tryz.f21,hw.len] <;> first | exact ⟨rfl,rfl⟩ | rfl,by simp,by rw [hI]⟩) 0 (by simp)
  cases hq
  simp [Tryz.f21] at hlp
  rw [show wr .i64 0=0 from rfl] at hlp
  have hcn:cn (.cons ns ss)=cnC ss:=by simp only [cn,BJ,Ji]
  rw [hcn]
  exact Ai Pl SZ hn rfl (hr:=[Blk.var false [AV.int .i64 t.k,AV.int .i64 t.v,AV.str t.nm,pv]]) (by simp [AN,Tryz.f21,hB,hb,h68,hlp]) h
end
theorem c13 {k:C0} {xs:List AV} (hx:C1 k xs) (hsk:SmT 1048577 k) (hE:(Ak k.data k.ty k.arms).2=0) (h:AE):AK MX (AH MX) 13 [.agg xs] h=some (.ret (.bool (decide (cn (BQ k.data k.ty)≤300))),h):=by
 have h1:Cx k.data k.ty=0:=(Gm hE).1
 obtain ⟨a,b,c⟩:=Fx h1
 have hle:=IK hsk.1 hsk.2.1 h1
 have hxn:AG xs=true:=by obtain ⟨dv,pv,av,rfl,hd,hp,ht,ha⟩:=hx.dest;simp [AV.AD,AG,hd.AD,hp.AD,ha.AD]
 obtain ⟨dv,pv,av,rfl,hd,hp,ht,ha⟩:=hx.dest
 have h21:=c21 hd hsk.1 (Gr a).dok _ k.ty _ ht hsk.2.1 b c
 rw [EJ (show cn (BQ k.data k.ty)<9223372036854775808 by simp only [cn];omega)] at h21
 have hdec:decide (((cn (BQ k.data k.ty):Nat):Int)≤300)=decide (cn (BQ k.data k.ty)≤300):=by
  rw [decide_eq_decide];omega
 rw [← hdec]
 exact Ai U6 Xw (by simp [AV.AD,hxn]) rfl (hr:=_) (by simp [AN,Tryz.f13,h21] <;> rfl) h
theorem ms_32 (n:Nat) (hn:n<1048577) (h:AE):Dp MX.ty 32 (.int .i64 n) (.int .i64 n) h=some (Aw h 3 (List.replicate n [.str [],.int .i64 0,.AI])):=by
 have e1:und MX.ty 32=some (.slice 34):=by kernel_rfl
 have e2:siz MX.ty 34=3:=by kernel_rfl
 have e3:byt MX.ty 34=48:=by kernel_rfl
 have e4:DH MX.ty 34=some [.str [],.int .i64 0,.AI]:=by kernel_rfl
 have h1:(n:Int)<17592186044416:=by omega
 have h2:48 * (n:Int)≤17592186044416:=by omega
 unfold Dp
 simp only [e1,Am.intOf,e2,e3,e4]
 simp [Aw,h1,h2]
theorem ShW.pos {s:Sh} (h:ShW s):0<cn s:=by
 induction h with
 | bit m h0 h1=>rw [cn,LD];exact Nat.pow_pos (by decide)
 | cons ns ss h1 h2 h3 h4 h5 h6 h7 ih=>
  have hp:∀ (r:List Sh),(∀ x∈r,0<cn x)→0<cnP r:=by
   intro r
   induction r with
   | nil=>intro _;simp [cnP,A4]
   | cons x r ihr=>
    intro hr
    rw [cnP,Ep]
    exact Nat.mul_pos (hr x (by simp)) (ihr fun y hy=>hr y (by simp [hy]))
  cases ss with
  | nil=>exact absurd (List.eq_nil_of_length_eq_zero (by simpa using h1.symm)) h2
  | cons s r=>
   have h8:cn (.cons ns (s::r))=cnP s+(Bj ns.tail r).length:=by simp only [cn,BJ,HV]
   rw [h8]
   have:=hp s fun x hx=>ih s (by simp) x hx
   omega
theorem Qe {r:List Sh} (h:∀ x∈r,ShW x):0<cnP r:=by
 induction r with
 | nil=>simp [cnP,A4]
 | cons x r ih=>
  rw [cnP,Ep]
  exact Nat.mul_pos (h x (by simp)).pos (ih fun y hy=>h y (by simp [hy]))
theorem IL {s:List Sh}:∀ {r:List (List Sh)},s∈r→cnP s≤cnC r
 | y::r,h=>by
  simp only [cnC]
  rcases List.mem_cons.1 h with rfl | h
  ·omega
  ·have:=IL h;omega
theorem JU {x:Sh}:∀ {r:List Sh},(∀ y∈r,ShW y)→x∈r→cn x≤cnP r
 | y::r,hw,h=>by
  rw [cnP,Ep]
  rcases List.mem_cons.1 h with rfl | h
  ·exact Nat.le_mul_of_pos_right _ (Qe fun y hy=>hw y (by simp [hy]))
  ·exact Nat.le_trans (JU (fun y hy=>hw y (by simp [hy])) h) (Nat.le_mul_of_pos_left _ (hw y (by simp)).pos)
theorem L4 (x:Sh) (r:List Sh) (m:Nat) (h:m<cn x * cnP r):∃ (h1:m / cnP r<cn x) (h2:m % cnP r<cnP r),(A4 (x::r))[m]? = some ((BJ x)[m / cnP r]::(A4 r)[m % cnP r]):=by
 have hp:0<cnP r:=by
  rcases Nat.eq_zero_or_pos (cnP r) with h0 | h0
  ·rw [h0,Nat.mul_zero] at h;omega
  ·exact h0
 have h1:m / cnP r<cn x:=Nat.div_lt_of_lt_mul (by rw [Nat.mul_comm];exact h)
 have h2:=Nat.mod_lt m hp
 refine ⟨h1,h2,?_⟩
 have key:∀ (L:List TyV) (m:Nat) (h:m<L.length * cnP r) (h1:m / cnP r<L.length),(L.flatMap fun v=>(A4 r).map fun ps=>v::ps)[m]? = some (L[m / cnP r]::(A4 r)[m % cnP r]'(Nat.mod_lt m hp)):=by
  intro L
  induction L with
  | nil=>intro m h;simp at h
  | cons v L ih=>
   intro m h h1
   rw [List.flatMap_cons]
   by_cases hm:m<cnP r
   ·rw [List.getElem?_append_left (by simpa using hm)]
    have e1:m / cnP r=0:=Nat.div_eq_of_lt hm
    have e2:m % cnP r=m:=Nat.mod_eq_of_lt hm
    simp only [e1,e2,List.getElem_cons_zero,List.getElem?_map,List.getElem?_eq_getElem hm,Option.map_some]
   ·have hm:cnP r≤m:=by omega
    rw [List.getElem?_append_right (by simpa using hm)]
    have hl:((A4 r).map fun ps=>v::ps).length=cnP r:=by simp
    rw [hl]
    have hlt:m - cnP r<L.length * cnP r:=by
     rw [List.length_cons,Nat.succ_mul] at h;omega
    have e1:(m - cnP r) / cnP r=m / cnP r - 1:=by rw [Nat.div_eq_sub_div hp hm,Nat.add_sub_cancel]
    have e2:(m - cnP r) % cnP r=m % cnP r:=(Nat.mod_eq_sub_mod hm).symm
    have hd:0<m / cnP r:=Nat.div_pos hm hp
    have hlt2:(m - cnP r) / cnP r<L.length:=by rw [e1];rw [List.length_cons] at h1;omega
    rw [ih (m - cnP r) hlt hlt2]
    simp only [e1,e2]
    congr 2
    rw [List.getElem_cons,dif_neg (by omega)]
 simp only [A4]
 exact key _ m h h1
theorem F1 (x:Sh) (r:List Sh):cnP (x::r)=cn x * cnP r:=Ep x r
def dn (n i:Nat):Int:=(n:Int) - 1 - i
theorem Qf {ns:List Bytes} {ss:List (List Sh)} (hl:ss.length=ns.length) {i:Nat} (h1:i<ns.length) (h2:i<ss.length) {m:Nat} (h:m<cnP ss[i]):(Bj (ns.drop i) (ss.drop i))[m]? = some (.mk 0 0 ns[i] ((A4 ss[i])[m]'h)):=by
 have e1:ns.drop i=ns[i]::ns.drop (i+1):=List.drop_eq_getElem_cons h1
 have e2:ss.drop i=ss[i]::ss.drop (i+1):=List.drop_eq_getElem_cons h2
 rw [e1,e2]
 simp only [Bj,List.headD_cons,List.tail_cons]
 rw [List.getElem?_append_left (by simpa using h)]
 simp
theorem N7 {ns:List Bytes} {ss:List (List Sh)} (hl:ss.length=ns.length) {i:Nat} (h1:i<ns.length) (h2:i<ss.length) {m:Nat} (h:cnP ss[i]≤m):(Bj (ns.drop i) (ss.drop i))[m]? = (Bj (ns.drop (i+1)) (ss.drop (i+1)))[m - cnP ss[i]]? := by
 have e1:ns.drop i=ns[i]::ns.drop (i+1):=List.drop_eq_getElem_cons h1
 have e2:ss.drop i=ss[i]::ss.drop (i+1):=List.drop_eq_getElem_cons h2
 rw [e1,e2]
 simp only [Bj,List.headD_cons,List.tail_cons]
 rw [List.getElem?_append_right (by simpa using h)]
 simp
structure AtI (ps:List Sh) (m:Nat) (es:List (List AV)) (j:Nat):Prop where
 len:es.length=ps.length
 le:j≤ps.length
 r3:∀ e∈es,e.length=3
 rep:∀ (q:List TyV),(A4 (ps.drop j))[m % cnP (ps.drop j)]? = some q→∀ (i:Nat) p e,q[i]? = some p→es[j+i]? = some e→A0 p e
theorem AtI.next {ps:List Sh} (hw:∀ x∈ps,ShW x) {m:Nat} {es:List (List AV)} {j:Nat} (h:AtI ps m es (j+1)) {hj:j<ps.length} {row:List AV} {hlt:m / cnP (ps.drop (j+1)) % cn ps[j]<cn ps[j]} (hr:A0 ((BJ ps[j])[m / cnP (ps.drop (j+1)) % cn ps[j]]'hlt) row):AtI ps m (es.set j row) j:=by
 obtain ⟨h1,h2,h4,h3⟩:=h
 refine ⟨by simp [h1],by omega,fun e he=>by
  rcases List.mem_or_eq_of_mem_set he with he | rfl
  ·exact h4 e he
  ·obtain ⟨v,rfl,_⟩:=hr.AW;rfl,fun q hq i p e hp he => ?_⟩
 have e1:ps.drop j=ps[j]::ps.drop (j+1):=List.drop_eq_getElem_cons hj
 have hwd:∀ x∈ps.drop (j+1),ShW x:=fun x hx=>hw x (List.mem_of_mem_drop hx)
 have hP:=Qe hwd
 have hc:=(hw _ (List.getElem_mem hj)).pos
 rw [e1] at hq
 have hm:m % cnP (ps[j]::ps.drop (j+1))<cn ps[j] * cnP (ps.drop (j+1)):=by
  rw [F1];exact Nat.mod_lt _ (Nat.mul_pos hc hP)
 obtain ⟨g1,g2,g3⟩:=L4 ps[j] (ps.drop (j+1)) _ hm
 rw [g3] at hq
 simp only [Option.some.injEq] at hq
 subst hq
 have d1:m % cnP (ps[j]::ps.drop (j+1)) / cnP (ps.drop (j+1))=m / cnP (ps.drop (j+1)) % cn ps[j]:=by
  rw [F1,Nat.mul_comm,Nat.mod_mul_right_div_self]
 have d2:m % cnP (ps[j]::ps.drop (j+1)) % cnP (ps.drop (j+1))=m % cnP (ps.drop (j+1)):=by
  rw [F1,Nat.mod_mul_left_mod]
 cases i with
 | zero=>
  simp only [List.getElem?_cons_zero,Option.some.injEq] at hp
  rw [Nat.add_zero,List.getElem?_set_self (by omega)] at he
  simp only [Option.some.injEq] at he
  subst he
  subst hp
  simp only [d1]
  exact hr
 | succ i=>
  simp only [List.getElem?_cons_succ] at hp
  rw [List.getElem?_set_ne (by omega)] at he
  refine h3 _ ?_ i p e hp (by rw [← he];congr 1;omega)
  rw [← d2]
  exact List.getElem?_eq_getElem _
theorem AtI.div {ps:List Sh} {m j:Nat} (hj:j<ps.length):m / cnP (ps.drop (j+1)) / cn ps[j]=m / cnP (ps.drop j):=by
 rw [Nat.div_div_eq_div_mul,List.drop_eq_getElem_cons hj,F1,Nat.mul_comm]
theorem Yx (a b:Nat) (hb:0<b) (ha:a<9223372036854775808):wr .i64 ((a:Int).tdiv b)=((a / b:Nat):Int):=by
 rw [show (a:Int).tdiv b=((a / b:Nat):Int) from rfl]
 exact EJ (Nat.lt_of_le_of_lt (Nat.div_le_self a b) ha)
theorem Yy (a b:Nat):((a:Int).tmod b)=((a % b:Nat):Int):=rfl
theorem Yz {a b:Nat} (h:b≤a) (ha:a<9223372036854775808):wr .i64 ((a:Int) - (b:Int))=((a - b:Nat):Int):=by
 rw [show (a:Int) - (b:Int)=((a - b:Nat):Int) by omega]
 exact EJ (by omega)
section
variable {l:List AO} {lv:AV} (hl:SlR Ab 3 l lv) (hsl:SmL 1048577 l) (hok:DOK l)
include hl hsl hok
def At25 (l:List AO) (lv:AV) (x:Sh):Prop:=∀ (t:TyV) (xs:List AV) (n:Nat) (hn:n<cn x),AU t xs→Sm 1048577 t→VT l t→CD l t x→∃ ys,A0 ((BJ x)[n]'hn) ys∧∀ h,AK MX (AH MX) 25 [lv,.agg xs,.int .i64 n] h=some (.ret (.agg ys),h)
theorem Wq {t:TyV} {xs:List AV} (hx:AU t xs) (hst:Sm 1048577 t) (hv:VT l t) {ns:List Bytes} {ss:List (List Sh)} (hs:CD l t (.cons ns ss)) (hw:ShW (.cons ns ss)) (hb:cn (.cons ns ss)≤65536) {w:AV} (hwr:SlR Cu 2 (AP l t) w) {n:Nat} (hn:n<cn (.cons ns ss)) (T:AE) :
  ∃ (i m:Nat) (h1:i<ns.length) (h2:i<ss.length) (h3:m<cnP ss[i]),(BJ (.cons ns ss))[n]=.mk 0 0 ns[i] ((A4 ss[i])[m]'h3)∧cnP ss[i]≤65536 ∧
   Et MX 25 83 (AH MX) (AQ Tryz.f25 0) ([(0,lv),(2,.int .i64 n),(6,.hp 1 0),(7,w),(8,.int .i64 (0:Nat))],T)=some (.ext 0,([(0,lv),(2,.int .i64 m),(6,.hp 1 0),(7,w),(8,.int .i64 i),(27,.bool false)],T)):=by
 have h69:=fun i hi hi2 cx hcx=>c69 hl hsl hok hst hv hs (fun s _ x _=>c21 hl hsl hok x) (i:=i) hi hi2 (cx:=cx) hcx
 have hcn:cn (.cons ns ss)=cnC ss:=by simp only [cn,BJ,Ji]
 cases hw with
 | cons _ _ w1 w2 w3 w4 w5 w6 w7=>
 cases hs with
 | cons _ _ _ hb' hk hnn hll hs0 hf0=>
 have hcsm:=Da hsl hst (by decide)
 have hle:∀ i (hi:i<ss.length),cnP ss[i]≤65536:=fun i hi=>by
  have:=IL (List.getElem_mem hi);omega
 obtain ⟨e,st,hlp,hq⟩:=AR (M:=MX) (fid:=25) (N:=83) (C:=AH MX) (c:=AQ Tryz.f25 0) (n:=ss.length)
  (fun i (m:Nat)=>([(0,lv),(2,.int .i64 m),(6,.hp 1 0),(7,w),(8,.int .i64 i)],T))
  (fun i m=>m<cnC (ss.drop i)∧m≤n∧(Bj ns ss)[n]? = (Bj (ns.drop i) (ss.drop i))[m]?)
  (fun r=>∃ (i m:Nat) (h1:i<ns.length) (h2:i<ss.length) (h3:m<cnP ss[i]),(Bj ns ss)[n]? = some (.mk 0 0 ns[i] ((A4 ss[i])[m]'h3))∧r=(.ext 0,([(0,lv),(2,.int .i64 m),(6,.hp 1 0),(7,w),(8,.int .i64 i),(27,.bool false)],T))) (fun i m hi hI=>by
    obtain ⟨j1,j0,j2⟩:=hI
    have hin:i<ns.length:=by omega
    have hic:i<(AP l t).length:=by omega
    obtain ⟨ce,hce,hcR⟩:=hwr.ix hic
    have hwi:=AX (show i<ns.length by omega) w3
    have hW:=h69 i hic hi ce hcR
    have hli:=hle i hi
    rw [EJ (show cnP ss[i]<9223372036854775808 by omega)] at hW
    obtain ⟨fv,rfl,hfv⟩:=hcR.dest
    by_cases hge:cnP ss[i]≤m
    ·have hgi:((m:Int) ≥ (cnP ss[i]:Int)):=by omega
     have hsub:=Yz hge (show m<9223372036854775808 by omega)
     refine .inl ⟨m - cnP ss[i],by simp only [cnP] at hW hgi hsub ⊢;simp [Tryz.f25,hce,hW,hgi,hsub,hwi],?_,by omega,by rw [j2,N7 w1 hin hi hge]⟩
     rw [LF hi] at j1
     omega
    ·have hgi:¬ ((m:Int) ≥ (cnP ss[i]:Int)):=by omega
     refine .inr ⟨_,_,by simp only [cnP] at hW hgi ⊢;simp [Tryz.f25,hce,hW,hgi] <;> first | exact ⟨rfl,rfl⟩ | rfl,by simp,i,m,hin,hi,by omega,by rw [j2,Qf w1 hin hi (by omega)],rfl⟩) (fun m hI=>by
    obtain ⟨j1,_,_⟩:=hI
    rw [List.drop_of_length_le (Nat.le_refl _)] at j1
    simp [cnC] at j1) n ⟨by rw [List.drop_zero,← hcn];exact hn,Nat.le_refl _,rfl⟩
 obtain ⟨i,m,h1,h2,h3,h4,h5⟩:=hq
 cases h5
 refine ⟨i,m,h1,h2,h3,?_,hle i h2,hlp⟩
 have hl':n<(Bj ns ss).length:=hn
 rw [List.getElem?_eq_getElem hl'] at h4
 simp only [Option.some.injEq] at h4
 simpa [BJ] using h4
end
theorem Wr {n i:Nat} (hi:i<n):dn n i=((n - 1 - i:Nat):Int)∧(dn n i ≥ 0):=by
 unfold dn;constructor <;> omega
section
variable {l:List AO} {lv:AV} (hl:SlR Ab 3 l lv) (hsl:SmL 1048577 l) (hok:DOK l)
include hl hsl hok
theorem Ws {t:TyV} (hst:Sm 1048577 t) (hv:VT l t) {ns:List Bytes} {ss:List (List Sh)} (hs:CD l t (.cons ns ss)) (hw:ShW (.cons ns ss)) (ih:∀ s∈ss,∀ x∈s,At25 l lv x) {w:AV} (hwr:SlR Cu 2 (AP l t) w) {i:Nat} (h2:i<ss.length) (hbd:cnP ss[i]≤65536) {m:Nat} (hm:m<cnP ss[i]) (B0 B1:Blk) :
  ∃ (es:List (List AV)) (T:AE) (z:Int),AtI ss[i] m es 0∧Et MX 25 83 (AH MX) (AQ Tryz.f25 1) ([(0,lv),(2,.int .i64 m),(6,.hp 1 0),(7,w),(8,.int .i64 i),(9,.hs 2 ss[i].length 3 0 ss[i].length false),(10,.int .i64 (dn ss[i].length 0))],B0::B1::.arr 3 false (List.replicate ss[i].length [.str [],.int .i64 0,.AI])::[])=some (.ext 2,([(0,lv),(2,.int .i64 z),(6,.hp 1 0),(7,w),(8,.int .i64 i),(9,.hs 2 ss[i].length 3 0 ss[i].length false),(10,.int .i64 (-1)),(49,.bool false)],B0::B1::.arr 3 false es::T)):=by
 have hbf:=Qx
 simp [BD,BP,Tryz.f25] at hbf
 cases hw with
 | cons _ _ w1 w2 w3 w4 w5 w6 w7=>
 cases hs with
 | cons _ _ _ hb' hk hnn hll hs0 hf0=>
 have hcsm:=Da hsl hst (by decide)
 have hic:i<(AP l t).length:=by omega
 obtain ⟨ce,hce,hcR⟩:=hwr.ix hic
 obtain ⟨fv,rfl,hfv⟩:=hcR.dest
 have hvf:=hok.fld t hv hk hb'
 have hsc:=hcsm.2 _ (List.getElem_mem hic)
 have f1:=hs0 i _ _ (List.getElem?_eq_getElem hic) (List.getElem?_eq_getElem h2)
 have f2:=fun j f y=>hf0 i _ _ j f y (List.getElem?_eq_getElem hic) (List.getElem?_eq_getElem h2)
 have hmem:=List.getElem_mem h2
 obtain ⟨P,hP⟩:∃ P,P=ss[i]:=⟨_,rfl⟩
 rw [← hP] at f1 f2 hm hbd hmem ⊢
 have hwP:=w5 P hmem
 have hPl:=w4 P hmem
 obtain ⟨e,st,hlp,hq⟩:=AR (M:=MX) (fid:=25) (N:=83) (C:=AH MX) (c:=AQ Tryz.f25 1) (n:=P.length)
  (fun q (b:List (List AV)×AE)=>([(0,lv),(2,.int .i64 ((m / cnP (P.drop (P.length - q)):Nat):Int)),(6,.hp 1 0),(7,w),(8,.int .i64 i),(9,.hs 2 P.length 3 0 P.length false),(10,.int .i64 (dn P.length q))],B0::B1::.arr 3 false b.1::b.2))
  (fun q b=>q≤P.length∧AtI P m b.1 (P.length - q))
  (fun r=>∃ (b:List (List AV)×AE) (z:Int),AtI P m b.1 0∧r=(.ext 2,([(0,lv),(2,.int .i64 z),(6,.hp 1 0),(7,w),(8,.int .i64 i),(9,.hs 2 P.length 3 0 P.length false),(10,.int .i64 (-1)),(49,.bool false)],B0::B1::.arr 3 false b.1::b.2))) (fun q b hq hI=>by
    obtain ⟨es,T⟩:=b
    obtain ⟨j0,j1⟩:=hI
    simp only at j1
    obtain ⟨d1,d2⟩:=Wr hq
    obtain ⟨j,hj⟩:∃ j,j=P.length - 1 - q:=⟨_,rfl⟩
    rw [← hj] at d1
    have e1:P.length - q=j+1:=by omega
    have e2:P.length - (q+1)=j:=by omega
    have hjP:j<P.length:=by omega
    rw [e1] at j1
    simp only [e1,e2]
    have hjf:j<(AP l t)[i].fields.length:=by omega
    obtain ⟨fe,hfe,hfR⟩:=hfv.ix hjf
    obtain ⟨tx,rfl,htx⟩:=hfR
    have hmf:=List.getElem_mem hjf
    have hsh:=f2 j _ _ (List.getElem?_eq_getElem hjf) (List.getElem?_eq_getElem hjP)
    have hvt:=hvf _ (List.getElem_mem hic) _ hmf
    have hsf:=(hsc.2.2 _ hmf).2
    have hpos:=(hwP _ (List.getElem_mem hjP)).pos
    have hcle:cn P[j]≤65536:=Nat.le_trans (JU hwP (List.getElem_mem hjP)) hbd
    have h21:=c21 hl hsl hok P[j] _ tx htx hsf hvt hsh
    rw [EJ (show cn P[j]<9223372036854775808 by omega)] at h21
    have hlt:m / cnP (P.drop (j+1)) % cn P[j]<cn P[j]:=Nat.mod_lt _ hpos
    obtain ⟨ys,hys,h25⟩:=ih P hmem P[j] (List.getElem_mem hjP) _ tx _ hlt htx hsf hvt hsh
    have hnx:=AtI.next hwP j1 (hj:=hjP) hys
    obtain ⟨u,hu⟩:∃ u,u=(BJ P[j])[m / cnP (P.drop (j+1)) % cn P[j]]'hlt:=⟨_,rfl⟩
    rw [← hu] at hys
    obtain ⟨yv,rfl,hyv⟩:=hys.AW
    have hmle:m / cnP (P.drop (j+1))≤m:=Nat.div_le_self _ _
    have hdv:=Yx (m / cnP (P.drop (j+1))) (cn P[j]) hpos (by omega)
    rw [AtI.div hjP] at hdv
    have hmd:=Yy (m / cnP (P.drop (j+1))) (cn P[j])
    have hne:¬ (cn P[j]=0):=by omega
    obtain ⟨c,hc⟩:∃ c,c=cn P[j]:=⟨_,rfl⟩
    obtain ⟨D,hD⟩:∃ D,D=m / cnP (P.drop (j+1)):=⟨_,rfl⟩
    obtain ⟨D',hD'⟩:∃ D',D'=m / cnP (P.drop j):=⟨_,rfl⟩
    rw [← hc] at hne hmd hdv h21 h25
    rw [← hD] at hmd hdv h25 ⊢
    rw [← hD'] at hdv ⊢
    simp only [Int.natCast_emod] at h25
    simp at hdv
    have hix:ixA 3 (.hs 2 P.length 3 0 P.length false) (.int .i64 (j:Int))=some (.ep 2 P.length 3 j 0):=by
     rw [A7 (kd:=.i64) (hi:=hjP),Nat.zero_add]
    have hel:es.length=P.length:=j1.len
    have hej:∃ r,es[j]? = some r∧r.length=3:=⟨_,List.getElem?_eq_getElem (show j<es.length by omega),j1.r3 _ (List.getElem_mem _)⟩
    obtain ⟨r,her,hrl⟩:=hej
    obtain ⟨a1,a2,a3,rfl⟩:∃ a1 a2 a3,r=[a1,a2,a3]:=by
     match r,hrl with
     | [a1,a2,a3],_=>exact ⟨a1,a2,a3,rfl⟩
    have hwd:wr .i64 ((j:Int) - 1)=dn P.length (q+1):=by
     rw [show (j:Int) - 1=dn P.length (q+1) by unfold dn;omega]
     by_cases h0:0≤dn P.length (q+1)
     ·exact BI h0 (by unfold dn;omega)
     ·have:dn P.length (q+1) = -1:=by unfold dn at h0 ⊢;omega
      rw [this];decide
    obtain ⟨qv,rfl,hqv⟩:=htx.AW
    refine .inl ⟨(es.set j [.str u.nm,.int .i64 u.v,yv],T++[.var false [.int .i64 (AP l t)[i].fields[j].ty.k,.int .i64 (AP l t)[i].fields[j].ty.v,.str (AP l t)[i].fields[j].ty.nm,qv]]),?_,by omega,hnx⟩
    simp [Tryz.f25,d1,hce,hfe,h21,hmd,hne,h25,hdv,hix,hel,her,hwd,hbf,hl.AD,hqv.AD,AG,AV.AD])
    (fun b hI=>by
    obtain ⟨es,T⟩:=b
    obtain ⟨_,j1⟩:=hI
    have hd:dn P.length P.length = -1:=by unfold dn;omega
    exact ⟨_,_,by simp [Tryz.f25,hd] <;> first | exact ⟨rfl,rfl⟩ | rfl,by simp,(es,T),_,by simpa using j1,rfl⟩) (List.replicate P.length [.str [],.int .i64 0,.AI],[]) ⟨by omega,by simp,by omega,fun e he=>by rw [(List.mem_replicate.1 he).2];rfl,fun q hq i p e hp he=>by
     simp only [Nat.sub_zero,List.drop_length] at hq
     have hq':q∈A4 []:=List.mem_of_getElem? hq
     simp [A4] at hq'
     subst hq'
     simp at hp⟩
 obtain ⟨⟨es,T⟩,z,q1,q2⟩:=hq
 simp only [Prod.mk.injEq] at q1 q2
 obtain ⟨rfl,rfl⟩:=q2
 refine ⟨es,T,z,q1,?_⟩
 have e0:m / cnP (P.drop (P.length - 0))=m:=by simp [cnP,A4]
 simp only [e0] at hlp
 exact hlp
end
section
variable {l:List AO} {lv:AV} (hl:SlR Ab 3 l lv) (hsl:SmL 1048577 l) (hok:DOK l)
include hl hsl hok
theorem c25 (s:Sh):ShW s→cn s≤65536→At25 l lv s:=by
 intro hw
 induction hw with
 | bit n h0 h1=>
  intro hb t xs m hm hx hst hv hs
  have hn:([lv,AV.agg xs,.int .i64 m]:List AV).all AV.AD=true:=by simp [AV.AD,hx.AG,hl.AD]
  have hB:=c66 hx
  obtain ⟨pv,rfl,hp⟩:=hx.AW
  have hib:Cv t=true:=by cases hs;assumption
  refine ⟨[.str [],.int .i64 m,.AI],?_,fun h=>Ai Po Sc hn rfl (hr:=_) (by simp [AN,Tryz.f25,hB,hib] <;> rfl) h⟩
  have:(BJ (.bit n))[m]=.mk 0 m [] []:=by simp [BJ]
  rw [this]
  exact A0.intro (.inl ⟨rfl,rfl⟩)
 | cons ns ss w1 w2 w3 w4 w5 w6 w7 ih=>
  intro hb t xs m hm hx hst hv hs
  have hW:ShW (.cons ns ss):=.cons ns ss w1 w2 w3 w4 w5 w6 w7
  have hn:([lv,AV.agg xs,.int .i64 m]:List AV).all AV.AD=true:=by simp [AV.AD,hx.AG,hl.AD]
  have hB:=c66 hx
  have hcn:cn (.cons ns ss)=cnC ss:=by simp only [cn,BJ,Ji]
  have hib:Cv t=false:=by cases hs;assumption
  have hk:t.k≠2:=by cases hs;assumption
  obtain ⟨w,hwr,h68⟩:=c68 hl hsl hx hst (hok.has t hv hk hib)
  have hih:∀ s∈ss,∀ x∈s,At25 l lv x:=fun s hs' x hx'=>ih s hs' x hx' (by
   have h1:=JU (w5 s hs') hx'
   have h2:=IL hs'
   omega)
  obtain ⟨pv,rfl,hp⟩:=hx.AW
  obtain ⟨i,q,h1,h2,h3,h4,h5,hl1⟩:=Wq hl hsl hok hx hst hv hs hW hb hwr hm [Blk.var false [.int .i64 t.k,.int .i64 t.v,.str t.nm,pv],Blk.var false [.str [],.int .i64 0,.AI]]
  obtain ⟨es,T,z,g1,hl2⟩:=Ws hl hsl hok hst hv hs hW hih hwr h2 h5 h3 (Blk.var false [.int .i64 t.k,.int .i64 t.v,.str t.nm,pv]) (Blk.var false [.str [],.int .i64 0,.AI])
  have hms:=ms_32 ss[i].length (w4 _ (List.getElem_mem h2))
  have hic:i<(AP l t).length:=by
   cases hs with
   | cons _ _ _ _ _ hnn hll _ _=>omega
  have hnm:(AP l t)[i].nm=ns[i]∧(AP l t)[i].fields.length=ss[i].length:=by
   cases hs with
   | cons _ _ _ _ _ hnn hll hs0 _=>
    refine ⟨?_,(hs0 i _ _ (List.getElem?_eq_getElem hic) (List.getElem?_eq_getElem h2)).symm⟩
    simp [hnn]
  obtain ⟨n1,n2⟩:=hnm
  obtain ⟨ce,hce,hcR⟩:=hwr.ix hic
  obtain ⟨fv,rfl,hfv⟩:=hcR.dest
  rw [n1] at hce
  have hfl:=hfv.len
  rw [n2] at hfl
  simp [Tryz.f25] at hl1 hl2
  have hdn:dn ss[i].length 0=(ss[i].length:Int) - 1:=by unfold dn;omega
  rw [hdn] at hl2
  have hwd:wr .i64 ((ss[i].length:Int) - 1)=(ss[i].length:Int) - 1:=by
   by_cases h0:0≤(ss[i].length:Int) - 1
   ·exact BI h0 (by have:=w4 _ (List.getElem_mem h2);omega)
   ·have:(ss[i].length:Int) - 1 = -1:=by omega
    rw [this];decide
  obtain ⟨g2,g3,g4,g5⟩:=g1
  have hq:(A4 (ss[i].drop 0))[q % cnP (ss[i].drop 0)]? = some (A4 ss[i])[q]:=by
   rw [List.drop_zero,Nat.mod_eq_of_lt h3];exact List.getElem?_eq_getElem h3
  have hpl:=(HG _ _ (List.getElem_mem h3)).1
  have hrep:∀ (j:Nat) p e,((A4 ss[i])[q])[j]? = some p→es[j]? = some e→A0 p e:=fun j p e a b=>g5 _ hq j p e a (by rw [Nat.zero_add];exact b)
  have hnr:es.all AG=true:=Bh (by rw [g2,hpl]) hrep (fun a e h=>h.AG)
  have hsn:A1 9 (.agg [.str ns[i],.int .i64 0,.hs 2 ss[i].length 3 0 ss[i].length false]) (Blk.var false [.int .i64 t.k,.int .i64 t.v,.str t.nm,pv]::Blk.var false [.str ns[i],.int .i64 0,.hs 2 ss[i].length 3 0 ss[i].length false]::.arr 3 false es::T) (.agg [.str ns[i],.int .i64 0,.sl 3 false es]) (Blk.var false [.int .i64 t.k,.int .i64 t.v,.str t.nm,pv]::Blk.var false [.str ns[i],.int .i64 0,.hs 2 ss[i].length 3 0 ss[i].length false]::.arr 3 true es::T):=by
   refine (A1.agg rfl (Az.cons (A1.flat (c:=.str ns[i]) rfl _) (Az.cons (A1.flat (c:=.int .i64 0) rfl _) (Az.cons (K:=1) (fun n => ?_) (Az.nil _))))).mono (by decide)
   have hb:(Nat.beq es.length ss[i].length&&Nat.beq 3 3&&Nat.ble (0+ss[i].length) es.length&&es.all AG)=true:=by
    rw [hnr,g2];simp [A2,BC]
   simp [Am.snap,hb,← g2,hnr]
  refine ⟨[.str ns[i],.int .i64 0,.sl 3 false es],?_,fun h=>HY Po Sc hn rfl (hsn.at (by decide)) (by simp [AV.AD,AG] <;> exact List.all_eq_true.1 hnr) (hr:=_) (by
   simp [AN,Tryz.f25,hB,hib,h68,hl1,hce,hfl,hms,Aw,hwd,hl2] <;> rfl) h⟩
  rw [h4]
  exact A0.intro (.inr ⟨false,es,rfl,by rw [g2,hpl],hrep⟩)
end
section
variable {k:C0} {xs:List AV} (hx:C1 k xs) (hsk:SmT 1048577 k)
include hx hsk
theorem c38 (hE:(Ak k.data k.ty k.arms).2=0):∃ w,SlR A0 3 (BJ (BQ k.data k.ty)) w∧∀ h,AK MX (AH MX) 38 [.agg xs] h=some (.ret w,h):=by
 have h1:Cx k.data k.ty=0:=(Gm hE).1
 obtain ⟨a,b,c⟩:=Fx h1
 have hle:=IK hsk.1 hsk.2.1 h1
 obtain ⟨hw,_,_,_⟩:=H4 hsk hE
 have hxn:AG xs=true:=by obtain ⟨dv,pv,av,rfl,hd,hp,ht,ha⟩:=hx.dest;simp [AV.AD,AG,hd.AD,hp.AD,ha.AD]
 obtain ⟨dv,pv,av,rfl,hd,hp,ht,ha⟩:=hx.dest
 have h21:=c21 hd hsk.1 (Gr a).dok _ k.ty _ ht hsk.2.1 b c
 rw [EJ (show cn (BQ k.data k.ty)<9223372036854775808 by simp only [cn];omega)] at h21
 have h25:=c25 hd hsk.1 (Gr a).dok _ hw hle
 obtain ⟨L,hL⟩:∃ L,L=BJ (BQ k.data k.ty):=⟨_,rfl⟩
 have hcn:cn (BQ k.data k.ty)=L.length:=by rw [hL]
 rw [hcn] at h21
 have h25':∀ (n:Nat) (hn:n<L.length),∃ ys,A0 L[n] ys∧∀ h,AK MX (AH MX) 25 [dv,.agg [.int .i64 k.ty.k,.int .i64 k.ty.v,.str k.ty.nm,pv],.int .i64 n] h=some (.ret (.agg ys),h):=fun n hn=>by
  subst hL
  exact h25 k.ty _ n hn ht hsk.2.1 b c
 rw [← hL] at hle ⊢
 obtain ⟨e,st,hlp,hq⟩:=AR (M:=MX) (fid:=38) (N:=26) (C:=AH MX) (c:=AQ Tryz.f38 0) (n:=L.length)
  (fun i (b:AV×AE×List (List AV))=>([(1,.hp 0 0),(3,b.1),(4,.int .i64 L.length),(5,.int .i64 i)],Blk.var false (tcs k dv pv av)::b.2.1))
  (fun i b=>Af 3 1 b.2.1 b.1 b.2.2∧b.2.2.length=(L.take i).length∧∀ (j:Nat) t e,(L.take i)[j]? = some t→b.2.2[j]? = some e→A0 t e)
  (fun r=>∃ b:AV×AE×List (List AV),r=(.ext 0,([(1,.hp 0 0),(3,b.1),(4,.int .i64 L.length),(5,.int .i64 L.length),(13,.bool false)],Blk.var false (tcs k dv pv av)::b.2.1))∧Af 3 1 b.2.1 b.1 b.2.2∧b.2.2.length=L.length∧∀ (j:Nat) t e,L[j]? = some t→b.2.2[j]? = some e→A0 t e) (fun i b hi hI=>by
    obtain ⟨a,rest,es⟩:=b
    obtain ⟨i1,i2,i3⟩:=hI
    simp only at i1 i2 i3
    have hi':=AY hi
    have hwr:=AX hi (show L.length<1048577 by omega)
    obtain ⟨ys,hys,hc25⟩:=h25' i hi
    have hyn:=hys.AG
    obtain ⟨j1,j2⟩:=D6 i2 i3 hys
    rw [Bf hi] at j1 j2
    obtain ⟨yv,rfl,hyv⟩:=hys.AW
    obtain ⟨a',rest',hap,hacc⟩:=Af.push (byt:=48) (P:=[Blk.var false (tcs k dv pv av)]) [.str L[i].nm,.int .i64 L[i].v,yv] true i1 (by decide) (by decide) (by rw [i2,List.length_take];omega)
    simp only [List.cons_append,List.nil_append] at hap
    exact .inl ⟨(a',rest',es++[[.str L[i].nm,.int .i64 L[i].v,yv]]),by simp [Tryz.f38,hi',hc25,hwr,hap,bsA,Ar,List.replicate,AG,AV.AD,hyv.AD],hacc,j1,j2⟩) (fun b hI=>by
    obtain ⟨a,rest,es⟩:=b
    obtain ⟨i1,i2,i3⟩:=hI
    rw [List.take_length] at i2 i3
    exact ⟨_,_,by simp [Tryz.f38] <;> first | exact ⟨rfl,rfl⟩ | rfl,by simp,(a,rest,es),rfl,i1,i2,i3⟩) (.AI,[],[]) ⟨Af.nil _ _ _,by simp,fun j t e h=>by simp at h⟩
 obtain ⟨⟨a,rest,es⟩,hq,q1,q2,q3⟩:=hq
 simp only at q1 q2 q3 hq
 cases hq
 simp [Tryz.f38] at hlp
 obtain ⟨v',rest',hsn,hrep,heq⟩:=Gk (P:=[Blk.var false (tcs k dv pv av)]) (fun a e h=>h.AG) q1 q2 q3
 exact ⟨v',hrep,fun h=>QP VD X7 (by simp [AV.AD,hxn]) hsn (by decide) hrep.AD heq (by simp [AN,Tryz.f38,h21,hlp]) h⟩
end
end Go.Proofs.Am12
namespace Go.Proofs.Am12
open Go Go.Am
theorem LG {g:TyV→Option Nat} {N:Nat} (hg:∀ u j,g u=some j→j<N):∀ (l:List TyV) (b:List Int),b.length=N→(∀ x∈b,0≤x∧x+l.length<1000000)→∀ i,i<N→(l.foldl (fun b u=>DW b (g u)) b).getD i 0=b.getD i 0+((l.filter fun u=>g u == some i).length:Int)
 | [],b,_,_,i,_=>by simp
 | u::l,b,hl,hb,i,hi=>by
  simp only [List.foldl_cons]
  have hb':∀ x∈DW b (g u),0≤x∧x+l.length<1000000:=fun x hx=>by
   cases ho:g u with
   | none=>
    rw [ho] at hx
    have:=hb x hx
    simp only [List.length_cons] at this
    omega
   | some j=>
    rw [ho] at hx
    have hj:j<b.length:=by rw [hl];exact hg u j ho
    rcases List.mem_or_eq_of_mem_set hx with hx | hx
    ·have:=hb x hx
     simp only [List.length_cons] at this
     omega
    ·have hg:b.getD j 0=b[j]:=by simp [hj]
     have h2:=hb _ (List.getElem_mem hj)
     simp only [List.length_cons] at h2
     rw [hg,BI (by omega) (by omega)] at hx
     subst hx
     omega
  rw [LG hg l _ (by rw [HH];exact hl) hb' i hi]
  cases ho:g u with
  | none=>simp [DW,ho]
  | some j=>
   have hj:j<b.length:=by rw [hl];exact hg u j ho
   have hg:b.getD j 0=b[j]:=by simp [hj]
   have h2:=hb _ (List.getElem_mem hj)
   simp only [List.length_cons] at h2
   by_cases hij:j=i
   ·subst hij
    have:(DW b (some j)).getD j 0=b[j]+1:=by
     simp only [DW,hg]
     rw [BI (by omega) (by omega)]
     simp [hj]
    rw [this,hg]
    simp only [List.filter_cons,ho,beq_self_eq_true,if_true,List.length_cons]
    omega
   ·have:(DW b (some j)).getD i 0=b.getD i 0:=by
     simp only [DW]
     simp [List.getD_eq_getElem?_getD,List.getElem?_set_ne hij]
    rw [this]
    have hne:(some j == some i)=false:=by simp [hij]
    simp only [List.filter_cons,ho,hne,Bool.false_eq_true,if_false]
theorem JV {k:C0} (u:TyV) (j:Nat) (h:FL k u=some j):j<k.arms.length:=by
 obtain ⟨h,_⟩:=List.findIdx?_eq_some_iff_getElem.1 h
 exact h
theorem UU {k:C0} (hlen:(BJ (BQ k.data k.ty)).length≤65536) {i:Nat} (hi:i<k.arms.length):(FA k).getD i 0=(((BJ (BQ k.data k.ty)).filter fun u=>FL k u == some i).length:Int):=by
 unfold FA
 rw [GM,LG JV _ _ (by simp) (fun x hx=>by rw [(List.mem_replicate.1 hx).2];omega) i hi]
 simp [hi]
end Go.Proofs.Am12
namespace Go.Proofs.Am12
open Go Go.Am
attribute [local simp] Du CY EX Dv Ch Dw Dx Ew Ba BS Bg Al GC FC EK Gv D2 BA E3 EL Gw Gx xUn Er D3 FD BK DD BL D4 BM D5 Cp Cf B8 BG EM EO
 ev evs Cy DC OR.ofV OR.Dc OR.ofC FH Tm.get Tm.init Tm.only A2 BC CO finish CB Cg Gu Dn D1 unA Ca Br Cb Bs C4 C5 C6 Bt C7 C8 Bu C9 DA Bv Cc AQ CQ Bq C2 C3 CZ Ey Ez E0 Dy Dz FT F6 F7 FU stA A5 DQ B6 DE Es Gd Cd DT CS FG Ge
set_option maxHeartbeats 1000000
attribute [local simp] Dd Ck CM Bk De Df Dg Dh Di Dj Dk El DJ Em D7 Ff Fg G6 D8 En D9 Bm EA Bn EB Cl Eo DK Fh Fi Fj DL EC ED Fk G7 Fl G8 G9 EF Bo DM Cm EG EH DN
theorem Ri {l:List AO} {w:AV} (hw:SlR Ab 3 l w) {ps:List TyV} {pv:AV} (hp:SlR AU 4 ps pv) {es:List (List AV)} (hnr:es.all AG=true) {id m:Nat} (hm:m≤es.length) {lk:Bool} {H:AE} (hH:H[id]? = some (.arr 4 lk es)) {kk vv:Int} {nm:Bytes} :
  Ax [.agg [w,.int .i64 kk,.int .i64 vv,.str nm,pv,.hs id es.length 4 0 m false]] H=some ([.agg [w,.int .i64 kk,.int .i64 vv,.str nm,pv,.sl 4 false (es.take m)]],H.set id (.arr 4 true es)):=by
 have h6:A1 1 (.hs id es.length 4 0 m false) H (.sl 4 false (es.take m)) (H.set id (.arr 4 true es)):=fun n=>by
  have hb:(Nat.beq es.length es.length&&Nat.beq 4 4&&Nat.ble (0+m) es.length&&es.all AG)=true:=by
   rw [hnr];simp [A2,BC,hm]
  simp only [Am.snap,hH,hb]
  simp
 have hn:AG [w,.int .i64 kk,.int .i64 vv,.str nm,pv,.hs id es.length 4 0 m false]=false:=by simp [AG,AV.AD,hw.AD,hp.AD]
 have hs:=(A1.agg hn (Az.cons (SlR.Kf hw H) (Az.cons (A1.flat (c:=.int .i64 kk) rfl H) (Az.cons (A1.flat (c:=.int .i64 vv) rfl H) (Az.cons (A1.flat (c:=.str nm) rfl H) (Az.cons (SlR.Kf hp H) (Az.cons h6 (Az.nil _)))))))).at (by decide)
 have hn':AV.AD (.agg [w,.int .i64 kk,.int .i64 vv,.str nm,pv,.hs id es.length 4 0 m false])=false:=hn
 simp only [Ax,hn',hs]
theorem own1 {k:C0} {xs:List AV} (hx:C1 k xs) (hsk:SmT 1048577 k):∃ xs',C1 k xs'∧∀ R:AE,∃ O Y Y',AK MX (AH MX) 15 [.agg xs] R=some (.ret (.agg O),R++Y)∧∀ (F:FuncId) (r:AV),(MX.mode F).fresh=true→(∀ h,AK MX (AH MX) F [.agg xs'] h=some (.ret r,h))→AK MX (AH MX) F [.agg O] (R++Y)=some (.ret r,R++Y'):=by
 obtain ⟨w0,pv,es,hw0,hpv,ht,hel,her,hc⟩:=c15 hx hsk
 rcases hc with ⟨h0,h15⟩ | ⟨h0,h15⟩
 ·exact ⟨_,⟨w0,_,.sl 4 true [],rfl,hw0,ht,.inr ⟨true,[],rfl,by rw [h0];rfl,fun i a e h=>by rw [h0] at h;simp at h⟩⟩,fun R=>⟨_,[],[],by rw [List.append_nil];exact h15 R,fun F r _ h=>by rw [List.append_nil];exact h R⟩⟩
 ·have hnr:es.all AG=true:=Bh hel her (fun a e h=>h.AG)
  refine ⟨_,⟨w0,_,.sl 4 false es,rfl,hw0,ht,.inr ⟨false,es,rfl,hel,her⟩⟩,fun R=>⟨_,_,[.arr 4 true es],h15 R,fun F r hm h => ?_⟩⟩
  have hs:=Ri hw0 hpv hnr (id:=R.length) (m:=es.length) (Nat.le_refl _) (lk:=false) (H:=R++[.arr 4 false es]) (by simp) (kk:=k.ty.k) (vv:=k.ty.v) (nm:=k.ty.nm)
  rw [hel,← hel,List.take_length] at hs
  have hset:(R++[Blk.arr 4 false es]).set R.length (.arr 4 true es)=R++[.arr 4 true es]:=by simp
  rw [hset] at hs
  rw [← hel]
  refine Eb hm hs ?_ (h _)
  simp [AV.AD,AG,hw0.AD,hpv.AD] <;> exact List.all_eq_true.1 hnr
theorem UW:MX.prim 10=some (Gi [([],.bool true)]):=rfl
section
variable {dv pv av:AV} {kk kv:Int} {knm:Bytes} {R:AE}
variable {d e:Int} {O ys:List AV} {Y Y':AE}
end
section
variable {dv pv av:AV} {kk kv:Int} {knm:Bytes} {R:AE}
variable {d e f:Int} {b:Bool} {p:Nat} {w:AV}
end
section
variable {dv pv av:AV} {kk kv:Int} {knm:Bytes} {R:AE}
variable {f:Int} {b c:Bool} {p n:Nat} {w:AV}
variable {w0 pv':AV} {es:List (List AV)} {m:Nat}
end
section
variable {dv pv av:AV} {kk kv:Int} {knm:Bytes} {R:AE}
variable {f:Int} {b c:Bool} {p n:Nat} {w:AV} {w0 pv':AV} {es:List (List AV)} {m:Nat}
end
theorem Qg {q:TyV→Bool}:∀ (L:List TyV),(match L.findIdx? q with
  | none=>L.find? q=none
  | some j=>∃ h:j<L.length,L.find? q=some L[j])
 | []=>by simp
 | u::L=>by
  have ih:=Qg (q:=q) L
  rw [List.findIdx?_cons,List.find?_cons]
  cases hq:q u with
  | true=>simp
  | false=>
   cases hf:L.findIdx? q with
   | none=>rw [hf] at ih;simpa using ih
   | some j=>
    rw [hf] at ih
    obtain ⟨h,h2⟩:=ih
    simp only [Option.map_some,Bool.false_eq_true,if_false]
    exact ⟨by simpa using h,by simpa using h2⟩
end Go.Proofs.Am12
namespace Go.Proofs.Am12
open Go Go.Am
theorem Xd {l:List AO} {rec:Rec} {D:Nat} (hr:∀ t c s,CD l t s→(rec t c).2=0→shD s≤D):∀ (fs:List B7) (ss:List Sh) c,ss.length=fs.length→(∀ (j:Nat) f y,fs[j]? = some f→ss[j]? = some y→CD l f.ty y)→(eFs rec fs c).2=0→K3 ss≤D
 | [],[],c,_,_,_=>by simp [K3]
 | f::r,x::ss,c,hl,hs,h=>by
  simp only [eFs] at h
  split at h
  ·rename_i hz
   have h1:=hr f.ty c x (hs 0 _ _ rfl rfl) hz
   have h2:=Xd hr r ss _ (by simpa using hl) (fun j f y a b=>hs (j+1) f y (by simpa using a) (by simpa using b)) h
   simp only [K3]
   omega
  ·rename_i hz;exact absurd h hz
 | [],_::_,_,h,_,_=>by simp at h
 | _::_,[],_,h,_,_=>by simp at h
theorem Xe {l:List AO} {rec:Rec} {D:Nat} (hr:∀ t c s,CD l t s→(rec t c).2=0→shD s≤D):∀ (cs:List Bb) (ss:List (List Sh)) c,ss.length=cs.length→(∀ (i:Nat) k s,cs[i]? = some k→ss[i]? = some s→s.length=k.fields.length∧∀ (j:Nat) f y,k.fields[j]? = some f→s[j]? = some y→CD l f.ty y)→(eCs rec cs c).2=0→Ib ss≤D
 | [],[],c,_,_,_=>by simp [Ib]
 | k::r,s::ss,c,hl,hs,h=>by
  simp only [eCs] at h
  split at h
  ·rename_i hz
   obtain ⟨a1,a2⟩:=hs 0 _ _ rfl rfl
   have h1:=Xd hr k.fields s c a1 a2 hz
   have h2:=Xe hr r ss _ (by simpa using hl) (fun i k s a b=>hs (i+1) k s (by simpa using a) (by simpa using b)) h
   simp only [Ib]
   omega
  ·rename_i hz;exact absurd h hz
 | [],_::_,_,h,_,_=>by simp at h
 | _::_,[],_,h,_,_=>by simp at h
theorem Qh {l:List AO} {r:Option Rec} {D:Nat} (hr:∀ rec,r=some rec→∀ t c s,CD l t s→(rec t c).2=0→shD s≤D) (t:TyV) (c:Int) (s:Sh) (hs:CD l t s) (h:(Cw l r t c).2=0):r≠none∧shD s≤D+1:=by
 unfold Cw at h
 split at h
 ·cases h
 split at h
 ·cases h
 split at h
 ·cases h
 split at h
 ·cases h
 split at h
 ·cases h
 cases r with
 | none=>cases h
 | some rec=>
  refine ⟨by simp,?_⟩
  simp only at h
  cases hs with
  | bit _ hb hw h2=>simp [shD]
  | cons _ ns ss hb hk hn hl h3 hf=>
   have hbn:¬ (Cv t=true):=by rw [hb];decide
   rw [if_neg hbn] at h
   have:=Xe (hr rec rfl) _ ss _ hl (fun i k s a b=>⟨h3 i k s a b,fun j f y d e=>hf i k s j f y a b d e⟩) h
   simp only [shD]
   omega
theorem UX (l:List AO):∀ n t c s,CD l t s→(DP l n t c).2=0→shD s≤n
 | 0=>fun t c s hs h=>absurd rfl (Qh (D:=0) (r:=none) (fun rec h=>by cases h) t c s hs h).1
 | n+1=>fun t c s hs h=>(Qh (D:=n) (fun rec h=>by cases h;exact UX l n) t c s hs h).2
theorem Qi:∀ {ps:List TyV} {xs:List Sh},ps.length=xs.length→(∀ (j:Nat) x p,xs[j]? = some x→ps[j]? = some p→cnt p≤shN x∧dp p≤shD x)→IQ ps≤Iw xs∧dps ps≤K3 xs
 | [],[],_,_=>by simp [IQ,Iw,dps,K3]
 | p::ps,x::xs,hl,h=>by
  obtain ⟨h1,h2⟩:=h 0 x p rfl rfl
  obtain ⟨h3,h4⟩:=Qi (ps:=ps) (xs:=xs) (by simpa using hl) fun j x p a b=>h (j+1) x p (by simpa using a) (by simpa using b)
  simp only [IQ,Iw,dps,K3]
  omega
 | [],_::_,h,_=>by simp at h
 | _::_,[],h,_=>by simp at h
theorem UY {s:Sh} (h:ShW s):∀ u∈BJ s,cnt u≤shN s∧dp u≤shD s:=by
 induction h with
 | bit m h0 h1=>
  intro u hu
  simp only [BJ,List.mem_map,List.mem_range] at hu
  obtain ⟨i,hi,rfl⟩:=hu
  simp [cnt,IQ,dp,dps,shN,shD]
 | cons ns ss h1 h2 h3 h4 h5 h6 h7 ih=>
  intro u hu
  obtain ⟨i,g1,g2,ps,hps,rfl⟩:=Jg ns ss u h1 hu
  obtain ⟨p1,p2⟩:=HG _ _ hps
  have hm:=List.getElem_mem g2
  obtain ⟨q1,q2⟩:=Qi p1 fun j x p a b=>ih _ hm x (List.mem_of_getElem? a) p (p2 j x p a b)
  have a1:=Jh hm
  have a2:∀ {s:List Sh} {r:List (List Sh)},s∈r→K3 s≤Ib r:=by
   intro s r
   induction r with
   | nil=>intro h;cases h
   | cons y r ih=>
    intro h
    simp only [Ib]
    rcases List.mem_cons.1 h with rfl | h
    ·omega
    ·have:=ih h;omega
  have a3:=a2 hm
  simp only [cnt,dp,shN,shD]
  omega
theorem N8 {l:List AO} {t:TyV} (hsl:SmL 1048577 l) (hst:Sm 1048577 t) (h:Cx l t=0):∀ u∈BJ (BQ l t),Mn (BQ l t) u=0:=by
 obtain ⟨a,b,c⟩:=Fx h
 have hw:=PT a hsl c b hst
 unfold Cx at h
 rw [if_pos a] at h
 unfold FK at h
 split at h
 ·split at h
  ·rename_i hz
   intro u hu
   have hN:=PX l 40 t 0 _ c hz
   have hR:=(GX l 40 t 0 (by decide) (by decide)).2.2 hz
   have hD:=UX l 40 t 0 _ c hz
   obtain ⟨c1,c2⟩:=UY hw u hu
   have ht:=(Nu u 1 0 (by decide) (by decide)).1 ⟨by omega,by omega⟩
   have hT:BE u=true:=by
    unfold BE
    rw [ht,decide_eq_true_iff]
    omega
   unfold Mn
   rw [if_pos hT]
   exact (JT hw u hu).1
  ·rename_i hz;exact absurd h hz
 ·rename_i hz;exact absurd h hz
theorem N9 {ss:List (List Sh)} {i:Nat} (hi:i<ss.length):cnC (ss.take (i+1))=cnC (ss.take i)+cnP ss[i]:=by
 rw [← Bf hi]
 induction ss.take i with
 | nil=>simp [cnC]
 | cons s r ih=>simp only [List.cons_append,cnC,ih];omega
theorem UZ {ns:List Bytes} {ss:List (List Sh)} (hl:ss.length=ns.length) {n:Nat} (hn:n<cnC ss):∃ (i m:Nat) (h1:i<ns.length) (h2:i<ss.length) (h3:m<cnP ss[i]),n=cnC (ss.take i)+m∧(Bj ns ss)[n]? = some (.mk 0 0 ns[i] ((A4 ss[i])[m]'h3)):=by
 have key:∀ (j i m:Nat),i+j=ss.length→m<cnC (ss.drop i)→n=cnC (ss.take i)+m→(Bj ns ss)[n]? = (Bj (ns.drop i) (ss.drop i))[m]? → ∃ (i m:Nat) (h1:i<ns.length) (h2:i<ss.length) (h3:m<cnP ss[i]),n=cnC (ss.take i)+m∧(Bj ns ss)[n]? = some (.mk 0 0 ns[i] ((A4 ss[i])[m]'h3)):=by
  intro j
  induction j with
  | zero=>intro i m hi hm;rw [List.drop_of_length_le (by omega)] at hm;simp [cnC] at hm
  | succ j ih=>
   intro i m hi hm h1 h2
   have hin:i<ns.length:=by omega
   have his:i<ss.length:=by omega
   by_cases hge:cnP ss[i]≤m
   ·rw [LF his] at hm
    exact ih (i+1) (m - cnP ss[i]) (by omega) (by omega) (by rw [N9 his];omega) (by rw [h2,N7 hl hin his hge])
   ·exact ⟨i,m,hin,his,by omega,h1,by rw [h2,Qf hl hin his (by omega)]⟩
 exact key ss.length 0 n (by omega) (by simpa using hn) (by simp [cnC]) (by simp)
theorem Wt {ps:List Sh} {m:Nat} (hm:m<cnP ps) (hw:∀ x∈ps,ShW x) {j:Nat} (hj:j<ps.length):∃ (h1:m / cnP (ps.drop (j+1)) % cn ps[j]<cn ps[j]),((A4 ps)[m])[j]? = some ((BJ ps[j])[m / cnP (ps.drop (j+1)) % cn ps[j]]'h1):=by
 induction ps generalizing m j with
 | nil=>simp at hj
 | cons x r ih=>
  have hwr:∀ y∈r,ShW y:=fun y hy=>hw y (by simp [hy])
  have hm':m<cn x * cnP r:=by rw [← F1];exact hm
  obtain ⟨g1,g2,g3⟩:=L4 x r m hm'
  have g3':(A4 (x::r))[m]=(BJ x)[m / cnP r]::(A4 r)[m % cnP r]:=by
   have:m<(A4 (x::r)).length:=hm
   rw [List.getElem?_eq_getElem this] at g3
   simpa using g3
  cases j with
  | zero=>
   have e:m / cnP r % cn x=m / cnP r:=Nat.mod_eq_of_lt g1
   refine ⟨Nat.mod_lt _ (hw x (by simp)).pos,?_⟩
   rw [g3']
   simp [e]
  | succ j=>
   have hj':j<r.length:=by simpa using hj
   obtain ⟨q1,q2⟩:=ih (m:=m % cnP r) g2 hwr hj'
   have hcj:=(hwr _ (List.getElem_mem hj')).pos
   have he:m % cnP r / cnP (r.drop (j+1)) % cn r[j]=m / cnP (r.drop (j+1)) % cn r[j]:=by
    have hsplit:∃ K,cnP r=cnP (r.drop (j+1)) * (cn r[j] * K):=by
     have:∀ (a b:List Sh),cnP (a++b)=cnP a * cnP b:=by
      intro a b
      induction a with
      | nil=>simp [cnP,A4]
      | cons y a iha=>rw [List.cons_append,F1,F1,iha,Nat.mul_assoc]
     refine ⟨cnP (r.take j),?_⟩
     have h1:=this (r.take j) (r.drop j)
     rw [List.take_append_drop] at h1
     rw [h1,List.drop_eq_getElem_cons hj',F1]
     ac_rfl
    obtain ⟨K,hK⟩:=hsplit
    rw [hK,Nat.mod_mul_right_div_self,Nat.mod_mul_right_mod]
   have hidx:(x::r)[j+1]=r[j]:=rfl
   refine ⟨Nat.mod_lt _ hcj,?_⟩
   rw [g3']
   simp only [List.getElem?_cons_succ,q2,List.drop_succ_cons,List.getElem_cons_succ,he]
end Go.Proofs.Am12
namespace Go.Proofs.Am12
open Go Go.Am
attribute [local simp] Du CY EX Dv Ch Dw Dx Ew Ba BS Bg Al GC FC EK Gv D2 BA E3 EL Gw Gx xUn Er D3 FD BK DD BL D4 BM D5 Cp Cf B8 BG EM EO
 ev evs Cy DC OR.ofV OR.Dc OR.ofC FH Tm.get Tm.init Tm.only A2 BC CO finish CB Cg Gu Dn D1 unA Ca Br Cb Bs C4 C5 C6 Bt C7 C8 Bu C9 DA Bv Cc AQ CQ Bq C2 C3 CZ Ey Ez E0 Dy Dz FT F6 F7 FU stA A5 DQ B6 DE Es Gd Cd DT CS FG Ge
set_option maxHeartbeats 1000000
attribute [local simp] Dd Ck CM Bk De Df Dg Dh Di Dj Dk El DJ Em D7 Ff Fg G6 D8 En D9 Bm EA Bn EB Cl Eo DK Fh Fi Fj DL EC ED Fk G7 Fl G8 G9 EF Bo DM Cm EG EH DN
section
variable {l:List AO} {lv:AV} (hl:SlR Ab 3 l lv) (hsl:SmL 1048577 l) (hok:DOK l)
include hl hsl hok
def Ix24 (l:List AO) (lv:AV) (x:Sh):Prop:=∀ (t:TyV) (xs:List AV) (n:Nat) (hn:n<cn x) (ys:List AV),AU t xs→Sm 1048577 t→VT l t→CD l t x→A0 ((BJ x)[n]'hn) ys→∀ h,AK MX (AH MX) 24 [lv,.agg xs,.agg ys] h=some (.ret (.int .i64 n),h)
theorem Wu {t:TyV} (hst:Sm 1048577 t) (hv:VT l t) {ns:List Bytes} {ss:List (List Sh)} (hs:CD l t (.cons ns ss)) (hw:ShW (.cons ns ss)) (hb:cnC ss≤65536) {w:AV} (hwr:SlR Cu 2 (AP l t) w) {i:Nat} (hi:i<ss.length) (T:AE) :
   Et MX 24 71 (AH MX) (AQ Tryz.f24 0) ([(0,lv),(5,.hp 1 0),(7,w),(8,.int .i64 i),(9,.int .i64 (0:Nat)),(10,.int .i64 (0:Nat))],T)=some (.ext 0,([(0,lv),(5,.hp 1 0),(7,w),(8,.int .i64 i),(9,.int .i64 (cnC (ss.take i):Nat)),(10,.int .i64 i),(27,.bool false)],T)):=by
 have h69:=fun i hi hi2 cx hcx=>c69 hl hsl hok hst hv hs (fun s _ x _=>c21 hl hsl hok x) (i:=i) hi hi2 (cx:=cx) hcx
 cases hw with
 | cons _ _ w1 w2 w3 w4 w5 w6 w7=>
 cases hs with
 | cons _ _ _ hb' hk hnn hll hs0 hf0=>
 obtain ⟨e,st,hlp,hq⟩:=AR (M:=MX) (fid:=24) (N:=71) (C:=AH MX) (c:=AQ Tryz.f24 0) (n:=i)
  (fun q (c:Nat)=>([(0,lv),(5,.hp 1 0),(7,w),(8,.int .i64 i),(9,.int .i64 c),(10,.int .i64 q)],T))
  (fun q c=>c=cnC (ss.take q))
  (fun r=>r=(.ext 0,([(0,lv),(5,.hp 1 0),(7,w),(8,.int .i64 i),(9,.int .i64 (cnC (ss.take i):Nat)),(10,.int .i64 i),(27,.bool false)],T))) (fun q c hq hI=>by
    have hqs:q<ss.length:=by omega
    have hqc:q<(AP l t).length:=by omega
    obtain ⟨ce,hce,hcR⟩:=hwr.ix hqc
    have hwi:=AX (show q<ns.length by omega) w3
    have hW:=h69 q hqc hqs ce hcR
    have hli:=IL (List.getElem_mem hqs)
    rw [EJ (show cnP ss[q]<9223372036854775808 by omega)] at hW
    obtain ⟨fv,rfl,hfv⟩:=hcR.dest
    have hlt:=AY hq
    have hct:=N9 hqs
    have hcb:∀ q,cnC (ss.take q)≤cnC ss:=fun q=>by
     have:∀ (a b:List (List Sh)),cnC (a++b)=cnC a+cnC b:=by
      intro a b
      induction a with
      | nil=>simp [cnC]
      | cons y a iha=>simp only [List.cons_append,cnC,iha];omega
     have h1:=this (ss.take q) (ss.drop q)
     rw [List.take_append_drop] at h1
     omega
    have hb1:=hcb q
    have hb2:=hcb (q+1)
    subst hI
    have hadd:wr .i64 ((cnC (ss.take q):Int)+(cnP ss[q]:Int))=((cnC (ss.take (q+1)):Nat):Int):=by
     rw [hct,Int.natCast_add];exact BI (by omega) (by omega)
    exact .inl ⟨cnC (ss.take (q+1)),by simp only [cnP] at hW hadd ⊢;simp [Tryz.f24,hlt,hce,hW,hadd,hwi],rfl⟩) (fun c hI=>by
    subst hI
    exact ⟨_,_,by simp [Tryz.f24] <;> first | exact ⟨rfl,rfl⟩ | rfl,by simp,rfl⟩) 0 (by simp [cnC])
 cases hq
 exact hlp
omit hl hsl hok in
theorem Y0:AQ Tryz.f24 1=.seq (sub (AQ Tryz.f24 1) [0]) (.seq (.block 3 (.seq (sub (AQ Tryz.f24 1) [1,0,0,0]) (sub (AQ Tryz.f24 1) [1,0,0,1]))) (sub (AQ Tryz.f24 1) [1,1])):=rfl
omit hl hsl hok in
theorem st24A {i n j:Nat} {qv w:AV} {z9 x11 z:Int} {B0:Blk} {nm:Bytes} {T:AE} (hlq:∀ h,CE qv h=some (.val (.int .i64 n) h)) (hj:j<n) :
  Aa MX 24 71 (AH MX) (sub (AQ Tryz.f24 1) [0]) ([(0,lv),(5,.hp 1 0),(7,w),(8,.int .i64 i),(9,.int .i64 z9),(11,.int .i64 x11),(12,.int .i64 j)],B0::Blk.var false [.str nm,.int .i64 z,qv]::T)=some (.nrm,([(0,lv),(5,.hp 1 0),(7,w),(8,.int .i64 i),(9,.int .i64 z9),(11,.int .i64 x11),(12,.int .i64 j),(42,.bool true)],B0::Blk.var false [.str nm,.int .i64 z,qv]::T)):=by
 have hlt:=AY hj
 simp [Tryz.f24,sub,hlq,hlt]
omit hl hsl hok in
theorem st24B {i j:Nat} {w fv tv:AV} {z9 x11 tk tz:Int} {cnm fnm tnm:Bytes} {B0 B1:Blk} {T:AE} (hce:∀ kd,ixA 2 w (.int kd i)=some (.ro [.str cnm,fv])) (hfe:∀ kd,ixA 5 fv (.int kd j)=some (.ro [.str fnm,.int .i64 tk,.int .i64 tz,.str tnm,tv])) :
  Aa MX 24 71 (AH MX) (sub (AQ Tryz.f24 1) [1,0,0,0]) ([(0,lv),(5,.hp 1 0),(7,w),(8,.int .i64 i),(9,.int .i64 z9),(11,.int .i64 x11),(12,.int .i64 j),(42,.bool true)],B0::B1::T)=some (.nrm,([(0,lv),(5,.hp 1 0),(7,w),(8,.int .i64 i),(9,.int .i64 z9),(11,.int .i64 x11),(12,.int .i64 j),(13,.hp (T.length+2) 0)],B0::B1::(T++[.var false [.int .i64 tk,.int .i64 tz,.str tnm,tv]]))):=by
 simp [Tryz.f24,sub,hce,hfe]
omit hl hsl hok in
theorem st24C {i j c D' q D:Nat} {w qv tv ev:AV} {z9 tk tz z ez:Int} {nm tnm enm:Bytes} {B0:Blk} {T:AE} (hln:lv.AD=true) (htn:tv.AD=true) (hen:ev.AD=true)
  (h21:∀ h,AK MX (AH MX) 21 [lv,.agg [.int .i64 tk,.int .i64 tz,.str tnm,tv]] h=some (.ret (.int .i64 c),h)) (he:∀ kd,ixA 3 qv (.int kd j)=some (.ro [.str enm,.int .i64 ez,ev])) (h24:∀ h,AK MX (AH MX) 24 [lv,.agg [.int .i64 tk,.int .i64 tz,.str tnm,tv],.agg [.str enm,.int .i64 ez,ev]] h=some (.ret (.int .i64 q),h))
  {p:Nat} (e1:wr .i64 ((D':Int) * (c:Int))=(p:Int)) (e2:wr .i64 ((p:Int)+(q:Int))=(D:Int)) :
  Aa MX 24 71 (AH MX) (sub (AQ Tryz.f24 1) [1,0,0,1]) ([(0,lv),(5,.hp 1 0),(7,w),(8,.int .i64 i),(9,.int .i64 z9),(11,.int .i64 D'),(12,.int .i64 j),(13,.hp (T.length+2) 0)],B0::Blk.var false [.str nm,.int .i64 z,qv]::(T++[.var false [.int .i64 tk,.int .i64 tz,.str tnm,tv]]))=some (.nrm,([(0,lv),(5,.hp 1 0),(7,w),(8,.int .i64 i),(9,.int .i64 z9),(11,.int .i64 D),(12,.int .i64 j)],B0::Blk.var false [.str nm,.int .i64 z,qv]::(T++[.var false [.int .i64 tk,.int .i64 tz,.str tnm,tv]]))):=by
 have hbf:=Qw
 simp [BD,BP,Tryz.f24] at hbf
 simp [Tryz.f24,sub,h21,he,h24,e1,e2,hbf,hln,htn,hen,AG,AV.AD]
omit hl hsl hok in
theorem st24D {i j n:Nat} {w:AV} {z9 x11:Int} {T:AE} (hj:j<n) (hn:n<1048577) :
  Aa MX 24 71 (AH MX) (sub (AQ Tryz.f24 1) [1,1]) ([(0,lv),(5,.hp 1 0),(7,w),(8,.int .i64 i),(9,.int .i64 z9),(11,.int .i64 x11),(12,.int .i64 j)],T)=some (.nrm,([(0,lv),(5,.hp 1 0),(7,w),(8,.int .i64 i),(9,.int .i64 z9),(11,.int .i64 x11),(12,.int .i64 ((j+1:Nat):Int))],T)):=by
 have hw:=AX hj hn
 simp [Tryz.f24,sub,hw]
theorem Wv {t:TyV} (hst:Sm 1048577 t) (hv:VT l t) {ns:List Bytes} {ss:List (List Sh)} (hs:CD l t (.cons ns ss)) (hw:ShW (.cons ns ss)) (ih:∀ s∈ss,∀ x∈s,Ix24 l lv x) {w:AV} (hwr:SlR Cu 2 (AP l t) w) {i:Nat} (h2:i<ss.length) (hbd:cnP ss[i]≤65536) {m:Nat} (hm:m<cnP ss[i]) {qv:AV} (hqv:SlR A0 3 ((A4 ss[i])[m]) qv) {z9:Int} (B0:Blk) (nm:Bytes) (z:Int) :
  ∃ (T:AE),Et MX 24 71 (AH MX) (AQ Tryz.f24 1) ([(0,lv),(5,.hp 1 0),(7,w),(8,.int .i64 i),(9,.int .i64 z9),(11,.int .i64 (0:Nat)),(12,.int .i64 (0:Nat))],B0::Blk.var false [.str nm,.int .i64 z,qv]::[])=some (.ext 2,([(0,lv),(5,.hp 1 0),(7,w),(8,.int .i64 i),(9,.int .i64 z9),(11,.int .i64 m),(12,.int .i64 (ss[i].length:Nat)),(42,.bool false)],B0::Blk.var false [.str nm,.int .i64 z,qv]::T)):=by
 cases hw with
 | cons _ _ w1 w2 w3 w4 w5 w6 w7=>
 cases hs with
 | cons _ _ _ hb' hk hnn hll hs0 hf0=>
 have hcsm:=Da hsl hst (by decide)
 have hic:i<(AP l t).length:=by omega
 obtain ⟨ce,hce,hcR⟩:=hwr.ix hic
 obtain ⟨fv,rfl,hfv⟩:=hcR.dest
 have hvf:=hok.fld t hv hk hb'
 have hsc:=hcsm.2 _ (List.getElem_mem hic)
 have f1:=hs0 i _ _ (List.getElem?_eq_getElem hic) (List.getElem?_eq_getElem h2)
 have f2:=fun j f y=>hf0 i _ _ j f y (List.getElem?_eq_getElem hic) (List.getElem?_eq_getElem h2)
 have hmem:=List.getElem_mem h2
 have hpl:=(HG _ _ (List.getElem_mem hm)).1
 obtain ⟨L,hL⟩:∃ L,L=(A4 ss[i])[m]:=⟨_,rfl⟩
 have hpt:=fun j (hj:j<ss[i].length)=>Wt hm (w5 _ hmem) hj
 rw [← hL] at hpl hqv hpt
 obtain ⟨P,hP⟩:∃ P,P=ss[i]:=⟨_,rfl⟩
 simp only [← hP] at f1 f2 hm hbd hmem hpl hpt ⊢
 have hwP:=w5 P hmem
 have hPl:=w4 P hmem
 have hlq:=hqv.len
 rw [hpl] at hlq
 obtain ⟨e,st,hlp,hq⟩:=AR (M:=MX) (fid:=24) (N:=71) (C:=AH MX) (c:=AQ Tryz.f24 1) (n:=P.length)
  (fun j (T:AE)=>([(0,lv),(5,.hp 1 0),(7,w),(8,.int .i64 i),(9,.int .i64 z9),(11,.int .i64 ((m / cnP (P.drop j):Nat):Int)),(12,.int .i64 j)],B0::Blk.var false [.str nm,.int .i64 z,qv]::T))
  (fun j T=>True)
  (fun r=>∃ (T:AE),r=(.ext 2,([(0,lv),(5,.hp 1 0),(7,w),(8,.int .i64 i),(9,.int .i64 z9),(11,.int .i64 m),(12,.int .i64 (P.length:Nat)),(42,.bool false)],B0::Blk.var false [.str nm,.int .i64 z,qv]::T))) (fun j T hj hI=>by
    have hjf:j<(AP l t)[i].fields.length:=by omega
    obtain ⟨fe,hfe,hfR⟩:=hfv.ix hjf
    obtain ⟨tx,rfl,htx⟩:=hfR
    have hmf:=List.getElem_mem hjf
    have hsh:=f2 j _ _ (List.getElem?_eq_getElem hjf) (List.getElem?_eq_getElem hj)
    have hvt:=hvf _ (List.getElem_mem hic) _ hmf
    have hsf:=(hsc.2.2 _ hmf).2
    have hpos:=(hwP _ (List.getElem_mem hj)).pos
    have hcle:cn P[j]≤65536:=Nat.le_trans (JU hwP (List.getElem_mem hj)) hbd
    have h21:=c21 hl hsl hok P[j] _ tx htx hsf hvt hsh
    rw [EJ (show cn P[j]<9223372036854775808 by omega)] at h21
    obtain ⟨g1,g2⟩:=hpt j hj
    have hjL:j<L.length:=by omega
    rw [List.getElem?_eq_getElem hjL] at g2
    simp only [Option.some.injEq] at g2
    obtain ⟨e,he,hR⟩:=hqv.ix hjL
    have hR0:=hR
    rw [g2] at hR
    have h24:=ih P hmem P[j] (List.getElem_mem hj) _ tx _ g1 e htx hsf hvt hsh hR
    have hlt:=AY hj
    have hwr':=AX hj hPl
    have hmle:m / cnP (P.drop (j+1))≤m:=Nat.div_le_self _ _
    have hDb:m / cnP (P.drop (j+1))<9223372036854775808:=Nat.lt_of_le_of_lt hmle (Nat.lt_of_lt_of_le hm (Nat.le_trans hbd (by decide)))
    have hdm:=Nat.div_add_mod (m / cnP (P.drop (j+1))) (cn P[j])
    rw [AtI.div hj] at hdm
    have hml:cn P[j] * (m / cnP (P.drop j))<9223372036854775808:=Nat.lt_of_le_of_lt (Nat.le.intro hdm) hDb
    obtain ⟨c,hc⟩:∃ c,c=cn P[j]:=⟨_,rfl⟩
    obtain ⟨D,hD⟩:∃ D,D=m / cnP (P.drop (j+1)):=⟨_,rfl⟩
    obtain ⟨D',hD'⟩:∃ D',D'=m / cnP (P.drop j):=⟨_,rfl⟩
    rw [← hc] at h21 h24 hdm hml
    rw [← hD] at h24 hdm hDb ⊢
    rw [← hD'] at hdm hml ⊢
    have e1:wr .i64 ((D':Int) * (c:Int))=((c * D':Nat):Int):=by
     rw [Int.mul_comm,← Int.natCast_mul];exact EJ hml
    have e2:wr .i64 (((c * D':Nat):Int)+((D % c:Nat):Int))=(D:Int):=by
     rw [← Int.natCast_add,hdm];exact EJ hDb
    obtain ⟨q,hq⟩:∃ q,q=D % c:=⟨_,rfl⟩
    obtain ⟨p,hp⟩:∃ p,p=c * D':=⟨_,rfl⟩
    rw [← hq] at h24 e2
    rw [← hp] at e1 e2
    obtain ⟨tv,rfl,htv⟩:=htx.AW
    obtain ⟨ev,rfl,hev⟩:=hR0.AW
    exact .inl ⟨T++[.var false [.int .i64 (AP l t)[i].fields[j].ty.k,.int .i64 (AP l t)[i].fields[j].ty.v,.str (AP l t)[i].fields[j].ty.nm,tv]],by rw [Y0];exact DG (st24A hlq hj) (DG (Jf (DG (st24B hce hfe) (st24C hl.AD htv.AD hev.AD h21 he h24 e1 e2))) (st24D hj hPl)),trivial⟩) (fun T hI=>by
    have e0:m / cnP (P.drop P.length)=m:=by simp [cnP,A4]
    rw [e0]
    exact ⟨_,_,by simp [Tryz.f24,hlq] <;> first | exact ⟨rfl,rfl⟩ | rfl,by simp,T,rfl⟩) [] trivial
 obtain ⟨T,hq⟩:=hq
 cases hq
 have e0:m / cnP (P.drop 0)=0:=by rw [List.drop_zero];exact Nat.div_eq_of_lt hm
 rw [e0] at hlp
 exact ⟨T,hlp⟩
end
section
variable {l:List AO} {lv:AV} (hl:SlR Ab 3 l lv) (hsl:SmL 1048577 l) (hok:DOK l)
include hl hsl hok
theorem c24 (s:Sh):ShW s→cn s≤65536→Ix24 l lv s:=by
 intro hw
 induction hw with
 | bit n h0 h1=>
  intro hb t xs m hm ys hx hst hv hs hy h
  have hn:([lv,AV.agg xs,.agg ys]:List AV).all AV.AD=true:=by simp [AV.AD,hx.AG,hl.AD,hy.AG]
  have hB:=c66 hx
  obtain ⟨pv,rfl,hp⟩:=hx.AW
  have hib:Cv t=true:=by cases hs;assumption
  have:(BJ (.bit n))[m]=.mk 0 m [] []:=by simp [BJ]
  rw [this] at hy
  obtain ⟨yv,rfl,hyv⟩:=hy.AW
  have e1:(TyV.mk 0 (m:Int) [] []).v=m:=rfl
  exact Ai Pn Sb hn rfl (hr:=_) (by simp [AN,Tryz.f24,hB,hib,e1] <;> rfl) h
 | cons ns ss w1 w2 w3 w4 w5 w6 w7 ih=>
  intro hb t xs n hn ys hx hst hv hs hy h
  have hW:ShW (.cons ns ss):=.cons ns ss w1 w2 w3 w4 w5 w6 w7
  have hnr:([lv,AV.agg xs,.agg ys]:List AV).all AV.AD=true:=by simp [AV.AD,hx.AG,hl.AD,hy.AG]
  have hB:=c66 hx
  have hcn:cn (.cons ns ss)=cnC ss:=by simp only [cn,BJ,Ji]
  rw [hcn] at hn
  have hib:Cv t=false:=by cases hs;assumption
  have hk:t.k≠2:=by cases hs;assumption
  obtain ⟨w,hwr,h68⟩:=c68 hl hsl hx hst (hok.has t hv hk hib)
  obtain ⟨i,m,h1,h2,h3,h4,h5⟩:=UZ w1 hn
  have hle:cnP ss[i]≤65536:=by have:=IL (List.getElem_mem h2);omega
  have hih:∀ s∈ss,∀ x∈s,Ix24 l lv x:=fun s hs' x hx'=>ih s hs' x hx' (by
   have h1:=JU (w5 s hs') hx'
   have h2:=IL hs'
   omega)
  have hu:(BJ (.cons ns ss))[n]=.mk 0 0 ns[i] ((A4 ss[i])[m]'h3):=by
   have hl':n<(Bj ns ss).length:=by rw [Ji];exact hn
   rw [List.getElem?_eq_getElem hl'] at h5
   simp only [Option.some.injEq] at h5
   simpa [BJ] using h5
  rw [hu] at hy
  obtain ⟨qv,rfl,hqv⟩:=hy.AW
  have hqv:SlR A0 3 ((A4 ss[i])[m]'h3) qv:=hqv
  have e1:(TyV.mk 0 0 ns[i] ((A4 ss[i])[m]'h3)).nm=ns[i]:=rfl
  have e2:(TyV.mk 0 0 ns[i] ((A4 ss[i])[m]'h3)).v=0:=rfl
  simp only [e1,e2] at hnr ⊢
  have hic:i<(AP l t).length:=by cases hs with | cons _ _ _ _ _ hnn hll _ _=>omega
  have hfi:(AP l t).findIdx? (fun x:Bb=>x.nm == ns[i])=some i:=by
   have hnn:ns=(AP l t).map (·.nm):=by cases hs;assumption
   rw [List.findIdx?_eq_some_iff_getElem]
   have e:∀ j (hj:j<(AP l t).length),(AP l t)[j].nm=ns[j]'(by rw [hnn];simpa using hj):=fun j hj=>by simp [hnn]
   refine ⟨hic,by rw [e i hic];simp,fun j hj => ?_⟩
   simp only [Bool.not_eq_true,beq_eq_false_iff_ne]
   rw [e j (by omega)]
   exact (List.pairwise_iff_getElem.1 w6) j i (by omega) h1 hj
  have h72:=c72 ns[i] hwr (Da hsl hst (by decide)).1
  rw [hfi] at h72
  have h72:∀ h,AK MX (AH MX) 72 [w,.str ns[i]] h=some (.ret (.int .i64 i),h):=h72
  obtain ⟨pv,rfl,hp⟩:=hx.AW
  have hl1:=Wu hl hsl hok hst hv hs hW (by rw [← hcn];exact hb) hwr h2 [Blk.var false [.int .i64 t.k,.int .i64 t.v,.str t.nm,pv],Blk.var false [.str ns[i],.int .i64 0,qv]]
  obtain ⟨T,hl2⟩:=Wv hl hsl hok hst hv hs hW hih hwr h2 hle h3 hqv (z9:=(cnC (ss.take i):Nat)) (Blk.var false [.int .i64 t.k,.int .i64 t.v,.str t.nm,pv]) ns[i] 0
  have hsum:wr .i64 ((cnC (ss.take i):Int)+(m:Int))=(n:Int):=by
   rw [← Int.natCast_add,← h4];exact EJ (by omega)
  simp [Tryz.f24] at hl1 hl2
  exact Ai Pn Sb hnr rfl (hr:=_) (by simp [AN,Tryz.f24,hB,hib,h68,h72,hl1,hl2,hsum,hwr.AD] <;> rfl) h
end
theorem c20 {a b:List Int} {v w:AV} (hv:SlR FB 1 a v) (hw:SlR FB 1 b w) (hl:a.length<1048577) (h:AE):AK MX (AH MX) 20 [v,w] h=some (.ret (.bool (decide (a=b))),h):=by
 have hbf:=Tj
 simp [BD,BP,Tryz.f20] at hbf
 have hn:([v,w]:List AV).all AV.AD=true:=by simp [hv.AD,hw.AD]
 by_cases hab:a.length=b.length
 ·have hne:((a.length:Int) != (b.length:Int))=false:=by simp [hab]
  have hlw:=hw.len
  rw [← hab] at hlw
  obtain ⟨e,st,hlp,hq⟩:=AR (M:=MX) (fid:=20) (N:=26) (C:=AH MX) (c:=AQ Tryz.f20 0) (n:=a.length)
   (fun i (_:Unit)=>([(0,v),(1,w),(5,.int .i64 i)],[]))
   (fun i _=>a.take i=b.take i)
   (fun r=>(r=(.ext 0,([(0,v),(1,w),(5,.int .i64 a.length),(14,.bool false)],[]))∧a=b)∨(r=(.ret,([(4,.bool false)],[]))∧a≠b)) (fun i c hi hI=>by
     have hi':=AY hi
     have hwr:=AX hi hl
     have hib:i<b.length:=by omega
     obtain ⟨e1,he1,hR1⟩:=hv.ix hi
     obtain ⟨e2,he2,hR2⟩:=hw.ix hib
     subst hR1;subst hR2
     cases hz:a[i] != b[i] with
     | true=>
      refine .inr ⟨_,_,by simp [Tryz.f20,hv.len,hi',he1,he2,hz,hbf] <;> first | exact ⟨rfl,rfl⟩ | rfl,by simp,.inr ⟨rfl,fun he => ?_⟩⟩
      subst he
      simp at hz
     | false=>
      have hz2:a[i]=b[i]:=by simpa using hz
      exact .inl ⟨(),by simp [Tryz.f20,hv.len,hi',he1,he2,hz,hbf,hwr],by rw [← Bf hi,← Bf hib,hI,hz2]⟩) (fun c hI=>by
     rw [List.take_length,hab,List.take_length] at hI
     exact ⟨_,_,by simp [Tryz.f20,hv.len] <;> first | exact ⟨rfl,rfl⟩ | rfl,by simp,.inl ⟨rfl,hI⟩⟩) () rfl
  simp [Tryz.f20] at hlp
  rcases hq with ⟨hq,hr⟩ | ⟨hq,hr⟩ <;> cases hq <;> simp only [hr,decide_true,decide_false] <;> exact Ai MS SY hn rfl (hr:=[]) (by simp [AN,Tryz.f20,hv.len,hlw,hne,hlp]) h
 ·have hne:((a.length:Int) != (b.length:Int))=true:=by
   have:((a.length:Int) == (b.length:Int))=false:=by rw [beq_eq_false_iff_ne];omega
   simp [bne,this]
  have hd:decide (a=b)=false:=decide_eq_false fun e=>hab (by rw [e])
  rw [hd]
  exact Ai MS SY hn rfl (hr:=[]) (by simp [AN,Tryz.f20,hv.len,hw.len,hne]) h
def Ha (k:C0) (u:TyV):Nat:=(FL k u).getD k.arms.length
theorem Qj (k:C0) (u:TyV):Ha k u<k.arms.length+1:=by
 unfold Ha
 cases h:FL k u with
 | none=>simp
 | some j=>have:=JV u j h;simp;omega
noncomputable def FM (k:C0):List Int:=(BJ (BQ k.data k.ty)).foldl (fun b u=>DW b (some (Ha k u))) (List.replicate (k.arms.length+1) 0)
theorem LH {g:TyV→Option Nat}:∀ (l:List TyV) (b:List Int),(l.foldl (fun b u=>DW b (g u)) b).length=b.length
 | [],b=>rfl
 | u::l,b=>by simp only [List.foldl_cons];rw [LH l,HH]
theorem H5 (k:C0):(FM k).length=k.arms.length+1:=by
 unfold FM
 rw [LH];simp
noncomputable def Ee:Code:=Tryz.f19.body.getD .skip
theorem Rj:Ee=.seq (sub Ee [0]) (.seq (sub Ee [1,0]) (.seq (sub Ee [1,1,0]) (sub Ee [1,1,1]))):=rfl
theorem run19 {a v:AV} {H:AE} (h:Aa MX 19 41 (AH MX) Ee (Tm.init 0 [a],[])=some (.ret,([(2,v)],H))):AN MX 19 [a] []=some (.ret v,H):=by
 have hb:Tryz.f19.body=some Ee:=rfl
 have hn:Tryz.f19.ntmps=41:=rfl
 have hr:Tryz.f19.results = #[.tmp 2]:=rfl
 simp only [AN,fn_19,hb,hn,h]
 simp [hr]
theorem st19Z {dv pv av:AV} {kk kv:Int} {knm:Bytes} {x z:Int} {es:List (List AV)} {N:Nat} (hla:∀ h,CE av h=some (.val (.int .i64 x) h)) (hadd:wr .i64 (x+1)=z) (hms:∀ h,Dp MX.ty 39 (.int .i64 z) (.int .i64 z) h=some (.hs h.length N 1 0 N false,h++[.arr 1 false es])) :
  Aa MX 19 41 (AH MX) (sub Ee [1,0]) ([(1,.hp 0 0)],Blk.var false [dv,.int .i64 kk,.int .i64 kv,.str knm,pv,av]::[])=some (.nrm,([(1,.hp 0 0),(3,.hs 1 N 1 0 N false)],[Blk.var false [dv,.int .i64 kk,.int .i64 kv,.str knm,pv,av],.arr 1 false es])):=by
 simp [Tryz.f19,Ee,sub,hla,hadd,hms]
theorem Y4:AQ Tryz.f19 0=.seq (sub (AQ Tryz.f19 0) [0]) (.seq (.block 1 (.seq (sub (AQ Tryz.f19 0) [1,0,0,0]) (.seq (sub (AQ Tryz.f19 0) [1,0,0,1,0]) (sub (AQ Tryz.f19 0) [1,0,0,1,1])))) (sub (AQ Tryz.f19 0) [1,1])):=rfl
section
variable {N i:Nat} {w:AV} {B:Blk} {T:AE} {v:AV}
theorem st19A {n:Nat} (hlw:∀ h,CE w h=some (.val (.int .i64 n) h)) (hi:i<n) :
  Aa MX 19 41 (AH MX) (sub (AQ Tryz.f19 0) [0]) ([(1,.hp 0 0),(3,v),(4,w),(5,.int .i64 i)],T)=some (.nrm,([(1,.hp 0 0),(3,v),(4,w),(5,.int .i64 i),(17,.bool true)],T)):=by
 have hlt:=AY hi
 simp [Tryz.f19,sub,hlw,hlt]
theorem st19B {dv pv av:AV} {kk kv:Int} {knm:Bytes} {e1 e2 e3:AV} {z:Int} (han:av.AD=true) (hn1:e1.AD=true) (hn2:e2.AD=true) (hn3:e3.AD=true) (he:∀ kd,ixA 3 w (.int kd i)=some (.ro [e1,e2,e3])) (h23:∀ h,AK MX (AH MX) 23 [av,.agg [e1,e2,e3]] h=some (.ret (.int .i64 z),h)) :
  Aa MX 19 41 (AH MX) (sub (AQ Tryz.f19 0) [1,0,0,0]) ([(1,.hp 0 0),(3,v),(4,w),(5,.int .i64 i),(17,.bool true)],Blk.var false [dv,.int .i64 kk,.int .i64 kv,.str knm,pv,av]::T)=some (.nrm,([(1,.hp 0 0),(3,v),(4,w),(5,.int .i64 i),(6,.int .i64 z)],Blk.var false [dv,.int .i64 kk,.int .i64 kv,.str knm,pv,av]::T)):=by
 have hbf:=Ni
 simp [BD,BP,Tryz.f19] at hbf
 simp [Tryz.f19,sub,he,h23,hbf,han,hn1,hn2,hn3,AG,AV.AD]
theorem st19C {dv pv av:AV} {kk kv:Int} {knm:Bytes} {m:Nat} (hla:∀ h,CE av h=some (.val (.int .i64 m) h)) (o:Option Nat) :
  Aa MX 19 41 (AH MX) (sub (AQ Tryz.f19 0) [1,0,0,1,0]) ([(1,.hp 0 0),(3,v),(4,w),(5,.int .i64 i),(6,.int .i64 (ixI o))],Blk.var false [dv,.int .i64 kk,.int .i64 kv,.str knm,pv,av]::T)=some (.nrm,([(1,.hp 0 0),(3,v),(4,w),(5,.int .i64 i),(6,.int .i64 ((o.getD m:Nat):Int))]++(match o with | none=>[] | some _=>[(28,.bool false)]),Blk.var false [dv,.int .i64 kk,.int .i64 kv,.str knm,pv,av]::T)):=by
 cases o with
 | none=>simp [Tryz.f19,sub,ixI,hla]
 | some j=>
  have hnj:¬ ((j:Int)<0):=by omega
  simp [Tryz.f19,sub,ixI,hnj]
theorem st19D {j:Nat} {y:Int} {es:List (List AV)} {junk:List (Nat×AV)} (hel:es.length=N) (hj:j<N) (hge:es[j]? = some [.int .i64 y]) :
  Aa MX 19 41 (AH MX) (sub (AQ Tryz.f19 0) [1,0,0,1,1]) ((1,.hp 0 0)::(3,.hs 1 N 1 0 N false)::(4,w)::(5,.int .i64 i)::(6,.int .i64 j)::junk,[B,.arr 1 false es])=some (.nrm,([(1,.hp 0 0),(3,.hs 1 N 1 0 N false),(4,w),(5,.int .i64 i)],[B,.arr 1 false (es.set j [.int .i64 (wr .i64 (y+1))])])):=by
 have hix:∀ kd,ixA 1 (.hs 1 N 1 0 N false) (.int kd (j:Int))=some (.ep 1 N 1 j 0):=fun kd=>by
  rw [A7 (kd:=kd) (hi:=hj),Nat.zero_add]
 simp [Tryz.f19,sub,hix,hel,hge]
theorem st19E {n:Nat} (hi:i<n) (hn:n<1048577) :
  Aa MX 19 41 (AH MX) (sub (AQ Tryz.f19 0) [1,1]) ([(1,.hp 0 0),(3,v),(4,w),(5,.int .i64 i)],T)=some (.nrm,([(1,.hp 0 0),(3,v),(4,w),(5,.int .i64 ((i+1:Nat):Int))],T)):=by
 have hw:=AX hi hn
 simp [Tryz.f19,sub,hw]
end
section
variable {k:C0} {xs:List AV} (hx:C1 k xs) (hsk:SmT 1048577 k)
include hx hsk
theorem c19 (hE:(Ak k.data k.ty k.arms).2=0) (h:AE):AK MX (AH MX) 19 [.agg xs] h=some (.ret (.sl 1 false (ints (FM k))),h):=by
 have h1:Cx k.data k.ty=0:=(Gm hE).1
 have hle:=IK hsk.1 hsk.2.1 h1
 obtain ⟨hw,_,_,_⟩:=H4 hsk hE
 obtain ⟨w,hwv,h38⟩:=c38 hx hsk hE
 have hbf:=Ni
 simp [BD,BP,Tryz.f19] at hbf
 have hxn:AG xs=true:=by obtain ⟨dv,pv,av,rfl,hd,hp,ht,ha⟩:=hx.dest;simp [AV.AD,AG,hd.AD,hp.AD,ha.AD]
 obtain ⟨dv,pv,av,rfl,hd,hp,ht,ha⟩:=hx.dest
 obtain ⟨s1,s2,s3,s4⟩:=hsk
 have hms:=Xa (k.arms.length+1) (by have:=(Gm hE).2.2.1;omega)
 obtain ⟨Z,hZ⟩:∃ Z:List Int,Z=List.replicate (k.arms.length+1) 0:=⟨_,rfl⟩
 have hrep:List.replicate (k.arms.length+1) [AV.int .i64 0]=ints Z:=by rw [hZ];simp [ints]
 rw [hrep] at hms
 have hN:wr .i64 ((k.arms.length:Int)+1)=((k.arms.length+1:Nat):Int):=BI (by omega) (by omega)
 obtain ⟨N,hNN⟩:∃ N,N=k.arms.length+1:=⟨_,rfl⟩
 obtain ⟨L,hL⟩:∃ L,L=BJ (BQ k.data k.ty):=⟨_,rfl⟩
 rw [← hL] at hwv hle
 have hfold:FM k=L.foldl (fun b u=>DW b (some (Ha k u))) Z:=by rw [hL,hZ];rfl
 obtain ⟨e,st,hlp,hq⟩:=AR (M:=MX) (fid:=19) (N:=41) (C:=AH MX) (c:=AQ Tryz.f19 0) (n:=L.length)
  (fun i (b:List Int)=>([(1,.hp 0 0),(3,.hs 1 N 1 0 N false),(4,w),(5,.int .i64 i)],[Blk.var false (tcs k dv pv av),.arr 1 false (ints b)]))
  (fun i b=>b.length=N∧b=(L.take i).foldl (fun b u=>DW b (some (Ha k u))) Z)
  (fun r=>r=(.ext 0,([(1,.hp 0 0),(3,.hs 1 N 1 0 N false),(4,w),(5,.int .i64 L.length),(17,.bool false)],[Blk.var false (tcs k dv pv av),.arr 1 false (ints (FM k))]))) (fun i b hi hI=>by
    obtain ⟨i1,i2⟩:=hI
    have hi':=AY hi
    have hwr:=AX hi (show L.length<1048577 by omega)
    obtain ⟨e,he,hR⟩:=hwv.ix hi
    have h23:=c23 ha s3 s4 hR
    obtain ⟨qe,rfl,hqe⟩:=hR.AW
    have hj:Ha k L[i]<N:=by rw [hNN];exact Qj _ _
    have hjb:Ha k L[i]<b.length:=by omega
    have hil:(ints b).length=N:=by simp [ints,i1]
    obtain ⟨y,hy⟩:∃ y,b[Ha k L[i]]? = some y:=⟨_,List.getElem?_eq_getElem hjb⟩
    have hge:(ints b)[Ha k L[i]]? = some [.int .i64 y]:=by simp [ints,hy]
    have hset:(ints b).set (Ha k L[i]) [.int .i64 (wr .i64 (y+1))]=ints (DW b (some (Ha k L[i]))):=by
     simp [ints,DW,hy,List.map_set,List.getD_eq_getElem?_getD]
    have hnext:DW b (some (Ha k L[i]))=(L.take (i+1)).foldl (fun b u=>DW b (some (Ha k u))) Z:=by
     rw [← Bf hi,List.foldl_append,← i2];rfl
    refine .inl ⟨DW b (some (Ha k L[i])),?_,by rw [HH];exact i1,hnext⟩
    have hD:=fun junk=>st19D (w:=w) (i:=i) (B:=Blk.var false (tcs k dv pv av)) (junk:=junk) hil hj hge
    rw [hset] at hD
    rw [Y4]
    have hC:=st19C (i:=i) (w:=w) (v:=.hs 1 N 1 0 N false) (T:=[.arr 1 false (ints b)]) (dv:=dv) (pv:=pv) (kk:=k.ty.k) (kv:=k.ty.v) (knm:=k.ty.nm) ha.len (k.arms.findIdx? fun p=>CF p L[i])
    exact DG (st19A hwv.len hi) (DG (Jf (DG (st19B ha.AD rfl rfl hqe.AD he h23) (DG hC (hD _)))) (st19E hi (show L.length<1048577 by omega)))) (fun b hI=>by
    obtain ⟨i1,i2⟩:=hI
    rw [List.take_length,← hfold] at i2
    subst i2
    exact ⟨_,_,by simp [Tryz.f19,hwv.len] <;> first | exact ⟨rfl,rfl⟩ | rfl,by simp,rfl⟩) Z ⟨by rw [hZ,hNN];simp,by simp⟩
 cases hq
 simp [Tryz.f19] at hlp
 have hil:(ints (FM k)).length=N:=by simp [ints,H5,hNN]
 have hnr:(ints (FM k)).all AG=true:=by
  rw [List.all_eq_true]
  intro e he
  simp only [ints,List.mem_map] at he
  obtain ⟨z,_,rfl⟩:=he
  rfl
 have hsn:A1 1 (.hs 1 N 1 0 N false) [Blk.var false (tcs k dv pv av),.arr 1 false (ints (FM k))] (.sl 1 false (ints (FM k))) [Blk.var false (tcs k dv pv av),.arr 1 true (ints (FM k))]:=fun n=>by
  have hb:(Nat.beq (ints (FM k)).length N&&Nat.beq 1 1&&Nat.ble (0+N) (ints (FM k)).length&&(ints (FM k)).all AG)=true:=by
   rw [hnr,hil];simp [A2,BC]
  simp [Am.snap,hb,← hil,hnr]
 have hZl:(ints Z).length=N:=by rw [hZ,hNN];simp [ints]
 rw [← hNN] at hms hN
 have hms1:∀ h,Dp MX.ty 39 (.int .i64 (N:Int)) (.int .i64 (N:Int)) h=some (.hs h.length N 1 0 N false,h++[.arr 1 false (ints Z)]):=fun h=>by rw [hms h,Aw,hZl]
 have q1:Aa MX 19 41 (AH MX) (sub Ee [0]) (Tm.init 0 [.agg (tcs k dv pv av)],[])=some (.nrm,([(1,.hp 0 0)],[Blk.var false (tcs k dv pv av)])):=by simp [Tryz.f19,Ee,sub]
 have q2:Aa MX 19 41 (AH MX) (sub Ee [1,0]) ([(1,.hp 0 0)],[Blk.var false (tcs k dv pv av)])=some (.nrm,([(1,.hp 0 0),(3,.hs 1 N 1 0 N false)],[Blk.var false (tcs k dv pv av),.arr 1 false (ints Z)])):=by
  exact st19Z ha.len hN hms1
 have q3:Aa MX 19 41 (AH MX) (sub Ee [1,1,0]) ([(1,.hp 0 0),(3,.hs 1 N 1 0 N false)],[Blk.var false (tcs k dv pv av),.arr 1 false (ints Z)])=some (.nrm,([(1,.hp 0 0),(3,.hs 1 N 1 0 N false),(4,w)],[Blk.var false (tcs k dv pv av),.arr 1 false (ints Z)])):=by
  simp [Tryz.f19,Ee,sub,h38]
 have q4:Aa MX 19 41 (AH MX) (sub Ee [1,1,1]) ([(1,.hp 0 0),(3,.hs 1 N 1 0 N false),(4,w)],[Blk.var false (tcs k dv pv av),.arr 1 false (ints Z)])=some (.ret,([(2,.hs 1 N 1 0 N false)],[Blk.var false (tcs k dv pv av),.arr 1 false (ints (FM k))])):=by
  simp [Tryz.f19,Ee,sub,hlp]
 have q5:Aa MX 19 41 (AH MX) Ee (Tm.init 0 [.agg (tcs k dv pv av)],[])=some (.ret,([(2,.hs 1 N 1 0 N false)],[Blk.var false (tcs k dv pv av),.arr 1 false (ints (FM k))])):=by
  rw [Rj];exact DG q1 (DG q2 (DG q3 q4))
 exact HY U8 Xz (by simp [AV.AD,hxn]) rfl (hsn.at (by decide)) rfl (hr:=_) (run19 q5) h
end
noncomputable def Dm:Code:=Tryz.f3.body.getD .skip
noncomputable def hd3 (n:Nat):Code:=sub Dm (List.replicate n 1++[0])
theorem Ua:Dm=.seq (hd3 0) (.seq (hd3 1) (.seq (hd3 2) (.seq (hd3 3) (.seq (hd3 4) (.seq (hd3 5) (.seq (hd3 6) (.seq (hd3 7) (.seq (hd3 8) (.seq (hd3 9) (.seq (hd3 10) (.seq (hd3 11) (.seq (hd3 12) (.seq (hd3 13) (.seq (hd3 14) (.seq (hd3 15) (.seq (hd3 16) (.seq (hd3 17) (sub Dm (List.replicate 18 1))))))))))))))))))):=rfl
theorem run3 {a:AV} {H:AE} (h:Aa MX 3 181 (AH MX) Dm (Tm.init 0 [a],[])=some (.ret,([(2,.bool true)],H))):AN MX 3 [a] []=some (.ret (.bool true),H):=by
 have hb:Tryz.f3.body=some Dm:=rfl
 have hn:Tryz.f3.ntmps=181:=rfl
 have hr:Tryz.f3.results = #[.tmp 2]:=rfl
 simp only [AN,fn_3,hb,hn,h]
 simp [hr]
section
variable {dv pv av:AV} {kk kv:Int} {knm:Bytes} {R:AE}
theorem s3_0:Aa MX 3 181 (AH MX) (hd3 0) (Tm.init 0 [(AV.agg [dv,AV.int IntKind.i64 kk,AV.int IntKind.i64 kv,AV.str knm,pv,av])],[])=some (.nrm,([(1,.hp 0 0)],[(Blk.var false [dv,AV.int IntKind.i64 kk,AV.int IntKind.i64 kv,AV.str knm,pv,av])])):=by
 simp [Tryz.f3,hd3,Dm,sub,List.replicate]
theorem s3_1 {H:AE}:Aa MX 3 181 (AH MX) (hd3 1) ([(1,.hp 0 0)],H)=some (.nrm,([(1,.hp 0 0),(16,.bool false)],H)):=by
 simp [Tryz.f3,hd3,Dm,sub,List.replicate,UW,Gi,IM]
theorem s3_2 {b:Bool} (h11:∀ h,AK MX (AH MX) 11 [(AV.agg [dv,AV.int IntKind.i64 kk,AV.int IntKind.i64 kv,AV.str knm,pv,av])] h=some (.ret (.bool b),h)):Aa MX 3 181 (AH MX) (hd3 2) ([(1,.hp 0 0),(16,.bool false)],(Blk.var false [dv,AV.int IntKind.i64 kk,AV.int IntKind.i64 kv,AV.str knm,pv,av])::R)=some (match b with
  | false=>(.ret,([(2,.bool true)],(Blk.var false [dv,AV.int IntKind.i64 kk,AV.int IntKind.i64 kv,AV.str knm,pv,av])::R))
  | true=>(.nrm,([(1,.hp 0 0),(19,.bool false)],(Blk.var false [dv,AV.int IntKind.i64 kk,AV.int IntKind.i64 kv,AV.str knm,pv,av])::R))):=by
 cases b <;> simp [Tryz.f3,hd3,Dm,sub,List.replicate,h11]
theorem s3_3 {d:Int} (h12:∀ h,AK MX (AH MX) 12 [(AV.agg [dv,AV.int IntKind.i64 kk,AV.int IntKind.i64 kv,AV.str knm,pv,av])] h=some (.ret (.int .i64 d),h)):Aa MX 3 181 (AH MX) (hd3 3) ([(1,.hp 0 0),(19,.bool false)],(Blk.var false [dv,AV.int IntKind.i64 kk,AV.int IntKind.i64 kv,AV.str knm,pv,av])::R)=some (.nrm,([(1,.hp 0 0),(3,.int .i64 d)],(Blk.var false [dv,AV.int IntKind.i64 kk,AV.int IntKind.i64 kv,AV.str knm,pv,av])::R)):=by
 simp [Tryz.f3,hd3,Dm,sub,List.replicate,h12]
theorem s3_4 {d:Int} {b:Bool} (h13:d=0→∀ h,AK MX (AH MX) 13 [(AV.agg [dv,AV.int IntKind.i64 kk,AV.int IntKind.i64 kv,AV.str knm,pv,av])] h=some (.ret (.bool b),h)):Aa MX 3 181 (AH MX) (hd3 4) ([(1,.hp 0 0),(3,.int .i64 d)],(Blk.var false [dv,AV.int IntKind.i64 kk,AV.int IntKind.i64 kv,AV.str knm,pv,av])::R)=some (if d=0∧b=false then (.ret,([(2,.bool true)],(Blk.var false [dv,AV.int IntKind.i64 kk,AV.int IntKind.i64 kv,AV.str knm,pv,av])::R)) else (.nrm,([(1,.hp 0 0),(3,.int .i64 d),(28,.bool false)],(Blk.var false [dv,AV.int IntKind.i64 kk,AV.int IntKind.i64 kv,AV.str knm,pv,av])::R))):=by
 by_cases hd:d=0
 ·subst hd
  have h13:=h13 rfl
  cases b <;> simp [Tryz.f3,hd3,Dm,sub,List.replicate,h13]
 ·have hdb:(d == 0)=false:=by simp [hd]
  rw [if_neg (fun h=>hd h.1)]
  simp [Tryz.f3,hd3,Dm,sub,List.replicate,hdb]
variable {d e f g:Int} {O ys:List AV} {Y Y':AE} {p:Nat} {u n w:AV}
theorem s3_5 {vn:Bytes} {vv:Int} {vp:AV} (hvc:vp.cells=some [vp]) (h15:AK MX (AH MX) 15 [(AV.agg [dv,AV.int IntKind.i64 kk,AV.int IntKind.i64 kv,AV.str knm,pv,av])] ((Blk.var false [dv,AV.int IntKind.i64 kk,AV.int IntKind.i64 kv,AV.str knm,pv,av])::R)=some (.ret (.agg O),(Blk.var false [dv,AV.int IntKind.i64 kk,AV.int IntKind.i64 kv,AV.str knm,pv,av])::R++Y)) (h14:AK MX (AH MX) 14 [.agg O] ((Blk.var false [dv,AV.int IntKind.i64 kk,AV.int IntKind.i64 kv,AV.str knm,pv,av])::R++Y)=some (.ret (.tup [.agg [.str vn,.int .i64 vv,vp],.int .i64 e]),(Blk.var false [dv,AV.int IntKind.i64 kk,AV.int IntKind.i64 kv,AV.str knm,pv,av])::R++Y')) :
  Aa MX 3 181 (AH MX) (hd3 5) ([(1,.hp 0 0),(3,.int .i64 d),(28,.bool false)],(Blk.var false [dv,AV.int IntKind.i64 kk,AV.int IntKind.i64 kv,AV.str knm,pv,av])::R)=some (.nrm,([(1,.hp 0 0),(3,.int .i64 d),(4,.hp (R++Y').length.succ 0),(5,.int .i64 e)],(Blk.var false [dv,AV.int IntKind.i64 kk,AV.int IntKind.i64 kv,AV.str knm,pv,av])::(R++Y'++[.var false [.str vn,.int .i64 vv,vp]]))):=by
 simp only [List.cons_append] at h15 h14
 simp [Tryz.f3,hd3,Dm,sub,List.replicate,h15,h14,hvc]
theorem s3_6 (h15:AK MX (AH MX) 15 [(AV.agg [dv,AV.int IntKind.i64 kk,AV.int IntKind.i64 kv,AV.str knm,pv,av])] ((Blk.var false [dv,AV.int IntKind.i64 kk,AV.int IntKind.i64 kv,AV.str knm,pv,av])::R)=some (.ret (.agg O),(Blk.var false [dv,AV.int IntKind.i64 kk,AV.int IntKind.i64 kv,AV.str knm,pv,av])::R++Y)) (h16:AK MX (AH MX) 16 [.agg O] ((Blk.var false [dv,AV.int IntKind.i64 kk,AV.int IntKind.i64 kv,AV.str knm,pv,av])::R++Y)=some (.ret (.tup [u,.int .i64 f]),(Blk.var false [dv,AV.int IntKind.i64 kk,AV.int IntKind.i64 kv,AV.str knm,pv,av])::R++Y')) :
  Aa MX 3 181 (AH MX) (hd3 6) ([(1,.hp 0 0),(3,.int .i64 d),(4,.hp p 0),(5,.int .i64 e)],(Blk.var false [dv,AV.int IntKind.i64 kk,AV.int IntKind.i64 kv,AV.str knm,pv,av])::R)=some (.nrm,([(1,.hp 0 0),(3,.int .i64 d),(4,.hp p 0),(5,.int .i64 e),(6,u),(7,.int .i64 f)],(Blk.var false [dv,AV.int IntKind.i64 kk,AV.int IntKind.i64 kv,AV.str knm,pv,av])::(R++Y'))):=by
 simp only [List.cons_append] at h15 h16
 simp [Tryz.f3,hd3,Dm,sub,List.replicate,h15,h16]
theorem s3_7 (h15:AK MX (AH MX) 15 [(AV.agg [dv,AV.int IntKind.i64 kk,AV.int IntKind.i64 kv,AV.str knm,pv,av])] ((Blk.var false [dv,AV.int IntKind.i64 kk,AV.int IntKind.i64 kv,AV.str knm,pv,av])::R)=some (.ret (.agg O),(Blk.var false [dv,AV.int IntKind.i64 kk,AV.int IntKind.i64 kv,AV.str knm,pv,av])::R++Y)) (h17:AK MX (AH MX) 17 [.agg O] ((Blk.var false [dv,AV.int IntKind.i64 kk,AV.int IntKind.i64 kv,AV.str knm,pv,av])::R++Y)=some (.ret (.tup [n,.int .i64 g]),(Blk.var false [dv,AV.int IntKind.i64 kk,AV.int IntKind.i64 kv,AV.str knm,pv,av])::R++Y')) :
  Aa MX 3 181 (AH MX) (hd3 7) ([(1,.hp 0 0),(3,.int .i64 d),(4,.hp p 0),(5,.int .i64 e),(6,u),(7,.int .i64 f)],(Blk.var false [dv,AV.int IntKind.i64 kk,AV.int IntKind.i64 kv,AV.str knm,pv,av])::R)=some (.nrm,([(1,.hp 0 0),(3,.int .i64 d),(4,.hp p 0),(5,.int .i64 e),(6,u),(7,.int .i64 f),(8,n),(9,.int .i64 g)],(Blk.var false [dv,AV.int IntKind.i64 kk,AV.int IntKind.i64 kv,AV.str knm,pv,av])::(R++Y'))):=by
 simp only [List.cons_append] at h15 h17
 simp [Tryz.f3,hd3,Dm,sub,List.replicate,h15,h17]
theorem s3_8a {a1 a2 a3:AV} (hd:d≠0) (hn1:a1.AD=true) (hn2:a2.AD=true) (hn3:a3.AD=true) (hp:((Blk.var false [dv,AV.int IntKind.i64 kk,AV.int IntKind.i64 kv,AV.str knm,pv,av])::R)[p]? = some (.var false [a1,a2,a3])) (h18:∀ h,AK MX (AH MX) 18 [.agg [a1,a2,a3],.agg [.str [],.int .i64 0,.AI]] h=some (.ret (.bool true),h)) (hu:SlR FB 1 [] u) :
  Aa MX 3 181 (AH MX) (hd3 8) ([(1,.hp 0 0),(3,.int .i64 d),(4,.hp p 0),(5,.int .i64 d),(6,u),(7,.int .i64 d),(8,.AI),(9,.int .i64 d)],(Blk.var false [dv,AV.int IntKind.i64 kk,AV.int IntKind.i64 kv,AV.str knm,pv,av])::R)=some (.ret,([(2,.bool true)],(Blk.var false [dv,AV.int IntKind.i64 kk,AV.int IntKind.i64 kv,AV.str knm,pv,av])::R)):=by
 have hdb:(d != 0)=true:=by simp [hd]
 have hul:∀ h,CE u h=some (.val (.int .i64 0) h):=fun h=>by simpa using hu.len h
 simp [Tryz.f3,hd3,Dm,sub,List.replicate,hdb,hp,h18,hul,hu.Ds,AG,AV.AD,hn1,hn2,hn3]
theorem s3_8b:Aa MX 3 181 (AH MX) (hd3 8) ([(1,.hp 0 0),(3,.int .i64 0),(4,.hp p 0),(5,.int .i64 e),(6,u),(7,.int .i64 f),(8,n),(9,.int .i64 g)],(Blk.var false [dv,AV.int IntKind.i64 kk,AV.int IntKind.i64 kv,AV.str knm,pv,av])::R)=some (.nrm,([(1,.hp 0 0),(3,.int .i64 0),(4,.hp p 0),(5,.int .i64 e),(6,u),(7,.int .i64 f),(8,n),(9,.int .i64 g),(48,.bool false)],(Blk.var false [dv,AV.int IntKind.i64 kk,AV.int IntKind.i64 kv,AV.str knm,pv,av])::R)):=by
 simp [Tryz.f3,hd3,Dm,sub,List.replicate]
theorem s3_9 (h19:∀ h,AK MX (AH MX) 19 [(AV.agg [dv,AV.int IntKind.i64 kk,AV.int IntKind.i64 kv,AV.str knm,pv,av])] h=some (.ret w,h)):Aa MX 3 181 (AH MX) (hd3 9) ([(1,.hp 0 0),(3,.int .i64 0),(4,.hp p 0),(5,.int .i64 e),(6,u),(7,.int .i64 f),(8,n),(9,.int .i64 g),(48,.bool false)],(Blk.var false [dv,AV.int IntKind.i64 kk,AV.int IntKind.i64 kv,AV.str knm,pv,av])::R)=some (.nrm,([(1,.hp 0 0),(4,.hp p 0),(5,.int .i64 e),(6,u),(7,.int .i64 f),(8,n),(9,.int .i64 g),(10,w)],(Blk.var false [dv,AV.int IntKind.i64 kk,AV.int IntKind.i64 kv,AV.str knm,pv,av])::R)):=by
 simp [Tryz.f3,hd3,Dm,sub,List.replicate,h19]
theorem s3_10 {m:Nat} {w2:AV} (hal:∀ h,CE av h=some (.val (.int .i64 m) h)) (hsl:slA 1 w none (some (.int .i64 m)) none=some w2) (hn:n.AD=true) (hw2:w2.AD=true) (h20:∀ h,AK MX (AH MX) 20 [n,w2] h=some (.ret (.bool true),h)) :
  Aa MX 3 181 (AH MX) (hd3 10) ([(1,.hp 0 0),(4,.hp p 0),(5,.int .i64 e),(6,u),(7,.int .i64 0),(8,n),(9,.int .i64 0),(10,w)],(Blk.var false [dv,AV.int IntKind.i64 kk,AV.int IntKind.i64 kv,AV.str knm,pv,av])::R)=some (.nrm,([(1,.hp 0 0),(4,.hp p 0),(5,.int .i64 e),(6,u),(8,n),(10,w),(94,.bool false)],(Blk.var false [dv,AV.int IntKind.i64 kk,AV.int IntKind.i64 kv,AV.str knm,pv,av])::R)):=by
 simp [Tryz.f3,hd3,Dm,sub,List.replicate,hal,hsl,h20,hn,hw2]
theorem s3_11:Aa MX 3 181 (AH MX) (hd3 11) ([(1,.hp 0 0),(4,.hp p 0),(5,.int .i64 e),(6,u),(8,n),(10,w),(94,.bool false)],(Blk.var false [dv,AV.int IntKind.i64 kk,AV.int IntKind.i64 kv,AV.str knm,pv,av])::R)=some (.nrm,([(1,.hp 0 0),(4,.hp p 0),(5,.int .i64 e),(6,u),(8,n),(10,w),(11,.AI)],(Blk.var false [dv,AV.int IntKind.i64 kk,AV.int IntKind.i64 kv,AV.str knm,pv,av])::R)):=by
 simp [Tryz.f3,hd3,Dm,sub,List.replicate]
theorem s3_12:Aa MX 3 181 (AH MX) (hd3 12) ([(1,.hp 0 0),(4,.hp p 0),(5,.int .i64 e),(6,u),(8,n),(10,w),(11,.AI)],(Blk.var false [dv,AV.int IntKind.i64 kk,AV.int IntKind.i64 kv,AV.str knm,pv,av])::R)=some (.nrm,([(1,.hp 0 0),(4,.hp p 0),(5,.int .i64 e),(6,u),(8,n),(10,w),(11,.AI),(12,.int .i64 0)],(Blk.var false [dv,AV.int IntKind.i64 kk,AV.int IntKind.i64 kv,AV.str knm,pv,av])::R)):=by
 simp [Tryz.f3,hd3,Dm,sub,List.replicate]
theorem s3_13 {l:List Int} (hn:SlR FB 1 l n) (hl:l.length<1048577) (hs:∀ i,i≤l.length→0≤(l.take i).sum∧(l.take i).sum<1000000000) :
  ∃ a rest es,Af 1 ((Blk.var false [dv,AV.int IntKind.i64 kk,AV.int IntKind.i64 kv,AV.str knm,pv,av])::R).length rest a es∧es.length=(zs l l.length).length∧(∀ (j:Nat) t e,(zs l l.length)[j]? = some t→es[j]? = some e→FB t e) ∧
   Aa MX 3 181 (AH MX) (hd3 13) ([(1,.hp 0 0),(4,.hp p 0),(5,.int .i64 e),(6,u),(8,n),(10,w),(11,.AI),(12,.int .i64 0)],(Blk.var false [dv,AV.int IntKind.i64 kk,AV.int IntKind.i64 kv,AV.str knm,pv,av])::R)=some (.nrm,([(1,.hp 0 0),(4,.hp p 0),(5,.int .i64 e),(6,u),(8,n),(10,w),(11,a),(12,.int .i64 l.sum),(13,.int .i64 l.length),(98,.bool false)],(Blk.var false [dv,AV.int IntKind.i64 kk,AV.int IntKind.i64 kv,AV.str knm,pv,av])::(R++rest))):=by
 obtain ⟨e',st,hlp,hq⟩:=AR (M:=MX) (fid:=3) (N:=181) (C:=AH MX) (c:=AQ Tryz.f3 0) (n:=l.length)
  (fun i (b:AV×AE×List (List AV)×Int)=>([(1,.hp 0 0),(4,.hp p 0),(5,.int .i64 e),(6,u),(8,n),(10,w),(11,b.1),(12,.int .i64 b.2.2.2),(13,.int .i64 i)],(Blk.var false [dv,AV.int IntKind.i64 kk,AV.int IntKind.i64 kv,AV.str knm,pv,av])::(R++b.2.1)))
  (fun i b=>Af 1 ((Blk.var false [dv,AV.int IntKind.i64 kk,AV.int IntKind.i64 kv,AV.str knm,pv,av])::R).length b.2.1 b.1 b.2.2.1∧b.2.2.1.length=(zs l i).length∧(∀ (j:Nat) t e,(zs l i)[j]? = some t→b.2.2.1[j]? = some e→FB t e)∧b.2.2.2=(l.take i).sum)
  (fun r=>∃ b:AV×AE×List (List AV)×Int,r=(.ext 0,([(1,.hp 0 0),(4,.hp p 0),(5,.int .i64 e),(6,u),(8,n),(10,w),(11,b.1),(12,.int .i64 b.2.2.2),(13,.int .i64 l.length),(98,.bool false)],(Blk.var false [dv,AV.int IntKind.i64 kk,AV.int IntKind.i64 kv,AV.str knm,pv,av])::(R++b.2.1)))∧Af 1 ((Blk.var false [dv,AV.int IntKind.i64 kk,AV.int IntKind.i64 kv,AV.str knm,pv,av])::R).length b.2.1 b.1 b.2.2.1∧b.2.2.1.length=(zs l l.length).length∧(∀ (j:Nat) t e,(zs l l.length)[j]? = some t→b.2.2.1[j]? = some e→FB t e)∧b.2.2.2=l.sum) (fun i b hi hI=>by
    obtain ⟨a,rest,es,s⟩:=b
    obtain ⟨i1,i2,i3,i4⟩:=hI
    simp only at i1 i2 i3 i4
    have hi':=AY hi
    have hwr:=AX hi hl
    obtain ⟨e,he,hR⟩:=hn.ix hi
    subst hR
    have hg:l.getD i 0=l[i]:=by simp [hi]
    obtain ⟨y,hy⟩:∃ y,y=l[i]:=⟨_,rfl⟩
    have hsn:s+y=(l.take (i+1)).sum:=by rw [← Bf hi,List.sum_append,i4,hy];simp
    have hb:=hs (i+1) (by omega)
    rw [← hsn] at hb
    have hadd:wr .i64 (s+y)=s+y:=BI hb.1 (by omega)
    rw [← hy] at he hg
    cases hz:y == 0 with
    | true=>
     have hz':zs l (i+1)=zs l i++[(i:Int)]:=by rw [KC,hg,if_pos hz]
     obtain ⟨a',rest',hap,hacc⟩:=Af.push (byt:=8) (P:=(Blk.var false [dv,AV.int IntKind.i64 kk,AV.int IntKind.i64 kv,AV.str knm,pv,av])::R) [.int .i64 (i:Int)] true i1 (by decide) (by decide) (by have:=PW l i;omega)
     obtain ⟨j1,j2⟩:=D6 i2 i3 (show FB (i:Int) [.int .i64 (i:Int)] from rfl)
     simp only [List.cons_append] at hap
     exact .inl ⟨(a',rest',es++[[.int .i64 (i:Int)]],s+y),by simp [Tryz.f3,hn.len,hi',he,hwr,hz,hadd,hap,bsA,Ar,List.replicate,AG,AV.AD],hacc,by rw [hz'];exact j1,by rw [hz'];exact j2,hsn⟩
    | false=>
     have hz':zs l (i+1)=zs l i:=by rw [KC,hg,if_neg (by rw [hz];decide)]
     exact .inl ⟨(a,rest,es,s+y),by simp [Tryz.f3,hn.len,hi',he,hwr,hz,hadd],i1,by rw [hz'];exact i2,by rw [hz'];exact i3,hsn⟩) (fun b hI=>by
    obtain ⟨a,rest,es,s⟩:=b
    obtain ⟨i1,i2,i3,i4⟩:=hI
    rw [List.take_length] at i4
    exact ⟨_,_,by simp [Tryz.f3,hn.len] <;> first | exact ⟨rfl,rfl⟩ | rfl,by simp,(a,rest,es,s),rfl,i1,i2,i3,i4⟩) (.AI,[],[],0) ⟨Af.nil _ _ _,rfl,fun j t e h=>by simp [zs] at h,by simp⟩
 obtain ⟨⟨a,rest,es,s⟩,hq,q1,q2,q3,q4⟩:=hq
 simp only at q1 q2 q3 q4 hq
 subst q4
 cases hq
 simp [Tryz.f3] at hlp
 refine ⟨a,rest,es,q1,q2,q3,?_⟩
 simp [Tryz.f3,hd3,Dm,sub,List.replicate,hlp]
end
section
variable {dv pv av:AV} {kk kv:Int} {knm:Bytes} {R:AE}
variable {d e f g s:Int} {p:Nat} {u n w a a1 a2 a3:AV} {H H':AE}
theorem s3_14 {m:Nat} (h20:AK MX (AH MX) 20 [u,a] H=some (.ret (.bool true),H')) :
  Aa MX 3 181 (AH MX) (hd3 14) ([(1,.hp 0 0),(4,.hp p 0),(5,.int .i64 e),(6,u),(8,n),(10,w),(11,a),(12,.int .i64 s),(13,.int .i64 m),(98,.bool false)],H)=some (.nrm,([(1,.hp 0 0),(4,.hp p 0),(5,.int .i64 e),(10,w),(12,.int .i64 s),(119,.bool false)],H')):=by
 simp [Tryz.f3,hd3,Dm,sub,List.replicate,h20]
theorem Y5 {m:Nat} (hal:∀ h,CE av h=some (.val (.int .i64 m) h)) (hix:ixA 1 w (.int .i64 m)=some (.ro [.int .i64 0])) (hdc:dv.AD=true) (hpn:pv.AD=true) (hn1:a1.AD=true) (hn2:a2.AD=true) (hn3:a3.AD=true) (hp:((Blk.var false [dv,AV.int IntKind.i64 kk,AV.int IntKind.i64 kv,AV.str knm,pv,av])::R)[p]? = some (.var false [a1,a2,a3])) (h18:∀ h,AK MX (AH MX) 18 [.agg [a1,a2,a3],.agg [.str [],.int .i64 0,.AI]] h=some (.ret (.bool true),h)) (h21:∀ h,AK MX (AH MX) 21 [dv,(AV.agg [AV.int IntKind.i64 kk,AV.int IntKind.i64 kv,AV.str knm,pv])] h=some (.ret (.int .i64 s),h)) :
  Aa MX 3 181 (AH MX) (hd3 15) ([(1,.hp 0 0),(4,.hp p 0),(5,.int .i64 12),(10,w),(12,.int .i64 s),(119,.bool false)],(Blk.var false [dv,AV.int IntKind.i64 kk,AV.int IntKind.i64 kv,AV.str knm,pv,av])::R)=some (.ret,([(2,.bool true)],(Blk.var false [dv,AV.int IntKind.i64 kk,AV.int IntKind.i64 kv,AV.str knm,pv,av])::R)):=by
 simp [Tryz.f3,hd3,Dm,sub,List.replicate,hal,hix,hp,h18,h21,AG,AV.AD,hdc,hpn,hn1,hn2,hn3]
theorem Y6 {m:Nat} {z:Int} (hz:z≠0) (hal:∀ h,CE av h=some (.val (.int .i64 m) h)) (hix:ixA 1 w (.int .i64 m)=some (.ro [.int .i64 z])) :
  Aa MX 3 181 (AH MX) (hd3 15) ([(1,.hp 0 0),(4,.hp p 0),(5,.int .i64 e),(10,w),(12,.int .i64 s),(119,.bool false)],(Blk.var false [dv,AV.int IntKind.i64 kk,AV.int IntKind.i64 kv,AV.str knm,pv,av])::R)=some (.nrm,([(1,.hp 0 0),(4,.hp p 0),(5,.int .i64 e),(12,.int .i64 s),(126,.bool false)],(Blk.var false [dv,AV.int IntKind.i64 kk,AV.int IntKind.i64 kv,AV.str knm,pv,av])::R)):=by
 have hzb:(z == 0)=false:=by simp [hz]
 simp [Tryz.f3,hd3,Dm,sub,List.replicate,hal,hix,hzb]
theorem s3_16 (hdc:dv.AD=true) (hpn:pv.AD=true) (han:av.AD=true) (hn1:a1.AD=true) (hn2:a2.AD=true) (hn3:a3.AD=true) (hp:((Blk.var false [dv,AV.int IntKind.i64 kk,AV.int IntKind.i64 kv,AV.str knm,pv,av])::R)[p]? = some (.var false [a1,a2,a3])) (h22:∀ h,AK MX (AH MX) 22 [dv,(AV.agg [AV.int IntKind.i64 kk,AV.int IntKind.i64 kv,AV.str knm,pv]),.agg [a1,a2,a3]] h=some (.ret (.int .i64 0),h)) (h23:∀ h,AK MX (AH MX) 23 [av,.agg [a1,a2,a3]] h=some (.ret (.int .i64 (-1)),h)) :
  Aa MX 3 181 (AH MX) (hd3 16) ([(1,.hp 0 0),(4,.hp p 0),(5,.int .i64 0),(12,.int .i64 s),(126,.bool false)],(Blk.var false [dv,AV.int IntKind.i64 kk,AV.int IntKind.i64 kv,AV.str knm,pv,av])::R)=some (.nrm,([(1,.hp 0 0),(4,.hp p 0),(160,.bool false)],(Blk.var false [dv,AV.int IntKind.i64 kk,AV.int IntKind.i64 kv,AV.str knm,pv,av])::R)):=by
 simp [Tryz.f3,hd3,Dm,sub,List.replicate,hp,h22,h23,AG,AV.AD,hdc,hpn,han,hn1,hn2,hn3]
theorem s3_17 {L:List TyV} (hL:L.length<1048577) {j:Nat} (hj:j<L.length) (hdc:dv.AD=true) (hpn:pv.AD=true) (han:av.AD=true) (hn1:a1.AD=true) (hn2:a2.AD=true) (hn3:a3.AD=true) (hp:((Blk.var false [dv,AV.int IntKind.i64 kk,AV.int IntKind.i64 kv,AV.str knm,pv,av])::R)[p]? = some (.var false [a1,a2,a3]))
  (h24:∀ h,AK MX (AH MX) 24 [dv,(AV.agg [AV.int IntKind.i64 kk,AV.int IntKind.i64 kv,AV.str knm,pv]),.agg [a1,a2,a3]] h=some (.ret (.int .i64 j),h))
  (h25:∀ i (hi:i<L.length),∃ y1 y2 y3,y1.AD=true∧y2.AD=true∧y3.AD=true∧(∀ h,AK MX (AH MX) 25 [dv,(AV.agg [AV.int IntKind.i64 kk,AV.int IntKind.i64 kv,AV.str knm,pv]),.int .i64 i] h=some (.ret (.agg [y1,y2,y3]),h))∧(i<j→∃ m:Nat,∀ h,AK MX (AH MX) 23 [av,.agg [y1,y2,y3]] h=some (.ret (.int .i64 m),h))) :
  Aa MX 3 181 (AH MX) (hd3 17) ([(1,.hp 0 0),(4,.hp p 0),(160,.bool false)],(Blk.var false [dv,AV.int IntKind.i64 kk,AV.int IntKind.i64 kv,AV.str knm,pv,av])::R)=some (.nrm,([(1,.hp 0 0),(4,.hp p 0),(14,.int .i64 j),(168,.bool false)],(Blk.var false [dv,AV.int IntKind.i64 kk,AV.int IntKind.i64 kv,AV.str knm,pv,av])::R)):=by
 have hb:=Tg
 simp [BD,BP,Tryz.f3] at hb
 obtain ⟨e',st,hlp,hq⟩:=AR (M:=MX) (fid:=3) (N:=181) (C:=AH MX) (c:=AQ Tryz.f3 1) (n:=j)
  (fun i (_:Unit)=>([(1,.hp 0 0),(4,.hp p 0),(14,.int .i64 i)],(Blk.var false [dv,AV.int IntKind.i64 kk,AV.int IntKind.i64 kv,AV.str knm,pv,av])::R))
  (fun i _=>True)
  (fun r=>r=(.ext 2,([(1,.hp 0 0),(4,.hp p 0),(14,.int .i64 j),(168,.bool false)],(Blk.var false [dv,AV.int IntKind.i64 kk,AV.int IntKind.i64 kv,AV.str knm,pv,av])::R))) (fun i c hi hI=>by
    have hi':=AY hi
    have hwr:=AX (show i<L.length by omega) hL
    obtain ⟨y1,y2,y3,m1,m2,m3,q1,q2⟩:=h25 i (by omega)
    obtain ⟨m,q2⟩:=q2 hi
    have hnm:¬ ((m:Int)<0):=by omega
    exact .inl ⟨(),by simp [Tryz.f3,hp,h24,hi',q1,q2,hnm,hb,hwr,AG,AV.AD,hdc,hpn,han,hn1,hn2,hn3,m1,m2,m3],trivial⟩) (fun c hI=>by
    exact ⟨_,_,by simp [Tryz.f3,hp,h24,AG,AV.AD,hdc,hpn,hn1,hn2,hn3] <;> first | exact ⟨rfl,rfl⟩ | rfl,by simp,rfl⟩) () trivial
 cases hq
 simp [Tryz.f3] at hlp
 simp [Tryz.f3,hd3,Dm,sub,List.replicate,hlp]
theorem s3_18 {x y:Nat×AV} {z:Nat×AV}:Aa MX 3 181 (AH MX) (sub Dm (List.replicate 18 1)) ([(1,.hp 0 0),x,y,z],H)=some (.ret,([(2,.bool true)],H)):=by
 simp [Tryz.f3,Dm,sub,List.replicate]
end
end Go.Proofs.Am12
namespace Go.Proofs.Am12
open Go Go.Am
theorem Ww (l:List Int) (i:Nat) (x:Int) (h:i<l.length):(l.set i x).sum=l.sum - l[i]+x:=by
 induction l generalizing i with
 | nil=>simp at h
 | cons a r ih=>
  cases i with
  | zero=>simp;omega
  | succ i=>
   simp only [List.set_cons_succ,List.sum_cons,List.getElem_cons_succ]
   rw [ih i (by simpa using h)]
   omega
theorem OA {g:TyV→Option Nat} {N:Nat} (hg:∀ u j,g u=some j→j<N):∀ (l:List TyV) (b:List Int),b.length=N→(∀ x∈b,0≤x∧x+l.length<1000000)→(l.foldl (fun b u=>DW b (g u)) b).sum=b.sum+((l.filter fun u=>(g u).isSome).length:Int)∧∀ x∈l.foldl (fun b u=>DW b (g u)) b,0≤x∧x<1000000
 | [],b,_,hb=>⟨by simp,fun x hx=>by have:=hb x hx;simp at this;omega⟩
 | u::l,b,hl,hb=>by
  simp only [List.foldl_cons]
  have hb':∀ x∈DW b (g u),0≤x∧x+l.length<1000000:=fun x hx=>by
   cases ho:g u with
   | none=>
    rw [ho] at hx
    have:=hb x hx
    simp only [List.length_cons] at this
    omega
   | some j=>
    rw [ho] at hx
    have hj:j<b.length:=by rw [hl];exact hg u j ho
    rcases List.mem_or_eq_of_mem_set hx with hx | hx
    ·have:=hb x hx
     simp only [List.length_cons] at this
     omega
    ·have hg:b.getD j 0=b[j]:=by simp [hj]
     have h2:=hb _ (List.getElem_mem hj)
     simp only [List.length_cons] at h2
     rw [hg,BI (by omega) (by omega)] at hx
     subst hx
     omega
  obtain ⟨s1,s2⟩:=OA hg l _ (by rw [HH];exact hl) hb'
  refine ⟨?_,s2⟩
  rw [s1]
  cases ho:g u with
  | none=>simp [DW,ho]
  | some j=>
   have hj:j<b.length:=by rw [hl];exact hg u j ho
   have hg:b.getD j 0=b[j]:=by simp [hj]
   have h2:=hb _ (List.getElem_mem hj)
   simp only [List.length_cons] at h2
   simp only [DW,hg]
   rw [BI (by omega) (by omega),Ww b j _ hj]
   simp only [List.filter_cons,ho,Option.isSome_some,if_true,List.length_cons]
   omega
theorem OB {l:List Int} (h:∀ x∈l,0≤x∧x<1000000):∀ i,i≤l.length→0≤(l.take i).sum∧(l.take i).sum≤i * 1000000
 | 0,_=>by simp
 | i+1,hi=>by
  obtain ⟨h1,h2⟩:=OB h i (by omega)
  have hi':i<l.length:=by omega
  rw [← Bf hi',List.sum_append]
  have:=h _ (List.getElem_mem hi')
  simp only [List.sum_cons,List.sum_nil]
  omega
section
variable {k:C0} (hlen:(BJ (BQ k.data k.ty)).length≤65536)
include hlen
theorem OC:(FA k).sum=(((BJ (BQ k.data k.ty)).filter fun u=>(FL k u).isSome).length:Int)∧∀ x∈FA k,0≤x∧x<1000000:=by
 have:=OA (g:=FL k) JV (BJ (BQ k.data k.ty)) (List.replicate k.arms.length 0) (by simp) (fun x hx=>by rw [(List.mem_replicate.1 hx).2];omega)
 unfold FA
 rw [GM]
 refine ⟨?_,this.2⟩
 rw [this.1]
 simp
theorem OD {i:Nat} (hi:i<k.arms.length+1):(FM k).getD i 0=(((BJ (BQ k.data k.ty)).filter fun u=>Ha k u == i).length:Int):=by
 unfold FM
 rw [LG (g:=fun u=>some (Ha k u)) (N:=k.arms.length+1) (fun u j h=>by simp at h;rw [← h];exact Qj k u) _ _ (by simp) (fun x hx=>by rw [(List.mem_replicate.1 hx).2];omega) i hi]
 simp [hi]
theorem Rk:(FM k).take k.arms.length=FA k:=by
 have hl1:(FA k).length=k.arms.length:=by unfold FA;rw [GM,LH];simp
 apply List.ext_getElem (by rw [List.length_take,H5,hl1];omega)
 intro i h1 h2
 have hi:i<k.arms.length:=by omega
 have a:=OD hlen (i:=i) (by omega)
 have b:=UU hlen hi
 have e1:(FM k).getD i 0=(FM k)[i]'(by rw [H5];omega):=by simp [H5,show i<k.arms.length+1 by omega]
 have e2:(FA k).getD i 0=(FA k)[i]:=by simp [h2]
 rw [List.getElem_take,← e1,← e2,a,b]
 congr 2
 apply List.filter_congr
 intro u _
 unfold Ha
 cases h:FL k u with
 | none=>simp;omega
 | some j=>simp
theorem L5:(FM k).getD k.arms.length 0=(((BJ (BQ k.data k.ty)).filter (E6 k)).length:Int):=by
 rw [OD hlen (by omega)]
 congr 2
 apply List.filter_congr
 intro u _
 unfold Ha E6
 cases h:FL k u with
 | none=>have h:k.arms.findIdx? (fun p=>CF p u)=none:=h;simp [h]
 | some j=>
  have hj:=JV u j h
  have h:k.arms.findIdx? (fun p=>CF p u)=some j:=h
  simp [h];omega
theorem Mo (h:(FM k).getD k.arms.length 0=0):(BJ (BQ k.data k.ty)).find? (E6 k)=none∧(FA k).sum=((BJ (BQ k.data k.ty)).length:Int):=by
 rw [L5 hlen] at h
 have h0:(BJ (BQ k.data k.ty)).filter (E6 k)=[]:=List.eq_nil_of_length_eq_zero (by omega)
 rw [List.filter_eq_nil_iff] at h0
 refine ⟨by rw [List.find?_eq_none];exact h0,?_⟩
 rw [(OC hlen).1]
 congr 2
 rw [List.filter_eq_self]
 intro u hu
 have:=h0 u hu
 unfold E6 at this
 unfold FL
 cases h:k.arms.findIdx? (fun p=>CF p u) with
 | none=>rw [h] at this;simp at this
 | some j=>rfl
theorem Mp (h:(FM k).getD k.arms.length 0≠0):∃ (j:Nat) (hj:j<(BJ (BQ k.data k.ty)).length),(BJ (BQ k.data k.ty)).find? (E6 k)=some (BJ (BQ k.data k.ty))[j]∧FL k (BJ (BQ k.data k.ty))[j]=none∧∀ i (hi:i<j),∃ m,FL k ((BJ (BQ k.data k.ty))[i]'(by omega))=some m:=by
 rw [L5 hlen] at h
 have hf:=Qg (q:=E6 k) (BJ (BQ k.data k.ty))
 cases hx:(BJ (BQ k.data k.ty)).findIdx? (E6 k) with
 | none=>
  rw [hx] at hf
  have hf:(BJ (BQ k.data k.ty)).find? (E6 k)=none:=hf
  rw [List.find?_eq_none] at hf
  exact absurd (by rw [List.filter_eq_nil_iff.2 hf];rfl) h
 | some j=>
  rw [hx] at hf
  obtain ⟨hj,hf⟩:=hf
  obtain ⟨_,g1,g2⟩:=List.findIdx?_eq_some_iff_getElem.1 hx
  refine ⟨j,hj,hf,?_,fun i hi => ?_⟩
  ·have g1:(FL k (BJ (BQ k.data k.ty))[j]).isNone=true:=g1
   simpa using g1
  ·have:=g2 i hi
   cases h:FL k ((BJ (BQ k.data k.ty))[i]'(by omega)) with
   | none=>
    exfalso
    apply this
    show (FL k ((BJ (BQ k.data k.ty))[i]'(by omega))).isNone=true
    rw [h];rfl
   | some m=>exact ⟨m,rfl⟩
end
end Go.Proofs.Am12
namespace Go.Proofs.Am12
open Go Go.Am
attribute [local simp] Du CY EX Dv Ch Dw Dx Ew Ba BS Bg Al GC FC EK Gv D2 BA E3 EL Gw Gx xUn Er D3 FD BK DD BL D4 BM D5 Cp Cf B8 BG EM EO
 ev evs Cy DC OR.ofV OR.Dc OR.ofC FH Tm.get Tm.init Tm.only A2 BC CO finish CB Cg Gu Dn D1 unA Ca Br Cb Bs C4 C5 C6 Bt C7 C8 Bu C9 DA Bv Cc AQ CQ Bq C2 C3 CZ Ey Ez E0 Dy Dz FT F6 F7 FU stA A5 DQ B6 DE Es Gd Cd DT CS FG Ge
set_option maxHeartbeats 1000000
attribute [local simp] Dd Ck CM Bk De Df Dg Dh Di Dj Dk El DJ Em D7 Ff Fg G6 D8 En D9 Bm EA Bn EB Cl Eo DK Fh Fi Fj DL EC ED Fk G7 Fl G8 G9 EF Bo DM Cm EG EH DN
theorem DY {a b:Code} {s s':St} {l:List (Nat×AV)} (h:Aa MX 3 181 (AH MX) a s=some (.nrm,s')) (h2:∃ T,Aa MX 3 181 (AH MX) b s'=some (.ret,(l,T))):∃ T,Aa MX 3 181 (AH MX) (.seq a b) s=some (.ret,(l,T)):=by
 obtain ⟨T,h2⟩:=h2
 exact ⟨T,DG h h2⟩
theorem KE {a b:Code} {s:St} {l:List (Nat×AV)} {T:AE} (h:Aa MX 3 181 (AH MX) a s=some (.ret,(l,T))):∃ T,Aa MX 3 181 (AH MX) (.seq a b) s=some (.ret,(l,T)):=⟨T,Wg h⟩
theorem slPre {l:List Int} {m:Nat} (h:m≤l.length):slA 1 (.sl 1 false (ints l)) none (some (.int .i64 (m:Int))) none=some (.sl 1 false (ints (l.take m))):=by
 have hl:(ints l).length=l.length:=by simp [ints]
 have ht:(ints l).take m=ints (l.take m):=by simp [ints,List.map_take]
 have h1:(m:Int)≤(l.length:Int):=by omega
 simp [slA,CK,FP,Iz,Am.intOf,A2,hl,ht,h,h1]
theorem law3 {k:C0} {xs:List AV} (hx:C1 k xs) (hsk:SmT 1048577 k):∃ hr,AN MX 3 [.agg xs] []=some (.ret (.bool true),hr):=by
 have h11:=c11 hx hsk
 have h12:=c12 hx hsk
 have h13:=c13 hx hsk
 obtain ⟨xs',hx',hown⟩:=own1 hx hsk
 have h19:=c19 hx hsk
 obtain ⟨ys,hys,h14⟩:=c14 hx' hsk
 obtain ⟨u,hu,h16⟩:=c16 hx' hsk
 obtain ⟨n,hn,h17⟩:=c17 hx' hsk
 obtain ⟨dv,pv,av,rfl,hd,hp,ht,ha⟩:=hx.dest
 have hsk0:=hsk
 obtain ⟨s1,s2,s3,s4⟩:=hsk
 have hz0:A0 (.mk 0 0 [] []) [.str [],.int .i64 0,.AI]:=A0.intro (.inl ⟨rfl,rfl⟩)
 have hzs:Sm 1048577 (.mk 0 0 [] []):=.mk _ _ _ _ (by decide) (by decide) (fun p hp=>by cases hp)
 have hys0:=hys
 obtain ⟨vp,rfl,hvp⟩:=hys.AW
 have hend:∃ T,Aa MX 3 181 (AH MX) Dm (Tm.init 0 [.agg [dv,.int .i64 k.ty.k,.int .i64 k.ty.v,.str k.ty.nm,pv,av]],[])=some (.ret,([(2,.bool true)],T)):=by
  rw [Ua]
  refine DY s3_0 (DY s3_1 ?_)
  cases hS:PA k with
  | false=>
   rw [hS] at h11
   exact KE (s3_2 h11)
  | true=>
   rw [hS] at h11
   refine DY (s3_2 h11) (DY (s3_3 h12) ?_)
   have g4:=s3_4 (R:=[]) h13
   by_cases hL:(Ak k.data k.ty k.arms).2=0∧decide (cn (BQ k.data k.ty)≤300)=false
   ·rw [if_pos hL] at g4
    exact KE g4
   ·rw [if_neg hL] at g4
    refine DY g4 ?_
    obtain ⟨O1,Y1,Y1',o1,f1⟩:=hown [Blk.var false [dv,.int .i64 k.ty.k,.int .i64 k.ty.v,.str k.ty.nm,pv,av]]
    have e14:=f1 14 _ (by simp [Pj]) h14
    refine DY (s3_5 hvp.cells o1 e14) ?_
    obtain ⟨R,hR⟩:∃ R,R=[]++Y1'++[Blk.var false [.str (E2 k 1 (E6 k)).1.nm,.int .i64 (E2 k 1 (E6 k)).1.v,vp]]:=⟨_,rfl⟩
    have hp1:∀ (B:Blk) (X:AE),(B::(R++X))[([]++Y1').length.succ]? = some (.var false [.str (E2 k 1 (E6 k)).1.nm,.int .i64 (E2 k 1 (E6 k)).1.v,vp]):=fun B X=>by
     rw [hR];simp
    rw [← hR]
    obtain ⟨P,hP⟩:∃ P,P=([]++Y1').length.succ:=⟨_,rfl⟩
    rw [← hP] at hp1 ⊢
    obtain ⟨O2,Y2,Y2',o2,f2⟩:=hown (Blk.var false [dv,.int .i64 k.ty.k,.int .i64 k.ty.v,.str k.ty.nm,pv,av]::R)
    have e16:=f2 16 _ (by simp [J6]) h16
    refine DY (s3_6 o2 e16) ?_
    obtain ⟨O3,Y3,Y3',o3,f3⟩:=hown (Blk.var false [dv,.int .i64 k.ty.k,.int .i64 k.ty.v,.str k.ty.nm,pv,av]::(R++Y2'))
    have e17:=f3 17 _ (by simp [MR]) h17
    refine DY (s3_7 o3 e17) ?_
    have hpQ:∀ (B:Blk) (X:AE),(B::(R++Y2'++Y3'++X))[P]? = some (.var false [.str (E2 k 1 (E6 k)).1.nm,.int .i64 (E2 k 1 (E6 k)).1.v,vp]):=fun B X=>by
     rw [List.append_assoc,List.append_assoc];exact hp1 B _
    obtain ⟨Q,hQ⟩:∃ Q,Q=R++Y2'++Y3':=⟨_,rfl⟩
    rw [← hQ] at hpQ ⊢
    by_cases hE:(Ak k.data k.ty k.arms).2=0
    ·rcases hn with ⟨_,rfl,hnl⟩ | ⟨hc,_⟩
     ·have hbt:Cx k.data k.ty=0:=(Gm hE).1
      obtain ⟨b1,b2,b3⟩:=Fx hbt
      have hdk:=(Gr b1).dok
      have hlen:=IK s1 s2 hbt
      obtain ⟨hsw,_,_,_⟩:=H4 hsk0 hE
      have h19:=h19 hE
      have h12a:=(Gm hE).2.2.1
      have h0a:=(Gm hE).2.1
      simp only [hE,if_true] at hu ⊢
      refine DY s3_8b (DY (s3_9 h19) ?_)
      -- the counts
      have hrl:=H5 k
      have htk:=Rk hlen
      have hsl:=slPre (l:=FM k) (m:=k.arms.length) (by omega)
      rw [htk] at hsl
      have h20:=fun h=>c20 (LB false (FA k)) (LB false (FA k)) (by omega) h
      simp only [decide_true] at h20
      refine DY (s3_10 ha.len hsl rfl rfl h20) (DY s3_11 (DY s3_12 ?_))
      obtain ⟨q1,q2⟩:=OC hlen
      have hst:=OB q2
      obtain ⟨a,rest,es,c1,c2,c3,g13⟩:=s3_13 (dv:=dv) (pv:=pv) (av:=av) (kk:=k.ty.k) (kv:=k.ty.v) (knm:=k.ty.nm) (R:=Q) (e:=(E2 k 1 (E6 k)).2) (p:=P) (u:=u) (w:=.sl 1 false (ints (FM k))) (LB false (FA k)) (by omega) (fun i hi=>by have:=hst i hi;omega)
      refine DY g13 ?_
      -- the arms that are not reached
      obtain ⟨v',rest',hsn,hrep,heq⟩:=Gk L2 c1 c2 c3
      rw [hnl] at hrep
      have h20b:=fun h=>c20 hu hrep (by have:=PW (FA k) k.arms.length;omega) h
      simp only [decide_true] at h20b
      have hun:=hu.AD
      simp only [List.cons_append] at hsn
      have h20c:AK MX (AH MX) 20 [u,a] (Blk.var false [dv,.int .i64 k.ty.k,.int .i64 k.ty.v,.str k.ty.nm,pv,av]::(Q++rest))=some (.ret (.bool true),Blk.var false [dv,.int .i64 k.ty.k,.int .i64 k.ty.v,.str k.ty.nm,pv,av]   :: (Q++(if a.AD=true then rest else rest'))):=by
       cases han:a.AD with
       | true=>have:=heq han;subst this;simp only [if_true];exact h20b _
       | false=>
        simp only [Bool.false_eq_true,if_false]
        exact Eb (by simp [MS]) (args':=[u,v']) (by simp only [Ax,hun,han,hsn.at (show 1≤Cn by decide)]) (by simp [hun,hrep.AD]) (h20b _)
      obtain ⟨X,hX⟩:∃ X,X=(if a.AD=true then rest else rest'):=⟨_,rfl⟩
      rw [← hX] at h20c
      refine DY (s3_14 h20c) ?_
      have hp2:=hpQ (Blk.var false [dv,.int .i64 k.ty.k,.int .i64 k.ty.v,.str k.ty.nm,pv,av]) X
      have h21:=c21 hd s1 hdk _ k.ty _ ht s2 b2 b3
      rw [EJ (show cn (BQ k.data k.ty)<9223372036854775808 by simp only [cn];omega)] at h21
      have hrl2:k.arms.length<(FM k).length:=by omega
      obtain ⟨z,hz⟩:∃ z,z=(FM k).getD k.arms.length 0:=⟨_,rfl⟩
      have hix:ixA 1 (.sl 1 false (ints (FM k))) (.int .i64 (k.arms.length:Int))=some (.ro [.int .i64 z]):=by
       obtain ⟨e,he,hR⟩:=(LB false (FM k)).ix hrl2
       subst hR
       rw [he,hz]
       simp [hrl2]
      have hrf:E2 k 1 (E6 k)=match (BJ (BQ k.data k.ty)).find? (E6 k) with
        | none=>(.mk 0 0 [] [],12)
        | some u=>(u,0):=by unfold E2;rw [if_pos hE,if_neg (by omega)] <;> rfl
      by_cases hz0':z=0
      ·obtain ⟨m1,m2⟩:=Mo hlen (by rw [← hz];exact hz0')
       rw [m1] at hrf
       simp only [hrf] at hys0 hp2 ⊢
       rw [hz0'] at hix
       have h18:=c18 _ _ _ _ hys0 hz0 hzs
       rw [Nz] at h18
       rw [m2]
       exact KE (Y5 ha.len hix hd.AD hp.AD rfl rfl hvp.AD hp2 h18 h21)
      ·obtain ⟨j,hj,m1,m2,m3⟩:=Mp hlen (by rw [← hz];exact hz0')
       rw [m1] at hrf
       simp only [hrf] at hys0 hp2 ⊢
       refine DY (Y6 hz0' ha.len hix) ?_
       have hmem:=List.getElem_mem hj
       obtain ⟨v1,v2,v3⟩:=JT hsw _ hmem
       have h22:=c22 hd s1 hdk hys0 v2 ht s2 b2 b3
       rw [N8 s1 s2 hbt _ hmem] at h22
       have h23:=c23 ha s3 s4 hys0
       have m2:k.arms.findIdx? (fun p=>CF p (BJ (BQ k.data k.ty))[j])=none:=m2
       rw [m2] at h23
       refine DY (s3_16 hd.AD hp.AD ha.AD rfl rfl hvp.AD hp2 h22 h23) ?_
       have h24:=c24 hd s1 hdk _ hsw hlen k.ty _ j hj _ ht s2 b2 b3 hys0
       refine DY (s3_17 (L:=BJ (BQ k.data k.ty)) (by omega) hj hd.AD hp.AD ha.AD rfl rfl hvp.AD hp2 h24 fun i hi => ?_) ⟨_,s3_18⟩
       obtain ⟨ws,hws,h25⟩:=c25 hd s1 hdk _ hsw hlen k.ty _ i hi ht s2 b2 b3
       have h23i:=c23 ha s3 s4 hws
       obtain ⟨wv,rfl,hwv⟩:=hws.AW
       refine ⟨_,_,_,rfl,rfl,hwv.AD,h25,fun hij => ?_⟩
       obtain ⟨m,hm⟩:=m3 i hij
       have hm:k.arms.findIdx? (fun p=>CF p ((BJ (BQ k.data k.ty))[i]'hi))=some m:=hm
       rw [hm] at h23i
       exact ⟨m,h23i⟩
     ·exact absurd hE hc
    ·have r1:∀ q,E2 k 1 q=(.mk 0 0 [] [],(Ak k.data k.ty k.arms).2):=fun q=>by unfold E2;rw [if_neg hE]
     rcases hn with ⟨hc,_⟩ | ⟨_,rfl⟩
     ·exact absurd hc hE
     simp only [r1] at hys0 hpQ ⊢
     rw [if_neg hE] at hu
     have h18:=c18 _ _ _ _ hys0 hz0 hzs
     rw [Nz] at h18
     have hp2:=hpQ (Blk.var false [dv,.int .i64 k.ty.k,.int .i64 k.ty.v,.str k.ty.nm,pv,av]) []
     rw [List.append_nil] at hp2
     exact KE (s3_8a hE rfl rfl hvp.AD hp2 h18 hu)
 obtain ⟨T,hend⟩:=hend
 exact ⟨T,run3 hend⟩
end Go.Proofs.Am12
