/- Part 9. -/
import Derived.Test.YtggemipepaajmaaGreatTre8
import Derived.LoopN
set_option linter.all false
namespace Go.Am
open Go
section
variable{M:Par}{P:Program}
def NA(Q:Exit->Act->World->Prop)(g:G)(fr:Fr)(N:Nat)(df:List Deferred):Ex×St->Prop
 | (.nrm,(t,h))=>∀ g' a' w',Le g g'->Sim g' h fr w'->EU g' t a'.tmps->a'.tmps.size=N->a'.defers=df->Q .normal a' w'
 | (.ext j,(t,h))=>∀ g' a' w',Le g g'->Sim g' h fr w'->EU g' t a'.tmps->a'.tmps.size=N->a'.defers=df->Q (.exit j) a' w'
 | (.ret,(t,h))=>∀ g' a' w',Le g g'->Sim g' h fr w'->EU g' t a'.tmps->a'.tmps.size=N->a'.defers=df->Q .ret a' w'
 | (.pan v,(_,h))=>∀ g' a' w' x,Le g g'->Sim g' h fr w'->Rel g' true v x->a'.defers=df->Q (.panic [{ v:=x,recovered:=false }]) a' w'
theorem NA.le{Q:Exit->Act->World->Prop}{g g1:G}{fr:Fr}{N:Nat}{df:List Deferred}{r:Ex×St}(h:NA Q g fr N df r)(hg:Le g g1):NA Q g1 fr N df r:=by
 obtain⟨e,t,hh⟩:=r;cases e with
 | nrm=>exact fun g' a' w' b1 b2 b3 b4 b5=>h g' a' w' (hg.trans b1) b2 b3 b4 b5
 | ext=>exact fun g' a' w' b1 b2 b3 b4 b5=>h g' a' w' (hg.trans b1) b2 b3 b4 b5
 | ret=>exact fun g' a' w' b1 b2 b3 b4 b5=>h g' a' w' (hg.trans b1) b2 b3 b4 b5
 | pan=>exact fun g' a' w' x b1 b2 b3 b4=>h g' a' w' x (hg.trans b1) b2 b3 b4
variable(F:Fits M P){C:CH}(hC:JX M P C)(hP:Dc M P)
theorem V7{g:G}{t:Tm}{tmps:Array Value}(h:EU g t tmps)(l:List Nat):EU g (t.only l) tmps:=fun d=>by
 by_cases hm:d∈l
 .rw[(Ic t l d).1 hm];exact h d
 .rw[(Ic t l d).2 hm];exact .undef _ _
include F hC hP in
theorem QT{fid N id:Nat}{ops:Array Oper}{d:Bool}{Q:Exit->Act->World->Prop}{fr:Fr}{t:Tm}{h:AF}{r:Ex×St}{a:Act}{w:World}{g:G}(hr:BZ M fid N C id ops d (t,h)=some r)(hok:okC (.region id ops d)=true)
 (sim:Sim g h fr w) (ht:EU g t a.tmps) (hN:a.tmps.size=N) (hQ:NA Q g fr N a.defers r):(Code.region id ops d).wp P Q a w:=by
 unfold BZ at hr;split at hr
 .rename_i t' h' ks hro;split at hr
  .rename_i hdr;have hQ':∀ g' a' w',Le g g'->Sim g' h' fr w'->EU g' t' a'.tmps->a'.tmps.size=N->a'.defers=a.defers->Q .normal a' w':=by
    split at hr <;> simp only[AN]at hr <;> subst hr
    .exact fun g' a' w' b1 b2 b3 b4 b5=>hQ g' a' w' b1 b2 (V7 b3 _) b4 b5
    .exact hQ
   cases d with
   | false=>exact wp_region_list (J0 F hC hP hro sim ht hN hQ')
   | true=>
    simp only[okC,KU,JK,BU]at hok;exact wp_region_any F.mixed (UZ F hC hP hro hdr hok.2 hok.1 (sim.drew _) ht hN hQ')
  .cases hr
 .rename_i v h' hro;cases d with
  | false=>
   simp only[AN]at hr;subst hr;exact wp_region_list (J0 F hC hP hro sim ht hN hQ)
  | true=>cases hr
 .cases hr
include F hC hP in
theorem FL{fid N L:Nat}{fr:Fr}:∀{c:Code} {Q:Exit->Act->World->Prop} {t:Tm} {h:AF} {r:Ex×St} {a:Act} {w:World} {g:G},codeF M fid N C L c (t,h)=some r->okC c=true->Sim g h fr w->EU g t a.tmps->a.tmps.size=N ->
 NA Q g fr N a.defers r->c.wp P Q a w
 | .skip,Q,t,h,r,a,w,g,hr,_,sim,ht,hN,hQ=>by
  simp only[codeF,AN]at hr;subst hr;exact wp_skip (hQ g a w (Le.refl g) sim ht hN rfl)
 | .region id ops d,Q,t,h,r,a,w,g,hr,hok,sim,ht,hN,hQ=>by
  simp only[codeF]at hr;exact QT F hC hP hr hok sim ht hN hQ
 | .seq x y,Q,t,h,r,a,w,g,hr,hok,sim,ht,hN,hQ=>by
  simp only[okC,BU]at hok;simp only[codeF]at hr;refine wp_seq ?_;split at hr
  .rename_i s' hx;obtain⟨t',h'⟩:=s';refine FL hx hok.1 sim ht hN (fun g' a' w' b1 b2 b3 b4 b5 => ?_);exact FL hr hok.2 b2 b3 b4 (by rw[b5];exact hQ.le b1)
  .rename_i hne;refine FL hr hok.1 sim ht hN ?_;obtain⟨e,t',h'⟩:=r;cases e with
   | nrm=>exact absurd hr (hne _)
   | ext=>exact hQ
   | ret=>exact hQ
   | pan=>exact hQ
 | .cond c x y,Q,t,h,r,a,w,g,hr,hok,sim,ht,hN,hQ=>by
  simp only[okC,BU]at hok;simp only[codeF]at hr;split at hr
  .rename_i hc;have hv:=Bm ht hc;cases hx:a.eval c <;> rw[hx]at hv <;> cases hv
   exact wp_cond_true hx (FL hr hok.1 sim ht hN hQ)
  .rename_i hc;have hv:=Bm ht hc;cases hx:a.eval c <;> rw[hx]at hv <;> cases hv
   exact wp_cond_false hx (FL hr hok.2 sim ht hN hQ)
  .cases hr
 | .block id c,Q,t,h,r,a,w,g,hr,hok,sim,ht,hN,hQ=>by
  simp only[okC]at hok;simp only[codeF]at hr;refine wp_block ?_;split at hr
  .rename_i j s' hx;obtain⟨t',h'⟩:=s';refine FL hx hok sim ht hN ?_;split at hr
   .rename_i hj;have hj:=Bl.1 hj;simp only[AN]at hr;subst hr;intro g' a' w' b1 b2 b3 b4 b5;simp only[Exit.inBlock,hj,if_true];exact hQ g' a' w' b1 b2 b3 b4 b5
   .rename_i hj;simp only[AN]at hr;subst hr;intro g' a' w' b1 b2 b3 b4 b5;have hne:j≠id:=fun e=>by rw[Bl.2 e]at hj;cases hj
    simp only[Exit.inBlock,hne,if_false];exact hQ g' a' w' b1 b2 b3 b4 b5
  .rename_i hne;refine FL hr hok sim ht hN ?_;obtain⟨e,t',h'⟩:=r;cases e with
   | nrm=>exact hQ
   | ext j=>exact absurd hr (hne _ _)
   | ret=>exact hQ
   | pan=>exact hQ
 | .loop c,Q,t,h,r,a,w,g,hr,hok,sim,ht,hN,hQ=>by
  simp only[okC]at hok;simp only[codeF]at hr;have key:∀ n (t:Tm) (h:AF) (a:Act) (w:World) (g:G),iter n (codeF M fid N C L c) (t,h)=some r->Sim g h fr w->EU g t a.tmps->a.tmps.size=N->NA Q g fr N a.defers r->Code.rounds P c Q n a w:=by
   intro n;induction n with
   | zero=>intro t h a w g hr;cases hr
   | succ n ih=>
    intro t h a w g hr sim ht hN hQ;rw[rounds_succ];simp only[iter]at hr;split at hr
    .rename_i s' hx;obtain⟨t',h'⟩:=s';refine FL hx hok sim ht hN (fun g' a' w' b1 b2 b3 b4 b5 => ?_);exact ih t' h' a' w' g' hr b2 b3 b4 (by rw[b5];exact hQ.le b1)
    .rename_i hne;refine FL hr hok sim ht hN ?_;obtain⟨e,t',h'⟩:=r;cases e with
     | nrm=>exact absurd hr (hne _)
     | ext=>exact hQ
     | ret=>exact hQ
     | pan=>exact hQ
  exact wp_loop_rounds L (key L t h a w g hr sim ht hN hQ)
 | .exit id,Q,t,h,r,a,w,g,hr,_,sim,ht,hN,hQ=>by
  simp only[codeF,AN]at hr;subst hr;exact wp_exit (hQ g a w (Le.refl g) sim ht hN rfl)
 | .ret,Q,t,h,r,a,w,g,hr,_,sim,ht,hN,hQ=>by
  simp only[codeF,AN]at hr;subst hr;exact wp_ret (hQ g a w (Le.refl g) sim ht hN rfl)
 | .scope _,_,_,_,_,_,_,_,hr,_,_,_,_,_=>by simp[codeF]at hr
 | .rangeFunc ..,_,_,_,_,_,_,_,hr,_,_,_,_,_=>by simp[codeF]at hr
 | .label _,_,_,_,_,_,_,_,hr,_,_,_,_,_=>by simp[codeF]at hr
 | .goto _,_,_,_,_,_,_,_,hr,_,_,_,_,_=>by simp[codeF]at hr
 | .refuse _,_,_,_,_,_,_,_,hr,_,_,_,_,_=>by simp[codeF]at hr
def NB(tmps:Array Value):ResultVar->Sem Value
 | .tmp t=>pure (tmps.getD t undef)
 | .cell a t=>do loadVar t (<- asAddr (tmps.getD a undef))
include F in
theorem Pd{g:G}{h:AF}{fr:Fr}{w:World}{t:Tm}{tmps:Array Value}(sim:Sim g h fr w)(ht:EU g t tmps):∀{rs:List ResultVar} {vs:List AV},DJ M.ty t h rs=some vs ->
 ∃ xs:List Value,(rs.mapM (NB tmps)).run P w=.ok xs w/\Au g true vs xs.toArray
 | [],vs,hr=>by
  simp only[DJ,AN]at hr;subst hr;exact⟨[],rfl,Au.nil _ _⟩
 | .tmp d::r,vs,hr=>by
  simp only[DJ,Dx]at hr;obtain⟨vs',hr',rfl⟩:=hr;obtain⟨xs,h1,h2⟩:=Pd sim ht hr';exact⟨tmps.getD d undef::xs,by simp[List.mapM_cons,NB,h1],Au.cons (ht d) h2⟩
 | .cell d ty::r,vs,hr=>by
  simp only[DJ]at hr;split at hr
  .rename_i v vs' hl hr';simp only[AN]at hr;subst hr;obtain⟨xs,h1,h2⟩:=Pd sim ht hr';obtain⟨B,o,y,e1,e2,e3⟩:=QE F sim (ht d) hl;have hrun:(NB tmps (.cell d ty)).run P w=.ok y w:=(by simp only[NB,e1,asAddr,Sem.run_bind,Sem.run_pure,Result.andThen_ok,e2]);exact⟨y::xs,by simp[List.mapM_cons,hrun,h1],Au.cons e3 h2⟩
  .cases hr
include F in
theorem MC{g:G}{h:AF}{fr:Fr}{w:World}{t:Tm}{tmps:Array Value}(sim:Sim g h fr w)(ht:EU g t tmps){fn:Func}{v:AV}(hr:CF M.ty t h fn.results=some v) :
 ∃ x,(results fn tmps).run P w=.ok x w/\Rel g true v x:=by
 unfold CF at hr;cases hv:DJ M.ty t h fn.results.toList with
 | none=>rw[hv]at hr;cases hr
 | some vs=>
  rw[hv]at hr;obtain⟨xs,h1,h2⟩:=Pd (P:=P) F sim ht hv;have hm:(fn.results.mapM (NB tmps)).run P w=.ok xs.toArray w:=by
   rw[Array.mapM_eq_mapM_toList];simp only[Sem.run_map,h1];rfl
  have hres:results fn tmps=(do let vs <- fn.results.mapM (NB tmps);pure (if h:vs.size=1 then vs[0]else .tuple vs)):=by
   have he:NB tmps=(fun(x:ResultVar)=>match x with
    | .tmp t=>pure (tmps.getD t undef)
    | .cell a t=>do loadVar t (<- asAddr (tmps.getD a undef))):=by
    funext x;cases x <;> rfl
   rw[he];rfl
  rw[hres];simp only[Sem.run_bind,hm,Result.andThen_ok];clear hv
  match vs,xs,h2,hr with
  | [u],[x],h2,hr=>
   simp only[AN]at hr;subst hr;refine⟨x,?_,h2.head.1⟩;simp
  | [],xs,h2,hr=>
   simp only[AN]at hr;subst hr;have:xs=[]:=E5 (by have:=h2.1;simpa using this);subst this;refine⟨.tuple #[],?_,Lq g⟩;simp
  | u::u'::us,xs,h2,hr=>
   simp only[AN]at hr;subst hr;have hl:xs.toArray.size≠1:=(by rw[h2.1];simp);refine⟨.tuple xs.toArray,?_,.tup true _ _ h2.1 h2.2⟩;rw[dif_neg hl];rfl
  | [_],[],h2,_=>have:=h2.1;simp at this
  | [_],_::_::_,h2,_=>have:=h2.1;simp at this
theorem QU:∀(args:List AV) (k d:Nat),((Tm.init k args).get d)=if k<=d then(args[d - k]?).getD .undef else .undef
 | [],k,d=>by simp[Tm.init,Tm.get]
 | v::r,k,d=>by
  simp only[Tm.init,Tm.get];cases hb:Nat.beq k d with
  | true=>
   have:=Bl.1 hb;subst this;simp
  | false=>
   have hne:k≠d:=fun h=>by rw[Bl.2 h]at hb;cases hb
   rw[QU r (k+1) d];by_cases hk:k<=d
   .rw[if_pos hk,if_pos (by omega),show d - k=(d - (k+1))+1 by omega];rfl
   .rw[if_neg hk,if_neg (by omega)]
theorem V8{g:G}{args:List AV}{cargs:Array Value}(h:Au g true args cargs)(n:Nat):EU g (Tm.init 0 args) (cargs++Array.replicate n undef):=fun d=>by
 rw[QU,if_pos (HN _),Nat.sub_zero];cases hd:args[d]? with
 | none=>exact .undef _ _
 | some v=>
  have hlt:d<cargs.size:=by rw[h.1];exact(Ae.1 hd).1
  have hv:cargs[d]? = some cargs[d]:=E6 hlt;rw[Gy,Km hlt,hv];exact h.2 d v _ hd hv
include F hC hP in
theorem Yw(L:Nat):JX M P (MK M C L):=by
 intro f args h r h' hr;unfold MK at hr;split at hr
 .cases hr
 .rename_i fn hfn;split at hr
  .cases hr
  .rename_i c hc;split at hr
   .rename_i hle;have hle:=Gb.1 hle;obtain⟨f1,f2,f3⟩:=F.fn f fn hfn;refine⟨⟨fn,c,hfn,hc⟩,fun g fr w cargs sim hargs => ?_⟩;refine calls_of_wp f1 hc ?_;have hsz:(cargs++Array.replicate (fn.ntmps - cargs.size) undef).size=fn.ntmps:=by
     have:=hargs.1;simp;omega
    cases hcode:codeF M f fn.ntmps C L c (Tm.init 0 args,h)with
    | none=>rw[hcode]at hr;cases hr
    | some ex=>
     rw[hcode]at hr;refine FL F hC hP hcode (f3 c hc) sim (V8 hargs _) hsz ?_;obtain⟨e,t',h1⟩:=ex;cases e with
     | nrm=>
      simp only[finish,Dx]at hr;obtain⟨v,hv,hr⟩:=hr;simp only[Bk]at hr;obtain⟨rfl,rfl⟩:=hr;intro g' a' w' b1 b2 b3 b4 b5;obtain⟨x,x1,x2⟩:=MC F b2 b3 hv;exact⟨b5,x,x1,g',b1,b2,x2⟩
     | ret=>
      simp only[finish,Dx]at hr;obtain⟨v,hv,hr⟩:=hr;simp only[Bk]at hr;obtain⟨rfl,rfl⟩:=hr;intro g' a' w' b1 b2 b3 b4 b5;obtain⟨x,x1,x2⟩:=MC F b2 b3 hv;exact⟨b5,x,x1,g',b1,b2,x2⟩
     | ext=>cases hr
     | pan v=>
      simp only[finish,AN,Bk]at hr;obtain⟨rfl,rfl⟩:=hr;intro g' a' w' x b1 b2 b3 b4;exact⟨b4,g',b1,b2,x,rfl,b3⟩
   .cases hr
include F hP in
theorem JZ(hE:V1 M P):∀ n,JX M P (EA M n)
 | 0=>fun f args h r h' hr=>by cases hr
 | n+1=>fun f args h r h' hr=>by
  simp only[EA]at hr;split at hr
  .rename_i e he;exact hE f e he args h r h' hr
  .exact Yw F (JZ hE n) hP n f args h r h' hr
end
theorem A1(a b:Nat):Nat.beq a b=decide (a=b):=by
 cases h:Nat.beq a b with
 | true=>simp[Bl.1 h]
 | false=>have:a≠b:=fun e=>by rw[Bl.2 e]at h;cases h
          simp[this]
theorem A8(a b:Nat):Nat.ble a b=decide (a<=b):=by
 cases h:Nat.ble a b with
 | true=>simp[Gb.1 h]
 | false=>have:¬ a<=b:=fun e=>by rw[Gb.2 e]at h;cases h
          simp[this]
theorem CM(a b:Nat):Nat.blt a b=decide (a<b):=by
 cases h:Nat.blt a b with
 | true=>simp[FQ.1 h]
 | false=>have:¬ a<b:=fun e=>by rw[FQ.2 e]at h;cases h
          simp[this]
theorem K8(n:Nat):F7 n n=some n:=by simp[F7]
theorem J1(n:Nat):F7 0 n=some 0:=by simp[F7]
theorem Iu(M:Par)(n:Nat)(f:FuncId)(args:List AV)(h:AF)(he:M.eff f=none):EA M (n+1) f args h=MK M (EA M n) n f args h:=by simp only[EA,he]
def II:List (List AV×AV)->List AV->Option AV
 | [],_=>none
 | (a,v)::r,args=>match KG args a with
  | true=>some v
  | false=>II r args
theorem NC:∀{l:List (List AV×AV)} {args:List AV} {v:AV},II l args=some v->(args,v)∈l
 | [],_,_,h=>by cases h
 | (a,u)::r,args,v,h=>by
  simp only[II]at h;split at h
  .rename_i hb;simp only[AN]at h;subst h;rw[HU hb];simp
  .exact Mh _ (NC h)
def Par.GM(M:Par)(f:FuncId)(p:List AV->Option AV):Par := { M with prim:=fun g=>match Nat.beq g f with
 | true=>some p
 | false=>M.prim g }
theorem Fits.GM{M:Par}{P:Program}(F:Fits M P)(f:FuncId)(p:List AV->Option AV):Fits (M.GM f p) P:=⟨F.ty,F.fn,F.mixed,F.fld,F.elm,F.eqs⟩
def Gq(M:Par)(n:Nat)(f:FuncId)(a:List AV)(v:AV):Bool:=
 (M.mode f).fresh && !(M.mode f).keepTop&&a.all AV.AA&&(match AI M (EA M n) f a []with
   | some (.ret u,[])=>AV.beq u v
   | _=>false)
theorem Hp{M:Par}{P:Program}(F:Fits M P)(hP:Dc M P){n:Nat}{f:FuncId}{a:List AV}{v:AV}(h:Gq M n f a v=true)(hE:M.eff=fun _=>none:=by rfl) :
 (∃ fn c,M.fn f=some fn/\fn.body=some c)/\∀ g h fr w cargs,Sim g h fr w->Au g true a cargs->Calls P f cargs w fun e w'=>∃ g',Le g g'/\Sim g' h fr w'/\JW g' (.ret v) e:=by
 simp only[Gq,BU,IA]at h;obtain⟨⟨⟨h1,h2⟩,h3⟩,h4⟩:=h;split at h4
 .rename_i u hd;have:=AV.beq_eq h4;subst this;have hok:=OQ (JZ F hP (Ka hE) n);refine⟨(hok f a [] _ _ hd).1,fun g h fr w cargs sim hargs => ?_⟩;exact(hok f a h _ _ ((K5 h1 h2 h3 hd).2 h)).2 g fr w cargs sim hargs
 .cases h4
theorem Dc.Ja{M:Par}{P:Program}(hP:Dc M P)(f:FuncId)(l:List (List AV×AV))(h:∀ p∈l,(∃ fn c,M.fn f=some fn/\fn.body=some c)/\∀ g h fr w cargs,Sim g h fr w->Au g true p.1 cargs ->
 Calls P f cargs w fun e w'=>∃ g',Le g g'/\Sim g' h fr w'/\JW g' (.ret p.2) e):Dc (M.GM f (II l)) P:=by
 intro g p hp args v hv;simp only[Par.GM]at hp;split at hp
 .rename_i hg;have hg:=Bl.1 hg;subst hg;simp only[AN]at hp;subst hp;exact h _ (NC hv)
 .exact hP g p hp args v hv
end Go.Am
namespace Go.Proofs.Am12
open Go Go.Am Tryz
noncomputable def M0:Par := { M with prim:=fun _=>none }
theorem bk:Fits M0 Tryz.prog:=⟨JR.ty,JR.fn,JR.mixed,JR.fld,JR.elm,JR.eqs⟩
theorem bl:Dc M0 Tryz.prog:=fun f p h=>by cases h
theorem bm:und M0.ty 32=some (.slice 34):=by kernel_rfl
theorem bn:siz M0.ty 34=3:=by kernel_rfl
theorem bp:M0.fn 165=some f165:=by kernel_rfl
theorem OV:M0.keep 165 0=some [0]:=by kernel_rfl
theorem OW:M0.keep 165 1=some [2]:=by kernel_rfl
theorem V9:und M0.ty 100=some (.slice 9):=by kernel_rfl
theorem siz9:siz M0.ty 9=1:=by kernel_rfl
theorem br:M0.fn 233=some f233:=by kernel_rfl
theorem OX:M0.keep 233 0=some [0]:=by kernel_rfl
theorem OY:M0.keep 233 1=some [2]:=by kernel_rfl
set_option maxHeartbeats 4000000
theorem WA(h:AF):EA M0 2 165 [.AH] h=some (.ret .AH,h):=by kernel_rfl
theorem WB(h:AF):EA M0 2 233 [.AH] h=some (.ret .AH,h):=by kernel_rfl
theorem WC(es:List (List AV))(ex:Bool)(h:AF):EA M0 2 165 [.sl 3 ex es] h=some (.ret (.sl 3 true es),h):=by
 rw[Iu _ _ _ _ _ rfl];simp[MK,bp,OV,OW,f165,codeF,BZ,Ar,Bg,Al,GV,BJ,DH,ev,evs,C4,DE,OR.ofV,OR.Dz,FP,Tm.get,Tm.init,Tm.only,A1,A8,CM,Ad,bm,HD,C9,intOf,K8,J1,bn,KX,finish,CF,DJ]
theorem WD(id gen off len:Nat)(ex:Bool)(h:AF):EA M0 2 165 [.hs id gen 3 off len ex] h=some (.ret (.hs id gen 3 off len true),h):=by
 rw[Iu _ _ _ _ _ rfl];simp[MK,bp,OV,OW,f165,codeF,BZ,Ar,Bg,Al,GV,BJ,DH,ev,evs,C4,DE,OR.ofV,OR.Dz,FP,Tm.get,Tm.init,Tm.only,A1,A8,CM,Ad,bm,HD,C9,intOf,K8,J1,bn,KX,finish,CF,DJ]
theorem WE(es:List (List AV))(ex:Bool)(h:AF):EA M0 2 233 [.sl 1 ex es] h=some (.ret (.sl 1 true es),h):=by
 rw[Iu _ _ _ _ _ rfl];simp[MK,br,OX,OY,f233,codeF,BZ,Ar,Bg,Al,GV,BJ,DH,ev,evs,C4,DE,OR.ofV,OR.Dz,FP,Tm.get,Tm.init,Tm.only,A1,A8,CM,Ad,V9,HD,C9,intOf,K8,J1,siz9,KX,finish,CF,DJ]
theorem WG(id gen off len:Nat)(ex:Bool)(h:AF):EA M0 2 233 [.hs id gen 1 off len ex] h=some (.ret (.hs id gen 1 off len true),h):=by
 rw[Iu _ _ _ _ _ rfl];simp[MK,br,OX,OY,f233,codeF,BZ,Ar,Bg,Al,GV,BJ,DH,ev,evs,C4,DE,OR.ofV,OR.Dz,FP,Tm.get,Tm.init,Tm.only,A1,A8,CM,Ad,V9,HD,C9,intOf,K8,J1,siz9,KX,finish,CF,DJ]
theorem Yx{args:List AV}{v:AV}(h:AF)(hv:L5 3 args=some v):EA M0 2 165 args h=some (.ret v,h):=by
 unfold L5 at hv;split at hv
 .simp only[AN]at hv;subst hv;exact WA h
 .split at hv
  .rename_i hb;simp only[AN]at hv;subst hv;have:=Bl.1 hb;subst this;exact WC _ _ h
  .cases hv
 .split at hv
  .rename_i hb;simp only[AN]at hv;subst hv;have:=Bl.1 hb;subst this;exact WD _ _ _ _ _ h
  .cases hv
 .cases hv
theorem Yy{args:List AV}{v:AV}(h:AF)(hv:L5 1 args=some v):EA M0 2 233 args h=some (.ret v,h):=by
 unfold L5 at hv;split at hv
 .simp only[AN]at hv;subst hv;exact WB h
 .split at hv
  .rename_i hb;simp only[AN]at hv;subst hv;have:=Bl.1 hb;subst this;exact WE _ _ h
  .cases hv
 .split at hv
  .rename_i hb;simp only[AN]at hv;subst hv;have:=Bl.1 hb;subst this;exact WG _ _ _ _ _ h
  .cases hv
 .cases hv
theorem WH:Dc M Tryz.prog:=by
 intro f p hp args v hv;have key:∀ g,(∀ h,EA M0 2 g args h=some (.ret v,h))->(∃ fn c,M.fn g=some fn/\fn.body=some c)/\∀ G h fr w cargs,Sim G h fr w->Au G true args cargs ->
  Calls Tryz.prog g cargs w fun e w'=>∃ g',Le G g'/\Sim g' h fr w'/\JW g' (.ret v) e:=fun g hg=>
  ⟨(JZ bk bl (Ka rfl) 2 g args [] _ _ (hg [])).1,fun G h fr w cargs sim hargs=>(JZ bk bl (Ka rfl) 2 g args h _ _ (hg h)).2 G fr w cargs sim hargs⟩
 change Vm f=some p at hp;unfold Vm at hp;split at hp
 .rename_i hf;have:=Bl.1 hf;subst this;simp only[AN]at hp;subst hp;exact key 165 fun h=>Yx h hv
 .split at hp
  .rename_i hf;have:=Bl.1 hf;subst this;simp only[AN]at hp;subst hp;exact key 233 fun h=>Yy h hv
  .cases hp
theorem R0:Fits M Tryz.prog:=JR
theorem R1:Dc M Tryz.prog:=WH
def WI:AV:=(.agg [(.sl 3 true [[(.str [77,97,121,98,101]),(.sl 1 true [[(.str [97])]]),(.sl 2 true [[(.str [78,111,110,101]),.AH],[(.str [83,111,109,101]),(.sl 5 true [[(.str [118,97,108,117,101]),(.int .i64 (0)),(.int .i64 (0)),(.str [97]),.AH]])]])],[(.str [80,97,105,114]),(.sl 1 true [[(.str [97])],[(.str [98])]]),(.sl 2 true [[(.str [80,97,105,114]),(.sl 5 true [[(.str [108,101,102,116]),(.int .i64 (0)),(.int .i64 (0)),(.str [97]),.AH],[(.str [114,105,103,104,116]),(.int .i64 (0)),(.int .i64 (0)),(.str [98]),.AH]])]])],[(.str [67,111,108,111,114]),.AH,(.sl 2 true [[(.str [82,101,100]),.AH],[(.str [71,114,101,101,110]),.AH],[(.str [66,108,117,101]),.AH]])]]),(.int .i64 (1)),(.int .i64 (0)),(.str [80,97,105,114]),(.sl 4 true [[(.int .i64 (1)),(.int .i64 (0)),(.str [77,97,121,98,101]),(.sl 4 true [[(.int .i64 (1)),(.int .i64 (0)),(.str [67,111,108,111,114]),.AH]])],[(.int .i64 (1)),(.int .i64 (0)),(.str [66,111,111,108]),.AH]]),(.sl 4 true [[(.int .i64 (2)),(.int .i64 (0)),(.str [80,97,105,114]),(.sl 4 true [[(.int .i64 (2)),(.int .i64 (0)),(.str [78,111,110,101]),.AH],[(.int .i64 (0)),(.int .i64 (0)),(.str []),.AH]])],[(.int .i64 (2)),(.int .i64 (0)),(.str [80,97,105,114]),(.sl 4 true [[(.int .i64 (2)),(.int .i64 (0)),(.str [83,111,109,101]),(.sl 4 true [[(.int .i64 (2)),(.int .i64 (0)),(.str [82,101,100]),.AH]])],[(.int .i64 (2)),(.int .i64 (0)),(.str [84,114,117,101]),.AH]])],[(.int .i64 (2)),(.int .i64 (0)),(.str [80,97,105,114]),(.sl 4 true [[(.int .i64 (2)),(.int .i64 (0)),(.str [83,111,109,101]),(.sl 4 true [[(.int .i64 (1)),(.int .i64 (0)),(.str [120]),.AH]])],[(.int .i64 (2)),(.int .i64 (0)),(.str [70,97,108,115,101]),.AH]])]])])
def exD1:AV:=(.sl 3 true [[(.str [77,97,121,98,101]),(.sl 1 true [[(.str [97])]]),(.sl 2 true [[(.str [78,111,110,101]),.AH],[(.str [83,111,109,101]),(.sl 5 true [[(.str [118,97,108,117,101]),(.int .i64 (0)),(.int .i64 (0)),(.str [97]),.AH]])]])],[(.str [80,97,105,114]),(.sl 1 true [[(.str [97])],[(.str [98])]]),(.sl 2 true [[(.str [80,97,105,114]),(.sl 5 true [[(.str [108,101,102,116]),(.int .i64 (0)),(.int .i64 (0)),(.str [97]),.AH],[(.str [114,105,103,104,116]),(.int .i64 (0)),(.int .i64 (0)),(.str [98]),.AH]])]])],[(.str [67,111,108,111,114]),.AH,(.sl 2 true [[(.str [82,101,100]),.AH],[(.str [71,114,101,101,110]),.AH],[(.str [66,108,117,101]),.AH]])]])
def exD2:AV:=(.agg [.AH,(.int .i64 (1)),(.int .i64 (0)),(.str [66,105,116]),(.sl 4 true [[(.int .i64 (2)),(.int .i64 (2)),(.str []),.AH]]),(.sl 4 true [[(.int .i64 (3)),(.int .i64 (1)),(.str []),.AH],[(.int .i64 (0)),(.int .i64 (0)),(.str []),.AH],[(.int .i64 (3)),(.int .i64 (3)),(.str []),.AH]])])
def WJ:List AV:=[exD1,(.agg [(.int .i64 (1)),(.int .i64 (0)),(.str [80,97,105,114]),(.sl 4 true [[(.int .i64 (1)),(.int .i64 (0)),(.str [77,97,121,98,101]),(.sl 4 true [[(.int .i64 (1)),(.int .i64 (0)),(.str [67,111,108,111,114]),.AH]])],[(.int .i64 (1)),(.int .i64 (0)),(.str [66,111,111,108]),.AH]])])]
def WK:AV:=(.tup [(.ro [(.int .i64 (0)),(.sl 3 false [[(.str [80,97,105,114]),(.sl 5 false [[(.str [108,101,102,116]),(.int .i64 (1)),(.int .i64 (0)),(.str [77,97,121,98,101]),(.sl 4 false [[(.int .i64 (1)),(.int .i64 (0)),(.str [67,111,108,111,114]),.AH]])],[(.str [114,105,103,104,116]),(.int .i64 (1)),(.int .i64 (0)),(.str [66,111,111,108]),.AH]]),(.sl 1 false [[(.ro [(.int .i64 (0)),(.sl 3 false [[(.str [78,111,110,101]),.AH,.AH],[(.str [83,111,109,101]),(.sl 5 false [[(.str [118,97,108,117,101]),(.int .i64 (1)),(.int .i64 (0)),(.str [67,111,108,111,114]),.AH]]),(.sl 1 false [[(.ro [(.int .i64 (0)),(.sl 3 false [[(.str [82,101,100]),.AH,.AH],[(.str [71,114,101,101,110]),.AH,.AH],[(.str [66,108,117,101]),.AH,.AH]])])]])]])])],[(.ro [(.int .i64 (0)),(.sl 3 true [[(.str [70,97,108,115,101]),.AH,.AH],[(.str [84,114,117,101]),.AH,.AH]])])]])]])]),(.agg [exD1,.AH]),(.int .i64 (0))])
theorem dC:Gq M 300 174 WJ WK=true:=by kernel_rfl
def WL:List AV:=[.AH,(.agg [(.int .i64 (1)),(.int .i64 (0)),(.str [66,105,116]),(.sl 4 true [[(.int .i64 (2)),(.int .i64 (2)),(.str []),.AH]])])]
def WM:AV:=(.tup [(.ro [(.int .i64 (2)),.AH]),(.agg [.AH,.AH]),(.int .i64 (0))])
theorem dD:Gq M 300 174 WL WM=true:=by kernel_rfl
noncomputable def MA1:Par:=Par.GM M 174 (II [(WJ,WK),(WL,WM)])
theorem R2:Fits MA1 Tryz.prog:=Fits.GM R0 _ _
theorem R3:Dc MA1 Tryz.prog:=Dc.Ja R1 _ _ fun p hp=>by
 simp only[Cd,JA,or_false]at hp;rcases hp with rfl | rfl
 .exact Hp R0 R1 dC
 .exact Hp R0 R1 dD
def bt:List AV:=[WI]
def bu:AV:=(.tup [(.ro [(.int .i64 (0)),(.sl 2 false [[(.str [80,97,105,114]),(.sl 1 false [[(.ro [(.int .i64 (0)),(.sl 2 false [[(.str [78,111,110,101]),.AH],[(.str [83,111,109,101]),(.sl 1 false [[(.ro [(.int .i64 (0)),(.sl 2 false [[(.str [82,101,100]),.AH],[(.str [71,114,101,101,110]),.AH],[(.str [66,108,117,101]),.AH]])])]])]])])],[(.ro [(.int .i64 (0)),(.sl 2 true [[(.str [70,97,108,115,101]),.AH],[(.str [84,114,117,101]),.AH]])])]])]])]),(.int .i64 (0))])
theorem w63_0:Gq MA1 300 63 bt bu=true:=by kernel_rfl
def bw:List AV:=[exD2]
def bx:AV:=(.tup [(.ro [(.int .i64 (2)),.AH]),(.int .i64 (0))])
theorem w63_1:Gq MA1 300 63 bw bx=true:=by kernel_rfl
noncomputable def MA2:Par:=Par.GM MA1 63 (II [(bt,bu),(bw,bx)])
theorem Pe:Fits MA2 Tryz.prog:=Fits.GM R2 _ _
theorem Pf:Dc MA2 Tryz.prog:=Dc.Ja R3 _ _ fun p hp=>by
 simp only[Cd,JA,or_false]at hp;rcases hp with rfl | rfl
 .exact Hp R2 R3 w63_0
 .exact Hp R2 R3 w63_1
def bz:List AV:=[WI]
def b7:AV:=(.tup [(.agg [(.str [80,97,105,114]),(.int .i64 (0)),(.sl 3 false [[(.str [83,111,109,101]),(.int .i64 (0)),(.sl 3 false [[(.str [71,114,101,101,110]),(.int .i64 (0)),.AH]])],[(.str [84,114,117,101]),(.int .i64 (0)),.AH]])]),(.int .i64 (0))])
theorem w14_0:Gq MA2 300 14 bz b7=true:=by kernel_rfl
def b8:List AV:=[WI]
def b9:AV:=(.tup [(.sl 1 false [[(.int .i64 (2))],[(.int .i64 (1))],[(.int .i64 (3))]]),(.int .i64 (0))])
theorem w17_0:Gq MA2 300 17 b8 b9=true:=by kernel_rfl
def cA:List AV:=[exD2]
def cB:AV:=(.tup [(.sl 1 false [[(.int .i64 (1))],[(.int .i64 (3))],[(.int .i64 (0))]]),(.int .i64 (0))])
theorem w17_1:Gq MA2 300 17 cA cB=true:=by kernel_rfl
noncomputable def MA3:Par:=Par.GM MA2 14 (II [(bz,b7)])
theorem dE:Fits MA3 Tryz.prog:=Fits.GM Pe _ _
theorem dF:Dc MA3 Tryz.prog:=Dc.Ja Pf _ _ fun p hp=>by
 simp only[Cd,JA,or_false]at hp;subst hp;exact Hp Pe Pf w14_0
noncomputable def MA4:Par:=Par.GM MA3 17 (II [(b8,b9),(cA,cB)])
theorem WN:Fits MA4 Tryz.prog:=Fits.GM dE _ _
theorem WO:Dc MA4 Tryz.prog:=Dc.Ja dF _ _ fun p hp=>by
 simp only[Cd,JA,or_false]at hp;rcases hp with rfl | rfl
 .exact Hp Pe Pf w17_0
 .exact Hp Pe Pf w17_1
def cC:List AV:=[WI]
def cD:AV:=(.tup [(.sl 4 false [[(.int .i64 (-1)),(.sl 1 true [[(.int .i64 (0))]]),(.sl 3 false [[(.str [78,111,110,101]),(.int .i64 (0)),(.int .i64 (1))],[(.str [83,111,109,101]),(.int .i64 (0)),(.int .i64 (2))]]),(.int .i64 (-1))],[(.int .i64 (0)),.AH,.AH,(.int .i64 (-1))],[(.int .i64 (-1)),(.sl 1 false [[(.int .i64 (0))],[(.int .i64 (0))]]),(.sl 3 false [[(.str [82,101,100]),(.int .i64 (0)),(.int .i64 (3))],[(.str [71,114,101,101,110]),(.int .i64 (0)),(.int .i64 (6))],[(.str [66,108,117,101]),(.int .i64 (0)),(.int .i64 (9))]]),(.int .i64 (-1))],[(.int .i64 (-1)),(.sl 1 true [[(.int .i64 (1))]]),(.sl 3 false [[(.str [70,97,108,115,101]),(.int .i64 (0)),(.int .i64 (4))],[(.str [84,114,117,101]),(.int .i64 (0)),(.int .i64 (5))]]),(.int .i64 (-1))],[(.int .i64 (2)),.AH,.AH,(.int .i64 (-1))],[(.int .i64 (1)),.AH,.AH,(.int .i64 (-1))],[(.int .i64 (-1)),(.sl 1 true [[(.int .i64 (1))]]),(.sl 3 false [[(.str [70,97,108,115,101]),(.int .i64 (0)),(.int .i64 (7))],[(.str [84,114,117,101]),(.int .i64 (0)),(.int .i64 (8))]]),(.int .i64 (-1))],[(.int .i64 (2)),.AH,.AH,(.int .i64 (-1))],[(.int .i64 (-1)),.AH,.AH,(.int .i64 (-1))],[(.int .i64 (-1)),(.sl 1 true [[(.int .i64 (1))]]),(.sl 3 false [[(.str [70,97,108,115,101]),(.int .i64 (0)),(.int .i64 (10))],[(.str [84,114,117,101]),(.int .i64 (0)),(.int .i64 (11))]]),(.int .i64 (-1))],[(.int .i64 (2)),.AH,.AH,(.int .i64 (-1))],[(.int .i64 (-1)),.AH,.AH,(.int .i64 (-1))]]),(.int .i64 (0))])
theorem w27_0:Gq MA4 300 27 cC cD=true:=by kernel_rfl
noncomputable def MA5:Par:=Par.GM MA4 27 (II [(cC,cD)])
theorem R4:Fits MA5 Tryz.prog:=Fits.GM WN _ _
theorem R5:Dc MA5 Tryz.prog:=Dc.Ja WO _ _ fun p hp=>by
 simp only[Cd,JA,or_false]at hp;subst hp;exact Hp WN WO w27_0
def cE:List AV:=[WI,(.agg [(.str [80,97,105,114]),(.int .i64 (0)),(.sl 3 true [[(.str [83,111,109,101]),(.int .i64 (0)),(.sl 3 true [[(.str [66,108,117,101]),(.int .i64 (0)),.AH]])],[(.str [70,97,108,115,101]),(.int .i64 (0)),.AH]])])]
def cF:AV:=(.tup [(.int .i64 (2)),(.int .i64 (0))])
theorem w43_0:Gq MA5 300 43 cE cF=true:=by kernel_rfl
def cG:List AV:=[exD2]
def cH:AV:=(.tup [(.sl 1 false [[(.int .i64 (2))]]),(.int .i64 (0))])
theorem w16_0:Gq MA5 300 16 cG cH=true:=by kernel_rfl
noncomputable def MA6:Par:=Par.GM MA5 43 (II [(cE,cF)])
theorem dG:Fits MA6 Tryz.prog:=Fits.GM R4 _ _
theorem dH:Dc MA6 Tryz.prog:=Dc.Ja R5 _ _ fun p hp=>by
 simp only[Cd,JA,or_false]at hp;subst hp;exact Hp R4 R5 w43_0
noncomputable def MA7:Par:=Par.GM MA6 16 (II [(cG,cH)])
theorem dI:Fits MA7 Tryz.prog:=Fits.GM dG _ _
theorem dJ:Dc MA7 Tryz.prog:=Dc.Ja dH _ _ fun p hp=>by
 simp only[Cd,JA,or_false]at hp;subst hp;exact Hp R4 R5 w16_0
def a10_0:List AV:=[]
def v10_0:AV:=(.bool true)
theorem w10_0:Gq MA7 300 10 a10_0 v10_0=true:=by kernel_rfl
noncomputable def MW:Par:=Par.GM M 10 (II [([],.bool true)])
theorem QV:Fits MW Tryz.prog:=Fits.GM JR _ _
theorem primW:Dc MW Tryz.prog:=Dc.Ja WH _ _ fun p hp=>by
 simp only[Cd,JA,or_false]at hp;subst hp;exact Hp dI dJ w10_0
end Go.Proofs.Am12
