/- Part 9. -/
import Derived.Test.YtggemipepaajmaaGreatSam8
import Derived.LoopN
set_option linter.all false
namespace Go.Am
open Go
section
variable{M:Par}{P:Program}
def OE(Q:Exit->Act->World->Prop)(g:G)(fr:Fr)(N:Nat)(df:List Deferred):Ex×St->Prop
 | (.nrm,(t,h))=>∀ g' a' w',Le g g'->Sim g' h fr w'->Ep g' t a'.tmps->a'.tmps.size=N->a'.defers=df->Q .normal a' w'
 | (.ext j,(t,h))=>∀ g' a' w',Le g g'->Sim g' h fr w'->Ep g' t a'.tmps->a'.tmps.size=N->a'.defers=df->Q (.exit j) a' w'
 | (.ret,(t,h))=>∀ g' a' w',Le g g'->Sim g' h fr w'->Ep g' t a'.tmps->a'.tmps.size=N->a'.defers=df->Q .ret a' w'
 | (.pan v,(_,h))=>∀ g' a' w' x,Le g g'->Sim g' h fr w'->Rel g' true v x->a'.defers=df->Q (.panic [{ v:=x,recovered:=false }]) a' w'
theorem OE.le{Q:Exit->Act->World->Prop}{g g1:G}{fr:Fr}{N:Nat}{df:List Deferred}{r:Ex×St}(h:OE Q g fr N df r)(hg:Le g g1):OE Q g1 fr N df r:=by
 obtain⟨e,t,hh⟩:=r;cases e with
 | nrm=>exact fun g' a' w' b1 b2 b3 b4 b5=>h g' a' w' (hg.trans b1) b2 b3 b4 b5
 | ext=>exact fun g' a' w' b1 b2 b3 b4 b5=>h g' a' w' (hg.trans b1) b2 b3 b4 b5
 | ret=>exact fun g' a' w' b1 b2 b3 b4 b5=>h g' a' w' (hg.trans b1) b2 b3 b4 b5
 | pan=>exact fun g' a' w' x b1 b2 b3 b4=>h g' a' w' x (hg.trans b1) b2 b3 b4
variable(F:Fits M P){C:CH}(hC:J7 M P C)(hP:Dw M P)
theorem X6{g:G}{t:Tm}{tmps:Array Value}(h:Ep g t tmps)(l:List Nat):Ep g (t.only l) tmps:=fun d=>by
 by_cases hm:d∈l
 .rw[(Iz t l d).1 hm];exact h d
 .rw[(Iz t l d).2 hm];exact .undef _ _
include F hC hP in
theorem Rl{fid N id:Nat}{ops:Array Oper}{d:Bool}{Q:Exit->Act->World->Prop}{fr:Fr}{t:Tm}{h:AE}{r:Ex×St}{a:Act}{w:World}{g:G}(hr:BZ M fid N C id ops d (t,h)=some r)(hok:okC (.region id ops d)=true)
 (sim:Sim g h fr w) (ht:Ep g t a.tmps) (hN:a.tmps.size=N) (hQ:OE Q g fr N a.defers r):(Code.region id ops d).wp P Q a w:=by
 unfold BZ at hr;split at hr
 .rename_i t' h' ks hro;split at hr
  .rename_i hdr;have hQ':∀ g' a' w',Le g g'->Sim g' h' fr w'->Ep g' t' a'.tmps->a'.tmps.size=N->a'.defers=a.defers->Q .normal a' w':=by
    split at hr <;> simp only[AM]at hr <;> subst hr
    .exact fun g' a' w' b1 b2 b3 b4 b5=>hQ g' a' w' b1 b2 (X6 b3 _) b4 b5
    .exact hQ
   cases d with
   | false=>exact wp_region_list (Kj F hC hP hro sim ht hN hQ')
   | true=>
    simp only[okC,Nt,Jv,Ba]at hok;exact wp_region_any F.mixed (WR F hC hP hro hdr hok.2 hok.1 (sim.drew _) ht hN hQ')
  .cases hr
 .rename_i v h' hro;cases d with
  | false=>
   simp only[AM]at hr;subst hr;exact wp_region_list (Kj F hC hP hro sim ht hN hQ)
  | true=>cases hr
 .cases hr
include F hC hP in
theorem Fj{fid N L:Nat}{fr:Fr}:∀{c:Code} {Q:Exit->Act->World->Prop} {t:Tm} {h:AE} {r:Ex×St} {a:Act} {w:World} {g:G},codeF M fid N C L c (t,h)=some r->okC c=true->Sim g h fr w->Ep g t a.tmps->a.tmps.size=N ->
 OE Q g fr N a.defers r->c.wp P Q a w
 | .skip,Q,t,h,r,a,w,g,hr,_,sim,ht,hN,hQ=>by
  simp only[codeF,AM]at hr;subst hr;exact wp_skip (hQ g a w (Le.refl g) sim ht hN rfl)
 | .region id ops d,Q,t,h,r,a,w,g,hr,hok,sim,ht,hN,hQ=>by
  simp only[codeF]at hr;exact Rl F hC hP hr hok sim ht hN hQ
 | .seq x y,Q,t,h,r,a,w,g,hr,hok,sim,ht,hN,hQ=>by
  simp only[okC,Ba]at hok;simp only[codeF]at hr;refine wp_seq ?_;split at hr
  .rename_i s' hx;obtain⟨t',h'⟩:=s';refine Fj hx hok.1 sim ht hN (fun g' a' w' b1 b2 b3 b4 b5 => ?_);exact Fj hr hok.2 b2 b3 b4 (by rw[b5];exact hQ.le b1)
  .rename_i hne;refine Fj hr hok.1 sim ht hN ?_;obtain⟨e,t',h'⟩:=r;cases e with
   | nrm=>exact absurd hr (hne _)
   | ext=>exact hQ
   | ret=>exact hQ
   | pan=>exact hQ
 | .cond c x y,Q,t,h,r,a,w,g,hr,hok,sim,ht,hN,hQ=>by
  simp only[okC,Ba]at hok;simp only[codeF]at hr;split at hr
  .rename_i hc;have hv:=Bm ht hc;cases hx:a.eval c <;> rw[hx]at hv <;> cases hv
   exact wp_cond_true hx (Fj hr hok.1 sim ht hN hQ)
  .rename_i hc;have hv:=Bm ht hc;cases hx:a.eval c <;> rw[hx]at hv <;> cases hv
   exact wp_cond_false hx (Fj hr hok.2 sim ht hN hQ)
  .cases hr
 | .block id c,Q,t,h,r,a,w,g,hr,hok,sim,ht,hN,hQ=>by
  simp only[okC]at hok;simp only[codeF]at hr;refine wp_block ?_;split at hr
  .rename_i j s' hx;obtain⟨t',h'⟩:=s';refine Fj hx hok sim ht hN ?_;split at hr
   .rename_i hj;have hj:=Br.1 hj;simp only[AM]at hr;subst hr;intro g' a' w' b1 b2 b3 b4 b5;simp only[Exit.inBlock,hj,if_true];exact hQ g' a' w' b1 b2 b3 b4 b5
   .rename_i hj;simp only[AM]at hr;subst hr;intro g' a' w' b1 b2 b3 b4 b5;have hne:j≠id:=fun e=>by rw[Br.2 e]at hj;cases hj
    simp only[Exit.inBlock,hne,if_false];exact hQ g' a' w' b1 b2 b3 b4 b5
  .rename_i hne;refine Fj hr hok sim ht hN ?_;obtain⟨e,t',h'⟩:=r;cases e with
   | nrm=>exact hQ
   | ext j=>exact absurd hr (hne _ _)
   | ret=>exact hQ
   | pan=>exact hQ
 | .loop c,Q,t,h,r,a,w,g,hr,hok,sim,ht,hN,hQ=>by
  simp only[okC]at hok;simp only[codeF]at hr;have key:∀ n (t:Tm) (h:AE) (a:Act) (w:World) (g:G),iter n (codeF M fid N C L c) (t,h)=some r->Sim g h fr w->Ep g t a.tmps->a.tmps.size=N->OE Q g fr N a.defers r->Code.rounds P c Q n a w:=by
   intro n;induction n with
   | zero=>intro t h a w g hr;cases hr
   | succ n ih=>
    intro t h a w g hr sim ht hN hQ;rw[rounds_succ];simp only[iter]at hr;split at hr
    .rename_i s' hx;obtain⟨t',h'⟩:=s';refine Fj hx hok sim ht hN (fun g' a' w' b1 b2 b3 b4 b5 => ?_);exact ih t' h' a' w' g' hr b2 b3 b4 (by rw[b5];exact hQ.le b1)
    .rename_i hne;refine Fj hr hok sim ht hN ?_;obtain⟨e,t',h'⟩:=r;cases e with
     | nrm=>exact absurd hr (hne _)
     | ext=>exact hQ
     | ret=>exact hQ
     | pan=>exact hQ
  exact wp_loop_rounds L (key L t h a w g hr sim ht hN hQ)
 | .exit id,Q,t,h,r,a,w,g,hr,_,sim,ht,hN,hQ=>by
  simp only[codeF,AM]at hr;subst hr;exact wp_exit (hQ g a w (Le.refl g) sim ht hN rfl)
 | .ret,Q,t,h,r,a,w,g,hr,_,sim,ht,hN,hQ=>by
  simp only[codeF,AM]at hr;subst hr;exact wp_ret (hQ g a w (Le.refl g) sim ht hN rfl)
 | .scope _,_,_,_,_,_,_,_,hr,_,_,_,_,_=>by simp[codeF]at hr
 | .rangeFunc ..,_,_,_,_,_,_,_,hr,_,_,_,_,_=>by simp[codeF]at hr
 | .label _,_,_,_,_,_,_,_,hr,_,_,_,_,_=>by simp[codeF]at hr
 | .goto _,_,_,_,_,_,_,_,hr,_,_,_,_,_=>by simp[codeF]at hr
 | .refuse _,_,_,_,_,_,_,_,hr,_,_,_,_,_=>by simp[codeF]at hr
def OG(tmps:Array Value):ResultVar->Sem Value
 | .tmp t=>pure (tmps.getD t undef)
 | .cell a t=>do loadVar t (<- asAddr (tmps.getD a undef))
include F in
theorem Qi{g:G}{h:AE}{fr:Fr}{w:World}{t:Tm}{tmps:Array Value}(sim:Sim g h fr w)(ht:Ep g t tmps):∀{rs:List ResultVar} {vs:List AV},DS M.ty t h rs=some vs ->
 ∃ xs:List Value,(rs.mapM (OG tmps)).run P w=.ok xs w/\A3 g true vs xs.toArray
 | [],vs,hr=>by
  simp only[DS,AM]at hr;subst hr;exact⟨[],rfl,A3.nil _ _⟩
 | .tmp d::r,vs,hr=>by
  simp only[DS,D6]at hr;obtain⟨vs',hr',rfl⟩:=hr;obtain⟨xs,h1,h2⟩:=Qi sim ht hr';exact⟨tmps.getD d undef::xs,by simp[List.mapM_cons,OG,h1],A3.cons (ht d) h2⟩
 | .cell d ty::r,vs,hr=>by
  simp only[DS]at hr;split at hr
  .rename_i v vs' hl hr';simp only[AM]at hr;subst hr;obtain⟨xs,h1,h2⟩:=Qi sim ht hr';obtain⟨B,o,y,e1,e2,e3⟩:=RU F sim (ht d) hl;have hrun:(OG tmps (.cell d ty)).run P w=.ok y w:=(by simp only[OG,e1,asAddr,Sem.run_bind,Sem.run_pure,Result.andThen_ok,e2]);exact⟨y::xs,by simp[List.mapM_cons,hrun,h1],A3.cons e3 h2⟩
  .cases hr
include F in
theorem M9{g:G}{h:AE}{fr:Fr}{w:World}{t:Tm}{tmps:Array Value}(sim:Sim g h fr w)(ht:Ep g t tmps){fn:Func}{v:AV}(hr:CK M.ty t h fn.results=some v) :
 ∃ x,(results fn tmps).run P w=.ok x w/\Rel g true v x:=by
 unfold CK at hr;cases hv:DS M.ty t h fn.results.toList with
 | none=>rw[hv]at hr;cases hr
 | some vs=>
  rw[hv]at hr;obtain⟨xs,h1,h2⟩:=Qi (P:=P) F sim ht hv;have hm:(fn.results.mapM (OG tmps)).run P w=.ok xs.toArray w:=by
   rw[Array.mapM_eq_mapM_toList];simp only[Sem.run_map,h1];rfl
  have hres:results fn tmps=(do let vs <- fn.results.mapM (OG tmps);pure (if h:vs.size=1 then vs[0]else .tuple vs)):=by
   have he:OG tmps=(fun(x:ResultVar)=>match x with
    | .tmp t=>pure (tmps.getD t undef)
    | .cell a t=>do loadVar t (<- asAddr (tmps.getD a undef))):=by
    funext x;cases x <;> rfl
   rw[he];rfl
  rw[hres];simp only[Sem.run_bind,hm,Result.andThen_ok];clear hv
  match vs,xs,h2,hr with
  | [u],[x],h2,hr=>
   simp only[AM]at hr;subst hr;refine⟨x,?_,h2.head.1⟩;simp
  | [],xs,h2,hr=>
   simp only[AM]at hr;subst hr;have:xs=[]:=EH (by have:=h2.1;simpa using this);subst this;refine⟨.tuple #[],?_,Ml g⟩;simp
  | u::u'::us,xs,h2,hr=>
   simp only[AM]at hr;subst hr;have hl:xs.toArray.size≠1:=(by rw[h2.1];simp);refine⟨.tuple xs.toArray,?_,.tup true _ _ h2.1 h2.2⟩;rw[dif_neg hl];rfl
  | [_],[],h2,_=>have:=h2.1;simp at this
  | [_],_::_::_,h2,_=>have:=h2.1;simp at this
theorem Rm:∀(args:List AV) (k d:Nat),((Tm.init k args).get d)=if k<=d then(args[d - k]?).getD .undef else .undef
 | [],k,d=>by simp[Tm.init,Tm.get]
 | v::r,k,d=>by
  simp only[Tm.init,Tm.get];cases hb:Nat.beq k d with
  | true=>
   have:=Br.1 hb;subst this;simp
  | false=>
   have hne:k≠d:=fun h=>by rw[Br.2 h]at hb;cases hb
   rw[Rm r (k+1) d];by_cases hk:k<=d
   .rw[if_pos hk,if_pos (by omega),show d - k=(d - (k+1))+1 by omega];rfl
   .rw[if_neg hk,if_neg (by omega)]
theorem X7{g:G}{args:List AV}{cargs:Array Value}(h:A3 g true args cargs)(n:Nat):Ep g (Tm.init 0 args) (cargs++Array.replicate n undef):=fun d=>by
 rw[Rm,if_pos (H7 _),Nat.sub_zero];cases hd:args[d]? with
 | none=>exact .undef _ _
 | some v=>
  have hlt:d<cargs.size:=by rw[h.1];exact(Ac.1 hd).1
  have hv:cargs[d]? = some cargs[d]:=FL hlt;rw[HJ,Ld hlt,hv];exact h.2 d v _ hd hv
include F hC hP in
theorem bZ(L:Nat):J7 M P (NG M C L):=by
 intro f args h r h' hr;unfold NG at hr;split at hr
 .cases hr
 .rename_i fn hfn;split at hr
  .cases hr
  .rename_i c hc;split at hr
   .rename_i hle;have hle:=HR.1 hle;obtain⟨f1,f2,f3⟩:=F.fn f fn hfn;refine⟨⟨fn,c,hfn,hc⟩,fun g fr w cargs sim hargs => ?_⟩;refine calls_of_wp f1 hc ?_;have hsz:(cargs++Array.replicate (fn.ntmps - cargs.size) undef).size=fn.ntmps:=by
     have:=hargs.1;simp;omega
    cases hcode:codeF M f fn.ntmps C L c (Tm.init 0 args,h)with
    | none=>rw[hcode]at hr;cases hr
    | some ex=>
     rw[hcode]at hr;refine Fj F hC hP hcode (f3 c hc) sim (X7 hargs _) hsz ?_;obtain⟨e,t',h1⟩:=ex;cases e with
     | nrm=>
      simp only[finish,D6]at hr;obtain⟨v,hv,hr⟩:=hr;simp only[A1]at hr;obtain⟨rfl,rfl⟩:=hr;intro g' a' w' b1 b2 b3 b4 b5;obtain⟨x,x1,x2⟩:=M9 F b2 b3 hv;exact⟨b5,x,x1,g',b1,b2,x2⟩
     | ret=>
      simp only[finish,D6]at hr;obtain⟨v,hv,hr⟩:=hr;simp only[A1]at hr;obtain⟨rfl,rfl⟩:=hr;intro g' a' w' b1 b2 b3 b4 b5;obtain⟨x,x1,x2⟩:=M9 F b2 b3 hv;exact⟨b5,x,x1,g',b1,b2,x2⟩
     | ext=>cases hr
     | pan v=>
      simp only[finish,AM,A1]at hr;obtain⟨rfl,rfl⟩:=hr;intro g' a' w' x b1 b2 b3 b4;exact⟨b4,g',b1,b2,x,rfl,b3⟩
   .cases hr
include F hP in
theorem J9(hE:Xw M P):∀ n,J7 M P (ES M n)
 | 0=>fun f args h r h' hr=>by cases hr
 | n+1=>fun f args h r h' hr=>by
  simp only[ES]at hr;split at hr
  .rename_i e he;exact hE f e he args h r h' hr
  .exact bZ F (J9 hE n) hP n f args h r h' hr
end
theorem Ay(a b:Nat):Nat.beq a b=decide (a=b):=by
 cases h:Nat.beq a b with
 | true=>simp[Br.1 h]
 | false=>have:a≠b:=fun e=>by rw[Br.2 e]at h;cases h
          simp[this]
theorem A6(a b:Nat):Nat.ble a b=decide (a<=b):=by
 cases h:Nat.ble a b with
 | true=>simp[HR.1 h]
 | false=>have:¬ a<=b:=fun e=>by rw[HR.2 e]at h;cases h
          simp[this]
theorem Bt(a b:Nat):Nat.blt a b=decide (a<b):=by
 cases h:Nat.blt a b with
 | true=>simp[GB.1 h]
 | false=>have:¬ a<b:=fun e=>by rw[GB.2 e]at h;cases h
          simp[this]
theorem L2(n:Nat):Fq n n=some n:=by simp[Fq]
theorem Kk(n:Nat):Fq 0 n=some 0:=by simp[Fq]
theorem JK(M:Par)(n:Nat)(f:FuncId)(args:List AV)(h:AE)(he:M.eff f=none):ES M (n+1) f args h=NG M (ES M n) n f args h:=by simp only[ES,he]
def Ig:List (List AV×AV)->List AV->Option AV
 | [],_=>none
 | (a,v)::r,args=>match Kz args a with
  | true=>some v
  | false=>Ig r args
theorem OH:∀{l:List (List AV×AV)} {args:List AV} {v:AV},Ig l args=some v->(args,v)∈l
 | [],_,_,h=>by cases h
 | (a,u)::r,args,v,h=>by
  simp only[Ig]at h;split at h
  .rename_i hb;simp only[AM]at h;subst h;rw[Hp hb];simp
  .exact PW _ (OH h)
def Par.Ga(M:Par)(f:FuncId)(p:List AV->Option AV):Par := { M with prim:=fun g=>match Nat.beq g f with
 | true=>some p
 | false=>M.prim g }
theorem Fits.Ga{M:Par}{P:Program}(F:Fits M P)(f:FuncId)(p:List AV->Option AV):Fits (M.Ga f p) P:=⟨F.ty,F.fn,F.mixed,F.fld,F.elm,F.eqs⟩
def G6(M:Par)(n:Nat)(f:FuncId)(a:List AV)(v:AV):Bool:=
 (M.mode f).fresh && !(M.mode f).keepTop&&a.all AV.AA&&(match AH M (ES M n) f a []with
   | some (.ret u,[])=>AV.beq u v
   | _=>false)
theorem IB{M:Par}{P:Program}(F:Fits M P)(hP:Dw M P){n:Nat}{f:FuncId}{a:List AV}{v:AV}(h:G6 M n f a v=true)(hE:M.eff=fun _=>none:=by rfl) :
 (∃ fn c,M.fn f=some fn/\fn.body=some c)/\∀ g h fr w cargs,Sim g h fr w->A3 g true a cargs->Calls P f cargs w fun e w'=>∃ g',Le g g'/\Sim g' h fr w'/\J6 g' (.ret v) e:=by
 simp only[G6,Ba,Iw]at h;obtain⟨⟨⟨h1,h2⟩,h3⟩,h4⟩:=h;split at h4
 .rename_i u hd;have:=AV.beq_eq h4;subst this;have hok:=Ph (J9 F hP (LN hE) n);refine⟨(hok f a [] _ _ hd).1,fun g h fr w cargs sim hargs => ?_⟩;exact(hok f a h _ _ ((Lz h1 h2 h3 hd).2 h)).2 g fr w cargs sim hargs
 .cases h4
theorem Dw.KA{M:Par}{P:Program}(hP:Dw M P)(f:FuncId)(l:List (List AV×AV))(h:∀ p∈l,(∃ fn c,M.fn f=some fn/\fn.body=some c)/\∀ g h fr w cargs,Sim g h fr w->A3 g true p.1 cargs ->
 Calls P f cargs w fun e w'=>∃ g',Le g g'/\Sim g' h fr w'/\J6 g' (.ret p.2) e):Dw (M.Ga f (Ig l)) P:=by
 intro g p hp args v hv;simp only[Par.Ga]at hp;split at hp
 .rename_i hg;have hg:=Br.1 hg;subst hg;simp only[AM]at hp;subst hp;exact h _ (OH hv)
 .exact hP g p hp args v hv
end Go.Am
namespace Go.Proofs.Am12
open Go Go.Am Tryz
noncomputable def M0:Par := { M with prim:=fun _=>none }
theorem fO:Fits M0 Tryz.prog:=⟨J1.ty,J1.fn,J1.mixed,J1.fld,J1.elm,J1.eqs⟩
theorem fP:Dw M0 Tryz.prog:=fun f p h=>by cases h
theorem fQ:und M0.ty 32=some (.slice 34):=by kernel_rfl
theorem fR:siz M0.ty 34=3:=by kernel_rfl
theorem fS:M0.fn 165=some f165:=by kernel_rfl
theorem Pm:M0.keep 165 0=some [0]:=by kernel_rfl
theorem Pn:M0.keep 165 1=some [2]:=by kernel_rfl
theorem X8:und M0.ty 100=some (.slice 9):=by kernel_rfl
theorem siz9:siz M0.ty 9=1:=by kernel_rfl
theorem fT:M0.fn 233=some f233:=by kernel_rfl
theorem Po:M0.keep 233 0=some [0]:=by kernel_rfl
theorem Pp:M0.keep 233 1=some [2]:=by kernel_rfl
set_option maxHeartbeats 4000000
theorem X9(h:AE):ES M0 2 165 [.AI] h=some (.ret .AI,h):=by kernel_rfl
theorem YA(h:AE):ES M0 2 233 [.AI] h=some (.ret .AI,h):=by kernel_rfl
theorem YB(es:List (List AV))(ex:Bool)(h:AE):ES M0 2 165 [.sl 3 ex es] h=some (.ret (.sl 3 true es),h):=by
 rw[JK _ _ _ _ _ rfl];simp[NG,fS,Pm,Pn,f165,codeF,BZ,Ap,Bh,Av,Gb,BL,DQ,ev,evs,C4,DP,OR.ofV,OR.D4,Fg,Tm.get,Tm.init,Tm.only,Ay,A6,Bt,Ad,fQ,Gy,C8,intOf,L2,Kk,fR,K0,finish,CK,DS]
theorem YC(id gen off len:Nat)(ex:Bool)(h:AE):ES M0 2 165 [.hs id gen 3 off len ex] h=some (.ret (.hs id gen 3 off len true),h):=by
 rw[JK _ _ _ _ _ rfl];simp[NG,fS,Pm,Pn,f165,codeF,BZ,Ap,Bh,Av,Gb,BL,DQ,ev,evs,C4,DP,OR.ofV,OR.D4,Fg,Tm.get,Tm.init,Tm.only,Ay,A6,Bt,Ad,fQ,Gy,C8,intOf,L2,Kk,fR,K0,finish,CK,DS]
theorem YD(es:List (List AV))(ex:Bool)(h:AE):ES M0 2 233 [.sl 1 ex es] h=some (.ret (.sl 1 true es),h):=by
 rw[JK _ _ _ _ _ rfl];simp[NG,fT,Po,Pp,f233,codeF,BZ,Ap,Bh,Av,Gb,BL,DQ,ev,evs,C4,DP,OR.ofV,OR.D4,Fg,Tm.get,Tm.init,Tm.only,Ay,A6,Bt,Ad,X8,Gy,C8,intOf,L2,Kk,siz9,K0,finish,CK,DS]
theorem YE(id gen off len:Nat)(ex:Bool)(h:AE):ES M0 2 233 [.hs id gen 1 off len ex] h=some (.ret (.hs id gen 1 off len true),h):=by
 rw[JK _ _ _ _ _ rfl];simp[NG,fT,Po,Pp,f233,codeF,BZ,Ap,Bh,Av,Gb,BL,DQ,ev,evs,C4,DP,OR.ofV,OR.D4,Fg,Tm.get,Tm.init,Tm.only,Ay,A6,Bt,Ad,X8,Gy,C8,intOf,L2,Kk,siz9,K0,finish,CK,DS]
theorem bc{args:List AV}{v:AV}(h:AE)(hv:K8 3 args=some v):ES M0 2 165 args h=some (.ret v,h):=by
 unfold K8 at hv;split at hv
 .simp only[AM]at hv;subst hv;exact X9 h
 .split at hv
  .rename_i hb;simp only[AM]at hv;subst hv;have:=Br.1 hb;subst this;exact YB _ _ h
  .cases hv
 .split at hv
  .rename_i hb;simp only[AM]at hv;subst hv;have:=Br.1 hb;subst this;exact YC _ _ _ _ _ h
  .cases hv
 .cases hv
theorem bd{args:List AV}{v:AV}(h:AE)(hv:K8 1 args=some v):ES M0 2 233 args h=some (.ret v,h):=by
 unfold K8 at hv;split at hv
 .simp only[AM]at hv;subst hv;exact YA h
 .split at hv
  .rename_i hb;simp only[AM]at hv;subst hv;have:=Br.1 hb;subst this;exact YD _ _ h
  .cases hv
 .split at hv
  .rename_i hb;simp only[AM]at hv;subst hv;have:=Br.1 hb;subst this;exact YE _ _ _ _ _ h
  .cases hv
 .cases hv
theorem YF:Dw M Tryz.prog:=by
 intro f p hp args v hv;have key:∀ g,(∀ h,ES M0 2 g args h=some (.ret v,h))->(∃ fn c,M.fn g=some fn/\fn.body=some c)/\∀ G h fr w cargs,Sim G h fr w->A3 G true args cargs ->
  Calls Tryz.prog g cargs w fun e w'=>∃ g',Le G g'/\Sim g' h fr w'/\J6 g' (.ret v) e:=fun g hg=>
  ⟨(J9 fO fP (LN rfl) 2 g args [] _ _ (hg [])).1,fun G h fr w cargs sim hargs=>(J9 fO fP (LN rfl) 2 g args h _ _ (hg h)).2 G fr w cargs sim hargs⟩
 change Xh f=some p at hp;unfold Xh at hp;split at hp
 .rename_i hf;have:=Br.1 hf;subst this;simp only[AM]at hp;subst hp;exact key 165 fun h=>bc h hv
 .split at hp
  .rename_i hf;have:=Br.1 hf;subst this;simp only[AM]at hp;subst hp;exact key 233 fun h=>bd h hv
  .cases hp
theorem Tp:Fits M Tryz.prog:=J1
theorem Tq:Dw M Tryz.prog:=YF
def YG:AV:=(.agg [(.sl 3 true [[(.str [77,97,121,98,101]),(.sl 1 true [[(.str [97])]]),(.sl 2 true [[(.str [78,111,110,101]),.AI],[(.str [83,111,109,101]),(.sl 5 true [[(.str [118,97,108,117,101]),(.int .i64 (0)),(.int .i64 (0)),(.str [97]),.AI]])]])],[(.str [80,97,105,114]),(.sl 1 true [[(.str [97])],[(.str [98])]]),(.sl 2 true [[(.str [80,97,105,114]),(.sl 5 true [[(.str [108,101,102,116]),(.int .i64 (0)),(.int .i64 (0)),(.str [97]),.AI],[(.str [114,105,103,104,116]),(.int .i64 (0)),(.int .i64 (0)),(.str [98]),.AI]])]])],[(.str [67,111,108,111,114]),.AI,(.sl 2 true [[(.str [82,101,100]),.AI],[(.str [71,114,101,101,110]),.AI],[(.str [66,108,117,101]),.AI]])]]),(.int .i64 (1)),(.int .i64 (0)),(.str [80,97,105,114]),(.sl 4 true [[(.int .i64 (1)),(.int .i64 (0)),(.str [77,97,121,98,101]),(.sl 4 true [[(.int .i64 (1)),(.int .i64 (0)),(.str [67,111,108,111,114]),.AI]])],[(.int .i64 (1)),(.int .i64 (0)),(.str [66,111,111,108]),.AI]]),(.sl 4 true [[(.int .i64 (2)),(.int .i64 (0)),(.str [80,97,105,114]),(.sl 4 true [[(.int .i64 (2)),(.int .i64 (0)),(.str [78,111,110,101]),.AI],[(.int .i64 (0)),(.int .i64 (0)),(.str []),.AI]])],[(.int .i64 (2)),(.int .i64 (0)),(.str [80,97,105,114]),(.sl 4 true [[(.int .i64 (2)),(.int .i64 (0)),(.str [83,111,109,101]),(.sl 4 true [[(.int .i64 (2)),(.int .i64 (0)),(.str [82,101,100]),.AI]])],[(.int .i64 (2)),(.int .i64 (0)),(.str [84,114,117,101]),.AI]])],[(.int .i64 (2)),(.int .i64 (0)),(.str [80,97,105,114]),(.sl 4 true [[(.int .i64 (2)),(.int .i64 (0)),(.str [83,111,109,101]),(.sl 4 true [[(.int .i64 (1)),(.int .i64 (0)),(.str [120]),.AI]])],[(.int .i64 (2)),(.int .i64 (0)),(.str [70,97,108,115,101]),.AI]])]])])
def exD1:AV:=(.sl 3 true [[(.str [77,97,121,98,101]),(.sl 1 true [[(.str [97])]]),(.sl 2 true [[(.str [78,111,110,101]),.AI],[(.str [83,111,109,101]),(.sl 5 true [[(.str [118,97,108,117,101]),(.int .i64 (0)),(.int .i64 (0)),(.str [97]),.AI]])]])],[(.str [80,97,105,114]),(.sl 1 true [[(.str [97])],[(.str [98])]]),(.sl 2 true [[(.str [80,97,105,114]),(.sl 5 true [[(.str [108,101,102,116]),(.int .i64 (0)),(.int .i64 (0)),(.str [97]),.AI],[(.str [114,105,103,104,116]),(.int .i64 (0)),(.int .i64 (0)),(.str [98]),.AI]])]])],[(.str [67,111,108,111,114]),.AI,(.sl 2 true [[(.str [82,101,100]),.AI],[(.str [71,114,101,101,110]),.AI],[(.str [66,108,117,101]),.AI]])]])
def exD2:AV:=(.agg [.AI,(.int .i64 (1)),(.int .i64 (0)),(.str [66,105,116]),(.sl 4 true [[(.int .i64 (2)),(.int .i64 (2)),(.str []),.AI]]),(.sl 4 true [[(.int .i64 (3)),(.int .i64 (1)),(.str []),.AI],[(.int .i64 (0)),(.int .i64 (0)),(.str []),.AI],[(.int .i64 (3)),(.int .i64 (3)),(.str []),.AI]])])
def YH:List AV:=[exD1,(.agg [(.int .i64 (1)),(.int .i64 (0)),(.str [80,97,105,114]),(.sl 4 true [[(.int .i64 (1)),(.int .i64 (0)),(.str [77,97,121,98,101]),(.sl 4 true [[(.int .i64 (1)),(.int .i64 (0)),(.str [67,111,108,111,114]),.AI]])],[(.int .i64 (1)),(.int .i64 (0)),(.str [66,111,111,108]),.AI]])])]
def YI:AV:=(.tup [(.ro [(.int .i64 (0)),(.sl 3 false [[(.str [80,97,105,114]),(.sl 5 false [[(.str [108,101,102,116]),(.int .i64 (1)),(.int .i64 (0)),(.str [77,97,121,98,101]),(.sl 4 false [[(.int .i64 (1)),(.int .i64 (0)),(.str [67,111,108,111,114]),.AI]])],[(.str [114,105,103,104,116]),(.int .i64 (1)),(.int .i64 (0)),(.str [66,111,111,108]),.AI]]),(.sl 1 false [[(.ro [(.int .i64 (0)),(.sl 3 false [[(.str [78,111,110,101]),.AI,.AI],[(.str [83,111,109,101]),(.sl 5 false [[(.str [118,97,108,117,101]),(.int .i64 (1)),(.int .i64 (0)),(.str [67,111,108,111,114]),.AI]]),(.sl 1 false [[(.ro [(.int .i64 (0)),(.sl 3 false [[(.str [82,101,100]),.AI,.AI],[(.str [71,114,101,101,110]),.AI,.AI],[(.str [66,108,117,101]),.AI,.AI]])])]])]])])],[(.ro [(.int .i64 (0)),(.sl 3 true [[(.str [70,97,108,115,101]),.AI,.AI],[(.str [84,114,117,101]),.AI,.AI]])])]])]])]),(.agg [exD1,.AI]),(.int .i64 (0))])
theorem gW:G6 M 300 174 YH YI=true:=by kernel_rfl
def YJ:List AV:=[.AI,(.agg [(.int .i64 (1)),(.int .i64 (0)),(.str [66,105,116]),(.sl 4 true [[(.int .i64 (2)),(.int .i64 (2)),(.str []),.AI]])])]
def YK:AV:=(.tup [(.ro [(.int .i64 (2)),.AI]),(.agg [.AI,.AI]),(.int .i64 (0))])
theorem gX:G6 M 300 174 YJ YK=true:=by kernel_rfl
noncomputable def MA1:Par:=Par.Ga M 174 (Ig [(YH,YI),(YJ,YK)])
theorem Tr:Fits MA1 Tryz.prog:=Fits.Ga Tp _ _
theorem Ts:Dw MA1 Tryz.prog:=Dw.KA Tq _ _ fun p hp=>by
 simp only[CF,Jc,or_false]at hp;rcases hp with rfl | rfl
 .exact IB Tp Tq gW
 .exact IB Tp Tq gX
def fU:List AV:=[YG]
def fV:AV:=(.tup [(.ro [(.int .i64 (0)),(.sl 2 false [[(.str [80,97,105,114]),(.sl 1 false [[(.ro [(.int .i64 (0)),(.sl 2 false [[(.str [78,111,110,101]),.AI],[(.str [83,111,109,101]),(.sl 1 false [[(.ro [(.int .i64 (0)),(.sl 2 false [[(.str [82,101,100]),.AI],[(.str [71,114,101,101,110]),.AI],[(.str [66,108,117,101]),.AI]])])]])]])])],[(.ro [(.int .i64 (0)),(.sl 2 true [[(.str [70,97,108,115,101]),.AI],[(.str [84,114,117,101]),.AI]])])]])]])]),(.int .i64 (0))])
theorem w63_0:G6 MA1 300 63 fU fV=true:=by kernel_rfl
def fW:List AV:=[exD2]
def fX:AV:=(.tup [(.ro [(.int .i64 (2)),.AI]),(.int .i64 (0))])
theorem w63_1:G6 MA1 300 63 fW fX=true:=by kernel_rfl
noncomputable def MA2:Par:=Par.Ga MA1 63 (Ig [(fU,fV),(fW,fX)])
theorem Qj:Fits MA2 Tryz.prog:=Fits.Ga Tr _ _
theorem Qk:Dw MA2 Tryz.prog:=Dw.KA Ts _ _ fun p hp=>by
 simp only[CF,Jc,or_false]at hp;rcases hp with rfl | rfl
 .exact IB Tr Ts w63_0
 .exact IB Tr Ts w63_1
def fY:List AV:=[YG]
def fZ:AV:=(.tup [(.agg [(.str [80,97,105,114]),(.int .i64 (0)),(.sl 3 false [[(.str [83,111,109,101]),(.int .i64 (0)),(.sl 3 false [[(.str [71,114,101,101,110]),(.int .i64 (0)),.AI]])],[(.str [84,114,117,101]),(.int .i64 (0)),.AI]])]),(.int .i64 (0))])
theorem w14_0:G6 MA2 300 14 fY fZ=true:=by kernel_rfl
def fb:List AV:=[YG]
def fc:AV:=(.tup [(.sl 1 false [[(.int .i64 (2))],[(.int .i64 (1))],[(.int .i64 (3))]]),(.int .i64 (0))])
theorem w17_0:G6 MA2 300 17 fb fc=true:=by kernel_rfl
def ff:List AV:=[exD2]
def fg:AV:=(.tup [(.sl 1 false [[(.int .i64 (1))],[(.int .i64 (3))],[(.int .i64 (0))]]),(.int .i64 (0))])
theorem w17_1:G6 MA2 300 17 ff fg=true:=by kernel_rfl
noncomputable def MA3:Par:=Par.Ga MA2 14 (Ig [(fY,fZ)])
theorem gY:Fits MA3 Tryz.prog:=Fits.Ga Qj _ _
theorem gZ:Dw MA3 Tryz.prog:=Dw.KA Qk _ _ fun p hp=>by
 simp only[CF,Jc,or_false]at hp;subst hp;exact IB Qj Qk w14_0
noncomputable def MA4:Par:=Par.Ga MA3 17 (Ig [(fb,fc),(ff,fg)])
theorem YL:Fits MA4 Tryz.prog:=Fits.Ga gY _ _
theorem YM:Dw MA4 Tryz.prog:=Dw.KA gZ _ _ fun p hp=>by
 simp only[CF,Jc,or_false]at hp;rcases hp with rfl | rfl
 .exact IB Qj Qk w17_0
 .exact IB Qj Qk w17_1
def fh:List AV:=[YG]
def fj:AV:=(.tup [(.sl 4 false [[(.int .i64 (-1)),(.sl 1 true [[(.int .i64 (0))]]),(.sl 3 false [[(.str [78,111,110,101]),(.int .i64 (0)),(.int .i64 (1))],[(.str [83,111,109,101]),(.int .i64 (0)),(.int .i64 (2))]]),(.int .i64 (-1))],[(.int .i64 (0)),.AI,.AI,(.int .i64 (-1))],[(.int .i64 (-1)),(.sl 1 false [[(.int .i64 (0))],[(.int .i64 (0))]]),(.sl 3 false [[(.str [82,101,100]),(.int .i64 (0)),(.int .i64 (3))],[(.str [71,114,101,101,110]),(.int .i64 (0)),(.int .i64 (6))],[(.str [66,108,117,101]),(.int .i64 (0)),(.int .i64 (9))]]),(.int .i64 (-1))],[(.int .i64 (-1)),(.sl 1 true [[(.int .i64 (1))]]),(.sl 3 false [[(.str [70,97,108,115,101]),(.int .i64 (0)),(.int .i64 (4))],[(.str [84,114,117,101]),(.int .i64 (0)),(.int .i64 (5))]]),(.int .i64 (-1))],[(.int .i64 (2)),.AI,.AI,(.int .i64 (-1))],[(.int .i64 (1)),.AI,.AI,(.int .i64 (-1))],[(.int .i64 (-1)),(.sl 1 true [[(.int .i64 (1))]]),(.sl 3 false [[(.str [70,97,108,115,101]),(.int .i64 (0)),(.int .i64 (7))],[(.str [84,114,117,101]),(.int .i64 (0)),(.int .i64 (8))]]),(.int .i64 (-1))],[(.int .i64 (2)),.AI,.AI,(.int .i64 (-1))],[(.int .i64 (-1)),.AI,.AI,(.int .i64 (-1))],[(.int .i64 (-1)),(.sl 1 true [[(.int .i64 (1))]]),(.sl 3 false [[(.str [70,97,108,115,101]),(.int .i64 (0)),(.int .i64 (10))],[(.str [84,114,117,101]),(.int .i64 (0)),(.int .i64 (11))]]),(.int .i64 (-1))],[(.int .i64 (2)),.AI,.AI,(.int .i64 (-1))],[(.int .i64 (-1)),.AI,.AI,(.int .i64 (-1))]]),(.int .i64 (0))])
theorem w27_0:G6 MA4 300 27 fh fj=true:=by kernel_rfl
noncomputable def MA5:Par:=Par.Ga MA4 27 (Ig [(fh,fj)])
theorem Tt:Fits MA5 Tryz.prog:=Fits.Ga YL _ _
theorem Tu:Dw MA5 Tryz.prog:=Dw.KA YM _ _ fun p hp=>by
 simp only[CF,Jc,or_false]at hp;subst hp;exact IB YL YM w27_0
def fk:List AV:=[YG,(.agg [(.str [80,97,105,114]),(.int .i64 (0)),(.sl 3 true [[(.str [83,111,109,101]),(.int .i64 (0)),(.sl 3 true [[(.str [66,108,117,101]),(.int .i64 (0)),.AI]])],[(.str [70,97,108,115,101]),(.int .i64 (0)),.AI]])])]
def fl:AV:=(.tup [(.int .i64 (2)),(.int .i64 (0))])
theorem w43_0:G6 MA5 300 43 fk fl=true:=by kernel_rfl
def fm:List AV:=[exD2]
def fo:AV:=(.tup [(.sl 1 false [[(.int .i64 (2))]]),(.int .i64 (0))])
theorem w16_0:G6 MA5 300 16 fm fo=true:=by kernel_rfl
noncomputable def MA6:Par:=Par.Ga MA5 43 (Ig [(fk,fl)])
theorem gd:Fits MA6 Tryz.prog:=Fits.Ga Tt _ _
theorem gf:Dw MA6 Tryz.prog:=Dw.KA Tu _ _ fun p hp=>by
 simp only[CF,Jc,or_false]at hp;subst hp;exact IB Tt Tu w43_0
noncomputable def MA7:Par:=Par.Ga MA6 16 (Ig [(fm,fo)])
theorem gg:Fits MA7 Tryz.prog:=Fits.Ga gd _ _
theorem gh:Dw MA7 Tryz.prog:=Dw.KA gf _ _ fun p hp=>by
 simp only[CF,Jc,or_false]at hp;subst hp;exact IB Tt Tu w16_0
def a10_0:List AV:=[]
def v10_0:AV:=(.bool true)
theorem w10_0:G6 MA7 300 10 a10_0 v10_0=true:=by kernel_rfl
noncomputable def MW:Par:=Par.Ga M 10 (Ig [([],.bool true)])
theorem Rn:Fits MW Tryz.prog:=Fits.Ga J1 _ _
theorem primW:Dw MW Tryz.prog:=Dw.KA YF _ _ fun p hp=>by
 simp only[CF,Jc,or_false]at hp;subst hp;exact IB gg gh w10_0
end Go.Proofs.Am12
