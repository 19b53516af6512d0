/- The abstract machine of this claim, part 9. -/
import Derived.Test.YtggemipepaajmaaGreatVal8
import Derived.LoopN
set_option linter.unusedSimpArgs false
set_option linter.unusedVariables false
set_option linter.unusedSectionVars false
set_option linter.unnecessarySimpa false
namespace Go.Am
open Go
section
variable {M:Par} {P:Program}
def Post (Q:Exit→Act→World→Prop) (g:G) (fr:Fr) (N:Nat) (df:List Deferred):Ex×St→Prop
 | (.nrm,(t,h))=>∀ g' a' w',Le g g'→Sim g' h fr w'→TmRel g' t a'.tmps→a'.tmps.size=N→a'.defers=df→Q .normal a' w'
 | (.ext j,(t,h))=>∀ g' a' w',Le g g'→Sim g' h fr w'→TmRel g' t a'.tmps→a'.tmps.size=N→a'.defers=df→Q (.exit j) a' w'
 | (.ret,(t,h))=>∀ g' a' w',Le g g'→Sim g' h fr w'→TmRel g' t a'.tmps→a'.tmps.size=N→a'.defers=df→Q .ret a' w'
 | (.pan v,(_,h))=>∀ g' a' w' x,Le g g'→Sim g' h fr w'→Rel g' true v x→a'.defers=df→Q (.panic [{ v:=x,recovered:=false }]) a' w'
theorem Post.le {Q:Exit→Act→World→Prop} {g g1:G} {fr:Fr} {N:Nat} {df:List Deferred} {r:Ex×St} (h:Post Q g fr N df r) (hg:Le g g1):Post Q g1 fr N df r:=by
 obtain ⟨e,t,hh⟩:=r
 cases e with
 | nrm=>exact fun g' a' w' b1 b2 b3 b4 b5=>h g' a' w' (hg.trans b1) b2 b3 b4 b5
 | ext=>exact fun g' a' w' b1 b2 b3 b4 b5=>h g' a' w' (hg.trans b1) b2 b3 b4 b5
 | ret=>exact fun g' a' w' b1 b2 b3 b4 b5=>h g' a' w' (hg.trans b1) b2 b3 b4 b5
 | pan=>exact fun g' a' w' x b1 b2 b3 b4=>h g' a' w' x (hg.trans b1) b2 b3 b4
variable (F:Fits M P) {C:CH} (hC:CallOK M P C) (hP:PrimOK M P)
theorem only_rel {g:G} {t:Tm} {tmps:Array Value} (h:TmRel g t tmps) (l:List Nat):TmRel g (t.only l) tmps:=fun d=>by
 by_cases hm:d∈l
 ·rw [(only_get t l d).1 hm];exact h d
 ·rw [(only_get t l d).2 hm];exact .undef _ _
include F hC hP in
theorem region_goes {fid N id:Nat} {ops:Array Oper} {d:Bool} {Q:Exit→Act→World→Prop} {fr:Fr} {t:Tm} {h:Heap} {r:Ex×St} {a:Act} {w:World} {g:G} (hr:regionA M fid N C id ops d (t,h)=some r) (hok:okC (.region id ops d)=true)
  (sim:Sim g h fr w) (ht:TmRel g t a.tmps) (hN:a.tmps.size=N) (hQ:Post Q g fr N a.defers r):(Code.region id ops d).wp P Q a w:=by
 unfold regionA at hr
 split at hr
 ·rename_i t' h' ks hro
  split at hr
  ·rename_i hdr
   have hQ':∀ g' a' w',Le g g'→Sim g' h' fr w'→TmRel g' t' a'.tmps→a'.tmps.size=N→a'.defers=a.defers→Q .normal a' w':=by
    split at hr <;> simp only [Option.some.injEq] at hr <;> subst hr
    ·exact fun g' a' w' b1 b2 b3 b4 b5=>hQ g' a' w' b1 b2 (only_rel b3 _) b4 b5
    ·exact hQ
   cases d with
   | false=>exact wp_region_list (list_goes F hC hP hro sim ht hN hQ')
   | true=>
    simp only [okC,Bool.not_true,Bool.false_or,Bool.and_eq_true] at hok
    exact wp_region_any F.mixed (draw_goes F hC hP hro hdr hok.2 hok.1 (sim.drew _) ht hN hQ')
  ·cases hr
 ·rename_i v h' hro
  cases d with
  | false=>
   simp only [Option.some.injEq] at hr
   subst hr
   exact wp_region_list (list_goes F hC hP hro sim ht hN hQ)
  | true=>cases hr
 ·cases hr
include F hC hP in
theorem code_goes {fid N L:Nat} {fr:Fr}:∀ {c:Code} {Q:Exit→Act→World→Prop} {t:Tm} {h:Heap} {r:Ex×St} {a:Act} {w:World} {g:G},codeF M fid N C L c (t,h)=some r→okC c=true→Sim g h fr w→TmRel g t a.tmps→a.tmps.size=N →
  Post Q g fr N a.defers r→c.wp P Q a w
 | .skip,Q,t,h,r,a,w,g,hr,_,sim,ht,hN,hQ=>by
  simp only [codeF,Option.some.injEq] at hr
  subst hr
  exact wp_skip (hQ g a w (Le.refl g) sim ht hN rfl)
 | .region id ops d,Q,t,h,r,a,w,g,hr,hok,sim,ht,hN,hQ=>by
  simp only [codeF] at hr
  exact region_goes F hC hP hr hok sim ht hN hQ
 | .seq x y,Q,t,h,r,a,w,g,hr,hok,sim,ht,hN,hQ=>by
  simp only [okC,Bool.and_eq_true] at hok
  simp only [codeF] at hr
  refine wp_seq ?_
  split at hr
  ·rename_i s' hx
   obtain ⟨t',h'⟩:=s'
   refine code_goes hx hok.1 sim ht hN (fun g' a' w' b1 b2 b3 b4 b5 => ?_)
   exact code_goes hr hok.2 b2 b3 b4 (by rw [b5];exact hQ.le b1)
  ·rename_i hne
   refine code_goes hr hok.1 sim ht hN ?_
   obtain ⟨e,t',h'⟩:=r
   cases e with
   | nrm=>exact absurd hr (hne _)
   | ext=>exact hQ
   | ret=>exact hQ
   | pan=>exact hQ
 | .cond c x y,Q,t,h,r,a,w,g,hr,hok,sim,ht,hN,hQ=>by
  simp only [okC,Bool.and_eq_true] at hok
  simp only [codeF] at hr
  split at hr
  ·rename_i hc
   have hv:=ev_rel ht hc
   cases hx:a.eval c <;> rw [hx] at hv <;> cases hv
   exact wp_cond_true hx (code_goes hr hok.1 sim ht hN hQ)
  ·rename_i hc
   have hv:=ev_rel ht hc
   cases hx:a.eval c <;> rw [hx] at hv <;> cases hv
   exact wp_cond_false hx (code_goes hr hok.2 sim ht hN hQ)
  ·cases hr
 | .block id c,Q,t,h,r,a,w,g,hr,hok,sim,ht,hN,hQ=>by
  simp only [okC] at hok
  simp only [codeF] at hr
  refine wp_block ?_
  split at hr
  ·rename_i j s' hx
   obtain ⟨t',h'⟩:=s'
   refine code_goes hx hok sim ht hN ?_
   split at hr
   ·rename_i hj
    have hj:=nbeq.1 hj
    simp only [Option.some.injEq] at hr
    subst hr
    intro g' a' w' b1 b2 b3 b4 b5
    simp only [Exit.inBlock,hj,if_true]
    exact hQ g' a' w' b1 b2 b3 b4 b5
   ·rename_i hj
    simp only [Option.some.injEq] at hr
    subst hr
    intro g' a' w' b1 b2 b3 b4 b5
    have hne:j≠id:=fun e=>by rw [nbeq.2 e] at hj;cases hj
    simp only [Exit.inBlock,hne,if_false]
    exact hQ g' a' w' b1 b2 b3 b4 b5
  ·rename_i hne
   refine code_goes hr hok sim ht hN ?_
   obtain ⟨e,t',h'⟩:=r
   cases e with
   | nrm=>exact hQ
   | ext j=>exact absurd hr (hne _ _)
   | ret=>exact hQ
   | pan=>exact hQ
 | .loop c,Q,t,h,r,a,w,g,hr,hok,sim,ht,hN,hQ=>by
  simp only [okC] at hok
  simp only [codeF] at hr
  have key:∀ n (t:Tm) (h:Heap) (a:Act) (w:World) (g:G),iter n (codeF M fid N C L c) (t,h)=some r→Sim g h fr w→TmRel g t a.tmps→a.tmps.size=N→Post Q g fr N a.defers r→Code.rounds P c Q n a w:=by
   intro n
   induction n with
   | zero=>intro t h a w g hr;cases hr
   | succ n ih=>
    intro t h a w g hr sim ht hN hQ
    rw [rounds_succ]
    simp only [iter] at hr
    split at hr
    ·rename_i s' hx
     obtain ⟨t',h'⟩:=s'
     refine code_goes hx hok sim ht hN (fun g' a' w' b1 b2 b3 b4 b5 => ?_)
     exact ih t' h' a' w' g' hr b2 b3 b4 (by rw [b5];exact hQ.le b1)
    ·rename_i hne
     refine code_goes hr hok sim ht hN ?_
     obtain ⟨e,t',h'⟩:=r
     cases e with
     | nrm=>exact absurd hr (hne _)
     | ext=>exact hQ
     | ret=>exact hQ
     | pan=>exact hQ
  exact wp_loop_rounds L (key L t h a w g hr sim ht hN hQ)
 | .exit id,Q,t,h,r,a,w,g,hr,_,sim,ht,hN,hQ=>by
  simp only [codeF,Option.some.injEq] at hr
  subst hr
  exact wp_exit (hQ g a w (Le.refl g) sim ht hN rfl)
 | .ret,Q,t,h,r,a,w,g,hr,_,sim,ht,hN,hQ=>by
  simp only [codeF,Option.some.injEq] at hr
  subst hr
  exact wp_ret (hQ g a w (Le.refl g) sim ht hN rfl)
 | .scope _,_,_,_,_,_,_,_,hr,_,_,_,_,_=>by simp [codeF] at hr
 | .rangeFunc ..,_,_,_,_,_,_,_,hr,_,_,_,_,_=>by simp [codeF] at hr
 | .label _,_,_,_,_,_,_,_,hr,_,_,_,_,_=>by simp [codeF] at hr
 | .goto _,_,_,_,_,_,_,_,hr,_,_,_,_,_=>by simp [codeF] at hr
 | .refuse _,_,_,_,_,_,_,_,hr,_,_,_,_,_=>by simp [codeF] at hr
def resOf (tmps:Array Value):ResultVar→Sem Value
 | .tmp t=>pure (tmps.getD t undef)
 | .cell a t=>do loadVar t (← asAddr (tmps.getD a undef))
include F in
theorem res_rel {g:G} {h:Heap} {fr:Fr} {w:World} {t:Tm} {tmps:Array Value} (sim:Sim g h fr w) (ht:TmRel g t tmps):∀ {rs:List ResultVar} {vs:List AV},resA M.ty t h rs=some vs →
  ∃ xs:List Value,(rs.mapM (resOf tmps)).run P w=.ok xs w∧RelL g true vs xs.toArray
 | [],vs,hr=>by
  simp only [resA,Option.some.injEq] at hr
  subst hr
  exact ⟨[],rfl,RelL.nil _ _⟩
 | .tmp d::r,vs,hr=>by
  simp only [resA,Option.map_eq_some_iff] at hr
  obtain ⟨vs',hr',rfl⟩:=hr
  obtain ⟨xs,h1,h2⟩:=res_rel sim ht hr'
  exact ⟨tmps.getD d undef::xs,by simp [List.mapM_cons,resOf,h1],RelL.cons (ht d) h2⟩
 | .cell d ty::r,vs,hr=>by
  simp only [resA] at hr
  split at hr
  ·rename_i v vs' hl hr'
   simp only [Option.some.injEq] at hr
   subst hr
   obtain ⟨xs,h1,h2⟩:=res_rel sim ht hr'
   obtain ⟨B,o,y,e1,e2,e3⟩:=load_rel F sim (ht d) hl
   have hrun:(resOf tmps (.cell d ty)).run P w=.ok y w:=by simp only [resOf,e1,asAddr,Sem.run_bind,Sem.run_pure,Result.andThen_ok,e2]
   exact ⟨y::xs,by simp [List.mapM_cons,hrun,h1],RelL.cons e3 h2⟩
  ·cases hr
include F in
theorem results_rel {g:G} {h:Heap} {fr:Fr} {w:World} {t:Tm} {tmps:Array Value} (sim:Sim g h fr w) (ht:TmRel g t tmps) {fn:Func} {v:AV} (hr:resultA M.ty t h fn.results=some v) :
  ∃ x,(results fn tmps).run P w=.ok x w∧Rel g true v x:=by
 unfold resultA at hr
 cases hv:resA M.ty t h fn.results.toList with
 | none=>rw [hv] at hr;cases hr
 | some vs=>
  rw [hv] at hr
  obtain ⟨xs,h1,h2⟩:=res_rel (P:=P) F sim ht hv
  have hm:(fn.results.mapM (resOf tmps)).run P w=.ok xs.toArray w:=by
   rw [Array.mapM_eq_mapM_toList]
   simp only [Sem.run_map,h1]
   rfl
  have hres:results fn tmps=(do let vs ← fn.results.mapM (resOf tmps);pure (if h:vs.size=1 then vs[0] else .tuple vs)):=by
   have he:resOf tmps=(fun (x:ResultVar)=>match x with
    | .tmp t=>pure (tmps.getD t undef)
    | .cell a t=>do loadVar t (← asAddr (tmps.getD a undef))):=by
    funext x;cases x <;> rfl
   rw [he]
   rfl
  rw [hres]
  simp only [Sem.run_bind,hm,Result.andThen_ok]
  clear hv
  match vs,xs,h2,hr with
  | [u],[x],h2,hr=>
   simp only [Option.some.injEq] at hr
   subst hr
   refine ⟨x,?_,h2.head.1⟩
   simp
  | [],xs,h2,hr=>
   simp only [Option.some.injEq] at hr
   subst hr
   have:xs=[]:=List.eq_nil_of_length_eq_zero (by have:=h2.1;simpa using this)
   subst this
   refine ⟨.tuple #[],?_,undef_rel g⟩
   simp
  | u::u'::us,xs,h2,hr=>
   simp only [Option.some.injEq] at hr
   subst hr
   have hl:xs.toArray.size≠1:=by rw [h2.1];simp
   refine ⟨.tuple xs.toArray,?_,.tup true _ _ h2.1 h2.2⟩
   rw [dif_neg hl]
   rfl
  | [_],[],h2,_=>have:=h2.1;simp at this
  | [_],_::_::_,h2,_=>have:=h2.1;simp at this
theorem init_get:∀ (args:List AV) (k d:Nat),((Tm.init k args).get d)=if k≤d then (args[d - k]?).getD .undef else .undef
 | [],k,d=>by simp [Tm.init,Tm.get]
 | v::r,k,d=>by
  simp only [Tm.init,Tm.get]
  cases hb:Nat.beq k d with
  | true=>
   have:=nbeq.1 hb
   subst this
   simp
  | false=>
   have hne:k≠d:=fun h=>by rw [nbeq.2 h] at hb;cases hb
   rw [init_get r (k+1) d]
   by_cases hk:k≤d
   ·rw [if_pos hk,if_pos (by omega),show d - k=(d - (k+1))+1 by omega];rfl
   ·rw [if_neg hk,if_neg (by omega)]
theorem init_rel {g:G} {args:List AV} {cargs:Array Value} (h:RelL g true args cargs) (n:Nat):TmRel g (Tm.init 0 args) (cargs++Array.replicate n undef):=fun d=>by
 rw [init_get,if_pos (Nat.zero_le _),Nat.sub_zero]
 cases hd:args[d]? with
 | none=>exact .undef _ _
 | some v=>
  have hlt:d<cargs.size:=by rw [h.1];exact (List.getElem?_eq_some_iff.1 hd).1
  have hv:cargs[d]? = some cargs[d]:=Array.getElem?_eq_getElem hlt
  rw [Array.getD_eq_getD_getElem?,Array.getElem?_append_left hlt,hv]
  exact h.2 d v _ hd hv
include F hC hP in
theorem runF_ok (L:Nat):CallOK M P (runF M C L):=by
 intro f args h r h' hr
 unfold runF at hr
 split at hr
 ·cases hr
 ·rename_i fn hfn
  split at hr
  ·cases hr
  ·rename_i c hc
   split at hr
   ·rename_i hle
    have hle:=nble.1 hle
    obtain ⟨f1,f2,f3⟩:=F.fn f fn hfn
    refine ⟨⟨fn,c,hfn,hc⟩,fun g fr w cargs sim hargs => ?_⟩
    refine calls_of_wp f1 hc ?_
    have hsz:(cargs++Array.replicate (fn.ntmps - cargs.size) undef).size=fn.ntmps:=by
     have:=hargs.1
     simp;omega
    cases hcode:codeF M f fn.ntmps C L c (Tm.init 0 args,h) with
    | none=>rw [hcode] at hr;cases hr
    | some ex=>
     rw [hcode] at hr
     refine code_goes F hC hP hcode (f3 c hc) sim (init_rel hargs _) hsz ?_
     obtain ⟨e,t',h1⟩:=ex
     cases e with
     | nrm=>
      simp only [finish,Option.map_eq_some_iff] at hr
      obtain ⟨v,hv,hr⟩:=hr
      simp only [Prod.mk.injEq] at hr
      obtain ⟨rfl,rfl⟩:=hr
      intro g' a' w' b1 b2 b3 b4 b5
      obtain ⟨x,x1,x2⟩:=results_rel F b2 b3 hv
      exact ⟨b5,x,x1,g',b1,b2,x2⟩
     | ret=>
      simp only [finish,Option.map_eq_some_iff] at hr
      obtain ⟨v,hv,hr⟩:=hr
      simp only [Prod.mk.injEq] at hr
      obtain ⟨rfl,rfl⟩:=hr
      intro g' a' w' b1 b2 b3 b4 b5
      obtain ⟨x,x1,x2⟩:=results_rel F b2 b3 hv
      exact ⟨b5,x,x1,g',b1,b2,x2⟩
     | ext=>cases hr
     | pan v=>
      simp only [finish,Option.some.injEq,Prod.mk.injEq] at hr
      obtain ⟨rfl,rfl⟩:=hr
      intro g' a' w' x b1 b2 b3 b4
      exact ⟨b4,g',b1,b2,x,rfl,b3⟩
   ·cases hr
include F hP in
theorem callF_ok (hE:EffOK M P):∀ n,CallOK M P (callF M n)
 | 0=>fun f args h r h' hr=>by cases hr
 | n+1=>fun f args h r h' hr=>by
  simp only [callF] at hr
  split at hr
  ·rename_i e he
   exact hE f e he args h r h' hr
  ·exact runF_ok F (callF_ok hE n) hP n f args h r h' hr
end
theorem beq_d (a b:Nat):Nat.beq a b=decide (a=b):=by
 cases h:Nat.beq a b with
 | true=>simp [nbeq.1 h]
 | false=>have:a≠b:=fun e=>by rw [nbeq.2 e] at h;cases h
          simp [this]
theorem ble_d (a b:Nat):Nat.ble a b=decide (a≤b):=by
 cases h:Nat.ble a b with
 | true=>simp [nble.1 h]
 | false=>have:¬ a≤b:=fun e=>by rw [nble.2 e] at h;cases h
          simp [this]
theorem blt_d (a b:Nat):Nat.blt a b=decide (a<b):=by
 cases h:Nat.blt a b with
 | true=>simp [nblt.1 h]
 | false=>have:¬ a<b:=fun e=>by rw [nblt.2 e] at h;cases h
          simp [this]
theorem upTo_len (n:Nat):upTo n n=some n:=by simp [upTo]
theorem upTo_zero (n:Nat):upTo 0 n=some 0:=by simp [upTo]
theorem callF_succ (M:Par) (n:Nat) (f:FuncId) (args:List AV) (h:Heap) (he:M.eff f=none):callF M (n+1) f args h=runF M (callF M n) n f args h:=by simp only [callF,he]
def memoT:List (List AV×AV)→List AV→Option AV
 | [],_=>none
 | (a,v)::r,args=>match beqs args a with
  | true=>some v
  | false=>memoT r args
theorem memoT_some:∀ {l:List (List AV×AV)} {args:List AV} {v:AV},memoT l args=some v→(args,v)∈l
 | [],_,_,h=>by cases h
 | (a,u)::r,args,v,h=>by
  simp only [memoT] at h
  split at h
  ·rename_i hb
   simp only [Option.some.injEq] at h
   subst h
   rw [beqs_eq hb];simp
  ·exact List.mem_cons_of_mem _ (memoT_some h)
def Par.learn (M:Par) (f:FuncId) (p:List AV→Option AV):Par := { M with prim:=fun g=>match Nat.beq g f with
 | true=>some p
 | false=>M.prim g }
theorem Fits.learn {M:Par} {P:Program} (F:Fits M P) (f:FuncId) (p:List AV→Option AV):Fits (M.learn f p) P:=⟨F.ty,F.fn,F.mixed,F.fld,F.elm⟩
def Worked (M:Par) (n:Nat) (f:FuncId) (a:List AV) (v:AV):Bool:=
 (M.mode f).fresh && !(M.mode f).keepTop&&a.all AV.noRef&&(match doCall M (callF M n) f a [] with
   | some (.ret u,[])=>AV.beq u v
   | _=>false)
theorem worked {M:Par} {P:Program} (F:Fits M P) (hP:PrimOK M P) {n:Nat} {f:FuncId} {a:List AV} {v:AV} (h:Worked M n f a v=true) (hE:M.eff=fun _=>none:=by rfl) :
  (∃ fn c,M.fn f=some fn∧fn.body=some c)∧∀ g h fr w cargs,Sim g h fr w→RelL g true a cargs→Calls P f cargs w fun e w'=>∃ g',Le g g'∧Sim g' h fr w'∧RetOK g' (.ret v) e:=by
 simp only [Worked,Bool.and_eq_true,Bool.not_eq_true'] at h
 obtain ⟨⟨⟨h1,h2⟩,h3⟩,h4⟩:=h
 split at h4
 ·rename_i u hd
  have:=AV.beq_eq h4
  subst this
  have hok:=doCall_ok (callF_ok F hP (effOK_none hE) n)
  refine ⟨(hok f a [] _ _ hd).1,fun g h fr w cargs sim hargs => ?_⟩
  exact (hok f a h _ _ ((doCall_still h1 h2 h3 hd).2 h)).2 g fr w cargs sim hargs
 ·cases h4
theorem PrimOK.learn2 {M:Par} {P:Program} (hP:PrimOK M P) (f:FuncId) (l:List (List AV×AV)) (h:∀ p∈l,(∃ fn c,M.fn f=some fn∧fn.body=some c)∧∀ g h fr w cargs,Sim g h fr w→RelL g true p.1 cargs →
  Calls P f cargs w fun e w'=>∃ g',Le g g'∧Sim g' h fr w'∧RetOK g' (.ret p.2) e):PrimOK (M.learn f (memoT l)) P:=by
 intro g p hp args v hv
 simp only [Par.learn] at hp
 split at hp
 ·rename_i hg
  have hg:=nbeq.1 hg
  subst hg
  simp only [Option.some.injEq] at hp
  subst hp
  exact h _ (memoT_some hv)
 ·exact hP g p hp args v hv
end Go.Am
namespace Go.Proofs.Am12
open Go Go.Am
noncomputable def M0:Par := { M with prim:=fun _=>none }
theorem fits0:Fits M0 Tryz.prog:=⟨fits12.ty,fits12.fn,fits12.mixed,fits12.fld,fits12.elm⟩
theorem prim0:PrimOK M0 Tryz.prog:=fun f p h=>by cases h
theorem und32:und M0.ty 32=some (.slice 34):=by kernel_rfl
theorem siz34:siz M0.ty 34=3:=by kernel_rfl
theorem fn165:M0.fn 165=some Tryz.f165:=by kernel_rfl
theorem keep165_0:M0.keep 165 0=some [0]:=by kernel_rfl
theorem keep165_1:M0.keep 165 1=some [2]:=by kernel_rfl
theorem und100:und M0.ty 100=some (.slice 9):=by kernel_rfl
theorem siz9:siz M0.ty 9=1:=by kernel_rfl
theorem fn233:M0.fn 233=some Tryz.f233:=by kernel_rfl
theorem keep233_0:M0.keep 233 0=some [0]:=by kernel_rfl
theorem keep233_1:M0.keep 233 1=some [2]:=by kernel_rfl
set_option maxHeartbeats 4000000
theorem clip165a (h:Heap):callF M0 2 165 [.nils] h=some (.ret .nils,h):=by kernel_rfl
theorem clip233a (h:Heap):callF M0 2 233 [.nils] h=some (.ret .nils,h):=by kernel_rfl
theorem clip165b (es:List (List AV)) (ex:Bool) (h:Heap):callF M0 2 165 [.sl 3 ex es] h=some (.ret (.sl 3 true es),h):=by
 rw [callF_succ _ _ _ _ _ rfl]
 simp [runF,fn165,keep165_0,keep165_1,Tryz.f165,codeF,regionA,runOps,wantedA,opEx,xVal,xBuiltin,xSlice,ev,evs,ofVal,ofCell,OR.ofV,OR.ofVH,putD,Tm.get,Tm.init,Tm.only,beq_d,ble_d,blt_d,builtinA,und32,sliceA,optInt,intOf,upTo_len,upTo_zero,siz34,mxOk,finish,resultA,resA]
theorem clip165c (id gen off len:Nat) (ex:Bool) (h:Heap):callF M0 2 165 [.hs id gen 3 off len ex] h=some (.ret (.hs id gen 3 off len true),h):=by
 rw [callF_succ _ _ _ _ _ rfl]
 simp [runF,fn165,keep165_0,keep165_1,Tryz.f165,codeF,regionA,runOps,wantedA,opEx,xVal,xBuiltin,xSlice,ev,evs,ofVal,ofCell,OR.ofV,OR.ofVH,putD,Tm.get,Tm.init,Tm.only,beq_d,ble_d,blt_d,builtinA,und32,sliceA,optInt,intOf,upTo_len,upTo_zero,siz34,mxOk,finish,resultA,resA]
theorem clip233b (es:List (List AV)) (ex:Bool) (h:Heap):callF M0 2 233 [.sl 1 ex es] h=some (.ret (.sl 1 true es),h):=by
 rw [callF_succ _ _ _ _ _ rfl]
 simp [runF,fn233,keep233_0,keep233_1,Tryz.f233,codeF,regionA,runOps,wantedA,opEx,xVal,xBuiltin,xSlice,ev,evs,ofVal,ofCell,OR.ofV,OR.ofVH,putD,Tm.get,Tm.init,Tm.only,beq_d,ble_d,blt_d,builtinA,und100,sliceA,optInt,intOf,upTo_len,upTo_zero,siz9,mxOk,finish,resultA,resA]
theorem clip233c (id gen off len:Nat) (ex:Bool) (h:Heap):callF M0 2 233 [.hs id gen 1 off len ex] h=some (.ret (.hs id gen 1 off len true),h):=by
 rw [callF_succ _ _ _ _ _ rfl]
 simp [runF,fn233,keep233_0,keep233_1,Tryz.f233,codeF,regionA,runOps,wantedA,opEx,xVal,xBuiltin,xSlice,ev,evs,ofVal,ofCell,OR.ofV,OR.ofVH,putD,Tm.get,Tm.init,Tm.only,beq_d,ble_d,blt_d,builtinA,und100,sliceA,optInt,intOf,upTo_len,upTo_zero,siz9,mxOk,finish,resultA,resA]
theorem clip165 {args:List AV} {v:AV} (h:Heap) (hv:clipA 3 args=some v):callF M0 2 165 args h=some (.ret v,h):=by
 unfold clipA at hv
 split at hv
 ·simp only [Option.some.injEq] at hv;subst hv;exact clip165a h
 ·split at hv
  ·rename_i hb
   simp only [Option.some.injEq] at hv;subst hv
   have:=nbeq.1 hb;subst this
   exact clip165b _ _ h
  ·cases hv
 ·split at hv
  ·rename_i hb
   simp only [Option.some.injEq] at hv;subst hv
   have:=nbeq.1 hb;subst this
   exact clip165c _ _ _ _ _ h
  ·cases hv
 ·cases hv
theorem clip233 {args:List AV} {v:AV} (h:Heap) (hv:clipA 1 args=some v):callF M0 2 233 args h=some (.ret v,h):=by
 unfold clipA at hv
 split at hv
 ·simp only [Option.some.injEq] at hv;subst hv;exact clip233a h
 ·split at hv
  ·rename_i hb
   simp only [Option.some.injEq] at hv;subst hv
   have:=nbeq.1 hb;subst this
   exact clip233b _ _ h
  ·cases hv
 ·split at hv
  ·rename_i hb
   simp only [Option.some.injEq] at hv;subst hv
   have:=nbeq.1 hb;subst this
   exact clip233c _ _ _ _ _ h
  ·cases hv
 ·cases hv
theorem primOK:PrimOK M Tryz.prog:=by
 intro f p hp args v hv
 have key:∀ g,(∀ h,callF M0 2 g args h=some (.ret v,h))→(∃ fn c,M.fn g=some fn∧fn.body=some c)∧∀ G h fr w cargs,Sim G h fr w→RelL G true args cargs →
   Calls Tryz.prog g cargs w fun e w'=>∃ g',Le G g'∧Sim g' h fr w'∧RetOK g' (.ret v) e:=fun g hg=>
  ⟨(callF_ok fits0 prim0 (effOK_none rfl) 2 g args [] _ _ (hg [])).1,fun G h fr w cargs sim hargs=>(callF_ok fits0 prim0 (effOK_none rfl) 2 g args h _ _ (hg h)).2 G fr w cargs sim hargs⟩
 change primM f=some p at hp
 unfold primM at hp
 split at hp
 ·rename_i hf
  have:=nbeq.1 hf;subst this
  simp only [Option.some.injEq] at hp;subst hp
  exact key 165 fun h=>clip165 h hv
 ·split at hp
  ·rename_i hf
   have:=nbeq.1 hf;subst this
   simp only [Option.some.injEq] at hp;subst hp
   exact key 233 fun h=>clip233 h hv
  ·cases hp
theorem fitsA0:Fits M Tryz.prog:=fits12
theorem primA0:PrimOK M Tryz.prog:=primOK
def a174_0:List AV:=[(.sl 3 true [[(.str [77,97,121,98,101]),(.sl 1 true [[(.str [97])]]),(.sl 2 true [[(.str [78,111,110,101]),.nils],[(.str [83,111,109,101]),(.sl 5 true [[(.str [118,97,108,117,101]),(.int .i64 (0)),(.int .i64 (0)),(.str [97]),.nils]])]])],[(.str [80,97,105,114]),(.sl 1 true [[(.str [97])],[(.str [98])]]),(.sl 2 true [[(.str [80,97,105,114]),(.sl 5 true [[(.str [108,101,102,116]),(.int .i64 (0)),(.int .i64 (0)),(.str [97]),.nils],[(.str [114,105,103,104,116]),(.int .i64 (0)),(.int .i64 (0)),(.str [98]),.nils]])]])],[(.str [67,111,108,111,114]),.nils,(.sl 2 true [[(.str [82,101,100]),.nils],[(.str [71,114,101,101,110]),.nils],[(.str [66,108,117,101]),.nils]])]]),(.agg [(.int .i64 (1)),(.int .i64 (0)),(.str [80,97,105,114]),(.sl 4 true [[(.int .i64 (1)),(.int .i64 (0)),(.str [77,97,121,98,101]),(.sl 4 true [[(.int .i64 (1)),(.int .i64 (0)),(.str [67,111,108,111,114]),.nils]])],[(.int .i64 (1)),(.int .i64 (0)),(.str [66,111,111,108]),.nils]])])]
def v174_0:AV:=(.tup [(.ro [(.int .i64 (0)),(.sl 3 false [[(.str [80,97,105,114]),(.sl 5 false [[(.str [108,101,102,116]),(.int .i64 (1)),(.int .i64 (0)),(.str [77,97,121,98,101]),(.sl 4 false [[(.int .i64 (1)),(.int .i64 (0)),(.str [67,111,108,111,114]),.nils]])],[(.str [114,105,103,104,116]),(.int .i64 (1)),(.int .i64 (0)),(.str [66,111,111,108]),.nils]]),(.sl 1 false [[(.ro [(.int .i64 (0)),(.sl 3 false [[(.str [78,111,110,101]),.nils,.nils],[(.str [83,111,109,101]),(.sl 5 false [[(.str [118,97,108,117,101]),(.int .i64 (1)),(.int .i64 (0)),(.str [67,111,108,111,114]),.nils]]),(.sl 1 false [[(.ro [(.int .i64 (0)),(.sl 3 false [[(.str [82,101,100]),.nils,.nils],[(.str [71,114,101,101,110]),.nils,.nils],[(.str [66,108,117,101]),.nils,.nils]])])]])]])])],[(.ro [(.int .i64 (0)),(.sl 3 true [[(.str [70,97,108,115,101]),.nils,.nils],[(.str [84,114,117,101]),.nils,.nils]])])]])]])]),(.agg [(.sl 3 true [[(.str [77,97,121,98,101]),(.sl 1 true [[(.str [97])]]),(.sl 2 true [[(.str [78,111,110,101]),.nils],[(.str [83,111,109,101]),(.sl 5 true [[(.str [118,97,108,117,101]),(.int .i64 (0)),(.int .i64 (0)),(.str [97]),.nils]])]])],[(.str [80,97,105,114]),(.sl 1 true [[(.str [97])],[(.str [98])]]),(.sl 2 true [[(.str [80,97,105,114]),(.sl 5 true [[(.str [108,101,102,116]),(.int .i64 (0)),(.int .i64 (0)),(.str [97]),.nils],[(.str [114,105,103,104,116]),(.int .i64 (0)),(.int .i64 (0)),(.str [98]),.nils]])]])],[(.str [67,111,108,111,114]),.nils,(.sl 2 true [[(.str [82,101,100]),.nils],[(.str [71,114,101,101,110]),.nils],[(.str [66,108,117,101]),.nils]])]]),.nils]),(.int .i64 (0))])
theorem w174_0:Worked M 300 174 a174_0 v174_0=true:=by kernel_rfl
def a174_1:List AV:=[.nils,(.agg [(.int .i64 (1)),(.int .i64 (0)),(.str [66,105,116]),(.sl 4 true [[(.int .i64 (2)),(.int .i64 (2)),(.str []),.nils]])])]
def v174_1:AV:=(.tup [(.ro [(.int .i64 (2)),.nils]),(.agg [.nils,.nils]),(.int .i64 (0))])
theorem w174_1:Worked M 300 174 a174_1 v174_1=true:=by kernel_rfl
noncomputable def MA1:Par:=Par.learn M 174 (memoT [(a174_0,v174_0),(a174_1,v174_1)])
theorem fitsA1:Fits MA1 Tryz.prog:=Fits.learn fitsA0 _ _
theorem primA1:PrimOK MA1 Tryz.prog:=PrimOK.learn2 primA0 _ _ fun p hp=>by
 simp only [List.mem_cons,List.not_mem_nil,or_false] at hp
 rcases hp with rfl | rfl
 ·exact worked fitsA0 primA0 w174_0
 ·exact worked fitsA0 primA0 w174_1
def a63_0:List AV:=[(.agg [(.sl 3 true [[(.str [77,97,121,98,101]),(.sl 1 true [[(.str [97])]]),(.sl 2 true [[(.str [78,111,110,101]),.nils],[(.str [83,111,109,101]),(.sl 5 true [[(.str [118,97,108,117,101]),(.int .i64 (0)),(.int .i64 (0)),(.str [97]),.nils]])]])],[(.str [80,97,105,114]),(.sl 1 true [[(.str [97])],[(.str [98])]]),(.sl 2 true [[(.str [80,97,105,114]),(.sl 5 true [[(.str [108,101,102,116]),(.int .i64 (0)),(.int .i64 (0)),(.str [97]),.nils],[(.str [114,105,103,104,116]),(.int .i64 (0)),(.int .i64 (0)),(.str [98]),.nils]])]])],[(.str [67,111,108,111,114]),.nils,(.sl 2 true [[(.str [82,101,100]),.nils],[(.str [71,114,101,101,110]),.nils],[(.str [66,108,117,101]),.nils]])]]),(.int .i64 (1)),(.int .i64 (0)),(.str [80,97,105,114]),(.sl 4 true [[(.int .i64 (1)),(.int .i64 (0)),(.str [77,97,121,98,101]),(.sl 4 true [[(.int .i64 (1)),(.int .i64 (0)),(.str [67,111,108,111,114]),.nils]])],[(.int .i64 (1)),(.int .i64 (0)),(.str [66,111,111,108]),.nils]]),(.sl 4 true [[(.int .i64 (2)),(.int .i64 (0)),(.str [80,97,105,114]),(.sl 4 true [[(.int .i64 (2)),(.int .i64 (0)),(.str [78,111,110,101]),.nils],[(.int .i64 (0)),(.int .i64 (0)),(.str []),.nils]])],[(.int .i64 (2)),(.int .i64 (0)),(.str [80,97,105,114]),(.sl 4 true [[(.int .i64 (2)),(.int .i64 (0)),(.str [83,111,109,101]),(.sl 4 true [[(.int .i64 (2)),(.int .i64 (0)),(.str [82,101,100]),.nils]])],[(.int .i64 (2)),(.int .i64 (0)),(.str [84,114,117,101]),.nils]])],[(.int .i64 (2)),(.int .i64 (0)),(.str [80,97,105,114]),(.sl 4 true [[(.int .i64 (2)),(.int .i64 (0)),(.str [83,111,109,101]),(.sl 4 true [[(.int .i64 (1)),(.int .i64 (0)),(.str [120]),.nils]])],[(.int .i64 (2)),(.int .i64 (0)),(.str [70,97,108,115,101]),.nils]])]])])]
def v63_0:AV:=(.tup [(.ro [(.int .i64 (0)),(.sl 2 false [[(.str [80,97,105,114]),(.sl 1 false [[(.ro [(.int .i64 (0)),(.sl 2 false [[(.str [78,111,110,101]),.nils],[(.str [83,111,109,101]),(.sl 1 false [[(.ro [(.int .i64 (0)),(.sl 2 false [[(.str [82,101,100]),.nils],[(.str [71,114,101,101,110]),.nils],[(.str [66,108,117,101]),.nils]])])]])]])])],[(.ro [(.int .i64 (0)),(.sl 2 true [[(.str [70,97,108,115,101]),.nils],[(.str [84,114,117,101]),.nils]])])]])]])]),(.int .i64 (0))])
theorem w63_0:Worked MA1 300 63 a63_0 v63_0=true:=by kernel_rfl
def a63_1:List AV:=[(.agg [.nils,(.int .i64 (1)),(.int .i64 (0)),(.str [66,105,116]),(.sl 4 true [[(.int .i64 (2)),(.int .i64 (2)),(.str []),.nils]]),(.sl 4 true [[(.int .i64 (3)),(.int .i64 (1)),(.str []),.nils],[(.int .i64 (0)),(.int .i64 (0)),(.str []),.nils],[(.int .i64 (3)),(.int .i64 (3)),(.str []),.nils]])])]
def v63_1:AV:=(.tup [(.ro [(.int .i64 (2)),.nils]),(.int .i64 (0))])
theorem w63_1:Worked MA1 300 63 a63_1 v63_1=true:=by kernel_rfl
noncomputable def MA2:Par:=Par.learn MA1 63 (memoT [(a63_0,v63_0),(a63_1,v63_1)])
theorem fitsA2:Fits MA2 Tryz.prog:=Fits.learn fitsA1 _ _
theorem primA2:PrimOK MA2 Tryz.prog:=PrimOK.learn2 primA1 _ _ fun p hp=>by
 simp only [List.mem_cons,List.not_mem_nil,or_false] at hp
 rcases hp with rfl | rfl
 ·exact worked fitsA1 primA1 w63_0
 ·exact worked fitsA1 primA1 w63_1
def a14_0:List AV:=[(.agg [(.sl 3 true [[(.str [77,97,121,98,101]),(.sl 1 true [[(.str [97])]]),(.sl 2 true [[(.str [78,111,110,101]),.nils],[(.str [83,111,109,101]),(.sl 5 true [[(.str [118,97,108,117,101]),(.int .i64 (0)),(.int .i64 (0)),(.str [97]),.nils]])]])],[(.str [80,97,105,114]),(.sl 1 true [[(.str [97])],[(.str [98])]]),(.sl 2 true [[(.str [80,97,105,114]),(.sl 5 true [[(.str [108,101,102,116]),(.int .i64 (0)),(.int .i64 (0)),(.str [97]),.nils],[(.str [114,105,103,104,116]),(.int .i64 (0)),(.int .i64 (0)),(.str [98]),.nils]])]])],[(.str [67,111,108,111,114]),.nils,(.sl 2 true [[(.str [82,101,100]),.nils],[(.str [71,114,101,101,110]),.nils],[(.str [66,108,117,101]),.nils]])]]),(.int .i64 (1)),(.int .i64 (0)),(.str [80,97,105,114]),(.sl 4 true [[(.int .i64 (1)),(.int .i64 (0)),(.str [77,97,121,98,101]),(.sl 4 true [[(.int .i64 (1)),(.int .i64 (0)),(.str [67,111,108,111,114]),.nils]])],[(.int .i64 (1)),(.int .i64 (0)),(.str [66,111,111,108]),.nils]]),(.sl 4 true [[(.int .i64 (2)),(.int .i64 (0)),(.str [80,97,105,114]),(.sl 4 true [[(.int .i64 (2)),(.int .i64 (0)),(.str [78,111,110,101]),.nils],[(.int .i64 (0)),(.int .i64 (0)),(.str []),.nils]])],[(.int .i64 (2)),(.int .i64 (0)),(.str [80,97,105,114]),(.sl 4 true [[(.int .i64 (2)),(.int .i64 (0)),(.str [83,111,109,101]),(.sl 4 true [[(.int .i64 (2)),(.int .i64 (0)),(.str [82,101,100]),.nils]])],[(.int .i64 (2)),(.int .i64 (0)),(.str [84,114,117,101]),.nils]])],[(.int .i64 (2)),(.int .i64 (0)),(.str [80,97,105,114]),(.sl 4 true [[(.int .i64 (2)),(.int .i64 (0)),(.str [83,111,109,101]),(.sl 4 true [[(.int .i64 (1)),(.int .i64 (0)),(.str [120]),.nils]])],[(.int .i64 (2)),(.int .i64 (0)),(.str [70,97,108,115,101]),.nils]])]])])]
def v14_0:AV:=(.tup [(.agg [(.str [80,97,105,114]),(.int .i64 (0)),(.sl 3 false [[(.str [83,111,109,101]),(.int .i64 (0)),(.sl 3 false [[(.str [71,114,101,101,110]),(.int .i64 (0)),.nils]])],[(.str [84,114,117,101]),(.int .i64 (0)),.nils]])]),(.int .i64 (0))])
theorem w14_0:Worked MA2 300 14 a14_0 v14_0=true:=by kernel_rfl
def a17_0:List AV:=[(.agg [(.sl 3 true [[(.str [77,97,121,98,101]),(.sl 1 true [[(.str [97])]]),(.sl 2 true [[(.str [78,111,110,101]),.nils],[(.str [83,111,109,101]),(.sl 5 true [[(.str [118,97,108,117,101]),(.int .i64 (0)),(.int .i64 (0)),(.str [97]),.nils]])]])],[(.str [80,97,105,114]),(.sl 1 true [[(.str [97])],[(.str [98])]]),(.sl 2 true [[(.str [80,97,105,114]),(.sl 5 true [[(.str [108,101,102,116]),(.int .i64 (0)),(.int .i64 (0)),(.str [97]),.nils],[(.str [114,105,103,104,116]),(.int .i64 (0)),(.int .i64 (0)),(.str [98]),.nils]])]])],[(.str [67,111,108,111,114]),.nils,(.sl 2 true [[(.str [82,101,100]),.nils],[(.str [71,114,101,101,110]),.nils],[(.str [66,108,117,101]),.nils]])]]),(.int .i64 (1)),(.int .i64 (0)),(.str [80,97,105,114]),(.sl 4 true [[(.int .i64 (1)),(.int .i64 (0)),(.str [77,97,121,98,101]),(.sl 4 true [[(.int .i64 (1)),(.int .i64 (0)),(.str [67,111,108,111,114]),.nils]])],[(.int .i64 (1)),(.int .i64 (0)),(.str [66,111,111,108]),.nils]]),(.sl 4 true [[(.int .i64 (2)),(.int .i64 (0)),(.str [80,97,105,114]),(.sl 4 true [[(.int .i64 (2)),(.int .i64 (0)),(.str [78,111,110,101]),.nils],[(.int .i64 (0)),(.int .i64 (0)),(.str []),.nils]])],[(.int .i64 (2)),(.int .i64 (0)),(.str [80,97,105,114]),(.sl 4 true [[(.int .i64 (2)),(.int .i64 (0)),(.str [83,111,109,101]),(.sl 4 true [[(.int .i64 (2)),(.int .i64 (0)),(.str [82,101,100]),.nils]])],[(.int .i64 (2)),(.int .i64 (0)),(.str [84,114,117,101]),.nils]])],[(.int .i64 (2)),(.int .i64 (0)),(.str [80,97,105,114]),(.sl 4 true [[(.int .i64 (2)),(.int .i64 (0)),(.str [83,111,109,101]),(.sl 4 true [[(.int .i64 (1)),(.int .i64 (0)),(.str [120]),.nils]])],[(.int .i64 (2)),(.int .i64 (0)),(.str [70,97,108,115,101]),.nils]])]])])]
def v17_0:AV:=(.tup [(.sl 1 false [[(.int .i64 (2))],[(.int .i64 (1))],[(.int .i64 (3))]]),(.int .i64 (0))])
theorem w17_0:Worked MA2 300 17 a17_0 v17_0=true:=by kernel_rfl
def a17_1:List AV:=[(.agg [.nils,(.int .i64 (1)),(.int .i64 (0)),(.str [66,105,116]),(.sl 4 true [[(.int .i64 (2)),(.int .i64 (2)),(.str []),.nils]]),(.sl 4 true [[(.int .i64 (3)),(.int .i64 (1)),(.str []),.nils],[(.int .i64 (0)),(.int .i64 (0)),(.str []),.nils],[(.int .i64 (3)),(.int .i64 (3)),(.str []),.nils]])])]
def v17_1:AV:=(.tup [(.sl 1 false [[(.int .i64 (1))],[(.int .i64 (3))],[(.int .i64 (0))]]),(.int .i64 (0))])
theorem w17_1:Worked MA2 300 17 a17_1 v17_1=true:=by kernel_rfl
noncomputable def MA3:Par:=Par.learn MA2 14 (memoT [(a14_0,v14_0)])
theorem fitsA3:Fits MA3 Tryz.prog:=Fits.learn fitsA2 _ _
theorem primA3:PrimOK MA3 Tryz.prog:=PrimOK.learn2 primA2 _ _ fun p hp=>by
 simp only [List.mem_cons,List.not_mem_nil,or_false] at hp
 subst hp
 exact worked fitsA2 primA2 w14_0
noncomputable def MA4:Par:=Par.learn MA3 17 (memoT [(a17_0,v17_0),(a17_1,v17_1)])
theorem fitsA4:Fits MA4 Tryz.prog:=Fits.learn fitsA3 _ _
theorem primA4:PrimOK MA4 Tryz.prog:=PrimOK.learn2 primA3 _ _ fun p hp=>by
 simp only [List.mem_cons,List.not_mem_nil,or_false] at hp
 rcases hp with rfl | rfl
 ·exact worked fitsA2 primA2 w17_0
 ·exact worked fitsA2 primA2 w17_1
def a27_0:List AV:=[(.agg [(.sl 3 true [[(.str [77,97,121,98,101]),(.sl 1 true [[(.str [97])]]),(.sl 2 true [[(.str [78,111,110,101]),.nils],[(.str [83,111,109,101]),(.sl 5 true [[(.str [118,97,108,117,101]),(.int .i64 (0)),(.int .i64 (0)),(.str [97]),.nils]])]])],[(.str [80,97,105,114]),(.sl 1 true [[(.str [97])],[(.str [98])]]),(.sl 2 true [[(.str [80,97,105,114]),(.sl 5 true [[(.str [108,101,102,116]),(.int .i64 (0)),(.int .i64 (0)),(.str [97]),.nils],[(.str [114,105,103,104,116]),(.int .i64 (0)),(.int .i64 (0)),(.str [98]),.nils]])]])],[(.str [67,111,108,111,114]),.nils,(.sl 2 true [[(.str [82,101,100]),.nils],[(.str [71,114,101,101,110]),.nils],[(.str [66,108,117,101]),.nils]])]]),(.int .i64 (1)),(.int .i64 (0)),(.str [80,97,105,114]),(.sl 4 true [[(.int .i64 (1)),(.int .i64 (0)),(.str [77,97,121,98,101]),(.sl 4 true [[(.int .i64 (1)),(.int .i64 (0)),(.str [67,111,108,111,114]),.nils]])],[(.int .i64 (1)),(.int .i64 (0)),(.str [66,111,111,108]),.nils]]),(.sl 4 true [[(.int .i64 (2)),(.int .i64 (0)),(.str [80,97,105,114]),(.sl 4 true [[(.int .i64 (2)),(.int .i64 (0)),(.str [78,111,110,101]),.nils],[(.int .i64 (0)),(.int .i64 (0)),(.str []),.nils]])],[(.int .i64 (2)),(.int .i64 (0)),(.str [80,97,105,114]),(.sl 4 true [[(.int .i64 (2)),(.int .i64 (0)),(.str [83,111,109,101]),(.sl 4 true [[(.int .i64 (2)),(.int .i64 (0)),(.str [82,101,100]),.nils]])],[(.int .i64 (2)),(.int .i64 (0)),(.str [84,114,117,101]),.nils]])],[(.int .i64 (2)),(.int .i64 (0)),(.str [80,97,105,114]),(.sl 4 true [[(.int .i64 (2)),(.int .i64 (0)),(.str [83,111,109,101]),(.sl 4 true [[(.int .i64 (1)),(.int .i64 (0)),(.str [120]),.nils]])],[(.int .i64 (2)),(.int .i64 (0)),(.str [70,97,108,115,101]),.nils]])]])])]
def v27_0:AV:=(.tup [(.sl 4 false [[(.int .i64 (-1)),(.sl 1 true [[(.int .i64 (0))]]),(.sl 3 false [[(.str [78,111,110,101]),(.int .i64 (0)),(.int .i64 (1))],[(.str [83,111,109,101]),(.int .i64 (0)),(.int .i64 (2))]]),(.int .i64 (-1))],[(.int .i64 (0)),.nils,.nils,(.int .i64 (-1))],[(.int .i64 (-1)),(.sl 1 false [[(.int .i64 (0))],[(.int .i64 (0))]]),(.sl 3 false [[(.str [82,101,100]),(.int .i64 (0)),(.int .i64 (3))],[(.str [71,114,101,101,110]),(.int .i64 (0)),(.int .i64 (6))],[(.str [66,108,117,101]),(.int .i64 (0)),(.int .i64 (9))]]),(.int .i64 (-1))],[(.int .i64 (-1)),(.sl 1 true [[(.int .i64 (1))]]),(.sl 3 false [[(.str [70,97,108,115,101]),(.int .i64 (0)),(.int .i64 (4))],[(.str [84,114,117,101]),(.int .i64 (0)),(.int .i64 (5))]]),(.int .i64 (-1))],[(.int .i64 (2)),.nils,.nils,(.int .i64 (-1))],[(.int .i64 (1)),.nils,.nils,(.int .i64 (-1))],[(.int .i64 (-1)),(.sl 1 true [[(.int .i64 (1))]]),(.sl 3 false [[(.str [70,97,108,115,101]),(.int .i64 (0)),(.int .i64 (7))],[(.str [84,114,117,101]),(.int .i64 (0)),(.int .i64 (8))]]),(.int .i64 (-1))],[(.int .i64 (2)),.nils,.nils,(.int .i64 (-1))],[(.int .i64 (-1)),.nils,.nils,(.int .i64 (-1))],[(.int .i64 (-1)),(.sl 1 true [[(.int .i64 (1))]]),(.sl 3 false [[(.str [70,97,108,115,101]),(.int .i64 (0)),(.int .i64 (10))],[(.str [84,114,117,101]),(.int .i64 (0)),(.int .i64 (11))]]),(.int .i64 (-1))],[(.int .i64 (2)),.nils,.nils,(.int .i64 (-1))],[(.int .i64 (-1)),.nils,.nils,(.int .i64 (-1))]]),(.int .i64 (0))])
theorem w27_0:Worked MA4 300 27 a27_0 v27_0=true:=by kernel_rfl
noncomputable def MA5:Par:=Par.learn MA4 27 (memoT [(a27_0,v27_0)])
theorem fitsA5:Fits MA5 Tryz.prog:=Fits.learn fitsA4 _ _
theorem primA5:PrimOK MA5 Tryz.prog:=PrimOK.learn2 primA4 _ _ fun p hp=>by
 simp only [List.mem_cons,List.not_mem_nil,or_false] at hp
 subst hp
 exact worked fitsA4 primA4 w27_0
def a43_0:List AV:=[(.agg [(.sl 3 true [[(.str [77,97,121,98,101]),(.sl 1 true [[(.str [97])]]),(.sl 2 true [[(.str [78,111,110,101]),.nils],[(.str [83,111,109,101]),(.sl 5 true [[(.str [118,97,108,117,101]),(.int .i64 (0)),(.int .i64 (0)),(.str [97]),.nils]])]])],[(.str [80,97,105,114]),(.sl 1 true [[(.str [97])],[(.str [98])]]),(.sl 2 true [[(.str [80,97,105,114]),(.sl 5 true [[(.str [108,101,102,116]),(.int .i64 (0)),(.int .i64 (0)),(.str [97]),.nils],[(.str [114,105,103,104,116]),(.int .i64 (0)),(.int .i64 (0)),(.str [98]),.nils]])]])],[(.str [67,111,108,111,114]),.nils,(.sl 2 true [[(.str [82,101,100]),.nils],[(.str [71,114,101,101,110]),.nils],[(.str [66,108,117,101]),.nils]])]]),(.int .i64 (1)),(.int .i64 (0)),(.str [80,97,105,114]),(.sl 4 true [[(.int .i64 (1)),(.int .i64 (0)),(.str [77,97,121,98,101]),(.sl 4 true [[(.int .i64 (1)),(.int .i64 (0)),(.str [67,111,108,111,114]),.nils]])],[(.int .i64 (1)),(.int .i64 (0)),(.str [66,111,111,108]),.nils]]),(.sl 4 true [[(.int .i64 (2)),(.int .i64 (0)),(.str [80,97,105,114]),(.sl 4 true [[(.int .i64 (2)),(.int .i64 (0)),(.str [78,111,110,101]),.nils],[(.int .i64 (0)),(.int .i64 (0)),(.str []),.nils]])],[(.int .i64 (2)),(.int .i64 (0)),(.str [80,97,105,114]),(.sl 4 true [[(.int .i64 (2)),(.int .i64 (0)),(.str [83,111,109,101]),(.sl 4 true [[(.int .i64 (2)),(.int .i64 (0)),(.str [82,101,100]),.nils]])],[(.int .i64 (2)),(.int .i64 (0)),(.str [84,114,117,101]),.nils]])],[(.int .i64 (2)),(.int .i64 (0)),(.str [80,97,105,114]),(.sl 4 true [[(.int .i64 (2)),(.int .i64 (0)),(.str [83,111,109,101]),(.sl 4 true [[(.int .i64 (1)),(.int .i64 (0)),(.str [120]),.nils]])],[(.int .i64 (2)),(.int .i64 (0)),(.str [70,97,108,115,101]),.nils]])]])]),(.agg [(.str [80,97,105,114]),(.int .i64 (0)),(.sl 3 true [[(.str [83,111,109,101]),(.int .i64 (0)),(.sl 3 true [[(.str [66,108,117,101]),(.int .i64 (0)),.nils]])],[(.str [70,97,108,115,101]),(.int .i64 (0)),.nils]])])]
def v43_0:AV:=(.tup [(.int .i64 (2)),(.int .i64 (0))])
theorem w43_0:Worked MA5 300 43 a43_0 v43_0=true:=by kernel_rfl
def a16_0:List AV:=[(.agg [.nils,(.int .i64 (1)),(.int .i64 (0)),(.str [66,105,116]),(.sl 4 true [[(.int .i64 (2)),(.int .i64 (2)),(.str []),.nils]]),(.sl 4 true [[(.int .i64 (3)),(.int .i64 (1)),(.str []),.nils],[(.int .i64 (0)),(.int .i64 (0)),(.str []),.nils],[(.int .i64 (3)),(.int .i64 (3)),(.str []),.nils]])])]
def v16_0:AV:=(.tup [(.sl 1 false [[(.int .i64 (2))]]),(.int .i64 (0))])
theorem w16_0:Worked MA5 300 16 a16_0 v16_0=true:=by kernel_rfl
noncomputable def MA6:Par:=Par.learn MA5 43 (memoT [(a43_0,v43_0)])
theorem fitsA6:Fits MA6 Tryz.prog:=Fits.learn fitsA5 _ _
theorem primA6:PrimOK MA6 Tryz.prog:=PrimOK.learn2 primA5 _ _ fun p hp=>by
 simp only [List.mem_cons,List.not_mem_nil,or_false] at hp
 subst hp
 exact worked fitsA5 primA5 w43_0
noncomputable def MA7:Par:=Par.learn MA6 16 (memoT [(a16_0,v16_0)])
theorem fitsA7:Fits MA7 Tryz.prog:=Fits.learn fitsA6 _ _
theorem primA7:PrimOK MA7 Tryz.prog:=PrimOK.learn2 primA6 _ _ fun p hp=>by
 simp only [List.mem_cons,List.not_mem_nil,or_false] at hp
 subst hp
 exact worked fitsA5 primA5 w16_0
def a10_0:List AV:=[]
def v10_0:AV:=(.bool true)
theorem w10_0:Worked MA7 300 10 a10_0 v10_0=true:=by kernel_rfl
noncomputable def MW:Par:=Par.learn M 10 (memoT [([],.bool true)])
theorem fitsW:Fits MW Tryz.prog:=Fits.learn fits12 _ _
theorem primW:PrimOK MW Tryz.prog:=PrimOK.learn2 primOK _ _ fun p hp=>by
 simp only [List.mem_cons,List.not_mem_nil,or_false] at hp
 subst hp
 exact worked fitsA7 primA7 w10_0
end Go.Proofs.Am12
