/- The abstract machine of this claim, part 9. -/
import Derived.Test.YtggemipepaajmaaGreatAll8
import Derived.LoopN
set_option linter.unusedSimpArgs false
set_option linter.unusedVariables false
set_option linter.unusedSectionVars false
set_option linter.unnecessarySimpa false
namespace Go.Am
open Go
section
variable {M:Par} {P:Program}
def KZ (Q:Exit→Act→World→Prop) (g:G) (fr:Fr) (N:Nat) (df:List Deferred):Ex×St→Prop
 | (.nrm,(t,h))=>∀ g' a' w',Le g g'→Sim g' h fr w'→DR g' t a'.tmps→a'.tmps.size=N→a'.defers=df→Q .normal a' w'
 | (.ext j,(t,h))=>∀ g' a' w',Le g g'→Sim g' h fr w'→DR g' t a'.tmps→a'.tmps.size=N→a'.defers=df→Q (.exit j) a' w'
 | (.ret,(t,h))=>∀ g' a' w',Le g g'→Sim g' h fr w'→DR g' t a'.tmps→a'.tmps.size=N→a'.defers=df→Q .ret a' w'
 | (.pan v,(_,h))=>∀ g' a' w' x,Le g g'→Sim g' h fr w'→Rel g' true v x→a'.defers=df→Q (.panic [{ v:=x,recovered:=false }]) a' w'
theorem KZ.le {Q:Exit→Act→World→Prop} {g g1:G} {fr:Fr} {N:Nat} {df:List Deferred} {r:Ex×St} (h:KZ Q g fr N df r) (hg:Le g g1):KZ Q g1 fr N df r:=by
 obtain ⟨e,t,hh⟩:=r
 cases e with
 | nrm=>exact fun g' a' w' b1 b2 b3 b4 b5=>h g' a' w' (hg.trans b1) b2 b3 b4 b5
 | ext=>exact fun g' a' w' b1 b2 b3 b4 b5=>h g' a' w' (hg.trans b1) b2 b3 b4 b5
 | ret=>exact fun g' a' w' b1 b2 b3 b4 b5=>h g' a' w' (hg.trans b1) b2 b3 b4 b5
 | pan=>exact fun g' a' w' x b1 b2 b3 b4=>h g' a' w' x (hg.trans b1) b2 b3 b4
variable (F:Fits M P) {C:CH} (hC:Hl M P C) (hP:Ce M P)
theorem SD {g:G} {t:Tm} {tmps:Array Value} (h:DR g t tmps) (l:List Nat):DR g (t.only l) tmps:=fun d=>by
 by_cases hm:d∈l
 ·rw [(G0 t l d).1 hm];exact h d
 ·rw [(G0 t l d).2 hm];exact .undef _ _
include F hC hP in
theorem M9 {fid N id:Nat} {ops:Array Oper} {d:Bool} {Q:Exit→Act→World→Prop} {fr:Fr} {t:Tm} {h:AE} {r:Ex×St} {a:Act} {w:World} {g:G} (hr:Ba M fid N C id ops d (t,h)=some r) (hok:okC (.region id ops d)=true)
  (sim:Sim g h fr w) (ht:DR g t a.tmps) (hN:a.tmps.size=N) (hQ:KZ Q g fr N a.defers r):(Code.region id ops d).wp P Q a w:=by
 unfold Ba at hr
 split at hr
 ·rename_i t' h' ks hro
  split at hr
  ·rename_i hdr
   have hQ':∀ g' a' w',Le g g'→Sim g' h' fr w'→DR g' t' a'.tmps→a'.tmps.size=N→a'.defers=a.defers→Q .normal a' w':=by
    split at hr <;> simp only [Option.some.injEq] at hr <;> subst hr
    ·exact fun g' a' w' b1 b2 b3 b4 b5=>hQ g' a' w' b1 b2 (SD b3 _) b4 b5
    ·exact hQ
   cases d with
   | false=>exact wp_region_list (IB F hC hP hro sim ht hN hQ')
   | true=>
    simp only [okC,Bool.not_true,Bool.false_or,Bool.and_eq_true] at hok
    exact wp_region_any F.mixed (Qr F hC hP hro hdr hok.2 hok.1 (sim.drew _) ht hN hQ')
  ·cases hr
 ·rename_i v h' hro
  cases d with
  | false=>
   simp only [Option.some.injEq] at hr
   subst hr
   exact wp_region_list (IB F hC hP hro sim ht hN hQ)
  | true=>cases hr
 ·cases hr
include F hC hP in
theorem EV {fid N L:Nat} {fr:Fr}:∀ {c:Code} {Q:Exit→Act→World→Prop} {t:Tm} {h:AE} {r:Ex×St} {a:Act} {w:World} {g:G},codeF M fid N C L c (t,h)=some r→okC c=true→Sim g h fr w→DR g t a.tmps→a.tmps.size=N →
  KZ Q g fr N a.defers r→c.wp P Q a w
 | .skip,Q,t,h,r,a,w,g,hr,_,sim,ht,hN,hQ=>by
  simp only [codeF,Option.some.injEq] at hr
  subst hr
  exact wp_skip (hQ g a w (Le.refl g) sim ht hN rfl)
 | .region id ops d,Q,t,h,r,a,w,g,hr,hok,sim,ht,hN,hQ=>by
  simp only [codeF] at hr
  exact M9 F hC hP hr hok sim ht hN hQ
 | .seq x y,Q,t,h,r,a,w,g,hr,hok,sim,ht,hN,hQ=>by
  simp only [okC,Bool.and_eq_true] at hok
  simp only [codeF] at hr
  refine wp_seq ?_
  split at hr
  ·rename_i s' hx
   obtain ⟨t',h'⟩:=s'
   refine EV hx hok.1 sim ht hN (fun g' a' w' b1 b2 b3 b4 b5 => ?_)
   exact EV hr hok.2 b2 b3 b4 (by rw [b5];exact hQ.le b1)
  ·rename_i hne
   refine EV hr hok.1 sim ht hN ?_
   obtain ⟨e,t',h'⟩:=r
   cases e with
   | nrm=>exact absurd hr (hne _)
   | ext=>exact hQ
   | ret=>exact hQ
   | pan=>exact hQ
 | .cond c x y,Q,t,h,r,a,w,g,hr,hok,sim,ht,hN,hQ=>by
  simp only [okC,Bool.and_eq_true] at hok
  simp only [codeF] at hr
  split at hr
  ·rename_i hc
   have hv:=BN ht hc
   cases hx:a.eval c <;> rw [hx] at hv <;> cases hv
   exact wp_cond_true hx (EV hr hok.1 sim ht hN hQ)
  ·rename_i hc
   have hv:=BN ht hc
   cases hx:a.eval c <;> rw [hx] at hv <;> cases hv
   exact wp_cond_false hx (EV hr hok.2 sim ht hN hQ)
  ·cases hr
 | .block id c,Q,t,h,r,a,w,g,hr,hok,sim,ht,hN,hQ=>by
  simp only [okC] at hok
  simp only [codeF] at hr
  refine wp_block ?_
  split at hr
  ·rename_i j s' hx
   obtain ⟨t',h'⟩:=s'
   refine EV hx hok sim ht hN ?_
   split at hr
   ·rename_i hj
    have hj:=Bl.1 hj
    simp only [Option.some.injEq] at hr
    subst hr
    intro g' a' w' b1 b2 b3 b4 b5
    simp only [Exit.inBlock,hj,if_true]
    exact hQ g' a' w' b1 b2 b3 b4 b5
   ·rename_i hj
    simp only [Option.some.injEq] at hr
    subst hr
    intro g' a' w' b1 b2 b3 b4 b5
    have hne:j≠id:=fun e=>by rw [Bl.2 e] at hj;cases hj
    simp only [Exit.inBlock,hne,if_false]
    exact hQ g' a' w' b1 b2 b3 b4 b5
  ·rename_i hne
   refine EV hr hok sim ht hN ?_
   obtain ⟨e,t',h'⟩:=r
   cases e with
   | nrm=>exact hQ
   | ext j=>exact absurd hr (hne _ _)
   | ret=>exact hQ
   | pan=>exact hQ
 | .loop c,Q,t,h,r,a,w,g,hr,hok,sim,ht,hN,hQ=>by
  simp only [okC] at hok
  simp only [codeF] at hr
  have key:∀ n (t:Tm) (h:AE) (a:Act) (w:World) (g:G),iter n (codeF M fid N C L c) (t,h)=some r→Sim g h fr w→DR g t a.tmps→a.tmps.size=N→KZ Q g fr N a.defers r→Code.rounds P c Q n a w:=by
   intro n
   induction n with
   | zero=>intro t h a w g hr;cases hr
   | succ n ih=>
    intro t h a w g hr sim ht hN hQ
    rw [rounds_succ]
    simp only [iter] at hr
    split at hr
    ·rename_i s' hx
     obtain ⟨t',h'⟩:=s'
     refine EV hx hok sim ht hN (fun g' a' w' b1 b2 b3 b4 b5 => ?_)
     exact ih t' h' a' w' g' hr b2 b3 b4 (by rw [b5];exact hQ.le b1)
    ·rename_i hne
     refine EV hr hok sim ht hN ?_
     obtain ⟨e,t',h'⟩:=r
     cases e with
     | nrm=>exact absurd hr (hne _)
     | ext=>exact hQ
     | ret=>exact hQ
     | pan=>exact hQ
  exact wp_loop_rounds L (key L t h a w g hr sim ht hN hQ)
 | .exit id,Q,t,h,r,a,w,g,hr,_,sim,ht,hN,hQ=>by
  simp only [codeF,Option.some.injEq] at hr
  subst hr
  exact wp_exit (hQ g a w (Le.refl g) sim ht hN rfl)
 | .ret,Q,t,h,r,a,w,g,hr,_,sim,ht,hN,hQ=>by
  simp only [codeF,Option.some.injEq] at hr
  subst hr
  exact wp_ret (hQ g a w (Le.refl g) sim ht hN rfl)
 | .scope _,_,_,_,_,_,_,_,hr,_,_,_,_,_=>by simp [codeF] at hr
 | .rangeFunc ..,_,_,_,_,_,_,_,hr,_,_,_,_,_=>by simp [codeF] at hr
 | .label _,_,_,_,_,_,_,_,hr,_,_,_,_,_=>by simp [codeF] at hr
 | .goto _,_,_,_,_,_,_,_,hr,_,_,_,_,_=>by simp [codeF] at hr
 | .refuse _,_,_,_,_,_,_,_,hr,_,_,_,_,_=>by simp [codeF] at hr
def Ka (tmps:Array Value):ResultVar→Sem Value
 | .tmp t=>pure (tmps.getD t undef)
 | .cell a t=>do loadVar t (← asAddr (tmps.getD a undef))
include F in
theorem MM {g:G} {h:AE} {fr:Fr} {w:World} {t:Tm} {tmps:Array Value} (sim:Sim g h fr w) (ht:DR g t tmps):∀ {rs:List ResultVar} {vs:List AV},Cg M.ty t h rs=some vs →
  ∃ xs:List Value,(rs.mapM (Ka tmps)).run P w=.ok xs w∧Aq g true vs xs.toArray
 | [],vs,hr=>by
  simp only [Cg,Option.some.injEq] at hr
  subst hr
  exact ⟨[],rfl,Aq.nil _ _⟩
 | .tmp d::r,vs,hr=>by
  simp only [Cg,Option.map_eq_some_iff] at hr
  obtain ⟨vs',hr',rfl⟩:=hr
  obtain ⟨xs,h1,h2⟩:=MM sim ht hr'
  exact ⟨tmps.getD d undef::xs,by simp [List.mapM_cons,Ka,h1],Aq.cons (ht d) h2⟩
 | .cell d ty::r,vs,hr=>by
  simp only [Cg] at hr
  split at hr
  ·rename_i v vs' hl hr'
   simp only [Option.some.injEq] at hr
   subst hr
   obtain ⟨xs,h1,h2⟩:=MM sim ht hr'
   obtain ⟨B,o,y,e1,e2,e3⟩:=Mt F sim (ht d) hl
   have hrun:(Ka tmps (.cell d ty)).run P w=.ok y w:=by simp only [Ka,e1,asAddr,Sem.run_bind,Sem.run_pure,Result.andThen_ok,e2]
   exact ⟨y::xs,by simp [List.mapM_cons,hrun,h1],Aq.cons e3 h2⟩
  ·cases hr
include F in
theorem Jr {g:G} {h:AE} {fr:Fr} {w:World} {t:Tm} {tmps:Array Value} (sim:Sim g h fr w) (ht:DR g t tmps) {fn:Func} {v:AV} (hr:CB M.ty t h fn.results=some v) :
  ∃ x,(results fn tmps).run P w=.ok x w∧Rel g true v x:=by
 unfold CB at hr
 cases hv:Cg M.ty t h fn.results.toList with
 | none=>rw [hv] at hr;cases hr
 | some vs=>
  rw [hv] at hr
  obtain ⟨xs,h1,h2⟩:=MM (P:=P) F sim ht hv
  have hm:(fn.results.mapM (Ka tmps)).run P w=.ok xs.toArray w:=by
   rw [Array.mapM_eq_mapM_toList]
   simp only [Sem.run_map,h1]
   rfl
  have hres:results fn tmps=(do let vs ← fn.results.mapM (Ka tmps);pure (if h:vs.size=1 then vs[0] else .tuple vs)):=by
   have he:Ka tmps=(fun (x:ResultVar)=>match x with
    | .tmp t=>pure (tmps.getD t undef)
    | .cell a t=>do loadVar t (← asAddr (tmps.getD a undef))):=by
    funext x;cases x <;> rfl
   rw [he]
   rfl
  rw [hres]
  simp only [Sem.run_bind,hm,Result.andThen_ok]
  clear hv
  match vs,xs,h2,hr with
  | [u],[x],h2,hr=>
   simp only [Option.some.injEq] at hr
   subst hr
   refine ⟨x,?_,h2.head.1⟩
   simp
  | [],xs,h2,hr=>
   simp only [Option.some.injEq] at hr
   subst hr
   have:xs=[]:=List.eq_nil_of_length_eq_zero (by have:=h2.1;simpa using this)
   subst this
   refine ⟨.tuple #[],?_,Ja g⟩
   simp
  | u::u'::us,xs,h2,hr=>
   simp only [Option.some.injEq] at hr
   subst hr
   have hl:xs.toArray.size≠1:=by rw [h2.1];simp
   refine ⟨.tuple xs.toArray,?_,.tup true _ _ h2.1 h2.2⟩
   rw [dif_neg hl]
   rfl
  | [_],[],h2,_=>have:=h2.1;simp at this
  | [_],_::_::_,h2,_=>have:=h2.1;simp at this
theorem NA:∀ (args:List AV) (k d:Nat),((Tm.init k args).get d)=if k≤d then (args[d - k]?).getD .undef else .undef
 | [],k,d=>by simp [Tm.init,Tm.get]
 | v::r,k,d=>by
  simp only [Tm.init,Tm.get]
  cases hb:Nat.beq k d with
  | true=>
   have:=Bl.1 hb
   subst this
   simp
  | false=>
   have hne:k≠d:=fun h=>by rw [Bl.2 h] at hb;cases hb
   rw [NA r (k+1) d]
   by_cases hk:k≤d
   ·rw [if_pos hk,if_pos (by omega),show d - k=(d - (k+1))+1 by omega];rfl
   ·rw [if_neg hk,if_neg (by omega)]
theorem SE {g:G} {args:List AV} {cargs:Array Value} (h:Aq g true args cargs) (n:Nat):DR g (Tm.init 0 args) (cargs++Array.replicate n undef):=fun d=>by
 rw [NA,if_pos (Nat.zero_le _),Nat.sub_zero]
 cases hd:args[d]? with
 | none=>exact .undef _ _
 | some v=>
  have hlt:d<cargs.size:=by rw [h.1];exact (List.getElem?_eq_some_iff.1 hd).1
  have hv:cargs[d]? = some cargs[d]:=Array.getElem?_eq_getElem hlt
  rw [Array.getD_eq_getD_getElem?,Array.getElem?_append_left hlt,hv]
  exact h.2 d v _ hd hv
include F hC hP in
theorem Uw (L:Nat):Hl M P (Jy M C L):=by
 intro f args h r h' hr
 unfold Jy at hr
 split at hr
 ·cases hr
 ·rename_i fn hfn
  split at hr
  ·cases hr
  ·rename_i c hc
   split at hr
   ·rename_i hle
    have hle:=Gy.1 hle
    obtain ⟨f1,f2,f3⟩:=F.fn f fn hfn
    refine ⟨⟨fn,c,hfn,hc⟩,fun g fr w cargs sim hargs => ?_⟩
    refine calls_of_wp f1 hc ?_
    have hsz:(cargs++Array.replicate (fn.ntmps - cargs.size) undef).size=fn.ntmps:=by
     have:=hargs.1
     simp;omega
    cases hcode:codeF M f fn.ntmps C L c (Tm.init 0 args,h) with
    | none=>rw [hcode] at hr;cases hr
    | some ex=>
     rw [hcode] at hr
     refine EV F hC hP hcode (f3 c hc) sim (SE hargs _) hsz ?_
     obtain ⟨e,t',h1⟩:=ex
     cases e with
     | nrm=>
      simp only [finish,Option.map_eq_some_iff] at hr
      obtain ⟨v,hv,hr⟩:=hr
      simp only [Prod.mk.injEq] at hr
      obtain ⟨rfl,rfl⟩:=hr
      intro g' a' w' b1 b2 b3 b4 b5
      obtain ⟨x,x1,x2⟩:=Jr F b2 b3 hv
      exact ⟨b5,x,x1,g',b1,b2,x2⟩
     | ret=>
      simp only [finish,Option.map_eq_some_iff] at hr
      obtain ⟨v,hv,hr⟩:=hr
      simp only [Prod.mk.injEq] at hr
      obtain ⟨rfl,rfl⟩:=hr
      intro g' a' w' b1 b2 b3 b4 b5
      obtain ⟨x,x1,x2⟩:=Jr F b2 b3 hv
      exact ⟨b5,x,x1,g',b1,b2,x2⟩
     | ext=>cases hr
     | pan v=>
      simp only [finish,Option.some.injEq,Prod.mk.injEq] at hr
      obtain ⟨rfl,rfl⟩:=hr
      intro g' a' w' x b1 b2 b3 b4
      exact ⟨b4,g',b1,b2,x,rfl,b3⟩
   ·cases hr
include F hP in
theorem Hn (hE:R6 M P):∀ n,Hl M P (Ct M n)
 | 0=>fun f args h r h' hr=>by cases hr
 | n+1=>fun f args h r h' hr=>by
  simp only [Ct] at hr
  split at hr
  ·rename_i e he
   exact hE f e he args h r h' hr
  ·exact Uw F (Hn hE n) hP n f args h r h' hr
end
theorem A2 (a b:Nat):Nat.beq a b=decide (a=b):=by
 cases h:Nat.beq a b with
 | true=>simp [Bl.1 h]
 | false=>have:a≠b:=fun e=>by rw [Bl.2 e] at h;cases h
          simp [this]
theorem BC (a b:Nat):Nat.ble a b=decide (a≤b):=by
 cases h:Nat.ble a b with
 | true=>simp [Gy.1 h]
 | false=>have:¬ a≤b:=fun e=>by rw [Gy.2 e] at h;cases h
          simp [this]
theorem CO (a b:Nat):Nat.blt a b=decide (a<b):=by
 cases h:Nat.blt a b with
 | true=>simp [FW.1 h]
 | false=>have:¬ a<b:=fun e=>by rw [FW.2 e] at h;cases h
          simp [this]
theorem JA (n:Nat):FP n n=some n:=by simp [FP]
theorem IC (n:Nat):FP 0 n=some 0:=by simp [FP]
theorem HN (M:Par) (n:Nat) (f:FuncId) (args:List AV) (h:AE) (he:M.eff f=none):Ct M (n+1) f args h=Jy M (Ct M n) n f args h:=by simp only [Ct,he]
def Gi:List (List AV×AV)→List AV→Option AV
 | [],_=>none
 | (a,v)::r,args=>match IM args a with
  | true=>some v
  | false=>Gi r args
theorem Kb:∀ {l:List (List AV×AV)} {args:List AV} {v:AV},Gi l args=some v→(args,v)∈l
 | [],_,_,h=>by cases h
 | (a,u)::r,args,v,h=>by
  simp only [Gi] at h
  split at h
  ·rename_i hb
   simp only [Option.some.injEq] at h
   subst h
   rw [GD hb];simp
  ·exact List.mem_cons_of_mem _ (Kb h)
def Par.FF (M:Par) (f:FuncId) (p:List AV→Option AV):Par := { M with prim:=fun g=>match Nat.beq g f with
 | true=>some p
 | false=>M.prim g }
theorem Fits.FF {M:Par} {P:Program} (F:Fits M P) (f:FuncId) (p:List AV→Option AV):Fits (M.FF f p) P:=⟨F.ty,F.fn,F.mixed,F.fld,F.elm⟩
def Fb (M:Par) (n:Nat) (f:FuncId) (a:List AV) (v:AV):Bool:=
 (M.mode f).fresh && !(M.mode f).keepTop&&a.all AV.AD&&(match AK M (Ct M n) f a [] with
   | some (.ret u,[])=>AV.beq u v
   | _=>false)
theorem GR {M:Par} {P:Program} (F:Fits M P) (hP:Ce M P) {n:Nat} {f:FuncId} {a:List AV} {v:AV} (h:Fb M n f a v=true) (hE:M.eff=fun _=>none:=by rfl) :
  (∃ fn c,M.fn f=some fn∧fn.body=some c)∧∀ g h fr w cargs,Sim g h fr w→Aq g true a cargs→Calls P f cargs w fun e w'=>∃ g',Le g g'∧Sim g' h fr w'∧I4 g' (.ret v) e:=by
 simp only [Fb,Bool.and_eq_true,Bool.not_eq_true'] at h
 obtain ⟨⟨⟨h1,h2⟩,h3⟩,h4⟩:=h
 split at h4
 ·rename_i u hd
  have:=AV.beq_eq h4
  subst this
  have hok:=LV (Hn F hP (Il hE) n)
  refine ⟨(hok f a [] _ _ hd).1,fun g h fr w cargs sim hargs => ?_⟩
  exact (hok f a h _ _ ((I7 h1 h2 h3 hd).2 h)).2 g fr w cargs sim hargs
 ·cases h4
theorem Ce.Ho {M:Par} {P:Program} (hP:Ce M P) (f:FuncId) (l:List (List AV×AV)) (h:∀ p∈l,(∃ fn c,M.fn f=some fn∧fn.body=some c)∧∀ g h fr w cargs,Sim g h fr w→Aq g true p.1 cargs →
  Calls P f cargs w fun e w'=>∃ g',Le g g'∧Sim g' h fr w'∧I4 g' (.ret p.2) e):Ce (M.FF f (Gi l)) P:=by
 intro g p hp args v hv
 simp only [Par.FF] at hp
 split at hp
 ·rename_i hg
  have hg:=Bl.1 hg
  subst hg
  simp only [Option.some.injEq] at hp
  subst hp
  exact h _ (Kb hv)
 ·exact hP g p hp args v hv
end Go.Am
namespace Go.Proofs.Am12
open Go Go.Am
noncomputable def M0:Par := { M with prim:=fun _=>none }
theorem Wz:Fits M0 Tryz.prog:=⟨Ii.ty,Ii.fn,Ii.mixed,Ii.fld,Ii.elm⟩
theorem W0:Ce M0 Tryz.prog:=fun f p h=>by cases h
theorem W1:und M0.ty 32=some (.slice 34):=by kernel_rfl
theorem W2:siz M0.ty 34=3:=by kernel_rfl
theorem W3:M0.fn 165=some Tryz.f165:=by kernel_rfl
theorem LZ:M0.keep 165 0=some [0]:=by kernel_rfl
theorem La:M0.keep 165 1=some [2]:=by kernel_rfl
theorem SF:und M0.ty 100=some (.slice 9):=by kernel_rfl
theorem siz9:siz M0.ty 9=1:=by kernel_rfl
theorem W4:M0.fn 233=some Tryz.f233:=by kernel_rfl
theorem Lb:M0.keep 233 0=some [0]:=by kernel_rfl
theorem Lc:M0.keep 233 1=some [2]:=by kernel_rfl
set_option maxHeartbeats 4000000
theorem SG (h:AE):Ct M0 2 165 [.AI] h=some (.ret .AI,h):=by kernel_rfl
theorem SH (h:AE):Ct M0 2 233 [.AI] h=some (.ret .AI,h):=by kernel_rfl
theorem SJ (es:List (List AV)) (ex:Bool) (h:AE):Ct M0 2 165 [.sl 3 ex es] h=some (.ret (.sl 3 true es),h):=by
 rw [HN _ _ _ _ _ rfl]
 simp [Jy,W3,LZ,La,Tryz.f165,codeF,Ba,BS,Bg,Al,GC,BG,DD,ev,evs,Cy,DC,OR.ofV,OR.Dc,FH,Tm.get,Tm.init,Tm.only,A2,BC,CO,Ag,W1,F3,CK,intOf,JA,IC,W2,Iz,finish,CB,Cg]
theorem SK (id gen off len:Nat) (ex:Bool) (h:AE):Ct M0 2 165 [.hs id gen 3 off len ex] h=some (.ret (.hs id gen 3 off len true),h):=by
 rw [HN _ _ _ _ _ rfl]
 simp [Jy,W3,LZ,La,Tryz.f165,codeF,Ba,BS,Bg,Al,GC,BG,DD,ev,evs,Cy,DC,OR.ofV,OR.Dc,FH,Tm.get,Tm.init,Tm.only,A2,BC,CO,Ag,W1,F3,CK,intOf,JA,IC,W2,Iz,finish,CB,Cg]
theorem SL (es:List (List AV)) (ex:Bool) (h:AE):Ct M0 2 233 [.sl 1 ex es] h=some (.ret (.sl 1 true es),h):=by
 rw [HN _ _ _ _ _ rfl]
 simp [Jy,W4,Lb,Lc,Tryz.f233,codeF,Ba,BS,Bg,Al,GC,BG,DD,ev,evs,Cy,DC,OR.ofV,OR.Dc,FH,Tm.get,Tm.init,Tm.only,A2,BC,CO,Ag,SF,F3,CK,intOf,JA,IC,siz9,Iz,finish,CB,Cg]
theorem SM (id gen off len:Nat) (ex:Bool) (h:AE):Ct M0 2 233 [.hs id gen 1 off len ex] h=some (.ret (.hs id gen 1 off len true),h):=by
 rw [HN _ _ _ _ _ rfl]
 simp [Jy,W4,Lb,Lc,Tryz.f233,codeF,Ba,BS,Bg,Al,GC,BG,DD,ev,evs,Cy,DC,OR.ofV,OR.Dc,FH,Tm.get,Tm.init,Tm.only,A2,BC,CO,Ag,SF,F3,CK,intOf,JA,IC,siz9,Iz,finish,CB,Cg]
theorem Ux {args:List AV} {v:AV} (h:AE) (hv:IW 3 args=some v):Ct M0 2 165 args h=some (.ret v,h):=by
 unfold IW at hv
 split at hv
 ·simp only [Option.some.injEq] at hv;subst hv;exact SG h
 ·split at hv
  ·rename_i hb
   simp only [Option.some.injEq] at hv;subst hv
   have:=Bl.1 hb;subst this
   exact SJ _ _ h
  ·cases hv
 ·split at hv
  ·rename_i hb
   simp only [Option.some.injEq] at hv;subst hv
   have:=Bl.1 hb;subst this
   exact SK _ _ _ _ _ h
  ·cases hv
 ·cases hv
theorem Uy {args:List AV} {v:AV} (h:AE) (hv:IW 1 args=some v):Ct M0 2 233 args h=some (.ret v,h):=by
 unfold IW at hv
 split at hv
 ·simp only [Option.some.injEq] at hv;subst hv;exact SH h
 ·split at hv
  ·rename_i hb
   simp only [Option.some.injEq] at hv;subst hv
   have:=Bl.1 hb;subst this
   exact SL _ _ h
  ·cases hv
 ·split at hv
  ·rename_i hb
   simp only [Option.some.injEq] at hv;subst hv
   have:=Bl.1 hb;subst this
   exact SM _ _ _ _ _ h
  ·cases hv
 ·cases hv
theorem SN:Ce M Tryz.prog:=by
 intro f p hp args v hv
 have key:∀ g,(∀ h,Ct M0 2 g args h=some (.ret v,h))→(∃ fn c,M.fn g=some fn∧fn.body=some c)∧∀ G h fr w cargs,Sim G h fr w→Aq G true args cargs →
   Calls Tryz.prog g cargs w fun e w'=>∃ g',Le G g'∧Sim g' h fr w'∧I4 g' (.ret v) e:=fun g hg=>
  ⟨(Hn Wz W0 (Il rfl) 2 g args [] _ _ (hg [])).1,fun G h fr w cargs sim hargs=>(Hn Wz W0 (Il rfl) 2 g args h _ _ (hg h)).2 G fr w cargs sim hargs⟩
 change Ro f=some p at hp
 unfold Ro at hp
 split at hp
 ·rename_i hf
  have:=Bl.1 hf;subst this
  simp only [Option.some.injEq] at hp;subst hp
  exact key 165 fun h=>Ux h hv
 ·split at hp
  ·rename_i hf
   have:=Bl.1 hf;subst this
   simp only [Option.some.injEq] at hp;subst hp
   exact key 233 fun h=>Uy h hv
  ·cases hp
theorem OV:Fits M Tryz.prog:=Ii
theorem OW:Ce M Tryz.prog:=SN
def SO:List AV:=[(.sl 3 true [[(.str [77,97,121,98,101]),(.sl 1 true [[(.str [97])]]),(.sl 2 true [[(.str [78,111,110,101]),.AI],[(.str [83,111,109,101]),(.sl 5 true [[(.str [118,97,108,117,101]),(.int .i64 (0)),(.int .i64 (0)),(.str [97]),.AI]])]])],[(.str [80,97,105,114]),(.sl 1 true [[(.str [97])],[(.str [98])]]),(.sl 2 true [[(.str [80,97,105,114]),(.sl 5 true [[(.str [108,101,102,116]),(.int .i64 (0)),(.int .i64 (0)),(.str [97]),.AI],[(.str [114,105,103,104,116]),(.int .i64 (0)),(.int .i64 (0)),(.str [98]),.AI]])]])],[(.str [67,111,108,111,114]),.AI,(.sl 2 true [[(.str [82,101,100]),.AI],[(.str [71,114,101,101,110]),.AI],[(.str [66,108,117,101]),.AI]])]]),(.agg [(.int .i64 (1)),(.int .i64 (0)),(.str [80,97,105,114]),(.sl 4 true [[(.int .i64 (1)),(.int .i64 (0)),(.str [77,97,121,98,101]),(.sl 4 true [[(.int .i64 (1)),(.int .i64 (0)),(.str [67,111,108,111,114]),.AI]])],[(.int .i64 (1)),(.int .i64 (0)),(.str [66,111,111,108]),.AI]])])]
def SP:AV:=(.tup [(.ro [(.int .i64 (0)),(.sl 3 false [[(.str [80,97,105,114]),(.sl 5 false [[(.str [108,101,102,116]),(.int .i64 (1)),(.int .i64 (0)),(.str [77,97,121,98,101]),(.sl 4 false [[(.int .i64 (1)),(.int .i64 (0)),(.str [67,111,108,111,114]),.AI]])],[(.str [114,105,103,104,116]),(.int .i64 (1)),(.int .i64 (0)),(.str [66,111,111,108]),.AI]]),(.sl 1 false [[(.ro [(.int .i64 (0)),(.sl 3 false [[(.str [78,111,110,101]),.AI,.AI],[(.str [83,111,109,101]),(.sl 5 false [[(.str [118,97,108,117,101]),(.int .i64 (1)),(.int .i64 (0)),(.str [67,111,108,111,114]),.AI]]),(.sl 1 false [[(.ro [(.int .i64 (0)),(.sl 3 false [[(.str [82,101,100]),.AI,.AI],[(.str [71,114,101,101,110]),.AI,.AI],[(.str [66,108,117,101]),.AI,.AI]])])]])]])])],[(.ro [(.int .i64 (0)),(.sl 3 true [[(.str [70,97,108,115,101]),.AI,.AI],[(.str [84,114,117,101]),.AI,.AI]])])]])]])]),(.agg [(.sl 3 true [[(.str [77,97,121,98,101]),(.sl 1 true [[(.str [97])]]),(.sl 2 true [[(.str [78,111,110,101]),.AI],[(.str [83,111,109,101]),(.sl 5 true [[(.str [118,97,108,117,101]),(.int .i64 (0)),(.int .i64 (0)),(.str [97]),.AI]])]])],[(.str [80,97,105,114]),(.sl 1 true [[(.str [97])],[(.str [98])]]),(.sl 2 true [[(.str [80,97,105,114]),(.sl 5 true [[(.str [108,101,102,116]),(.int .i64 (0)),(.int .i64 (0)),(.str [97]),.AI],[(.str [114,105,103,104,116]),(.int .i64 (0)),(.int .i64 (0)),(.str [98]),.AI]])]])],[(.str [67,111,108,111,114]),.AI,(.sl 2 true [[(.str [82,101,100]),.AI],[(.str [71,114,101,101,110]),.AI],[(.str [66,108,117,101]),.AI]])]]),.AI]),(.int .i64 (0))])
theorem Xl:Fb M 300 174 SO SP=true:=by kernel_rfl
def SQ:List AV:=[.AI,(.agg [(.int .i64 (1)),(.int .i64 (0)),(.str [66,105,116]),(.sl 4 true [[(.int .i64 (2)),(.int .i64 (2)),(.str []),.AI]])])]
def SR:AV:=(.tup [(.ro [(.int .i64 (2)),.AI]),(.agg [.AI,.AI]),(.int .i64 (0))])
theorem Xm:Fb M 300 174 SQ SR=true:=by kernel_rfl
noncomputable def MA1:Par:=Par.FF M 174 (Gi [(SO,SP),(SQ,SR)])
theorem OX:Fits MA1 Tryz.prog:=Fits.FF OV _ _
theorem OY:Ce MA1 Tryz.prog:=Ce.Ho OW _ _ fun p hp=>by
 simp only [List.mem_cons,List.not_mem_nil,or_false] at hp
 rcases hp with rfl | rfl
 ·exact GR OV OW Xl
 ·exact GR OV OW Xm
def W5:List AV:=[(.agg [(.sl 3 true [[(.str [77,97,121,98,101]),(.sl 1 true [[(.str [97])]]),(.sl 2 true [[(.str [78,111,110,101]),.AI],[(.str [83,111,109,101]),(.sl 5 true [[(.str [118,97,108,117,101]),(.int .i64 (0)),(.int .i64 (0)),(.str [97]),.AI]])]])],[(.str [80,97,105,114]),(.sl 1 true [[(.str [97])],[(.str [98])]]),(.sl 2 true [[(.str [80,97,105,114]),(.sl 5 true [[(.str [108,101,102,116]),(.int .i64 (0)),(.int .i64 (0)),(.str [97]),.AI],[(.str [114,105,103,104,116]),(.int .i64 (0)),(.int .i64 (0)),(.str [98]),.AI]])]])],[(.str [67,111,108,111,114]),.AI,(.sl 2 true [[(.str [82,101,100]),.AI],[(.str [71,114,101,101,110]),.AI],[(.str [66,108,117,101]),.AI]])]]),(.int .i64 (1)),(.int .i64 (0)),(.str [80,97,105,114]),(.sl 4 true [[(.int .i64 (1)),(.int .i64 (0)),(.str [77,97,121,98,101]),(.sl 4 true [[(.int .i64 (1)),(.int .i64 (0)),(.str [67,111,108,111,114]),.AI]])],[(.int .i64 (1)),(.int .i64 (0)),(.str [66,111,111,108]),.AI]]),(.sl 4 true [[(.int .i64 (2)),(.int .i64 (0)),(.str [80,97,105,114]),(.sl 4 true [[(.int .i64 (2)),(.int .i64 (0)),(.str [78,111,110,101]),.AI],[(.int .i64 (0)),(.int .i64 (0)),(.str []),.AI]])],[(.int .i64 (2)),(.int .i64 (0)),(.str [80,97,105,114]),(.sl 4 true [[(.int .i64 (2)),(.int .i64 (0)),(.str [83,111,109,101]),(.sl 4 true [[(.int .i64 (2)),(.int .i64 (0)),(.str [82,101,100]),.AI]])],[(.int .i64 (2)),(.int .i64 (0)),(.str [84,114,117,101]),.AI]])],[(.int .i64 (2)),(.int .i64 (0)),(.str [80,97,105,114]),(.sl 4 true [[(.int .i64 (2)),(.int .i64 (0)),(.str [83,111,109,101]),(.sl 4 true [[(.int .i64 (1)),(.int .i64 (0)),(.str [120]),.AI]])],[(.int .i64 (2)),(.int .i64 (0)),(.str [70,97,108,115,101]),.AI]])]])])]
def W6:AV:=(.tup [(.ro [(.int .i64 (0)),(.sl 2 false [[(.str [80,97,105,114]),(.sl 1 false [[(.ro [(.int .i64 (0)),(.sl 2 false [[(.str [78,111,110,101]),.AI],[(.str [83,111,109,101]),(.sl 1 false [[(.ro [(.int .i64 (0)),(.sl 2 false [[(.str [82,101,100]),.AI],[(.str [71,114,101,101,110]),.AI],[(.str [66,108,117,101]),.AI]])])]])]])])],[(.ro [(.int .i64 (0)),(.sl 2 true [[(.str [70,97,108,115,101]),.AI],[(.str [84,114,117,101]),.AI]])])]])]])]),(.int .i64 (0))])
theorem w63_0:Fb MA1 300 63 W5 W6=true:=by kernel_rfl
def W7:List AV:=[(.agg [.AI,(.int .i64 (1)),(.int .i64 (0)),(.str [66,105,116]),(.sl 4 true [[(.int .i64 (2)),(.int .i64 (2)),(.str []),.AI]]),(.sl 4 true [[(.int .i64 (3)),(.int .i64 (1)),(.str []),.AI],[(.int .i64 (0)),(.int .i64 (0)),(.str []),.AI],[(.int .i64 (3)),(.int .i64 (3)),(.str []),.AI]])])]
def W8:AV:=(.tup [(.ro [(.int .i64 (2)),.AI]),(.int .i64 (0))])
theorem w63_1:Fb MA1 300 63 W7 W8=true:=by kernel_rfl
noncomputable def MA2:Par:=Par.FF MA1 63 (Gi [(W5,W6),(W7,W8)])
theorem MN:Fits MA2 Tryz.prog:=Fits.FF OX _ _
theorem MO:Ce MA2 Tryz.prog:=Ce.Ho OY _ _ fun p hp=>by
 simp only [List.mem_cons,List.not_mem_nil,or_false] at hp
 rcases hp with rfl | rfl
 ·exact GR OX OY w63_0
 ·exact GR OX OY w63_1
def W9:List AV:=[(.agg [(.sl 3 true [[(.str [77,97,121,98,101]),(.sl 1 true [[(.str [97])]]),(.sl 2 true [[(.str [78,111,110,101]),.AI],[(.str [83,111,109,101]),(.sl 5 true [[(.str [118,97,108,117,101]),(.int .i64 (0)),(.int .i64 (0)),(.str [97]),.AI]])]])],[(.str [80,97,105,114]),(.sl 1 true [[(.str [97])],[(.str [98])]]),(.sl 2 true [[(.str [80,97,105,114]),(.sl 5 true [[(.str [108,101,102,116]),(.int .i64 (0)),(.int .i64 (0)),(.str [97]),.AI],[(.str [114,105,103,104,116]),(.int .i64 (0)),(.int .i64 (0)),(.str [98]),.AI]])]])],[(.str [67,111,108,111,114]),.AI,(.sl 2 true [[(.str [82,101,100]),.AI],[(.str [71,114,101,101,110]),.AI],[(.str [66,108,117,101]),.AI]])]]),(.int .i64 (1)),(.int .i64 (0)),(.str [80,97,105,114]),(.sl 4 true [[(.int .i64 (1)),(.int .i64 (0)),(.str [77,97,121,98,101]),(.sl 4 true [[(.int .i64 (1)),(.int .i64 (0)),(.str [67,111,108,111,114]),.AI]])],[(.int .i64 (1)),(.int .i64 (0)),(.str [66,111,111,108]),.AI]]),(.sl 4 true [[(.int .i64 (2)),(.int .i64 (0)),(.str [80,97,105,114]),(.sl 4 true [[(.int .i64 (2)),(.int .i64 (0)),(.str [78,111,110,101]),.AI],[(.int .i64 (0)),(.int .i64 (0)),(.str []),.AI]])],[(.int .i64 (2)),(.int .i64 (0)),(.str [80,97,105,114]),(.sl 4 true [[(.int .i64 (2)),(.int .i64 (0)),(.str [83,111,109,101]),(.sl 4 true [[(.int .i64 (2)),(.int .i64 (0)),(.str [82,101,100]),.AI]])],[(.int .i64 (2)),(.int .i64 (0)),(.str [84,114,117,101]),.AI]])],[(.int .i64 (2)),(.int .i64 (0)),(.str [80,97,105,114]),(.sl 4 true [[(.int .i64 (2)),(.int .i64 (0)),(.str [83,111,109,101]),(.sl 4 true [[(.int .i64 (1)),(.int .i64 (0)),(.str [120]),.AI]])],[(.int .i64 (2)),(.int .i64 (0)),(.str [70,97,108,115,101]),.AI]])]])])]
def XA:AV:=(.tup [(.agg [(.str [80,97,105,114]),(.int .i64 (0)),(.sl 3 false [[(.str [83,111,109,101]),(.int .i64 (0)),(.sl 3 false [[(.str [71,114,101,101,110]),(.int .i64 (0)),.AI]])],[(.str [84,114,117,101]),(.int .i64 (0)),.AI]])]),(.int .i64 (0))])
theorem w14_0:Fb MA2 300 14 W9 XA=true:=by kernel_rfl
def XB:List AV:=[(.agg [(.sl 3 true [[(.str [77,97,121,98,101]),(.sl 1 true [[(.str [97])]]),(.sl 2 true [[(.str [78,111,110,101]),.AI],[(.str [83,111,109,101]),(.sl 5 true [[(.str [118,97,108,117,101]),(.int .i64 (0)),(.int .i64 (0)),(.str [97]),.AI]])]])],[(.str [80,97,105,114]),(.sl 1 true [[(.str [97])],[(.str [98])]]),(.sl 2 true [[(.str [80,97,105,114]),(.sl 5 true [[(.str [108,101,102,116]),(.int .i64 (0)),(.int .i64 (0)),(.str [97]),.AI],[(.str [114,105,103,104,116]),(.int .i64 (0)),(.int .i64 (0)),(.str [98]),.AI]])]])],[(.str [67,111,108,111,114]),.AI,(.sl 2 true [[(.str [82,101,100]),.AI],[(.str [71,114,101,101,110]),.AI],[(.str [66,108,117,101]),.AI]])]]),(.int .i64 (1)),(.int .i64 (0)),(.str [80,97,105,114]),(.sl 4 true [[(.int .i64 (1)),(.int .i64 (0)),(.str [77,97,121,98,101]),(.sl 4 true [[(.int .i64 (1)),(.int .i64 (0)),(.str [67,111,108,111,114]),.AI]])],[(.int .i64 (1)),(.int .i64 (0)),(.str [66,111,111,108]),.AI]]),(.sl 4 true [[(.int .i64 (2)),(.int .i64 (0)),(.str [80,97,105,114]),(.sl 4 true [[(.int .i64 (2)),(.int .i64 (0)),(.str [78,111,110,101]),.AI],[(.int .i64 (0)),(.int .i64 (0)),(.str []),.AI]])],[(.int .i64 (2)),(.int .i64 (0)),(.str [80,97,105,114]),(.sl 4 true [[(.int .i64 (2)),(.int .i64 (0)),(.str [83,111,109,101]),(.sl 4 true [[(.int .i64 (2)),(.int .i64 (0)),(.str [82,101,100]),.AI]])],[(.int .i64 (2)),(.int .i64 (0)),(.str [84,114,117,101]),.AI]])],[(.int .i64 (2)),(.int .i64 (0)),(.str [80,97,105,114]),(.sl 4 true [[(.int .i64 (2)),(.int .i64 (0)),(.str [83,111,109,101]),(.sl 4 true [[(.int .i64 (1)),(.int .i64 (0)),(.str [120]),.AI]])],[(.int .i64 (2)),(.int .i64 (0)),(.str [70,97,108,115,101]),.AI]])]])])]
def XC:AV:=(.tup [(.sl 1 false [[(.int .i64 (2))],[(.int .i64 (1))],[(.int .i64 (3))]]),(.int .i64 (0))])
theorem w17_0:Fb MA2 300 17 XB XC=true:=by kernel_rfl
def XD:List AV:=[(.agg [.AI,(.int .i64 (1)),(.int .i64 (0)),(.str [66,105,116]),(.sl 4 true [[(.int .i64 (2)),(.int .i64 (2)),(.str []),.AI]]),(.sl 4 true [[(.int .i64 (3)),(.int .i64 (1)),(.str []),.AI],[(.int .i64 (0)),(.int .i64 (0)),(.str []),.AI],[(.int .i64 (3)),(.int .i64 (3)),(.str []),.AI]])])]
def XE:AV:=(.tup [(.sl 1 false [[(.int .i64 (1))],[(.int .i64 (3))],[(.int .i64 (0))]]),(.int .i64 (0))])
theorem w17_1:Fb MA2 300 17 XD XE=true:=by kernel_rfl
noncomputable def MA3:Par:=Par.FF MA2 14 (Gi [(W9,XA)])
theorem Xn:Fits MA3 Tryz.prog:=Fits.FF MN _ _
theorem Xo:Ce MA3 Tryz.prog:=Ce.Ho MO _ _ fun p hp=>by
 simp only [List.mem_cons,List.not_mem_nil,or_false] at hp
 subst hp
 exact GR MN MO w14_0
noncomputable def MA4:Par:=Par.FF MA3 17 (Gi [(XB,XC),(XD,XE)])
theorem SS:Fits MA4 Tryz.prog:=Fits.FF Xn _ _
theorem SU:Ce MA4 Tryz.prog:=Ce.Ho Xo _ _ fun p hp=>by
 simp only [List.mem_cons,List.not_mem_nil,or_false] at hp
 rcases hp with rfl | rfl
 ·exact GR MN MO w17_0
 ·exact GR MN MO w17_1
def XF:List AV:=[(.agg [(.sl 3 true [[(.str [77,97,121,98,101]),(.sl 1 true [[(.str [97])]]),(.sl 2 true [[(.str [78,111,110,101]),.AI],[(.str [83,111,109,101]),(.sl 5 true [[(.str [118,97,108,117,101]),(.int .i64 (0)),(.int .i64 (0)),(.str [97]),.AI]])]])],[(.str [80,97,105,114]),(.sl 1 true [[(.str [97])],[(.str [98])]]),(.sl 2 true [[(.str [80,97,105,114]),(.sl 5 true [[(.str [108,101,102,116]),(.int .i64 (0)),(.int .i64 (0)),(.str [97]),.AI],[(.str [114,105,103,104,116]),(.int .i64 (0)),(.int .i64 (0)),(.str [98]),.AI]])]])],[(.str [67,111,108,111,114]),.AI,(.sl 2 true [[(.str [82,101,100]),.AI],[(.str [71,114,101,101,110]),.AI],[(.str [66,108,117,101]),.AI]])]]),(.int .i64 (1)),(.int .i64 (0)),(.str [80,97,105,114]),(.sl 4 true [[(.int .i64 (1)),(.int .i64 (0)),(.str [77,97,121,98,101]),(.sl 4 true [[(.int .i64 (1)),(.int .i64 (0)),(.str [67,111,108,111,114]),.AI]])],[(.int .i64 (1)),(.int .i64 (0)),(.str [66,111,111,108]),.AI]]),(.sl 4 true [[(.int .i64 (2)),(.int .i64 (0)),(.str [80,97,105,114]),(.sl 4 true [[(.int .i64 (2)),(.int .i64 (0)),(.str [78,111,110,101]),.AI],[(.int .i64 (0)),(.int .i64 (0)),(.str []),.AI]])],[(.int .i64 (2)),(.int .i64 (0)),(.str [80,97,105,114]),(.sl 4 true [[(.int .i64 (2)),(.int .i64 (0)),(.str [83,111,109,101]),(.sl 4 true [[(.int .i64 (2)),(.int .i64 (0)),(.str [82,101,100]),.AI]])],[(.int .i64 (2)),(.int .i64 (0)),(.str [84,114,117,101]),.AI]])],[(.int .i64 (2)),(.int .i64 (0)),(.str [80,97,105,114]),(.sl 4 true [[(.int .i64 (2)),(.int .i64 (0)),(.str [83,111,109,101]),(.sl 4 true [[(.int .i64 (1)),(.int .i64 (0)),(.str [120]),.AI]])],[(.int .i64 (2)),(.int .i64 (0)),(.str [70,97,108,115,101]),.AI]])]])])]
def XG:AV:=(.tup [(.sl 4 false [[(.int .i64 (-1)),(.sl 1 true [[(.int .i64 (0))]]),(.sl 3 false [[(.str [78,111,110,101]),(.int .i64 (0)),(.int .i64 (1))],[(.str [83,111,109,101]),(.int .i64 (0)),(.int .i64 (2))]]),(.int .i64 (-1))],[(.int .i64 (0)),.AI,.AI,(.int .i64 (-1))],[(.int .i64 (-1)),(.sl 1 false [[(.int .i64 (0))],[(.int .i64 (0))]]),(.sl 3 false [[(.str [82,101,100]),(.int .i64 (0)),(.int .i64 (3))],[(.str [71,114,101,101,110]),(.int .i64 (0)),(.int .i64 (6))],[(.str [66,108,117,101]),(.int .i64 (0)),(.int .i64 (9))]]),(.int .i64 (-1))],[(.int .i64 (-1)),(.sl 1 true [[(.int .i64 (1))]]),(.sl 3 false [[(.str [70,97,108,115,101]),(.int .i64 (0)),(.int .i64 (4))],[(.str [84,114,117,101]),(.int .i64 (0)),(.int .i64 (5))]]),(.int .i64 (-1))],[(.int .i64 (2)),.AI,.AI,(.int .i64 (-1))],[(.int .i64 (1)),.AI,.AI,(.int .i64 (-1))],[(.int .i64 (-1)),(.sl 1 true [[(.int .i64 (1))]]),(.sl 3 false [[(.str [70,97,108,115,101]),(.int .i64 (0)),(.int .i64 (7))],[(.str [84,114,117,101]),(.int .i64 (0)),(.int .i64 (8))]]),(.int .i64 (-1))],[(.int .i64 (2)),.AI,.AI,(.int .i64 (-1))],[(.int .i64 (-1)),.AI,.AI,(.int .i64 (-1))],[(.int .i64 (-1)),(.sl 1 true [[(.int .i64 (1))]]),(.sl 3 false [[(.str [70,97,108,115,101]),(.int .i64 (0)),(.int .i64 (10))],[(.str [84,114,117,101]),(.int .i64 (0)),(.int .i64 (11))]]),(.int .i64 (-1))],[(.int .i64 (2)),.AI,.AI,(.int .i64 (-1))],[(.int .i64 (-1)),.AI,.AI,(.int .i64 (-1))]]),(.int .i64 (0))])
theorem w27_0:Fb MA4 300 27 XF XG=true:=by kernel_rfl
noncomputable def MA5:Par:=Par.FF MA4 27 (Gi [(XF,XG)])
theorem OZ:Fits MA5 Tryz.prog:=Fits.FF SS _ _
theorem Oa:Ce MA5 Tryz.prog:=Ce.Ho SU _ _ fun p hp=>by
 simp only [List.mem_cons,List.not_mem_nil,or_false] at hp
 subst hp
 exact GR SS SU w27_0
def XH:List AV:=[(.agg [(.sl 3 true [[(.str [77,97,121,98,101]),(.sl 1 true [[(.str [97])]]),(.sl 2 true [[(.str [78,111,110,101]),.AI],[(.str [83,111,109,101]),(.sl 5 true [[(.str [118,97,108,117,101]),(.int .i64 (0)),(.int .i64 (0)),(.str [97]),.AI]])]])],[(.str [80,97,105,114]),(.sl 1 true [[(.str [97])],[(.str [98])]]),(.sl 2 true [[(.str [80,97,105,114]),(.sl 5 true [[(.str [108,101,102,116]),(.int .i64 (0)),(.int .i64 (0)),(.str [97]),.AI],[(.str [114,105,103,104,116]),(.int .i64 (0)),(.int .i64 (0)),(.str [98]),.AI]])]])],[(.str [67,111,108,111,114]),.AI,(.sl 2 true [[(.str [82,101,100]),.AI],[(.str [71,114,101,101,110]),.AI],[(.str [66,108,117,101]),.AI]])]]),(.int .i64 (1)),(.int .i64 (0)),(.str [80,97,105,114]),(.sl 4 true [[(.int .i64 (1)),(.int .i64 (0)),(.str [77,97,121,98,101]),(.sl 4 true [[(.int .i64 (1)),(.int .i64 (0)),(.str [67,111,108,111,114]),.AI]])],[(.int .i64 (1)),(.int .i64 (0)),(.str [66,111,111,108]),.AI]]),(.sl 4 true [[(.int .i64 (2)),(.int .i64 (0)),(.str [80,97,105,114]),(.sl 4 true [[(.int .i64 (2)),(.int .i64 (0)),(.str [78,111,110,101]),.AI],[(.int .i64 (0)),(.int .i64 (0)),(.str []),.AI]])],[(.int .i64 (2)),(.int .i64 (0)),(.str [80,97,105,114]),(.sl 4 true [[(.int .i64 (2)),(.int .i64 (0)),(.str [83,111,109,101]),(.sl 4 true [[(.int .i64 (2)),(.int .i64 (0)),(.str [82,101,100]),.AI]])],[(.int .i64 (2)),(.int .i64 (0)),(.str [84,114,117,101]),.AI]])],[(.int .i64 (2)),(.int .i64 (0)),(.str [80,97,105,114]),(.sl 4 true [[(.int .i64 (2)),(.int .i64 (0)),(.str [83,111,109,101]),(.sl 4 true [[(.int .i64 (1)),(.int .i64 (0)),(.str [120]),.AI]])],[(.int .i64 (2)),(.int .i64 (0)),(.str [70,97,108,115,101]),.AI]])]])]),(.agg [(.str [80,97,105,114]),(.int .i64 (0)),(.sl 3 true [[(.str [83,111,109,101]),(.int .i64 (0)),(.sl 3 true [[(.str [66,108,117,101]),(.int .i64 (0)),.AI]])],[(.str [70,97,108,115,101]),(.int .i64 (0)),.AI]])])]
def XI:AV:=(.tup [(.int .i64 (2)),(.int .i64 (0))])
theorem w43_0:Fb MA5 300 43 XH XI=true:=by kernel_rfl
def XJ:List AV:=[(.agg [.AI,(.int .i64 (1)),(.int .i64 (0)),(.str [66,105,116]),(.sl 4 true [[(.int .i64 (2)),(.int .i64 (2)),(.str []),.AI]]),(.sl 4 true [[(.int .i64 (3)),(.int .i64 (1)),(.str []),.AI],[(.int .i64 (0)),(.int .i64 (0)),(.str []),.AI],[(.int .i64 (3)),(.int .i64 (3)),(.str []),.AI]])])]
def XK:AV:=(.tup [(.sl 1 false [[(.int .i64 (2))]]),(.int .i64 (0))])
theorem w16_0:Fb MA5 300 16 XJ XK=true:=by kernel_rfl
noncomputable def MA6:Par:=Par.FF MA5 43 (Gi [(XH,XI)])
theorem Xp:Fits MA6 Tryz.prog:=Fits.FF OZ _ _
theorem Xq:Ce MA6 Tryz.prog:=Ce.Ho Oa _ _ fun p hp=>by
 simp only [List.mem_cons,List.not_mem_nil,or_false] at hp
 subst hp
 exact GR OZ Oa w43_0
noncomputable def MA7:Par:=Par.FF MA6 16 (Gi [(XJ,XK)])
theorem Xr:Fits MA7 Tryz.prog:=Fits.FF Xp _ _
theorem Xs:Ce MA7 Tryz.prog:=Ce.Ho Xq _ _ fun p hp=>by
 simp only [List.mem_cons,List.not_mem_nil,or_false] at hp
 subst hp
 exact GR OZ Oa w16_0
def a10_0:List AV:=[]
def v10_0:AV:=(.bool true)
theorem w10_0:Fb MA7 300 10 a10_0 v10_0=true:=by kernel_rfl
noncomputable def MW:Par:=Par.FF M 10 (Gi [([],.bool true)])
theorem NB:Fits MW Tryz.prog:=Fits.FF Ii _ _
theorem primW:Ce MW Tryz.prog:=Ce.Ho SN _ _ fun p hp=>by
 simp only [List.mem_cons,List.not_mem_nil,or_false] at hp
 subst hp
 exact GR Xr Xs w10_0
end Go.Proofs.Am12
