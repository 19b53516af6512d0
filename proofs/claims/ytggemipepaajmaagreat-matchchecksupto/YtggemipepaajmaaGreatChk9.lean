/- The abstract machine of this claim, part 9. -/
import Derived.Test.YtggemipepaajmaaGreatChk8
import Derived.LoopN
set_option linter.unusedSimpArgs false
set_option linter.unusedVariables false
set_option linter.unusedSectionVars false
set_option linter.unnecessarySimpa false
namespace Go.Am
open Go
section
variable {M:Par} {P:Program}
def Kb (Q:Exit→Act→World→Prop) (g:G) (fr:Fr) (N:Nat) (df:List Deferred):Ex×St→Prop
 | (.nrm,(t,h))=>∀ g' a' w',Le g g'→Sim g' h fr w'→Dc g' t a'.tmps→a'.tmps.size=N→a'.defers=df→Q .normal a' w'
 | (.ext j,(t,h))=>∀ g' a' w',Le g g'→Sim g' h fr w'→Dc g' t a'.tmps→a'.tmps.size=N→a'.defers=df→Q (.exit j) a' w'
 | (.ret,(t,h))=>∀ g' a' w',Le g g'→Sim g' h fr w'→Dc g' t a'.tmps→a'.tmps.size=N→a'.defers=df→Q .ret a' w'
 | (.pan v,(_,h))=>∀ g' a' w' x,Le g g'→Sim g' h fr w'→Rel g' true v x→a'.defers=df→Q (.panic [{ v:=x,recovered:=false }]) a' w'
theorem Kb.le {Q:Exit→Act→World→Prop} {g g1:G} {fr:Fr} {N:Nat} {df:List Deferred} {r:Ex×St} (h:Kb Q g fr N df r) (hg:Le g g1):Kb Q g1 fr N df r:=by
 obtain ⟨e,t,hh⟩:=r
 cases e with
 | nrm=>exact fun g' a' w' b1 b2 b3 b4 b5=>h g' a' w' (hg.trans b1) b2 b3 b4 b5
 | ext=>exact fun g' a' w' b1 b2 b3 b4 b5=>h g' a' w' (hg.trans b1) b2 b3 b4 b5
 | ret=>exact fun g' a' w' b1 b2 b3 b4 b5=>h g' a' w' (hg.trans b1) b2 b3 b4 b5
 | pan=>exact fun g' a' w' x b1 b2 b3 b4=>h g' a' w' x (hg.trans b1) b2 b3 b4
variable (F:Fits M P) {C:CH} (hC:Ho M P C) (hP:Cl M P)
theorem Rz {g:G} {t:Tm} {tmps:Array Value} (h:Dc g t tmps) (l:List Nat):Dc g (t.only l) tmps:=fun d=>by
 by_cases hm:d∈l
 ·rw [(HA t l d).1 hm];exact h d
 ·rw [(HA t l d).2 hm];exact .undef _ _
include F hC hP in
theorem M9 {fid N id:Nat} {ops:Array Oper} {d:Bool} {Q:Exit→Act→World→Prop} {fr:Fr} {t:Tm} {h:AE} {r:Ex×St} {a:Act} {w:World} {g:G} (hr:BT M fid N C id ops d (t,h)=some r) (hok:okC (.region id ops d)=true)
  (sim:Sim g h fr w) (ht:Dc g t a.tmps) (hN:a.tmps.size=N) (hQ:Kb Q g fr N a.defers r):(Code.region id ops d).wp P Q a w:=by
 unfold BT at hr
 split at hr
 ·rename_i t' h' ks hro
  split at hr
  ·rename_i hdr
   have hQ':∀ g' a' w',Le g g'→Sim g' h' fr w'→Dc g' t' a'.tmps→a'.tmps.size=N→a'.defers=a.defers→Q .normal a' w':=by
    split at hr <;> simp only [Option.some.injEq] at hr <;> subst hr
    ·exact fun g' a' w' b1 b2 b3 b4 b5=>hQ g' a' w' b1 b2 (Rz b3 _) b4 b5
    ·exact hQ
   cases d with
   | false=>exact wp_region_list (IC F hC hP hro sim ht hN hQ')
   | true=>
    simp only [okC,Bool.not_true,Bool.false_or,Bool.and_eq_true] at hok
    exact wp_region_any F.mixed (Qg F hC hP hro hdr hok.2 hok.1 (sim.drew _) ht hN hQ')
  ·cases hr
 ·rename_i v h' hro
  cases d with
  | false=>
   simp only [Option.some.injEq] at hr
   subst hr
   exact wp_region_list (IC F hC hP hro sim ht hN hQ)
  | true=>cases hr
 ·cases hr
include F hC hP in
theorem Ec {fid N L:Nat} {fr:Fr}:∀ {c:Code} {Q:Exit→Act→World→Prop} {t:Tm} {h:AE} {r:Ex×St} {a:Act} {w:World} {g:G},codeF M fid N C L c (t,h)=some r→okC c=true→Sim g h fr w→Dc g t a.tmps→a.tmps.size=N →
  Kb Q g fr N a.defers r→c.wp P Q a w
 | .skip,Q,t,h,r,a,w,g,hr,_,sim,ht,hN,hQ=>by
  simp only [codeF,Option.some.injEq] at hr
  subst hr
  exact wp_skip (hQ g a w (Le.refl g) sim ht hN rfl)
 | .region id ops d,Q,t,h,r,a,w,g,hr,hok,sim,ht,hN,hQ=>by
  simp only [codeF] at hr
  exact M9 F hC hP hr hok sim ht hN hQ
 | .seq x y,Q,t,h,r,a,w,g,hr,hok,sim,ht,hN,hQ=>by
  simp only [okC,Bool.and_eq_true] at hok
  simp only [codeF] at hr
  refine wp_seq ?_
  split at hr
  ·rename_i s' hx
   obtain ⟨t',h'⟩:=s'
   refine Ec hx hok.1 sim ht hN (fun g' a' w' b1 b2 b3 b4 b5 => ?_)
   exact Ec hr hok.2 b2 b3 b4 (by rw [b5];exact hQ.le b1)
  ·rename_i hne
   refine Ec hr hok.1 sim ht hN ?_
   obtain ⟨e,t',h'⟩:=r
   cases e with
   | nrm=>exact absurd hr (hne _)
   | ext=>exact hQ
   | ret=>exact hQ
   | pan=>exact hQ
 | .cond c x y,Q,t,h,r,a,w,g,hr,hok,sim,ht,hN,hQ=>by
  simp only [okC,Bool.and_eq_true] at hok
  simp only [codeF] at hr
  split at hr
  ·rename_i hc
   have hv:=BQ ht hc
   cases hx:a.eval c <;> rw [hx] at hv <;> cases hv
   exact wp_cond_true hx (Ec hr hok.1 sim ht hN hQ)
  ·rename_i hc
   have hv:=BQ ht hc
   cases hx:a.eval c <;> rw [hx] at hv <;> cases hv
   exact wp_cond_false hx (Ec hr hok.2 sim ht hN hQ)
  ·cases hr
 | .block id c,Q,t,h,r,a,w,g,hr,hok,sim,ht,hN,hQ=>by
  simp only [okC] at hok
  simp only [codeF] at hr
  refine wp_block ?_
  split at hr
  ·rename_i j s' hx
   obtain ⟨t',h'⟩:=s'
   refine Ec hx hok sim ht hN ?_
   split at hr
   ·rename_i hj
    have hj:=Bs.1 hj
    simp only [Option.some.injEq] at hr
    subst hr
    intro g' a' w' b1 b2 b3 b4 b5
    simp only [Exit.inBlock,hj,if_true]
    exact hQ g' a' w' b1 b2 b3 b4 b5
   ·rename_i hj
    simp only [Option.some.injEq] at hr
    subst hr
    intro g' a' w' b1 b2 b3 b4 b5
    have hne:j≠id:=fun e=>by rw [Bs.2 e] at hj;cases hj
    simp only [Exit.inBlock,hne,if_false]
    exact hQ g' a' w' b1 b2 b3 b4 b5
  ·rename_i hne
   refine Ec hr hok sim ht hN ?_
   obtain ⟨e,t',h'⟩:=r
   cases e with
   | nrm=>exact hQ
   | ext j=>exact absurd hr (hne _ _)
   | ret=>exact hQ
   | pan=>exact hQ
 | .loop c,Q,t,h,r,a,w,g,hr,hok,sim,ht,hN,hQ=>by
  simp only [okC] at hok
  simp only [codeF] at hr
  have key:∀ n (t:Tm) (h:AE) (a:Act) (w:World) (g:G),iter n (codeF M fid N C L c) (t,h)=some r→Sim g h fr w→Dc g t a.tmps→a.tmps.size=N→Kb Q g fr N a.defers r→Code.rounds P c Q n a w:=by
   intro n
   induction n with
   | zero=>intro t h a w g hr;cases hr
   | succ n ih=>
    intro t h a w g hr sim ht hN hQ
    rw [rounds_succ]
    simp only [iter] at hr
    split at hr
    ·rename_i s' hx
     obtain ⟨t',h'⟩:=s'
     refine Ec hx hok sim ht hN (fun g' a' w' b1 b2 b3 b4 b5 => ?_)
     exact ih t' h' a' w' g' hr b2 b3 b4 (by rw [b5];exact hQ.le b1)
    ·rename_i hne
     refine Ec hr hok sim ht hN ?_
     obtain ⟨e,t',h'⟩:=r
     cases e with
     | nrm=>exact absurd hr (hne _)
     | ext=>exact hQ
     | ret=>exact hQ
     | pan=>exact hQ
  exact wp_loop_rounds L (key L t h a w g hr sim ht hN hQ)
 | .exit id,Q,t,h,r,a,w,g,hr,_,sim,ht,hN,hQ=>by
  simp only [codeF,Option.some.injEq] at hr
  subst hr
  exact wp_exit (hQ g a w (Le.refl g) sim ht hN rfl)
 | .ret,Q,t,h,r,a,w,g,hr,_,sim,ht,hN,hQ=>by
  simp only [codeF,Option.some.injEq] at hr
  subst hr
  exact wp_ret (hQ g a w (Le.refl g) sim ht hN rfl)
 | .scope _,_,_,_,_,_,_,_,hr,_,_,_,_,_=>by simp [codeF] at hr
 | .rangeFunc ..,_,_,_,_,_,_,_,hr,_,_,_,_,_=>by simp [codeF] at hr
 | .label _,_,_,_,_,_,_,_,hr,_,_,_,_,_=>by simp [codeF] at hr
 | .goto _,_,_,_,_,_,_,_,hr,_,_,_,_,_=>by simp [codeF] at hr
 | .refuse _,_,_,_,_,_,_,_,hr,_,_,_,_,_=>by simp [codeF] at hr
def Kc (tmps:Array Value):ResultVar→Sem Value
 | .tmp t=>pure (tmps.getD t undef)
 | .cell a t=>do loadVar t (← asAddr (tmps.getD a undef))
include F in
theorem MM {g:G} {h:AE} {fr:Fr} {w:World} {t:Tm} {tmps:Array Value} (sim:Sim g h fr w) (ht:Dc g t tmps):∀ {rs:List ResultVar} {vs:List AV},Cm M.ty t h rs=some vs →
  ∃ xs:List Value,(rs.mapM (Kc tmps)).run P w=.ok xs w∧Aw g true vs xs.toArray
 | [],vs,hr=>by
  simp only [Cm,Option.some.injEq] at hr
  subst hr
  exact ⟨[],rfl,Aw.nil _ _⟩
 | .tmp d::r,vs,hr=>by
  simp only [Cm,Option.map_eq_some_iff] at hr
  obtain ⟨vs',hr',rfl⟩:=hr
  obtain ⟨xs,h1,h2⟩:=MM sim ht hr'
  exact ⟨tmps.getD d undef::xs,by simp [List.mapM_cons,Kc,h1],Aw.cons (ht d) h2⟩
 | .cell d ty::r,vs,hr=>by
  simp only [Cm] at hr
  split at hr
  ·rename_i v vs' hl hr'
   simp only [Option.some.injEq] at hr
   subst hr
   obtain ⟨xs,h1,h2⟩:=MM sim ht hr'
   obtain ⟨B,o,y,e1,e2,e3⟩:=Mt F sim (ht d) hl
   have hrun:(Kc tmps (.cell d ty)).run P w=.ok y w:=by simp only [Kc,e1,asAddr,Sem.run_bind,Sem.run_pure,Result.andThen_ok,e2]
   exact ⟨y::xs,by simp [List.mapM_cons,hrun,h1],Aw.cons e3 h2⟩
  ·cases hr
include F in
theorem Js {g:G} {h:AE} {fr:Fr} {w:World} {t:Tm} {tmps:Array Value} (sim:Sim g h fr w) (ht:Dc g t tmps) {fn:Func} {v:AV} (hr:B6 M.ty t h fn.results=some v) :
  ∃ x,(results fn tmps).run P w=.ok x w∧Rel g true v x:=by
 unfold B6 at hr
 cases hv:Cm M.ty t h fn.results.toList with
 | none=>rw [hv] at hr;cases hr
 | some vs=>
  rw [hv] at hr
  obtain ⟨xs,h1,h2⟩:=MM (P:=P) F sim ht hv
  have hm:(fn.results.mapM (Kc tmps)).run P w=.ok xs.toArray w:=by
   rw [Array.mapM_eq_mapM_toList]
   simp only [Sem.run_map,h1]
   rfl
  have hres:results fn tmps=(do let vs ← fn.results.mapM (Kc tmps);pure (if h:vs.size=1 then vs[0] else .tuple vs)):=by
   have he:Kc tmps=(fun (x:ResultVar)=>match x with
    | .tmp t=>pure (tmps.getD t undef)
    | .cell a t=>do loadVar t (← asAddr (tmps.getD a undef))):=by
    funext x;cases x <;> rfl
   rw [he]
   rfl
  rw [hres]
  simp only [Sem.run_bind,hm,Result.andThen_ok]
  clear hv
  match vs,xs,h2,hr with
  | [u],[x],h2,hr=>
   simp only [Option.some.injEq] at hr
   subst hr
   refine ⟨x,?_,h2.head.1⟩
   simp
  | [],xs,h2,hr=>
   simp only [Option.some.injEq] at hr
   subst hr
   have:xs=[]:=List.eq_nil_of_length_eq_zero (by have:=h2.1;simpa using this)
   subst this
   refine ⟨.tuple #[],?_,Je g⟩
   simp
  | u::u'::us,xs,h2,hr=>
   simp only [Option.some.injEq] at hr
   subst hr
   have hl:xs.toArray.size≠1:=by rw [h2.1];simp
   refine ⟨.tuple xs.toArray,?_,.tup true _ _ h2.1 h2.2⟩
   rw [dif_neg hl]
   rfl
  | [_],[],h2,_=>have:=h2.1;simp at this
  | [_],_::_::_,h2,_=>have:=h2.1;simp at this
theorem NA:∀ (args:List AV) (k d:Nat),((Tm.init k args).get d)=if k≤d then (args[d - k]?).getD .undef else .undef
 | [],k,d=>by simp [Tm.init,Tm.get]
 | v::r,k,d=>by
  simp only [Tm.init,Tm.get]
  cases hb:Nat.beq k d with
  | true=>
   have:=Bs.1 hb
   subst this
   simp
  | false=>
   have hne:k≠d:=fun h=>by rw [Bs.2 h] at hb;cases hb
   rw [NA r (k+1) d]
   by_cases hk:k≤d
   ·rw [if_pos hk,if_pos (by omega),show d - k=(d - (k+1))+1 by omega];rfl
   ·rw [if_neg hk,if_neg (by omega)]
theorem R0 {g:G} {args:List AV} {cargs:Array Value} (h:Aw g true args cargs) (n:Nat):Dc g (Tm.init 0 args) (cargs++Array.replicate n undef):=fun d=>by
 rw [NA,if_pos (Nat.zero_le _),Nat.sub_zero]
 cases hd:args[d]? with
 | none=>exact .undef _ _
 | some v=>
  have hlt:d<cargs.size:=by rw [h.1];exact (List.getElem?_eq_some_iff.1 hd).1
  have hv:cargs[d]? = some cargs[d]:=Array.getElem?_eq_getElem hlt
  rw [Array.getD_eq_getD_getElem?,Array.getElem?_append_left hlt,hv]
  exact h.2 d v _ hd hv
include F hC hP in
theorem Um (L:Nat):Ho M P (Jz M C L):=by
 intro f args h r h' hr
 unfold Jz at hr
 split at hr
 ·cases hr
 ·rename_i fn hfn
  split at hr
  ·cases hr
  ·rename_i c hc
   split at hr
   ·rename_i hle
    have hle:=G8.1 hle
    obtain ⟨f1,f2,f3⟩:=F.fn f fn hfn
    refine ⟨⟨fn,c,hfn,hc⟩,fun g fr w cargs sim hargs => ?_⟩
    refine calls_of_wp f1 hc ?_
    have hsz:(cargs++Array.replicate (fn.ntmps - cargs.size) undef).size=fn.ntmps:=by
     have:=hargs.1
     simp;omega
    cases hcode:codeF M f fn.ntmps C L c (Tm.init 0 args,h) with
    | none=>rw [hcode] at hr;cases hr
    | some ex=>
     rw [hcode] at hr
     refine Ec F hC hP hcode (f3 c hc) sim (R0 hargs _) hsz ?_
     obtain ⟨e,t',h1⟩:=ex
     cases e with
     | nrm=>
      simp only [finish,Option.map_eq_some_iff] at hr
      obtain ⟨v,hv,hr⟩:=hr
      simp only [Prod.mk.injEq] at hr
      obtain ⟨rfl,rfl⟩:=hr
      intro g' a' w' b1 b2 b3 b4 b5
      obtain ⟨x,x1,x2⟩:=Js F b2 b3 hv
      exact ⟨b5,x,x1,g',b1,b2,x2⟩
     | ret=>
      simp only [finish,Option.map_eq_some_iff] at hr
      obtain ⟨v,hv,hr⟩:=hr
      simp only [Prod.mk.injEq] at hr
      obtain ⟨rfl,rfl⟩:=hr
      intro g' a' w' b1 b2 b3 b4 b5
      obtain ⟨x,x1,x2⟩:=Js F b2 b3 hv
      exact ⟨b5,x,x1,g',b1,b2,x2⟩
     | ext=>cases hr
     | pan v=>
      simp only [finish,Option.some.injEq,Prod.mk.injEq] at hr
      obtain ⟨rfl,rfl⟩:=hr
      intro g' a' w' x b1 b2 b3 b4
      exact ⟨b4,g',b1,b2,x,rfl,b3⟩
   ·cases hr
include F hP in
theorem Hq (hE:Rs M P):∀ n,Ho M P (C9 M n)
 | 0=>fun f args h r h' hr=>by cases hr
 | n+1=>fun f args h r h' hr=>by
  simp only [C9] at hr
  split at hr
  ·rename_i e he
   exact hE f e he args h r h' hr
  ·exact Um F (Hq hE n) hP n f args h r h' hr
end
theorem A2 (a b:Nat):Nat.beq a b=decide (a=b):=by
 cases h:Nat.beq a b with
 | true=>simp [Bs.1 h]
 | false=>have:a≠b:=fun e=>by rw [Bs.2 e] at h;cases h
          simp [this]
theorem A7 (a b:Nat):Nat.ble a b=decide (a≤b):=by
 cases h:Nat.ble a b with
 | true=>simp [G8.1 h]
 | false=>have:¬ a≤b:=fun e=>by rw [G8.2 e] at h;cases h
          simp [this]
theorem CF (a b:Nat):Nat.blt a b=decide (a<b):=by
 cases h:Nat.blt a b with
 | true=>simp [Fg.1 h]
 | false=>have:¬ a<b:=fun e=>by rw [Fg.2 e] at h;cases h
          simp [this]
theorem JD (n:Nat):FA n n=some n:=by simp [FA]
theorem ID (n:Nat):FA 0 n=some 0:=by simp [FA]
theorem HQ (M:Par) (n:Nat) (f:FuncId) (args:List AV) (h:AE) (he:M.eff f=none):C9 M (n+1) f args h=Jz M (C9 M n) n f args h:=by simp only [C9,he]
def Gv:List (List AV×AV)→List AV→Option AV
 | [],_=>none
 | (a,v)::r,args=>match IT args a with
  | true=>some v
  | false=>Gv r args
theorem Ke:∀ {l:List (List AV×AV)} {args:List AV} {v:AV},Gv l args=some v→(args,v)∈l
 | [],_,_,h=>by cases h
 | (a,u)::r,args,v,h=>by
  simp only [Gv] at h
  split at h
  ·rename_i hb
   simp only [Option.some.injEq] at h
   subst h
   rw [GF hb];simp
  ·exact List.mem_cons_of_mem _ (Ke h)
def Par.FL (M:Par) (f:FuncId) (p:List AV→Option AV):Par := { M with prim:=fun g=>match Nat.beq g f with
 | true=>some p
 | false=>M.prim g }
theorem Fits.FL {M:Par} {P:Program} (F:Fits M P) (f:FuncId) (p:List AV→Option AV):Fits (M.FL f p) P:=⟨F.ty,F.fn,F.mixed,F.fld,F.elm⟩
def Fl (M:Par) (n:Nat) (f:FuncId) (a:List AV) (v:AV):Bool:=
 (M.mode f).fresh && !(M.mode f).keepTop&&a.all AV.AD&&(match AK M (C9 M n) f a [] with
   | some (.ret u,[])=>AV.beq u v
   | _=>false)
theorem GV {M:Par} {P:Program} (F:Fits M P) (hP:Cl M P) {n:Nat} {f:FuncId} {a:List AV} {v:AV} (h:Fl M n f a v=true) (hE:M.eff=fun _=>none:=by rfl) :
  (∃ fn c,M.fn f=some fn∧fn.body=some c)∧∀ g h fr w cargs,Sim g h fr w→Aw g true a cargs→Calls P f cargs w fun e w'=>∃ g',Le g g'∧Sim g' h fr w'∧I7 g' (.ret v) e:=by
 simp only [Fl,Bool.and_eq_true,Bool.not_eq_true'] at h
 obtain ⟨⟨⟨h1,h2⟩,h3⟩,h4⟩:=h
 split at h4
 ·rename_i u hd
  have:=AV.beq_eq h4
  subst this
  have hok:=LW (Hq F hP (Ip hE) n)
  refine ⟨(hok f a [] _ _ hd).1,fun g h fr w cargs sim hargs => ?_⟩
  exact (hok f a h _ _ ((JA h1 h2 h3 hd).2 h)).2 g fr w cargs sim hargs
 ·cases h4
theorem Cl.Hr {M:Par} {P:Program} (hP:Cl M P) (f:FuncId) (l:List (List AV×AV)) (h:∀ p∈l,(∃ fn c,M.fn f=some fn∧fn.body=some c)∧∀ g h fr w cargs,Sim g h fr w→Aw g true p.1 cargs →
  Calls P f cargs w fun e w'=>∃ g',Le g g'∧Sim g' h fr w'∧I7 g' (.ret p.2) e):Cl (M.FL f (Gv l)) P:=by
 intro g p hp args v hv
 simp only [Par.FL] at hp
 split at hp
 ·rename_i hg
  have hg:=Bs.1 hg
  subst hg
  simp only [Option.some.injEq] at hp
  subst hp
  exact h _ (Ke hv)
 ·exact hP g p hp args v hv
end Go.Am
namespace Go.Proofs.Am12
open Go Go.Am
noncomputable def M0:Par := { M with prim:=fun _=>none }
theorem Wu:Fits M0 Tryz.prog:=⟨Il.ty,Il.fn,Il.mixed,Il.fld,Il.elm⟩
theorem Wv:Cl M0 Tryz.prog:=fun f p h=>by cases h
theorem Ww:und M0.ty 32=some (.slice 34):=by kernel_rfl
theorem Wx:siz M0.ty 34=3:=by kernel_rfl
theorem Wy:M0.fn 165=some Tryz.f165:=by kernel_rfl
theorem La:M0.keep 165 0=some [0]:=by kernel_rfl
theorem Lb:M0.keep 165 1=some [2]:=by kernel_rfl
theorem R1:und M0.ty 100=some (.slice 9):=by kernel_rfl
theorem siz9:siz M0.ty 9=1:=by kernel_rfl
theorem Wz:M0.fn 233=some Tryz.f233:=by kernel_rfl
theorem Lc:M0.keep 233 0=some [0]:=by kernel_rfl
theorem Ld:M0.keep 233 1=some [2]:=by kernel_rfl
set_option maxHeartbeats 4000000
theorem R3 (h:AE):C9 M0 2 165 [.AI] h=some (.ret .AI,h):=by kernel_rfl
theorem R4 (h:AE):C9 M0 2 233 [.AI] h=some (.ret .AI,h):=by kernel_rfl
theorem R5 (es:List (List AV)) (ex:Bool) (h:AE):C9 M0 2 165 [.sl 3 ex es] h=some (.ret (.sl 3 true es),h):=by
 rw [HQ _ _ _ _ _ rfl]
 simp [Jz,Wy,La,Lb,Tryz.f165,codeF,BT,BP,Bb,Ap,Fy,BE,C7,ev,evs,C3,C4,OR.ofV,OR.DQ,E6,Tm.get,Tm.init,Tm.only,A2,A7,CF,Ad,Ww,F8,Ca,intOf,JD,ID,Wx,I2,finish,B6,Cm]
theorem R6 (id gen off len:Nat) (ex:Bool) (h:AE):C9 M0 2 165 [.hs id gen 3 off len ex] h=some (.ret (.hs id gen 3 off len true),h):=by
 rw [HQ _ _ _ _ _ rfl]
 simp [Jz,Wy,La,Lb,Tryz.f165,codeF,BT,BP,Bb,Ap,Fy,BE,C7,ev,evs,C3,C4,OR.ofV,OR.DQ,E6,Tm.get,Tm.init,Tm.only,A2,A7,CF,Ad,Ww,F8,Ca,intOf,JD,ID,Wx,I2,finish,B6,Cm]
theorem R7 (es:List (List AV)) (ex:Bool) (h:AE):C9 M0 2 233 [.sl 1 ex es] h=some (.ret (.sl 1 true es),h):=by
 rw [HQ _ _ _ _ _ rfl]
 simp [Jz,Wz,Lc,Ld,Tryz.f233,codeF,BT,BP,Bb,Ap,Fy,BE,C7,ev,evs,C3,C4,OR.ofV,OR.DQ,E6,Tm.get,Tm.init,Tm.only,A2,A7,CF,Ad,R1,F8,Ca,intOf,JD,ID,siz9,I2,finish,B6,Cm]
theorem R8 (id gen off len:Nat) (ex:Bool) (h:AE):C9 M0 2 233 [.hs id gen 1 off len ex] h=some (.ret (.hs id gen 1 off len true),h):=by
 rw [HQ _ _ _ _ _ rfl]
 simp [Jz,Wz,Lc,Ld,Tryz.f233,codeF,BT,BP,Bb,Ap,Fy,BE,C7,ev,evs,C3,C4,OR.ofV,OR.DQ,E6,Tm.get,Tm.init,Tm.only,A2,A7,CF,Ad,R1,F8,Ca,intOf,JD,ID,siz9,I2,finish,B6,Cm]
theorem Un {args:List AV} {v:AV} (h:AE) (hv:IZ 3 args=some v):C9 M0 2 165 args h=some (.ret v,h):=by
 unfold IZ at hv
 split at hv
 ·simp only [Option.some.injEq] at hv;subst hv;exact R3 h
 ·split at hv
  ·rename_i hb
   simp only [Option.some.injEq] at hv;subst hv
   have:=Bs.1 hb;subst this
   exact R5 _ _ h
  ·cases hv
 ·split at hv
  ·rename_i hb
   simp only [Option.some.injEq] at hv;subst hv
   have:=Bs.1 hb;subst this
   exact R6 _ _ _ _ _ h
  ·cases hv
 ·cases hv
theorem Uo {args:List AV} {v:AV} (h:AE) (hv:IZ 1 args=some v):C9 M0 2 233 args h=some (.ret v,h):=by
 unfold IZ at hv
 split at hv
 ·simp only [Option.some.injEq] at hv;subst hv;exact R4 h
 ·split at hv
  ·rename_i hb
   simp only [Option.some.injEq] at hv;subst hv
   have:=Bs.1 hb;subst this
   exact R7 _ _ h
  ·cases hv
 ·split at hv
  ·rename_i hb
   simp only [Option.some.injEq] at hv;subst hv
   have:=Bs.1 hb;subst this
   exact R8 _ _ _ _ _ h
  ·cases hv
 ·cases hv
theorem R9:Cl M Tryz.prog:=by
 intro f p hp args v hv
 have key:∀ g,(∀ h,C9 M0 2 g args h=some (.ret v,h))→(∃ fn c,M.fn g=some fn∧fn.body=some c)∧∀ G h fr w cargs,Sim G h fr w→Aw G true args cargs →
   Calls Tryz.prog g cargs w fun e w'=>∃ g',Le G g'∧Sim g' h fr w'∧I7 g' (.ret v) e:=fun g hg=>
  ⟨(Hq Wu Wv (Ip rfl) 2 g args [] _ _ (hg [])).1,fun G h fr w cargs sim hargs=>(Hq Wu Wv (Ip rfl) 2 g args h _ _ (hg h)).2 G fr w cargs sim hargs⟩
 change Rb f=some p at hp
 unfold Rb at hp
 split at hp
 ·rename_i hf
  have:=Bs.1 hf;subst this
  simp only [Option.some.injEq] at hp;subst hp
  exact key 165 fun h=>Un h hv
 ·split at hp
  ·rename_i hf
   have:=Bs.1 hf;subst this
   simp only [Option.some.injEq] at hp;subst hp
   exact key 233 fun h=>Uo h hv
  ·cases hp
theorem OX:Fits M Tryz.prog:=Il
theorem OY:Cl M Tryz.prog:=R9
def SB:List AV:=[(.sl 3 true [[(.str [77,97,121,98,101]),(.sl 1 true [[(.str [97])]]),(.sl 2 true [[(.str [78,111,110,101]),.AI],[(.str [83,111,109,101]),(.sl 5 true [[(.str [118,97,108,117,101]),(.int .i64 (0)),(.int .i64 (0)),(.str [97]),.AI]])]])],[(.str [80,97,105,114]),(.sl 1 true [[(.str [97])],[(.str [98])]]),(.sl 2 true [[(.str [80,97,105,114]),(.sl 5 true [[(.str [108,101,102,116]),(.int .i64 (0)),(.int .i64 (0)),(.str [97]),.AI],[(.str [114,105,103,104,116]),(.int .i64 (0)),(.int .i64 (0)),(.str [98]),.AI]])]])],[(.str [67,111,108,111,114]),.AI,(.sl 2 true [[(.str [82,101,100]),.AI],[(.str [71,114,101,101,110]),.AI],[(.str [66,108,117,101]),.AI]])]]),(.agg [(.int .i64 (1)),(.int .i64 (0)),(.str [80,97,105,114]),(.sl 4 true [[(.int .i64 (1)),(.int .i64 (0)),(.str [77,97,121,98,101]),(.sl 4 true [[(.int .i64 (1)),(.int .i64 (0)),(.str [67,111,108,111,114]),.AI]])],[(.int .i64 (1)),(.int .i64 (0)),(.str [66,111,111,108]),.AI]])])]
def SC:AV:=(.tup [(.ro [(.int .i64 (0)),(.sl 3 false [[(.str [80,97,105,114]),(.sl 5 false [[(.str [108,101,102,116]),(.int .i64 (1)),(.int .i64 (0)),(.str [77,97,121,98,101]),(.sl 4 false [[(.int .i64 (1)),(.int .i64 (0)),(.str [67,111,108,111,114]),.AI]])],[(.str [114,105,103,104,116]),(.int .i64 (1)),(.int .i64 (0)),(.str [66,111,111,108]),.AI]]),(.sl 1 false [[(.ro [(.int .i64 (0)),(.sl 3 false [[(.str [78,111,110,101]),.AI,.AI],[(.str [83,111,109,101]),(.sl 5 false [[(.str [118,97,108,117,101]),(.int .i64 (1)),(.int .i64 (0)),(.str [67,111,108,111,114]),.AI]]),(.sl 1 false [[(.ro [(.int .i64 (0)),(.sl 3 false [[(.str [82,101,100]),.AI,.AI],[(.str [71,114,101,101,110]),.AI,.AI],[(.str [66,108,117,101]),.AI,.AI]])])]])]])])],[(.ro [(.int .i64 (0)),(.sl 3 true [[(.str [70,97,108,115,101]),.AI,.AI],[(.str [84,114,117,101]),.AI,.AI]])])]])]])]),(.agg [(.sl 3 true [[(.str [77,97,121,98,101]),(.sl 1 true [[(.str [97])]]),(.sl 2 true [[(.str [78,111,110,101]),.AI],[(.str [83,111,109,101]),(.sl 5 true [[(.str [118,97,108,117,101]),(.int .i64 (0)),(.int .i64 (0)),(.str [97]),.AI]])]])],[(.str [80,97,105,114]),(.sl 1 true [[(.str [97])],[(.str [98])]]),(.sl 2 true [[(.str [80,97,105,114]),(.sl 5 true [[(.str [108,101,102,116]),(.int .i64 (0)),(.int .i64 (0)),(.str [97]),.AI],[(.str [114,105,103,104,116]),(.int .i64 (0)),(.int .i64 (0)),(.str [98]),.AI]])]])],[(.str [67,111,108,111,114]),.AI,(.sl 2 true [[(.str [82,101,100]),.AI],[(.str [71,114,101,101,110]),.AI],[(.str [66,108,117,101]),.AI]])]]),.AI]),(.int .i64 (0))])
theorem Xd:Fl M 300 174 SB SC=true:=by kernel_rfl
def SD:List AV:=[.AI,(.agg [(.int .i64 (1)),(.int .i64 (0)),(.str [66,105,116]),(.sl 4 true [[(.int .i64 (2)),(.int .i64 (2)),(.str []),.AI]])])]
def SE:AV:=(.tup [(.ro [(.int .i64 (2)),.AI]),(.agg [.AI,.AI]),(.int .i64 (0))])
theorem Xe:Fl M 300 174 SD SE=true:=by kernel_rfl
noncomputable def MA1:Par:=Par.FL M 174 (Gv [(SB,SC),(SD,SE)])
theorem OZ:Fits MA1 Tryz.prog:=Fits.FL OX _ _
theorem Oa:Cl MA1 Tryz.prog:=Cl.Hr OY _ _ fun p hp=>by
 simp only [List.mem_cons,List.not_mem_nil,or_false] at hp
 rcases hp with rfl | rfl
 ·exact GV OX OY Xd
 ·exact GV OX OY Xe
def W0:List AV:=[(.agg [(.sl 3 true [[(.str [77,97,121,98,101]),(.sl 1 true [[(.str [97])]]),(.sl 2 true [[(.str [78,111,110,101]),.AI],[(.str [83,111,109,101]),(.sl 5 true [[(.str [118,97,108,117,101]),(.int .i64 (0)),(.int .i64 (0)),(.str [97]),.AI]])]])],[(.str [80,97,105,114]),(.sl 1 true [[(.str [97])],[(.str [98])]]),(.sl 2 true [[(.str [80,97,105,114]),(.sl 5 true [[(.str [108,101,102,116]),(.int .i64 (0)),(.int .i64 (0)),(.str [97]),.AI],[(.str [114,105,103,104,116]),(.int .i64 (0)),(.int .i64 (0)),(.str [98]),.AI]])]])],[(.str [67,111,108,111,114]),.AI,(.sl 2 true [[(.str [82,101,100]),.AI],[(.str [71,114,101,101,110]),.AI],[(.str [66,108,117,101]),.AI]])]]),(.int .i64 (1)),(.int .i64 (0)),(.str [80,97,105,114]),(.sl 4 true [[(.int .i64 (1)),(.int .i64 (0)),(.str [77,97,121,98,101]),(.sl 4 true [[(.int .i64 (1)),(.int .i64 (0)),(.str [67,111,108,111,114]),.AI]])],[(.int .i64 (1)),(.int .i64 (0)),(.str [66,111,111,108]),.AI]]),(.sl 4 true [[(.int .i64 (2)),(.int .i64 (0)),(.str [80,97,105,114]),(.sl 4 true [[(.int .i64 (2)),(.int .i64 (0)),(.str [78,111,110,101]),.AI],[(.int .i64 (0)),(.int .i64 (0)),(.str []),.AI]])],[(.int .i64 (2)),(.int .i64 (0)),(.str [80,97,105,114]),(.sl 4 true [[(.int .i64 (2)),(.int .i64 (0)),(.str [83,111,109,101]),(.sl 4 true [[(.int .i64 (2)),(.int .i64 (0)),(.str [82,101,100]),.AI]])],[(.int .i64 (2)),(.int .i64 (0)),(.str [84,114,117,101]),.AI]])],[(.int .i64 (2)),(.int .i64 (0)),(.str [80,97,105,114]),(.sl 4 true [[(.int .i64 (2)),(.int .i64 (0)),(.str [83,111,109,101]),(.sl 4 true [[(.int .i64 (1)),(.int .i64 (0)),(.str [120]),.AI]])],[(.int .i64 (2)),(.int .i64 (0)),(.str [70,97,108,115,101]),.AI]])]])])]
def W1:AV:=(.tup [(.ro [(.int .i64 (0)),(.sl 2 false [[(.str [80,97,105,114]),(.sl 1 false [[(.ro [(.int .i64 (0)),(.sl 2 false [[(.str [78,111,110,101]),.AI],[(.str [83,111,109,101]),(.sl 1 false [[(.ro [(.int .i64 (0)),(.sl 2 false [[(.str [82,101,100]),.AI],[(.str [71,114,101,101,110]),.AI],[(.str [66,108,117,101]),.AI]])])]])]])])],[(.ro [(.int .i64 (0)),(.sl 2 true [[(.str [70,97,108,115,101]),.AI],[(.str [84,114,117,101]),.AI]])])]])]])]),(.int .i64 (0))])
theorem w63_0:Fl MA1 300 63 W0 W1=true:=by kernel_rfl
def W2:List AV:=[(.agg [.AI,(.int .i64 (1)),(.int .i64 (0)),(.str [66,105,116]),(.sl 4 true [[(.int .i64 (2)),(.int .i64 (2)),(.str []),.AI]]),(.sl 4 true [[(.int .i64 (3)),(.int .i64 (1)),(.str []),.AI],[(.int .i64 (0)),(.int .i64 (0)),(.str []),.AI],[(.int .i64 (3)),(.int .i64 (3)),(.str []),.AI]])])]
def W3:AV:=(.tup [(.ro [(.int .i64 (2)),.AI]),(.int .i64 (0))])
theorem w63_1:Fl MA1 300 63 W2 W3=true:=by kernel_rfl
noncomputable def MA2:Par:=Par.FL MA1 63 (Gv [(W0,W1),(W2,W3)])
theorem MN:Fits MA2 Tryz.prog:=Fits.FL OZ _ _
theorem MO:Cl MA2 Tryz.prog:=Cl.Hr Oa _ _ fun p hp=>by
 simp only [List.mem_cons,List.not_mem_nil,or_false] at hp
 rcases hp with rfl | rfl
 ·exact GV OZ Oa w63_0
 ·exact GV OZ Oa w63_1
def W4:List AV:=[(.agg [(.sl 3 true [[(.str [77,97,121,98,101]),(.sl 1 true [[(.str [97])]]),(.sl 2 true [[(.str [78,111,110,101]),.AI],[(.str [83,111,109,101]),(.sl 5 true [[(.str [118,97,108,117,101]),(.int .i64 (0)),(.int .i64 (0)),(.str [97]),.AI]])]])],[(.str [80,97,105,114]),(.sl 1 true [[(.str [97])],[(.str [98])]]),(.sl 2 true [[(.str [80,97,105,114]),(.sl 5 true [[(.str [108,101,102,116]),(.int .i64 (0)),(.int .i64 (0)),(.str [97]),.AI],[(.str [114,105,103,104,116]),(.int .i64 (0)),(.int .i64 (0)),(.str [98]),.AI]])]])],[(.str [67,111,108,111,114]),.AI,(.sl 2 true [[(.str [82,101,100]),.AI],[(.str [71,114,101,101,110]),.AI],[(.str [66,108,117,101]),.AI]])]]),(.int .i64 (1)),(.int .i64 (0)),(.str [80,97,105,114]),(.sl 4 true [[(.int .i64 (1)),(.int .i64 (0)),(.str [77,97,121,98,101]),(.sl 4 true [[(.int .i64 (1)),(.int .i64 (0)),(.str [67,111,108,111,114]),.AI]])],[(.int .i64 (1)),(.int .i64 (0)),(.str [66,111,111,108]),.AI]]),(.sl 4 true [[(.int .i64 (2)),(.int .i64 (0)),(.str [80,97,105,114]),(.sl 4 true [[(.int .i64 (2)),(.int .i64 (0)),(.str [78,111,110,101]),.AI],[(.int .i64 (0)),(.int .i64 (0)),(.str []),.AI]])],[(.int .i64 (2)),(.int .i64 (0)),(.str [80,97,105,114]),(.sl 4 true [[(.int .i64 (2)),(.int .i64 (0)),(.str [83,111,109,101]),(.sl 4 true [[(.int .i64 (2)),(.int .i64 (0)),(.str [82,101,100]),.AI]])],[(.int .i64 (2)),(.int .i64 (0)),(.str [84,114,117,101]),.AI]])],[(.int .i64 (2)),(.int .i64 (0)),(.str [80,97,105,114]),(.sl 4 true [[(.int .i64 (2)),(.int .i64 (0)),(.str [83,111,109,101]),(.sl 4 true [[(.int .i64 (1)),(.int .i64 (0)),(.str [120]),.AI]])],[(.int .i64 (2)),(.int .i64 (0)),(.str [70,97,108,115,101]),.AI]])]])])]
def W5:AV:=(.tup [(.agg [(.str [80,97,105,114]),(.int .i64 (0)),(.sl 3 false [[(.str [83,111,109,101]),(.int .i64 (0)),(.sl 3 false [[(.str [71,114,101,101,110]),(.int .i64 (0)),.AI]])],[(.str [84,114,117,101]),(.int .i64 (0)),.AI]])]),(.int .i64 (0))])
theorem w14_0:Fl MA2 300 14 W4 W5=true:=by kernel_rfl
def W6:List AV:=[(.agg [(.sl 3 true [[(.str [77,97,121,98,101]),(.sl 1 true [[(.str [97])]]),(.sl 2 true [[(.str [78,111,110,101]),.AI],[(.str [83,111,109,101]),(.sl 5 true [[(.str [118,97,108,117,101]),(.int .i64 (0)),(.int .i64 (0)),(.str [97]),.AI]])]])],[(.str [80,97,105,114]),(.sl 1 true [[(.str [97])],[(.str [98])]]),(.sl 2 true [[(.str [80,97,105,114]),(.sl 5 true [[(.str [108,101,102,116]),(.int .i64 (0)),(.int .i64 (0)),(.str [97]),.AI],[(.str [114,105,103,104,116]),(.int .i64 (0)),(.int .i64 (0)),(.str [98]),.AI]])]])],[(.str [67,111,108,111,114]),.AI,(.sl 2 true [[(.str [82,101,100]),.AI],[(.str [71,114,101,101,110]),.AI],[(.str [66,108,117,101]),.AI]])]]),(.int .i64 (1)),(.int .i64 (0)),(.str [80,97,105,114]),(.sl 4 true [[(.int .i64 (1)),(.int .i64 (0)),(.str [77,97,121,98,101]),(.sl 4 true [[(.int .i64 (1)),(.int .i64 (0)),(.str [67,111,108,111,114]),.AI]])],[(.int .i64 (1)),(.int .i64 (0)),(.str [66,111,111,108]),.AI]]),(.sl 4 true [[(.int .i64 (2)),(.int .i64 (0)),(.str [80,97,105,114]),(.sl 4 true [[(.int .i64 (2)),(.int .i64 (0)),(.str [78,111,110,101]),.AI],[(.int .i64 (0)),(.int .i64 (0)),(.str []),.AI]])],[(.int .i64 (2)),(.int .i64 (0)),(.str [80,97,105,114]),(.sl 4 true [[(.int .i64 (2)),(.int .i64 (0)),(.str [83,111,109,101]),(.sl 4 true [[(.int .i64 (2)),(.int .i64 (0)),(.str [82,101,100]),.AI]])],[(.int .i64 (2)),(.int .i64 (0)),(.str [84,114,117,101]),.AI]])],[(.int .i64 (2)),(.int .i64 (0)),(.str [80,97,105,114]),(.sl 4 true [[(.int .i64 (2)),(.int .i64 (0)),(.str [83,111,109,101]),(.sl 4 true [[(.int .i64 (1)),(.int .i64 (0)),(.str [120]),.AI]])],[(.int .i64 (2)),(.int .i64 (0)),(.str [70,97,108,115,101]),.AI]])]])])]
def W7:AV:=(.tup [(.sl 1 false [[(.int .i64 (2))],[(.int .i64 (1))],[(.int .i64 (3))]]),(.int .i64 (0))])
theorem w17_0:Fl MA2 300 17 W6 W7=true:=by kernel_rfl
def W8:List AV:=[(.agg [.AI,(.int .i64 (1)),(.int .i64 (0)),(.str [66,105,116]),(.sl 4 true [[(.int .i64 (2)),(.int .i64 (2)),(.str []),.AI]]),(.sl 4 true [[(.int .i64 (3)),(.int .i64 (1)),(.str []),.AI],[(.int .i64 (0)),(.int .i64 (0)),(.str []),.AI],[(.int .i64 (3)),(.int .i64 (3)),(.str []),.AI]])])]
def W9:AV:=(.tup [(.sl 1 false [[(.int .i64 (1))],[(.int .i64 (3))],[(.int .i64 (0))]]),(.int .i64 (0))])
theorem w17_1:Fl MA2 300 17 W8 W9=true:=by kernel_rfl
noncomputable def MA3:Par:=Par.FL MA2 14 (Gv [(W4,W5)])
theorem Xf:Fits MA3 Tryz.prog:=Fits.FL MN _ _
theorem Xg:Cl MA3 Tryz.prog:=Cl.Hr MO _ _ fun p hp=>by
 simp only [List.mem_cons,List.not_mem_nil,or_false] at hp
 subst hp
 exact GV MN MO w14_0
noncomputable def MA4:Par:=Par.FL MA3 17 (Gv [(W6,W7),(W8,W9)])
theorem SF:Fits MA4 Tryz.prog:=Fits.FL Xf _ _
theorem SG:Cl MA4 Tryz.prog:=Cl.Hr Xg _ _ fun p hp=>by
 simp only [List.mem_cons,List.not_mem_nil,or_false] at hp
 rcases hp with rfl | rfl
 ·exact GV MN MO w17_0
 ·exact GV MN MO w17_1
def XA:List AV:=[(.agg [(.sl 3 true [[(.str [77,97,121,98,101]),(.sl 1 true [[(.str [97])]]),(.sl 2 true [[(.str [78,111,110,101]),.AI],[(.str [83,111,109,101]),(.sl 5 true [[(.str [118,97,108,117,101]),(.int .i64 (0)),(.int .i64 (0)),(.str [97]),.AI]])]])],[(.str [80,97,105,114]),(.sl 1 true [[(.str [97])],[(.str [98])]]),(.sl 2 true [[(.str [80,97,105,114]),(.sl 5 true [[(.str [108,101,102,116]),(.int .i64 (0)),(.int .i64 (0)),(.str [97]),.AI],[(.str [114,105,103,104,116]),(.int .i64 (0)),(.int .i64 (0)),(.str [98]),.AI]])]])],[(.str [67,111,108,111,114]),.AI,(.sl 2 true [[(.str [82,101,100]),.AI],[(.str [71,114,101,101,110]),.AI],[(.str [66,108,117,101]),.AI]])]]),(.int .i64 (1)),(.int .i64 (0)),(.str [80,97,105,114]),(.sl 4 true [[(.int .i64 (1)),(.int .i64 (0)),(.str [77,97,121,98,101]),(.sl 4 true [[(.int .i64 (1)),(.int .i64 (0)),(.str [67,111,108,111,114]),.AI]])],[(.int .i64 (1)),(.int .i64 (0)),(.str [66,111,111,108]),.AI]]),(.sl 4 true [[(.int .i64 (2)),(.int .i64 (0)),(.str [80,97,105,114]),(.sl 4 true [[(.int .i64 (2)),(.int .i64 (0)),(.str [78,111,110,101]),.AI],[(.int .i64 (0)),(.int .i64 (0)),(.str []),.AI]])],[(.int .i64 (2)),(.int .i64 (0)),(.str [80,97,105,114]),(.sl 4 true [[(.int .i64 (2)),(.int .i64 (0)),(.str [83,111,109,101]),(.sl 4 true [[(.int .i64 (2)),(.int .i64 (0)),(.str [82,101,100]),.AI]])],[(.int .i64 (2)),(.int .i64 (0)),(.str [84,114,117,101]),.AI]])],[(.int .i64 (2)),(.int .i64 (0)),(.str [80,97,105,114]),(.sl 4 true [[(.int .i64 (2)),(.int .i64 (0)),(.str [83,111,109,101]),(.sl 4 true [[(.int .i64 (1)),(.int .i64 (0)),(.str [120]),.AI]])],[(.int .i64 (2)),(.int .i64 (0)),(.str [70,97,108,115,101]),.AI]])]])])]
def XB:AV:=(.tup [(.sl 4 false [[(.int .i64 (-1)),(.sl 1 true [[(.int .i64 (0))]]),(.sl 3 false [[(.str [78,111,110,101]),(.int .i64 (0)),(.int .i64 (1))],[(.str [83,111,109,101]),(.int .i64 (0)),(.int .i64 (2))]]),(.int .i64 (-1))],[(.int .i64 (0)),.AI,.AI,(.int .i64 (-1))],[(.int .i64 (-1)),(.sl 1 false [[(.int .i64 (0))],[(.int .i64 (0))]]),(.sl 3 false [[(.str [82,101,100]),(.int .i64 (0)),(.int .i64 (3))],[(.str [71,114,101,101,110]),(.int .i64 (0)),(.int .i64 (6))],[(.str [66,108,117,101]),(.int .i64 (0)),(.int .i64 (9))]]),(.int .i64 (-1))],[(.int .i64 (-1)),(.sl 1 true [[(.int .i64 (1))]]),(.sl 3 false [[(.str [70,97,108,115,101]),(.int .i64 (0)),(.int .i64 (4))],[(.str [84,114,117,101]),(.int .i64 (0)),(.int .i64 (5))]]),(.int .i64 (-1))],[(.int .i64 (2)),.AI,.AI,(.int .i64 (-1))],[(.int .i64 (1)),.AI,.AI,(.int .i64 (-1))],[(.int .i64 (-1)),(.sl 1 true [[(.int .i64 (1))]]),(.sl 3 false [[(.str [70,97,108,115,101]),(.int .i64 (0)),(.int .i64 (7))],[(.str [84,114,117,101]),(.int .i64 (0)),(.int .i64 (8))]]),(.int .i64 (-1))],[(.int .i64 (2)),.AI,.AI,(.int .i64 (-1))],[(.int .i64 (-1)),.AI,.AI,(.int .i64 (-1))],[(.int .i64 (-1)),(.sl 1 true [[(.int .i64 (1))]]),(.sl 3 false [[(.str [70,97,108,115,101]),(.int .i64 (0)),(.int .i64 (10))],[(.str [84,114,117,101]),(.int .i64 (0)),(.int .i64 (11))]]),(.int .i64 (-1))],[(.int .i64 (2)),.AI,.AI,(.int .i64 (-1))],[(.int .i64 (-1)),.AI,.AI,(.int .i64 (-1))]]),(.int .i64 (0))])
theorem w27_0:Fl MA4 300 27 XA XB=true:=by kernel_rfl
noncomputable def MA5:Par:=Par.FL MA4 27 (Gv [(XA,XB)])
theorem Ob:Fits MA5 Tryz.prog:=Fits.FL SF _ _
theorem Oc:Cl MA5 Tryz.prog:=Cl.Hr SG _ _ fun p hp=>by
 simp only [List.mem_cons,List.not_mem_nil,or_false] at hp
 subst hp
 exact GV SF SG w27_0
def XC:List AV:=[(.agg [(.sl 3 true [[(.str [77,97,121,98,101]),(.sl 1 true [[(.str [97])]]),(.sl 2 true [[(.str [78,111,110,101]),.AI],[(.str [83,111,109,101]),(.sl 5 true [[(.str [118,97,108,117,101]),(.int .i64 (0)),(.int .i64 (0)),(.str [97]),.AI]])]])],[(.str [80,97,105,114]),(.sl 1 true [[(.str [97])],[(.str [98])]]),(.sl 2 true [[(.str [80,97,105,114]),(.sl 5 true [[(.str [108,101,102,116]),(.int .i64 (0)),(.int .i64 (0)),(.str [97]),.AI],[(.str [114,105,103,104,116]),(.int .i64 (0)),(.int .i64 (0)),(.str [98]),.AI]])]])],[(.str [67,111,108,111,114]),.AI,(.sl 2 true [[(.str [82,101,100]),.AI],[(.str [71,114,101,101,110]),.AI],[(.str [66,108,117,101]),.AI]])]]),(.int .i64 (1)),(.int .i64 (0)),(.str [80,97,105,114]),(.sl 4 true [[(.int .i64 (1)),(.int .i64 (0)),(.str [77,97,121,98,101]),(.sl 4 true [[(.int .i64 (1)),(.int .i64 (0)),(.str [67,111,108,111,114]),.AI]])],[(.int .i64 (1)),(.int .i64 (0)),(.str [66,111,111,108]),.AI]]),(.sl 4 true [[(.int .i64 (2)),(.int .i64 (0)),(.str [80,97,105,114]),(.sl 4 true [[(.int .i64 (2)),(.int .i64 (0)),(.str [78,111,110,101]),.AI],[(.int .i64 (0)),(.int .i64 (0)),(.str []),.AI]])],[(.int .i64 (2)),(.int .i64 (0)),(.str [80,97,105,114]),(.sl 4 true [[(.int .i64 (2)),(.int .i64 (0)),(.str [83,111,109,101]),(.sl 4 true [[(.int .i64 (2)),(.int .i64 (0)),(.str [82,101,100]),.AI]])],[(.int .i64 (2)),(.int .i64 (0)),(.str [84,114,117,101]),.AI]])],[(.int .i64 (2)),(.int .i64 (0)),(.str [80,97,105,114]),(.sl 4 true [[(.int .i64 (2)),(.int .i64 (0)),(.str [83,111,109,101]),(.sl 4 true [[(.int .i64 (1)),(.int .i64 (0)),(.str [120]),.AI]])],[(.int .i64 (2)),(.int .i64 (0)),(.str [70,97,108,115,101]),.AI]])]])]),(.agg [(.str [80,97,105,114]),(.int .i64 (0)),(.sl 3 true [[(.str [83,111,109,101]),(.int .i64 (0)),(.sl 3 true [[(.str [66,108,117,101]),(.int .i64 (0)),.AI]])],[(.str [70,97,108,115,101]),(.int .i64 (0)),.AI]])])]
def XD:AV:=(.tup [(.int .i64 (2)),(.int .i64 (0))])
theorem w43_0:Fl MA5 300 43 XC XD=true:=by kernel_rfl
def XE:List AV:=[(.agg [.AI,(.int .i64 (1)),(.int .i64 (0)),(.str [66,105,116]),(.sl 4 true [[(.int .i64 (2)),(.int .i64 (2)),(.str []),.AI]]),(.sl 4 true [[(.int .i64 (3)),(.int .i64 (1)),(.str []),.AI],[(.int .i64 (0)),(.int .i64 (0)),(.str []),.AI],[(.int .i64 (3)),(.int .i64 (3)),(.str []),.AI]])])]
def XF:AV:=(.tup [(.sl 1 false [[(.int .i64 (2))]]),(.int .i64 (0))])
theorem w16_0:Fl MA5 300 16 XE XF=true:=by kernel_rfl
noncomputable def MA6:Par:=Par.FL MA5 43 (Gv [(XC,XD)])
theorem Xh:Fits MA6 Tryz.prog:=Fits.FL Ob _ _
theorem Xi:Cl MA6 Tryz.prog:=Cl.Hr Oc _ _ fun p hp=>by
 simp only [List.mem_cons,List.not_mem_nil,or_false] at hp
 subst hp
 exact GV Ob Oc w43_0
noncomputable def MA7:Par:=Par.FL MA6 16 (Gv [(XE,XF)])
theorem Xj:Fits MA7 Tryz.prog:=Fits.FL Xh _ _
theorem Xk:Cl MA7 Tryz.prog:=Cl.Hr Xi _ _ fun p hp=>by
 simp only [List.mem_cons,List.not_mem_nil,or_false] at hp
 subst hp
 exact GV Ob Oc w16_0
def a10_0:List AV:=[]
def v10_0:AV:=(.bool true)
theorem w10_0:Fl MA7 300 10 a10_0 v10_0=true:=by kernel_rfl
noncomputable def MW:Par:=Par.FL M 10 (Gv [([],.bool true)])
theorem NB:Fits MW Tryz.prog:=Fits.FL Il _ _
theorem primW:Cl MW Tryz.prog:=Cl.Hr R9 _ _ fun p hp=>by
 simp only [List.mem_cons,List.not_mem_nil,or_false] at hp
 subst hp
 exact GV Xj Xk w10_0
end Go.Proofs.Am12
