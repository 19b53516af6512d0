/- Part 4. -/
import Derived.Test.YtggemipepaajmaaGreatTre3
import Derived.Laws.Sem
import Derived.Laws.Cells
import Derived.Laws.Entries
set_option linter.all false
namespace Go.Am
open Go
structure Fits(M:Par)(P:Program):Prop where
 ty:∀ t i,M.ty t=some i->∃ info,P.info? t=some info/\P.underlying t=some i.d/\info.size=i.size/\info.bytes=i.bytes /\
  (∀ z,i.zero=some z->∃ zv,info.zero=some zv/\(C4 zv).bind AV.cells=some z/\∀ a,QA i.d z=some a->C4 zv=some a)
 fn:∀ f fn,M.fn f=some fn->P.funcs[f]? = some fn/\(fn.name == "runtime.NumGoroutine")=false/\∀ c,fn.body=some c->okC c=true
 mixed:P.follows .mixedOrders=true
 fld:∀ t i (fs:Array Field),M.ty t=some i->i.d=.struct fs->∀ f∈fs,∃ j,M.ty f.type=some j
 elm:∀ t i n e,M.ty t=some i->i.d=.array n e->∃ j,M.ty e=some j
 eqs:∀ t,M.eqs t=true->P.stoodInHeld t=false/\P.eqGuardType P.depth t=false
theorem c8(v:Value):one v=v.oneCell':=by cases v <;> rfl
def EU(g:G)(t:Tm)(tmps:Array Value):Prop:=∀ d,Rel g true (t.get d) (tmps.getD d undef)
theorem EU.mono{g g':G}(hg:Le g g'){t:Tm}{tmps:Array Value}(h:EU g t tmps):EU g' t tmps:=fun d=>(h d).mono hg
theorem Mp(g:G)(b:Bool){v:Value}{a:AV}(h:DE v=some a):Rel g b a v/\one v=true/\a.KW=true:=by
 unfold DE at h;split at h <;> simp only[AN,reduceCtorEq]at h <;> subst h
 .exact⟨.bool _ _,rfl,rfl⟩
 .exact⟨.int _ _ _,rfl,rfl⟩
 .rename_i s;refine⟨?_,rfl,rfl⟩;have:s=⟨s.data.toList.toArray⟩:=by cases s;simp
  conv=>rhs;rw[this]
  exact .str _ _
 .exact⟨.ED _,rfl,rfl⟩
 .exact⟨.AH _,rfl,rfl⟩
 .exact⟨.Ga _,rfl,rfl⟩
 .exact⟨.Gc _,rfl,rfl⟩
 .exact⟨.I7 _,rfl,rfl⟩
theorem L6(g:G)(b:Bool):∀{vs:List Value} {cs:List AV},Ju vs=some cs->Au g b cs vs.toArray/\(∀ v∈vs,one v=true)
 | [],cs,h=>by simp only[Ju,AN]at h;subst h;exact⟨Au.nil _ _,by simp⟩
 | v::r,cs,h=>by
  simp only[Ju]at h;split at h
  .rename_i a cs' ha hcs;simp only[AN]at h;subst h;obtain⟨h1,h2,_⟩:=Mp g b ha;obtain⟨h3,h4⟩:=L6 g b hcs;exact⟨Au.cons h1 h3,by simp[h2];exact h4⟩
  .cases h
theorem Jv(g:G)(b:Bool){v:Value}{a:AV}(h:C4 v=some a):Rel g b a v:=by
 unfold C4 at h;split at h
 .rename_i cs;cases hc:Ju cs.toList with
  | none=>simp[hc]at h
  | some l=>
   simp only[hc,E0,AN]at h;subst h;obtain⟨h1,h2⟩:=L6 g b hc;simp only[HK]at h1;exact .agg b l cs h1.1 (fun i v hv=>h2 v (by simpa using Array.mem_of_getElem? hv)) h1.2
 .exact(Mp g b h).1
theorem Bm{g:G}{t:Tm}{a:Act}(ht:EU g t a.tmps){x:Operand}{v:AV}(h:ev t x=some v):Rel g true v (a.eval x):=by
 cases x with
 | tmp d=>simp only[ev,AN]at h;subst h;exact ht d
 | const c=>exact Jv g true h
 | global n=>cases h
 | func f=>
  simp only[ev,AN]at h;subst h;exact .fn true f [] [] #[] #[] rfl rfl (fun i c v h=>by simp at h) (fun i c v h=>by simp at h)
theorem S7{g:G}{t:Tm}{a:Act}(ht:EU g t a.tmps):∀{xs:List Operand} {vs:List AV},evs t xs=some vs->Au g true vs (xs.map a.eval).toArray
 | [],vs,h=>by simp only[evs,AN]at h;subst h;exact Au.nil _ _
 | x::r,vs,h=>by
  simp only[evs]at h;split at h
  .rename_i v ws hv hws;simp only[AN]at h;subst h;exact Au.cons (Bm ht hv) (S7 ht hws)
  .cases h
theorem Ha{g:G}{b:Bool}{v:AV}{x:Value}(h:Rel g b v x){cs:List AV}(hc:v.cells=some cs):Au g b cs x.cells/\(∀(i:Nat) y,x.cells[i]? = some y->one y=true):=by
 have single:∀{v:AV} {x:Value},Rel g b v x->v.KW=true->x.cells = #[x]->Au g b [v] x.cells/\(∀(i:Nat) y,x.cells[i]? = some y->one y=true):=by
  intro v x hr hcell hx;rw[hx];refine⟨Au.cons hr (Au.nil _ _),fun i y hy => ?_⟩;have hone:=hr.one hcell;cases i with
  | zero=>simp at hy;exact hy ▸ hone
  | succ i=>simp at hy
 cases h <;> simp only[AV.cells,AN,reduceCtorEq]at hc <;> subst hc
 case agg vs s h1 h2=>exact⟨⟨s,h2⟩,h1⟩
 case bool=>exact single (.bool _ _) rfl rfl
 case int=>exact single (.int _ _ _) rfl rfl
 case str=>exact single (.str _ _) rfl rfl
 case ED=>exact single (.ED _) rfl rfl
 case ro cs B o vs h1 h2 h3=>exact single (.ro _ cs B o vs h1 h2 h3) rfl rfl
 case hp id off B c h=>exact single (.hp id off B c h) rfl rfl
 case ep id gen sz i k B c h=>exact single (.ep id gen sz i k B c h) rfl rfl
 case AH=>exact single (.AH _) rfl rfl
 case sl sz ex es B o c ad ha vs h0 hx hs h1 h2 h3=>exact single (.sl _ sz ex es B o c ad ha vs h0 hx hs h1 h2 h3) rfl rfl
 case hs id gen sz off len ex B c o c' h h0 hc ho=>exact single (.hs id gen sz off len ex B c o c' h h0 hc ho) rfl rfl
 case Ga=>exact single (.Ga _) rfl rfl
 case hm id B c h=>exact single (.hm id B c h) rfl rfl
 case fn f fs cs us vs s1 s2 h1 h2=>exact single (.fn _ f fs cs us vs s1 s2 h1 h2) rfl rfl
 case Gc=>exact single (.Gc _) rfl rfl
 case iface t a v h=>exact single (.iface _ t a v h) rfl rfl
 case I7=>exact single (.I7 _) rfl rfl
section
variable{M:Par}{P:Program}(F:Fits M P)
include F
theorem MQ{t:TypeId}{i:TyI}(h:M.ty t=some i)(w:World):(underlying t).run P w=.ok i.d w:=by
 obtain⟨info,h1,h2,h3⟩:=F.ty t i h;exact run_underlying h2 w
theorem G4{t:TypeId}{i:TyI}(h:M.ty t=some i)(w:World):(sizeOf t).run P w=.ok i.size w:=by
 obtain⟨info,h1,h2,h3,h4⟩:=F.ty t i h;simp[sizeOf,typeInfo,h1,h3]
theorem QD{t:TypeId}{i:TyI}(h:M.ty t=some i)(w:World):∃ info,(typeInfo t).run P w=.ok info w/\info.size=i.size/\info.bytes=i.bytes /\
 (∀ z,i.zero=some z->∃ zv,info.zero=some zv/\(C4 zv).bind AV.cells=some z/\∀ a,QA i.d z=some a->C4 zv=some a):=by
 obtain⟨info,h1,h2,h3,h4,h5⟩:=F.ty t i h;exact⟨info,by simp[typeInfo,h1],h3,h4,h5⟩
omit F in
theorem S8{t:TypeId}(h:0<siz M.ty t):∃ i,M.ty t=some i/\i.size=siz M.ty t:=by
 unfold siz at *;cases hi:M.ty t with
 | none=>simp[hi]at h
 | some i=>exact⟨i,rfl,rfl⟩
theorem S9{t:TypeId}(h:∃ i,M.ty t=some i)(w:World):(sizeOf t).run P w=.ok (siz M.ty t) w:=by
 obtain⟨i,hi⟩:=h;rw[G4 F hi w];simp[siz,hi]
omit F in
theorem JQ{t:TypeId}{d:TypeDesc}(h:und M.ty t=some d):∃ i,M.ty t=some i/\i.d=d:=by
 unfold und at h;cases hi:M.ty t with
 | none=>simp[hi]at h
 | some i=>simp[hi]at h;exact⟨i,rfl,h⟩
theorem Ah{t:TypeId}{d:TypeDesc}(h:und M.ty t=some d)(w:World):(underlying t).run P w=.ok d w:=by
 obtain⟨i,h1,rfl⟩:=JQ h;exact MQ F h1 w
theorem K1{t:TypeId}{z:List AV}(h:Ei M.ty t=some z)(w:World):∃ i zv,M.ty t=some i/\z.length=i.size/\(zeroValue t).run P w=.ok zv w /\
 ∀ g b,Au g b z zv.cells/\∀(i:Nat) y,zv.cells[i]? = some y->one y=true:=by
 unfold Ei at h;split at h
 .rename_i i hi;split at h
  .rename_i z' hz;split at h
   .rename_i hl;simp only[AN]at h;subst h;obtain⟨info,h1,h2,h3,h4⟩:=QD F hi w;obtain⟨zv,h5,h6,_⟩:=h4 _ hz;refine⟨i,zv,hi,Bl.1 hl,by simp[zeroValue,h1,h5],fun g b => ?_⟩;cases ho:C4 zv with
    | none=>simp[ho]at h6
    | some a=>
     simp only[ho,KL]at h6;exact Ha (Jv g b ho) h6
   .cases h
  .cases h
 .cases h
theorem OJ{t:TypeId}{cs:List AV}{v:AV}(h:OI M.ty t cs=some v) :
 ∃ i,M.ty t=some i/\((∃ b,(∀ w,(isAgg t).run P w=.ok b w)/\((b=true/\i.size<=cs.length/\v=.agg (cs.take i.size))\/(b=false/\cs.head? = some v)))):=by
 unfold OI at h;split at h
 .rename_i i hi;refine⟨i,hi,?_⟩;have hr:=fun w=>MQ F hi w
  split at h
  .rename_i fs hd;split at h
   .rename_i hl;simp only[AN]at h;exact⟨true,fun w=>by simp[isAgg,hr,hd],.inl ⟨rfl,Gb.1 hl,h.symm⟩⟩
   .cases h
  .rename_i n e hd;split at h
   .rename_i hl;simp only[AN]at h;exact⟨true,fun w=>by simp[isAgg,hr,hd],.inl ⟨rfl,Gb.1 hl,h.symm⟩⟩
   .cases h
  .rename_i hd1 hd2;refine⟨false,fun w => ?_,.inr ⟨rfl,h⟩⟩;simp only[isAgg,Sem.run_bind,hr,Result.andThen_ok];cases hd:i.d <;> simp_all
 .cases h
end
inductive EJ{α:Type}(Q:Nat->α->Prop):Tree α->Prop where
 | AB:EJ Q .AB
 | AD {k:Nat} {v:α} {l r:Tree α} (h:Q k v) (hl:EJ Q l) (hr:EJ Q r):EJ Q (.AD k v l r)
theorem EJ.find{α:Type}{Q:Nat->α->Prop}{t:Tree α}(h:EJ Q t){x:Nat}{v:α}(hf:t.find x=some v):Q x v:=by
 induction h with
 | AB=>cases hf
 | AD h hl hr ihl ihr=>
  simp only[Tree.find]at hf;split at hf
  .rename_i hb;simp only[AN]at hf;subst hf;rw[Bl.1 hb];exact h
  .split at hf
   .exact ihl hf
   .exact ihr hf
def Rl(d:TypeDesc)(b:Option AV):Bool:=match b with
 | none=>true
 | some b=>match d with
  | .struct _=>match b with
   | .agg _=>true
   | _=>false
  | .array _ _=>match b with
   | .agg _=>true
   | _=>false
  | _=>b.KW
def JC(P:Program)(t:TypeId)(i:TyI):Prop:=∃ info,P.info? t=some info/\P.underlying t=some i.d/\info.size=i.size/\info.bytes=i.bytes /\
 (∀ z,i.zero=some z->∃ zv,info.zero=some zv/\(C4 zv).bind AV.cells=some z/\∀ a,QA i.d z=some a->C4 zv=some a)
theorem Yj{P:Program}{t:TypeId}{i:TypeInfo}(h:P.types[t]? = some i):P.info? t=some i:=by
 have hlt:t<P.types.size:=(Kn.1 h).1;unfold Tables.info?;rw[if_pos hlt];exact h
theorem goodT{P:Program}{t:TypeId}{info:TypeInfo}{d:TypeDesc}(h1:P.info? t=some info)(h2:P.underlying t=some d)(h3:Rl d (info.zero.bind C4)=true) :
 JC P t ⟨d,info.size,info.bytes,(info.zero.bind C4).bind AV.cells⟩:=by
 refine⟨info,h1,h2,rfl,rfl,fun z hz => ?_⟩;simp only[Gd]at hz;obtain⟨b,⟨zv,hzv,hb⟩,hc⟩:=hz;refine⟨zv,hzv,by rw[hb];exact hc,fun a ha => ?_⟩;rw[hzv,KL,hb]at h3;rw[hb];have plain:b.KW=true->cellOf z=some a->some b=some a:=fun hi ha=>by
  have:b.cells=some [b]:=by cases b <;> first | rfl | cases hi
  rw[this]at hc;cases hc;simp only[cellOf,hi,AN]at ha;rw[ha]
 unfold Rl at h3;unfold QA at ha;cases d with
 | struct fs=>
  simp only at h3 ha;split at h3
  .cases hc;exact ha
  .cases h3
 | array n e=>
  simp only at h3 ha;split at h3
  .cases hc;exact ha
  .cases h3
 | _=>exact plain h3 ha
def TA(P:Program)(f:FuncId)(fn:Func):Prop:=P.funcs[f]? = some fn/\(fn.name == "runtime.NumGoroutine")=false/\∀ c,fn.body=some c->okC c=true
def okB(b:Option Code):Bool:=match b with
 | some c=>okC c
 | none=>true
theorem goodF{P:Program}{f:FuncId}{fn:Func}(h1:P.funcs[f]? = some fn)(h2:(fn.name == "runtime.NumGoroutine")=false) (h3:okB fn.body=true):TA P f fn:=
 ⟨h1,h2,fun c hc=>by rw[hc]at h3;exact h3⟩
def Tree.all{α:Type}(f:Nat->α->Bool):Tree α->Bool
 | .AB=>true
 | .AD k v l r=>f k v&&l.all f&&r.all f
theorem Tree.Mq{α:Type}{f:Nat->α->Bool}:∀{t:Tree α},t.all f=true->EJ (fun k v=>f k v=true) t
 | .AB,_=> .AB
 | .AD k v l r,h=>by
  simp only[Tree.all,BU]at h;exact .AD h.1.1 (Tree.Mq h.1.2) (Tree.Mq h.2)
def MR(T:Tree TyI)(i:TyI):Bool:=match i.d with
 | .struct fs=>fs.toList.all fun f=>(T.find f.type).isSome
 | .array _ e=>(T.find e).isSome
 | _=>true
theorem fits{M:Par}{P:Program}{T:Tree TyI}{Fn:Tree Func}(h1:M.ty=T.find)(h2:M.fn=Fn.find)(ht:EJ (JC P) T)(hf:EJ (TA P) Fn)(hm:P.follows .mixedOrders=true)(hp:T.all (fun _ i=>MR T i)=true)(hq:M.eqs=fun _=>false:=by rfl):Fits M P:=by
 have hp:=Tree.Mq hp;refine⟨fun t i h => ?_,fun f fn h => ?_,hm,fun t i fs h hd f hfm => ?_,fun t i n e h hd => ?_,fun t h=>by rw[hq]at h;cases h⟩
 .rw[h1]at h;exact ht.find h
 .rw[h2]at h;exact hf.find h
 .rw[h1]at h ⊢;have:=hp.find h;simp only[MR,hd]at this;exact P6.1 (D0.1 this f (by simpa using hfm))
 .rw[h1]at h ⊢;have:=hp.find h;simp only[MR,hd]at this;exact P6.1 this
end Go.Am
namespace Go.Proofs.Am12
open Go Go.Am Tryz
theorem gT{P:Program}{t:TypeId}{info:TypeInfo}(u:TypeInfo)(h1:P.types[t]? = some info)(h2:P.underlying t=some u.desc)(h3:Rl u.desc (info.zero.bind C4)=true:=by rfl):JC P t ⟨u.desc,info.size,info.bytes,(info.zero.bind C4).bind AV.cells⟩:=goodT (d:=u.desc) (Yj h1) h2 h3
theorem Yk:EJ (JC Tryz.prog) tyT0:=(.AD (gT t20 type20 underlying20) (.AD (gT Tryz.t9 type10 underlying10) (.AD (gT Tryz.t5 type5 underlying5) (.AD (gT Tryz.t2 type2 underlying2) (.AD (gT Tryz.t1 type1 underlying1) (.AD (gT Tryz.t0 type0 underlying0) .AB .AB) .AB) (.AD (gT Tryz.t4 type4 underlying4) (.AD (gT Tryz.t3 type3 underlying3) .AB .AB) .AB)) (.AD (gT Tryz.t7 type8 underlying8) (.AD (gT Tryz.t7 type7 underlying7) (.AD (gT Tryz.t5 type6 underlying6) .AB .AB) .AB) (.AD (gT Tryz.t9 type9 underlying9) .AB .AB))) (.AD (gT t15 type15 underlying15) (.AD (gT t13 type13 underlying13) (.AD (gT t12 type12 underlying12) (.AD (gT Tryz.t9 type11 underlying11) .AB .AB) .AB) (.AD (gT t13 type14 underlying14) .AB .AB)) (.AD (gT t18 type18 underlying18) (.AD (gT t17 type17 underlying17) (.AD (gT t16 type16 underlying16) .AB .AB) .AB) (.AD (gT t18 type19 underlying19) .AB .AB)))) (.AD (gT t30 type30 underlying30) (.AD (gT t24 type25 underlying25) (.AD (gT t23 type23 underlying23) (.AD (gT Tryz.t22 type22 underlying22) (.AD (gT t21 type21 underlying21) .AB .AB) .AB) (.AD (gT t24 type24 underlying24) .AB .AB)) (.AD (gT t27 type28 underlying28) (.AD (gT t27 type27 underlying27) (.AD (gT t26 type26 underlying26) .AB .AB) .AB) (.AD (gT t29 type29 underlying29) .AB .AB))) (.AD (gT Tryz.t3 type35 underlying35) (.AD (gT t33 type33 underlying33) (.AD (gT t32 type32 underlying32) (.AD (gT Tryz.t31 type31 underlying31) .AB .AB) .AB) (.AD (gT t33 type34 underlying34) .AB .AB)) (.AD (gT t38 type38 underlying38) (.AD (gT t37 type37 underlying37) (.AD (gT t36 type36 underlying36) .AB .AB) .AB) (.AD (gT t39 type39 underlying39) .AB .AB)))))
theorem Yl:EJ (JC Tryz.prog) tyT1:=(.AD (gT t61 type61 underlying61) (.AD (gT Tryz.t51 type51 underlying51) (.AD (gT Tryz.t46 type46 underlying46) (.AD (gT t43 type43 underlying43) (.AD (gT t42 type42 underlying42) (.AD (gT t41 type41 underlying41) .AB .AB) .AB) (.AD (gT t45 type45 underlying45) (.AD (gT t44 type44 underlying44) .AB .AB) .AB)) (.AD (gT t49 type49 underlying49) (.AD (gT t48 type48 underlying48) (.AD (gT t47 type47 underlying47) .AB .AB) .AB) (.AD (gT t50 type50 underlying50) .AB .AB))) (.AD (gT t56 type56 underlying56) (.AD (gT t54 type54 underlying54) (.AD (gT Tryz.t53 type53 underlying53) (.AD (gT t52 type52 underlying52) .AB .AB) .AB) (.AD (gT t55 type55 underlying55) .AB .AB)) (.AD (gT t59 type59 underlying59) (.AD (gT t58 type58 underlying58) (.AD (gT t57 type57 underlying57) .AB .AB) .AB) (.AD (gT t60 type60 underlying60) .AB .AB)))) (.AD (gT t71 type71 underlying71) (.AD (gT t66 type66 underlying66) (.AD (gT t64 type64 underlying64) (.AD (gT t63 type63 underlying63) (.AD (gT t61 type62 underlying62) .AB .AB) .AB) (.AD (gT t65 type65 underlying65) .AB .AB)) (.AD (gT t69 type69 underlying69) (.AD (gT t68 type68 underlying68) (.AD (gT t67 type67 underlying67) .AB .AB) .AB) (.AD (gT t70 type70 underlying70) .AB .AB))) (.AD (gT t76 type76 underlying76) (.AD (gT t74 type74 underlying74) (.AD (gT t73 type73 underlying73) (.AD (gT Tryz.t72 type72 underlying72) .AB .AB) .AB) (.AD (gT t75 type75 underlying75) .AB .AB)) (.AD (gT t79 type79 underlying79) (.AD (gT t78 type78 underlying78) (.AD (gT t77 type77 underlying77) .AB .AB) .AB) (.AD (gT t79 type80 underlying80) .AB .AB)))))
theorem Ym:EJ (JC Tryz.prog) tyT2:=(.AD (gT t102 type102 underlying102) (.AD (gT t92 type92 underlying92) (.AD (gT t87 type87 underlying87) (.AD (gT t84 type84 underlying84) (.AD (gT t83 type83 underlying83) (.AD (gT t82 type82 underlying82) .AB .AB) .AB) (.AD (gT t86 type86 underlying86) (.AD (gT t85 type85 underlying85) .AB .AB) .AB)) (.AD (gT Tryz.t89 type90 underlying90) (.AD (gT Tryz.t89 type89 underlying89) (.AD (gT t88 type88 underlying88) .AB .AB) .AB) (.AD (gT t91 type91 underlying91) .AB .AB))) (.AD (gT Tryz.t97 type97 underlying97) (.AD (gT t95 type95 underlying95) (.AD (gT t94 type94 underlying94) (.AD (gT t93 type93 underlying93) .AB .AB) .AB) (.AD (gT t96 type96 underlying96) .AB .AB)) (.AD (gT t100 type100 underlying100) (.AD (gT t98 type99 underlying99) (.AD (gT t98 type98 underlying98) .AB .AB) .AB) (.AD (gT t101 type101 underlying101) .AB .AB)))) (.AD (gT t112 type112 underlying112) (.AD (gT t107 type107 underlying107) (.AD (gT t105 type105 underlying105) (.AD (gT t104 type104 underlying104) (.AD (gT t102 type103 underlying103) .AB .AB) .AB) (.AD (gT t105 type106 underlying106) .AB .AB)) (.AD (gT t110 type110 underlying110) (.AD (gT t108 type109 underlying109) (.AD (gT t108 type108 underlying108) .AB .AB) .AB) (.AD (gT Tryz.t111 type111 underlying111) .AB .AB))) (.AD (gT t117 type117 underlying117) (.AD (gT t115 type115 underlying115) (.AD (gT t114 type114 underlying114) (.AD (gT t113 type113 underlying113) .AB .AB) .AB) (.AD (gT t116 type116 underlying116) .AB .AB)) (.AD (gT t120 type120 underlying120) (.AD (gT t119 type119 underlying119) (.AD (gT Tryz.t118 type118 underlying118) .AB .AB) .AB) (.AD (gT t121 type121 underlying121) .AB .AB)))))
theorem Yn:EJ (JC Tryz.prog) tyT3:=(.AD (gT t142 type142 underlying142) (.AD (gT t132 type132 underlying132) (.AD (gT t127 type127 underlying127) (.AD (gT t125 type125 underlying125) (.AD (gT t124 type124 underlying124) (.AD (gT t123 type123 underlying123) .AB .AB) .AB) (.AD (gT t126 type126 underlying126) .AB .AB)) (.AD (gT t130 type130 underlying130) (.AD (gT t128 type129 underlying129) (.AD (gT t128 type128 underlying128) .AB .AB) .AB) (.AD (gT Tryz.t131 type131 underlying131) .AB .AB))) (.AD (gT t137 type137 underlying137) (.AD (gT t135 type135 underlying135) (.AD (gT t134 type134 underlying134) (.AD (gT t133 type133 underlying133) .AB .AB) .AB) (.AD (gT t136 type136 underlying136) .AB .AB)) (.AD (gT t140 type140 underlying140) (.AD (gT t139 type139 underlying139) (.AD (gT t138 type138 underlying138) .AB .AB) .AB) (.AD (gT t141 type141 underlying141) .AB .AB)))) (.AD (gT t152 type152 underlying152) (.AD (gT t147 type147 underlying147) (.AD (gT t145 type145 underlying145) (.AD (gT t144 type144 underlying144) (.AD (gT t143 type143 underlying143) .AB .AB) .AB) (.AD (gT t146 type146 underlying146) .AB .AB)) (.AD (gT t150 type150 underlying150) (.AD (gT t149 type149 underlying149) (.AD (gT t148 type148 underlying148) .AB .AB) .AB) (.AD (gT t151 type151 underlying151) .AB .AB))) (.AD (gT Tryz.t157 type157 underlying157) (.AD (gT t155 type155 underlying155) (.AD (gT t154 type154 underlying154) (.AD (gT t153 type153 underlying153) .AB .AB) .AB) (.AD (gT t156 type156 underlying156) .AB .AB)) (.AD (gT t160 type160 underlying160) (.AD (gT t158 type159 underlying159) (.AD (gT t158 type158 underlying158) .AB .AB) .AB) (.AD (gT t161 type161 underlying161) .AB .AB)))))
theorem Yo:EJ (JC Tryz.prog) tyT4:=(.AD (gT Tryz.t183 type183 underlying183) (.AD (gT t173 type173 underlying173) (.AD (gT t168 type168 underlying168) (.AD (gT t165 type165 underlying165) (.AD (gT t164 type164 underlying164) (.AD (gT t163 type163 underlying163) .AB .AB) .AB) (.AD (gT t167 type167 underlying167) (.AD (gT t166 type166 underlying166) .AB .AB) .AB)) (.AD (gT t171 type171 underlying171) (.AD (gT t170 type170 underlying170) (.AD (gT t169 type169 underlying169) .AB .AB) .AB) (.AD (gT t172 type172 underlying172) .AB .AB))) (.AD (gT t178 type178 underlying178) (.AD (gT t176 type176 underlying176) (.AD (gT Tryz.t175 type175 underlying175) (.AD (gT t173 type174 underlying174) .AB .AB) .AB) (.AD (gT t177 type177 underlying177) .AB .AB)) (.AD (gT t181 type181 underlying181) (.AD (gT Tryz.t180 type180 underlying180) (.AD (gT t179 type179 underlying179) .AB .AB) .AB) (.AD (gT Tryz.t182 type182 underlying182) .AB .AB)))) (.AD (gT t193 type193 underlying193) (.AD (gT t188 type188 underlying188) (.AD (gT t186 type186 underlying186) (.AD (gT t185 type185 underlying185) (.AD (gT t184 type184 underlying184) .AB .AB) .AB) (.AD (gT t187 type187 underlying187) .AB .AB)) (.AD (gT t191 type191 underlying191) (.AD (gT t190 type190 underlying190) (.AD (gT t189 type189 underlying189) .AB .AB) .AB) (.AD (gT t192 type192 underlying192) .AB .AB))) (.AD (gT t198 type198 underlying198) (.AD (gT t195 type196 underlying196) (.AD (gT t195 type195 underlying195) (.AD (gT t194 type194 underlying194) .AB .AB) .AB) (.AD (gT t197 type197 underlying197) .AB .AB)) (.AD (gT t201 type201 underlying201) (.AD (gT t200 type200 underlying200) (.AD (gT t199 type199 underlying199) .AB .AB) .AB) (.AD (gT t202 type202 underlying202) .AB .AB)))))
theorem Yp:EJ (JC Tryz.prog) tyT5:=(.AD (gT t224 type224 underlying224) (.AD (gT t214 type214 underlying214) (.AD (gT t209 type209 underlying209) (.AD (gT t206 type206 underlying206) (.AD (gT t205 type205 underlying205) (.AD (gT t204 type204 underlying204) .AB .AB) .AB) (.AD (gT t208 type208 underlying208) (.AD (gT t207 type207 underlying207) .AB .AB) .AB)) (.AD (gT t212 type212 underlying212) (.AD (gT t211 type211 underlying211) (.AD (gT t209 type210 underlying210) .AB .AB) .AB) (.AD (gT t213 type213 underlying213) .AB .AB))) (.AD (gT t219 type219 underlying219) (.AD (gT Tryz.t217 type217 underlying217) (.AD (gT t216 type216 underlying216) (.AD (gT Tryz.t215 type215 underlying215) .AB .AB) .AB) (.AD (gT Tryz.t218 type218 underlying218) .AB .AB)) (.AD (gT Tryz.t222 type222 underlying222) (.AD (gT t220 type221 underlying221) (.AD (gT t220 type220 underlying220) .AB .AB) .AB) (.AD (gT t223 type223 underlying223) .AB .AB)))) (.AD (gT t234 type234 underlying234) (.AD (gT Tryz.t229 type229 underlying229) (.AD (gT t227 type227 underlying227) (.AD (gT t226 type226 underlying226) (.AD (gT t225 type225 underlying225) .AB .AB) .AB) (.AD (gT Tryz.t228 type228 underlying228) .AB .AB)) (.AD (gT t232 type232 underlying232) (.AD (gT t230 type231 underlying231) (.AD (gT t230 type230 underlying230) .AB .AB) .AB) (.AD (gT t233 type233 underlying233) .AB .AB))) (.AD (gT t239 type239 underlying239) (.AD (gT t237 type237 underlying237) (.AD (gT t236 type236 underlying236) (.AD (gT t235 type235 underlying235) .AB .AB) .AB) (.AD (gT t238 type238 underlying238) .AB .AB)) (.AD (gT t242 type242 underlying242) (.AD (gT t241 type241 underlying241) (.AD (gT t240 type240 underlying240) .AB .AB) .AB) (.AD (gT t243 type243 underlying243) .AB .AB)))))
theorem Yq:EJ (JC Tryz.prog) tyT6:=(.AD (gT t265 type265 underlying265) (.AD (gT t255 type255 underlying255) (.AD (gT t250 type250 underlying250) (.AD (gT t247 type247 underlying247) (.AD (gT t246 type246 underlying246) (.AD (gT t245 type245 underlying245) .AB .AB) .AB) (.AD (gT t249 type249 underlying249) (.AD (gT t248 type248 underlying248) .AB .AB) .AB)) (.AD (gT t253 type253 underlying253) (.AD (gT t252 type252 underlying252) (.AD (gT Tryz.t3 type251 underlying251) .AB .AB) .AB) (.AD (gT t254 type254 underlying254) .AB .AB))) (.AD (gT t260 type260 underlying260) (.AD (gT t258 type258 underlying258) (.AD (gT t257 type257 underlying257) (.AD (gT t256 type256 underlying256) .AB .AB) .AB) (.AD (gT t259 type259 underlying259) .AB .AB)) (.AD (gT t263 type263 underlying263) (.AD (gT t262 type262 underlying262) (.AD (gT t261 type261 underlying261) .AB .AB) .AB) (.AD (gT t264 type264 underlying264) .AB .AB)))) (.AD (gT t275 type275 underlying275) (.AD (gT Tryz.t269 type270 underlying270) (.AD (gT Tryz.t268 type268 underlying268) (.AD (gT t266 type267 underlying267) (.AD (gT t266 type266 underlying266) .AB .AB) .AB) (.AD (gT Tryz.t269 type269 underlying269) .AB .AB)) (.AD (gT t273 type273 underlying273) (.AD (gT t272 type272 underlying272) (.AD (gT t271 type271 underlying271) .AB .AB) .AB) (.AD (gT t274 type274 underlying274) .AB .AB))) (.AD (gT t280 type280 underlying280) (.AD (gT t278 type278 underlying278) (.AD (gT t277 type277 underlying277) (.AD (gT t276 type276 underlying276) .AB .AB) .AB) (.AD (gT t279 type279 underlying279) .AB .AB)) (.AD (gT t283 type283 underlying283) (.AD (gT t282 type282 underlying282) (.AD (gT t281 type281 underlying281) .AB .AB) .AB) (.AD (gT t284 type284 underlying284) .AB .AB)))))
theorem Yr:EJ (JC Tryz.prog) tyT7:=(.AD (gT t305 type305 underlying305) (.AD (gT t295 type295 underlying295) (.AD (gT t290 type290 underlying290) (.AD (gT t288 type288 underlying288) (.AD (gT t287 type287 underlying287) (.AD (gT t286 type286 underlying286) .AB .AB) .AB) (.AD (gT t289 type289 underlying289) .AB .AB)) (.AD (gT t293 type293 underlying293) (.AD (gT t292 type292 underlying292) (.AD (gT t291 type291 underlying291) .AB .AB) .AB) (.AD (gT t294 type294 underlying294) .AB .AB))) (.AD (gT t300 type300 underlying300) (.AD (gT t298 type298 underlying298) (.AD (gT t297 type297 underlying297) (.AD (gT t296 type296 underlying296) .AB .AB) .AB) (.AD (gT t299 type299 underlying299) .AB .AB)) (.AD (gT t303 type303 underlying303) (.AD (gT t302 type302 underlying302) (.AD (gT t301 type301 underlying301) .AB .AB) .AB) (.AD (gT t304 type304 underlying304) .AB .AB)))) (.AD (gT t314 type315 underlying315) (.AD (gT t310 type310 underlying310) (.AD (gT t308 type308 underlying308) (.AD (gT t307 type307 underlying307) (.AD (gT t306 type306 underlying306) .AB .AB) .AB) (.AD (gT t309 type309 underlying309) .AB .AB)) (.AD (gT t313 type313 underlying313) (.AD (gT t311 type312 underlying312) (.AD (gT t311 type311 underlying311) .AB .AB) .AB) (.AD (gT t314 type314 underlying314) .AB .AB))) (.AD (gT t21 type320 underlying320) (.AD (gT t318 type318 underlying318) (.AD (gT Tryz.t5 type317 underlying317) (.AD (gT Tryz.t5 type316 underlying316) .AB .AB) .AB) (.AD (gT t319 type319 underlying319) .AB .AB)) (.AD (gT t322 type323 underlying323) (.AD (gT t322 type322 underlying322) (.AD (gT t21 type321 underlying321) .AB .AB) .AB) (.AD (gT t324 type324 underlying324) .AB .AB)))))
theorem c9:EJ (JC Tryz.prog) tyT:=(.AD (gT t161 type162 underlying162) (.AD (gT t81 type81 underlying81) (.AD (gT t40 type40 underlying40) Yk Yl) (.AD (gT t121 type122 underlying122) Ym Yn)) (.AD (gT t244 type244 underlying244) (.AD (gT t203 type203 underlying203) Yo Yp) (.AD (gT t261 type285 underlying285) Yq Yr)))
theorem gdF{P:Program}{f:FuncId}{fn:Func}(h1:P.funcs[f]? = some fn)(h:(!(fn.name == "runtime.NumGoroutine")&&okB fn.body)=true:=by kernel_rfl):TA P f fn:=by
 rw[BU,IA]at h;exact goodF h1 h.1 h.2
theorem dA:EJ (TA Tryz.prog) fnT:=(.AD (gdF func157) (.AD (gdF func95) (.AD (gdF func61) (.AD (gdF func29) (.AD (gdF func16) (.AD (gdF func12) (.AD (gdF func10) (.AD (gdF func4) .AB .AB) (.AD (gdF func11) .AB .AB)) (.AD (gdF func15) (.AD (gdF func14) .AB .AB) .AB)) (.AD (gdF func26) (.AD (gdF func18) (.AD (gdF func17) .AB .AB) (.AD (gdF func20) .AB .AB)) (.AD (gdF func28) (.AD (gdF func27) .AB .AB) .AB))) (.AD (gdF func54) (.AD (gdF func35) (.AD (gdF func32) (.AD (gdF func31) .AB .AB) (.AD (gdF func34) .AB .AB)) (.AD (gdF func43) (.AD (gdF func40) .AB .AB) .AB)) (.AD (gdF func58) (.AD (gdF func56) (.AD (gdF func55) .AB .AB) (.AD (gdF func57) .AB .AB)) (.AD (gdF func60) (.AD (gdF func59) .AB .AB) .AB)))) (.AD (gdF func78) (.AD (gdF func68) (.AD (gdF func65) (.AD (gdF func63) (.AD (gdF func62) .AB .AB) (.AD (gdF func64) .AB .AB)) (.AD (gdF func67) (.AD (gdF func66) .AB .AB) .AB)) (.AD (gdF func75) (.AD (gdF func73) (.AD (gdF func72) .AB .AB) (.AD (gdF func74) .AB .AB)) (.AD (gdF func77) (.AD (gdF func76) .AB .AB) .AB))) (.AD (gdF func85) (.AD (gdF func82) (.AD (gdF func80) (.AD (gdF func79) .AB .AB) (.AD (gdF func81) .AB .AB)) (.AD (gdF func84) (.AD (gdF func83) .AB .AB) .AB)) (.AD (gdF func89) (.AD (gdF func87) (.AD (gdF func86) .AB .AB) (.AD (gdF func88) .AB .AB)) (.AD (gdF func93) (.AD (gdF func91) .AB .AB) .AB))))) (.AD (gdF func130) (.AD (gdF func115) (.AD (gdF func108) (.AD (gdF func105) (.AD (gdF func101) (.AD (gdF func97) .AB .AB) (.AD (gdF func104) .AB .AB)) (.AD (gdF func107) (.AD (gdF func106) .AB .AB) .AB)) (.AD (gdF func112) (.AD (gdF func110) (.AD (gdF func109) .AB .AB) (.AD (gdF func111) .AB .AB)) (.AD (gdF func114) (.AD (gdF func113) .AB .AB) .AB))) (.AD (gdF func123) (.AD (gdF func119) (.AD (gdF func117) (.AD (gdF func116) .AB .AB) (.AD (gdF func118) .AB .AB)) (.AD (gdF func122) (.AD (gdF func121) .AB .AB) .AB)) (.AD (gdF func127) (.AD (gdF func125) (.AD (gdF func124) .AB .AB) (.AD (gdF func126) .AB .AB)) (.AD (gdF func129) (.AD (gdF func128) .AB .AB) .AB)))) (.AD (gdF func144) (.AD (gdF func137) (.AD (gdF func134) (.AD (gdF func132) (.AD (gdF func131) .AB .AB) (.AD (gdF func133) .AB .AB)) (.AD (gdF func136) (.AD (gdF func135) .AB .AB) .AB)) (.AD (gdF func141) (.AD (gdF func139) (.AD (gdF func138) .AB .AB) (.AD (gdF func140) .AB .AB)) (.AD (gdF func143) (.AD (gdF func142) .AB .AB) .AB))) (.AD (gdF func151) (.AD (gdF func148) (.AD (gdF func146) (.AD (gdF func145) .AB .AB) (.AD (gdF func147) .AB .AB)) (.AD (gdF func150) (.AD (gdF func149) .AB .AB) .AB)) (.AD (gdF func154) (.AD (gdF func153) (.AD (gdF func152) .AB .AB) .AB) (.AD (gdF func156) (.AD (gdF func155) .AB .AB) .AB)))))) (.AD (gdF func216) (.AD (gdF func188) (.AD (gdF func174) (.AD (gdF func167) (.AD (gdF func164) (.AD (gdF func159) (.AD (gdF func158) .AB .AB) (.AD (gdF func163) .AB .AB)) (.AD (gdF func166) (.AD (gdF func165) .AB .AB) .AB)) (.AD (gdF func171) (.AD (gdF func169) (.AD (gdF func168) .AB .AB) (.AD (gdF func170) .AB .AB)) (.AD (gdF func173) (.AD (gdF func172) .AB .AB) .AB))) (.AD (gdF func181) (.AD (gdF func178) (.AD (gdF func176) (.AD (gdF func175) .AB .AB) (.AD (gdF func177) .AB .AB)) (.AD (gdF func180) (.AD (gdF func179) .AB .AB) .AB)) (.AD (gdF func185) (.AD (gdF func183) (.AD (gdF func182) .AB .AB) (.AD (gdF func184) .AB .AB)) (.AD (gdF func187) (.AD (gdF func186) .AB .AB) .AB)))) (.AD (gdF func202) (.AD (gdF func195) (.AD (gdF func192) (.AD (gdF func190) (.AD (gdF func189) .AB .AB) (.AD (gdF func191) .AB .AB)) (.AD (gdF func194) (.AD (gdF func193) .AB .AB) .AB)) (.AD (gdF func199) (.AD (gdF func197) (.AD (gdF func196) .AB .AB) (.AD (gdF func198) .AB .AB)) (.AD (gdF func201) (.AD (gdF func200) .AB .AB) .AB))) (.AD (gdF func209) (.AD (gdF func206) (.AD (gdF func204) (.AD (gdF func203) .AB .AB) (.AD (gdF func205) .AB .AB)) (.AD (gdF func208) (.AD (gdF func207) .AB .AB) .AB)) (.AD (gdF func213) (.AD (gdF func211) (.AD (gdF func210) .AB .AB) (.AD (gdF func212) .AB .AB)) (.AD (gdF func215) (.AD (gdF func214) .AB .AB) .AB))))) (.AD (gdF func244) (.AD (gdF func230) (.AD (gdF func223) (.AD (gdF func220) (.AD (gdF func218) (.AD (gdF func217) .AB .AB) (.AD (gdF func219) .AB .AB)) (.AD (gdF func222) (.AD (gdF func221) .AB .AB) .AB)) (.AD (gdF func227) (.AD (gdF func225) (.AD (gdF func224) .AB .AB) (.AD (gdF func226) .AB .AB)) (.AD (gdF func229) (.AD (gdF func228) .AB .AB) .AB))) (.AD (gdF func237) (.AD (gdF func234) (.AD (gdF func232) (.AD (gdF func231) .AB .AB) (.AD (gdF func233) .AB .AB)) (.AD (gdF func236) (.AD (gdF func235) .AB .AB) .AB)) (.AD (gdF func241) (.AD (gdF func239) (.AD (gdF func238) .AB .AB) (.AD (gdF func240) .AB .AB)) (.AD (gdF func243) (.AD (gdF func242) .AB .AB) .AB)))) (.AD (gdF func258) (.AD (gdF func251) (.AD (gdF func248) (.AD (gdF func246) (.AD (gdF func245) .AB .AB) (.AD (gdF func247) .AB .AB)) (.AD (gdF func250) (.AD (gdF func249) .AB .AB) .AB)) (.AD (gdF func255) (.AD (gdF func253) (.AD (gdF func252) .AB .AB) (.AD (gdF func254) .AB .AB)) (.AD (gdF func257) (.AD (gdF func256) .AB .AB) .AB))) (.AD (gdF func265) (.AD (gdF func262) (.AD (gdF func260) (.AD (gdF func259) .AB .AB) (.AD (gdF func261) .AB .AB)) (.AD (gdF func264) (.AD (gdF func263) .AB .AB) .AB)) (.AD (gdF func268) (.AD (gdF func267) (.AD (gdF func266) .AB .AB) .AB) (.AD (gdF func270) (.AD (gdF func269) .AB .AB) .AB)))))))
theorem Vn:tyT.all (fun _ i=>MR tyT i)=true:=by kernel_rfl
theorem JR:Fits M Tryz.prog:=fits rfl rfl c9 dA (by rfl) Vn
end Go.Proofs.Am12
namespace Go.Am
open Go
def G5(P:Program)(s:Sem Next)(g:G)(h':AF)(fr:Fr)(w:World)(v:AV):Prop:=
 ∃ x w' g',(s.run P w=.ok (.value x) w'\/(s.run P w=.ok .skip w'/\x=undef))/\Le g g'/\Sim g' h' fr w'/\Rel g' true v x
theorem G5.val{P:Program}{s:Sem Next}{g:G}{h:AF}{fr:Fr}{w:World}{v:AV}(hs:Sim g h fr w)(x:Value)(hr:s.run P w=.ok (.value x) w)(hv:Rel g true v x):G5 P s g h fr w v:=
 ⟨x,w,g,.inl hr,Le.refl g,hs,hv⟩
theorem G5.of{P:Program}{s:Sem Value}{g:G}{h:AF}{fr:Fr}{w:World}{v:AV}(hs:Sim g h fr w)(h1:∃ x,s.run P w=.ok x w/\Rel g true v x) :
 G5 P (do pure (.value (<- s))) g h fr w v:=by
 obtain⟨x,h1,h2⟩:=h1;exact .val hs x (by simp[h1]) h2
section
variable{M:Par}{P:Program}(F:Fits M P)
include F in
theorem QE{g:G}{h:AF}{fr:Fr}{w:World}(s:Sim g h fr w){t:TypeId}{p v:AV}{x:Value}(hp:Rel g true p x)(hl:CL M.ty h t p=some v) :
 ∃ B o y,x=.pointer (some ⟨B,o,none⟩)/\(loadVar t ⟨B,o,none⟩).run P w=.ok y w/\Rel g true v y:=by
 unfold CL at hl;cases hr:D2 h p with
 | none=>simp[hr]at hl
 | some cs=>
  simp only[hr,KL]at hl;obtain⟨B,o,rfl,hc⟩:=cz s hp hr;obtain⟨i,hi,b,ha,hb⟩:=OJ F hl;rcases hb with⟨rfl,hlen,rfl⟩ | ⟨rfl,hd⟩
  .have hf:∀ j,j<i.size->∃ v c,w.cell? ⟨B,o+j,none⟩=some v/\one v=true/\cs[j]? = some c/\Rel g true c v:=fun j hj=>by
    have:j<cs.length:=(by omega);obtain⟨v,h1,h2,h3⟩:=hc j cs[j] (AW this);exact⟨v,cs[j],h1,h2,AW this,h3⟩
   let f:Nat->Value:=fun j=>(w.cell? ⟨B,o+j,none⟩).getD undef
   have hrun:=run_loadCells (P:=P) w ⟨B,o,none⟩ i.size f (fun j hj=>by
    obtain⟨v,c,h1,_⟩:=hf j hj;rw[add_plain];simp[f,h1])
   refine⟨B,o,.agg ((List.range i.size).map f).toArray,rfl,by simp only[loadVar,Sem.run_bind,ha,Result.andThen_ok,if_true,G4 F hi,hrun,Sem.run_pure],.agg true _ _ (by simp;omega) (fun j v hv => ?_) (fun j c v hc' hv => ?_)⟩
   .have hj:j<i.size:=by
     have:=(Kn.1 hv).1;simpa using this
    simp[hj]at hv;obtain⟨v',c,h1,h2,_⟩:=hf j hj;simp only[f,h1,GQ]at hv;exact hv ▸ h2
   .have hj:j<i.size:=by
     have:=(Kn.1 hv).1;simpa using this
    simp[hj]at hv;obtain⟨v',c',h1,h2,h3,h4⟩:=hf j hj;simp only[f,h1,GQ]at hv;rw[Kp hj,h3]at hc';simp only[AN]at hc';exact hc' ▸ hv ▸ h4
  .have h0:cs[0]? = some v:=(by rw[<- List.head?_eq_getElem?];exact hd);obtain⟨v',h1,h2,h3⟩:=hc 0 v h0;refine⟨B,o,v',rfl,?_,h3⟩;simp only[IZ]at h1;simp only[loadVar,Sem.run_bind,ha,Result.andThen_ok,ES,if_false,run_load,h1]
include F in
theorem QF{g:G}{b:Bool}{t:TypeId}{cs:List AV}{v:AV}{vs:Array Value}{off:Nat}(hv:Au g b cs vs)(h1:∀(i:Nat) y,vs[i]? = some y->one y=true)
 (hm:OI M.ty t (cs.drop off)=some v) (w:World):∃ y,(part t vs off).run P w=.ok y w/\Rel g b v y:=by
 obtain⟨i,hi,c,ha,hb⟩:=OJ F hm;rcases hb with⟨rfl,hlen,rfl⟩ | ⟨rfl,hd⟩
 .refine⟨.agg (vs.extract off (off+i.size)),by simp only[part,Sem.run_bind,ha,Result.andThen_ok,if_true,G4 F hi,Sem.run_pure],.agg b _ _ ?_ (fun j y hy => ?_) (fun j c y hc hy => ?_)⟩
  .rw[List.length_drop]at hlen;simp[hv.1];omega
  .rw[OC]at hy;split at hy
   .exact h1 _ _ hy
   .cases hy
  .rw[OC]at hy;split at hy
   .rw[Kp (by omega),H9]at hc;exact hv.2 _ c y hc hy
   .cases hy
 .rw[List.head?_eq_getElem?,H9,IZ]at hd;have hlt:=(Ae.1 hd).1;have hlt':off<vs.size:=by rw[hv.1];exact hlt
  have hy:vs[off]? = some vs[off]:=E6 hlt';exact⟨vs[off],by simp only[part,Sem.run_bind,ha,Result.andThen_ok,ES,if_false,hy,Sem.run_pure],hv.2 _ _ _ hd hy⟩
include F in
theorem Rm{g:G}{h:AF}{fr:Fr}{w:World}(_s:Sim g h fr w){t:TypeId}{f:Nat}{a v:AV}{x:Value}(hx:Rel g true a x)(hf:Rk M.ty t a f=some v) :
 ∃ y,(Instr.field t x f).run P w=.ok y w/\Rel g true v y:=by
 unfold Rk at hf;split at hf
 .rename_i fd cs hfd;unfold MN at hfd;split at hfd
  .rename_i i hi;split at hfd
   .rename_i fs hd;cases hx with
    | agg _ _ vs sz h1 h2=>
     obtain⟨y,h3,h4⟩:=QF F ⟨sz,h2⟩ h1 hf w;refine⟨y,?_,h4⟩;simp only[Instr.field,Sem.run_bind,MQ F hi,Result.andThen_ok,hd,hfd,asAgg,Sem.run_pure,h3]
   .cases hfd
  .cases hfd
 .cases hf
include F in
theorem Mr{g:G}{h:AF}{fr:Fr}{w:World}(_s:Sim g h fr w){t:TypeId}{f:Nat}{a v:AV}{x:Value}(hx:Rel g true a x)(hf:AX M.ty t a f=some v) :
 ∃ y,(Instr.fieldAt t x f).run P w=.ok y w/\Rel g true v y:=by
 unfold AX at hf;split at hf
 .cases hf
 .rename_i fd hfd;unfold MN at hfd;split at hfd
  .rename_i i hi;split at hfd
   .rename_i fs hd;have key:∀ B o,Nat.blt 0 (siz M.ty fd.type)=true->(Instr.fieldAt t (.pointer (some ⟨B,o,none⟩)) f).run P w=.ok (.pointer (some ⟨B,o+fd.offset,none⟩)) w:=by
     intro B o hp;obtain⟨j,hj,hsz⟩:=S8 (M:=M) (FQ.1 hp);have hne:j.size≠0:=(by have:=FQ.1 hp;omega);simp only[Instr.fieldAt,Sem.run_bind,MQ F hi,Result.andThen_ok,hd,hfd,Instr.sureAddr,Sem.run_pure,fieldPlace,G4 F hj,hne,if_false,add_plain]
    split at hf
    .rename_i cs hp;cases hx with
     | ro _ cs B o vs h1 h2 h3=>
      simp only[AN]at hf;subst hf;refine⟨_,key B o hp,.ro true _ B (o+fd.offset) (fun i=>vs (fd.offset+i)) (fun i c hc => ?_) (fun i c hc => ?_) (fun i c hc => ?_)⟩ <;> rw[H9]at hc
      .rw[Kv];exact h1 _ _ hc
      .exact h2 _ _ hc
      .exact h3 _ _ hc
    .rename_i id off hp;cases hx with
     | hp id off B c hpl=>
      simp only[AN]at hf;subst hf;exact⟨_,key B off hp,.hp id _ B c hpl⟩
    .rename_i id gen sz i k hp;cases hx with
     | ep id gen sz i k B c hpl=>
      simp only[AN]at hf;subst hf;exact⟨_,by rw[key B _ hp,Kv],.ep id gen sz i _ B c hpl⟩
    .cases hf
   .cases hfd
  .cases hfd
theorem Fv{i:Int}{n j:Nat}(h:Fu i n=some j):0<=i/\i<n/\i.toNat=j/\j<n:=by
 unfold Fu at h;split at h
 .rename_i hd;simp only[decide_eq_true_eq]at hd;simp only[AN]at h;omega
 .cases h
theorem Hb{i:Int}{n j:Nat}(h:F7 i n=some j):0<=i/\i<=n/\i.toNat=j/\j<=n:=by
 unfold F7 at h;split at h
 .rename_i hd;simp only[decide_eq_true_eq]at hd;simp only[AN]at h;omega
 .cases h
theorem Er{g:G}{b:Bool}{a:AV}{x:Value}(h:Rel g b a x){n:Int}(hi:intOf a=some n):∃ k,x=.int k n/\a=.int k n:=by
 cases h <;> simp only[intOf,AN,reduceCtorEq]at hi
 subst hi;exact⟨_,rfl,rfl⟩
include F in
theorem Es{t:TypeId}(h:0<siz M.ty t)(w:World):(sizeOf t).run P w=.ok (siz M.ty t) w:=by
 obtain⟨i,hi,he⟩:=S8 h;rw[<- he];exact G4 F hi w
include F in
theorem Ms{g:G}{h:AF}{fr:Fr}{w:World}(_s:Sim g h fr w){t:TypeId}{a b v:AV}{x y:Value}(hx:Rel g true a x)(hy:Rel g true b y)(hf:BV M.ty t a b=some v) :
 ∃ z,(Instr.indexAt t x y).run P w=.ok z w/\Rel g true v z:=by
 unfold BV at hf;split at hf
 .rename_i e sz ex es i hu hi;split at hf
  .rename_i j hsz hj;simp only[BU,Bl,FQ]at hsz;obtain⟨rfl,hpos⟩:=hsz;obtain⟨k,rfl,rfl⟩:=Er hy hi;obtain⟨h0,h1,rfl,h2⟩:=Fv hj;cases hx with
   | sl _ _ _ _ B o c ad ha vs g0 gx gs g1 g2 g3=>
    obtain rfl:ad=⟨B,o,none⟩:=ha.resolve_right (by omega);cases he:es[i.toNat]? with
    | none=>simp[he]at hf
    | some l=>
     simp only[he,E0,AN]at hf;subst hf;refine⟨.pointer (some ⟨B,o+i.toNat * siz M.ty e,none⟩),?_,.ro true l B _ (vs i.toNat) (fun m c hc=>g1 _ _ he m c hc) (fun m c hc=>g2 _ _ he m c hc) (fun m c hc=>g3 _ _ he m c hc)⟩;simp only[Instr.indexAt,Sem.run_bind,Ah F hu,Result.andThen_ok,asIntOf,Sem.run_pure,Es F hpos,add_plain];simp only[h0,h1,and_self,if_true,Sem.run_bind,Es F hpos,Result.andThen_ok,Sem.run_pure,add_plain]
  .cases hf
 .rename_i e id gen sz off len ex i hu hi;split at hf
  .rename_i j hsz hj;simp only[BU,Bl,FQ]at hsz;obtain⟨rfl,hpos⟩:=hsz;obtain⟨k,rfl,rfl⟩:=Er hy hi;obtain⟨h0,h1,rfl,h2⟩:=Fv hj;simp only[AN]at hf;subst hf;cases hx with
   | hs _ _ _ _ _ _ B c o c' hpl g0 gc go=>
    have ho:o=off * siz M.ty e:=go (by subst gc;split <;> omega);subst ho;have hadd:off * siz M.ty e+i.toNat * siz M.ty e=(off+i.toNat) * siz M.ty e:=(KO _ _ _).symm;refine⟨.pointer (some ⟨B,(off+i.toNat) * siz M.ty e+0,none⟩),?_,.ep id gen _ _ 0 B c hpl⟩;simp only[Instr.indexAt,Sem.run_bind,Ah F hu,Result.andThen_ok,asIntOf,Sem.run_pure];simp only[h0,h1,and_self,if_true,Sem.run_bind,Es F hpos,Result.andThen_ok,Sem.run_pure,add_plain,hadd,IZ]
  .cases hf
 .rename_i n e cs i hu hi;split at hf
  .rename_i j hpos hj;have hpos:=FQ.1 hpos;obtain⟨k,rfl,rfl⟩:=Er hy hi;obtain⟨h0,h1,rfl,h2⟩:=Fv hj;simp only[AN]at hf;subst hf;cases hx with
   | ro _ _ B o vs g1 g2 g3=>
    refine⟨.pointer (some ⟨B,o+i.toNat * siz M.ty e,none⟩),?_,.ro true _ B _ (fun m=>vs (i.toNat * siz M.ty e+m)) (fun m c hc => ?_) (fun m c hc => ?_) (fun m c hc => ?_)⟩
    .simp only[Instr.indexAt,Sem.run_bind,Ah F hu,Result.andThen_ok,asIntOf,Sem.run_pure,Instr.sureAddr];simp only[h0,h1,and_self,if_true,Sem.run_bind,Es F hpos,Result.andThen_ok,Sem.run_pure,add_plain]
    all_goals rw[H9]at hc
    .rw[Kv];exact g1 _ _ hc
    .exact g2 _ _ hc
    .exact g3 _ _ hc
  .cases hf
 .rename_i n e id off i hu hi;split at hf
  .rename_i j hpos hj;have hpos:=FQ.1 hpos;obtain⟨k,rfl,rfl⟩:=Er hy hi;obtain⟨h0,h1,rfl,h2⟩:=Fv hj;simp only[AN]at hf;subst hf;cases hx with
   | hp _ _ B c hpl=>
    refine⟨.pointer (some ⟨B,off+i.toNat * siz M.ty e,none⟩),?_,.hp id _ B c hpl⟩;simp only[Instr.indexAt,Sem.run_bind,Ah F hu,Result.andThen_ok,asIntOf,Sem.run_pure,Instr.sureAddr];simp only[h0,h1,and_self,if_true,Sem.run_bind,Es F hpos,Result.andThen_ok,Sem.run_pure,add_plain]
  .cases hf
 .cases hf
include F in
theorem Rn{g:G}{h:AF}{fr:Fr}{w:World}(_s:Sim g h fr w){t:TypeId}{a b v:AV}{x y:Value}(hx:Rel g true a x)(hy:Rel g true b y)(hf:PM M.ty t a b=some v) :
 ∃ z,(Instr.index t x y).run P w=.ok z w/\Rel g true v z:=by
 unfold PM at hf;split at hf
 .rename_i s i hu hi;split at hf
  .rename_i j hj;obtain⟨k,rfl,rfl⟩:=Er hy hi;obtain⟨h0,h1,rfl,h2⟩:=Fv hj;cases hx with
   | str=>
    cases he:s[i.toNat]? with
    | none=>simp[he]at hf
    | some c=>
     simp only[he,E0,AN]at hf;subst hf;refine⟨.int .u8 c.toNat,?_,.int _ _ _⟩;have hs:(⟨s.toArray⟩:ByteArray)[i.toNat]? = some c:=by
      have hlt:i.toNat<s.length:=h2;rw[AW hlt]at he;have:i.toNat<(⟨s.toArray⟩:ByteArray).size:=(by simpa[ByteArray.size]using hlt);rw[getElem?_pos (⟨s.toArray⟩:ByteArray) i.toNat this,<- he];rfl
     simp only[Instr.index,Sem.run_bind,Ah F hu,Result.andThen_ok,asIntOf,Sem.run_pure,h0,if_true,hs]
  .cases hf
 .rename_i n e cs i hu hi;split at hf
  .rename_i j hpos hj;have hpos:=FQ.1 hpos;obtain⟨k,rfl,rfl⟩:=Er hy hi;obtain⟨h0,h1,rfl,h2⟩:=Fv hj;cases hx with
   | agg _ _ vs sz g1 g2=>
    obtain⟨z,h3,h4⟩:=QF F ⟨sz,g2⟩ g1 hf w;refine⟨z,?_,h4⟩;simp only[Instr.index,Sem.run_bind,Ah F hu,Result.andThen_ok,asIntOf,Sem.run_pure];simp only[h0,h1,and_self,if_true,Sem.run_bind,Es F hpos,Result.andThen_ok,h3]
  .cases hf
 .cases hf
end
end Go.Am
