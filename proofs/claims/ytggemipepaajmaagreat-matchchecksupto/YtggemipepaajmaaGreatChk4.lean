/- The abstract machine of this claim, part 4. -/
import Derived.Test.YtggemipepaajmaaGreatChk3
import Derived.Laws.Sem
import Derived.Laws.Cells
import Derived.Laws.Entries
set_option linter.unusedSimpArgs false
set_option linter.unusedVariables false
set_option linter.unusedSectionVars false
set_option linter.unnecessarySimpa false
namespace Go.Am
open Go
structure Fits (M:Par) (P:Program):Prop where
 ty:∀ t i,M.ty t=some i→∃ info,P.info? t=some info∧P.underlying t=some i.d∧info.size=i.size∧info.bytes=i.bytes ∧
  (∀ z,i.zero=some z→∃ zv,info.zero=some zv∧(C3 zv).bind AV.cells=some z∧∀ a,Mq i.d z=some a→C3 zv=some a)
 fn:∀ f fn,M.fn f=some fn→P.funcs[f]? = some fn∧(fn.name == "runtime.NumGoroutine")=false∧∀ c,fn.body=some c→okC c=true
 mixed:P.follows .mixedOrders=true
 fld:∀ t i (fs:Array Field),M.ty t=some i→i.d=.struct fs→∀ f∈fs,∃ j,M.ty f.type=some j
 elm:∀ t i n e,M.ty t=some i→i.d=.array n e→∃ j,M.ty e=some j
theorem XZ (v:Value):one v=v.oneCell':=by cases v <;> rfl
def Dc (g:G) (t:Tm) (tmps:Array Value):Prop:=∀ d,Rel g true (t.get d) (tmps.getD d undef)
theorem Dc.mono {g g':G} (hg:Le g g') {t:Tm} {tmps:Array Value} (h:Dc g t tmps):Dc g' t tmps:=fun d=>(h d).mono hg
theorem KH (g:G) (b:Bool) {v:Value} {a:AV} (h:C4 v=some a):Rel g b a v∧one v=true∧a.Ij=true:=by
 unfold C4 at h
 split at h <;> simp only [Option.some.injEq,reduceCtorEq] at h <;> subst h
 ·exact ⟨.bool _ _,rfl,rfl⟩
 ·exact ⟨.int _ _ _,rfl,rfl⟩
 ·rename_i s
  refine ⟨?_,rfl,rfl⟩
  have:s=⟨s.data.toList.toArray⟩:=by cases s;simp
  conv=>rhs;rw [this]
  exact .str _ _
 ·exact ⟨.D6 _,rfl,rfl⟩
 ·exact ⟨.AI _,rfl,rfl⟩
 ·exact ⟨.FW _,rfl,rfl⟩
 ·exact ⟨.FY _,rfl,rfl⟩
 ·exact ⟨.Hb _,rfl,rfl⟩
theorem Jm (g:G) (b:Bool):∀ {vs:List Value} {cs:List AV},H7 vs=some cs→Aw g b cs vs.toArray∧(∀ v∈vs,one v=true)
 | [],cs,h=>by simp only [H7,Option.some.injEq] at h;subst h;exact ⟨Aw.nil _ _,by simp⟩
 | v::r,cs,h=>by
  simp only [H7] at h
  split at h
  ·rename_i a cs' ha hcs
   simp only [Option.some.injEq] at h
   subst h
   obtain ⟨h1,h2,_⟩:=KH g b ha
   obtain ⟨h3,h4⟩:=Jm g b hcs
   exact ⟨Aw.cons h1 h3,by simp [h2];exact h4⟩
  ·cases h
theorem H8 (g:G) (b:Bool) {v:Value} {a:AV} (h:C3 v=some a):Rel g b a v:=by
 unfold C3 at h
 split at h
 ·rename_i cs
  cases hc:H7 cs.toList with
  | none=>simp [hc] at h
  | some l=>
   simp only [hc,Option.map_some,Option.some.injEq] at h
   subst h
   obtain ⟨h1,h2⟩:=Jm g b hc
   simp only [Array.toArray_toList] at h1
   exact .agg b l cs h1.1 (fun i v hv=>h2 v (by simpa using Array.mem_of_getElem? hv)) h1.2
 ·exact (KH g b h).1
theorem BQ {g:G} {t:Tm} {a:Act} (ht:Dc g t a.tmps) {x:Operand} {v:AV} (h:ev t x=some v):Rel g true v (a.eval x):=by
 cases x with
 | tmp d=>simp only [ev,Option.some.injEq] at h;subst h;exact ht d
 | const c=>exact H8 g true h
 | global n=>cases h
 | func f=>
  simp only [ev,Option.some.injEq] at h
  subst h
  exact .fn true f [] [] #[] #[] rfl rfl (fun i c v h=>by simp at h) (fun i c v h=>by simp at h)
theorem PU {g:G} {t:Tm} {a:Act} (ht:Dc g t a.tmps):∀ {xs:List Operand} {vs:List AV},evs t xs=some vs→Aw g true vs (xs.map a.eval).toArray
 | [],vs,h=>by simp only [evs,Option.some.injEq] at h;subst h;exact Aw.nil _ _
 | x::r,vs,h=>by
  simp only [evs] at h
  split at h
  ·rename_i v ws hv hws
   simp only [Option.some.injEq] at h
   subst h
   exact Aw.cons (BQ ht hv) (PU ht hws)
  ·cases h
theorem GM {g:G} {b:Bool} {v:AV} {x:Value} (h:Rel g b v x) {cs:List AV} (hc:v.cells=some cs):Aw g b cs x.cells∧(∀ (i:Nat) y,x.cells[i]? = some y→one y=true):=by
 have single:∀ {v:AV} {x:Value},Rel g b v x→v.Ij=true→x.cells = #[x]→Aw g b [v] x.cells∧(∀ (i:Nat) y,x.cells[i]? = some y→one y=true):=by
  intro v x hr hcell hx
  rw [hx]
  refine ⟨Aw.cons hr (Aw.nil _ _),fun i y hy => ?_⟩
  have hone:=hr.one hcell
  cases i with
  | zero=>simp at hy;exact hy ▸ hone
  | succ i=>simp at hy
 cases h <;> simp only [AV.cells,Option.some.injEq,reduceCtorEq] at hc <;> subst hc
 case agg vs s h1 h2=>exact ⟨⟨s,h2⟩,h1⟩
 case bool=>exact single (.bool _ _) rfl rfl
 case int=>exact single (.int _ _ _) rfl rfl
 case str=>exact single (.str _ _) rfl rfl
 case D6=>exact single (.D6 _) rfl rfl
 case ro cs B o vs h1 h2 h3=>exact single (.ro _ cs B o vs h1 h2 h3) rfl rfl
 case hp id off B c h=>exact single (.hp id off B c h) rfl rfl
 case ep id gen sz i k B c h=>exact single (.ep id gen sz i k B c h) rfl rfl
 case AI=>exact single (.AI _) rfl rfl
 case sl sz ex es B o c ad ha vs h0 hx hs h1 h2 h3=>exact single (.sl _ sz ex es B o c ad ha vs h0 hx hs h1 h2 h3) rfl rfl
 case hs id gen sz off len ex B c o c' h h0 hc ho=>exact single (.hs id gen sz off len ex B c o c' h h0 hc ho) rfl rfl
 case FW=>exact single (.FW _) rfl rfl
 case hm id B c h=>exact single (.hm id B c h) rfl rfl
 case fn f fs cs us vs s1 s2 h1 h2=>exact single (.fn _ f fs cs us vs s1 s2 h1 h2) rfl rfl
 case FY=>exact single (.FY _) rfl rfl
 case iface t a v h=>exact single (.iface _ t a v h) rfl rfl
 case Hb=>exact single (.Hb _) rfl rfl
section
variable {M:Par} {P:Program} (F:Fits M P)
include F
theorem J4 {t:TypeId} {i:TyI} (h:M.ty t=some i) (w:World):(underlying t).run P w=.ok i.d w:=by
 obtain ⟨info,h1,h2,h3⟩:=F.ty t i h
 exact run_underlying h2 w
theorem Fz {t:TypeId} {i:TyI} (h:M.ty t=some i) (w:World):(sizeOf t).run P w=.ok i.size w:=by
 obtain ⟨info,h1,h2,h3,h4⟩:=F.ty t i h
 simp [sizeOf,typeInfo,h1,h3]
theorem Ms {t:TypeId} {i:TyI} (h:M.ty t=some i) (w:World):∃ info,(typeInfo t).run P w=.ok info w∧info.size=i.size∧info.bytes=i.bytes ∧
  (∀ z,i.zero=some z→∃ zv,info.zero=some zv∧(C3 zv).bind AV.cells=some z∧∀ a,Mq i.d z=some a→C3 zv=some a):=by
 obtain ⟨info,h1,h2,h3,h4,h5⟩:=F.ty t i h
 exact ⟨info,by simp [typeInfo,h1],h3,h4,h5⟩
omit F in
theorem PV {t:TypeId} (h:0<siz M.ty t):∃ i,M.ty t=some i∧i.size=siz M.ty t:=by
 unfold siz at *
 cases hi:M.ty t with
 | none=>simp [hi] at h
 | some i=>exact ⟨i,rfl,rfl⟩
theorem PW {t:TypeId} (h:∃ i,M.ty t=some i) (w:World):(sizeOf t).run P w=.ok (siz M.ty t) w:=by
 obtain ⟨i,hi⟩:=h
 rw [Fz F hi w]
 simp [siz,hi]
omit F in
theorem Hh {t:TypeId} {d:TypeDesc} (h:und M.ty t=some d):∃ i,M.ty t=some i∧i.d=d:=by
 unfold und at h
 cases hi:M.ty t with
 | none=>simp [hi] at h
 | some i=>simp [hi] at h;exact ⟨i,rfl,h⟩
theorem Ar {t:TypeId} {d:TypeDesc} (h:und M.ty t=some d) (w:World):(underlying t).run P w=.ok d w:=by
 obtain ⟨i,h1,rfl⟩:=Hh h
 exact J4 F h1 w
theorem I5 {t:TypeId} {z:List AV} (h:DU M.ty t=some z) (w:World):∃ i zv,M.ty t=some i∧z.length=i.size∧(zeroValue t).run P w=.ok zv w ∧
  ∀ g b,Aw g b z zv.cells∧∀ (i:Nat) y,zv.cells[i]? = some y→one y=true:=by
 unfold DU at h
 split at h
 ·rename_i i hi
  split at h
  ·rename_i z' hz
   split at h
   ·rename_i hl
    simp only [Option.some.injEq] at h
    subst h
    obtain ⟨info,h1,h2,h3,h4⟩:=Ms F hi w
    obtain ⟨zv,h5,h6,_⟩:=h4 _ hz
    refine ⟨i,zv,hi,Bs.1 hl,by simp [zeroValue,h1,h5],fun g b => ?_⟩
    cases ho:C3 zv with
    | none=>simp [ho] at h6
    | some a=>
     simp only [ho,Option.bind_some] at h6
     exact GM (H8 g b ho) h6
   ·cases h
  ·cases h
 ·cases h
theorem LP {t:TypeId} {cs:List AV} {v:AV} (h:LO M.ty t cs=some v) :
  ∃ i,M.ty t=some i∧((∃ b,(∀ w,(isAgg t).run P w=.ok b w)∧((b=true∧i.size≤cs.length∧v=.agg (cs.take i.size))∨(b=false∧cs.head? = some v)))):=by
 unfold LO at h
 split at h
 ·rename_i i hi
  refine ⟨i,hi,?_⟩
  have hr:=fun w=>J4 F hi w
  split at h
  ·rename_i fs hd
   split at h
   ·rename_i hl
    simp only [Option.some.injEq] at h
    exact ⟨true,fun w=>by simp [isAgg,hr,hd],.inl ⟨rfl,G8.1 hl,h.symm⟩⟩
   ·cases h
  ·rename_i n e hd
   split at h
   ·rename_i hl
    simp only [Option.some.injEq] at h
    exact ⟨true,fun w=>by simp [isAgg,hr,hd],.inl ⟨rfl,G8.1 hl,h.symm⟩⟩
   ·cases h
  ·rename_i hd1 hd2
   refine ⟨false,fun w => ?_,.inr ⟨rfl,h⟩⟩
   simp only [isAgg,Sem.run_bind,hr,Result.andThen_ok]
   cases hd:i.d <;> simp_all
 ·cases h
end
inductive Bc {α:Type} (Q:Nat→α→Prop):Tree α→Prop where
 | AA:Bc Q .AA
 | AB {k:Nat} {v:α} {l r:Tree α} (h:Q k v) (hl:Bc Q l) (hr:Bc Q r):Bc Q (.AB k v l r)
theorem Bc.find {α:Type} {Q:Nat→α→Prop} {t:Tree α} (h:Bc Q t) {x:Nat} {v:α} (hf:t.find x=some v):Q x v:=by
 induction h with
 | AA=>cases hf
 | AB h hl hr ihl ihr=>
  simp only [Tree.find] at hf
  split at hf
  ·rename_i hb
   simp only [Option.some.injEq] at hf
   subst hf
   rw [Bs.1 hb];exact h
  ·split at hf
   ·exact ihl hf
   ·exact ihr hf
theorem Bc.mono {α:Type} {Q R:Nat→α→Prop} {t:Tree α} (h:Bc Q t) (hq:∀ k v,Q k v→R k v):Bc R t:=by
 induction h with
 | AA=>exact .AA
 | AB h _ _ ihl ihr=>exact .AB (hq _ _ h) ihl ihr
def Rc (d:TypeDesc) (b:Option AV):Bool:=match b with
 | none=>true
 | some b=>match d with
  | .struct _=>match b with
   | .agg _=>true
   | _=>false
  | .array _ _=>match b with
   | .agg _=>true
   | _=>false
  | _=>b.Ij
def Hi (P:Program) (t:TypeId) (i:TyI):Prop:=∃ info,P.info? t=some info∧P.underlying t=some i.d∧info.size=i.size∧info.bytes=i.bytes ∧
  (∀ z,i.zero=some z→∃ zv,info.zero=some zv∧(C3 zv).bind AV.cells=some z∧∀ a,Mq i.d z=some a→C3 zv=some a)
theorem AF {P:Program} {t:TypeId} {i:TypeInfo} (h:P.types[t]? = some i):P.info? t=some i:=by
 have hlt:t<P.types.size:=(Array.getElem?_eq_some_iff.1 h).1
 unfold Tables.info?
 rw [if_pos hlt]
 exact h
theorem AL {P:Program} {t:TypeId} {info:TypeInfo} {d:TypeDesc} (h1:P.info? t=some info) (h2:P.underlying t=some d) (h3:Rc d (info.zero.bind C3)=true) :
  Hi P t ⟨d,info.size,info.bytes,(info.zero.bind C3).bind AV.cells⟩:=by
 refine ⟨info,h1,h2,rfl,rfl,fun z hz => ?_⟩
 simp only [Option.bind_eq_some_iff] at hz
 obtain ⟨b,⟨zv,hzv,hb⟩,hc⟩:=hz
 refine ⟨zv,hzv,by rw [hb];exact hc,fun a ha => ?_⟩
 rw [hzv,Option.bind_some,hb] at h3
 rw [hb]
 have plain:b.Ij=true→cellOf z=some a→some b=some a:=fun hi ha=>by
  have:b.cells=some [b]:=by cases b <;> first | rfl | cases hi
  rw [this] at hc
  cases hc
  simp only [cellOf,hi,Option.some.injEq] at ha
  rw [ha]
 unfold Rc at h3
 unfold Mq at ha
 cases d with
 | struct fs=>
  simp only at h3 ha
  split at h3
  ·cases hc;exact ha
  ·cases h3
 | array n e=>
  simp only at h3 ha
  split at h3
  ·cases hc;exact ha
  ·cases h3
 | _=>exact plain h3 ha
def Hj (P:Program) (f:FuncId) (fn:Func):Prop:=P.funcs[f]? = some fn∧(fn.name == "runtime.NumGoroutine")=false∧∀ c,fn.body=some c→okC c=true
def okB (b:Option Code):Bool:=match b with
 | some c=>okC c
 | none=>true
theorem AM {P:Program} {f:FuncId} {fn:Func} (h1:P.funcs[f]? = some fn) (h2:(fn.name == "runtime.NumGoroutine")=false) (h3:okB fn.body=true):Hj P f fn:=
 ⟨h1,h2,fun c hc=>by rw [hc] at h3;exact h3⟩
def Tree.all {α:Type} (f:Nat→α→Bool):Tree α→Bool
 | .AA=>true
 | .AB k v l r=>f k v&&l.all f&&r.all f
theorem Tree.KI {α:Type} {f:Nat→α→Bool}:∀ {t:Tree α},t.all f=true→Bc (fun k v=>f k v=true) t
 | .AA,_=> .AA
 | .AB k v l r,h=>by
  simp only [Tree.all,Bool.and_eq_true] at h
  exact .AB h.1.1 (Tree.KI h.1.2) (Tree.KI h.2)
def J5 (T:Tree TyI) (i:TyI):Bool:=match i.d with
 | .struct fs=>fs.toList.all fun f=>(T.find f.type).isSome
 | .array _ e=>(T.find e).isSome
 | _=>true
theorem fits {M:Par} {P:Program} {T:Tree TyI} {Fn:Tree Func} (h1:M.ty=T.find) (h2:M.fn=Fn.find) (ht:Bc (Hi P) T) (hf:Bc (Hj P) Fn) (hm:P.follows .mixedOrders=true) (hp:T.all (fun _ i=>J5 T i)=true):Fits M P:=by
 have hp:=Tree.KI hp
 refine ⟨fun t i h => ?_,fun f fn h => ?_,hm,fun t i fs h hd f hfm => ?_,fun t i n e h hd => ?_⟩
 ·rw [h1] at h;exact ht.find h
 ·rw [h2] at h;exact hf.find h
 ·rw [h1] at h ⊢
  have:=hp.find h
  simp only [J5,hd] at this
  exact Option.isSome_iff_exists.1 (List.all_eq_true.1 this f (by simpa using hfm))
 ·rw [h1] at h ⊢
  have:=hp.find h
  simp only [J5,hd] at this
  exact Option.isSome_iff_exists.1 this
end Go.Am
namespace Go.Proofs.Am12
open Go Go.Am
theorem UR:Bc (Hi Tryz.prog) tyT0:=(.AB (AL (d:=Tryz.t20.desc) (AF Tryz.type20) Tryz.underlying20 rfl) (.AB (AL (d:=Tryz.t9.desc) (AF Tryz.type10) Tryz.underlying10 rfl) (.AB (AL (d:=Tryz.t5.desc) (AF Tryz.type5) Tryz.underlying5 rfl) (.AB (AL (d:=Tryz.t2.desc) (AF Tryz.type2) Tryz.underlying2 rfl) (.AB (AL (d:=Tryz.t1.desc) (AF Tryz.type1) Tryz.underlying1 rfl) (.AB (AL (d:=Tryz.t0.desc) (AF Tryz.type0) Tryz.underlying0 rfl) .AA .AA) .AA) (.AB (AL (d:=Tryz.t4.desc) (AF Tryz.type4) Tryz.underlying4 rfl) (.AB (AL (d:=Tryz.t3.desc) (AF Tryz.type3) Tryz.underlying3 rfl) .AA .AA) .AA)) (.AB (AL (d:=Tryz.t7.desc) (AF Tryz.type8) Tryz.underlying8 rfl) (.AB (AL (d:=Tryz.t7.desc) (AF Tryz.type7) Tryz.underlying7 rfl) (.AB (AL (d:=Tryz.t5.desc) (AF Tryz.type6) Tryz.underlying6 rfl) .AA .AA) .AA) (.AB (AL (d:=Tryz.t9.desc) (AF Tryz.type9) Tryz.underlying9 rfl) .AA .AA))) (.AB (AL (d:=Tryz.t15.desc) (AF Tryz.type15) Tryz.underlying15 rfl) (.AB (AL (d:=Tryz.t13.desc) (AF Tryz.type13) Tryz.underlying13 rfl) (.AB (AL (d:=Tryz.t12.desc) (AF Tryz.type12) Tryz.underlying12 rfl) (.AB (AL (d:=Tryz.t9.desc) (AF Tryz.type11) Tryz.underlying11 rfl) .AA .AA) .AA) (.AB (AL (d:=Tryz.t13.desc) (AF Tryz.type14) Tryz.underlying14 rfl) .AA .AA)) (.AB (AL (d:=Tryz.t18.desc) (AF Tryz.type18) Tryz.underlying18 rfl) (.AB (AL (d:=Tryz.t17.desc) (AF Tryz.type17) Tryz.underlying17 rfl) (.AB (AL (d:=Tryz.t16.desc) (AF Tryz.type16) Tryz.underlying16 rfl) .AA .AA) .AA) (.AB (AL (d:=Tryz.t18.desc) (AF Tryz.type19) Tryz.underlying19 rfl) .AA .AA)))) (.AB (AL (d:=Tryz.t30.desc) (AF Tryz.type30) Tryz.underlying30 rfl) (.AB (AL (d:=Tryz.t24.desc) (AF Tryz.type25) Tryz.underlying25 rfl) (.AB (AL (d:=Tryz.t23.desc) (AF Tryz.type23) Tryz.underlying23 rfl) (.AB (AL (d:=Tryz.t22.desc) (AF Tryz.type22) Tryz.underlying22 rfl) (.AB (AL (d:=Tryz.t21.desc) (AF Tryz.type21) Tryz.underlying21 rfl) .AA .AA) .AA) (.AB (AL (d:=Tryz.t24.desc) (AF Tryz.type24) Tryz.underlying24 rfl) .AA .AA)) (.AB (AL (d:=Tryz.t27.desc) (AF Tryz.type28) Tryz.underlying28 rfl) (.AB (AL (d:=Tryz.t27.desc) (AF Tryz.type27) Tryz.underlying27 rfl) (.AB (AL (d:=Tryz.t26.desc) (AF Tryz.type26) Tryz.underlying26 rfl) .AA .AA) .AA) (.AB (AL (d:=Tryz.t29.desc) (AF Tryz.type29) Tryz.underlying29 rfl) .AA .AA))) (.AB (AL (d:=Tryz.t3.desc) (AF Tryz.type35) Tryz.underlying35 rfl) (.AB (AL (d:=Tryz.t33.desc) (AF Tryz.type33) Tryz.underlying33 rfl) (.AB (AL (d:=Tryz.t32.desc) (AF Tryz.type32) Tryz.underlying32 rfl) (.AB (AL (d:=Tryz.t31.desc) (AF Tryz.type31) Tryz.underlying31 rfl) .AA .AA) .AA) (.AB (AL (d:=Tryz.t33.desc) (AF Tryz.type34) Tryz.underlying34 rfl) .AA .AA)) (.AB (AL (d:=Tryz.t38.desc) (AF Tryz.type38) Tryz.underlying38 rfl) (.AB (AL (d:=Tryz.t37.desc) (AF Tryz.type37) Tryz.underlying37 rfl) (.AB (AL (d:=Tryz.t36.desc) (AF Tryz.type36) Tryz.underlying36 rfl) .AA .AA) .AA) (.AB (AL (d:=Tryz.t39.desc) (AF Tryz.type39) Tryz.underlying39 rfl) .AA .AA)))))
theorem US:Bc (Hi Tryz.prog) tyT1:=(.AB (AL (d:=Tryz.t61.desc) (AF Tryz.type61) Tryz.underlying61 rfl) (.AB (AL (d:=Tryz.t51.desc) (AF Tryz.type51) Tryz.underlying51 rfl) (.AB (AL (d:=Tryz.t46.desc) (AF Tryz.type46) Tryz.underlying46 rfl) (.AB (AL (d:=Tryz.t43.desc) (AF Tryz.type43) Tryz.underlying43 rfl) (.AB (AL (d:=Tryz.t42.desc) (AF Tryz.type42) Tryz.underlying42 rfl) (.AB (AL (d:=Tryz.t41.desc) (AF Tryz.type41) Tryz.underlying41 rfl) .AA .AA) .AA) (.AB (AL (d:=Tryz.t45.desc) (AF Tryz.type45) Tryz.underlying45 rfl) (.AB (AL (d:=Tryz.t44.desc) (AF Tryz.type44) Tryz.underlying44 rfl) .AA .AA) .AA)) (.AB (AL (d:=Tryz.t49.desc) (AF Tryz.type49) Tryz.underlying49 rfl) (.AB (AL (d:=Tryz.t48.desc) (AF Tryz.type48) Tryz.underlying48 rfl) (.AB (AL (d:=Tryz.t47.desc) (AF Tryz.type47) Tryz.underlying47 rfl) .AA .AA) .AA) (.AB (AL (d:=Tryz.t50.desc) (AF Tryz.type50) Tryz.underlying50 rfl) .AA .AA))) (.AB (AL (d:=Tryz.t56.desc) (AF Tryz.type56) Tryz.underlying56 rfl) (.AB (AL (d:=Tryz.t54.desc) (AF Tryz.type54) Tryz.underlying54 rfl) (.AB (AL (d:=Tryz.t53.desc) (AF Tryz.type53) Tryz.underlying53 rfl) (.AB (AL (d:=Tryz.t52.desc) (AF Tryz.type52) Tryz.underlying52 rfl) .AA .AA) .AA) (.AB (AL (d:=Tryz.t55.desc) (AF Tryz.type55) Tryz.underlying55 rfl) .AA .AA)) (.AB (AL (d:=Tryz.t59.desc) (AF Tryz.type59) Tryz.underlying59 rfl) (.AB (AL (d:=Tryz.t58.desc) (AF Tryz.type58) Tryz.underlying58 rfl) (.AB (AL (d:=Tryz.t57.desc) (AF Tryz.type57) Tryz.underlying57 rfl) .AA .AA) .AA) (.AB (AL (d:=Tryz.t60.desc) (AF Tryz.type60) Tryz.underlying60 rfl) .AA .AA)))) (.AB (AL (d:=Tryz.t71.desc) (AF Tryz.type71) Tryz.underlying71 rfl) (.AB (AL (d:=Tryz.t66.desc) (AF Tryz.type66) Tryz.underlying66 rfl) (.AB (AL (d:=Tryz.t64.desc) (AF Tryz.type64) Tryz.underlying64 rfl) (.AB (AL (d:=Tryz.t63.desc) (AF Tryz.type63) Tryz.underlying63 rfl) (.AB (AL (d:=Tryz.t61.desc) (AF Tryz.type62) Tryz.underlying62 rfl) .AA .AA) .AA) (.AB (AL (d:=Tryz.t65.desc) (AF Tryz.type65) Tryz.underlying65 rfl) .AA .AA)) (.AB (AL (d:=Tryz.t69.desc) (AF Tryz.type69) Tryz.underlying69 rfl) (.AB (AL (d:=Tryz.t68.desc) (AF Tryz.type68) Tryz.underlying68 rfl) (.AB (AL (d:=Tryz.t67.desc) (AF Tryz.type67) Tryz.underlying67 rfl) .AA .AA) .AA) (.AB (AL (d:=Tryz.t70.desc) (AF Tryz.type70) Tryz.underlying70 rfl) .AA .AA))) (.AB (AL (d:=Tryz.t76.desc) (AF Tryz.type76) Tryz.underlying76 rfl) (.AB (AL (d:=Tryz.t74.desc) (AF Tryz.type74) Tryz.underlying74 rfl) (.AB (AL (d:=Tryz.t73.desc) (AF Tryz.type73) Tryz.underlying73 rfl) (.AB (AL (d:=Tryz.t72.desc) (AF Tryz.type72) Tryz.underlying72 rfl) .AA .AA) .AA) (.AB (AL (d:=Tryz.t75.desc) (AF Tryz.type75) Tryz.underlying75 rfl) .AA .AA)) (.AB (AL (d:=Tryz.t79.desc) (AF Tryz.type79) Tryz.underlying79 rfl) (.AB (AL (d:=Tryz.t78.desc) (AF Tryz.type78) Tryz.underlying78 rfl) (.AB (AL (d:=Tryz.t77.desc) (AF Tryz.type77) Tryz.underlying77 rfl) .AA .AA) .AA) (.AB (AL (d:=Tryz.t79.desc) (AF Tryz.type80) Tryz.underlying80 rfl) .AA .AA)))))
theorem UT:Bc (Hi Tryz.prog) tyT2:=(.AB (AL (d:=Tryz.t102.desc) (AF Tryz.type102) Tryz.underlying102 rfl) (.AB (AL (d:=Tryz.t92.desc) (AF Tryz.type92) Tryz.underlying92 rfl) (.AB (AL (d:=Tryz.t87.desc) (AF Tryz.type87) Tryz.underlying87 rfl) (.AB (AL (d:=Tryz.t84.desc) (AF Tryz.type84) Tryz.underlying84 rfl) (.AB (AL (d:=Tryz.t83.desc) (AF Tryz.type83) Tryz.underlying83 rfl) (.AB (AL (d:=Tryz.t82.desc) (AF Tryz.type82) Tryz.underlying82 rfl) .AA .AA) .AA) (.AB (AL (d:=Tryz.t86.desc) (AF Tryz.type86) Tryz.underlying86 rfl) (.AB (AL (d:=Tryz.t85.desc) (AF Tryz.type85) Tryz.underlying85 rfl) .AA .AA) .AA)) (.AB (AL (d:=Tryz.t89.desc) (AF Tryz.type90) Tryz.underlying90 rfl) (.AB (AL (d:=Tryz.t89.desc) (AF Tryz.type89) Tryz.underlying89 rfl) (.AB (AL (d:=Tryz.t88.desc) (AF Tryz.type88) Tryz.underlying88 rfl) .AA .AA) .AA) (.AB (AL (d:=Tryz.t91.desc) (AF Tryz.type91) Tryz.underlying91 rfl) .AA .AA))) (.AB (AL (d:=Tryz.t97.desc) (AF Tryz.type97) Tryz.underlying97 rfl) (.AB (AL (d:=Tryz.t95.desc) (AF Tryz.type95) Tryz.underlying95 rfl) (.AB (AL (d:=Tryz.t94.desc) (AF Tryz.type94) Tryz.underlying94 rfl) (.AB (AL (d:=Tryz.t93.desc) (AF Tryz.type93) Tryz.underlying93 rfl) .AA .AA) .AA) (.AB (AL (d:=Tryz.t96.desc) (AF Tryz.type96) Tryz.underlying96 rfl) .AA .AA)) (.AB (AL (d:=Tryz.t100.desc) (AF Tryz.type100) Tryz.underlying100 rfl) (.AB (AL (d:=Tryz.t98.desc) (AF Tryz.type99) Tryz.underlying99 rfl) (.AB (AL (d:=Tryz.t98.desc) (AF Tryz.type98) Tryz.underlying98 rfl) .AA .AA) .AA) (.AB (AL (d:=Tryz.t101.desc) (AF Tryz.type101) Tryz.underlying101 rfl) .AA .AA)))) (.AB (AL (d:=Tryz.t112.desc) (AF Tryz.type112) Tryz.underlying112 rfl) (.AB (AL (d:=Tryz.t107.desc) (AF Tryz.type107) Tryz.underlying107 rfl) (.AB (AL (d:=Tryz.t105.desc) (AF Tryz.type105) Tryz.underlying105 rfl) (.AB (AL (d:=Tryz.t104.desc) (AF Tryz.type104) Tryz.underlying104 rfl) (.AB (AL (d:=Tryz.t102.desc) (AF Tryz.type103) Tryz.underlying103 rfl) .AA .AA) .AA) (.AB (AL (d:=Tryz.t105.desc) (AF Tryz.type106) Tryz.underlying106 rfl) .AA .AA)) (.AB (AL (d:=Tryz.t110.desc) (AF Tryz.type110) Tryz.underlying110 rfl) (.AB (AL (d:=Tryz.t108.desc) (AF Tryz.type109) Tryz.underlying109 rfl) (.AB (AL (d:=Tryz.t108.desc) (AF Tryz.type108) Tryz.underlying108 rfl) .AA .AA) .AA) (.AB (AL (d:=Tryz.t111.desc) (AF Tryz.type111) Tryz.underlying111 rfl) .AA .AA))) (.AB (AL (d:=Tryz.t117.desc) (AF Tryz.type117) Tryz.underlying117 rfl) (.AB (AL (d:=Tryz.t115.desc) (AF Tryz.type115) Tryz.underlying115 rfl) (.AB (AL (d:=Tryz.t114.desc) (AF Tryz.type114) Tryz.underlying114 rfl) (.AB (AL (d:=Tryz.t113.desc) (AF Tryz.type113) Tryz.underlying113 rfl) .AA .AA) .AA) (.AB (AL (d:=Tryz.t116.desc) (AF Tryz.type116) Tryz.underlying116 rfl) .AA .AA)) (.AB (AL (d:=Tryz.t120.desc) (AF Tryz.type120) Tryz.underlying120 rfl) (.AB (AL (d:=Tryz.t119.desc) (AF Tryz.type119) Tryz.underlying119 rfl) (.AB (AL (d:=Tryz.t118.desc) (AF Tryz.type118) Tryz.underlying118 rfl) .AA .AA) .AA) (.AB (AL (d:=Tryz.t121.desc) (AF Tryz.type121) Tryz.underlying121 rfl) .AA .AA)))))
theorem UU:Bc (Hi Tryz.prog) tyT3:=(.AB (AL (d:=Tryz.t142.desc) (AF Tryz.type142) Tryz.underlying142 rfl) (.AB (AL (d:=Tryz.t132.desc) (AF Tryz.type132) Tryz.underlying132 rfl) (.AB (AL (d:=Tryz.t127.desc) (AF Tryz.type127) Tryz.underlying127 rfl) (.AB (AL (d:=Tryz.t125.desc) (AF Tryz.type125) Tryz.underlying125 rfl) (.AB (AL (d:=Tryz.t124.desc) (AF Tryz.type124) Tryz.underlying124 rfl) (.AB (AL (d:=Tryz.t123.desc) (AF Tryz.type123) Tryz.underlying123 rfl) .AA .AA) .AA) (.AB (AL (d:=Tryz.t126.desc) (AF Tryz.type126) Tryz.underlying126 rfl) .AA .AA)) (.AB (AL (d:=Tryz.t130.desc) (AF Tryz.type130) Tryz.underlying130 rfl) (.AB (AL (d:=Tryz.t128.desc) (AF Tryz.type129) Tryz.underlying129 rfl) (.AB (AL (d:=Tryz.t128.desc) (AF Tryz.type128) Tryz.underlying128 rfl) .AA .AA) .AA) (.AB (AL (d:=Tryz.t131.desc) (AF Tryz.type131) Tryz.underlying131 rfl) .AA .AA))) (.AB (AL (d:=Tryz.t137.desc) (AF Tryz.type137) Tryz.underlying137 rfl) (.AB (AL (d:=Tryz.t135.desc) (AF Tryz.type135) Tryz.underlying135 rfl) (.AB (AL (d:=Tryz.t134.desc) (AF Tryz.type134) Tryz.underlying134 rfl) (.AB (AL (d:=Tryz.t133.desc) (AF Tryz.type133) Tryz.underlying133 rfl) .AA .AA) .AA) (.AB (AL (d:=Tryz.t136.desc) (AF Tryz.type136) Tryz.underlying136 rfl) .AA .AA)) (.AB (AL (d:=Tryz.t140.desc) (AF Tryz.type140) Tryz.underlying140 rfl) (.AB (AL (d:=Tryz.t139.desc) (AF Tryz.type139) Tryz.underlying139 rfl) (.AB (AL (d:=Tryz.t138.desc) (AF Tryz.type138) Tryz.underlying138 rfl) .AA .AA) .AA) (.AB (AL (d:=Tryz.t141.desc) (AF Tryz.type141) Tryz.underlying141 rfl) .AA .AA)))) (.AB (AL (d:=Tryz.t152.desc) (AF Tryz.type152) Tryz.underlying152 rfl) (.AB (AL (d:=Tryz.t147.desc) (AF Tryz.type147) Tryz.underlying147 rfl) (.AB (AL (d:=Tryz.t145.desc) (AF Tryz.type145) Tryz.underlying145 rfl) (.AB (AL (d:=Tryz.t144.desc) (AF Tryz.type144) Tryz.underlying144 rfl) (.AB (AL (d:=Tryz.t143.desc) (AF Tryz.type143) Tryz.underlying143 rfl) .AA .AA) .AA) (.AB (AL (d:=Tryz.t146.desc) (AF Tryz.type146) Tryz.underlying146 rfl) .AA .AA)) (.AB (AL (d:=Tryz.t150.desc) (AF Tryz.type150) Tryz.underlying150 rfl) (.AB (AL (d:=Tryz.t149.desc) (AF Tryz.type149) Tryz.underlying149 rfl) (.AB (AL (d:=Tryz.t148.desc) (AF Tryz.type148) Tryz.underlying148 rfl) .AA .AA) .AA) (.AB (AL (d:=Tryz.t151.desc) (AF Tryz.type151) Tryz.underlying151 rfl) .AA .AA))) (.AB (AL (d:=Tryz.t157.desc) (AF Tryz.type157) Tryz.underlying157 rfl) (.AB (AL (d:=Tryz.t155.desc) (AF Tryz.type155) Tryz.underlying155 rfl) (.AB (AL (d:=Tryz.t154.desc) (AF Tryz.type154) Tryz.underlying154 rfl) (.AB (AL (d:=Tryz.t153.desc) (AF Tryz.type153) Tryz.underlying153 rfl) .AA .AA) .AA) (.AB (AL (d:=Tryz.t156.desc) (AF Tryz.type156) Tryz.underlying156 rfl) .AA .AA)) (.AB (AL (d:=Tryz.t160.desc) (AF Tryz.type160) Tryz.underlying160 rfl) (.AB (AL (d:=Tryz.t158.desc) (AF Tryz.type159) Tryz.underlying159 rfl) (.AB (AL (d:=Tryz.t158.desc) (AF Tryz.type158) Tryz.underlying158 rfl) .AA .AA) .AA) (.AB (AL (d:=Tryz.t161.desc) (AF Tryz.type161) Tryz.underlying161 rfl) .AA .AA)))))
theorem UW:Bc (Hi Tryz.prog) tyT4:=(.AB (AL (d:=Tryz.t183.desc) (AF Tryz.type183) Tryz.underlying183 rfl) (.AB (AL (d:=Tryz.t173.desc) (AF Tryz.type173) Tryz.underlying173 rfl) (.AB (AL (d:=Tryz.t168.desc) (AF Tryz.type168) Tryz.underlying168 rfl) (.AB (AL (d:=Tryz.t165.desc) (AF Tryz.type165) Tryz.underlying165 rfl) (.AB (AL (d:=Tryz.t164.desc) (AF Tryz.type164) Tryz.underlying164 rfl) (.AB (AL (d:=Tryz.t163.desc) (AF Tryz.type163) Tryz.underlying163 rfl) .AA .AA) .AA) (.AB (AL (d:=Tryz.t167.desc) (AF Tryz.type167) Tryz.underlying167 rfl) (.AB (AL (d:=Tryz.t166.desc) (AF Tryz.type166) Tryz.underlying166 rfl) .AA .AA) .AA)) (.AB (AL (d:=Tryz.t171.desc) (AF Tryz.type171) Tryz.underlying171 rfl) (.AB (AL (d:=Tryz.t170.desc) (AF Tryz.type170) Tryz.underlying170 rfl) (.AB (AL (d:=Tryz.t169.desc) (AF Tryz.type169) Tryz.underlying169 rfl) .AA .AA) .AA) (.AB (AL (d:=Tryz.t172.desc) (AF Tryz.type172) Tryz.underlying172 rfl) .AA .AA))) (.AB (AL (d:=Tryz.t178.desc) (AF Tryz.type178) Tryz.underlying178 rfl) (.AB (AL (d:=Tryz.t176.desc) (AF Tryz.type176) Tryz.underlying176 rfl) (.AB (AL (d:=Tryz.t175.desc) (AF Tryz.type175) Tryz.underlying175 rfl) (.AB (AL (d:=Tryz.t173.desc) (AF Tryz.type174) Tryz.underlying174 rfl) .AA .AA) .AA) (.AB (AL (d:=Tryz.t177.desc) (AF Tryz.type177) Tryz.underlying177 rfl) .AA .AA)) (.AB (AL (d:=Tryz.t181.desc) (AF Tryz.type181) Tryz.underlying181 rfl) (.AB (AL (d:=Tryz.t180.desc) (AF Tryz.type180) Tryz.underlying180 rfl) (.AB (AL (d:=Tryz.t179.desc) (AF Tryz.type179) Tryz.underlying179 rfl) .AA .AA) .AA) (.AB (AL (d:=Tryz.t182.desc) (AF Tryz.type182) Tryz.underlying182 rfl) .AA .AA)))) (.AB (AL (d:=Tryz.t193.desc) (AF Tryz.type193) Tryz.underlying193 rfl) (.AB (AL (d:=Tryz.t188.desc) (AF Tryz.type188) Tryz.underlying188 rfl) (.AB (AL (d:=Tryz.t186.desc) (AF Tryz.type186) Tryz.underlying186 rfl) (.AB (AL (d:=Tryz.t185.desc) (AF Tryz.type185) Tryz.underlying185 rfl) (.AB (AL (d:=Tryz.t184.desc) (AF Tryz.type184) Tryz.underlying184 rfl) .AA .AA) .AA) (.AB (AL (d:=Tryz.t187.desc) (AF Tryz.type187) Tryz.underlying187 rfl) .AA .AA)) (.AB (AL (d:=Tryz.t191.desc) (AF Tryz.type191) Tryz.underlying191 rfl) (.AB (AL (d:=Tryz.t190.desc) (AF Tryz.type190) Tryz.underlying190 rfl) (.AB (AL (d:=Tryz.t189.desc) (AF Tryz.type189) Tryz.underlying189 rfl) .AA .AA) .AA) (.AB (AL (d:=Tryz.t192.desc) (AF Tryz.type192) Tryz.underlying192 rfl) .AA .AA))) (.AB (AL (d:=Tryz.t198.desc) (AF Tryz.type198) Tryz.underlying198 rfl) (.AB (AL (d:=Tryz.t195.desc) (AF Tryz.type196) Tryz.underlying196 rfl) (.AB (AL (d:=Tryz.t195.desc) (AF Tryz.type195) Tryz.underlying195 rfl) (.AB (AL (d:=Tryz.t194.desc) (AF Tryz.type194) Tryz.underlying194 rfl) .AA .AA) .AA) (.AB (AL (d:=Tryz.t197.desc) (AF Tryz.type197) Tryz.underlying197 rfl) .AA .AA)) (.AB (AL (d:=Tryz.t201.desc) (AF Tryz.type201) Tryz.underlying201 rfl) (.AB (AL (d:=Tryz.t200.desc) (AF Tryz.type200) Tryz.underlying200 rfl) (.AB (AL (d:=Tryz.t199.desc) (AF Tryz.type199) Tryz.underlying199 rfl) .AA .AA) .AA) (.AB (AL (d:=Tryz.t202.desc) (AF Tryz.type202) Tryz.underlying202 rfl) .AA .AA)))))
theorem UX:Bc (Hi Tryz.prog) tyT5:=(.AB (AL (d:=Tryz.t224.desc) (AF Tryz.type224) Tryz.underlying224 rfl) (.AB (AL (d:=Tryz.t214.desc) (AF Tryz.type214) Tryz.underlying214 rfl) (.AB (AL (d:=Tryz.t209.desc) (AF Tryz.type209) Tryz.underlying209 rfl) (.AB (AL (d:=Tryz.t206.desc) (AF Tryz.type206) Tryz.underlying206 rfl) (.AB (AL (d:=Tryz.t205.desc) (AF Tryz.type205) Tryz.underlying205 rfl) (.AB (AL (d:=Tryz.t204.desc) (AF Tryz.type204) Tryz.underlying204 rfl) .AA .AA) .AA) (.AB (AL (d:=Tryz.t208.desc) (AF Tryz.type208) Tryz.underlying208 rfl) (.AB (AL (d:=Tryz.t207.desc) (AF Tryz.type207) Tryz.underlying207 rfl) .AA .AA) .AA)) (.AB (AL (d:=Tryz.t212.desc) (AF Tryz.type212) Tryz.underlying212 rfl) (.AB (AL (d:=Tryz.t211.desc) (AF Tryz.type211) Tryz.underlying211 rfl) (.AB (AL (d:=Tryz.t209.desc) (AF Tryz.type210) Tryz.underlying210 rfl) .AA .AA) .AA) (.AB (AL (d:=Tryz.t213.desc) (AF Tryz.type213) Tryz.underlying213 rfl) .AA .AA))) (.AB (AL (d:=Tryz.t219.desc) (AF Tryz.type219) Tryz.underlying219 rfl) (.AB (AL (d:=Tryz.t217.desc) (AF Tryz.type217) Tryz.underlying217 rfl) (.AB (AL (d:=Tryz.t216.desc) (AF Tryz.type216) Tryz.underlying216 rfl) (.AB (AL (d:=Tryz.t215.desc) (AF Tryz.type215) Tryz.underlying215 rfl) .AA .AA) .AA) (.AB (AL (d:=Tryz.t218.desc) (AF Tryz.type218) Tryz.underlying218 rfl) .AA .AA)) (.AB (AL (d:=Tryz.t222.desc) (AF Tryz.type222) Tryz.underlying222 rfl) (.AB (AL (d:=Tryz.t220.desc) (AF Tryz.type221) Tryz.underlying221 rfl) (.AB (AL (d:=Tryz.t220.desc) (AF Tryz.type220) Tryz.underlying220 rfl) .AA .AA) .AA) (.AB (AL (d:=Tryz.t223.desc) (AF Tryz.type223) Tryz.underlying223 rfl) .AA .AA)))) (.AB (AL (d:=Tryz.t234.desc) (AF Tryz.type234) Tryz.underlying234 rfl) (.AB (AL (d:=Tryz.t229.desc) (AF Tryz.type229) Tryz.underlying229 rfl) (.AB (AL (d:=Tryz.t227.desc) (AF Tryz.type227) Tryz.underlying227 rfl) (.AB (AL (d:=Tryz.t226.desc) (AF Tryz.type226) Tryz.underlying226 rfl) (.AB (AL (d:=Tryz.t225.desc) (AF Tryz.type225) Tryz.underlying225 rfl) .AA .AA) .AA) (.AB (AL (d:=Tryz.t228.desc) (AF Tryz.type228) Tryz.underlying228 rfl) .AA .AA)) (.AB (AL (d:=Tryz.t232.desc) (AF Tryz.type232) Tryz.underlying232 rfl) (.AB (AL (d:=Tryz.t230.desc) (AF Tryz.type231) Tryz.underlying231 rfl) (.AB (AL (d:=Tryz.t230.desc) (AF Tryz.type230) Tryz.underlying230 rfl) .AA .AA) .AA) (.AB (AL (d:=Tryz.t233.desc) (AF Tryz.type233) Tryz.underlying233 rfl) .AA .AA))) (.AB (AL (d:=Tryz.t239.desc) (AF Tryz.type239) Tryz.underlying239 rfl) (.AB (AL (d:=Tryz.t237.desc) (AF Tryz.type237) Tryz.underlying237 rfl) (.AB (AL (d:=Tryz.t236.desc) (AF Tryz.type236) Tryz.underlying236 rfl) (.AB (AL (d:=Tryz.t235.desc) (AF Tryz.type235) Tryz.underlying235 rfl) .AA .AA) .AA) (.AB (AL (d:=Tryz.t238.desc) (AF Tryz.type238) Tryz.underlying238 rfl) .AA .AA)) (.AB (AL (d:=Tryz.t242.desc) (AF Tryz.type242) Tryz.underlying242 rfl) (.AB (AL (d:=Tryz.t241.desc) (AF Tryz.type241) Tryz.underlying241 rfl) (.AB (AL (d:=Tryz.t240.desc) (AF Tryz.type240) Tryz.underlying240 rfl) .AA .AA) .AA) (.AB (AL (d:=Tryz.t243.desc) (AF Tryz.type243) Tryz.underlying243 rfl) .AA .AA)))))
theorem UY:Bc (Hi Tryz.prog) tyT6:=(.AB (AL (d:=Tryz.t265.desc) (AF Tryz.type265) Tryz.underlying265 rfl) (.AB (AL (d:=Tryz.t255.desc) (AF Tryz.type255) Tryz.underlying255 rfl) (.AB (AL (d:=Tryz.t250.desc) (AF Tryz.type250) Tryz.underlying250 rfl) (.AB (AL (d:=Tryz.t247.desc) (AF Tryz.type247) Tryz.underlying247 rfl) (.AB (AL (d:=Tryz.t246.desc) (AF Tryz.type246) Tryz.underlying246 rfl) (.AB (AL (d:=Tryz.t245.desc) (AF Tryz.type245) Tryz.underlying245 rfl) .AA .AA) .AA) (.AB (AL (d:=Tryz.t249.desc) (AF Tryz.type249) Tryz.underlying249 rfl) (.AB (AL (d:=Tryz.t248.desc) (AF Tryz.type248) Tryz.underlying248 rfl) .AA .AA) .AA)) (.AB (AL (d:=Tryz.t253.desc) (AF Tryz.type253) Tryz.underlying253 rfl) (.AB (AL (d:=Tryz.t252.desc) (AF Tryz.type252) Tryz.underlying252 rfl) (.AB (AL (d:=Tryz.t3.desc) (AF Tryz.type251) Tryz.underlying251 rfl) .AA .AA) .AA) (.AB (AL (d:=Tryz.t254.desc) (AF Tryz.type254) Tryz.underlying254 rfl) .AA .AA))) (.AB (AL (d:=Tryz.t260.desc) (AF Tryz.type260) Tryz.underlying260 rfl) (.AB (AL (d:=Tryz.t258.desc) (AF Tryz.type258) Tryz.underlying258 rfl) (.AB (AL (d:=Tryz.t257.desc) (AF Tryz.type257) Tryz.underlying257 rfl) (.AB (AL (d:=Tryz.t256.desc) (AF Tryz.type256) Tryz.underlying256 rfl) .AA .AA) .AA) (.AB (AL (d:=Tryz.t259.desc) (AF Tryz.type259) Tryz.underlying259 rfl) .AA .AA)) (.AB (AL (d:=Tryz.t263.desc) (AF Tryz.type263) Tryz.underlying263 rfl) (.AB (AL (d:=Tryz.t262.desc) (AF Tryz.type262) Tryz.underlying262 rfl) (.AB (AL (d:=Tryz.t261.desc) (AF Tryz.type261) Tryz.underlying261 rfl) .AA .AA) .AA) (.AB (AL (d:=Tryz.t264.desc) (AF Tryz.type264) Tryz.underlying264 rfl) .AA .AA)))) (.AB (AL (d:=Tryz.t275.desc) (AF Tryz.type275) Tryz.underlying275 rfl) (.AB (AL (d:=Tryz.t269.desc) (AF Tryz.type270) Tryz.underlying270 rfl) (.AB (AL (d:=Tryz.t268.desc) (AF Tryz.type268) Tryz.underlying268 rfl) (.AB (AL (d:=Tryz.t266.desc) (AF Tryz.type267) Tryz.underlying267 rfl) (.AB (AL (d:=Tryz.t266.desc) (AF Tryz.type266) Tryz.underlying266 rfl) .AA .AA) .AA) (.AB (AL (d:=Tryz.t269.desc) (AF Tryz.type269) Tryz.underlying269 rfl) .AA .AA)) (.AB (AL (d:=Tryz.t273.desc) (AF Tryz.type273) Tryz.underlying273 rfl) (.AB (AL (d:=Tryz.t272.desc) (AF Tryz.type272) Tryz.underlying272 rfl) (.AB (AL (d:=Tryz.t271.desc) (AF Tryz.type271) Tryz.underlying271 rfl) .AA .AA) .AA) (.AB (AL (d:=Tryz.t274.desc) (AF Tryz.type274) Tryz.underlying274 rfl) .AA .AA))) (.AB (AL (d:=Tryz.t280.desc) (AF Tryz.type280) Tryz.underlying280 rfl) (.AB (AL (d:=Tryz.t278.desc) (AF Tryz.type278) Tryz.underlying278 rfl) (.AB (AL (d:=Tryz.t277.desc) (AF Tryz.type277) Tryz.underlying277 rfl) (.AB (AL (d:=Tryz.t276.desc) (AF Tryz.type276) Tryz.underlying276 rfl) .AA .AA) .AA) (.AB (AL (d:=Tryz.t279.desc) (AF Tryz.type279) Tryz.underlying279 rfl) .AA .AA)) (.AB (AL (d:=Tryz.t283.desc) (AF Tryz.type283) Tryz.underlying283 rfl) (.AB (AL (d:=Tryz.t282.desc) (AF Tryz.type282) Tryz.underlying282 rfl) (.AB (AL (d:=Tryz.t281.desc) (AF Tryz.type281) Tryz.underlying281 rfl) .AA .AA) .AA) (.AB (AL (d:=Tryz.t284.desc) (AF Tryz.type284) Tryz.underlying284 rfl) .AA .AA)))))
theorem UZ:Bc (Hi Tryz.prog) tyT7:=(.AB (AL (d:=Tryz.t305.desc) (AF Tryz.type305) Tryz.underlying305 rfl) (.AB (AL (d:=Tryz.t295.desc) (AF Tryz.type295) Tryz.underlying295 rfl) (.AB (AL (d:=Tryz.t290.desc) (AF Tryz.type290) Tryz.underlying290 rfl) (.AB (AL (d:=Tryz.t288.desc) (AF Tryz.type288) Tryz.underlying288 rfl) (.AB (AL (d:=Tryz.t287.desc) (AF Tryz.type287) Tryz.underlying287 rfl) (.AB (AL (d:=Tryz.t286.desc) (AF Tryz.type286) Tryz.underlying286 rfl) .AA .AA) .AA) (.AB (AL (d:=Tryz.t289.desc) (AF Tryz.type289) Tryz.underlying289 rfl) .AA .AA)) (.AB (AL (d:=Tryz.t293.desc) (AF Tryz.type293) Tryz.underlying293 rfl) (.AB (AL (d:=Tryz.t292.desc) (AF Tryz.type292) Tryz.underlying292 rfl) (.AB (AL (d:=Tryz.t291.desc) (AF Tryz.type291) Tryz.underlying291 rfl) .AA .AA) .AA) (.AB (AL (d:=Tryz.t294.desc) (AF Tryz.type294) Tryz.underlying294 rfl) .AA .AA))) (.AB (AL (d:=Tryz.t300.desc) (AF Tryz.type300) Tryz.underlying300 rfl) (.AB (AL (d:=Tryz.t298.desc) (AF Tryz.type298) Tryz.underlying298 rfl) (.AB (AL (d:=Tryz.t297.desc) (AF Tryz.type297) Tryz.underlying297 rfl) (.AB (AL (d:=Tryz.t296.desc) (AF Tryz.type296) Tryz.underlying296 rfl) .AA .AA) .AA) (.AB (AL (d:=Tryz.t299.desc) (AF Tryz.type299) Tryz.underlying299 rfl) .AA .AA)) (.AB (AL (d:=Tryz.t303.desc) (AF Tryz.type303) Tryz.underlying303 rfl) (.AB (AL (d:=Tryz.t302.desc) (AF Tryz.type302) Tryz.underlying302 rfl) (.AB (AL (d:=Tryz.t301.desc) (AF Tryz.type301) Tryz.underlying301 rfl) .AA .AA) .AA) (.AB (AL (d:=Tryz.t304.desc) (AF Tryz.type304) Tryz.underlying304 rfl) .AA .AA)))) (.AB (AL (d:=Tryz.t314.desc) (AF Tryz.type315) Tryz.underlying315 rfl) (.AB (AL (d:=Tryz.t310.desc) (AF Tryz.type310) Tryz.underlying310 rfl) (.AB (AL (d:=Tryz.t308.desc) (AF Tryz.type308) Tryz.underlying308 rfl) (.AB (AL (d:=Tryz.t307.desc) (AF Tryz.type307) Tryz.underlying307 rfl) (.AB (AL (d:=Tryz.t306.desc) (AF Tryz.type306) Tryz.underlying306 rfl) .AA .AA) .AA) (.AB (AL (d:=Tryz.t309.desc) (AF Tryz.type309) Tryz.underlying309 rfl) .AA .AA)) (.AB (AL (d:=Tryz.t313.desc) (AF Tryz.type313) Tryz.underlying313 rfl) (.AB (AL (d:=Tryz.t311.desc) (AF Tryz.type312) Tryz.underlying312 rfl) (.AB (AL (d:=Tryz.t311.desc) (AF Tryz.type311) Tryz.underlying311 rfl) .AA .AA) .AA) (.AB (AL (d:=Tryz.t314.desc) (AF Tryz.type314) Tryz.underlying314 rfl) .AA .AA))) (.AB (AL (d:=Tryz.t21.desc) (AF Tryz.type320) Tryz.underlying320 rfl) (.AB (AL (d:=Tryz.t318.desc) (AF Tryz.type318) Tryz.underlying318 rfl) (.AB (AL (d:=Tryz.t5.desc) (AF Tryz.type317) Tryz.underlying317 rfl) (.AB (AL (d:=Tryz.t5.desc) (AF Tryz.type316) Tryz.underlying316 rfl) .AA .AA) .AA) (.AB (AL (d:=Tryz.t319.desc) (AF Tryz.type319) Tryz.underlying319 rfl) .AA .AA)) (.AB (AL (d:=Tryz.t322.desc) (AF Tryz.type323) Tryz.underlying323 rfl) (.AB (AL (d:=Tryz.t322.desc) (AF Tryz.type322) Tryz.underlying322 rfl) (.AB (AL (d:=Tryz.t21.desc) (AF Tryz.type321) Tryz.underlying321 rfl) .AA .AA) .AA) (.AB (AL (d:=Tryz.t324.desc) (AF Tryz.type324) Tryz.underlying324 rfl) .AA .AA)))))
theorem Xa:Bc (Hi Tryz.prog) tyT:=(.AB (AL (d:=Tryz.t161.desc) (AF Tryz.type162) Tryz.underlying162 rfl) (.AB (AL (d:=Tryz.t81.desc) (AF Tryz.type81) Tryz.underlying81 rfl) (.AB (AL (d:=Tryz.t40.desc) (AF Tryz.type40) Tryz.underlying40 rfl) UR US) (.AB (AL (d:=Tryz.t121.desc) (AF Tryz.type122) Tryz.underlying122 rfl) UT UU)) (.AB (AL (d:=Tryz.t244.desc) (AF Tryz.type244) Tryz.underlying244 rfl) (.AB (AL (d:=Tryz.t203.desc) (AF Tryz.type203) Tryz.underlying203 rfl) UW UX) (.AB (AL (d:=Tryz.t261.desc) (AF Tryz.type285) Tryz.underlying285 rfl) UY UZ)))
theorem ok2:okB Tryz.f2.body=true:=by kernel_rfl
theorem ok3:okB Tryz.f3.body=true:=by kernel_rfl
theorem ok4:okB Tryz.f4.body=true:=by kernel_rfl
theorem ok5:okB Tryz.f5.body=true:=by kernel_rfl
theorem ok6:okB Tryz.f6.body=true:=by kernel_rfl
theorem ok7:okB Tryz.f7.body=true:=by kernel_rfl
theorem ok8:okB Tryz.f8.body=true:=by kernel_rfl
theorem ok9:okB Tryz.f9.body=true:=by kernel_rfl
theorem ok10:okB Tryz.f10.body=true:=by kernel_rfl
theorem ok11:okB Tryz.f11.body=true:=by kernel_rfl
theorem ok12:okB Tryz.f12.body=true:=by kernel_rfl
theorem ok13:okB Tryz.f13.body=true:=by kernel_rfl
theorem ok14:okB Tryz.f14.body=true:=by kernel_rfl
theorem ok15:okB Tryz.f15.body=true:=by kernel_rfl
theorem ok16:okB Tryz.f16.body=true:=by kernel_rfl
theorem ok17:okB Tryz.f17.body=true:=by kernel_rfl
theorem ok18:okB Tryz.f18.body=true:=by kernel_rfl
theorem ok19:okB Tryz.f19.body=true:=by kernel_rfl
theorem ok20:okB Tryz.f20.body=true:=by kernel_rfl
theorem ok21:okB Tryz.f21.body=true:=by kernel_rfl
theorem ok22:okB Tryz.f22.body=true:=by kernel_rfl
theorem ok23:okB Tryz.f23.body=true:=by kernel_rfl
theorem ok24:okB Tryz.f24.body=true:=by kernel_rfl
theorem ok25:okB Tryz.f25.body=true:=by kernel_rfl
theorem ok26:okB Tryz.f26.body=true:=by kernel_rfl
theorem ok27:okB Tryz.f27.body=true:=by kernel_rfl
theorem ok28:okB Tryz.f28.body=true:=by kernel_rfl
theorem ok29:okB Tryz.f29.body=true:=by kernel_rfl
theorem ok30:okB Tryz.f30.body=true:=by kernel_rfl
theorem ok31:okB Tryz.f31.body=true:=by kernel_rfl
theorem ok32:okB Tryz.f32.body=true:=by kernel_rfl
theorem ok33:okB Tryz.f33.body=true:=by kernel_rfl
theorem ok34:okB Tryz.f34.body=true:=by kernel_rfl
theorem ok35:okB Tryz.f35.body=true:=by kernel_rfl
theorem ok36:okB Tryz.f36.body=true:=by kernel_rfl
theorem ok37:okB Tryz.f37.body=true:=by kernel_rfl
theorem ok38:okB Tryz.f38.body=true:=by kernel_rfl
theorem ok39:okB Tryz.f39.body=true:=by kernel_rfl
theorem ok40:okB Tryz.f40.body=true:=by kernel_rfl
theorem ok41:okB Tryz.f41.body=true:=by kernel_rfl
theorem ok42:okB Tryz.f42.body=true:=by kernel_rfl
theorem ok43:okB Tryz.f43.body=true:=by kernel_rfl
theorem ok44:okB Tryz.f44.body=true:=by kernel_rfl
theorem ok45:okB Tryz.f45.body=true:=by kernel_rfl
theorem ok46:okB Tryz.f46.body=true:=by kernel_rfl
theorem ok47:okB Tryz.f47.body=true:=by kernel_rfl
theorem ok48:okB Tryz.f48.body=true:=by kernel_rfl
theorem ok49:okB Tryz.f49.body=true:=by kernel_rfl
theorem ok50:okB Tryz.f50.body=true:=by kernel_rfl
theorem ok51:okB Tryz.f51.body=true:=by kernel_rfl
theorem ok52:okB Tryz.f52.body=true:=by kernel_rfl
theorem ok53:okB Tryz.f53.body=true:=by kernel_rfl
theorem ok54:okB Tryz.f54.body=true:=by kernel_rfl
theorem ok55:okB Tryz.f55.body=true:=by kernel_rfl
theorem ok56:okB Tryz.f56.body=true:=by kernel_rfl
theorem ok57:okB Tryz.f57.body=true:=by kernel_rfl
theorem ok58:okB Tryz.f58.body=true:=by kernel_rfl
theorem ok59:okB Tryz.f59.body=true:=by kernel_rfl
theorem ok60:okB Tryz.f60.body=true:=by kernel_rfl
theorem ok61:okB Tryz.f61.body=true:=by kernel_rfl
theorem ok62:okB Tryz.f62.body=true:=by kernel_rfl
theorem ok63:okB Tryz.f63.body=true:=by kernel_rfl
theorem ok64:okB Tryz.f64.body=true:=by kernel_rfl
theorem ok65:okB Tryz.f65.body=true:=by kernel_rfl
theorem ok66:okB Tryz.f66.body=true:=by kernel_rfl
theorem ok67:okB Tryz.f67.body=true:=by kernel_rfl
theorem ok68:okB Tryz.f68.body=true:=by kernel_rfl
theorem ok69:okB Tryz.f69.body=true:=by kernel_rfl
theorem ok70:okB Tryz.f70.body=true:=by kernel_rfl
theorem ok71:okB Tryz.f71.body=true:=by kernel_rfl
theorem ok72:okB Tryz.f72.body=true:=by kernel_rfl
theorem ok73:okB Tryz.f73.body=true:=by kernel_rfl
theorem ok74:okB Tryz.f74.body=true:=by kernel_rfl
theorem ok75:okB Tryz.f75.body=true:=by kernel_rfl
theorem ok76:okB Tryz.f76.body=true:=by kernel_rfl
theorem ok77:okB Tryz.f77.body=true:=by kernel_rfl
theorem ok78:okB Tryz.f78.body=true:=by kernel_rfl
theorem ok79:okB Tryz.f79.body=true:=by kernel_rfl
theorem ok80:okB Tryz.f80.body=true:=by kernel_rfl
theorem ok81:okB Tryz.f81.body=true:=by kernel_rfl
theorem ok82:okB Tryz.f82.body=true:=by kernel_rfl
theorem ok83:okB Tryz.f83.body=true:=by kernel_rfl
theorem ok84:okB Tryz.f84.body=true:=by kernel_rfl
theorem ok85:okB Tryz.f85.body=true:=by kernel_rfl
theorem ok86:okB Tryz.f86.body=true:=by kernel_rfl
theorem ok87:okB Tryz.f87.body=true:=by kernel_rfl
theorem ok88:okB Tryz.f88.body=true:=by kernel_rfl
theorem ok89:okB Tryz.f89.body=true:=by kernel_rfl
theorem ok90:okB Tryz.f90.body=true:=by kernel_rfl
theorem ok91:okB Tryz.f91.body=true:=by kernel_rfl
theorem ok92:okB Tryz.f92.body=true:=by kernel_rfl
theorem ok93:okB Tryz.f93.body=true:=by kernel_rfl
theorem ok94:okB Tryz.f94.body=true:=by kernel_rfl
theorem ok95:okB Tryz.f95.body=true:=by kernel_rfl
theorem ok96:okB Tryz.f96.body=true:=by kernel_rfl
theorem ok97:okB Tryz.f97.body=true:=by kernel_rfl
theorem ok98:okB Tryz.f98.body=true:=by kernel_rfl
theorem ok99:okB Tryz.f99.body=true:=by kernel_rfl
theorem ok100:okB Tryz.f100.body=true:=by kernel_rfl
theorem ok101:okB Tryz.f101.body=true:=by kernel_rfl
theorem ok102:okB Tryz.f102.body=true:=by kernel_rfl
theorem ok103:okB Tryz.f103.body=true:=by kernel_rfl
theorem ok104:okB Tryz.f104.body=true:=by kernel_rfl
theorem ok105:okB Tryz.f105.body=true:=by kernel_rfl
theorem ok106:okB Tryz.f106.body=true:=by kernel_rfl
theorem ok107:okB Tryz.f107.body=true:=by kernel_rfl
theorem ok108:okB Tryz.f108.body=true:=by kernel_rfl
theorem ok109:okB Tryz.f109.body=true:=by kernel_rfl
theorem ok110:okB Tryz.f110.body=true:=by kernel_rfl
theorem ok111:okB Tryz.f111.body=true:=by kernel_rfl
theorem ok112:okB Tryz.f112.body=true:=by kernel_rfl
theorem ok113:okB Tryz.f113.body=true:=by kernel_rfl
theorem ok114:okB Tryz.f114.body=true:=by kernel_rfl
theorem ok115:okB Tryz.f115.body=true:=by kernel_rfl
theorem ok116:okB Tryz.f116.body=true:=by kernel_rfl
theorem ok117:okB Tryz.f117.body=true:=by kernel_rfl
theorem ok118:okB Tryz.f118.body=true:=by kernel_rfl
theorem ok119:okB Tryz.f119.body=true:=by kernel_rfl
theorem ok120:okB Tryz.f120.body=true:=by kernel_rfl
theorem ok121:okB Tryz.f121.body=true:=by kernel_rfl
theorem ok122:okB Tryz.f122.body=true:=by kernel_rfl
theorem ok123:okB Tryz.f123.body=true:=by kernel_rfl
theorem ok124:okB Tryz.f124.body=true:=by kernel_rfl
theorem ok125:okB Tryz.f125.body=true:=by kernel_rfl
theorem ok126:okB Tryz.f126.body=true:=by kernel_rfl
theorem ok127:okB Tryz.f127.body=true:=by kernel_rfl
theorem ok128:okB Tryz.f128.body=true:=by kernel_rfl
theorem ok129:okB Tryz.f129.body=true:=by kernel_rfl
theorem ok130:okB Tryz.f130.body=true:=by kernel_rfl
theorem ok131:okB Tryz.f131.body=true:=by kernel_rfl
theorem ok132:okB Tryz.f132.body=true:=by kernel_rfl
theorem ok133:okB Tryz.f133.body=true:=by kernel_rfl
theorem ok134:okB Tryz.f134.body=true:=by kernel_rfl
theorem ok135:okB Tryz.f135.body=true:=by kernel_rfl
theorem ok136:okB Tryz.f136.body=true:=by kernel_rfl
theorem ok137:okB Tryz.f137.body=true:=by kernel_rfl
theorem ok138:okB Tryz.f138.body=true:=by kernel_rfl
theorem ok139:okB Tryz.f139.body=true:=by kernel_rfl
theorem ok140:okB Tryz.f140.body=true:=by kernel_rfl
theorem ok141:okB Tryz.f141.body=true:=by kernel_rfl
theorem ok142:okB Tryz.f142.body=true:=by kernel_rfl
theorem ok143:okB Tryz.f143.body=true:=by kernel_rfl
theorem ok144:okB Tryz.f144.body=true:=by kernel_rfl
theorem ok145:okB Tryz.f145.body=true:=by kernel_rfl
theorem ok146:okB Tryz.f146.body=true:=by kernel_rfl
theorem ok147:okB Tryz.f147.body=true:=by kernel_rfl
theorem ok148:okB Tryz.f148.body=true:=by kernel_rfl
theorem ok149:okB Tryz.f149.body=true:=by kernel_rfl
theorem ok150:okB Tryz.f150.body=true:=by kernel_rfl
theorem ok151:okB Tryz.f151.body=true:=by kernel_rfl
theorem ok152:okB Tryz.f152.body=true:=by kernel_rfl
theorem ok153:okB Tryz.f153.body=true:=by kernel_rfl
theorem ok154:okB Tryz.f154.body=true:=by kernel_rfl
theorem ok155:okB Tryz.f155.body=true:=by kernel_rfl
theorem ok156:okB Tryz.f156.body=true:=by kernel_rfl
theorem ok157:okB Tryz.f157.body=true:=by kernel_rfl
theorem ok158:okB Tryz.f158.body=true:=by kernel_rfl
theorem ok159:okB Tryz.f159.body=true:=by kernel_rfl
theorem ok160:okB Tryz.f160.body=true:=by kernel_rfl
theorem ok161:okB Tryz.f161.body=true:=by kernel_rfl
theorem ok162:okB Tryz.f162.body=true:=by kernel_rfl
theorem ok163:okB Tryz.f163.body=true:=by kernel_rfl
theorem ok164:okB Tryz.f164.body=true:=by kernel_rfl
theorem ok165:okB Tryz.f165.body=true:=by kernel_rfl
theorem ok166:okB Tryz.f166.body=true:=by kernel_rfl
theorem ok167:okB Tryz.f167.body=true:=by kernel_rfl
theorem ok168:okB Tryz.f168.body=true:=by kernel_rfl
theorem ok169:okB Tryz.f169.body=true:=by kernel_rfl
theorem ok170:okB Tryz.f170.body=true:=by kernel_rfl
theorem ok171:okB Tryz.f171.body=true:=by kernel_rfl
theorem ok172:okB Tryz.f172.body=true:=by kernel_rfl
theorem ok173:okB Tryz.f173.body=true:=by kernel_rfl
theorem ok174:okB Tryz.f174.body=true:=by kernel_rfl
theorem ok175:okB Tryz.f175.body=true:=by kernel_rfl
theorem ok176:okB Tryz.f176.body=true:=by kernel_rfl
theorem ok177:okB Tryz.f177.body=true:=by kernel_rfl
theorem ok178:okB Tryz.f178.body=true:=by kernel_rfl
theorem ok179:okB Tryz.f179.body=true:=by kernel_rfl
theorem ok180:okB Tryz.f180.body=true:=by kernel_rfl
theorem ok181:okB Tryz.f181.body=true:=by kernel_rfl
theorem ok182:okB Tryz.f182.body=true:=by kernel_rfl
theorem ok183:okB Tryz.f183.body=true:=by kernel_rfl
theorem ok184:okB Tryz.f184.body=true:=by kernel_rfl
theorem ok185:okB Tryz.f185.body=true:=by kernel_rfl
theorem ok186:okB Tryz.f186.body=true:=by kernel_rfl
theorem ok187:okB Tryz.f187.body=true:=by kernel_rfl
theorem ok188:okB Tryz.f188.body=true:=by kernel_rfl
theorem ok189:okB Tryz.f189.body=true:=by kernel_rfl
theorem ok190:okB Tryz.f190.body=true:=by kernel_rfl
theorem ok191:okB Tryz.f191.body=true:=by kernel_rfl
theorem ok192:okB Tryz.f192.body=true:=by kernel_rfl
theorem ok193:okB Tryz.f193.body=true:=by kernel_rfl
theorem ok194:okB Tryz.f194.body=true:=by kernel_rfl
theorem ok195:okB Tryz.f195.body=true:=by kernel_rfl
theorem ok196:okB Tryz.f196.body=true:=by kernel_rfl
theorem ok197:okB Tryz.f197.body=true:=by kernel_rfl
theorem ok198:okB Tryz.f198.body=true:=by kernel_rfl
theorem ok199:okB Tryz.f199.body=true:=by kernel_rfl
theorem ok200:okB Tryz.f200.body=true:=by kernel_rfl
theorem ok201:okB Tryz.f201.body=true:=by kernel_rfl
theorem ok202:okB Tryz.f202.body=true:=by kernel_rfl
theorem ok203:okB Tryz.f203.body=true:=by kernel_rfl
theorem ok204:okB Tryz.f204.body=true:=by kernel_rfl
theorem ok205:okB Tryz.f205.body=true:=by kernel_rfl
theorem ok206:okB Tryz.f206.body=true:=by kernel_rfl
theorem ok207:okB Tryz.f207.body=true:=by kernel_rfl
theorem ok208:okB Tryz.f208.body=true:=by kernel_rfl
theorem ok209:okB Tryz.f209.body=true:=by kernel_rfl
theorem ok210:okB Tryz.f210.body=true:=by kernel_rfl
theorem ok211:okB Tryz.f211.body=true:=by kernel_rfl
theorem ok212:okB Tryz.f212.body=true:=by kernel_rfl
theorem ok213:okB Tryz.f213.body=true:=by kernel_rfl
theorem ok214:okB Tryz.f214.body=true:=by kernel_rfl
theorem ok215:okB Tryz.f215.body=true:=by kernel_rfl
theorem ok216:okB Tryz.f216.body=true:=by kernel_rfl
theorem ok217:okB Tryz.f217.body=true:=by kernel_rfl
theorem ok218:okB Tryz.f218.body=true:=by kernel_rfl
theorem ok219:okB Tryz.f219.body=true:=by kernel_rfl
theorem ok220:okB Tryz.f220.body=true:=by kernel_rfl
theorem ok221:okB Tryz.f221.body=true:=by kernel_rfl
theorem ok222:okB Tryz.f222.body=true:=by kernel_rfl
theorem ok223:okB Tryz.f223.body=true:=by kernel_rfl
theorem ok224:okB Tryz.f224.body=true:=by kernel_rfl
theorem ok225:okB Tryz.f225.body=true:=by kernel_rfl
theorem ok226:okB Tryz.f226.body=true:=by kernel_rfl
theorem ok227:okB Tryz.f227.body=true:=by kernel_rfl
theorem ok228:okB Tryz.f228.body=true:=by kernel_rfl
theorem ok229:okB Tryz.f229.body=true:=by kernel_rfl
theorem ok230:okB Tryz.f230.body=true:=by kernel_rfl
theorem ok231:okB Tryz.f231.body=true:=by kernel_rfl
theorem ok232:okB Tryz.f232.body=true:=by kernel_rfl
theorem ok233:okB Tryz.f233.body=true:=by kernel_rfl
theorem ok234:okB Tryz.f234.body=true:=by kernel_rfl
theorem ok235:okB Tryz.f235.body=true:=by kernel_rfl
theorem ok236:okB Tryz.f236.body=true:=by kernel_rfl
theorem ok237:okB Tryz.f237.body=true:=by kernel_rfl
theorem ok238:okB Tryz.f238.body=true:=by kernel_rfl
theorem ok239:okB Tryz.f239.body=true:=by kernel_rfl
theorem ok240:okB Tryz.f240.body=true:=by kernel_rfl
theorem ok241:okB Tryz.f241.body=true:=by kernel_rfl
theorem ok242:okB Tryz.f242.body=true:=by kernel_rfl
theorem ok243:okB Tryz.f243.body=true:=by kernel_rfl
theorem ok244:okB Tryz.f244.body=true:=by kernel_rfl
theorem ok245:okB Tryz.f245.body=true:=by kernel_rfl
theorem ok246:okB Tryz.f246.body=true:=by kernel_rfl
theorem ok247:okB Tryz.f247.body=true:=by kernel_rfl
theorem ok248:okB Tryz.f248.body=true:=by kernel_rfl
theorem ok249:okB Tryz.f249.body=true:=by kernel_rfl
theorem ok250:okB Tryz.f250.body=true:=by kernel_rfl
theorem ok251:okB Tryz.f251.body=true:=by kernel_rfl
theorem ok252:okB Tryz.f252.body=true:=by kernel_rfl
theorem ok253:okB Tryz.f253.body=true:=by kernel_rfl
theorem ok254:okB Tryz.f254.body=true:=by kernel_rfl
theorem ok255:okB Tryz.f255.body=true:=by kernel_rfl
theorem ok256:okB Tryz.f256.body=true:=by kernel_rfl
theorem ok257:okB Tryz.f257.body=true:=by kernel_rfl
theorem ok258:okB Tryz.f258.body=true:=by kernel_rfl
theorem ok259:okB Tryz.f259.body=true:=by kernel_rfl
theorem ok260:okB Tryz.f260.body=true:=by kernel_rfl
theorem ok261:okB Tryz.f261.body=true:=by kernel_rfl
theorem ok262:okB Tryz.f262.body=true:=by kernel_rfl
theorem ok263:okB Tryz.f263.body=true:=by kernel_rfl
theorem ok264:okB Tryz.f264.body=true:=by kernel_rfl
theorem ok265:okB Tryz.f265.body=true:=by kernel_rfl
theorem ok266:okB Tryz.f266.body=true:=by kernel_rfl
theorem ok267:okB Tryz.f267.body=true:=by kernel_rfl
theorem ok268:okB Tryz.f268.body=true:=by kernel_rfl
theorem ok269:okB Tryz.f269.body=true:=by kernel_rfl
theorem ok270:okB Tryz.f270.body=true:=by kernel_rfl
theorem nm2:(Tryz.f2.name == "runtime.NumGoroutine")=false:=by kernel_rfl
theorem nm3:(Tryz.f3.name == "runtime.NumGoroutine")=false:=by kernel_rfl
theorem nm4:(Tryz.f4.name == "runtime.NumGoroutine")=false:=by kernel_rfl
theorem nm5:(Tryz.f5.name == "runtime.NumGoroutine")=false:=by kernel_rfl
theorem nm6:(Tryz.f6.name == "runtime.NumGoroutine")=false:=by kernel_rfl
theorem nm7:(Tryz.f7.name == "runtime.NumGoroutine")=false:=by kernel_rfl
theorem nm8:(Tryz.f8.name == "runtime.NumGoroutine")=false:=by kernel_rfl
theorem nm9:(Tryz.f9.name == "runtime.NumGoroutine")=false:=by kernel_rfl
theorem nm10:(Tryz.f10.name == "runtime.NumGoroutine")=false:=by kernel_rfl
theorem nm11:(Tryz.f11.name == "runtime.NumGoroutine")=false:=by kernel_rfl
theorem nm12:(Tryz.f12.name == "runtime.NumGoroutine")=false:=by kernel_rfl
theorem nm13:(Tryz.f13.name == "runtime.NumGoroutine")=false:=by kernel_rfl
theorem nm14:(Tryz.f14.name == "runtime.NumGoroutine")=false:=by kernel_rfl
theorem nm15:(Tryz.f15.name == "runtime.NumGoroutine")=false:=by kernel_rfl
theorem nm16:(Tryz.f16.name == "runtime.NumGoroutine")=false:=by kernel_rfl
theorem nm17:(Tryz.f17.name == "runtime.NumGoroutine")=false:=by kernel_rfl
theorem nm18:(Tryz.f18.name == "runtime.NumGoroutine")=false:=by kernel_rfl
theorem nm19:(Tryz.f19.name == "runtime.NumGoroutine")=false:=by kernel_rfl
theorem nm20:(Tryz.f20.name == "runtime.NumGoroutine")=false:=by kernel_rfl
theorem nm21:(Tryz.f21.name == "runtime.NumGoroutine")=false:=by kernel_rfl
theorem nm22:(Tryz.f22.name == "runtime.NumGoroutine")=false:=by kernel_rfl
theorem nm23:(Tryz.f23.name == "runtime.NumGoroutine")=false:=by kernel_rfl
theorem nm24:(Tryz.f24.name == "runtime.NumGoroutine")=false:=by kernel_rfl
theorem nm25:(Tryz.f25.name == "runtime.NumGoroutine")=false:=by kernel_rfl
theorem nm26:(Tryz.f26.name == "runtime.NumGoroutine")=false:=by kernel_rfl
theorem nm27:(Tryz.f27.name == "runtime.NumGoroutine")=false:=by kernel_rfl
theorem nm28:(Tryz.f28.name == "runtime.NumGoroutine")=false:=by kernel_rfl
theorem nm29:(Tryz.f29.name == "runtime.NumGoroutine")=false:=by kernel_rfl
theorem nm30:(Tryz.f30.name == "runtime.NumGoroutine")=false:=by kernel_rfl
theorem nm31:(Tryz.f31.name == "runtime.NumGoroutine")=false:=by kernel_rfl
theorem nm32:(Tryz.f32.name == "runtime.NumGoroutine")=false:=by kernel_rfl
theorem nm33:(Tryz.f33.name == "runtime.NumGoroutine")=false:=by kernel_rfl
theorem nm34:(Tryz.f34.name == "runtime.NumGoroutine")=false:=by kernel_rfl
theorem nm35:(Tryz.f35.name == "runtime.NumGoroutine")=false:=by kernel_rfl
theorem nm36:(Tryz.f36.name == "runtime.NumGoroutine")=false:=by kernel_rfl
theorem nm37:(Tryz.f37.name == "runtime.NumGoroutine")=false:=by kernel_rfl
theorem nm38:(Tryz.f38.name == "runtime.NumGoroutine")=false:=by kernel_rfl
theorem nm39:(Tryz.f39.name == "runtime.NumGoroutine")=false:=by kernel_rfl
theorem nm40:(Tryz.f40.name == "runtime.NumGoroutine")=false:=by kernel_rfl
theorem nm41:(Tryz.f41.name == "runtime.NumGoroutine")=false:=by kernel_rfl
theorem nm42:(Tryz.f42.name == "runtime.NumGoroutine")=false:=by kernel_rfl
theorem nm43:(Tryz.f43.name == "runtime.NumGoroutine")=false:=by kernel_rfl
theorem nm44:(Tryz.f44.name == "runtime.NumGoroutine")=false:=by kernel_rfl
theorem nm45:(Tryz.f45.name == "runtime.NumGoroutine")=false:=by kernel_rfl
theorem nm46:(Tryz.f46.name == "runtime.NumGoroutine")=false:=by kernel_rfl
theorem nm47:(Tryz.f47.name == "runtime.NumGoroutine")=false:=by kernel_rfl
theorem nm48:(Tryz.f48.name == "runtime.NumGoroutine")=false:=by kernel_rfl
theorem nm49:(Tryz.f49.name == "runtime.NumGoroutine")=false:=by kernel_rfl
theorem nm50:(Tryz.f50.name == "runtime.NumGoroutine")=false:=by kernel_rfl
theorem nm51:(Tryz.f51.name == "runtime.NumGoroutine")=false:=by kernel_rfl
theorem nm52:(Tryz.f52.name == "runtime.NumGoroutine")=false:=by kernel_rfl
theorem nm53:(Tryz.f53.name == "runtime.NumGoroutine")=false:=by kernel_rfl
theorem nm54:(Tryz.f54.name == "runtime.NumGoroutine")=false:=by kernel_rfl
theorem nm55:(Tryz.f55.name == "runtime.NumGoroutine")=false:=by kernel_rfl
theorem nm56:(Tryz.f56.name == "runtime.NumGoroutine")=false:=by kernel_rfl
theorem nm57:(Tryz.f57.name == "runtime.NumGoroutine")=false:=by kernel_rfl
theorem nm58:(Tryz.f58.name == "runtime.NumGoroutine")=false:=by kernel_rfl
theorem nm59:(Tryz.f59.name == "runtime.NumGoroutine")=false:=by kernel_rfl
theorem nm60:(Tryz.f60.name == "runtime.NumGoroutine")=false:=by kernel_rfl
theorem nm61:(Tryz.f61.name == "runtime.NumGoroutine")=false:=by kernel_rfl
theorem nm62:(Tryz.f62.name == "runtime.NumGoroutine")=false:=by kernel_rfl
theorem nm63:(Tryz.f63.name == "runtime.NumGoroutine")=false:=by kernel_rfl
theorem nm64:(Tryz.f64.name == "runtime.NumGoroutine")=false:=by kernel_rfl
theorem nm65:(Tryz.f65.name == "runtime.NumGoroutine")=false:=by kernel_rfl
theorem nm66:(Tryz.f66.name == "runtime.NumGoroutine")=false:=by kernel_rfl
theorem nm67:(Tryz.f67.name == "runtime.NumGoroutine")=false:=by kernel_rfl
theorem nm68:(Tryz.f68.name == "runtime.NumGoroutine")=false:=by kernel_rfl
theorem nm69:(Tryz.f69.name == "runtime.NumGoroutine")=false:=by kernel_rfl
theorem nm70:(Tryz.f70.name == "runtime.NumGoroutine")=false:=by kernel_rfl
theorem nm71:(Tryz.f71.name == "runtime.NumGoroutine")=false:=by kernel_rfl
theorem nm72:(Tryz.f72.name == "runtime.NumGoroutine")=false:=by kernel_rfl
theorem nm73:(Tryz.f73.name == "runtime.NumGoroutine")=false:=by kernel_rfl
theorem nm74:(Tryz.f74.name == "runtime.NumGoroutine")=false:=by kernel_rfl
theorem nm75:(Tryz.f75.name == "runtime.NumGoroutine")=false:=by kernel_rfl
theorem nm76:(Tryz.f76.name == "runtime.NumGoroutine")=false:=by kernel_rfl
theorem nm77:(Tryz.f77.name == "runtime.NumGoroutine")=false:=by kernel_rfl
theorem nm78:(Tryz.f78.name == "runtime.NumGoroutine")=false:=by kernel_rfl
theorem nm79:(Tryz.f79.name == "runtime.NumGoroutine")=false:=by kernel_rfl
theorem nm80:(Tryz.f80.name == "runtime.NumGoroutine")=false:=by kernel_rfl
theorem nm81:(Tryz.f81.name == "runtime.NumGoroutine")=false:=by kernel_rfl
theorem nm82:(Tryz.f82.name == "runtime.NumGoroutine")=false:=by kernel_rfl
theorem nm83:(Tryz.f83.name == "runtime.NumGoroutine")=false:=by kernel_rfl
theorem nm84:(Tryz.f84.name == "runtime.NumGoroutine")=false:=by kernel_rfl
theorem nm85:(Tryz.f85.name == "runtime.NumGoroutine")=false:=by kernel_rfl
theorem nm86:(Tryz.f86.name == "runtime.NumGoroutine")=false:=by kernel_rfl
theorem nm87:(Tryz.f87.name == "runtime.NumGoroutine")=false:=by kernel_rfl
theorem nm88:(Tryz.f88.name == "runtime.NumGoroutine")=false:=by kernel_rfl
theorem nm89:(Tryz.f89.name == "runtime.NumGoroutine")=false:=by kernel_rfl
theorem nm90:(Tryz.f90.name == "runtime.NumGoroutine")=false:=by kernel_rfl
theorem nm91:(Tryz.f91.name == "runtime.NumGoroutine")=false:=by kernel_rfl
theorem nm92:(Tryz.f92.name == "runtime.NumGoroutine")=false:=by kernel_rfl
theorem nm93:(Tryz.f93.name == "runtime.NumGoroutine")=false:=by kernel_rfl
theorem nm94:(Tryz.f94.name == "runtime.NumGoroutine")=false:=by kernel_rfl
theorem nm95:(Tryz.f95.name == "runtime.NumGoroutine")=false:=by kernel_rfl
theorem nm96:(Tryz.f96.name == "runtime.NumGoroutine")=false:=by kernel_rfl
theorem nm97:(Tryz.f97.name == "runtime.NumGoroutine")=false:=by kernel_rfl
theorem nm98:(Tryz.f98.name == "runtime.NumGoroutine")=false:=by kernel_rfl
theorem nm99:(Tryz.f99.name == "runtime.NumGoroutine")=false:=by kernel_rfl
theorem nm100:(Tryz.f100.name == "runtime.NumGoroutine")=false:=by kernel_rfl
theorem nm101:(Tryz.f101.name == "runtime.NumGoroutine")=false:=by kernel_rfl
theorem nm102:(Tryz.f102.name == "runtime.NumGoroutine")=false:=by kernel_rfl
theorem nm103:(Tryz.f103.name == "runtime.NumGoroutine")=false:=by kernel_rfl
theorem nm104:(Tryz.f104.name == "runtime.NumGoroutine")=false:=by kernel_rfl
theorem nm105:(Tryz.f105.name == "runtime.NumGoroutine")=false:=by kernel_rfl
theorem nm106:(Tryz.f106.name == "runtime.NumGoroutine")=false:=by kernel_rfl
theorem nm107:(Tryz.f107.name == "runtime.NumGoroutine")=false:=by kernel_rfl
theorem nm108:(Tryz.f108.name == "runtime.NumGoroutine")=false:=by kernel_rfl
theorem nm109:(Tryz.f109.name == "runtime.NumGoroutine")=false:=by kernel_rfl
theorem nm110:(Tryz.f110.name == "runtime.NumGoroutine")=false:=by kernel_rfl
theorem nm111:(Tryz.f111.name == "runtime.NumGoroutine")=false:=by kernel_rfl
theorem nm112:(Tryz.f112.name == "runtime.NumGoroutine")=false:=by kernel_rfl
theorem nm113:(Tryz.f113.name == "runtime.NumGoroutine")=false:=by kernel_rfl
theorem nm114:(Tryz.f114.name == "runtime.NumGoroutine")=false:=by kernel_rfl
theorem nm115:(Tryz.f115.name == "runtime.NumGoroutine")=false:=by kernel_rfl
theorem nm116:(Tryz.f116.name == "runtime.NumGoroutine")=false:=by kernel_rfl
theorem nm117:(Tryz.f117.name == "runtime.NumGoroutine")=false:=by kernel_rfl
theorem nm118:(Tryz.f118.name == "runtime.NumGoroutine")=false:=by kernel_rfl
theorem nm119:(Tryz.f119.name == "runtime.NumGoroutine")=false:=by kernel_rfl
theorem nm120:(Tryz.f120.name == "runtime.NumGoroutine")=false:=by kernel_rfl
theorem nm121:(Tryz.f121.name == "runtime.NumGoroutine")=false:=by kernel_rfl
theorem nm122:(Tryz.f122.name == "runtime.NumGoroutine")=false:=by kernel_rfl
theorem nm123:(Tryz.f123.name == "runtime.NumGoroutine")=false:=by kernel_rfl
theorem nm124:(Tryz.f124.name == "runtime.NumGoroutine")=false:=by kernel_rfl
theorem nm125:(Tryz.f125.name == "runtime.NumGoroutine")=false:=by kernel_rfl
theorem nm126:(Tryz.f126.name == "runtime.NumGoroutine")=false:=by kernel_rfl
theorem nm127:(Tryz.f127.name == "runtime.NumGoroutine")=false:=by kernel_rfl
theorem nm128:(Tryz.f128.name == "runtime.NumGoroutine")=false:=by kernel_rfl
theorem nm129:(Tryz.f129.name == "runtime.NumGoroutine")=false:=by kernel_rfl
theorem nm130:(Tryz.f130.name == "runtime.NumGoroutine")=false:=by kernel_rfl
theorem nm131:(Tryz.f131.name == "runtime.NumGoroutine")=false:=by kernel_rfl
theorem nm132:(Tryz.f132.name == "runtime.NumGoroutine")=false:=by kernel_rfl
theorem nm133:(Tryz.f133.name == "runtime.NumGoroutine")=false:=by kernel_rfl
theorem nm134:(Tryz.f134.name == "runtime.NumGoroutine")=false:=by kernel_rfl
theorem nm135:(Tryz.f135.name == "runtime.NumGoroutine")=false:=by kernel_rfl
theorem nm136:(Tryz.f136.name == "runtime.NumGoroutine")=false:=by kernel_rfl
theorem nm137:(Tryz.f137.name == "runtime.NumGoroutine")=false:=by kernel_rfl
theorem nm138:(Tryz.f138.name == "runtime.NumGoroutine")=false:=by kernel_rfl
theorem nm139:(Tryz.f139.name == "runtime.NumGoroutine")=false:=by kernel_rfl
theorem nm140:(Tryz.f140.name == "runtime.NumGoroutine")=false:=by kernel_rfl
theorem nm141:(Tryz.f141.name == "runtime.NumGoroutine")=false:=by kernel_rfl
theorem nm142:(Tryz.f142.name == "runtime.NumGoroutine")=false:=by kernel_rfl
theorem nm143:(Tryz.f143.name == "runtime.NumGoroutine")=false:=by kernel_rfl
theorem nm144:(Tryz.f144.name == "runtime.NumGoroutine")=false:=by kernel_rfl
theorem nm145:(Tryz.f145.name == "runtime.NumGoroutine")=false:=by kernel_rfl
theorem nm146:(Tryz.f146.name == "runtime.NumGoroutine")=false:=by kernel_rfl
theorem nm147:(Tryz.f147.name == "runtime.NumGoroutine")=false:=by kernel_rfl
theorem nm148:(Tryz.f148.name == "runtime.NumGoroutine")=false:=by kernel_rfl
theorem nm149:(Tryz.f149.name == "runtime.NumGoroutine")=false:=by kernel_rfl
theorem nm150:(Tryz.f150.name == "runtime.NumGoroutine")=false:=by kernel_rfl
theorem nm151:(Tryz.f151.name == "runtime.NumGoroutine")=false:=by kernel_rfl
theorem nm152:(Tryz.f152.name == "runtime.NumGoroutine")=false:=by kernel_rfl
theorem nm153:(Tryz.f153.name == "runtime.NumGoroutine")=false:=by kernel_rfl
theorem nm154:(Tryz.f154.name == "runtime.NumGoroutine")=false:=by kernel_rfl
theorem nm155:(Tryz.f155.name == "runtime.NumGoroutine")=false:=by kernel_rfl
theorem nm156:(Tryz.f156.name == "runtime.NumGoroutine")=false:=by kernel_rfl
theorem nm157:(Tryz.f157.name == "runtime.NumGoroutine")=false:=by kernel_rfl
theorem nm158:(Tryz.f158.name == "runtime.NumGoroutine")=false:=by kernel_rfl
theorem nm159:(Tryz.f159.name == "runtime.NumGoroutine")=false:=by kernel_rfl
theorem nm160:(Tryz.f160.name == "runtime.NumGoroutine")=false:=by kernel_rfl
theorem nm161:(Tryz.f161.name == "runtime.NumGoroutine")=false:=by kernel_rfl
theorem nm162:(Tryz.f162.name == "runtime.NumGoroutine")=false:=by kernel_rfl
theorem nm163:(Tryz.f163.name == "runtime.NumGoroutine")=false:=by kernel_rfl
theorem nm164:(Tryz.f164.name == "runtime.NumGoroutine")=false:=by kernel_rfl
theorem nm165:(Tryz.f165.name == "runtime.NumGoroutine")=false:=by kernel_rfl
theorem nm166:(Tryz.f166.name == "runtime.NumGoroutine")=false:=by kernel_rfl
theorem nm167:(Tryz.f167.name == "runtime.NumGoroutine")=false:=by kernel_rfl
theorem nm168:(Tryz.f168.name == "runtime.NumGoroutine")=false:=by kernel_rfl
theorem nm169:(Tryz.f169.name == "runtime.NumGoroutine")=false:=by kernel_rfl
theorem nm170:(Tryz.f170.name == "runtime.NumGoroutine")=false:=by kernel_rfl
theorem nm171:(Tryz.f171.name == "runtime.NumGoroutine")=false:=by kernel_rfl
theorem nm172:(Tryz.f172.name == "runtime.NumGoroutine")=false:=by kernel_rfl
theorem nm173:(Tryz.f173.name == "runtime.NumGoroutine")=false:=by kernel_rfl
theorem nm174:(Tryz.f174.name == "runtime.NumGoroutine")=false:=by kernel_rfl
theorem nm175:(Tryz.f175.name == "runtime.NumGoroutine")=false:=by kernel_rfl
theorem nm176:(Tryz.f176.name == "runtime.NumGoroutine")=false:=by kernel_rfl
theorem nm177:(Tryz.f177.name == "runtime.NumGoroutine")=false:=by kernel_rfl
theorem nm178:(Tryz.f178.name == "runtime.NumGoroutine")=false:=by kernel_rfl
theorem nm179:(Tryz.f179.name == "runtime.NumGoroutine")=false:=by kernel_rfl
theorem nm180:(Tryz.f180.name == "runtime.NumGoroutine")=false:=by kernel_rfl
theorem nm181:(Tryz.f181.name == "runtime.NumGoroutine")=false:=by kernel_rfl
theorem nm182:(Tryz.f182.name == "runtime.NumGoroutine")=false:=by kernel_rfl
theorem nm183:(Tryz.f183.name == "runtime.NumGoroutine")=false:=by kernel_rfl
theorem nm184:(Tryz.f184.name == "runtime.NumGoroutine")=false:=by kernel_rfl
theorem nm185:(Tryz.f185.name == "runtime.NumGoroutine")=false:=by kernel_rfl
theorem nm186:(Tryz.f186.name == "runtime.NumGoroutine")=false:=by kernel_rfl
theorem nm187:(Tryz.f187.name == "runtime.NumGoroutine")=false:=by kernel_rfl
theorem nm188:(Tryz.f188.name == "runtime.NumGoroutine")=false:=by kernel_rfl
theorem nm189:(Tryz.f189.name == "runtime.NumGoroutine")=false:=by kernel_rfl
theorem nm190:(Tryz.f190.name == "runtime.NumGoroutine")=false:=by kernel_rfl
theorem nm191:(Tryz.f191.name == "runtime.NumGoroutine")=false:=by kernel_rfl
theorem nm192:(Tryz.f192.name == "runtime.NumGoroutine")=false:=by kernel_rfl
theorem nm193:(Tryz.f193.name == "runtime.NumGoroutine")=false:=by kernel_rfl
theorem nm194:(Tryz.f194.name == "runtime.NumGoroutine")=false:=by kernel_rfl
theorem nm195:(Tryz.f195.name == "runtime.NumGoroutine")=false:=by kernel_rfl
theorem nm196:(Tryz.f196.name == "runtime.NumGoroutine")=false:=by kernel_rfl
theorem nm197:(Tryz.f197.name == "runtime.NumGoroutine")=false:=by kernel_rfl
theorem nm198:(Tryz.f198.name == "runtime.NumGoroutine")=false:=by kernel_rfl
theorem nm199:(Tryz.f199.name == "runtime.NumGoroutine")=false:=by kernel_rfl
theorem nm200:(Tryz.f200.name == "runtime.NumGoroutine")=false:=by kernel_rfl
theorem nm201:(Tryz.f201.name == "runtime.NumGoroutine")=false:=by kernel_rfl
theorem nm202:(Tryz.f202.name == "runtime.NumGoroutine")=false:=by kernel_rfl
theorem nm203:(Tryz.f203.name == "runtime.NumGoroutine")=false:=by kernel_rfl
theorem nm204:(Tryz.f204.name == "runtime.NumGoroutine")=false:=by kernel_rfl
theorem nm205:(Tryz.f205.name == "runtime.NumGoroutine")=false:=by kernel_rfl
theorem nm206:(Tryz.f206.name == "runtime.NumGoroutine")=false:=by kernel_rfl
theorem nm207:(Tryz.f207.name == "runtime.NumGoroutine")=false:=by kernel_rfl
theorem nm208:(Tryz.f208.name == "runtime.NumGoroutine")=false:=by kernel_rfl
theorem nm209:(Tryz.f209.name == "runtime.NumGoroutine")=false:=by kernel_rfl
theorem nm210:(Tryz.f210.name == "runtime.NumGoroutine")=false:=by kernel_rfl
theorem nm211:(Tryz.f211.name == "runtime.NumGoroutine")=false:=by kernel_rfl
theorem nm212:(Tryz.f212.name == "runtime.NumGoroutine")=false:=by kernel_rfl
theorem nm213:(Tryz.f213.name == "runtime.NumGoroutine")=false:=by kernel_rfl
theorem nm214:(Tryz.f214.name == "runtime.NumGoroutine")=false:=by kernel_rfl
theorem nm215:(Tryz.f215.name == "runtime.NumGoroutine")=false:=by kernel_rfl
theorem nm216:(Tryz.f216.name == "runtime.NumGoroutine")=false:=by kernel_rfl
theorem nm217:(Tryz.f217.name == "runtime.NumGoroutine")=false:=by kernel_rfl
theorem nm218:(Tryz.f218.name == "runtime.NumGoroutine")=false:=by kernel_rfl
theorem nm219:(Tryz.f219.name == "runtime.NumGoroutine")=false:=by kernel_rfl
theorem nm220:(Tryz.f220.name == "runtime.NumGoroutine")=false:=by kernel_rfl
theorem nm221:(Tryz.f221.name == "runtime.NumGoroutine")=false:=by kernel_rfl
theorem nm222:(Tryz.f222.name == "runtime.NumGoroutine")=false:=by kernel_rfl
theorem nm223:(Tryz.f223.name == "runtime.NumGoroutine")=false:=by kernel_rfl
theorem nm224:(Tryz.f224.name == "runtime.NumGoroutine")=false:=by kernel_rfl
theorem nm225:(Tryz.f225.name == "runtime.NumGoroutine")=false:=by kernel_rfl
theorem nm226:(Tryz.f226.name == "runtime.NumGoroutine")=false:=by kernel_rfl
theorem nm227:(Tryz.f227.name == "runtime.NumGoroutine")=false:=by kernel_rfl
theorem nm228:(Tryz.f228.name == "runtime.NumGoroutine")=false:=by kernel_rfl
theorem nm229:(Tryz.f229.name == "runtime.NumGoroutine")=false:=by kernel_rfl
theorem nm230:(Tryz.f230.name == "runtime.NumGoroutine")=false:=by kernel_rfl
theorem nm231:(Tryz.f231.name == "runtime.NumGoroutine")=false:=by kernel_rfl
theorem nm232:(Tryz.f232.name == "runtime.NumGoroutine")=false:=by kernel_rfl
theorem nm233:(Tryz.f233.name == "runtime.NumGoroutine")=false:=by kernel_rfl
theorem nm234:(Tryz.f234.name == "runtime.NumGoroutine")=false:=by kernel_rfl
theorem nm235:(Tryz.f235.name == "runtime.NumGoroutine")=false:=by kernel_rfl
theorem nm236:(Tryz.f236.name == "runtime.NumGoroutine")=false:=by kernel_rfl
theorem nm237:(Tryz.f237.name == "runtime.NumGoroutine")=false:=by kernel_rfl
theorem nm238:(Tryz.f238.name == "runtime.NumGoroutine")=false:=by kernel_rfl
theorem nm239:(Tryz.f239.name == "runtime.NumGoroutine")=false:=by kernel_rfl
theorem nm240:(Tryz.f240.name == "runtime.NumGoroutine")=false:=by kernel_rfl
theorem nm241:(Tryz.f241.name == "runtime.NumGoroutine")=false:=by kernel_rfl
theorem nm242:(Tryz.f242.name == "runtime.NumGoroutine")=false:=by kernel_rfl
theorem nm243:(Tryz.f243.name == "runtime.NumGoroutine")=false:=by kernel_rfl
theorem nm244:(Tryz.f244.name == "runtime.NumGoroutine")=false:=by kernel_rfl
theorem nm245:(Tryz.f245.name == "runtime.NumGoroutine")=false:=by kernel_rfl
theorem nm246:(Tryz.f246.name == "runtime.NumGoroutine")=false:=by kernel_rfl
theorem nm247:(Tryz.f247.name == "runtime.NumGoroutine")=false:=by kernel_rfl
theorem nm248:(Tryz.f248.name == "runtime.NumGoroutine")=false:=by kernel_rfl
theorem nm249:(Tryz.f249.name == "runtime.NumGoroutine")=false:=by kernel_rfl
theorem nm250:(Tryz.f250.name == "runtime.NumGoroutine")=false:=by kernel_rfl
theorem nm251:(Tryz.f251.name == "runtime.NumGoroutine")=false:=by kernel_rfl
theorem nm252:(Tryz.f252.name == "runtime.NumGoroutine")=false:=by kernel_rfl
theorem nm253:(Tryz.f253.name == "runtime.NumGoroutine")=false:=by kernel_rfl
theorem nm254:(Tryz.f254.name == "runtime.NumGoroutine")=false:=by kernel_rfl
theorem nm255:(Tryz.f255.name == "runtime.NumGoroutine")=false:=by kernel_rfl
theorem nm256:(Tryz.f256.name == "runtime.NumGoroutine")=false:=by kernel_rfl
theorem nm257:(Tryz.f257.name == "runtime.NumGoroutine")=false:=by kernel_rfl
theorem nm258:(Tryz.f258.name == "runtime.NumGoroutine")=false:=by kernel_rfl
theorem nm259:(Tryz.f259.name == "runtime.NumGoroutine")=false:=by kernel_rfl
theorem nm260:(Tryz.f260.name == "runtime.NumGoroutine")=false:=by kernel_rfl
theorem nm261:(Tryz.f261.name == "runtime.NumGoroutine")=false:=by kernel_rfl
theorem nm262:(Tryz.f262.name == "runtime.NumGoroutine")=false:=by kernel_rfl
theorem nm263:(Tryz.f263.name == "runtime.NumGoroutine")=false:=by kernel_rfl
theorem nm264:(Tryz.f264.name == "runtime.NumGoroutine")=false:=by kernel_rfl
theorem nm265:(Tryz.f265.name == "runtime.NumGoroutine")=false:=by kernel_rfl
theorem nm266:(Tryz.f266.name == "runtime.NumGoroutine")=false:=by kernel_rfl
theorem nm267:(Tryz.f267.name == "runtime.NumGoroutine")=false:=by kernel_rfl
theorem nm268:(Tryz.f268.name == "runtime.NumGoroutine")=false:=by kernel_rfl
theorem nm269:(Tryz.f269.name == "runtime.NumGoroutine")=false:=by kernel_rfl
theorem nm270:(Tryz.f270.name == "runtime.NumGoroutine")=false:=by kernel_rfl
theorem Ua:Bc (Hj Tryz.prog) fnT0:=(.AB (AM Tryz.func18 nm18 ok18) (.AB (AM Tryz.func10 nm10 ok10) (.AB (AM Tryz.func6 nm6 ok6) (.AB (AM Tryz.func4 nm4 ok4) (.AB (AM Tryz.func3 nm3 ok3) (.AB (AM Tryz.func2 nm2 ok2) .AA .AA) .AA) (.AB (AM Tryz.func5 nm5 ok5) .AA .AA)) (.AB (AM Tryz.func8 nm8 ok8) (.AB (AM Tryz.func7 nm7 ok7) .AA .AA) (.AB (AM Tryz.func9 nm9 ok9) .AA .AA))) (.AB (AM Tryz.func14 nm14 ok14) (.AB (AM Tryz.func12 nm12 ok12) (.AB (AM Tryz.func11 nm11 ok11) .AA .AA) (.AB (AM Tryz.func13 nm13 ok13) .AA .AA)) (.AB (AM Tryz.func16 nm16 ok16) (.AB (AM Tryz.func15 nm15 ok15) .AA .AA) (.AB (AM Tryz.func17 nm17 ok17) .AA .AA)))) (.AB (AM Tryz.func27 nm27 ok27) (.AB (AM Tryz.func23 nm23 ok23) (.AB (AM Tryz.func21 nm21 ok21) (.AB (AM Tryz.func20 nm20 ok20) (.AB (AM Tryz.func19 nm19 ok19) .AA .AA) .AA) (.AB (AM Tryz.func22 nm22 ok22) .AA .AA)) (.AB (AM Tryz.func25 nm25 ok25) (.AB (AM Tryz.func24 nm24 ok24) .AA .AA) (.AB (AM Tryz.func26 nm26 ok26) .AA .AA))) (.AB (AM Tryz.func31 nm31 ok31) (.AB (AM Tryz.func29 nm29 ok29) (.AB (AM Tryz.func28 nm28 ok28) .AA .AA) (.AB (AM Tryz.func30 nm30 ok30) .AA .AA)) (.AB (AM Tryz.func33 nm33 ok33) (.AB (AM Tryz.func32 nm32 ok32) .AA .AA) (.AB (AM Tryz.func34 nm34 ok34) .AA .AA)))))
theorem Ub:Bc (Hj Tryz.prog) fnT1:=(.AB (AM Tryz.func52 nm52 ok52) (.AB (AM Tryz.func44 nm44 ok44) (.AB (AM Tryz.func40 nm40 ok40) (.AB (AM Tryz.func38 nm38 ok38) (.AB (AM Tryz.func37 nm37 ok37) (.AB (AM Tryz.func36 nm36 ok36) .AA .AA) .AA) (.AB (AM Tryz.func39 nm39 ok39) .AA .AA)) (.AB (AM Tryz.func42 nm42 ok42) (.AB (AM Tryz.func41 nm41 ok41) .AA .AA) (.AB (AM Tryz.func43 nm43 ok43) .AA .AA))) (.AB (AM Tryz.func48 nm48 ok48) (.AB (AM Tryz.func46 nm46 ok46) (.AB (AM Tryz.func45 nm45 ok45) .AA .AA) (.AB (AM Tryz.func47 nm47 ok47) .AA .AA)) (.AB (AM Tryz.func50 nm50 ok50) (.AB (AM Tryz.func49 nm49 ok49) .AA .AA) (.AB (AM Tryz.func51 nm51 ok51) .AA .AA)))) (.AB (AM Tryz.func61 nm61 ok61) (.AB (AM Tryz.func57 nm57 ok57) (.AB (AM Tryz.func55 nm55 ok55) (.AB (AM Tryz.func54 nm54 ok54) (.AB (AM Tryz.func53 nm53 ok53) .AA .AA) .AA) (.AB (AM Tryz.func56 nm56 ok56) .AA .AA)) (.AB (AM Tryz.func59 nm59 ok59) (.AB (AM Tryz.func58 nm58 ok58) .AA .AA) (.AB (AM Tryz.func60 nm60 ok60) .AA .AA))) (.AB (AM Tryz.func65 nm65 ok65) (.AB (AM Tryz.func63 nm63 ok63) (.AB (AM Tryz.func62 nm62 ok62) .AA .AA) (.AB (AM Tryz.func64 nm64 ok64) .AA .AA)) (.AB (AM Tryz.func67 nm67 ok67) (.AB (AM Tryz.func66 nm66 ok66) .AA .AA) (.AB (AM Tryz.func68 nm68 ok68) .AA .AA)))))
theorem Uc:Bc (Hj Tryz.prog) fnT2:=(.AB (AM Tryz.func86 nm86 ok86) (.AB (AM Tryz.func78 nm78 ok78) (.AB (AM Tryz.func74 nm74 ok74) (.AB (AM Tryz.func72 nm72 ok72) (.AB (AM Tryz.func71 nm71 ok71) (.AB (AM Tryz.func70 nm70 ok70) .AA .AA) .AA) (.AB (AM Tryz.func73 nm73 ok73) .AA .AA)) (.AB (AM Tryz.func76 nm76 ok76) (.AB (AM Tryz.func75 nm75 ok75) .AA .AA) (.AB (AM Tryz.func77 nm77 ok77) .AA .AA))) (.AB (AM Tryz.func82 nm82 ok82) (.AB (AM Tryz.func80 nm80 ok80) (.AB (AM Tryz.func79 nm79 ok79) .AA .AA) (.AB (AM Tryz.func81 nm81 ok81) .AA .AA)) (.AB (AM Tryz.func84 nm84 ok84) (.AB (AM Tryz.func83 nm83 ok83) .AA .AA) (.AB (AM Tryz.func85 nm85 ok85) .AA .AA)))) (.AB (AM Tryz.func95 nm95 ok95) (.AB (AM Tryz.func91 nm91 ok91) (.AB (AM Tryz.func89 nm89 ok89) (.AB (AM Tryz.func88 nm88 ok88) (.AB (AM Tryz.func87 nm87 ok87) .AA .AA) .AA) (.AB (AM Tryz.func90 nm90 ok90) .AA .AA)) (.AB (AM Tryz.func93 nm93 ok93) (.AB (AM Tryz.func92 nm92 ok92) .AA .AA) (.AB (AM Tryz.func94 nm94 ok94) .AA .AA))) (.AB (AM Tryz.func99 nm99 ok99) (.AB (AM Tryz.func97 nm97 ok97) (.AB (AM Tryz.func96 nm96 ok96) .AA .AA) (.AB (AM Tryz.func98 nm98 ok98) .AA .AA)) (.AB (AM Tryz.func101 nm101 ok101) (.AB (AM Tryz.func100 nm100 ok100) .AA .AA) (.AB (AM Tryz.func102 nm102 ok102) .AA .AA)))))
theorem Ud:Bc (Hj Tryz.prog) fnT3:=(.AB (AM Tryz.func120 nm120 ok120) (.AB (AM Tryz.func112 nm112 ok112) (.AB (AM Tryz.func108 nm108 ok108) (.AB (AM Tryz.func106 nm106 ok106) (.AB (AM Tryz.func105 nm105 ok105) (.AB (AM Tryz.func104 nm104 ok104) .AA .AA) .AA) (.AB (AM Tryz.func107 nm107 ok107) .AA .AA)) (.AB (AM Tryz.func110 nm110 ok110) (.AB (AM Tryz.func109 nm109 ok109) .AA .AA) (.AB (AM Tryz.func111 nm111 ok111) .AA .AA))) (.AB (AM Tryz.func116 nm116 ok116) (.AB (AM Tryz.func114 nm114 ok114) (.AB (AM Tryz.func113 nm113 ok113) .AA .AA) (.AB (AM Tryz.func115 nm115 ok115) .AA .AA)) (.AB (AM Tryz.func118 nm118 ok118) (.AB (AM Tryz.func117 nm117 ok117) .AA .AA) (.AB (AM Tryz.func119 nm119 ok119) .AA .AA)))) (.AB (AM Tryz.func128 nm128 ok128) (.AB (AM Tryz.func124 nm124 ok124) (.AB (AM Tryz.func122 nm122 ok122) (.AB (AM Tryz.func121 nm121 ok121) .AA .AA) (.AB (AM Tryz.func123 nm123 ok123) .AA .AA)) (.AB (AM Tryz.func126 nm126 ok126) (.AB (AM Tryz.func125 nm125 ok125) .AA .AA) (.AB (AM Tryz.func127 nm127 ok127) .AA .AA))) (.AB (AM Tryz.func132 nm132 ok132) (.AB (AM Tryz.func130 nm130 ok130) (.AB (AM Tryz.func129 nm129 ok129) .AA .AA) (.AB (AM Tryz.func131 nm131 ok131) .AA .AA)) (.AB (AM Tryz.func134 nm134 ok134) (.AB (AM Tryz.func133 nm133 ok133) .AA .AA) (.AB (AM Tryz.func135 nm135 ok135) .AA .AA)))))
theorem Ue:Bc (Hj Tryz.prog) fnT4:=(.AB (AM Tryz.func153 nm153 ok153) (.AB (AM Tryz.func145 nm145 ok145) (.AB (AM Tryz.func141 nm141 ok141) (.AB (AM Tryz.func139 nm139 ok139) (.AB (AM Tryz.func138 nm138 ok138) (.AB (AM Tryz.func137 nm137 ok137) .AA .AA) .AA) (.AB (AM Tryz.func140 nm140 ok140) .AA .AA)) (.AB (AM Tryz.func143 nm143 ok143) (.AB (AM Tryz.func142 nm142 ok142) .AA .AA) (.AB (AM Tryz.func144 nm144 ok144) .AA .AA))) (.AB (AM Tryz.func149 nm149 ok149) (.AB (AM Tryz.func147 nm147 ok147) (.AB (AM Tryz.func146 nm146 ok146) .AA .AA) (.AB (AM Tryz.func148 nm148 ok148) .AA .AA)) (.AB (AM Tryz.func151 nm151 ok151) (.AB (AM Tryz.func150 nm150 ok150) .AA .AA) (.AB (AM Tryz.func152 nm152 ok152) .AA .AA)))) (.AB (AM Tryz.func162 nm162 ok162) (.AB (AM Tryz.func158 nm158 ok158) (.AB (AM Tryz.func156 nm156 ok156) (.AB (AM Tryz.func155 nm155 ok155) (.AB (AM Tryz.func154 nm154 ok154) .AA .AA) .AA) (.AB (AM Tryz.func157 nm157 ok157) .AA .AA)) (.AB (AM Tryz.func160 nm160 ok160) (.AB (AM Tryz.func159 nm159 ok159) .AA .AA) (.AB (AM Tryz.func161 nm161 ok161) .AA .AA))) (.AB (AM Tryz.func166 nm166 ok166) (.AB (AM Tryz.func164 nm164 ok164) (.AB (AM Tryz.func163 nm163 ok163) .AA .AA) (.AB (AM Tryz.func165 nm165 ok165) .AA .AA)) (.AB (AM Tryz.func168 nm168 ok168) (.AB (AM Tryz.func167 nm167 ok167) .AA .AA) (.AB (AM Tryz.func169 nm169 ok169) .AA .AA)))))
theorem Uf:Bc (Hj Tryz.prog) fnT5:=(.AB (AM Tryz.func187 nm187 ok187) (.AB (AM Tryz.func179 nm179 ok179) (.AB (AM Tryz.func175 nm175 ok175) (.AB (AM Tryz.func173 nm173 ok173) (.AB (AM Tryz.func172 nm172 ok172) (.AB (AM Tryz.func171 nm171 ok171) .AA .AA) .AA) (.AB (AM Tryz.func174 nm174 ok174) .AA .AA)) (.AB (AM Tryz.func177 nm177 ok177) (.AB (AM Tryz.func176 nm176 ok176) .AA .AA) (.AB (AM Tryz.func178 nm178 ok178) .AA .AA))) (.AB (AM Tryz.func183 nm183 ok183) (.AB (AM Tryz.func181 nm181 ok181) (.AB (AM Tryz.func180 nm180 ok180) .AA .AA) (.AB (AM Tryz.func182 nm182 ok182) .AA .AA)) (.AB (AM Tryz.func185 nm185 ok185) (.AB (AM Tryz.func184 nm184 ok184) .AA .AA) (.AB (AM Tryz.func186 nm186 ok186) .AA .AA)))) (.AB (AM Tryz.func196 nm196 ok196) (.AB (AM Tryz.func192 nm192 ok192) (.AB (AM Tryz.func190 nm190 ok190) (.AB (AM Tryz.func189 nm189 ok189) (.AB (AM Tryz.func188 nm188 ok188) .AA .AA) .AA) (.AB (AM Tryz.func191 nm191 ok191) .AA .AA)) (.AB (AM Tryz.func194 nm194 ok194) (.AB (AM Tryz.func193 nm193 ok193) .AA .AA) (.AB (AM Tryz.func195 nm195 ok195) .AA .AA))) (.AB (AM Tryz.func200 nm200 ok200) (.AB (AM Tryz.func198 nm198 ok198) (.AB (AM Tryz.func197 nm197 ok197) .AA .AA) (.AB (AM Tryz.func199 nm199 ok199) .AA .AA)) (.AB (AM Tryz.func202 nm202 ok202) (.AB (AM Tryz.func201 nm201 ok201) .AA .AA) (.AB (AM Tryz.func203 nm203 ok203) .AA .AA)))))
theorem Ug:Bc (Hj Tryz.prog) fnT6:=(.AB (AM Tryz.func221 nm221 ok221) (.AB (AM Tryz.func213 nm213 ok213) (.AB (AM Tryz.func209 nm209 ok209) (.AB (AM Tryz.func207 nm207 ok207) (.AB (AM Tryz.func206 nm206 ok206) (.AB (AM Tryz.func205 nm205 ok205) .AA .AA) .AA) (.AB (AM Tryz.func208 nm208 ok208) .AA .AA)) (.AB (AM Tryz.func211 nm211 ok211) (.AB (AM Tryz.func210 nm210 ok210) .AA .AA) (.AB (AM Tryz.func212 nm212 ok212) .AA .AA))) (.AB (AM Tryz.func217 nm217 ok217) (.AB (AM Tryz.func215 nm215 ok215) (.AB (AM Tryz.func214 nm214 ok214) .AA .AA) (.AB (AM Tryz.func216 nm216 ok216) .AA .AA)) (.AB (AM Tryz.func219 nm219 ok219) (.AB (AM Tryz.func218 nm218 ok218) .AA .AA) (.AB (AM Tryz.func220 nm220 ok220) .AA .AA)))) (.AB (AM Tryz.func230 nm230 ok230) (.AB (AM Tryz.func226 nm226 ok226) (.AB (AM Tryz.func224 nm224 ok224) (.AB (AM Tryz.func223 nm223 ok223) (.AB (AM Tryz.func222 nm222 ok222) .AA .AA) .AA) (.AB (AM Tryz.func225 nm225 ok225) .AA .AA)) (.AB (AM Tryz.func228 nm228 ok228) (.AB (AM Tryz.func227 nm227 ok227) .AA .AA) (.AB (AM Tryz.func229 nm229 ok229) .AA .AA))) (.AB (AM Tryz.func234 nm234 ok234) (.AB (AM Tryz.func232 nm232 ok232) (.AB (AM Tryz.func231 nm231 ok231) .AA .AA) (.AB (AM Tryz.func233 nm233 ok233) .AA .AA)) (.AB (AM Tryz.func236 nm236 ok236) (.AB (AM Tryz.func235 nm235 ok235) .AA .AA) (.AB (AM Tryz.func237 nm237 ok237) .AA .AA)))))
theorem Uh:Bc (Hj Tryz.prog) fnT7:=(.AB (AM Tryz.func255 nm255 ok255) (.AB (AM Tryz.func247 nm247 ok247) (.AB (AM Tryz.func243 nm243 ok243) (.AB (AM Tryz.func241 nm241 ok241) (.AB (AM Tryz.func240 nm240 ok240) (.AB (AM Tryz.func239 nm239 ok239) .AA .AA) .AA) (.AB (AM Tryz.func242 nm242 ok242) .AA .AA)) (.AB (AM Tryz.func245 nm245 ok245) (.AB (AM Tryz.func244 nm244 ok244) .AA .AA) (.AB (AM Tryz.func246 nm246 ok246) .AA .AA))) (.AB (AM Tryz.func251 nm251 ok251) (.AB (AM Tryz.func249 nm249 ok249) (.AB (AM Tryz.func248 nm248 ok248) .AA .AA) (.AB (AM Tryz.func250 nm250 ok250) .AA .AA)) (.AB (AM Tryz.func253 nm253 ok253) (.AB (AM Tryz.func252 nm252 ok252) .AA .AA) (.AB (AM Tryz.func254 nm254 ok254) .AA .AA)))) (.AB (AM Tryz.func263 nm263 ok263) (.AB (AM Tryz.func259 nm259 ok259) (.AB (AM Tryz.func257 nm257 ok257) (.AB (AM Tryz.func256 nm256 ok256) .AA .AA) (.AB (AM Tryz.func258 nm258 ok258) .AA .AA)) (.AB (AM Tryz.func261 nm261 ok261) (.AB (AM Tryz.func260 nm260 ok260) .AA .AA) (.AB (AM Tryz.func262 nm262 ok262) .AA .AA))) (.AB (AM Tryz.func267 nm267 ok267) (.AB (AM Tryz.func265 nm265 ok265) (.AB (AM Tryz.func264 nm264 ok264) .AA .AA) (.AB (AM Tryz.func266 nm266 ok266) .AA .AA)) (.AB (AM Tryz.func269 nm269 ok269) (.AB (AM Tryz.func268 nm268 ok268) .AA .AA) (.AB (AM Tryz.func270 nm270 ok270) .AA .AA)))))
theorem Xb:Bc (Hj Tryz.prog) fnT:=(.AB (AM Tryz.func136 nm136 ok136) (.AB (AM Tryz.func69 nm69 ok69) (.AB (AM Tryz.func35 nm35 ok35) Ua Ub) (.AB (AM Tryz.func103 nm103 ok103) Uc Ud)) (.AB (AM Tryz.func204 nm204 ok204) (.AB (AM Tryz.func170 nm170 ok170) Ue Uf) (.AB (AM Tryz.func238 nm238 ok238) Ug Uh)))
theorem Re:tyT.all (fun _ i=>J5 tyT i)=true:=by kernel_rfl
theorem Il:Fits M Tryz.prog:=fits rfl rfl Xa Xb (by rfl) Re
end Go.Proofs.Am12
namespace Go.Am
open Go
def GR (P:Program) (s:Sem Next) (g:G) (h':AE) (fr:Fr) (w:World) (v:AV):Prop:=
 ∃ x w' g',(s.run P w=.ok (.value x) w'∨(s.run P w=.ok .skip w'∧x=undef))∧Le g g'∧Sim g' h' fr w'∧Rel g' true v x
theorem GR.val {P:Program} {s:Sem Next} {g:G} {h:AE} {fr:Fr} {w:World} {v:AV} (hs:Sim g h fr w) (x:Value) (hr:s.run P w=.ok (.value x) w) (hv:Rel g true v x):GR P s g h fr w v:=
 ⟨x,w,g,.inl hr,Le.refl g,hs,hv⟩
theorem GR.of {P:Program} {s:Sem Value} {g:G} {h:AE} {fr:Fr} {w:World} {v:AV} (hs:Sim g h fr w) (h1:∃ x,s.run P w=.ok x w∧Rel g true v x) :
  GR P (do pure (.value (← s))) g h fr w v:=by
 obtain ⟨x,h1,h2⟩:=h1
 exact .val hs x (by simp [h1]) h2
section
variable {M:Par} {P:Program} (F:Fits M P)
include F in
theorem Mt {g:G} {h:AE} {fr:Fr} {w:World} (s:Sim g h fr w) {t:TypeId} {p v:AV} {x:Value} (hp:Rel g true p x) (hl:Bt M.ty h t p=some v) :
  ∃ B o y,x=.pointer (some ⟨B,o,none⟩)∧(loadVar t ⟨B,o,none⟩).run P w=.ok y w∧Rel g true v y:=by
 unfold Bt at hl
 cases hr:DC h p with
 | none=>simp [hr] at hl
 | some cs=>
  simp only [hr,Option.bind_some] at hl
  obtain ⟨B,o,rfl,hc⟩:=XY s hp hr
  obtain ⟨i,hi,b,ha,hb⟩:=LP F hl
  rcases hb with ⟨rfl,hlen,rfl⟩ | ⟨rfl,hd⟩
  ·have hf:∀ j,j<i.size→∃ v c,w.cell? ⟨B,o+j,none⟩=some v∧one v=true∧cs[j]? = some c∧Rel g true c v:=fun j hj=>by
    have:j<cs.length:=by omega
    obtain ⟨v,h1,h2,h3⟩:=hc j cs[j] (List.getElem?_eq_getElem this)
    exact ⟨v,cs[j],h1,h2,List.getElem?_eq_getElem this,h3⟩
   let f:Nat→Value:=fun j=>(w.cell? ⟨B,o+j,none⟩).getD undef
   have hrun:=run_loadCells (P:=P) w ⟨B,o,none⟩ i.size f (fun j hj=>by
    obtain ⟨v,c,h1,_⟩:=hf j hj
    rw [add_plain]
    simp [f,h1])
   refine ⟨B,o,.agg ((List.range i.size).map f).toArray,rfl,by simp only [loadVar,Sem.run_bind,ha,Result.andThen_ok,if_true,Fz F hi,hrun,Sem.run_pure],.agg true _ _ (by simp;omega) (fun j v hv => ?_) (fun j c v hc' hv => ?_)⟩
   ·have hj:j<i.size:=by
     have:=(Array.getElem?_eq_some_iff.1 hv).1
     simpa using this
    simp [hj] at hv
    obtain ⟨v',c,h1,h2,_⟩:=hf j hj
    simp only [f,h1,Option.getD_some] at hv
    exact hv ▸ h2
   ·have hj:j<i.size:=by
     have:=(Array.getElem?_eq_some_iff.1 hv).1
     simpa using this
    simp [hj] at hv
    obtain ⟨v',c',h1,h2,h3,h4⟩:=hf j hj
    simp only [f,h1,Option.getD_some] at hv
    rw [List.getElem?_take_of_lt hj,h3] at hc'
    simp only [Option.some.injEq] at hc'
    exact hc' ▸ hv ▸ h4
  ·have h0:cs[0]? = some v:=by rw [← List.head?_eq_getElem?];exact hd
   obtain ⟨v',h1,h2,h3⟩:=hc 0 v h0
   refine ⟨B,o,v',rfl,?_,h3⟩
   simp only [Nat.add_zero] at h1
   simp only [loadVar,Sem.run_bind,ha,Result.andThen_ok,Bool.false_eq_true,if_false,run_load,h1]
include F in
theorem Mu {g:G} {b:Bool} {t:TypeId} {cs:List AV} {v:AV} {vs:Array Value} {off:Nat} (hv:Aw g b cs vs) (h1:∀ (i:Nat) y,vs[i]? = some y→one y=true)
  (hm:LO M.ty t (cs.drop off)=some v) (w:World):∃ y,(part t vs off).run P w=.ok y w∧Rel g b v y:=by
 obtain ⟨i,hi,c,ha,hb⟩:=LP F hm
 rcases hb with ⟨rfl,hlen,rfl⟩ | ⟨rfl,hd⟩
 ·refine ⟨.agg (vs.extract off (off+i.size)),by simp only [part,Sem.run_bind,ha,Result.andThen_ok,if_true,Fz F hi,Sem.run_pure],.agg b _ _ ?_ (fun j y hy => ?_) (fun j c y hc hy => ?_)⟩
  ·rw [List.length_drop] at hlen
   simp [hv.1];omega
  ·rw [Array.getElem?_extract] at hy
   split at hy
   ·exact h1 _ _ hy
   ·cases hy
  ·rw [Array.getElem?_extract] at hy
   split at hy
   ·rw [List.getElem?_take_of_lt (by omega),List.getElem?_drop] at hc
    exact hv.2 _ c y hc hy
   ·cases hy
 ·rw [List.head?_eq_getElem?,List.getElem?_drop,Nat.add_zero] at hd
  have hlt:=(List.getElem?_eq_some_iff.1 hd).1
  have hlt':off<vs.size:=by rw [hv.1];exact hlt
  have hy:vs[off]? = some vs[off]:=Array.getElem?_eq_getElem hlt'
  exact ⟨vs[off],by simp only [part,Sem.run_bind,ha,Result.andThen_ok,Bool.false_eq_true,if_false,hy,Sem.run_pure],hv.2 _ _ _ hd hy⟩
include F in
theorem OJ {g:G} {h:AE} {fr:Fr} {w:World} (_s:Sim g h fr w) {t:TypeId} {f:Nat} {a v:AV} {x:Value} (hx:Rel g true a x) (hf:OH M.ty t a f=some v) :
  ∃ y,(Instr.field t x f).run P w=.ok y w∧Rel g true v y:=by
 unfold OH at hf
 split at hf
 ·rename_i fd cs hfd
  unfold J2 at hfd
  split at hfd
  ·rename_i i hi
   split at hfd
   ·rename_i fs hd
    cases hx with
    | agg _ _ vs sz h1 h2=>
     obtain ⟨y,h3,h4⟩:=Mu F ⟨sz,h2⟩ h1 hf w
     refine ⟨y,?_,h4⟩
     simp only [Instr.field,Sem.run_bind,J4 F hi,Result.andThen_ok,hd,hfd,asAgg,Sem.run_pure,h3]
   ·cases hfd
  ·cases hfd
 ·cases hf
include F in
theorem KJ {g:G} {h:AE} {fr:Fr} {w:World} (_s:Sim g h fr w) {t:TypeId} {f:Nat} {a v:AV} {x:Value} (hx:Rel g true a x) (hf:AX M.ty t a f=some v) :
  ∃ y,(Instr.fieldAt t x f).run P w=.ok y w∧Rel g true v y:=by
 unfold AX at hf
 split at hf
 ·cases hf
 ·rename_i fd hfd
  unfold J2 at hfd
  split at hfd
  ·rename_i i hi
   split at hfd
   ·rename_i fs hd
    have key:∀ B o,Nat.blt 0 (siz M.ty fd.type)=true→(Instr.fieldAt t (.pointer (some ⟨B,o,none⟩)) f).run P w=.ok (.pointer (some ⟨B,o+fd.offset,none⟩)) w:=by
     intro B o hp
     obtain ⟨j,hj,hsz⟩:=PV (M:=M) (Fg.1 hp)
     have hne:j.size≠0:=by have:=Fg.1 hp;omega
     simp only [Instr.fieldAt,Sem.run_bind,J4 F hi,Result.andThen_ok,hd,hfd,Instr.sureAddr,Sem.run_pure,fieldPlace,Fz F hj,hne,if_false,add_plain]
    split at hf
    ·rename_i cs hp
     cases hx with
     | ro _ cs B o vs h1 h2 h3=>
      simp only [Option.some.injEq] at hf
      subst hf
      refine ⟨_,key B o hp,.ro true _ B (o+fd.offset) (fun i=>vs (fd.offset+i)) (fun i c hc => ?_) (fun i c hc => ?_) (fun i c hc => ?_)⟩ <;> rw [List.getElem?_drop] at hc
      ·rw [Nat.add_assoc];exact h1 _ _ hc
      ·exact h2 _ _ hc
      ·exact h3 _ _ hc
    ·rename_i id off hp
     cases hx with
     | hp id off B c hpl=>
      simp only [Option.some.injEq] at hf
      subst hf
      exact ⟨_,key B off hp,.hp id _ B c hpl⟩
    ·rename_i id gen sz i k hp
     cases hx with
     | ep id gen sz i k B c hpl=>
      simp only [Option.some.injEq] at hf
      subst hf
      exact ⟨_,by rw [key B _ hp,Nat.add_assoc],.ep id gen sz i _ B c hpl⟩
    ·cases hf
   ·cases hfd
  ·cases hfd
theorem Et {i:Int} {n j:Nat} (h:Es i n=some j):0≤i∧i<n∧i.toNat=j∧j<n:=by
 unfold Es at h
 split at h
 ·rename_i hd
  simp only [decide_eq_true_eq] at hd
  simp only [Option.some.injEq] at h
  omega
 ·cases h
theorem GN {i:Int} {n j:Nat} (h:FA i n=some j):0≤i∧i≤n∧i.toNat=j∧j≤n:=by
 unfold FA at h
 split at h
 ·rename_i hd
  simp only [decide_eq_true_eq] at hd
  simp only [Option.some.injEq] at h
  omega
 ·cases h
theorem EC {g:G} {b:Bool} {a:AV} {x:Value} (h:Rel g b a x) {n:Int} (hi:intOf a=some n):∃ k,x=.int k n∧a=.int k n:=by
 cases h <;> simp only [intOf,Option.some.injEq,reduceCtorEq] at hi
 subst hi
 exact ⟨_,rfl,rfl⟩
include F in
theorem ED {t:TypeId} (h:0<siz M.ty t) (w:World):(sizeOf t).run P w=.ok (siz M.ty t) w:=by
 obtain ⟨i,hi,he⟩:=PV h
 rw [← he]
 exact Fz F hi w
include F in
theorem KL {g:G} {h:AE} {fr:Fr} {w:World} (_s:Sim g h fr w) {t:TypeId} {a b v:AV} {x y:Value} (hx:Rel g true a x) (hy:Rel g true b y) (hf:BJ M.ty t a b=some v) :
  ∃ z,(Instr.indexAt t x y).run P w=.ok z w∧Rel g true v z:=by
 unfold BJ at hf
 split at hf
 ·rename_i e sz ex es i hu hi
  split at hf
  ·rename_i j hsz hj
   simp only [Bool.and_eq_true,Bs,Fg] at hsz
   obtain ⟨rfl,hpos⟩:=hsz
   obtain ⟨k,rfl,rfl⟩:=EC hy hi
   obtain ⟨h0,h1,rfl,h2⟩:=Et hj
   cases hx with
   | sl _ _ _ _ B o c ad ha vs g0 gx gs g1 g2 g3=>
    obtain rfl:ad=⟨B,o,none⟩:=ha.resolve_right (by omega)
    cases he:es[i.toNat]? with
    | none=>simp [he] at hf
    | some l=>
     simp only [he,Option.map_some,Option.some.injEq] at hf
     subst hf
     refine ⟨.pointer (some ⟨B,o+i.toNat * siz M.ty e,none⟩),?_,.ro true l B _ (vs i.toNat) (fun m c hc=>g1 _ _ he m c hc) (fun m c hc=>g2 _ _ he m c hc) (fun m c hc=>g3 _ _ he m c hc)⟩
     simp only [Instr.indexAt,Sem.run_bind,Ar F hu,Result.andThen_ok,asIntOf,Sem.run_pure,ED F hpos,add_plain]
     simp only [h0,h1,and_self,if_true,Sem.run_bind,ED F hpos,Result.andThen_ok,Sem.run_pure,add_plain]
  ·cases hf
 ·rename_i e id gen sz off len ex i hu hi
  split at hf
  ·rename_i j hsz hj
   simp only [Bool.and_eq_true,Bs,Fg] at hsz
   obtain ⟨rfl,hpos⟩:=hsz
   obtain ⟨k,rfl,rfl⟩:=EC hy hi
   obtain ⟨h0,h1,rfl,h2⟩:=Et hj
   simp only [Option.some.injEq] at hf
   subst hf
   cases hx with
   | hs _ _ _ _ _ _ B c o c' hpl g0 gc go=>
    have ho:o=off * siz M.ty e:=go (by subst gc;split <;> omega)
    subst ho
    have hadd:off * siz M.ty e+i.toNat * siz M.ty e=(off+i.toNat) * siz M.ty e:=(Nat.add_mul _ _ _).symm
    refine ⟨.pointer (some ⟨B,(off+i.toNat) * siz M.ty e+0,none⟩),?_,.ep id gen _ _ 0 B c hpl⟩
    simp only [Instr.indexAt,Sem.run_bind,Ar F hu,Result.andThen_ok,asIntOf,Sem.run_pure]
    simp only [h0,h1,and_self,if_true,Sem.run_bind,ED F hpos,Result.andThen_ok,Sem.run_pure,add_plain,hadd,Nat.add_zero]
  ·cases hf
 ·rename_i n e cs i hu hi
  split at hf
  ·rename_i j hpos hj
   have hpos:=Fg.1 hpos
   obtain ⟨k,rfl,rfl⟩:=EC hy hi
   obtain ⟨h0,h1,rfl,h2⟩:=Et hj
   simp only [Option.some.injEq] at hf
   subst hf
   cases hx with
   | ro _ _ B o vs g1 g2 g3=>
    refine ⟨.pointer (some ⟨B,o+i.toNat * siz M.ty e,none⟩),?_,.ro true _ B _ (fun m=>vs (i.toNat * siz M.ty e+m)) (fun m c hc => ?_) (fun m c hc => ?_) (fun m c hc => ?_)⟩
    ·simp only [Instr.indexAt,Sem.run_bind,Ar F hu,Result.andThen_ok,asIntOf,Sem.run_pure,Instr.sureAddr]
     simp only [h0,h1,and_self,if_true,Sem.run_bind,ED F hpos,Result.andThen_ok,Sem.run_pure,add_plain]
    all_goals rw [List.getElem?_drop] at hc
    ·rw [Nat.add_assoc];exact g1 _ _ hc
    ·exact g2 _ _ hc
    ·exact g3 _ _ hc
  ·cases hf
 ·rename_i n e id off i hu hi
  split at hf
  ·rename_i j hpos hj
   have hpos:=Fg.1 hpos
   obtain ⟨k,rfl,rfl⟩:=EC hy hi
   obtain ⟨h0,h1,rfl,h2⟩:=Et hj
   simp only [Option.some.injEq] at hf
   subst hf
   cases hx with
   | hp _ _ B c hpl=>
    refine ⟨.pointer (some ⟨B,off+i.toNat * siz M.ty e,none⟩),?_,.hp id _ B c hpl⟩
    simp only [Instr.indexAt,Sem.run_bind,Ar F hu,Result.andThen_ok,asIntOf,Sem.run_pure,Instr.sureAddr]
    simp only [h0,h1,and_self,if_true,Sem.run_bind,ED F hpos,Result.andThen_ok,Sem.run_pure,add_plain]
  ·cases hf
 ·cases hf
include F in
theorem OK {g:G} {h:AE} {fr:Fr} {w:World} (_s:Sim g h fr w) {t:TypeId} {a b v:AV} {x y:Value} (hx:Rel g true a x) (hy:Rel g true b y) (hf:L6 M.ty t a b=some v) :
  ∃ z,(Instr.index t x y).run P w=.ok z w∧Rel g true v z:=by
 unfold L6 at hf
 split at hf
 ·rename_i s i hu hi
  split at hf
  ·rename_i j hj
   obtain ⟨k,rfl,rfl⟩:=EC hy hi
   obtain ⟨h0,h1,rfl,h2⟩:=Et hj
   cases hx with
   | str=>
    cases he:s[i.toNat]? with
    | none=>simp [he] at hf
    | some c=>
     simp only [he,Option.map_some,Option.some.injEq] at hf
     subst hf
     refine ⟨.int .u8 c.toNat,?_,.int _ _ _⟩
     have hs:(⟨s.toArray⟩:ByteArray)[i.toNat]? = some c:=by
      have hlt:i.toNat<s.length:=h2
      rw [List.getElem?_eq_getElem hlt] at he
      have:i.toNat<(⟨s.toArray⟩:ByteArray).size:=by simpa [ByteArray.size] using hlt
      rw [getElem?_pos (⟨s.toArray⟩:ByteArray) i.toNat this,← he]
      rfl
     simp only [Instr.index,Sem.run_bind,Ar F hu,Result.andThen_ok,asIntOf,Sem.run_pure,h0,if_true,hs]
  ·cases hf
 ·rename_i n e cs i hu hi
  split at hf
  ·rename_i j hpos hj
   have hpos:=Fg.1 hpos
   obtain ⟨k,rfl,rfl⟩:=EC hy hi
   obtain ⟨h0,h1,rfl,h2⟩:=Et hj
   cases hx with
   | agg _ _ vs sz g1 g2=>
    obtain ⟨z,h3,h4⟩:=Mu F ⟨sz,g2⟩ g1 hf w
    refine ⟨z,?_,h4⟩
    simp only [Instr.index,Sem.run_bind,Ar F hu,Result.andThen_ok,asIntOf,Sem.run_pure]
    simp only [h0,h1,and_self,if_true,Sem.run_bind,ED F hpos,Result.andThen_ok,h3]
  ·cases hf
 ·cases hf
end
end Go.Am
