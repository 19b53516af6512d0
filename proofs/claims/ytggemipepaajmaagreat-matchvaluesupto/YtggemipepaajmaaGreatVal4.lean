/- The abstract machine of this claim, part 4. -/
import Derived.Test.YtggemipepaajmaaGreatVal3
import Derived.Laws.Sem
import Derived.Laws.Cells
import Derived.Laws.Entries
set_option linter.unusedSimpArgs false
set_option linter.unusedVariables false
set_option linter.unusedSectionVars false
set_option linter.unnecessarySimpa false
namespace Go.Am
open Go
structure Fits (M:Par) (P:Program):Prop where
 ty:∀ t i,M.ty t=some i→∃ info,P.info? t=some info∧P.underlying t=some i.d∧info.size=i.size∧info.bytes=i.bytes ∧
  (∀ z,i.zero=some z→∃ zv,info.zero=some zv∧(ofVal zv).bind AV.cells=some z∧∀ a,zeroA i.d z=some a→ofVal zv=some a)
 fn:∀ f fn,M.fn f=some fn→P.funcs[f]? = some fn∧(fn.name == "runtime.NumGoroutine")=false∧∀ c,fn.body=some c→okC c=true
 mixed:P.follows .mixedOrders=true
 fld:∀ t i (fs:Array Field),M.ty t=some i→i.d=.struct fs→∀ f∈fs,∃ j,M.ty f.type=some j
 elm:∀ t i n e,M.ty t=some i→i.d=.array n e→∃ j,M.ty e=some j
theorem one_eq (v:Value):one v=v.oneCell':=by cases v <;> rfl
def TmRel (g:G) (t:Tm) (tmps:Array Value):Prop:=∀ d,Rel g true (t.get d) (tmps.getD d undef)
theorem TmRel.mono {g g':G} (hg:Le g g') {t:Tm} {tmps:Array Value} (h:TmRel g t tmps):TmRel g' t tmps:=fun d=>(h d).mono hg
theorem ofCell_rel (g:G) (b:Bool) {v:Value} {a:AV} (h:ofCell v=some a):Rel g b a v∧one v=true∧a.isCell=true:=by
 unfold ofCell at h
 split at h <;> simp only [Option.some.injEq,reduceCtorEq] at h <;> subst h
 ·exact ⟨.bool _ _,rfl,rfl⟩
 ·exact ⟨.int _ _ _,rfl,rfl⟩
 ·rename_i s
  refine ⟨?_,rfl,rfl⟩
  have:s=⟨s.data.toList.toArray⟩:=by cases s;simp
  conv=>rhs;rw [this]
  exact .str _ _
 ·exact ⟨.nilp _,rfl,rfl⟩
 ·exact ⟨.nils _,rfl,rfl⟩
 ·exact ⟨.nilm _,rfl,rfl⟩
 ·exact ⟨.nilf _,rfl,rfl⟩
 ·exact ⟨.nili _,rfl,rfl⟩
theorem ofCells_rel (g:G) (b:Bool):∀ {vs:List Value} {cs:List AV},ofCells vs=some cs→RelL g b cs vs.toArray∧(∀ v∈vs,one v=true)
 | [],cs,h=>by simp only [ofCells,Option.some.injEq] at h;subst h;exact ⟨RelL.nil _ _,by simp⟩
 | v::r,cs,h=>by
  simp only [ofCells] at h
  split at h
  ·rename_i a cs' ha hcs
   simp only [Option.some.injEq] at h
   subst h
   obtain ⟨h1,h2,_⟩:=ofCell_rel g b ha
   obtain ⟨h3,h4⟩:=ofCells_rel g b hcs
   exact ⟨RelL.cons h1 h3,by simp [h2];exact h4⟩
  ·cases h
theorem ofVal_rel (g:G) (b:Bool) {v:Value} {a:AV} (h:ofVal v=some a):Rel g b a v:=by
 unfold ofVal at h
 split at h
 ·rename_i cs
  cases hc:ofCells cs.toList with
  | none=>simp [hc] at h
  | some l=>
   simp only [hc,Option.map_some,Option.some.injEq] at h
   subst h
   obtain ⟨h1,h2⟩:=ofCells_rel g b hc
   simp only [Array.toArray_toList] at h1
   exact .agg b l cs h1.1 (fun i v hv=>h2 v (by simpa using Array.mem_of_getElem? hv)) h1.2
 ·exact (ofCell_rel g b h).1
theorem ev_rel {g:G} {t:Tm} {a:Act} (ht:TmRel g t a.tmps) {x:Operand} {v:AV} (h:ev t x=some v):Rel g true v (a.eval x):=by
 cases x with
 | tmp d=>simp only [ev,Option.some.injEq] at h;subst h;exact ht d
 | const c=>exact ofVal_rel g true h
 | global n=>cases h
 | func f=>
  simp only [ev,Option.some.injEq] at h
  subst h
  exact .fn true f [] [] #[] #[] rfl rfl (fun i c v h=>by simp at h) (fun i c v h=>by simp at h)
theorem evs_rel {g:G} {t:Tm} {a:Act} (ht:TmRel g t a.tmps):∀ {xs:List Operand} {vs:List AV},evs t xs=some vs→RelL g true vs (xs.map a.eval).toArray
 | [],vs,h=>by simp only [evs,Option.some.injEq] at h;subst h;exact RelL.nil _ _
 | x::r,vs,h=>by
  simp only [evs] at h
  split at h
  ·rename_i v ws hv hws
   simp only [Option.some.injEq] at h
   subst h
   exact RelL.cons (ev_rel ht hv) (evs_rel ht hws)
  ·cases h
theorem cells_rel {g:G} {b:Bool} {v:AV} {x:Value} (h:Rel g b v x) {cs:List AV} (hc:v.cells=some cs):RelL g b cs x.cells∧(∀ (i:Nat) y,x.cells[i]? = some y→one y=true):=by
 have single:∀ {v:AV} {x:Value},Rel g b v x→v.isCell=true→x.cells = #[x]→RelL g b [v] x.cells∧(∀ (i:Nat) y,x.cells[i]? = some y→one y=true):=by
  intro v x hr hcell hx
  rw [hx]
  refine ⟨RelL.cons hr (RelL.nil _ _),fun i y hy => ?_⟩
  have hone:=hr.one hcell
  cases i with
  | zero=>simp at hy;exact hy ▸ hone
  | succ i=>simp at hy
 cases h <;> simp only [AV.cells,Option.some.injEq,reduceCtorEq] at hc <;> subst hc
 case agg vs s h1 h2=>exact ⟨⟨s,h2⟩,h1⟩
 case bool=>exact single (.bool _ _) rfl rfl
 case int=>exact single (.int _ _ _) rfl rfl
 case str=>exact single (.str _ _) rfl rfl
 case nilp=>exact single (.nilp _) rfl rfl
 case ro cs B o vs h1 h2 h3=>exact single (.ro _ cs B o vs h1 h2 h3) rfl rfl
 case hp id off B c h=>exact single (.hp id off B c h) rfl rfl
 case ep id gen sz i k B c h=>exact single (.ep id gen sz i k B c h) rfl rfl
 case nils=>exact single (.nils _) rfl rfl
 case sl sz ex es B o c ad ha vs h0 hx hs h1 h2 h3=>exact single (.sl _ sz ex es B o c ad ha vs h0 hx hs h1 h2 h3) rfl rfl
 case hs id gen sz off len ex B c o c' h h0 hc ho=>exact single (.hs id gen sz off len ex B c o c' h h0 hc ho) rfl rfl
 case nilm=>exact single (.nilm _) rfl rfl
 case hm id B c h=>exact single (.hm id B c h) rfl rfl
 case fn f fs cs us vs s1 s2 h1 h2=>exact single (.fn _ f fs cs us vs s1 s2 h1 h2) rfl rfl
 case nilf=>exact single (.nilf _) rfl rfl
 case iface t a v h=>exact single (.iface _ t a v h) rfl rfl
 case nili=>exact single (.nili _) rfl rfl
section
variable {M:Par} {P:Program} (F:Fits M P)
include F
theorem run_und {t:TypeId} {i:TyI} (h:M.ty t=some i) (w:World):(underlying t).run P w=.ok i.d w:=by
 obtain ⟨info,h1,h2,h3⟩:=F.ty t i h
 exact run_underlying h2 w
theorem run_size {t:TypeId} {i:TyI} (h:M.ty t=some i) (w:World):(sizeOf t).run P w=.ok i.size w:=by
 obtain ⟨info,h1,h2,h3,h4⟩:=F.ty t i h
 simp [sizeOf,typeInfo,h1,h3]
theorem run_info {t:TypeId} {i:TyI} (h:M.ty t=some i) (w:World):∃ info,(typeInfo t).run P w=.ok info w∧info.size=i.size∧info.bytes=i.bytes ∧
  (∀ z,i.zero=some z→∃ zv,info.zero=some zv∧(ofVal zv).bind AV.cells=some z∧∀ a,zeroA i.d z=some a→ofVal zv=some a):=by
 obtain ⟨info,h1,h2,h3,h4,h5⟩:=F.ty t i h
 exact ⟨info,by simp [typeInfo,h1],h3,h4,h5⟩
omit F in
theorem siz_pos {t:TypeId} (h:0<siz M.ty t):∃ i,M.ty t=some i∧i.size=siz M.ty t:=by
 unfold siz at *
 cases hi:M.ty t with
 | none=>simp [hi] at h
 | some i=>exact ⟨i,rfl,rfl⟩
theorem run_siz {t:TypeId} (h:∃ i,M.ty t=some i) (w:World):(sizeOf t).run P w=.ok (siz M.ty t) w:=by
 obtain ⟨i,hi⟩:=h
 rw [run_size F hi w]
 simp [siz,hi]
omit F in
theorem und_some {t:TypeId} {d:TypeDesc} (h:und M.ty t=some d):∃ i,M.ty t=some i∧i.d=d:=by
 unfold und at h
 cases hi:M.ty t with
 | none=>simp [hi] at h
 | some i=>simp [hi] at h;exact ⟨i,rfl,h⟩
theorem run_und' {t:TypeId} {d:TypeDesc} (h:und M.ty t=some d) (w:World):(underlying t).run P w=.ok d w:=by
 obtain ⟨i,h1,rfl⟩:=und_some h
 exact run_und F h1 w
theorem zero_rel {t:TypeId} {z:List AV} (h:zeroC M.ty t=some z) (w:World):∃ i zv,M.ty t=some i∧z.length=i.size∧(zeroValue t).run P w=.ok zv w ∧
  ∀ g b,RelL g b z zv.cells∧∀ (i:Nat) y,zv.cells[i]? = some y→one y=true:=by
 unfold zeroC at h
 split at h
 ·rename_i i hi
  split at h
  ·rename_i z' hz
   split at h
   ·rename_i hl
    simp only [Option.some.injEq] at h
    subst h
    obtain ⟨info,h1,h2,h3,h4⟩:=run_info F hi w
    obtain ⟨zv,h5,h6,_⟩:=h4 _ hz
    refine ⟨i,zv,hi,nbeq.1 hl,by simp [zeroValue,h1,h5],fun g b => ?_⟩
    cases ho:ofVal zv with
    | none=>simp [ho] at h6
    | some a=>
     simp only [ho,Option.bind_some] at h6
     exact cells_rel (ofVal_rel g b ho) h6
   ·cases h
  ·cases h
 ·cases h
theorem mkVal_rel {t:TypeId} {cs:List AV} {v:AV} (h:mkVal M.ty t cs=some v) :
  ∃ i,M.ty t=some i∧((∃ b,(∀ w,(isAgg t).run P w=.ok b w)∧((b=true∧i.size≤cs.length∧v=.agg (cs.take i.size))∨(b=false∧cs.head? = some v)))):=by
 unfold mkVal at h
 split at h
 ·rename_i i hi
  refine ⟨i,hi,?_⟩
  have hr:=fun w=>run_und F hi w
  split at h
  ·rename_i fs hd
   split at h
   ·rename_i hl
    simp only [Option.some.injEq] at h
    exact ⟨true,fun w=>by simp [isAgg,hr,hd],.inl ⟨rfl,nble.1 hl,h.symm⟩⟩
   ·cases h
  ·rename_i n e hd
   split at h
   ·rename_i hl
    simp only [Option.some.injEq] at h
    exact ⟨true,fun w=>by simp [isAgg,hr,hd],.inl ⟨rfl,nble.1 hl,h.symm⟩⟩
   ·cases h
  ·rename_i hd1 hd2
   refine ⟨false,fun w => ?_,.inr ⟨rfl,h⟩⟩
   simp only [isAgg,Sem.run_bind,hr,Result.andThen_ok]
   cases hd:i.d <;> simp_all
 ·cases h
end
inductive TreeAll {α:Type} (Q:Nat→α→Prop):Tree α→Prop where
 | leaf:TreeAll Q .leaf
 | node {k:Nat} {v:α} {l r:Tree α} (h:Q k v) (hl:TreeAll Q l) (hr:TreeAll Q r):TreeAll Q (.node k v l r)
theorem TreeAll.find {α:Type} {Q:Nat→α→Prop} {t:Tree α} (h:TreeAll Q t) {x:Nat} {v:α} (hf:t.find x=some v):Q x v:=by
 induction h with
 | leaf=>cases hf
 | node h hl hr ihl ihr=>
  simp only [Tree.find] at hf
  split at hf
  ·rename_i hb
   simp only [Option.some.injEq] at hf
   subst hf
   rw [nbeq.1 hb];exact h
  ·split at hf
   ·exact ihl hf
   ·exact ihr hf
theorem TreeAll.mono {α:Type} {Q R:Nat→α→Prop} {t:Tree α} (h:TreeAll Q t) (hq:∀ k v,Q k v→R k v):TreeAll R t:=by
 induction h with
 | leaf=>exact .leaf
 | node h _ _ ihl ihr=>exact .node (hq _ _ h) ihl ihr
def zeroOk (d:TypeDesc) (b:Option AV):Bool:=match b with
 | none=>true
 | some b=>match d with
  | .struct _=>match b with
   | .agg _=>true
   | _=>false
  | .array _ _=>match b with
   | .agg _=>true
   | _=>false
  | _=>b.isCell
def GoodT (P:Program) (t:TypeId) (i:TyI):Prop:=∃ info,P.info? t=some info∧P.underlying t=some i.d∧info.size=i.size∧info.bytes=i.bytes ∧
  (∀ z,i.zero=some z→∃ zv,info.zero=some zv∧(ofVal zv).bind AV.cells=some z∧∀ a,zeroA i.d z=some a→ofVal zv=some a)
theorem info_of {P:Program} {t:TypeId} {i:TypeInfo} (h:P.types[t]? = some i):P.info? t=some i:=by
 have hlt:t<P.types.size:=(Array.getElem?_eq_some_iff.1 h).1
 unfold Tables.info?
 rw [if_pos hlt]
 exact h
theorem goodT {P:Program} {t:TypeId} {info:TypeInfo} {d:TypeDesc} (h1:P.info? t=some info) (h2:P.underlying t=some d) (h3:zeroOk d (info.zero.bind ofVal)=true) :
  GoodT P t ⟨d,info.size,info.bytes,(info.zero.bind ofVal).bind AV.cells⟩:=by
 refine ⟨info,h1,h2,rfl,rfl,fun z hz => ?_⟩
 simp only [Option.bind_eq_some_iff] at hz
 obtain ⟨b,⟨zv,hzv,hb⟩,hc⟩:=hz
 refine ⟨zv,hzv,by rw [hb];exact hc,fun a ha => ?_⟩
 rw [hzv,Option.bind_some,hb] at h3
 rw [hb]
 have plain:b.isCell=true→cellOf z=some a→some b=some a:=fun hi ha=>by
  have:b.cells=some [b]:=by cases b <;> first | rfl | cases hi
  rw [this] at hc
  cases hc
  simp only [cellOf,hi,Option.some.injEq] at ha
  rw [ha]
 unfold zeroOk at h3
 unfold zeroA at ha
 cases d with
 | struct fs=>
  simp only at h3 ha
  split at h3
  ·cases hc;exact ha
  ·cases h3
 | array n e=>
  simp only at h3 ha
  split at h3
  ·cases hc;exact ha
  ·cases h3
 | _=>exact plain h3 ha
def GoodF (P:Program) (f:FuncId) (fn:Func):Prop:=P.funcs[f]? = some fn∧(fn.name == "runtime.NumGoroutine")=false∧∀ c,fn.body=some c→okC c=true
def okB (b:Option Code):Bool:=match b with
 | some c=>okC c
 | none=>true
theorem goodF {P:Program} {f:FuncId} {fn:Func} (h1:P.funcs[f]? = some fn) (h2:(fn.name == "runtime.NumGoroutine")=false) (h3:okB fn.body=true):GoodF P f fn:=
 ⟨h1,h2,fun c hc=>by rw [hc] at h3;exact h3⟩
def Tree.all {α:Type} (f:Nat→α→Bool):Tree α→Bool
 | .leaf=>true
 | .node k v l r=>f k v&&l.all f&&r.all f
theorem Tree.all_spec {α:Type} {f:Nat→α→Bool}:∀ {t:Tree α},t.all f=true→TreeAll (fun k v=>f k v=true) t
 | .leaf,_=> .leaf
 | .node k v l r,h=>by
  simp only [Tree.all,Bool.and_eq_true] at h
  exact .node h.1.1 (Tree.all_spec h.1.2) (Tree.all_spec h.2)
def partsOk (T:Tree TyI) (i:TyI):Bool:=match i.d with
 | .struct fs=>fs.toList.all fun f=>(T.find f.type).isSome
 | .array _ e=>(T.find e).isSome
 | _=>true
theorem fits {M:Par} {P:Program} {T:Tree TyI} {Fn:Tree Func} (h1:M.ty=T.find) (h2:M.fn=Fn.find) (ht:TreeAll (GoodT P) T) (hf:TreeAll (GoodF P) Fn) (hm:P.follows .mixedOrders=true) (hp:T.all (fun _ i=>partsOk T i)=true):Fits M P:=by
 have hp:=Tree.all_spec hp
 refine ⟨fun t i h => ?_,fun f fn h => ?_,hm,fun t i fs h hd f hfm => ?_,fun t i n e h hd => ?_⟩
 ·rw [h1] at h;exact ht.find h
 ·rw [h2] at h;exact hf.find h
 ·rw [h1] at h ⊢
  have:=hp.find h
  simp only [partsOk,hd] at this
  exact Option.isSome_iff_exists.1 (List.all_eq_true.1 this f (by simpa using hfm))
 ·rw [h1] at h ⊢
  have:=hp.find h
  simp only [partsOk,hd] at this
  exact Option.isSome_iff_exists.1 this
end Go.Am
namespace Go.Proofs.Am12
open Go Go.Am
theorem tyT0_ok:TreeAll (GoodT Tryz.prog) tyT0:=(.node (goodT (d:=Tryz.t20.desc) (info_of Tryz.type20) Tryz.underlying20 rfl) (.node (goodT (d:=Tryz.t9.desc) (info_of Tryz.type10) Tryz.underlying10 rfl) (.node (goodT (d:=Tryz.t5.desc) (info_of Tryz.type5) Tryz.underlying5 rfl) (.node (goodT (d:=Tryz.t2.desc) (info_of Tryz.type2) Tryz.underlying2 rfl) (.node (goodT (d:=Tryz.t1.desc) (info_of Tryz.type1) Tryz.underlying1 rfl) (.node (goodT (d:=Tryz.t0.desc) (info_of Tryz.type0) Tryz.underlying0 rfl) .leaf .leaf) .leaf) (.node (goodT (d:=Tryz.t4.desc) (info_of Tryz.type4) Tryz.underlying4 rfl) (.node (goodT (d:=Tryz.t3.desc) (info_of Tryz.type3) Tryz.underlying3 rfl) .leaf .leaf) .leaf)) (.node (goodT (d:=Tryz.t7.desc) (info_of Tryz.type8) Tryz.underlying8 rfl) (.node (goodT (d:=Tryz.t7.desc) (info_of Tryz.type7) Tryz.underlying7 rfl) (.node (goodT (d:=Tryz.t5.desc) (info_of Tryz.type6) Tryz.underlying6 rfl) .leaf .leaf) .leaf) (.node (goodT (d:=Tryz.t9.desc) (info_of Tryz.type9) Tryz.underlying9 rfl) .leaf .leaf))) (.node (goodT (d:=Tryz.t15.desc) (info_of Tryz.type15) Tryz.underlying15 rfl) (.node (goodT (d:=Tryz.t13.desc) (info_of Tryz.type13) Tryz.underlying13 rfl) (.node (goodT (d:=Tryz.t12.desc) (info_of Tryz.type12) Tryz.underlying12 rfl) (.node (goodT (d:=Tryz.t9.desc) (info_of Tryz.type11) Tryz.underlying11 rfl) .leaf .leaf) .leaf) (.node (goodT (d:=Tryz.t13.desc) (info_of Tryz.type14) Tryz.underlying14 rfl) .leaf .leaf)) (.node (goodT (d:=Tryz.t18.desc) (info_of Tryz.type18) Tryz.underlying18 rfl) (.node (goodT (d:=Tryz.t17.desc) (info_of Tryz.type17) Tryz.underlying17 rfl) (.node (goodT (d:=Tryz.t16.desc) (info_of Tryz.type16) Tryz.underlying16 rfl) .leaf .leaf) .leaf) (.node (goodT (d:=Tryz.t18.desc) (info_of Tryz.type19) Tryz.underlying19 rfl) .leaf .leaf)))) (.node (goodT (d:=Tryz.t30.desc) (info_of Tryz.type30) Tryz.underlying30 rfl) (.node (goodT (d:=Tryz.t24.desc) (info_of Tryz.type25) Tryz.underlying25 rfl) (.node (goodT (d:=Tryz.t23.desc) (info_of Tryz.type23) Tryz.underlying23 rfl) (.node (goodT (d:=Tryz.t22.desc) (info_of Tryz.type22) Tryz.underlying22 rfl) (.node (goodT (d:=Tryz.t21.desc) (info_of Tryz.type21) Tryz.underlying21 rfl) .leaf .leaf) .leaf) (.node (goodT (d:=Tryz.t24.desc) (info_of Tryz.type24) Tryz.underlying24 rfl) .leaf .leaf)) (.node (goodT (d:=Tryz.t27.desc) (info_of Tryz.type28) Tryz.underlying28 rfl) (.node (goodT (d:=Tryz.t27.desc) (info_of Tryz.type27) Tryz.underlying27 rfl) (.node (goodT (d:=Tryz.t26.desc) (info_of Tryz.type26) Tryz.underlying26 rfl) .leaf .leaf) .leaf) (.node (goodT (d:=Tryz.t29.desc) (info_of Tryz.type29) Tryz.underlying29 rfl) .leaf .leaf))) (.node (goodT (d:=Tryz.t3.desc) (info_of Tryz.type35) Tryz.underlying35 rfl) (.node (goodT (d:=Tryz.t33.desc) (info_of Tryz.type33) Tryz.underlying33 rfl) (.node (goodT (d:=Tryz.t32.desc) (info_of Tryz.type32) Tryz.underlying32 rfl) (.node (goodT (d:=Tryz.t31.desc) (info_of Tryz.type31) Tryz.underlying31 rfl) .leaf .leaf) .leaf) (.node (goodT (d:=Tryz.t33.desc) (info_of Tryz.type34) Tryz.underlying34 rfl) .leaf .leaf)) (.node (goodT (d:=Tryz.t38.desc) (info_of Tryz.type38) Tryz.underlying38 rfl) (.node (goodT (d:=Tryz.t37.desc) (info_of Tryz.type37) Tryz.underlying37 rfl) (.node (goodT (d:=Tryz.t36.desc) (info_of Tryz.type36) Tryz.underlying36 rfl) .leaf .leaf) .leaf) (.node (goodT (d:=Tryz.t39.desc) (info_of Tryz.type39) Tryz.underlying39 rfl) .leaf .leaf)))))
theorem tyT1_ok:TreeAll (GoodT Tryz.prog) tyT1:=(.node (goodT (d:=Tryz.t61.desc) (info_of Tryz.type61) Tryz.underlying61 rfl) (.node (goodT (d:=Tryz.t51.desc) (info_of Tryz.type51) Tryz.underlying51 rfl) (.node (goodT (d:=Tryz.t46.desc) (info_of Tryz.type46) Tryz.underlying46 rfl) (.node (goodT (d:=Tryz.t43.desc) (info_of Tryz.type43) Tryz.underlying43 rfl) (.node (goodT (d:=Tryz.t42.desc) (info_of Tryz.type42) Tryz.underlying42 rfl) (.node (goodT (d:=Tryz.t41.desc) (info_of Tryz.type41) Tryz.underlying41 rfl) .leaf .leaf) .leaf) (.node (goodT (d:=Tryz.t45.desc) (info_of Tryz.type45) Tryz.underlying45 rfl) (.node (goodT (d:=Tryz.t44.desc) (info_of Tryz.type44) Tryz.underlying44 rfl) .leaf .leaf) .leaf)) (.node (goodT (d:=Tryz.t49.desc) (info_of Tryz.type49) Tryz.underlying49 rfl) (.node (goodT (d:=Tryz.t48.desc) (info_of Tryz.type48) Tryz.underlying48 rfl) (.node (goodT (d:=Tryz.t47.desc) (info_of Tryz.type47) Tryz.underlying47 rfl) .leaf .leaf) .leaf) (.node (goodT (d:=Tryz.t50.desc) (info_of Tryz.type50) Tryz.underlying50 rfl) .leaf .leaf))) (.node (goodT (d:=Tryz.t56.desc) (info_of Tryz.type56) Tryz.underlying56 rfl) (.node (goodT (d:=Tryz.t54.desc) (info_of Tryz.type54) Tryz.underlying54 rfl) (.node (goodT (d:=Tryz.t53.desc) (info_of Tryz.type53) Tryz.underlying53 rfl) (.node (goodT (d:=Tryz.t52.desc) (info_of Tryz.type52) Tryz.underlying52 rfl) .leaf .leaf) .leaf) (.node (goodT (d:=Tryz.t55.desc) (info_of Tryz.type55) Tryz.underlying55 rfl) .leaf .leaf)) (.node (goodT (d:=Tryz.t59.desc) (info_of Tryz.type59) Tryz.underlying59 rfl) (.node (goodT (d:=Tryz.t58.desc) (info_of Tryz.type58) Tryz.underlying58 rfl) (.node (goodT (d:=Tryz.t57.desc) (info_of Tryz.type57) Tryz.underlying57 rfl) .leaf .leaf) .leaf) (.node (goodT (d:=Tryz.t60.desc) (info_of Tryz.type60) Tryz.underlying60 rfl) .leaf .leaf)))) (.node (goodT (d:=Tryz.t71.desc) (info_of Tryz.type71) Tryz.underlying71 rfl) (.node (goodT (d:=Tryz.t66.desc) (info_of Tryz.type66) Tryz.underlying66 rfl) (.node (goodT (d:=Tryz.t64.desc) (info_of Tryz.type64) Tryz.underlying64 rfl) (.node (goodT (d:=Tryz.t63.desc) (info_of Tryz.type63) Tryz.underlying63 rfl) (.node (goodT (d:=Tryz.t61.desc) (info_of Tryz.type62) Tryz.underlying62 rfl) .leaf .leaf) .leaf) (.node (goodT (d:=Tryz.t65.desc) (info_of Tryz.type65) Tryz.underlying65 rfl) .leaf .leaf)) (.node (goodT (d:=Tryz.t69.desc) (info_of Tryz.type69) Tryz.underlying69 rfl) (.node (goodT (d:=Tryz.t68.desc) (info_of Tryz.type68) Tryz.underlying68 rfl) (.node (goodT (d:=Tryz.t67.desc) (info_of Tryz.type67) Tryz.underlying67 rfl) .leaf .leaf) .leaf) (.node (goodT (d:=Tryz.t70.desc) (info_of Tryz.type70) Tryz.underlying70 rfl) .leaf .leaf))) (.node (goodT (d:=Tryz.t76.desc) (info_of Tryz.type76) Tryz.underlying76 rfl) (.node (goodT (d:=Tryz.t74.desc) (info_of Tryz.type74) Tryz.underlying74 rfl) (.node (goodT (d:=Tryz.t73.desc) (info_of Tryz.type73) Tryz.underlying73 rfl) (.node (goodT (d:=Tryz.t72.desc) (info_of Tryz.type72) Tryz.underlying72 rfl) .leaf .leaf) .leaf) (.node (goodT (d:=Tryz.t75.desc) (info_of Tryz.type75) Tryz.underlying75 rfl) .leaf .leaf)) (.node (goodT (d:=Tryz.t79.desc) (info_of Tryz.type79) Tryz.underlying79 rfl) (.node (goodT (d:=Tryz.t78.desc) (info_of Tryz.type78) Tryz.underlying78 rfl) (.node (goodT (d:=Tryz.t77.desc) (info_of Tryz.type77) Tryz.underlying77 rfl) .leaf .leaf) .leaf) (.node (goodT (d:=Tryz.t79.desc) (info_of Tryz.type80) Tryz.underlying80 rfl) .leaf .leaf)))))
theorem tyT2_ok:TreeAll (GoodT Tryz.prog) tyT2:=(.node (goodT (d:=Tryz.t102.desc) (info_of Tryz.type102) Tryz.underlying102 rfl) (.node (goodT (d:=Tryz.t92.desc) (info_of Tryz.type92) Tryz.underlying92 rfl) (.node (goodT (d:=Tryz.t87.desc) (info_of Tryz.type87) Tryz.underlying87 rfl) (.node (goodT (d:=Tryz.t84.desc) (info_of Tryz.type84) Tryz.underlying84 rfl) (.node (goodT (d:=Tryz.t83.desc) (info_of Tryz.type83) Tryz.underlying83 rfl) (.node (goodT (d:=Tryz.t82.desc) (info_of Tryz.type82) Tryz.underlying82 rfl) .leaf .leaf) .leaf) (.node (goodT (d:=Tryz.t86.desc) (info_of Tryz.type86) Tryz.underlying86 rfl) (.node (goodT (d:=Tryz.t85.desc) (info_of Tryz.type85) Tryz.underlying85 rfl) .leaf .leaf) .leaf)) (.node (goodT (d:=Tryz.t89.desc) (info_of Tryz.type90) Tryz.underlying90 rfl) (.node (goodT (d:=Tryz.t89.desc) (info_of Tryz.type89) Tryz.underlying89 rfl) (.node (goodT (d:=Tryz.t88.desc) (info_of Tryz.type88) Tryz.underlying88 rfl) .leaf .leaf) .leaf) (.node (goodT (d:=Tryz.t91.desc) (info_of Tryz.type91) Tryz.underlying91 rfl) .leaf .leaf))) (.node (goodT (d:=Tryz.t97.desc) (info_of Tryz.type97) Tryz.underlying97 rfl) (.node (goodT (d:=Tryz.t95.desc) (info_of Tryz.type95) Tryz.underlying95 rfl) (.node (goodT (d:=Tryz.t94.desc) (info_of Tryz.type94) Tryz.underlying94 rfl) (.node (goodT (d:=Tryz.t93.desc) (info_of Tryz.type93) Tryz.underlying93 rfl) .leaf .leaf) .leaf) (.node (goodT (d:=Tryz.t96.desc) (info_of Tryz.type96) Tryz.underlying96 rfl) .leaf .leaf)) (.node (goodT (d:=Tryz.t100.desc) (info_of Tryz.type100) Tryz.underlying100 rfl) (.node (goodT (d:=Tryz.t98.desc) (info_of Tryz.type99) Tryz.underlying99 rfl) (.node (goodT (d:=Tryz.t98.desc) (info_of Tryz.type98) Tryz.underlying98 rfl) .leaf .leaf) .leaf) (.node (goodT (d:=Tryz.t101.desc) (info_of Tryz.type101) Tryz.underlying101 rfl) .leaf .leaf)))) (.node (goodT (d:=Tryz.t112.desc) (info_of Tryz.type112) Tryz.underlying112 rfl) (.node (goodT (d:=Tryz.t107.desc) (info_of Tryz.type107) Tryz.underlying107 rfl) (.node (goodT (d:=Tryz.t105.desc) (info_of Tryz.type105) Tryz.underlying105 rfl) (.node (goodT (d:=Tryz.t104.desc) (info_of Tryz.type104) Tryz.underlying104 rfl) (.node (goodT (d:=Tryz.t102.desc) (info_of Tryz.type103) Tryz.underlying103 rfl) .leaf .leaf) .leaf) (.node (goodT (d:=Tryz.t105.desc) (info_of Tryz.type106) Tryz.underlying106 rfl) .leaf .leaf)) (.node (goodT (d:=Tryz.t110.desc) (info_of Tryz.type110) Tryz.underlying110 rfl) (.node (goodT (d:=Tryz.t108.desc) (info_of Tryz.type109) Tryz.underlying109 rfl) (.node (goodT (d:=Tryz.t108.desc) (info_of Tryz.type108) Tryz.underlying108 rfl) .leaf .leaf) .leaf) (.node (goodT (d:=Tryz.t111.desc) (info_of Tryz.type111) Tryz.underlying111 rfl) .leaf .leaf))) (.node (goodT (d:=Tryz.t117.desc) (info_of Tryz.type117) Tryz.underlying117 rfl) (.node (goodT (d:=Tryz.t115.desc) (info_of Tryz.type115) Tryz.underlying115 rfl) (.node (goodT (d:=Tryz.t114.desc) (info_of Tryz.type114) Tryz.underlying114 rfl) (.node (goodT (d:=Tryz.t113.desc) (info_of Tryz.type113) Tryz.underlying113 rfl) .leaf .leaf) .leaf) (.node (goodT (d:=Tryz.t116.desc) (info_of Tryz.type116) Tryz.underlying116 rfl) .leaf .leaf)) (.node (goodT (d:=Tryz.t120.desc) (info_of Tryz.type120) Tryz.underlying120 rfl) (.node (goodT (d:=Tryz.t119.desc) (info_of Tryz.type119) Tryz.underlying119 rfl) (.node (goodT (d:=Tryz.t118.desc) (info_of Tryz.type118) Tryz.underlying118 rfl) .leaf .leaf) .leaf) (.node (goodT (d:=Tryz.t121.desc) (info_of Tryz.type121) Tryz.underlying121 rfl) .leaf .leaf)))))
theorem tyT3_ok:TreeAll (GoodT Tryz.prog) tyT3:=(.node (goodT (d:=Tryz.t142.desc) (info_of Tryz.type142) Tryz.underlying142 rfl) (.node (goodT (d:=Tryz.t132.desc) (info_of Tryz.type132) Tryz.underlying132 rfl) (.node (goodT (d:=Tryz.t127.desc) (info_of Tryz.type127) Tryz.underlying127 rfl) (.node (goodT (d:=Tryz.t125.desc) (info_of Tryz.type125) Tryz.underlying125 rfl) (.node (goodT (d:=Tryz.t124.desc) (info_of Tryz.type124) Tryz.underlying124 rfl) (.node (goodT (d:=Tryz.t123.desc) (info_of Tryz.type123) Tryz.underlying123 rfl) .leaf .leaf) .leaf) (.node (goodT (d:=Tryz.t126.desc) (info_of Tryz.type126) Tryz.underlying126 rfl) .leaf .leaf)) (.node (goodT (d:=Tryz.t130.desc) (info_of Tryz.type130) Tryz.underlying130 rfl) (.node (goodT (d:=Tryz.t128.desc) (info_of Tryz.type129) Tryz.underlying129 rfl) (.node (goodT (d:=Tryz.t128.desc) (info_of Tryz.type128) Tryz.underlying128 rfl) .leaf .leaf) .leaf) (.node (goodT (d:=Tryz.t131.desc) (info_of Tryz.type131) Tryz.underlying131 rfl) .leaf .leaf))) (.node (goodT (d:=Tryz.t137.desc) (info_of Tryz.type137) Tryz.underlying137 rfl) (.node (goodT (d:=Tryz.t135.desc) (info_of Tryz.type135) Tryz.underlying135 rfl) (.node (goodT (d:=Tryz.t134.desc) (info_of Tryz.type134) Tryz.underlying134 rfl) (.node (goodT (d:=Tryz.t133.desc) (info_of Tryz.type133) Tryz.underlying133 rfl) .leaf .leaf) .leaf) (.node (goodT (d:=Tryz.t136.desc) (info_of Tryz.type136) Tryz.underlying136 rfl) .leaf .leaf)) (.node (goodT (d:=Tryz.t140.desc) (info_of Tryz.type140) Tryz.underlying140 rfl) (.node (goodT (d:=Tryz.t139.desc) (info_of Tryz.type139) Tryz.underlying139 rfl) (.node (goodT (d:=Tryz.t138.desc) (info_of Tryz.type138) Tryz.underlying138 rfl) .leaf .leaf) .leaf) (.node (goodT (d:=Tryz.t141.desc) (info_of Tryz.type141) Tryz.underlying141 rfl) .leaf .leaf)))) (.node (goodT (d:=Tryz.t152.desc) (info_of Tryz.type152) Tryz.underlying152 rfl) (.node (goodT (d:=Tryz.t147.desc) (info_of Tryz.type147) Tryz.underlying147 rfl) (.node (goodT (d:=Tryz.t145.desc) (info_of Tryz.type145) Tryz.underlying145 rfl) (.node (goodT (d:=Tryz.t144.desc) (info_of Tryz.type144) Tryz.underlying144 rfl) (.node (goodT (d:=Tryz.t143.desc) (info_of Tryz.type143) Tryz.underlying143 rfl) .leaf .leaf) .leaf) (.node (goodT (d:=Tryz.t146.desc) (info_of Tryz.type146) Tryz.underlying146 rfl) .leaf .leaf)) (.node (goodT (d:=Tryz.t150.desc) (info_of Tryz.type150) Tryz.underlying150 rfl) (.node (goodT (d:=Tryz.t149.desc) (info_of Tryz.type149) Tryz.underlying149 rfl) (.node (goodT (d:=Tryz.t148.desc) (info_of Tryz.type148) Tryz.underlying148 rfl) .leaf .leaf) .leaf) (.node (goodT (d:=Tryz.t151.desc) (info_of Tryz.type151) Tryz.underlying151 rfl) .leaf .leaf))) (.node (goodT (d:=Tryz.t157.desc) (info_of Tryz.type157) Tryz.underlying157 rfl) (.node (goodT (d:=Tryz.t155.desc) (info_of Tryz.type155) Tryz.underlying155 rfl) (.node (goodT (d:=Tryz.t154.desc) (info_of Tryz.type154) Tryz.underlying154 rfl) (.node (goodT (d:=Tryz.t153.desc) (info_of Tryz.type153) Tryz.underlying153 rfl) .leaf .leaf) .leaf) (.node (goodT (d:=Tryz.t156.desc) (info_of Tryz.type156) Tryz.underlying156 rfl) .leaf .leaf)) (.node (goodT (d:=Tryz.t160.desc) (info_of Tryz.type160) Tryz.underlying160 rfl) (.node (goodT (d:=Tryz.t158.desc) (info_of Tryz.type159) Tryz.underlying159 rfl) (.node (goodT (d:=Tryz.t158.desc) (info_of Tryz.type158) Tryz.underlying158 rfl) .leaf .leaf) .leaf) (.node (goodT (d:=Tryz.t161.desc) (info_of Tryz.type161) Tryz.underlying161 rfl) .leaf .leaf)))))
theorem tyT4_ok:TreeAll (GoodT Tryz.prog) tyT4:=(.node (goodT (d:=Tryz.t183.desc) (info_of Tryz.type183) Tryz.underlying183 rfl) (.node (goodT (d:=Tryz.t173.desc) (info_of Tryz.type173) Tryz.underlying173 rfl) (.node (goodT (d:=Tryz.t168.desc) (info_of Tryz.type168) Tryz.underlying168 rfl) (.node (goodT (d:=Tryz.t165.desc) (info_of Tryz.type165) Tryz.underlying165 rfl) (.node (goodT (d:=Tryz.t164.desc) (info_of Tryz.type164) Tryz.underlying164 rfl) (.node (goodT (d:=Tryz.t163.desc) (info_of Tryz.type163) Tryz.underlying163 rfl) .leaf .leaf) .leaf) (.node (goodT (d:=Tryz.t167.desc) (info_of Tryz.type167) Tryz.underlying167 rfl) (.node (goodT (d:=Tryz.t166.desc) (info_of Tryz.type166) Tryz.underlying166 rfl) .leaf .leaf) .leaf)) (.node (goodT (d:=Tryz.t171.desc) (info_of Tryz.type171) Tryz.underlying171 rfl) (.node (goodT (d:=Tryz.t170.desc) (info_of Tryz.type170) Tryz.underlying170 rfl) (.node (goodT (d:=Tryz.t169.desc) (info_of Tryz.type169) Tryz.underlying169 rfl) .leaf .leaf) .leaf) (.node (goodT (d:=Tryz.t172.desc) (info_of Tryz.type172) Tryz.underlying172 rfl) .leaf .leaf))) (.node (goodT (d:=Tryz.t178.desc) (info_of Tryz.type178) Tryz.underlying178 rfl) (.node (goodT (d:=Tryz.t176.desc) (info_of Tryz.type176) Tryz.underlying176 rfl) (.node (goodT (d:=Tryz.t175.desc) (info_of Tryz.type175) Tryz.underlying175 rfl) (.node (goodT (d:=Tryz.t173.desc) (info_of Tryz.type174) Tryz.underlying174 rfl) .leaf .leaf) .leaf) (.node (goodT (d:=Tryz.t177.desc) (info_of Tryz.type177) Tryz.underlying177 rfl) .leaf .leaf)) (.node (goodT (d:=Tryz.t181.desc) (info_of Tryz.type181) Tryz.underlying181 rfl) (.node (goodT (d:=Tryz.t180.desc) (info_of Tryz.type180) Tryz.underlying180 rfl) (.node (goodT (d:=Tryz.t179.desc) (info_of Tryz.type179) Tryz.underlying179 rfl) .leaf .leaf) .leaf) (.node (goodT (d:=Tryz.t182.desc) (info_of Tryz.type182) Tryz.underlying182 rfl) .leaf .leaf)))) (.node (goodT (d:=Tryz.t193.desc) (info_of Tryz.type193) Tryz.underlying193 rfl) (.node (goodT (d:=Tryz.t188.desc) (info_of Tryz.type188) Tryz.underlying188 rfl) (.node (goodT (d:=Tryz.t186.desc) (info_of Tryz.type186) Tryz.underlying186 rfl) (.node (goodT (d:=Tryz.t185.desc) (info_of Tryz.type185) Tryz.underlying185 rfl) (.node (goodT (d:=Tryz.t184.desc) (info_of Tryz.type184) Tryz.underlying184 rfl) .leaf .leaf) .leaf) (.node (goodT (d:=Tryz.t187.desc) (info_of Tryz.type187) Tryz.underlying187 rfl) .leaf .leaf)) (.node (goodT (d:=Tryz.t191.desc) (info_of Tryz.type191) Tryz.underlying191 rfl) (.node (goodT (d:=Tryz.t190.desc) (info_of Tryz.type190) Tryz.underlying190 rfl) (.node (goodT (d:=Tryz.t189.desc) (info_of Tryz.type189) Tryz.underlying189 rfl) .leaf .leaf) .leaf) (.node (goodT (d:=Tryz.t192.desc) (info_of Tryz.type192) Tryz.underlying192 rfl) .leaf .leaf))) (.node (goodT (d:=Tryz.t198.desc) (info_of Tryz.type198) Tryz.underlying198 rfl) (.node (goodT (d:=Tryz.t195.desc) (info_of Tryz.type196) Tryz.underlying196 rfl) (.node (goodT (d:=Tryz.t195.desc) (info_of Tryz.type195) Tryz.underlying195 rfl) (.node (goodT (d:=Tryz.t194.desc) (info_of Tryz.type194) Tryz.underlying194 rfl) .leaf .leaf) .leaf) (.node (goodT (d:=Tryz.t197.desc) (info_of Tryz.type197) Tryz.underlying197 rfl) .leaf .leaf)) (.node (goodT (d:=Tryz.t201.desc) (info_of Tryz.type201) Tryz.underlying201 rfl) (.node (goodT (d:=Tryz.t200.desc) (info_of Tryz.type200) Tryz.underlying200 rfl) (.node (goodT (d:=Tryz.t199.desc) (info_of Tryz.type199) Tryz.underlying199 rfl) .leaf .leaf) .leaf) (.node (goodT (d:=Tryz.t202.desc) (info_of Tryz.type202) Tryz.underlying202 rfl) .leaf .leaf)))))
theorem tyT5_ok:TreeAll (GoodT Tryz.prog) tyT5:=(.node (goodT (d:=Tryz.t224.desc) (info_of Tryz.type224) Tryz.underlying224 rfl) (.node (goodT (d:=Tryz.t214.desc) (info_of Tryz.type214) Tryz.underlying214 rfl) (.node (goodT (d:=Tryz.t209.desc) (info_of Tryz.type209) Tryz.underlying209 rfl) (.node (goodT (d:=Tryz.t206.desc) (info_of Tryz.type206) Tryz.underlying206 rfl) (.node (goodT (d:=Tryz.t205.desc) (info_of Tryz.type205) Tryz.underlying205 rfl) (.node (goodT (d:=Tryz.t204.desc) (info_of Tryz.type204) Tryz.underlying204 rfl) .leaf .leaf) .leaf) (.node (goodT (d:=Tryz.t208.desc) (info_of Tryz.type208) Tryz.underlying208 rfl) (.node (goodT (d:=Tryz.t207.desc) (info_of Tryz.type207) Tryz.underlying207 rfl) .leaf .leaf) .leaf)) (.node (goodT (d:=Tryz.t212.desc) (info_of Tryz.type212) Tryz.underlying212 rfl) (.node (goodT (d:=Tryz.t211.desc) (info_of Tryz.type211) Tryz.underlying211 rfl) (.node (goodT (d:=Tryz.t209.desc) (info_of Tryz.type210) Tryz.underlying210 rfl) .leaf .leaf) .leaf) (.node (goodT (d:=Tryz.t213.desc) (info_of Tryz.type213) Tryz.underlying213 rfl) .leaf .leaf))) (.node (goodT (d:=Tryz.t219.desc) (info_of Tryz.type219) Tryz.underlying219 rfl) (.node (goodT (d:=Tryz.t217.desc) (info_of Tryz.type217) Tryz.underlying217 rfl) (.node (goodT (d:=Tryz.t216.desc) (info_of Tryz.type216) Tryz.underlying216 rfl) (.node (goodT (d:=Tryz.t215.desc) (info_of Tryz.type215) Tryz.underlying215 rfl) .leaf .leaf) .leaf) (.node (goodT (d:=Tryz.t218.desc) (info_of Tryz.type218) Tryz.underlying218 rfl) .leaf .leaf)) (.node (goodT (d:=Tryz.t222.desc) (info_of Tryz.type222) Tryz.underlying222 rfl) (.node (goodT (d:=Tryz.t220.desc) (info_of Tryz.type221) Tryz.underlying221 rfl) (.node (goodT (d:=Tryz.t220.desc) (info_of Tryz.type220) Tryz.underlying220 rfl) .leaf .leaf) .leaf) (.node (goodT (d:=Tryz.t223.desc) (info_of Tryz.type223) Tryz.underlying223 rfl) .leaf .leaf)))) (.node (goodT (d:=Tryz.t234.desc) (info_of Tryz.type234) Tryz.underlying234 rfl) (.node (goodT (d:=Tryz.t229.desc) (info_of Tryz.type229) Tryz.underlying229 rfl) (.node (goodT (d:=Tryz.t227.desc) (info_of Tryz.type227) Tryz.underlying227 rfl) (.node (goodT (d:=Tryz.t226.desc) (info_of Tryz.type226) Tryz.underlying226 rfl) (.node (goodT (d:=Tryz.t225.desc) (info_of Tryz.type225) Tryz.underlying225 rfl) .leaf .leaf) .leaf) (.node (goodT (d:=Tryz.t228.desc) (info_of Tryz.type228) Tryz.underlying228 rfl) .leaf .leaf)) (.node (goodT (d:=Tryz.t232.desc) (info_of Tryz.type232) Tryz.underlying232 rfl) (.node (goodT (d:=Tryz.t230.desc) (info_of Tryz.type231) Tryz.underlying231 rfl) (.node (goodT (d:=Tryz.t230.desc) (info_of Tryz.type230) Tryz.underlying230 rfl) .leaf .leaf) .leaf) (.node (goodT (d:=Tryz.t233.desc) (info_of Tryz.type233) Tryz.underlying233 rfl) .leaf .leaf))) (.node (goodT (d:=Tryz.t239.desc) (info_of Tryz.type239) Tryz.underlying239 rfl) (.node (goodT (d:=Tryz.t237.desc) (info_of Tryz.type237) Tryz.underlying237 rfl) (.node (goodT (d:=Tryz.t236.desc) (info_of Tryz.type236) Tryz.underlying236 rfl) (.node (goodT (d:=Tryz.t235.desc) (info_of Tryz.type235) Tryz.underlying235 rfl) .leaf .leaf) .leaf) (.node (goodT (d:=Tryz.t238.desc) (info_of Tryz.type238) Tryz.underlying238 rfl) .leaf .leaf)) (.node (goodT (d:=Tryz.t242.desc) (info_of Tryz.type242) Tryz.underlying242 rfl) (.node (goodT (d:=Tryz.t241.desc) (info_of Tryz.type241) Tryz.underlying241 rfl) (.node (goodT (d:=Tryz.t240.desc) (info_of Tryz.type240) Tryz.underlying240 rfl) .leaf .leaf) .leaf) (.node (goodT (d:=Tryz.t243.desc) (info_of Tryz.type243) Tryz.underlying243 rfl) .leaf .leaf)))))
theorem tyT6_ok:TreeAll (GoodT Tryz.prog) tyT6:=(.node (goodT (d:=Tryz.t265.desc) (info_of Tryz.type265) Tryz.underlying265 rfl) (.node (goodT (d:=Tryz.t255.desc) (info_of Tryz.type255) Tryz.underlying255 rfl) (.node (goodT (d:=Tryz.t250.desc) (info_of Tryz.type250) Tryz.underlying250 rfl) (.node (goodT (d:=Tryz.t247.desc) (info_of Tryz.type247) Tryz.underlying247 rfl) (.node (goodT (d:=Tryz.t246.desc) (info_of Tryz.type246) Tryz.underlying246 rfl) (.node (goodT (d:=Tryz.t245.desc) (info_of Tryz.type245) Tryz.underlying245 rfl) .leaf .leaf) .leaf) (.node (goodT (d:=Tryz.t249.desc) (info_of Tryz.type249) Tryz.underlying249 rfl) (.node (goodT (d:=Tryz.t248.desc) (info_of Tryz.type248) Tryz.underlying248 rfl) .leaf .leaf) .leaf)) (.node (goodT (d:=Tryz.t253.desc) (info_of Tryz.type253) Tryz.underlying253 rfl) (.node (goodT (d:=Tryz.t252.desc) (info_of Tryz.type252) Tryz.underlying252 rfl) (.node (goodT (d:=Tryz.t3.desc) (info_of Tryz.type251) Tryz.underlying251 rfl) .leaf .leaf) .leaf) (.node (goodT (d:=Tryz.t254.desc) (info_of Tryz.type254) Tryz.underlying254 rfl) .leaf .leaf))) (.node (goodT (d:=Tryz.t260.desc) (info_of Tryz.type260) Tryz.underlying260 rfl) (.node (goodT (d:=Tryz.t258.desc) (info_of Tryz.type258) Tryz.underlying258 rfl) (.node (goodT (d:=Tryz.t257.desc) (info_of Tryz.type257) Tryz.underlying257 rfl) (.node (goodT (d:=Tryz.t256.desc) (info_of Tryz.type256) Tryz.underlying256 rfl) .leaf .leaf) .leaf) (.node (goodT (d:=Tryz.t259.desc) (info_of Tryz.type259) Tryz.underlying259 rfl) .leaf .leaf)) (.node (goodT (d:=Tryz.t263.desc) (info_of Tryz.type263) Tryz.underlying263 rfl) (.node (goodT (d:=Tryz.t262.desc) (info_of Tryz.type262) Tryz.underlying262 rfl) (.node (goodT (d:=Tryz.t261.desc) (info_of Tryz.type261) Tryz.underlying261 rfl) .leaf .leaf) .leaf) (.node (goodT (d:=Tryz.t264.desc) (info_of Tryz.type264) Tryz.underlying264 rfl) .leaf .leaf)))) (.node (goodT (d:=Tryz.t275.desc) (info_of Tryz.type275) Tryz.underlying275 rfl) (.node (goodT (d:=Tryz.t269.desc) (info_of Tryz.type270) Tryz.underlying270 rfl) (.node (goodT (d:=Tryz.t268.desc) (info_of Tryz.type268) Tryz.underlying268 rfl) (.node (goodT (d:=Tryz.t266.desc) (info_of Tryz.type267) Tryz.underlying267 rfl) (.node (goodT (d:=Tryz.t266.desc) (info_of Tryz.type266) Tryz.underlying266 rfl) .leaf .leaf) .leaf) (.node (goodT (d:=Tryz.t269.desc) (info_of Tryz.type269) Tryz.underlying269 rfl) .leaf .leaf)) (.node (goodT (d:=Tryz.t273.desc) (info_of Tryz.type273) Tryz.underlying273 rfl) (.node (goodT (d:=Tryz.t272.desc) (info_of Tryz.type272) Tryz.underlying272 rfl) (.node (goodT (d:=Tryz.t271.desc) (info_of Tryz.type271) Tryz.underlying271 rfl) .leaf .leaf) .leaf) (.node (goodT (d:=Tryz.t274.desc) (info_of Tryz.type274) Tryz.underlying274 rfl) .leaf .leaf))) (.node (goodT (d:=Tryz.t280.desc) (info_of Tryz.type280) Tryz.underlying280 rfl) (.node (goodT (d:=Tryz.t278.desc) (info_of Tryz.type278) Tryz.underlying278 rfl) (.node (goodT (d:=Tryz.t277.desc) (info_of Tryz.type277) Tryz.underlying277 rfl) (.node (goodT (d:=Tryz.t276.desc) (info_of Tryz.type276) Tryz.underlying276 rfl) .leaf .leaf) .leaf) (.node (goodT (d:=Tryz.t279.desc) (info_of Tryz.type279) Tryz.underlying279 rfl) .leaf .leaf)) (.node (goodT (d:=Tryz.t283.desc) (info_of Tryz.type283) Tryz.underlying283 rfl) (.node (goodT (d:=Tryz.t282.desc) (info_of Tryz.type282) Tryz.underlying282 rfl) (.node (goodT (d:=Tryz.t281.desc) (info_of Tryz.type281) Tryz.underlying281 rfl) .leaf .leaf) .leaf) (.node (goodT (d:=Tryz.t284.desc) (info_of Tryz.type284) Tryz.underlying284 rfl) .leaf .leaf)))))
theorem tyT7_ok:TreeAll (GoodT Tryz.prog) tyT7:=(.node (goodT (d:=Tryz.t305.desc) (info_of Tryz.type305) Tryz.underlying305 rfl) (.node (goodT (d:=Tryz.t295.desc) (info_of Tryz.type295) Tryz.underlying295 rfl) (.node (goodT (d:=Tryz.t290.desc) (info_of Tryz.type290) Tryz.underlying290 rfl) (.node (goodT (d:=Tryz.t288.desc) (info_of Tryz.type288) Tryz.underlying288 rfl) (.node (goodT (d:=Tryz.t287.desc) (info_of Tryz.type287) Tryz.underlying287 rfl) (.node (goodT (d:=Tryz.t286.desc) (info_of Tryz.type286) Tryz.underlying286 rfl) .leaf .leaf) .leaf) (.node (goodT (d:=Tryz.t289.desc) (info_of Tryz.type289) Tryz.underlying289 rfl) .leaf .leaf)) (.node (goodT (d:=Tryz.t293.desc) (info_of Tryz.type293) Tryz.underlying293 rfl) (.node (goodT (d:=Tryz.t292.desc) (info_of Tryz.type292) Tryz.underlying292 rfl) (.node (goodT (d:=Tryz.t291.desc) (info_of Tryz.type291) Tryz.underlying291 rfl) .leaf .leaf) .leaf) (.node (goodT (d:=Tryz.t294.desc) (info_of Tryz.type294) Tryz.underlying294 rfl) .leaf .leaf))) (.node (goodT (d:=Tryz.t300.desc) (info_of Tryz.type300) Tryz.underlying300 rfl) (.node (goodT (d:=Tryz.t298.desc) (info_of Tryz.type298) Tryz.underlying298 rfl) (.node (goodT (d:=Tryz.t297.desc) (info_of Tryz.type297) Tryz.underlying297 rfl) (.node (goodT (d:=Tryz.t296.desc) (info_of Tryz.type296) Tryz.underlying296 rfl) .leaf .leaf) .leaf) (.node (goodT (d:=Tryz.t299.desc) (info_of Tryz.type299) Tryz.underlying299 rfl) .leaf .leaf)) (.node (goodT (d:=Tryz.t303.desc) (info_of Tryz.type303) Tryz.underlying303 rfl) (.node (goodT (d:=Tryz.t302.desc) (info_of Tryz.type302) Tryz.underlying302 rfl) (.node (goodT (d:=Tryz.t301.desc) (info_of Tryz.type301) Tryz.underlying301 rfl) .leaf .leaf) .leaf) (.node (goodT (d:=Tryz.t304.desc) (info_of Tryz.type304) Tryz.underlying304 rfl) .leaf .leaf)))) (.node (goodT (d:=Tryz.t314.desc) (info_of Tryz.type315) Tryz.underlying315 rfl) (.node (goodT (d:=Tryz.t310.desc) (info_of Tryz.type310) Tryz.underlying310 rfl) (.node (goodT (d:=Tryz.t308.desc) (info_of Tryz.type308) Tryz.underlying308 rfl) (.node (goodT (d:=Tryz.t307.desc) (info_of Tryz.type307) Tryz.underlying307 rfl) (.node (goodT (d:=Tryz.t306.desc) (info_of Tryz.type306) Tryz.underlying306 rfl) .leaf .leaf) .leaf) (.node (goodT (d:=Tryz.t309.desc) (info_of Tryz.type309) Tryz.underlying309 rfl) .leaf .leaf)) (.node (goodT (d:=Tryz.t313.desc) (info_of Tryz.type313) Tryz.underlying313 rfl) (.node (goodT (d:=Tryz.t311.desc) (info_of Tryz.type312) Tryz.underlying312 rfl) (.node (goodT (d:=Tryz.t311.desc) (info_of Tryz.type311) Tryz.underlying311 rfl) .leaf .leaf) .leaf) (.node (goodT (d:=Tryz.t314.desc) (info_of Tryz.type314) Tryz.underlying314 rfl) .leaf .leaf))) (.node (goodT (d:=Tryz.t21.desc) (info_of Tryz.type320) Tryz.underlying320 rfl) (.node (goodT (d:=Tryz.t318.desc) (info_of Tryz.type318) Tryz.underlying318 rfl) (.node (goodT (d:=Tryz.t5.desc) (info_of Tryz.type317) Tryz.underlying317 rfl) (.node (goodT (d:=Tryz.t5.desc) (info_of Tryz.type316) Tryz.underlying316 rfl) .leaf .leaf) .leaf) (.node (goodT (d:=Tryz.t319.desc) (info_of Tryz.type319) Tryz.underlying319 rfl) .leaf .leaf)) (.node (goodT (d:=Tryz.t322.desc) (info_of Tryz.type323) Tryz.underlying323 rfl) (.node (goodT (d:=Tryz.t322.desc) (info_of Tryz.type322) Tryz.underlying322 rfl) (.node (goodT (d:=Tryz.t21.desc) (info_of Tryz.type321) Tryz.underlying321 rfl) .leaf .leaf) .leaf) (.node (goodT (d:=Tryz.t324.desc) (info_of Tryz.type324) Tryz.underlying324 rfl) .leaf .leaf)))))
theorem tyT_ok:TreeAll (GoodT Tryz.prog) tyT:=(.node (goodT (d:=Tryz.t161.desc) (info_of Tryz.type162) Tryz.underlying162 rfl) (.node (goodT (d:=Tryz.t81.desc) (info_of Tryz.type81) Tryz.underlying81 rfl) (.node (goodT (d:=Tryz.t40.desc) (info_of Tryz.type40) Tryz.underlying40 rfl) tyT0_ok tyT1_ok) (.node (goodT (d:=Tryz.t121.desc) (info_of Tryz.type122) Tryz.underlying122 rfl) tyT2_ok tyT3_ok)) (.node (goodT (d:=Tryz.t244.desc) (info_of Tryz.type244) Tryz.underlying244 rfl) (.node (goodT (d:=Tryz.t203.desc) (info_of Tryz.type203) Tryz.underlying203 rfl) tyT4_ok tyT5_ok) (.node (goodT (d:=Tryz.t261.desc) (info_of Tryz.type285) Tryz.underlying285 rfl) tyT6_ok tyT7_ok)))
theorem ok2:okB Tryz.f2.body=true:=by kernel_rfl
theorem ok3:okB Tryz.f3.body=true:=by kernel_rfl
theorem ok4:okB Tryz.f4.body=true:=by kernel_rfl
theorem ok5:okB Tryz.f5.body=true:=by kernel_rfl
theorem ok6:okB Tryz.f6.body=true:=by kernel_rfl
theorem ok7:okB Tryz.f7.body=true:=by kernel_rfl
theorem ok8:okB Tryz.f8.body=true:=by kernel_rfl
theorem ok9:okB Tryz.f9.body=true:=by kernel_rfl
theorem ok10:okB Tryz.f10.body=true:=by kernel_rfl
theorem ok11:okB Tryz.f11.body=true:=by kernel_rfl
theorem ok12:okB Tryz.f12.body=true:=by kernel_rfl
theorem ok13:okB Tryz.f13.body=true:=by kernel_rfl
theorem ok14:okB Tryz.f14.body=true:=by kernel_rfl
theorem ok15:okB Tryz.f15.body=true:=by kernel_rfl
theorem ok16:okB Tryz.f16.body=true:=by kernel_rfl
theorem ok17:okB Tryz.f17.body=true:=by kernel_rfl
theorem ok18:okB Tryz.f18.body=true:=by kernel_rfl
theorem ok19:okB Tryz.f19.body=true:=by kernel_rfl
theorem ok20:okB Tryz.f20.body=true:=by kernel_rfl
theorem ok21:okB Tryz.f21.body=true:=by kernel_rfl
theorem ok22:okB Tryz.f22.body=true:=by kernel_rfl
theorem ok23:okB Tryz.f23.body=true:=by kernel_rfl
theorem ok24:okB Tryz.f24.body=true:=by kernel_rfl
theorem ok25:okB Tryz.f25.body=true:=by kernel_rfl
theorem ok26:okB Tryz.f26.body=true:=by kernel_rfl
theorem ok27:okB Tryz.f27.body=true:=by kernel_rfl
theorem ok28:okB Tryz.f28.body=true:=by kernel_rfl
theorem ok29:okB Tryz.f29.body=true:=by kernel_rfl
theorem ok30:okB Tryz.f30.body=true:=by kernel_rfl
theorem ok31:okB Tryz.f31.body=true:=by kernel_rfl
theorem ok32:okB Tryz.f32.body=true:=by kernel_rfl
theorem ok33:okB Tryz.f33.body=true:=by kernel_rfl
theorem ok34:okB Tryz.f34.body=true:=by kernel_rfl
theorem ok35:okB Tryz.f35.body=true:=by kernel_rfl
theorem ok36:okB Tryz.f36.body=true:=by kernel_rfl
theorem ok37:okB Tryz.f37.body=true:=by kernel_rfl
theorem ok38:okB Tryz.f38.body=true:=by kernel_rfl
theorem ok39:okB Tryz.f39.body=true:=by kernel_rfl
theorem ok40:okB Tryz.f40.body=true:=by kernel_rfl
theorem ok41:okB Tryz.f41.body=true:=by kernel_rfl
theorem ok42:okB Tryz.f42.body=true:=by kernel_rfl
theorem ok43:okB Tryz.f43.body=true:=by kernel_rfl
theorem ok44:okB Tryz.f44.body=true:=by kernel_rfl
theorem ok45:okB Tryz.f45.body=true:=by kernel_rfl
theorem ok46:okB Tryz.f46.body=true:=by kernel_rfl
theorem ok47:okB Tryz.f47.body=true:=by kernel_rfl
theorem ok48:okB Tryz.f48.body=true:=by kernel_rfl
theorem ok49:okB Tryz.f49.body=true:=by kernel_rfl
theorem ok50:okB Tryz.f50.body=true:=by kernel_rfl
theorem ok51:okB Tryz.f51.body=true:=by kernel_rfl
theorem ok52:okB Tryz.f52.body=true:=by kernel_rfl
theorem ok53:okB Tryz.f53.body=true:=by kernel_rfl
theorem ok54:okB Tryz.f54.body=true:=by kernel_rfl
theorem ok55:okB Tryz.f55.body=true:=by kernel_rfl
theorem ok56:okB Tryz.f56.body=true:=by kernel_rfl
theorem ok57:okB Tryz.f57.body=true:=by kernel_rfl
theorem ok58:okB Tryz.f58.body=true:=by kernel_rfl
theorem ok59:okB Tryz.f59.body=true:=by kernel_rfl
theorem ok60:okB Tryz.f60.body=true:=by kernel_rfl
theorem ok61:okB Tryz.f61.body=true:=by kernel_rfl
theorem ok62:okB Tryz.f62.body=true:=by kernel_rfl
theorem ok63:okB Tryz.f63.body=true:=by kernel_rfl
theorem ok64:okB Tryz.f64.body=true:=by kernel_rfl
theorem ok65:okB Tryz.f65.body=true:=by kernel_rfl
theorem ok66:okB Tryz.f66.body=true:=by kernel_rfl
theorem ok67:okB Tryz.f67.body=true:=by kernel_rfl
theorem ok68:okB Tryz.f68.body=true:=by kernel_rfl
theorem ok69:okB Tryz.f69.body=true:=by kernel_rfl
theorem ok70:okB Tryz.f70.body=true:=by kernel_rfl
theorem ok71:okB Tryz.f71.body=true:=by kernel_rfl
theorem ok72:okB Tryz.f72.body=true:=by kernel_rfl
theorem ok73:okB Tryz.f73.body=true:=by kernel_rfl
theorem ok74:okB Tryz.f74.body=true:=by kernel_rfl
theorem ok75:okB Tryz.f75.body=true:=by kernel_rfl
theorem ok76:okB Tryz.f76.body=true:=by kernel_rfl
theorem ok77:okB Tryz.f77.body=true:=by kernel_rfl
theorem ok78:okB Tryz.f78.body=true:=by kernel_rfl
theorem ok79:okB Tryz.f79.body=true:=by kernel_rfl
theorem ok80:okB Tryz.f80.body=true:=by kernel_rfl
theorem ok81:okB Tryz.f81.body=true:=by kernel_rfl
theorem ok82:okB Tryz.f82.body=true:=by kernel_rfl
theorem ok83:okB Tryz.f83.body=true:=by kernel_rfl
theorem ok84:okB Tryz.f84.body=true:=by kernel_rfl
theorem ok85:okB Tryz.f85.body=true:=by kernel_rfl
theorem ok86:okB Tryz.f86.body=true:=by kernel_rfl
theorem ok87:okB Tryz.f87.body=true:=by kernel_rfl
theorem ok88:okB Tryz.f88.body=true:=by kernel_rfl
theorem ok89:okB Tryz.f89.body=true:=by kernel_rfl
theorem ok90:okB Tryz.f90.body=true:=by kernel_rfl
theorem ok91:okB Tryz.f91.body=true:=by kernel_rfl
theorem ok92:okB Tryz.f92.body=true:=by kernel_rfl
theorem ok93:okB Tryz.f93.body=true:=by kernel_rfl
theorem ok94:okB Tryz.f94.body=true:=by kernel_rfl
theorem ok95:okB Tryz.f95.body=true:=by kernel_rfl
theorem ok96:okB Tryz.f96.body=true:=by kernel_rfl
theorem ok97:okB Tryz.f97.body=true:=by kernel_rfl
theorem ok98:okB Tryz.f98.body=true:=by kernel_rfl
theorem ok99:okB Tryz.f99.body=true:=by kernel_rfl
theorem ok100:okB Tryz.f100.body=true:=by kernel_rfl
theorem ok101:okB Tryz.f101.body=true:=by kernel_rfl
theorem ok102:okB Tryz.f102.body=true:=by kernel_rfl
theorem ok103:okB Tryz.f103.body=true:=by kernel_rfl
theorem ok104:okB Tryz.f104.body=true:=by kernel_rfl
theorem ok105:okB Tryz.f105.body=true:=by kernel_rfl
theorem ok106:okB Tryz.f106.body=true:=by kernel_rfl
theorem ok107:okB Tryz.f107.body=true:=by kernel_rfl
theorem ok108:okB Tryz.f108.body=true:=by kernel_rfl
theorem ok109:okB Tryz.f109.body=true:=by kernel_rfl
theorem ok110:okB Tryz.f110.body=true:=by kernel_rfl
theorem ok111:okB Tryz.f111.body=true:=by kernel_rfl
theorem ok112:okB Tryz.f112.body=true:=by kernel_rfl
theorem ok113:okB Tryz.f113.body=true:=by kernel_rfl
theorem ok114:okB Tryz.f114.body=true:=by kernel_rfl
theorem ok115:okB Tryz.f115.body=true:=by kernel_rfl
theorem ok116:okB Tryz.f116.body=true:=by kernel_rfl
theorem ok117:okB Tryz.f117.body=true:=by kernel_rfl
theorem ok118:okB Tryz.f118.body=true:=by kernel_rfl
theorem ok119:okB Tryz.f119.body=true:=by kernel_rfl
theorem ok120:okB Tryz.f120.body=true:=by kernel_rfl
theorem ok121:okB Tryz.f121.body=true:=by kernel_rfl
theorem ok122:okB Tryz.f122.body=true:=by kernel_rfl
theorem ok123:okB Tryz.f123.body=true:=by kernel_rfl
theorem ok124:okB Tryz.f124.body=true:=by kernel_rfl
theorem ok125:okB Tryz.f125.body=true:=by kernel_rfl
theorem ok126:okB Tryz.f126.body=true:=by kernel_rfl
theorem ok127:okB Tryz.f127.body=true:=by kernel_rfl
theorem ok128:okB Tryz.f128.body=true:=by kernel_rfl
theorem ok129:okB Tryz.f129.body=true:=by kernel_rfl
theorem ok130:okB Tryz.f130.body=true:=by kernel_rfl
theorem ok131:okB Tryz.f131.body=true:=by kernel_rfl
theorem ok132:okB Tryz.f132.body=true:=by kernel_rfl
theorem ok133:okB Tryz.f133.body=true:=by kernel_rfl
theorem ok134:okB Tryz.f134.body=true:=by kernel_rfl
theorem ok135:okB Tryz.f135.body=true:=by kernel_rfl
theorem ok136:okB Tryz.f136.body=true:=by kernel_rfl
theorem ok137:okB Tryz.f137.body=true:=by kernel_rfl
theorem ok138:okB Tryz.f138.body=true:=by kernel_rfl
theorem ok139:okB Tryz.f139.body=true:=by kernel_rfl
theorem ok140:okB Tryz.f140.body=true:=by kernel_rfl
theorem ok141:okB Tryz.f141.body=true:=by kernel_rfl
theorem ok142:okB Tryz.f142.body=true:=by kernel_rfl
theorem ok143:okB Tryz.f143.body=true:=by kernel_rfl
theorem ok144:okB Tryz.f144.body=true:=by kernel_rfl
theorem ok145:okB Tryz.f145.body=true:=by kernel_rfl
theorem ok146:okB Tryz.f146.body=true:=by kernel_rfl
theorem ok147:okB Tryz.f147.body=true:=by kernel_rfl
theorem ok148:okB Tryz.f148.body=true:=by kernel_rfl
theorem ok149:okB Tryz.f149.body=true:=by kernel_rfl
theorem ok150:okB Tryz.f150.body=true:=by kernel_rfl
theorem ok151:okB Tryz.f151.body=true:=by kernel_rfl
theorem ok152:okB Tryz.f152.body=true:=by kernel_rfl
theorem ok153:okB Tryz.f153.body=true:=by kernel_rfl
theorem ok154:okB Tryz.f154.body=true:=by kernel_rfl
theorem ok155:okB Tryz.f155.body=true:=by kernel_rfl
theorem ok156:okB Tryz.f156.body=true:=by kernel_rfl
theorem ok157:okB Tryz.f157.body=true:=by kernel_rfl
theorem ok158:okB Tryz.f158.body=true:=by kernel_rfl
theorem ok159:okB Tryz.f159.body=true:=by kernel_rfl
theorem ok160:okB Tryz.f160.body=true:=by kernel_rfl
theorem ok161:okB Tryz.f161.body=true:=by kernel_rfl
theorem ok162:okB Tryz.f162.body=true:=by kernel_rfl
theorem ok163:okB Tryz.f163.body=true:=by kernel_rfl
theorem ok164:okB Tryz.f164.body=true:=by kernel_rfl
theorem ok165:okB Tryz.f165.body=true:=by kernel_rfl
theorem ok166:okB Tryz.f166.body=true:=by kernel_rfl
theorem ok167:okB Tryz.f167.body=true:=by kernel_rfl
theorem ok168:okB Tryz.f168.body=true:=by kernel_rfl
theorem ok169:okB Tryz.f169.body=true:=by kernel_rfl
theorem ok170:okB Tryz.f170.body=true:=by kernel_rfl
theorem ok171:okB Tryz.f171.body=true:=by kernel_rfl
theorem ok172:okB Tryz.f172.body=true:=by kernel_rfl
theorem ok173:okB Tryz.f173.body=true:=by kernel_rfl
theorem ok174:okB Tryz.f174.body=true:=by kernel_rfl
theorem ok175:okB Tryz.f175.body=true:=by kernel_rfl
theorem ok176:okB Tryz.f176.body=true:=by kernel_rfl
theorem ok177:okB Tryz.f177.body=true:=by kernel_rfl
theorem ok178:okB Tryz.f178.body=true:=by kernel_rfl
theorem ok179:okB Tryz.f179.body=true:=by kernel_rfl
theorem ok180:okB Tryz.f180.body=true:=by kernel_rfl
theorem ok181:okB Tryz.f181.body=true:=by kernel_rfl
theorem ok182:okB Tryz.f182.body=true:=by kernel_rfl
theorem ok183:okB Tryz.f183.body=true:=by kernel_rfl
theorem ok184:okB Tryz.f184.body=true:=by kernel_rfl
theorem ok185:okB Tryz.f185.body=true:=by kernel_rfl
theorem ok186:okB Tryz.f186.body=true:=by kernel_rfl
theorem ok187:okB Tryz.f187.body=true:=by kernel_rfl
theorem ok188:okB Tryz.f188.body=true:=by kernel_rfl
theorem ok189:okB Tryz.f189.body=true:=by kernel_rfl
theorem ok190:okB Tryz.f190.body=true:=by kernel_rfl
theorem ok191:okB Tryz.f191.body=true:=by kernel_rfl
theorem ok192:okB Tryz.f192.body=true:=by kernel_rfl
theorem ok193:okB Tryz.f193.body=true:=by kernel_rfl
theorem ok194:okB Tryz.f194.body=true:=by kernel_rfl
theorem ok195:okB Tryz.f195.body=true:=by kernel_rfl
theorem ok196:okB Tryz.f196.body=true:=by kernel_rfl
theorem ok197:okB Tryz.f197.body=true:=by kernel_rfl
theorem ok198:okB Tryz.f198.body=true:=by kernel_rfl
theorem ok199:okB Tryz.f199.body=true:=by kernel_rfl
theorem ok200:okB Tryz.f200.body=true:=by kernel_rfl
theorem ok201:okB Tryz.f201.body=true:=by kernel_rfl
theorem ok202:okB Tryz.f202.body=true:=by kernel_rfl
theorem ok203:okB Tryz.f203.body=true:=by kernel_rfl
theorem ok204:okB Tryz.f204.body=true:=by kernel_rfl
theorem ok205:okB Tryz.f205.body=true:=by kernel_rfl
theorem ok206:okB Tryz.f206.body=true:=by kernel_rfl
theorem ok207:okB Tryz.f207.body=true:=by kernel_rfl
theorem ok208:okB Tryz.f208.body=true:=by kernel_rfl
theorem ok209:okB Tryz.f209.body=true:=by kernel_rfl
theorem ok210:okB Tryz.f210.body=true:=by kernel_rfl
theorem ok211:okB Tryz.f211.body=true:=by kernel_rfl
theorem ok212:okB Tryz.f212.body=true:=by kernel_rfl
theorem ok213:okB Tryz.f213.body=true:=by kernel_rfl
theorem ok214:okB Tryz.f214.body=true:=by kernel_rfl
theorem ok215:okB Tryz.f215.body=true:=by kernel_rfl
theorem ok216:okB Tryz.f216.body=true:=by kernel_rfl
theorem ok217:okB Tryz.f217.body=true:=by kernel_rfl
theorem ok218:okB Tryz.f218.body=true:=by kernel_rfl
theorem ok219:okB Tryz.f219.body=true:=by kernel_rfl
theorem ok220:okB Tryz.f220.body=true:=by kernel_rfl
theorem ok221:okB Tryz.f221.body=true:=by kernel_rfl
theorem ok222:okB Tryz.f222.body=true:=by kernel_rfl
theorem ok223:okB Tryz.f223.body=true:=by kernel_rfl
theorem ok224:okB Tryz.f224.body=true:=by kernel_rfl
theorem ok225:okB Tryz.f225.body=true:=by kernel_rfl
theorem ok226:okB Tryz.f226.body=true:=by kernel_rfl
theorem ok227:okB Tryz.f227.body=true:=by kernel_rfl
theorem ok228:okB Tryz.f228.body=true:=by kernel_rfl
theorem ok229:okB Tryz.f229.body=true:=by kernel_rfl
theorem ok230:okB Tryz.f230.body=true:=by kernel_rfl
theorem ok231:okB Tryz.f231.body=true:=by kernel_rfl
theorem ok232:okB Tryz.f232.body=true:=by kernel_rfl
theorem ok233:okB Tryz.f233.body=true:=by kernel_rfl
theorem ok234:okB Tryz.f234.body=true:=by kernel_rfl
theorem ok235:okB Tryz.f235.body=true:=by kernel_rfl
theorem ok236:okB Tryz.f236.body=true:=by kernel_rfl
theorem ok237:okB Tryz.f237.body=true:=by kernel_rfl
theorem ok238:okB Tryz.f238.body=true:=by kernel_rfl
theorem ok239:okB Tryz.f239.body=true:=by kernel_rfl
theorem ok240:okB Tryz.f240.body=true:=by kernel_rfl
theorem ok241:okB Tryz.f241.body=true:=by kernel_rfl
theorem ok242:okB Tryz.f242.body=true:=by kernel_rfl
theorem ok243:okB Tryz.f243.body=true:=by kernel_rfl
theorem ok244:okB Tryz.f244.body=true:=by kernel_rfl
theorem ok245:okB Tryz.f245.body=true:=by kernel_rfl
theorem ok246:okB Tryz.f246.body=true:=by kernel_rfl
theorem ok247:okB Tryz.f247.body=true:=by kernel_rfl
theorem ok248:okB Tryz.f248.body=true:=by kernel_rfl
theorem ok249:okB Tryz.f249.body=true:=by kernel_rfl
theorem ok250:okB Tryz.f250.body=true:=by kernel_rfl
theorem ok251:okB Tryz.f251.body=true:=by kernel_rfl
theorem ok252:okB Tryz.f252.body=true:=by kernel_rfl
theorem ok253:okB Tryz.f253.body=true:=by kernel_rfl
theorem ok254:okB Tryz.f254.body=true:=by kernel_rfl
theorem ok255:okB Tryz.f255.body=true:=by kernel_rfl
theorem ok256:okB Tryz.f256.body=true:=by kernel_rfl
theorem ok257:okB Tryz.f257.body=true:=by kernel_rfl
theorem ok258:okB Tryz.f258.body=true:=by kernel_rfl
theorem ok259:okB Tryz.f259.body=true:=by kernel_rfl
theorem ok260:okB Tryz.f260.body=true:=by kernel_rfl
theorem ok261:okB Tryz.f261.body=true:=by kernel_rfl
theorem ok262:okB Tryz.f262.body=true:=by kernel_rfl
theorem ok263:okB Tryz.f263.body=true:=by kernel_rfl
theorem ok264:okB Tryz.f264.body=true:=by kernel_rfl
theorem ok265:okB Tryz.f265.body=true:=by kernel_rfl
theorem ok266:okB Tryz.f266.body=true:=by kernel_rfl
theorem ok267:okB Tryz.f267.body=true:=by kernel_rfl
theorem ok268:okB Tryz.f268.body=true:=by kernel_rfl
theorem ok269:okB Tryz.f269.body=true:=by kernel_rfl
theorem ok270:okB Tryz.f270.body=true:=by kernel_rfl
theorem nm2:(Tryz.f2.name == "runtime.NumGoroutine")=false:=by kernel_rfl
theorem nm3:(Tryz.f3.name == "runtime.NumGoroutine")=false:=by kernel_rfl
theorem nm4:(Tryz.f4.name == "runtime.NumGoroutine")=false:=by kernel_rfl
theorem nm5:(Tryz.f5.name == "runtime.NumGoroutine")=false:=by kernel_rfl
theorem nm6:(Tryz.f6.name == "runtime.NumGoroutine")=false:=by kernel_rfl
theorem nm7:(Tryz.f7.name == "runtime.NumGoroutine")=false:=by kernel_rfl
theorem nm8:(Tryz.f8.name == "runtime.NumGoroutine")=false:=by kernel_rfl
theorem nm9:(Tryz.f9.name == "runtime.NumGoroutine")=false:=by kernel_rfl
theorem nm10:(Tryz.f10.name == "runtime.NumGoroutine")=false:=by kernel_rfl
theorem nm11:(Tryz.f11.name == "runtime.NumGoroutine")=false:=by kernel_rfl
theorem nm12:(Tryz.f12.name == "runtime.NumGoroutine")=false:=by kernel_rfl
theorem nm13:(Tryz.f13.name == "runtime.NumGoroutine")=false:=by kernel_rfl
theorem nm14:(Tryz.f14.name == "runtime.NumGoroutine")=false:=by kernel_rfl
theorem nm15:(Tryz.f15.name == "runtime.NumGoroutine")=false:=by kernel_rfl
theorem nm16:(Tryz.f16.name == "runtime.NumGoroutine")=false:=by kernel_rfl
theorem nm17:(Tryz.f17.name == "runtime.NumGoroutine")=false:=by kernel_rfl
theorem nm18:(Tryz.f18.name == "runtime.NumGoroutine")=false:=by kernel_rfl
theorem nm19:(Tryz.f19.name == "runtime.NumGoroutine")=false:=by kernel_rfl
theorem nm20:(Tryz.f20.name == "runtime.NumGoroutine")=false:=by kernel_rfl
theorem nm21:(Tryz.f21.name == "runtime.NumGoroutine")=false:=by kernel_rfl
theorem nm22:(Tryz.f22.name == "runtime.NumGoroutine")=false:=by kernel_rfl
theorem nm23:(Tryz.f23.name == "runtime.NumGoroutine")=false:=by kernel_rfl
theorem nm24:(Tryz.f24.name == "runtime.NumGoroutine")=false:=by kernel_rfl
theorem nm25:(Tryz.f25.name == "runtime.NumGoroutine")=false:=by kernel_rfl
theorem nm26:(Tryz.f26.name == "runtime.NumGoroutine")=false:=by kernel_rfl
theorem nm27:(Tryz.f27.name == "runtime.NumGoroutine")=false:=by kernel_rfl
theorem nm28:(Tryz.f28.name == "runtime.NumGoroutine")=false:=by kernel_rfl
theorem nm29:(Tryz.f29.name == "runtime.NumGoroutine")=false:=by kernel_rfl
theorem nm30:(Tryz.f30.name == "runtime.NumGoroutine")=false:=by kernel_rfl
theorem nm31:(Tryz.f31.name == "runtime.NumGoroutine")=false:=by kernel_rfl
theorem nm32:(Tryz.f32.name == "runtime.NumGoroutine")=false:=by kernel_rfl
theorem nm33:(Tryz.f33.name == "runtime.NumGoroutine")=false:=by kernel_rfl
theorem nm34:(Tryz.f34.name == "runtime.NumGoroutine")=false:=by kernel_rfl
theorem nm35:(Tryz.f35.name == "runtime.NumGoroutine")=false:=by kernel_rfl
theorem nm36:(Tryz.f36.name == "runtime.NumGoroutine")=false:=by kernel_rfl
theorem nm37:(Tryz.f37.name == "runtime.NumGoroutine")=false:=by kernel_rfl
theorem nm38:(Tryz.f38.name == "runtime.NumGoroutine")=false:=by kernel_rfl
theorem nm39:(Tryz.f39.name == "runtime.NumGoroutine")=false:=by kernel_rfl
theorem nm40:(Tryz.f40.name == "runtime.NumGoroutine")=false:=by kernel_rfl
theorem nm41:(Tryz.f41.name == "runtime.NumGoroutine")=false:=by kernel_rfl
theorem nm42:(Tryz.f42.name == "runtime.NumGoroutine")=false:=by kernel_rfl
theorem nm43:(Tryz.f43.name == "runtime.NumGoroutine")=false:=by kernel_rfl
theorem nm44:(Tryz.f44.name == "runtime.NumGoroutine")=false:=by kernel_rfl
theorem nm45:(Tryz.f45.name == "runtime.NumGoroutine")=false:=by kernel_rfl
theorem nm46:(Tryz.f46.name == "runtime.NumGoroutine")=false:=by kernel_rfl
theorem nm47:(Tryz.f47.name == "runtime.NumGoroutine")=false:=by kernel_rfl
theorem nm48:(Tryz.f48.name == "runtime.NumGoroutine")=false:=by kernel_rfl
theorem nm49:(Tryz.f49.name == "runtime.NumGoroutine")=false:=by kernel_rfl
theorem nm50:(Tryz.f50.name == "runtime.NumGoroutine")=false:=by kernel_rfl
theorem nm51:(Tryz.f51.name == "runtime.NumGoroutine")=false:=by kernel_rfl
theorem nm52:(Tryz.f52.name == "runtime.NumGoroutine")=false:=by kernel_rfl
theorem nm53:(Tryz.f53.name == "runtime.NumGoroutine")=false:=by kernel_rfl
theorem nm54:(Tryz.f54.name == "runtime.NumGoroutine")=false:=by kernel_rfl
theorem nm55:(Tryz.f55.name == "runtime.NumGoroutine")=false:=by kernel_rfl
theorem nm56:(Tryz.f56.name == "runtime.NumGoroutine")=false:=by kernel_rfl
theorem nm57:(Tryz.f57.name == "runtime.NumGoroutine")=false:=by kernel_rfl
theorem nm58:(Tryz.f58.name == "runtime.NumGoroutine")=false:=by kernel_rfl
theorem nm59:(Tryz.f59.name == "runtime.NumGoroutine")=false:=by kernel_rfl
theorem nm60:(Tryz.f60.name == "runtime.NumGoroutine")=false:=by kernel_rfl
theorem nm61:(Tryz.f61.name == "runtime.NumGoroutine")=false:=by kernel_rfl
theorem nm62:(Tryz.f62.name == "runtime.NumGoroutine")=false:=by kernel_rfl
theorem nm63:(Tryz.f63.name == "runtime.NumGoroutine")=false:=by kernel_rfl
theorem nm64:(Tryz.f64.name == "runtime.NumGoroutine")=false:=by kernel_rfl
theorem nm65:(Tryz.f65.name == "runtime.NumGoroutine")=false:=by kernel_rfl
theorem nm66:(Tryz.f66.name == "runtime.NumGoroutine")=false:=by kernel_rfl
theorem nm67:(Tryz.f67.name == "runtime.NumGoroutine")=false:=by kernel_rfl
theorem nm68:(Tryz.f68.name == "runtime.NumGoroutine")=false:=by kernel_rfl
theorem nm69:(Tryz.f69.name == "runtime.NumGoroutine")=false:=by kernel_rfl
theorem nm70:(Tryz.f70.name == "runtime.NumGoroutine")=false:=by kernel_rfl
theorem nm71:(Tryz.f71.name == "runtime.NumGoroutine")=false:=by kernel_rfl
theorem nm72:(Tryz.f72.name == "runtime.NumGoroutine")=false:=by kernel_rfl
theorem nm73:(Tryz.f73.name == "runtime.NumGoroutine")=false:=by kernel_rfl
theorem nm74:(Tryz.f74.name == "runtime.NumGoroutine")=false:=by kernel_rfl
theorem nm75:(Tryz.f75.name == "runtime.NumGoroutine")=false:=by kernel_rfl
theorem nm76:(Tryz.f76.name == "runtime.NumGoroutine")=false:=by kernel_rfl
theorem nm77:(Tryz.f77.name == "runtime.NumGoroutine")=false:=by kernel_rfl
theorem nm78:(Tryz.f78.name == "runtime.NumGoroutine")=false:=by kernel_rfl
theorem nm79:(Tryz.f79.name == "runtime.NumGoroutine")=false:=by kernel_rfl
theorem nm80:(Tryz.f80.name == "runtime.NumGoroutine")=false:=by kernel_rfl
theorem nm81:(Tryz.f81.name == "runtime.NumGoroutine")=false:=by kernel_rfl
theorem nm82:(Tryz.f82.name == "runtime.NumGoroutine")=false:=by kernel_rfl
theorem nm83:(Tryz.f83.name == "runtime.NumGoroutine")=false:=by kernel_rfl
theorem nm84:(Tryz.f84.name == "runtime.NumGoroutine")=false:=by kernel_rfl
theorem nm85:(Tryz.f85.name == "runtime.NumGoroutine")=false:=by kernel_rfl
theorem nm86:(Tryz.f86.name == "runtime.NumGoroutine")=false:=by kernel_rfl
theorem nm87:(Tryz.f87.name == "runtime.NumGoroutine")=false:=by kernel_rfl
theorem nm88:(Tryz.f88.name == "runtime.NumGoroutine")=false:=by kernel_rfl
theorem nm89:(Tryz.f89.name == "runtime.NumGoroutine")=false:=by kernel_rfl
theorem nm90:(Tryz.f90.name == "runtime.NumGoroutine")=false:=by kernel_rfl
theorem nm91:(Tryz.f91.name == "runtime.NumGoroutine")=false:=by kernel_rfl
theorem nm92:(Tryz.f92.name == "runtime.NumGoroutine")=false:=by kernel_rfl
theorem nm93:(Tryz.f93.name == "runtime.NumGoroutine")=false:=by kernel_rfl
theorem nm94:(Tryz.f94.name == "runtime.NumGoroutine")=false:=by kernel_rfl
theorem nm95:(Tryz.f95.name == "runtime.NumGoroutine")=false:=by kernel_rfl
theorem nm96:(Tryz.f96.name == "runtime.NumGoroutine")=false:=by kernel_rfl
theorem nm97:(Tryz.f97.name == "runtime.NumGoroutine")=false:=by kernel_rfl
theorem nm98:(Tryz.f98.name == "runtime.NumGoroutine")=false:=by kernel_rfl
theorem nm99:(Tryz.f99.name == "runtime.NumGoroutine")=false:=by kernel_rfl
theorem nm100:(Tryz.f100.name == "runtime.NumGoroutine")=false:=by kernel_rfl
theorem nm101:(Tryz.f101.name == "runtime.NumGoroutine")=false:=by kernel_rfl
theorem nm102:(Tryz.f102.name == "runtime.NumGoroutine")=false:=by kernel_rfl
theorem nm103:(Tryz.f103.name == "runtime.NumGoroutine")=false:=by kernel_rfl
theorem nm104:(Tryz.f104.name == "runtime.NumGoroutine")=false:=by kernel_rfl
theorem nm105:(Tryz.f105.name == "runtime.NumGoroutine")=false:=by kernel_rfl
theorem nm106:(Tryz.f106.name == "runtime.NumGoroutine")=false:=by kernel_rfl
theorem nm107:(Tryz.f107.name == "runtime.NumGoroutine")=false:=by kernel_rfl
theorem nm108:(Tryz.f108.name == "runtime.NumGoroutine")=false:=by kernel_rfl
theorem nm109:(Tryz.f109.name == "runtime.NumGoroutine")=false:=by kernel_rfl
theorem nm110:(Tryz.f110.name == "runtime.NumGoroutine")=false:=by kernel_rfl
theorem nm111:(Tryz.f111.name == "runtime.NumGoroutine")=false:=by kernel_rfl
theorem nm112:(Tryz.f112.name == "runtime.NumGoroutine")=false:=by kernel_rfl
theorem nm113:(Tryz.f113.name == "runtime.NumGoroutine")=false:=by kernel_rfl
theorem nm114:(Tryz.f114.name == "runtime.NumGoroutine")=false:=by kernel_rfl
theorem nm115:(Tryz.f115.name == "runtime.NumGoroutine")=false:=by kernel_rfl
theorem nm116:(Tryz.f116.name == "runtime.NumGoroutine")=false:=by kernel_rfl
theorem nm117:(Tryz.f117.name == "runtime.NumGoroutine")=false:=by kernel_rfl
theorem nm118:(Tryz.f118.name == "runtime.NumGoroutine")=false:=by kernel_rfl
theorem nm119:(Tryz.f119.name == "runtime.NumGoroutine")=false:=by kernel_rfl
theorem nm120:(Tryz.f120.name == "runtime.NumGoroutine")=false:=by kernel_rfl
theorem nm121:(Tryz.f121.name == "runtime.NumGoroutine")=false:=by kernel_rfl
theorem nm122:(Tryz.f122.name == "runtime.NumGoroutine")=false:=by kernel_rfl
theorem nm123:(Tryz.f123.name == "runtime.NumGoroutine")=false:=by kernel_rfl
theorem nm124:(Tryz.f124.name == "runtime.NumGoroutine")=false:=by kernel_rfl
theorem nm125:(Tryz.f125.name == "runtime.NumGoroutine")=false:=by kernel_rfl
theorem nm126:(Tryz.f126.name == "runtime.NumGoroutine")=false:=by kernel_rfl
theorem nm127:(Tryz.f127.name == "runtime.NumGoroutine")=false:=by kernel_rfl
theorem nm128:(Tryz.f128.name == "runtime.NumGoroutine")=false:=by kernel_rfl
theorem nm129:(Tryz.f129.name == "runtime.NumGoroutine")=false:=by kernel_rfl
theorem nm130:(Tryz.f130.name == "runtime.NumGoroutine")=false:=by kernel_rfl
theorem nm131:(Tryz.f131.name == "runtime.NumGoroutine")=false:=by kernel_rfl
theorem nm132:(Tryz.f132.name == "runtime.NumGoroutine")=false:=by kernel_rfl
theorem nm133:(Tryz.f133.name == "runtime.NumGoroutine")=false:=by kernel_rfl
theorem nm134:(Tryz.f134.name == "runtime.NumGoroutine")=false:=by kernel_rfl
theorem nm135:(Tryz.f135.name == "runtime.NumGoroutine")=false:=by kernel_rfl
theorem nm136:(Tryz.f136.name == "runtime.NumGoroutine")=false:=by kernel_rfl
theorem nm137:(Tryz.f137.name == "runtime.NumGoroutine")=false:=by kernel_rfl
theorem nm138:(Tryz.f138.name == "runtime.NumGoroutine")=false:=by kernel_rfl
theorem nm139:(Tryz.f139.name == "runtime.NumGoroutine")=false:=by kernel_rfl
theorem nm140:(Tryz.f140.name == "runtime.NumGoroutine")=false:=by kernel_rfl
theorem nm141:(Tryz.f141.name == "runtime.NumGoroutine")=false:=by kernel_rfl
theorem nm142:(Tryz.f142.name == "runtime.NumGoroutine")=false:=by kernel_rfl
theorem nm143:(Tryz.f143.name == "runtime.NumGoroutine")=false:=by kernel_rfl
theorem nm144:(Tryz.f144.name == "runtime.NumGoroutine")=false:=by kernel_rfl
theorem nm145:(Tryz.f145.name == "runtime.NumGoroutine")=false:=by kernel_rfl
theorem nm146:(Tryz.f146.name == "runtime.NumGoroutine")=false:=by kernel_rfl
theorem nm147:(Tryz.f147.name == "runtime.NumGoroutine")=false:=by kernel_rfl
theorem nm148:(Tryz.f148.name == "runtime.NumGoroutine")=false:=by kernel_rfl
theorem nm149:(Tryz.f149.name == "runtime.NumGoroutine")=false:=by kernel_rfl
theorem nm150:(Tryz.f150.name == "runtime.NumGoroutine")=false:=by kernel_rfl
theorem nm151:(Tryz.f151.name == "runtime.NumGoroutine")=false:=by kernel_rfl
theorem nm152:(Tryz.f152.name == "runtime.NumGoroutine")=false:=by kernel_rfl
theorem nm153:(Tryz.f153.name == "runtime.NumGoroutine")=false:=by kernel_rfl
theorem nm154:(Tryz.f154.name == "runtime.NumGoroutine")=false:=by kernel_rfl
theorem nm155:(Tryz.f155.name == "runtime.NumGoroutine")=false:=by kernel_rfl
theorem nm156:(Tryz.f156.name == "runtime.NumGoroutine")=false:=by kernel_rfl
theorem nm157:(Tryz.f157.name == "runtime.NumGoroutine")=false:=by kernel_rfl
theorem nm158:(Tryz.f158.name == "runtime.NumGoroutine")=false:=by kernel_rfl
theorem nm159:(Tryz.f159.name == "runtime.NumGoroutine")=false:=by kernel_rfl
theorem nm160:(Tryz.f160.name == "runtime.NumGoroutine")=false:=by kernel_rfl
theorem nm161:(Tryz.f161.name == "runtime.NumGoroutine")=false:=by kernel_rfl
theorem nm162:(Tryz.f162.name == "runtime.NumGoroutine")=false:=by kernel_rfl
theorem nm163:(Tryz.f163.name == "runtime.NumGoroutine")=false:=by kernel_rfl
theorem nm164:(Tryz.f164.name == "runtime.NumGoroutine")=false:=by kernel_rfl
theorem nm165:(Tryz.f165.name == "runtime.NumGoroutine")=false:=by kernel_rfl
theorem nm166:(Tryz.f166.name == "runtime.NumGoroutine")=false:=by kernel_rfl
theorem nm167:(Tryz.f167.name == "runtime.NumGoroutine")=false:=by kernel_rfl
theorem nm168:(Tryz.f168.name == "runtime.NumGoroutine")=false:=by kernel_rfl
theorem nm169:(Tryz.f169.name == "runtime.NumGoroutine")=false:=by kernel_rfl
theorem nm170:(Tryz.f170.name == "runtime.NumGoroutine")=false:=by kernel_rfl
theorem nm171:(Tryz.f171.name == "runtime.NumGoroutine")=false:=by kernel_rfl
theorem nm172:(Tryz.f172.name == "runtime.NumGoroutine")=false:=by kernel_rfl
theorem nm173:(Tryz.f173.name == "runtime.NumGoroutine")=false:=by kernel_rfl
theorem nm174:(Tryz.f174.name == "runtime.NumGoroutine")=false:=by kernel_rfl
theorem nm175:(Tryz.f175.name == "runtime.NumGoroutine")=false:=by kernel_rfl
theorem nm176:(Tryz.f176.name == "runtime.NumGoroutine")=false:=by kernel_rfl
theorem nm177:(Tryz.f177.name == "runtime.NumGoroutine")=false:=by kernel_rfl
theorem nm178:(Tryz.f178.name == "runtime.NumGoroutine")=false:=by kernel_rfl
theorem nm179:(Tryz.f179.name == "runtime.NumGoroutine")=false:=by kernel_rfl
theorem nm180:(Tryz.f180.name == "runtime.NumGoroutine")=false:=by kernel_rfl
theorem nm181:(Tryz.f181.name == "runtime.NumGoroutine")=false:=by kernel_rfl
theorem nm182:(Tryz.f182.name == "runtime.NumGoroutine")=false:=by kernel_rfl
theorem nm183:(Tryz.f183.name == "runtime.NumGoroutine")=false:=by kernel_rfl
theorem nm184:(Tryz.f184.name == "runtime.NumGoroutine")=false:=by kernel_rfl
theorem nm185:(Tryz.f185.name == "runtime.NumGoroutine")=false:=by kernel_rfl
theorem nm186:(Tryz.f186.name == "runtime.NumGoroutine")=false:=by kernel_rfl
theorem nm187:(Tryz.f187.name == "runtime.NumGoroutine")=false:=by kernel_rfl
theorem nm188:(Tryz.f188.name == "runtime.NumGoroutine")=false:=by kernel_rfl
theorem nm189:(Tryz.f189.name == "runtime.NumGoroutine")=false:=by kernel_rfl
theorem nm190:(Tryz.f190.name == "runtime.NumGoroutine")=false:=by kernel_rfl
theorem nm191:(Tryz.f191.name == "runtime.NumGoroutine")=false:=by kernel_rfl
theorem nm192:(Tryz.f192.name == "runtime.NumGoroutine")=false:=by kernel_rfl
theorem nm193:(Tryz.f193.name == "runtime.NumGoroutine")=false:=by kernel_rfl
theorem nm194:(Tryz.f194.name == "runtime.NumGoroutine")=false:=by kernel_rfl
theorem nm195:(Tryz.f195.name == "runtime.NumGoroutine")=false:=by kernel_rfl
theorem nm196:(Tryz.f196.name == "runtime.NumGoroutine")=false:=by kernel_rfl
theorem nm197:(Tryz.f197.name == "runtime.NumGoroutine")=false:=by kernel_rfl
theorem nm198:(Tryz.f198.name == "runtime.NumGoroutine")=false:=by kernel_rfl
theorem nm199:(Tryz.f199.name == "runtime.NumGoroutine")=false:=by kernel_rfl
theorem nm200:(Tryz.f200.name == "runtime.NumGoroutine")=false:=by kernel_rfl
theorem nm201:(Tryz.f201.name == "runtime.NumGoroutine")=false:=by kernel_rfl
theorem nm202:(Tryz.f202.name == "runtime.NumGoroutine")=false:=by kernel_rfl
theorem nm203:(Tryz.f203.name == "runtime.NumGoroutine")=false:=by kernel_rfl
theorem nm204:(Tryz.f204.name == "runtime.NumGoroutine")=false:=by kernel_rfl
theorem nm205:(Tryz.f205.name == "runtime.NumGoroutine")=false:=by kernel_rfl
theorem nm206:(Tryz.f206.name == "runtime.NumGoroutine")=false:=by kernel_rfl
theorem nm207:(Tryz.f207.name == "runtime.NumGoroutine")=false:=by kernel_rfl
theorem nm208:(Tryz.f208.name == "runtime.NumGoroutine")=false:=by kernel_rfl
theorem nm209:(Tryz.f209.name == "runtime.NumGoroutine")=false:=by kernel_rfl
theorem nm210:(Tryz.f210.name == "runtime.NumGoroutine")=false:=by kernel_rfl
theorem nm211:(Tryz.f211.name == "runtime.NumGoroutine")=false:=by kernel_rfl
theorem nm212:(Tryz.f212.name == "runtime.NumGoroutine")=false:=by kernel_rfl
theorem nm213:(Tryz.f213.name == "runtime.NumGoroutine")=false:=by kernel_rfl
theorem nm214:(Tryz.f214.name == "runtime.NumGoroutine")=false:=by kernel_rfl
theorem nm215:(Tryz.f215.name == "runtime.NumGoroutine")=false:=by kernel_rfl
theorem nm216:(Tryz.f216.name == "runtime.NumGoroutine")=false:=by kernel_rfl
theorem nm217:(Tryz.f217.name == "runtime.NumGoroutine")=false:=by kernel_rfl
theorem nm218:(Tryz.f218.name == "runtime.NumGoroutine")=false:=by kernel_rfl
theorem nm219:(Tryz.f219.name == "runtime.NumGoroutine")=false:=by kernel_rfl
theorem nm220:(Tryz.f220.name == "runtime.NumGoroutine")=false:=by kernel_rfl
theorem nm221:(Tryz.f221.name == "runtime.NumGoroutine")=false:=by kernel_rfl
theorem nm222:(Tryz.f222.name == "runtime.NumGoroutine")=false:=by kernel_rfl
theorem nm223:(Tryz.f223.name == "runtime.NumGoroutine")=false:=by kernel_rfl
theorem nm224:(Tryz.f224.name == "runtime.NumGoroutine")=false:=by kernel_rfl
theorem nm225:(Tryz.f225.name == "runtime.NumGoroutine")=false:=by kernel_rfl
theorem nm226:(Tryz.f226.name == "runtime.NumGoroutine")=false:=by kernel_rfl
theorem nm227:(Tryz.f227.name == "runtime.NumGoroutine")=false:=by kernel_rfl
theorem nm228:(Tryz.f228.name == "runtime.NumGoroutine")=false:=by kernel_rfl
theorem nm229:(Tryz.f229.name == "runtime.NumGoroutine")=false:=by kernel_rfl
theorem nm230:(Tryz.f230.name == "runtime.NumGoroutine")=false:=by kernel_rfl
theorem nm231:(Tryz.f231.name == "runtime.NumGoroutine")=false:=by kernel_rfl
theorem nm232:(Tryz.f232.name == "runtime.NumGoroutine")=false:=by kernel_rfl
theorem nm233:(Tryz.f233.name == "runtime.NumGoroutine")=false:=by kernel_rfl
theorem nm234:(Tryz.f234.name == "runtime.NumGoroutine")=false:=by kernel_rfl
theorem nm235:(Tryz.f235.name == "runtime.NumGoroutine")=false:=by kernel_rfl
theorem nm236:(Tryz.f236.name == "runtime.NumGoroutine")=false:=by kernel_rfl
theorem nm237:(Tryz.f237.name == "runtime.NumGoroutine")=false:=by kernel_rfl
theorem nm238:(Tryz.f238.name == "runtime.NumGoroutine")=false:=by kernel_rfl
theorem nm239:(Tryz.f239.name == "runtime.NumGoroutine")=false:=by kernel_rfl
theorem nm240:(Tryz.f240.name == "runtime.NumGoroutine")=false:=by kernel_rfl
theorem nm241:(Tryz.f241.name == "runtime.NumGoroutine")=false:=by kernel_rfl
theorem nm242:(Tryz.f242.name == "runtime.NumGoroutine")=false:=by kernel_rfl
theorem nm243:(Tryz.f243.name == "runtime.NumGoroutine")=false:=by kernel_rfl
theorem nm244:(Tryz.f244.name == "runtime.NumGoroutine")=false:=by kernel_rfl
theorem nm245:(Tryz.f245.name == "runtime.NumGoroutine")=false:=by kernel_rfl
theorem nm246:(Tryz.f246.name == "runtime.NumGoroutine")=false:=by kernel_rfl
theorem nm247:(Tryz.f247.name == "runtime.NumGoroutine")=false:=by kernel_rfl
theorem nm248:(Tryz.f248.name == "runtime.NumGoroutine")=false:=by kernel_rfl
theorem nm249:(Tryz.f249.name == "runtime.NumGoroutine")=false:=by kernel_rfl
theorem nm250:(Tryz.f250.name == "runtime.NumGoroutine")=false:=by kernel_rfl
theorem nm251:(Tryz.f251.name == "runtime.NumGoroutine")=false:=by kernel_rfl
theorem nm252:(Tryz.f252.name == "runtime.NumGoroutine")=false:=by kernel_rfl
theorem nm253:(Tryz.f253.name == "runtime.NumGoroutine")=false:=by kernel_rfl
theorem nm254:(Tryz.f254.name == "runtime.NumGoroutine")=false:=by kernel_rfl
theorem nm255:(Tryz.f255.name == "runtime.NumGoroutine")=false:=by kernel_rfl
theorem nm256:(Tryz.f256.name == "runtime.NumGoroutine")=false:=by kernel_rfl
theorem nm257:(Tryz.f257.name == "runtime.NumGoroutine")=false:=by kernel_rfl
theorem nm258:(Tryz.f258.name == "runtime.NumGoroutine")=false:=by kernel_rfl
theorem nm259:(Tryz.f259.name == "runtime.NumGoroutine")=false:=by kernel_rfl
theorem nm260:(Tryz.f260.name == "runtime.NumGoroutine")=false:=by kernel_rfl
theorem nm261:(Tryz.f261.name == "runtime.NumGoroutine")=false:=by kernel_rfl
theorem nm262:(Tryz.f262.name == "runtime.NumGoroutine")=false:=by kernel_rfl
theorem nm263:(Tryz.f263.name == "runtime.NumGoroutine")=false:=by kernel_rfl
theorem nm264:(Tryz.f264.name == "runtime.NumGoroutine")=false:=by kernel_rfl
theorem nm265:(Tryz.f265.name == "runtime.NumGoroutine")=false:=by kernel_rfl
theorem nm266:(Tryz.f266.name == "runtime.NumGoroutine")=false:=by kernel_rfl
theorem nm267:(Tryz.f267.name == "runtime.NumGoroutine")=false:=by kernel_rfl
theorem nm268:(Tryz.f268.name == "runtime.NumGoroutine")=false:=by kernel_rfl
theorem nm269:(Tryz.f269.name == "runtime.NumGoroutine")=false:=by kernel_rfl
theorem nm270:(Tryz.f270.name == "runtime.NumGoroutine")=false:=by kernel_rfl
theorem fnT0_ok:TreeAll (GoodF Tryz.prog) fnT0:=(.node (goodF Tryz.func18 nm18 ok18) (.node (goodF Tryz.func10 nm10 ok10) (.node (goodF Tryz.func6 nm6 ok6) (.node (goodF Tryz.func4 nm4 ok4) (.node (goodF Tryz.func3 nm3 ok3) (.node (goodF Tryz.func2 nm2 ok2) .leaf .leaf) .leaf) (.node (goodF Tryz.func5 nm5 ok5) .leaf .leaf)) (.node (goodF Tryz.func8 nm8 ok8) (.node (goodF Tryz.func7 nm7 ok7) .leaf .leaf) (.node (goodF Tryz.func9 nm9 ok9) .leaf .leaf))) (.node (goodF Tryz.func14 nm14 ok14) (.node (goodF Tryz.func12 nm12 ok12) (.node (goodF Tryz.func11 nm11 ok11) .leaf .leaf) (.node (goodF Tryz.func13 nm13 ok13) .leaf .leaf)) (.node (goodF Tryz.func16 nm16 ok16) (.node (goodF Tryz.func15 nm15 ok15) .leaf .leaf) (.node (goodF Tryz.func17 nm17 ok17) .leaf .leaf)))) (.node (goodF Tryz.func27 nm27 ok27) (.node (goodF Tryz.func23 nm23 ok23) (.node (goodF Tryz.func21 nm21 ok21) (.node (goodF Tryz.func20 nm20 ok20) (.node (goodF Tryz.func19 nm19 ok19) .leaf .leaf) .leaf) (.node (goodF Tryz.func22 nm22 ok22) .leaf .leaf)) (.node (goodF Tryz.func25 nm25 ok25) (.node (goodF Tryz.func24 nm24 ok24) .leaf .leaf) (.node (goodF Tryz.func26 nm26 ok26) .leaf .leaf))) (.node (goodF Tryz.func31 nm31 ok31) (.node (goodF Tryz.func29 nm29 ok29) (.node (goodF Tryz.func28 nm28 ok28) .leaf .leaf) (.node (goodF Tryz.func30 nm30 ok30) .leaf .leaf)) (.node (goodF Tryz.func33 nm33 ok33) (.node (goodF Tryz.func32 nm32 ok32) .leaf .leaf) (.node (goodF Tryz.func34 nm34 ok34) .leaf .leaf)))))
theorem fnT1_ok:TreeAll (GoodF Tryz.prog) fnT1:=(.node (goodF Tryz.func52 nm52 ok52) (.node (goodF Tryz.func44 nm44 ok44) (.node (goodF Tryz.func40 nm40 ok40) (.node (goodF Tryz.func38 nm38 ok38) (.node (goodF Tryz.func37 nm37 ok37) (.node (goodF Tryz.func36 nm36 ok36) .leaf .leaf) .leaf) (.node (goodF Tryz.func39 nm39 ok39) .leaf .leaf)) (.node (goodF Tryz.func42 nm42 ok42) (.node (goodF Tryz.func41 nm41 ok41) .leaf .leaf) (.node (goodF Tryz.func43 nm43 ok43) .leaf .leaf))) (.node (goodF Tryz.func48 nm48 ok48) (.node (goodF Tryz.func46 nm46 ok46) (.node (goodF Tryz.func45 nm45 ok45) .leaf .leaf) (.node (goodF Tryz.func47 nm47 ok47) .leaf .leaf)) (.node (goodF Tryz.func50 nm50 ok50) (.node (goodF Tryz.func49 nm49 ok49) .leaf .leaf) (.node (goodF Tryz.func51 nm51 ok51) .leaf .leaf)))) (.node (goodF Tryz.func61 nm61 ok61) (.node (goodF Tryz.func57 nm57 ok57) (.node (goodF Tryz.func55 nm55 ok55) (.node (goodF Tryz.func54 nm54 ok54) (.node (goodF Tryz.func53 nm53 ok53) .leaf .leaf) .leaf) (.node (goodF Tryz.func56 nm56 ok56) .leaf .leaf)) (.node (goodF Tryz.func59 nm59 ok59) (.node (goodF Tryz.func58 nm58 ok58) .leaf .leaf) (.node (goodF Tryz.func60 nm60 ok60) .leaf .leaf))) (.node (goodF Tryz.func65 nm65 ok65) (.node (goodF Tryz.func63 nm63 ok63) (.node (goodF Tryz.func62 nm62 ok62) .leaf .leaf) (.node (goodF Tryz.func64 nm64 ok64) .leaf .leaf)) (.node (goodF Tryz.func67 nm67 ok67) (.node (goodF Tryz.func66 nm66 ok66) .leaf .leaf) (.node (goodF Tryz.func68 nm68 ok68) .leaf .leaf)))))
theorem fnT2_ok:TreeAll (GoodF Tryz.prog) fnT2:=(.node (goodF Tryz.func86 nm86 ok86) (.node (goodF Tryz.func78 nm78 ok78) (.node (goodF Tryz.func74 nm74 ok74) (.node (goodF Tryz.func72 nm72 ok72) (.node (goodF Tryz.func71 nm71 ok71) (.node (goodF Tryz.func70 nm70 ok70) .leaf .leaf) .leaf) (.node (goodF Tryz.func73 nm73 ok73) .leaf .leaf)) (.node (goodF Tryz.func76 nm76 ok76) (.node (goodF Tryz.func75 nm75 ok75) .leaf .leaf) (.node (goodF Tryz.func77 nm77 ok77) .leaf .leaf))) (.node (goodF Tryz.func82 nm82 ok82) (.node (goodF Tryz.func80 nm80 ok80) (.node (goodF Tryz.func79 nm79 ok79) .leaf .leaf) (.node (goodF Tryz.func81 nm81 ok81) .leaf .leaf)) (.node (goodF Tryz.func84 nm84 ok84) (.node (goodF Tryz.func83 nm83 ok83) .leaf .leaf) (.node (goodF Tryz.func85 nm85 ok85) .leaf .leaf)))) (.node (goodF Tryz.func95 nm95 ok95) (.node (goodF Tryz.func91 nm91 ok91) (.node (goodF Tryz.func89 nm89 ok89) (.node (goodF Tryz.func88 nm88 ok88) (.node (goodF Tryz.func87 nm87 ok87) .leaf .leaf) .leaf) (.node (goodF Tryz.func90 nm90 ok90) .leaf .leaf)) (.node (goodF Tryz.func93 nm93 ok93) (.node (goodF Tryz.func92 nm92 ok92) .leaf .leaf) (.node (goodF Tryz.func94 nm94 ok94) .leaf .leaf))) (.node (goodF Tryz.func99 nm99 ok99) (.node (goodF Tryz.func97 nm97 ok97) (.node (goodF Tryz.func96 nm96 ok96) .leaf .leaf) (.node (goodF Tryz.func98 nm98 ok98) .leaf .leaf)) (.node (goodF Tryz.func101 nm101 ok101) (.node (goodF Tryz.func100 nm100 ok100) .leaf .leaf) (.node (goodF Tryz.func102 nm102 ok102) .leaf .leaf)))))
theorem fnT3_ok:TreeAll (GoodF Tryz.prog) fnT3:=(.node (goodF Tryz.func120 nm120 ok120) (.node (goodF Tryz.func112 nm112 ok112) (.node (goodF Tryz.func108 nm108 ok108) (.node (goodF Tryz.func106 nm106 ok106) (.node (goodF Tryz.func105 nm105 ok105) (.node (goodF Tryz.func104 nm104 ok104) .leaf .leaf) .leaf) (.node (goodF Tryz.func107 nm107 ok107) .leaf .leaf)) (.node (goodF Tryz.func110 nm110 ok110) (.node (goodF Tryz.func109 nm109 ok109) .leaf .leaf) (.node (goodF Tryz.func111 nm111 ok111) .leaf .leaf))) (.node (goodF Tryz.func116 nm116 ok116) (.node (goodF Tryz.func114 nm114 ok114) (.node (goodF Tryz.func113 nm113 ok113) .leaf .leaf) (.node (goodF Tryz.func115 nm115 ok115) .leaf .leaf)) (.node (goodF Tryz.func118 nm118 ok118) (.node (goodF Tryz.func117 nm117 ok117) .leaf .leaf) (.node (goodF Tryz.func119 nm119 ok119) .leaf .leaf)))) (.node (goodF Tryz.func128 nm128 ok128) (.node (goodF Tryz.func124 nm124 ok124) (.node (goodF Tryz.func122 nm122 ok122) (.node (goodF Tryz.func121 nm121 ok121) .leaf .leaf) (.node (goodF Tryz.func123 nm123 ok123) .leaf .leaf)) (.node (goodF Tryz.func126 nm126 ok126) (.node (goodF Tryz.func125 nm125 ok125) .leaf .leaf) (.node (goodF Tryz.func127 nm127 ok127) .leaf .leaf))) (.node (goodF Tryz.func132 nm132 ok132) (.node (goodF Tryz.func130 nm130 ok130) (.node (goodF Tryz.func129 nm129 ok129) .leaf .leaf) (.node (goodF Tryz.func131 nm131 ok131) .leaf .leaf)) (.node (goodF Tryz.func134 nm134 ok134) (.node (goodF Tryz.func133 nm133 ok133) .leaf .leaf) (.node (goodF Tryz.func135 nm135 ok135) .leaf .leaf)))))
theorem fnT4_ok:TreeAll (GoodF Tryz.prog) fnT4:=(.node (goodF Tryz.func153 nm153 ok153) (.node (goodF Tryz.func145 nm145 ok145) (.node (goodF Tryz.func141 nm141 ok141) (.node (goodF Tryz.func139 nm139 ok139) (.node (goodF Tryz.func138 nm138 ok138) (.node (goodF Tryz.func137 nm137 ok137) .leaf .leaf) .leaf) (.node (goodF Tryz.func140 nm140 ok140) .leaf .leaf)) (.node (goodF Tryz.func143 nm143 ok143) (.node (goodF Tryz.func142 nm142 ok142) .leaf .leaf) (.node (goodF Tryz.func144 nm144 ok144) .leaf .leaf))) (.node (goodF Tryz.func149 nm149 ok149) (.node (goodF Tryz.func147 nm147 ok147) (.node (goodF Tryz.func146 nm146 ok146) .leaf .leaf) (.node (goodF Tryz.func148 nm148 ok148) .leaf .leaf)) (.node (goodF Tryz.func151 nm151 ok151) (.node (goodF Tryz.func150 nm150 ok150) .leaf .leaf) (.node (goodF Tryz.func152 nm152 ok152) .leaf .leaf)))) (.node (goodF Tryz.func162 nm162 ok162) (.node (goodF Tryz.func158 nm158 ok158) (.node (goodF Tryz.func156 nm156 ok156) (.node (goodF Tryz.func155 nm155 ok155) (.node (goodF Tryz.func154 nm154 ok154) .leaf .leaf) .leaf) (.node (goodF Tryz.func157 nm157 ok157) .leaf .leaf)) (.node (goodF Tryz.func160 nm160 ok160) (.node (goodF Tryz.func159 nm159 ok159) .leaf .leaf) (.node (goodF Tryz.func161 nm161 ok161) .leaf .leaf))) (.node (goodF Tryz.func166 nm166 ok166) (.node (goodF Tryz.func164 nm164 ok164) (.node (goodF Tryz.func163 nm163 ok163) .leaf .leaf) (.node (goodF Tryz.func165 nm165 ok165) .leaf .leaf)) (.node (goodF Tryz.func168 nm168 ok168) (.node (goodF Tryz.func167 nm167 ok167) .leaf .leaf) (.node (goodF Tryz.func169 nm169 ok169) .leaf .leaf)))))
theorem fnT5_ok:TreeAll (GoodF Tryz.prog) fnT5:=(.node (goodF Tryz.func187 nm187 ok187) (.node (goodF Tryz.func179 nm179 ok179) (.node (goodF Tryz.func175 nm175 ok175) (.node (goodF Tryz.func173 nm173 ok173) (.node (goodF Tryz.func172 nm172 ok172) (.node (goodF Tryz.func171 nm171 ok171) .leaf .leaf) .leaf) (.node (goodF Tryz.func174 nm174 ok174) .leaf .leaf)) (.node (goodF Tryz.func177 nm177 ok177) (.node (goodF Tryz.func176 nm176 ok176) .leaf .leaf) (.node (goodF Tryz.func178 nm178 ok178) .leaf .leaf))) (.node (goodF Tryz.func183 nm183 ok183) (.node (goodF Tryz.func181 nm181 ok181) (.node (goodF Tryz.func180 nm180 ok180) .leaf .leaf) (.node (goodF Tryz.func182 nm182 ok182) .leaf .leaf)) (.node (goodF Tryz.func185 nm185 ok185) (.node (goodF Tryz.func184 nm184 ok184) .leaf .leaf) (.node (goodF Tryz.func186 nm186 ok186) .leaf .leaf)))) (.node (goodF Tryz.func196 nm196 ok196) (.node (goodF Tryz.func192 nm192 ok192) (.node (goodF Tryz.func190 nm190 ok190) (.node (goodF Tryz.func189 nm189 ok189) (.node (goodF Tryz.func188 nm188 ok188) .leaf .leaf) .leaf) (.node (goodF Tryz.func191 nm191 ok191) .leaf .leaf)) (.node (goodF Tryz.func194 nm194 ok194) (.node (goodF Tryz.func193 nm193 ok193) .leaf .leaf) (.node (goodF Tryz.func195 nm195 ok195) .leaf .leaf))) (.node (goodF Tryz.func200 nm200 ok200) (.node (goodF Tryz.func198 nm198 ok198) (.node (goodF Tryz.func197 nm197 ok197) .leaf .leaf) (.node (goodF Tryz.func199 nm199 ok199) .leaf .leaf)) (.node (goodF Tryz.func202 nm202 ok202) (.node (goodF Tryz.func201 nm201 ok201) .leaf .leaf) (.node (goodF Tryz.func203 nm203 ok203) .leaf .leaf)))))
theorem fnT6_ok:TreeAll (GoodF Tryz.prog) fnT6:=(.node (goodF Tryz.func221 nm221 ok221) (.node (goodF Tryz.func213 nm213 ok213) (.node (goodF Tryz.func209 nm209 ok209) (.node (goodF Tryz.func207 nm207 ok207) (.node (goodF Tryz.func206 nm206 ok206) (.node (goodF Tryz.func205 nm205 ok205) .leaf .leaf) .leaf) (.node (goodF Tryz.func208 nm208 ok208) .leaf .leaf)) (.node (goodF Tryz.func211 nm211 ok211) (.node (goodF Tryz.func210 nm210 ok210) .leaf .leaf) (.node (goodF Tryz.func212 nm212 ok212) .leaf .leaf))) (.node (goodF Tryz.func217 nm217 ok217) (.node (goodF Tryz.func215 nm215 ok215) (.node (goodF Tryz.func214 nm214 ok214) .leaf .leaf) (.node (goodF Tryz.func216 nm216 ok216) .leaf .leaf)) (.node (goodF Tryz.func219 nm219 ok219) (.node (goodF Tryz.func218 nm218 ok218) .leaf .leaf) (.node (goodF Tryz.func220 nm220 ok220) .leaf .leaf)))) (.node (goodF Tryz.func230 nm230 ok230) (.node (goodF Tryz.func226 nm226 ok226) (.node (goodF Tryz.func224 nm224 ok224) (.node (goodF Tryz.func223 nm223 ok223) (.node (goodF Tryz.func222 nm222 ok222) .leaf .leaf) .leaf) (.node (goodF Tryz.func225 nm225 ok225) .leaf .leaf)) (.node (goodF Tryz.func228 nm228 ok228) (.node (goodF Tryz.func227 nm227 ok227) .leaf .leaf) (.node (goodF Tryz.func229 nm229 ok229) .leaf .leaf))) (.node (goodF Tryz.func234 nm234 ok234) (.node (goodF Tryz.func232 nm232 ok232) (.node (goodF Tryz.func231 nm231 ok231) .leaf .leaf) (.node (goodF Tryz.func233 nm233 ok233) .leaf .leaf)) (.node (goodF Tryz.func236 nm236 ok236) (.node (goodF Tryz.func235 nm235 ok235) .leaf .leaf) (.node (goodF Tryz.func237 nm237 ok237) .leaf .leaf)))))
theorem fnT7_ok:TreeAll (GoodF Tryz.prog) fnT7:=(.node (goodF Tryz.func255 nm255 ok255) (.node (goodF Tryz.func247 nm247 ok247) (.node (goodF Tryz.func243 nm243 ok243) (.node (goodF Tryz.func241 nm241 ok241) (.node (goodF Tryz.func240 nm240 ok240) (.node (goodF Tryz.func239 nm239 ok239) .leaf .leaf) .leaf) (.node (goodF Tryz.func242 nm242 ok242) .leaf .leaf)) (.node (goodF Tryz.func245 nm245 ok245) (.node (goodF Tryz.func244 nm244 ok244) .leaf .leaf) (.node (goodF Tryz.func246 nm246 ok246) .leaf .leaf))) (.node (goodF Tryz.func251 nm251 ok251) (.node (goodF Tryz.func249 nm249 ok249) (.node (goodF Tryz.func248 nm248 ok248) .leaf .leaf) (.node (goodF Tryz.func250 nm250 ok250) .leaf .leaf)) (.node (goodF Tryz.func253 nm253 ok253) (.node (goodF Tryz.func252 nm252 ok252) .leaf .leaf) (.node (goodF Tryz.func254 nm254 ok254) .leaf .leaf)))) (.node (goodF Tryz.func263 nm263 ok263) (.node (goodF Tryz.func259 nm259 ok259) (.node (goodF Tryz.func257 nm257 ok257) (.node (goodF Tryz.func256 nm256 ok256) .leaf .leaf) (.node (goodF Tryz.func258 nm258 ok258) .leaf .leaf)) (.node (goodF Tryz.func261 nm261 ok261) (.node (goodF Tryz.func260 nm260 ok260) .leaf .leaf) (.node (goodF Tryz.func262 nm262 ok262) .leaf .leaf))) (.node (goodF Tryz.func267 nm267 ok267) (.node (goodF Tryz.func265 nm265 ok265) (.node (goodF Tryz.func264 nm264 ok264) .leaf .leaf) (.node (goodF Tryz.func266 nm266 ok266) .leaf .leaf)) (.node (goodF Tryz.func269 nm269 ok269) (.node (goodF Tryz.func268 nm268 ok268) .leaf .leaf) (.node (goodF Tryz.func270 nm270 ok270) .leaf .leaf)))))
theorem fnT_ok:TreeAll (GoodF Tryz.prog) fnT:=(.node (goodF Tryz.func136 nm136 ok136) (.node (goodF Tryz.func69 nm69 ok69) (.node (goodF Tryz.func35 nm35 ok35) fnT0_ok fnT1_ok) (.node (goodF Tryz.func103 nm103 ok103) fnT2_ok fnT3_ok)) (.node (goodF Tryz.func204 nm204 ok204) (.node (goodF Tryz.func170 nm170 ok170) fnT4_ok fnT5_ok) (.node (goodF Tryz.func238 nm238 ok238) fnT6_ok fnT7_ok)))
theorem parts_ok:tyT.all (fun _ i=>partsOk tyT i)=true:=by kernel_rfl
theorem fits12:Fits M Tryz.prog:=fits rfl rfl tyT_ok fnT_ok (by rfl) parts_ok
end Go.Proofs.Am12
namespace Go.Am
open Go
def Does (P:Program) (s:Sem Next) (g:G) (h':Heap) (fr:Fr) (w:World) (v:AV):Prop:=
 ∃ x w' g',(s.run P w=.ok (.value x) w'∨(s.run P w=.ok .skip w'∧x=undef))∧Le g g'∧Sim g' h' fr w'∧Rel g' true v x
theorem Does.val {P:Program} {s:Sem Next} {g:G} {h:Heap} {fr:Fr} {w:World} {v:AV} (hs:Sim g h fr w) (x:Value) (hr:s.run P w=.ok (.value x) w) (hv:Rel g true v x):Does P s g h fr w v:=
 ⟨x,w,g,.inl hr,Le.refl g,hs,hv⟩
theorem Does.of {P:Program} {s:Sem Value} {g:G} {h:Heap} {fr:Fr} {w:World} {v:AV} (hs:Sim g h fr w) (h1:∃ x,s.run P w=.ok x w∧Rel g true v x) :
  Does P (do pure (.value (← s))) g h fr w v:=by
 obtain ⟨x,h1,h2⟩:=h1
 exact .val hs x (by simp [h1]) h2
section
variable {M:Par} {P:Program} (F:Fits M P)
include F in
theorem load_rel {g:G} {h:Heap} {fr:Fr} {w:World} (s:Sim g h fr w) {t:TypeId} {p v:AV} {x:Value} (hp:Rel g true p x) (hl:loadA M.ty h t p=some v) :
  ∃ B o y,x=.pointer (some ⟨B,o,none⟩)∧(loadVar t ⟨B,o,none⟩).run P w=.ok y w∧Rel g true v y:=by
 unfold loadA at hl
 cases hr:rdCells h p with
 | none=>simp [hr] at hl
 | some cs=>
  simp only [hr,Option.bind_some] at hl
  obtain ⟨B,o,rfl,hc⟩:=rd_rel s hp hr
  obtain ⟨i,hi,b,ha,hb⟩:=mkVal_rel F hl
  rcases hb with ⟨rfl,hlen,rfl⟩ | ⟨rfl,hd⟩
  ·have hf:∀ j,j<i.size→∃ v c,w.cell? ⟨B,o+j,none⟩=some v∧one v=true∧cs[j]? = some c∧Rel g true c v:=fun j hj=>by
    have:j<cs.length:=by omega
    obtain ⟨v,h1,h2,h3⟩:=hc j cs[j] (List.getElem?_eq_getElem this)
    exact ⟨v,cs[j],h1,h2,List.getElem?_eq_getElem this,h3⟩
   let f:Nat→Value:=fun j=>(w.cell? ⟨B,o+j,none⟩).getD undef
   have hrun:=run_loadCells (P:=P) w ⟨B,o,none⟩ i.size f (fun j hj=>by
    obtain ⟨v,c,h1,_⟩:=hf j hj
    rw [add_plain]
    simp [f,h1])
   refine ⟨B,o,.agg ((List.range i.size).map f).toArray,rfl,by simp only [loadVar,Sem.run_bind,ha,Result.andThen_ok,if_true,run_size F hi,hrun,Sem.run_pure],.agg true _ _ (by simp;omega) (fun j v hv => ?_) (fun j c v hc' hv => ?_)⟩
   ·have hj:j<i.size:=by
     have:=(Array.getElem?_eq_some_iff.1 hv).1
     simpa using this
    simp [hj] at hv
    obtain ⟨v',c,h1,h2,_⟩:=hf j hj
    simp only [f,h1,Option.getD_some] at hv
    exact hv ▸ h2
   ·have hj:j<i.size:=by
     have:=(Array.getElem?_eq_some_iff.1 hv).1
     simpa using this
    simp [hj] at hv
    obtain ⟨v',c',h1,h2,h3,h4⟩:=hf j hj
    simp only [f,h1,Option.getD_some] at hv
    rw [List.getElem?_take_of_lt hj,h3] at hc'
    simp only [Option.some.injEq] at hc'
    exact hc' ▸ hv ▸ h4
  ·have h0:cs[0]? = some v:=by rw [← List.head?_eq_getElem?];exact hd
   obtain ⟨v',h1,h2,h3⟩:=hc 0 v h0
   refine ⟨B,o,v',rfl,?_,h3⟩
   simp only [Nat.add_zero] at h1
   simp only [loadVar,Sem.run_bind,ha,Result.andThen_ok,Bool.false_eq_true,if_false,run_load,h1]
include F in
theorem part_rel {g:G} {b:Bool} {t:TypeId} {cs:List AV} {v:AV} {vs:Array Value} {off:Nat} (hv:RelL g b cs vs) (h1:∀ (i:Nat) y,vs[i]? = some y→one y=true)
  (hm:mkVal M.ty t (cs.drop off)=some v) (w:World):∃ y,(part t vs off).run P w=.ok y w∧Rel g b v y:=by
 obtain ⟨i,hi,c,ha,hb⟩:=mkVal_rel F hm
 rcases hb with ⟨rfl,hlen,rfl⟩ | ⟨rfl,hd⟩
 ·refine ⟨.agg (vs.extract off (off+i.size)),by simp only [part,Sem.run_bind,ha,Result.andThen_ok,if_true,run_size F hi,Sem.run_pure],.agg b _ _ ?_ (fun j y hy => ?_) (fun j c y hc hy => ?_)⟩
  ·rw [List.length_drop] at hlen
   simp [hv.1];omega
  ·rw [Array.getElem?_extract] at hy
   split at hy
   ·exact h1 _ _ hy
   ·cases hy
  ·rw [Array.getElem?_extract] at hy
   split at hy
   ·rw [List.getElem?_take_of_lt (by omega),List.getElem?_drop] at hc
    exact hv.2 _ c y hc hy
   ·cases hy
 ·rw [List.head?_eq_getElem?,List.getElem?_drop,Nat.add_zero] at hd
  have hlt:=(List.getElem?_eq_some_iff.1 hd).1
  have hlt':off<vs.size:=by rw [hv.1];exact hlt
  have hy:vs[off]? = some vs[off]:=Array.getElem?_eq_getElem hlt'
  exact ⟨vs[off],by simp only [part,Sem.run_bind,ha,Result.andThen_ok,Bool.false_eq_true,if_false,hy,Sem.run_pure],hv.2 _ _ _ hd hy⟩
include F in
theorem field_does {g:G} {h:Heap} {fr:Fr} {w:World} (_s:Sim g h fr w) {t:TypeId} {f:Nat} {a v:AV} {x:Value} (hx:Rel g true a x) (hf:fieldA M.ty t a f=some v) :
  ∃ y,(Instr.field t x f).run P w=.ok y w∧Rel g true v y:=by
 unfold fieldA at hf
 split at hf
 ·rename_i fd cs hfd
  unfold fieldOf at hfd
  split at hfd
  ·rename_i i hi
   split at hfd
   ·rename_i fs hd
    cases hx with
    | agg _ _ vs sz h1 h2=>
     obtain ⟨y,h3,h4⟩:=part_rel F ⟨sz,h2⟩ h1 hf w
     refine ⟨y,?_,h4⟩
     simp only [Instr.field,Sem.run_bind,run_und F hi,Result.andThen_ok,hd,hfd,asAgg,Sem.run_pure,h3]
   ·cases hfd
  ·cases hfd
 ·cases hf
include F in
theorem fieldAddr_does {g:G} {h:Heap} {fr:Fr} {w:World} (_s:Sim g h fr w) {t:TypeId} {f:Nat} {a v:AV} {x:Value} (hx:Rel g true a x) (hf:fieldAddrA M.ty t a f=some v) :
  ∃ y,(Instr.fieldAt t x f).run P w=.ok y w∧Rel g true v y:=by
 unfold fieldAddrA at hf
 split at hf
 ·cases hf
 ·rename_i fd hfd
  unfold fieldOf at hfd
  split at hfd
  ·rename_i i hi
   split at hfd
   ·rename_i fs hd
    have key:∀ B o,Nat.blt 0 (siz M.ty fd.type)=true→(Instr.fieldAt t (.pointer (some ⟨B,o,none⟩)) f).run P w=.ok (.pointer (some ⟨B,o+fd.offset,none⟩)) w:=by
     intro B o hp
     obtain ⟨j,hj,hsz⟩:=siz_pos (M:=M) (nblt.1 hp)
     have hne:j.size≠0:=by have:=nblt.1 hp;omega
     simp only [Instr.fieldAt,Sem.run_bind,run_und F hi,Result.andThen_ok,hd,hfd,Instr.sureAddr,Sem.run_pure,fieldPlace,run_size F hj,hne,if_false,add_plain]
    split at hf
    ·rename_i cs hp
     cases hx with
     | ro _ cs B o vs h1 h2 h3=>
      simp only [Option.some.injEq] at hf
      subst hf
      refine ⟨_,key B o hp,.ro true _ B (o+fd.offset) (fun i=>vs (fd.offset+i)) (fun i c hc => ?_) (fun i c hc => ?_) (fun i c hc => ?_)⟩ <;> rw [List.getElem?_drop] at hc
      ·rw [Nat.add_assoc];exact h1 _ _ hc
      ·exact h2 _ _ hc
      ·exact h3 _ _ hc
    ·rename_i id off hp
     cases hx with
     | hp id off B c hpl=>
      simp only [Option.some.injEq] at hf
      subst hf
      exact ⟨_,key B off hp,.hp id _ B c hpl⟩
    ·rename_i id gen sz i k hp
     cases hx with
     | ep id gen sz i k B c hpl=>
      simp only [Option.some.injEq] at hf
      subst hf
      exact ⟨_,by rw [key B _ hp,Nat.add_assoc],.ep id gen sz i _ B c hpl⟩
    ·cases hf
   ·cases hfd
  ·cases hfd
theorem inRange_some {i:Int} {n j:Nat} (h:inRange i n=some j):0≤i∧i<n∧i.toNat=j∧j<n:=by
 unfold inRange at h
 split at h
 ·rename_i hd
  simp only [decide_eq_true_eq] at hd
  simp only [Option.some.injEq] at h
  omega
 ·cases h
theorem upTo_some {i:Int} {n j:Nat} (h:upTo i n=some j):0≤i∧i≤n∧i.toNat=j∧j≤n:=by
 unfold upTo at h
 split at h
 ·rename_i hd
  simp only [decide_eq_true_eq] at hd
  simp only [Option.some.injEq] at h
  omega
 ·cases h
theorem intOf_some {g:G} {b:Bool} {a:AV} {x:Value} (h:Rel g b a x) {n:Int} (hi:intOf a=some n):∃ k,x=.int k n∧a=.int k n:=by
 cases h <;> simp only [intOf,Option.some.injEq,reduceCtorEq] at hi
 subst hi
 exact ⟨_,rfl,rfl⟩
include F in
theorem sizeOf_run {t:TypeId} (h:0<siz M.ty t) (w:World):(sizeOf t).run P w=.ok (siz M.ty t) w:=by
 obtain ⟨i,hi,he⟩:=siz_pos h
 rw [← he]
 exact run_size F hi w
include F in
theorem indexAddr_does {g:G} {h:Heap} {fr:Fr} {w:World} (_s:Sim g h fr w) {t:TypeId} {a b v:AV} {x y:Value} (hx:Rel g true a x) (hy:Rel g true b y) (hf:indexAddrA M.ty t a b=some v) :
  ∃ z,(Instr.indexAt t x y).run P w=.ok z w∧Rel g true v z:=by
 unfold indexAddrA at hf
 split at hf
 ·rename_i e sz ex es i hu hi
  split at hf
  ·rename_i j hsz hj
   simp only [Bool.and_eq_true,nbeq,nblt] at hsz
   obtain ⟨rfl,hpos⟩:=hsz
   obtain ⟨k,rfl,rfl⟩:=intOf_some hy hi
   obtain ⟨h0,h1,rfl,h2⟩:=inRange_some hj
   cases hx with
   | sl _ _ _ _ B o c ad ha vs g0 gx gs g1 g2 g3=>
    obtain rfl:ad=⟨B,o,none⟩:=ha.resolve_right (by omega)
    cases he:es[i.toNat]? with
    | none=>simp [he] at hf
    | some l=>
     simp only [he,Option.map_some,Option.some.injEq] at hf
     subst hf
     refine ⟨.pointer (some ⟨B,o+i.toNat * siz M.ty e,none⟩),?_,.ro true l B _ (vs i.toNat) (fun m c hc=>g1 _ _ he m c hc) (fun m c hc=>g2 _ _ he m c hc) (fun m c hc=>g3 _ _ he m c hc)⟩
     simp only [Instr.indexAt,Sem.run_bind,run_und' F hu,Result.andThen_ok,asIntOf,Sem.run_pure,sizeOf_run F hpos,add_plain]
     simp only [h0,h1,and_self,if_true,Sem.run_bind,sizeOf_run F hpos,Result.andThen_ok,Sem.run_pure,add_plain]
  ·cases hf
 ·rename_i e id gen sz off len ex i hu hi
  split at hf
  ·rename_i j hsz hj
   simp only [Bool.and_eq_true,nbeq,nblt] at hsz
   obtain ⟨rfl,hpos⟩:=hsz
   obtain ⟨k,rfl,rfl⟩:=intOf_some hy hi
   obtain ⟨h0,h1,rfl,h2⟩:=inRange_some hj
   simp only [Option.some.injEq] at hf
   subst hf
   cases hx with
   | hs _ _ _ _ _ _ B c o c' hpl g0 gc go=>
    have ho:o=off * siz M.ty e:=go (by subst gc;split <;> omega)
    subst ho
    have hadd:off * siz M.ty e+i.toNat * siz M.ty e=(off+i.toNat) * siz M.ty e:=(Nat.add_mul _ _ _).symm
    refine ⟨.pointer (some ⟨B,(off+i.toNat) * siz M.ty e+0,none⟩),?_,.ep id gen _ _ 0 B c hpl⟩
    simp only [Instr.indexAt,Sem.run_bind,run_und' F hu,Result.andThen_ok,asIntOf,Sem.run_pure]
    simp only [h0,h1,and_self,if_true,Sem.run_bind,sizeOf_run F hpos,Result.andThen_ok,Sem.run_pure,add_plain,hadd,Nat.add_zero]
  ·cases hf
 ·rename_i n e cs i hu hi
  split at hf
  ·rename_i j hpos hj
   have hpos:=nblt.1 hpos
   obtain ⟨k,rfl,rfl⟩:=intOf_some hy hi
   obtain ⟨h0,h1,rfl,h2⟩:=inRange_some hj
   simp only [Option.some.injEq] at hf
   subst hf
   cases hx with
   | ro _ _ B o vs g1 g2 g3=>
    refine ⟨.pointer (some ⟨B,o+i.toNat * siz M.ty e,none⟩),?_,.ro true _ B _ (fun m=>vs (i.toNat * siz M.ty e+m)) (fun m c hc => ?_) (fun m c hc => ?_) (fun m c hc => ?_)⟩
    ·simp only [Instr.indexAt,Sem.run_bind,run_und' F hu,Result.andThen_ok,asIntOf,Sem.run_pure,Instr.sureAddr]
     simp only [h0,h1,and_self,if_true,Sem.run_bind,sizeOf_run F hpos,Result.andThen_ok,Sem.run_pure,add_plain]
    all_goals rw [List.getElem?_drop] at hc
    ·rw [Nat.add_assoc];exact g1 _ _ hc
    ·exact g2 _ _ hc
    ·exact g3 _ _ hc
  ·cases hf
 ·rename_i n e id off i hu hi
  split at hf
  ·rename_i j hpos hj
   have hpos:=nblt.1 hpos
   obtain ⟨k,rfl,rfl⟩:=intOf_some hy hi
   obtain ⟨h0,h1,rfl,h2⟩:=inRange_some hj
   simp only [Option.some.injEq] at hf
   subst hf
   cases hx with
   | hp _ _ B c hpl=>
    refine ⟨.pointer (some ⟨B,off+i.toNat * siz M.ty e,none⟩),?_,.hp id _ B c hpl⟩
    simp only [Instr.indexAt,Sem.run_bind,run_und' F hu,Result.andThen_ok,asIntOf,Sem.run_pure,Instr.sureAddr]
    simp only [h0,h1,and_self,if_true,Sem.run_bind,sizeOf_run F hpos,Result.andThen_ok,Sem.run_pure,add_plain]
  ·cases hf
 ·cases hf
include F in
theorem index_does {g:G} {h:Heap} {fr:Fr} {w:World} (_s:Sim g h fr w) {t:TypeId} {a b v:AV} {x y:Value} (hx:Rel g true a x) (hy:Rel g true b y) (hf:indexA M.ty t a b=some v) :
  ∃ z,(Instr.index t x y).run P w=.ok z w∧Rel g true v z:=by
 unfold indexA at hf
 split at hf
 ·rename_i s i hu hi
  split at hf
  ·rename_i j hj
   obtain ⟨k,rfl,rfl⟩:=intOf_some hy hi
   obtain ⟨h0,h1,rfl,h2⟩:=inRange_some hj
   cases hx with
   | str=>
    cases he:s[i.toNat]? with
    | none=>simp [he] at hf
    | some c=>
     simp only [he,Option.map_some,Option.some.injEq] at hf
     subst hf
     refine ⟨.int .u8 c.toNat,?_,.int _ _ _⟩
     have hs:(⟨s.toArray⟩:ByteArray)[i.toNat]? = some c:=by
      have hlt:i.toNat<s.length:=h2
      rw [List.getElem?_eq_getElem hlt] at he
      have:i.toNat<(⟨s.toArray⟩:ByteArray).size:=by simpa [ByteArray.size] using hlt
      rw [getElem?_pos (⟨s.toArray⟩:ByteArray) i.toNat this,← he]
      rfl
     simp only [Instr.index,Sem.run_bind,run_und' F hu,Result.andThen_ok,asIntOf,Sem.run_pure,h0,if_true,hs]
  ·cases hf
 ·rename_i n e cs i hu hi
  split at hf
  ·rename_i j hpos hj
   have hpos:=nblt.1 hpos
   obtain ⟨k,rfl,rfl⟩:=intOf_some hy hi
   obtain ⟨h0,h1,rfl,h2⟩:=inRange_some hj
   cases hx with
   | agg _ _ vs sz g1 g2=>
    obtain ⟨z,h3,h4⟩:=part_rel F ⟨sz,g2⟩ g1 hf w
    refine ⟨z,?_,h4⟩
    simp only [Instr.index,Sem.run_bind,run_und' F hu,Result.andThen_ok,asIntOf,Sem.run_pure]
    simp only [h0,h1,and_self,if_true,Sem.run_bind,sizeOf_run F hpos,Result.andThen_ok,h3]
  ·cases hf
 ·cases hf
end
end Go.Am
