/- The abstract machine of this claim, part 13. -/
import Derived.Test.YtggemipepaajmaaGreatVal12
import Derived.Test.YtggemipepaajmaaGreatRows
set_option linter.unusedSimpArgs false
set_option linter.unusedVariables false
set_option linter.unusedSectionVars false
set_option linter.unnecessarySimpa false
namespace Go.Proofs.Am12
open Go Go.Am Go.Proofs.YtggemipepaajmaaGreat
abbrev Bytes:=List UInt8
abbrev lim:Nat:=1048577
inductive TyV where
 | mk (k v:Int) (nm:Bytes) (ps:List TyV)
 deriving Inhabited
def TyV.k:TyV→Int | .mk k _ _ _=>k
def TyV.v:TyV→Int | .mk _ v _ _=>v
def TyV.nm:TyV→Bytes | .mk _ _ n _=>n
def TyV.ps:TyV→List TyV | .mk _ _ _ p=>p
theorem TyV.ind {P:TyV→Prop} (h:∀ k v nm ps,(∀ p∈ps,P p)→P (.mk k v nm ps)) (t:TyV):P t:=
 TyV.rec (motive_1:=P) (motive_2:=fun ps=>∀ p∈ps,P p) (fun k v nm ps ih=>h k v nm ps ih) (fun p hp=>by cases hp) (fun a r ha hr p hp=>by
  rcases List.mem_cons.1 hp with rfl | hp
  ·exact ha
  ·exact hr p hp) t
inductive TyRep:TyV→List AV→Prop where
 | nil (k v:Int) (nm:Bytes):TyRep (.mk k v nm []) [.int .i64 k,.int .i64 v,.str nm,.nils]
 | sl (k v:Int) (nm:Bytes) (ps:List TyV) (ex:Bool) (es:List (List AV)) (hl:es.length=ps.length) (h:∀ (i:Nat) t e,ps[i]? = some t→es[i]? = some e→TyRep t e) :
   TyRep (.mk k v nm ps) [.int .i64 k,.int .i64 v,.str nm,.sl 4 ex es]
theorem TyRep.dest {k v:Int} {nm:Bytes} {ps:List TyV} {xs:List AV} (h:TyRep (.mk k v nm ps) xs):∃ pv,xs=[.int .i64 k,.int .i64 v,.str nm,pv]∧SlR TyRep 4 ps pv:=by
 cases h with
 | nil=>exact ⟨_,rfl,.inl ⟨rfl,rfl⟩⟩
 | sl _ _ _ _ ex es hl h=>exact ⟨_,rfl,.inr ⟨ex,es,rfl,hl,h⟩⟩
theorem TyRep.intro {k v:Int} {nm:Bytes} {ps:List TyV} {pv:AV} (h:SlR TyRep 4 ps pv):TyRep (.mk k v nm ps) [.int .i64 k,.int .i64 v,.str nm,pv]:=by
 rcases h with ⟨rfl,rfl⟩ | ⟨ex,es,rfl,hl,h⟩
 ·exact .nil k v nm
 ·exact .sl k v nm ps ex es hl h
theorem TyRep.noRefs {t:TyV} {xs:List AV} (h:TyRep t xs):noRefs xs=true:=by
 cases t with
 | mk k v nm ps=>
  obtain ⟨pv,rfl,hp⟩:=h.dest
  simp [Am.noRefs,AV.noRef,hp.noRef]
theorem TyRep.len {t:TyV} {xs:List AV} (h:TyRep t xs):xs.length=4:=by
 cases h <;> rfl
inductive Sm (b:Nat):TyV→Prop where
 | mk (k v:Int) (nm:Bytes) (ps:List TyV) (h1:nm.length<b) (h2:ps.length<b) (h3:∀ p∈ps,Sm b p):Sm b (.mk k v nm ps)
theorem Sm.dest {b:Nat} {k v:Int} {nm:Bytes} {ps:List TyV} (h:Sm b (.mk k v nm ps)):nm.length<b∧ps.length<b∧∀ p∈ps,Sm b p:=by
 cases h with
 | mk _ _ _ _ h1 h2 h3=>exact ⟨h1,h2,h3⟩
def StrRep (n:Bytes) (xs:List AV):Prop:=xs=[.str n]
structure FieldV where
 nm:Bytes
 ty:TyV
 deriving Inhabited
def FieldRep (f:FieldV) (xs:List AV):Prop:=∃ tx,xs=.str f.nm::tx∧TyRep f.ty tx
structure ConV where
 nm:Bytes
 fields:List FieldV
 deriving Inhabited
def ConRep (c:ConV) (xs:List AV):Prop:=∃ fv,xs=[.str c.nm,fv]∧SlR FieldRep 5 c.fields fv
structure DataV where
 nm:Bytes
 params:List Bytes
 cons:List ConV
 deriving Inhabited
def DataRep (d:DataV) (xs:List AV):Prop:=∃ pv cv,xs=[.str d.nm,pv,cv]∧SlR StrRep 1 d.params pv∧SlR ConRep 2 d.cons cv
structure TaskV where
 data:List DataV
 ty:TyV
 arms:List TyV
def TaskRep (t:TaskV) (xs:List AV):Prop:=∃ dv tx av,xs=dv::tx++[av]∧SlR DataRep 3 t.data dv∧TyRep t.ty tx∧SlR TyRep 4 t.arms av
def SmF (b:Nat) (f:FieldV):Prop:=f.nm.length<b∧Sm b f.ty
def SmC (b:Nat) (c:ConV):Prop:=c.nm.length<b∧c.fields.length<b∧∀ f∈c.fields,SmF b f
def SmD (b:Nat) (d:DataV):Prop:=d.nm.length<b∧d.params.length<b∧(∀ p∈d.params,p.length<b)∧d.cons.length<b∧∀ c∈d.cons,SmC b c
def SmL (b:Nat) (l:List DataV):Prop:=l.length<b∧∀ d∈l,SmD b d
def SmT (b:Nat) (t:TaskV):Prop:=SmL b t.data∧Sm b t.ty∧t.arms.length<b∧∀ p∈t.arms,Sm b p
theorem choose_list {α β:Type} {R:α→β→Prop} {S:α→Prop}:∀ (es:List β),(∀ e∈es,∃ a,R a e∧S a)→∃ xs:List α,es.length=xs.length∧(∀ (i:Nat) a e,xs[i]? = some a→es[i]? = some e→R a e)∧∀ x∈xs,S x
 | [],_=>⟨[],rfl,fun i a e h=>by simp at h,fun x hx=>by cases hx⟩
 | e::r,h=>by
  obtain ⟨a,ha,hs⟩:=h e (by simp)
  obtain ⟨xs,h1,h2,h3⟩:=choose_list r (fun x hx=>h x (by simp [hx]))
  refine ⟨a::xs,by simp [h1],fun i a' e' h3 h4 => ?_,fun x hx => ?_⟩
  ·cases i with
   | zero=>simp at h3 h4;exact h3 ▸ h4 ▸ ha
   | succ i=>exact h2 i a' e' (by simpa using h3) (by simpa using h4)
  ·rcases List.mem_cons.1 hx with rfl | hx
   ·exact hs
   ·exact h3 x hx
theorem und25:und MX.ty 25=some (.struct #[{ name := "Kind",type:=3,offset:=0,embedded:=false,tag := "",pkgPath := "",byteOffset:=0 },{ name := "Value",type:=3,offset:=1,embedded:=false,tag := "",pkgPath := "",byteOffset:=8 },
  { name := "Name",type:=9,offset:=2,embedded:=false,tag := "",pkgPath := "",byteOffset:=16 },{ name := "Parts",type:=23,offset:=3,embedded:=false,tag := "",pkgPath := "",byteOffset:=32 }]):=by kernel_rfl
theorem und62:und MX.ty 62=some (.struct #[{ name := "Kind",type:=3,offset:=0,embedded:=false,tag := "",pkgPath := "",byteOffset:=0 },{ name := "Value",type:=3,offset:=1,embedded:=false,tag := "",pkgPath := "",byteOffset:=8 },
  { name := "Name",type:=9,offset:=2,embedded:=false,tag := "",pkgPath := "",byteOffset:=16 },{ name := "Parts",type:=26,offset:=3,embedded:=false,tag := "",pkgPath := "",byteOffset:=32 }]):=by kernel_rfl
theorem und23:und MX.ty 23=some (.slice 25):=by kernel_rfl
theorem und26:und MX.ty 26=some (.slice 62):=by kernel_rfl
theorem und3:und MX.ty 3=some (.int .i64):=by kernel_rfl
theorem und9:und MX.ty 9=some .string:=by kernel_rfl
theorem siz25:siz MX.ty 25=4:=by kernel_rfl
theorem siz62:siz MX.ty 62=4:=by kernel_rfl
theorem sizX9:siz MX.ty 9=1:=by kernel_rfl
theorem siz103:siz MX.ty 103=3:=by kernel_rfl
theorem siz106:siz MX.ty 106=2:=by kernel_rfl
theorem siz109:siz MX.ty 109=5:=by kernel_rfl
section
variable {H:Type}
theorem shp_int {d:DataW H} {xs:List AV} (h:Shp MX 3 d xs):∃ n,xs=[.int .i64 n]∧(Lit.int .i64 n).wf=true:=by
 cases h with
 | int h n hw=>rw [und3] at h;cases h;exact ⟨n,rfl,hw⟩
 | bool h=>rw [und3] at h;cases h
 | str h=>rw [und3] at h;cases h
 | nil h=>rw [und3] at h;cases h
 | sl h=>rw [und3] at h;cases h
 | struct h=>rw [und3] at h;cases h
theorem shp_str {d:DataW H} {xs:List AV} {b:Nat} (h:Shp MX 9 d xs) (hb:Rows.uptoBulk d<b):∃ s,xs=[.str s]∧s.length<b:=by
 cases h with
 | str h s=>exact ⟨s,rfl,by simp only [Rows.uptoBulk] at hb;omega⟩
 | int h=>rw [und9] at h;cases h
 | bool h=>rw [und9] at h;cases h
 | nil h=>rw [und9] at h;cases h
 | sl h=>rw [und9] at h;cases h
 | struct h=>rw [und9] at h;cases h
theorem one_le (d:DataW H):1≤Rows.uptoBulk d:=by
 cases d with
 | lit l=>cases l <;> simp [Rows.uptoBulk]
 | _=>simp [Rows.uptoBulk]
theorem part_le {d:DataW H} {l:List (DataW H)} (h:d∈l):Rows.uptoBulk d≤Rows.uptoBulkAll l:=by
 induction l with
 | nil=>cases h
 | cons x r ih=>
  simp only [Rows.uptoBulkAll]
  rcases List.mem_cons.1 h with rfl | e
  ·omega
  ·have:=ih e;omega
theorem length_le (l:List (DataW H)):l.length≤Rows.uptoBulkAll l:=by
 induction l with
 | nil=>simp
 | cons x r ih=>have:=one_le x;simp only [Rows.uptoBulkAll,List.length_cons];omega
theorem list_shp {α:Type} {R:α→List AV→Prop} {S:α→Prop} {t e:TypeId} {d:DataW H} {xs:List AV} {b:Nat} (hu:und MX.ty t=some (.slice e)) (hR:∀ (d:DataW H) xs,Shp MX e d xs→Rows.uptoBulk d<b→∃ a,R a xs∧S a) (h:Shp MX t d xs) (hb:Rows.uptoBulk d<b) :
  ∃ l v,xs=[v]∧SlR R (siz MX.ty e) l v∧l.length<b∧∀ x∈l,S x:=by
 cases h with
 | nil h=>exact ⟨[],_,rfl,.inl ⟨rfl,rfl⟩,by have:=one_le (DataW.nil:DataW H);simp;omega,fun x hx=>by cases hx⟩
 | sl h ds sp es hl hs=>
  rw [hu] at h
  cases h
  simp only [Rows.uptoBulk] at hb
  obtain ⟨l,h1,h2,h3⟩:=choose_list (R:=R) (S:=S) es (fun x hx=>by
   obtain ⟨i,hi⟩:=List.mem_iff_getElem?.1 hx
   have hlt:i<ds.length:=by rw [← hl];exact (List.getElem?_eq_some_iff.1 hi).1
   exact hR _ _ (hs i ds[i] x (List.getElem?_eq_getElem hlt) hi) (by have:=part_le (List.getElem_mem hlt);omega))
  have:=length_le ds
  exact ⟨l,_,rfl,.inr ⟨false,es,rfl,h1,h2⟩,by omega,h3⟩
 | bool h=>rw [hu] at h;cases h
 | int h=>rw [hu] at h;cases h
 | str h=>rw [hu] at h;cases h
 | struct h=>rw [hu] at h;cases h
theorem shp_struct {t:TypeId} {fs:Array Field} {d:DataW H} {xs:List AV} {b:Nat} (hu:und MX.ty t=some (.struct fs)) (h:Shp MX t d xs) (hb:Rows.uptoBulk d<b) :
  ∃ (ds:List (DataW H)) (rows:List (List AV)),xs=rows.flatten∧rows.length=ds.length∧fs.size=ds.length∧(∀ (i:Nat) f d a,fs[i]? = some f→ds[i]? = some d→rows[i]? = some a→Shp MX f.type d a)∧∀ d∈ds,Rows.uptoBulk d<b:=by
 cases h with
 | struct h ds rows hl hf hs=>
  rw [hu] at h;cases h
  exact ⟨ds,rows,rfl,hl,hf,hs,fun d hd=>by have:=part_le hd;simp only [Rows.uptoBulk] at hb;omega⟩
 | nil h=>rw [hu] at h;cases h
 | sl h=>rw [hu] at h;cases h
 | bool h=>rw [hu] at h;cases h
 | int h=>rw [hu] at h;cases h
 | str h=>rw [hu] at h;cases h
theorem tyP_shp {tT tS:TypeId} {n1 n2 n3 n4:String} {o1 o2 o3 o4:Nat} (hT:und MX.ty tT=some (.struct #[{ name:=n1,type:=3,offset:=0,embedded:=false,tag := "",pkgPath := "",byteOffset:=o1 },{ name:=n2,type:=3,offset:=1,embedded:=false,tag := "",pkgPath := "",byteOffset:=o2 },
  { name:=n3,type:=9,offset:=2,embedded:=false,tag := "",pkgPath := "",byteOffset:=o3 },{ name:=n4,type:=tS,offset:=3,embedded:=false,tag := "",pkgPath := "",byteOffset:=o4 }])) (hS:und MX.ty tS=some (.slice tT)) (hz:siz MX.ty tT=4) {t:TypeId} {d:DataW H} {xs:List AV} (h:Shp MX t d xs) {b:Nat} (hb:Rows.uptoBulk d<b) :
  (t=tT→∃ tv,TyRep tv xs∧Sm b tv)∧(t=tS→∃ l v,xs=[v]∧SlR TyRep 4 l v∧l.length<b∧∀ x∈l,Sm b x):=by
 induction h with
 | bool h b=>exact ⟨fun e=>(by subst e;rw [hT] at h;cases h),fun e=>(by subst e;rw [hS] at h;cases h)⟩
 | int h n hw=>exact ⟨fun e=>(by subst e;rw [hT] at h;cases h),fun e=>(by subst e;rw [hS] at h;cases h)⟩
 | str h bs=>exact ⟨fun e=>(by subst e;rw [hT] at h;cases h),fun e=>(by subst e;rw [hS] at h;cases h)⟩
 | nil h=>exact ⟨fun e=>(by subst e;rw [hT] at h;cases h),fun e=>⟨[],.nils,rfl,.inl ⟨rfl,rfl⟩,by have:=one_le (DataW.nil:DataW H);simp;omega,fun x hx=>by cases hx⟩⟩
 | sl h ds sp es hl hs ih=>
  refine ⟨fun e=>(by subst e;rw [hT] at h;cases h),fun e => ?_⟩
  subst e
  rw [hS] at h
  cases h
  rw [hz]
  simp only [Rows.uptoBulk] at hb
  obtain ⟨l,h1,h2,h3⟩:=choose_list (R:=TyRep) (S:=Sm b) es (fun x hx=>by
   obtain ⟨i,hi⟩:=List.mem_iff_getElem?.1 hx
   have hlt:i<ds.length:=by rw [← hl];exact (List.getElem?_eq_some_iff.1 hi).1
   exact (ih i ds[i] x (List.getElem?_eq_getElem hlt) hi (by have:=part_le (List.getElem_mem hlt);omega)).1 rfl)
  have:=length_le ds
  exact ⟨l,_,rfl,.inr ⟨false,es,rfl,h1,h2⟩,by omega,h3⟩
 | struct h ds rows hl hf hs ih=>
  refine ⟨fun e => ?_,fun e=>(by subst e;rw [hS] at h;cases h)⟩
  subst e
  rw [hT] at h
  cases h
  simp only [List.size_toArray,List.length_cons,List.length_nil] at hf
  match ds,rows,hf,hl with
  | [d0,d1,d2,d3],[a0,a1,a2,a3],_,_=>
   simp only [Rows.uptoBulk,Rows.uptoBulkAll] at hb
   obtain ⟨k,rfl,_⟩:=shp_int (hs 0 _ d0 a0 rfl rfl rfl)
   obtain ⟨v,rfl,_⟩:=shp_int (hs 1 _ d1 a1 rfl rfl rfl)
   obtain ⟨nm,rfl,hnm⟩:=shp_str (b:=b) (hs 2 _ d2 a2 rfl rfl rfl) (by omega)
   obtain ⟨l,pv,rfl,hp,hlb,hS⟩:=(ih 3 _ d3 a3 rfl rfl rfl (by omega)).2 rfl
   exact ⟨.mk k v nm l,TyRep.intro hp,.mk k v nm l hnm hlb hS⟩
theorem ty_shp {b:Nat} (d:DataW H) (xs:List AV) (h:Shp MX 25 d xs) (hb:Rows.uptoBulk d<b):∃ tv,TyRep tv xs∧Sm b tv:=(tyP_shp und25 und23 siz25 h hb).1 rfl
theorem pat_shp {b:Nat} (d:DataW H) (xs:List AV) (h:Shp MX 62 d xs) (hb:Rows.uptoBulk d<b):∃ tv,TyRep tv xs∧Sm b tv:=(tyP_shp und62 und26 siz62 h hb).1 rfl
theorem und109:und MX.ty 109=some (.struct #[{ name := "Name",type:=9,offset:=0,embedded:=false,tag := "",pkgPath := "",byteOffset:=0 },{ name := "Type",type:=25,offset:=1,embedded:=false,tag := "",pkgPath := "",byteOffset:=16 }]):=by kernel_rfl
theorem und106:und MX.ty 106=some (.struct #[{ name := "Name",type:=9,offset:=0,embedded:=false,tag := "",pkgPath := "",byteOffset:=0 },{ name := "Fields",type:=104,offset:=1,embedded:=false,tag := "",pkgPath := "",byteOffset:=16 }]):=by kernel_rfl
theorem und103:und MX.ty 103=some (.struct #[{ name := "Name",type:=9,offset:=0,embedded:=false,tag := "",pkgPath := "",byteOffset:=0 },{ name := "Params",type:=100,offset:=1,embedded:=false,tag := "",pkgPath := "",byteOffset:=16 },{ name := "Constructors",type:=101,offset:=2,embedded:=false,tag := "",pkgPath := "",byteOffset:=40 }]):=by kernel_rfl
theorem und28:und MX.ty 28=some (.struct #[{ name := "Data",type:=22,offset:=0,embedded:=false,tag := "",pkgPath := "",byteOffset:=0 },{ name := "Type",type:=25,offset:=1,embedded:=false,tag := "",pkgPath := "",byteOffset:=24 },{ name := "Arms",type:=26,offset:=5,embedded:=false,tag := "",pkgPath := "",byteOffset:=80 }]):=by kernel_rfl
theorem und100':und MX.ty 100=some (.slice 9):=by kernel_rfl
theorem und101:und MX.ty 101=some (.slice 106):=by kernel_rfl
theorem und104:und MX.ty 104=some (.slice 109):=by kernel_rfl
theorem und22:und MX.ty 22=some (.slice 103):=by kernel_rfl
theorem field_shp {b:Nat} (d:DataW H) (xs:List AV) (h:Shp MX 109 d xs) (hb:Rows.uptoBulk d<b):∃ f,FieldRep f xs∧SmF b f:=by
 obtain ⟨ds,rows,rfl,hl,hf,hs,hbs⟩:=shp_struct und109 h hb
 match ds,rows,hf,hl with
 | [d0,d1],[a0,a1],_,_=>
  obtain ⟨nm,rfl,hn⟩:=shp_str (hs 0 _ d0 a0 rfl rfl rfl) (hbs d0 (by simp))
  obtain ⟨tv,ht,hst⟩:=ty_shp _ _ (hs 1 _ d1 a1 rfl rfl rfl) (hbs d1 (by simp))
  exact ⟨⟨nm,tv⟩,⟨a1,by simp,ht⟩,hn,hst⟩
theorem con_shp {b:Nat} (d:DataW H) (xs:List AV) (h:Shp MX 106 d xs) (hb:Rows.uptoBulk d<b):∃ c,ConRep c xs∧SmC b c:=by
 obtain ⟨ds,rows,rfl,hl,hf,hs,hbs⟩:=shp_struct und106 h hb
 match ds,rows,hf,hl with
 | [d0,d1],[a0,a1],_,_=>
  obtain ⟨nm,rfl,hn⟩:=shp_str (hs 0 _ d0 a0 rfl rfl rfl) (hbs d0 (by simp))
  obtain ⟨l,v,rfl,hv,hlb,hS⟩:=list_shp (R:=FieldRep) (S:=SmF b) und104 (fun d xs=>field_shp d xs) (hs 1 _ d1 a1 rfl rfl rfl) (hbs d1 (by simp))
  rw [siz109] at hv
  exact ⟨⟨nm,l⟩,⟨v,by simp,hv⟩,hn,hlb,hS⟩
theorem data_shp {b:Nat} (d:DataW H) (xs:List AV) (h:Shp MX 103 d xs) (hb:Rows.uptoBulk d<b):∃ c,DataRep c xs∧SmD b c:=by
 obtain ⟨ds,rows,rfl,hl,hf,hs,hbs⟩:=shp_struct und103 h hb
 match ds,rows,hf,hl with
 | [d0,d1,d2],[a0,a1,a2],_,_=>
  obtain ⟨nm,rfl,hn⟩:=shp_str (hs 0 _ d0 a0 rfl rfl rfl) (hbs d0 (by simp))
  obtain ⟨l,v,rfl,hv,hlb,hS⟩:=list_shp (R:=StrRep) (S:=fun s=>s.length<b) und100' (fun d xs h hb=>shp_str h hb) (hs 1 _ d1 a1 rfl rfl rfl) (hbs d1 (by simp))
  obtain ⟨m,w,rfl,hw,hmb,hM⟩:=list_shp (R:=ConRep) (S:=SmC b) und101 (fun d xs=>con_shp d xs) (hs 2 _ d2 a2 rfl rfl rfl) (hbs d2 (by simp))
  rw [sizX9] at hv
  rw [siz106] at hw
  exact ⟨⟨nm,l,m⟩,⟨v,w,by simp,hv,hw⟩,hn,hlb,hS,hmb,hM⟩
theorem task_shp {b:Nat} (d:DataW H) (xs:List AV) (h:Shp MX 28 d xs) (hb:Rows.uptoBulk d<b):∃ c,TaskRep c xs∧SmT b c:=by
 obtain ⟨ds,rows,rfl,hl,hf,hs,hbs⟩:=shp_struct und28 h hb
 match ds,rows,hf,hl with
 | [d0,d1,d2],[a0,a1,a2],_,_=>
  obtain ⟨l,v,rfl,hv,hlb,hS⟩:=list_shp (R:=DataRep) (S:=SmD b) und22 (fun d xs=>data_shp d xs) (hs 0 _ d0 a0 rfl rfl rfl) (hbs d0 (by simp))
  obtain ⟨tv,ht,hst⟩:=ty_shp _ _ (hs 1 _ d1 a1 rfl rfl rfl) (hbs d1 (by simp))
  obtain ⟨m,w,rfl,hw,hmb,hM⟩:=list_shp (R:=TyRep) (S:=Sm b) und26 (fun d xs=>pat_shp d xs) (hs 2 _ d2 a2 rfl rfl rfl) (hbs d2 (by simp))
  rw [siz103] at hv
  rw [siz62] at hw
  exact ⟨⟨l,tv,m⟩,⟨v,a1,w,by simp,hv,ht,hw⟩,⟨hlb,hS⟩,hst,hmb,hM⟩
end
end Go.Proofs.Am12
namespace Go.Proofs.Am12
open Go Go.Am
attribute [local simp] cw_skip cw_region cw_seq cw_cond cw_block cw_loop cw_exit cw_ret regionA runOps wantedA opEx xVal xPick xAlloc xBox xBuild xBuildSlice xLoad xStore xNil xBin xUn xConv xIface xFunc xMakeSlice xSlice xFieldAddr xField xIndexAddr xIndex xLookup xUpdate xExtract xBuiltin xPanic xCall
 ev evs ofVal ofCell OR.ofV OR.ofVH OR.ofC putD Tm.get Tm.init Tm.only beq_d ble_d blt_d finish resultA resA binA intBin strBin unA cells_int cells_bool cells_str cells_nilp cells_ro cells_hp cells_ep cells_nils cells_sl cells_hs cells_nilm cells_hm cells_fn cells_nilf cells_agg loopC loopsIn lenSl_nils lenSl_sl lenSl_hs lenSt_str faA_ro faA_hp faA_ep ld1_def ldN_def takeA rd_ro rd_hp rd_ep stA spliceAt zipFst fillC kdOf kdRead blkOf noCh okDraw_ld
set_option maxHeartbeats 1000000
theorem bytesA_get {s:Bytes} {i:Nat} (hi:i<s.length):(bytesA s)[i]? = some [.int .u8 s[i].toNat]:=by simp [bytesA,hi]
theorem pureX {f:FuncId} {args:List AV} {v:AV} {hr:Heap} (hm:MX.mode f = { fresh:=true }) (he:MX.eff f=none) (ha:args.all AV.noRef=true) (hv:v.noRef=true) (hc:runW MX f args []=some (.ret v,hr)) (h:Heap) :
  doCall MX (callW MX) f args h=some (.ret v,h):=by
 have hs:∀ {l:List AV} {h:Heap},l.all AV.noRef=true→snapArgs l h=some (l,h):=by
  intro l
  induction l with
  | nil=>intro h _;rfl
  | cons a r ih=>
   intro h hn
   simp only [List.all_cons,Bool.and_eq_true] at hn
   simp only [snapArgs,hn.1,ih hn.2]
 unfold doCall
 simp only [hm,hs ha,ha,callW_run he hc,closeRes,hv]
theorem pureS {f:FuncId} {args:List AV} {v v':AV} {hr hr':Heap} (hm:MX.mode f = { fresh:=true }) (he:MX.eff f=none) (ha:args.all AV.noRef=true) (hv:v.noRef=false) (hsn:snap snapN v hr=some (v',hr')) (hv':v'.noRef=true) (hc:runW MX f args []=some (.ret v,hr)) (h:Heap) :
  doCall MX (callW MX) f args h=some (.ret v',h):=by
 have hs:∀ {l:List AV} {h:Heap},l.all AV.noRef=true→snapArgs l h=some (l,h):=by
  intro l
  induction l with
  | nil=>intro h _;rfl
  | cons a r ih=>
   intro h hn
   simp only [List.all_cons,Bool.and_eq_true] at hn
   simp only [snapArgs,hn.1,ih hn.2]
 unfold doCall
 simp only [hm,hs ha,ha,callW_run he hc,closeRes,hv,hsn,hv']
theorem tWithin104 (n lo hi:Int) (h:Heap):runW MX 104 [.int .i64 n,.int .i64 lo,.int .i64 hi] h=some (.ret (.bool (decide (lo≤n∧n≤hi))),h):=by
 by_cases h1:lo≤n <;> by_cases h2:n≤hi <;> simp [runW,Tryz.f104,h1,h2]
theorem tWithin181 (n lo hi:Int) (h:Heap):runW MX 181 [.int .i64 n,.int .i64 lo,.int .i64 hi] h=some (.ret (.bool (decide (lo≤n∧n≤hi))),h):=by
 by_cases h1:lo≤n <;> by_cases h2:n≤hi <;> simp [runW,Tryz.f181,h1,h2]
theorem tWithin196 (n lo hi:Int) (h:Heap):runW MX 196 [.int .i64 n,.int .i64 lo,.int .i64 hi] h=some (.ret (.bool (decide (lo≤n∧n≤hi))),h):=by
 by_cases h1:lo≤n <;> by_cases h2:n≤hi <;> simp [runW,Tryz.f196,h1,h2]
@[simp] theorem c104 (n lo hi:Int) (h:Heap):doCall MX (callW MX) 104 [.int .i64 n,.int .i64 lo,.int .i64 hi] h=some (.ret (.bool (decide (lo≤n∧n≤hi))),h):=pureX mode_104 eff_104 rfl rfl (tWithin104 n lo hi []) h
@[simp] theorem c181 (n lo hi:Int) (h:Heap):doCall MX (callW MX) 181 [.int .i64 n,.int .i64 lo,.int .i64 hi] h=some (.ret (.bool (decide (lo≤n∧n≤hi))),h):=pureX mode_181 eff_181 rfl rfl (tWithin181 n lo hi []) h
@[simp] theorem c196 (n lo hi:Int) (h:Heap):doCall MX (callW MX) 196 [.int .i64 n,.int .i64 lo,.int .i64 hi] h=some (.ret (.bool (decide (lo≤n∧n≤hi))),h):=pureX mode_196 eff_196 rfl rfl (tWithin196 n lo hi []) h
theorem t111 (b:Bool) (e:Int) (h:Heap):runW MX 111 [.bool b,.int .i64 e] h=some (.ret (.int .i64 (if b then 0 else e)),h):=by
 cases b <;> simp [runW,Tryz.f111]
theorem t215 (b:Bool) (e:Int) (h:Heap):runW MX 215 [.bool b,.int .i64 e] h=some (.ret (.int .i64 (if b then 0 else e)),h):=by
 cases b <;> simp [runW,Tryz.f215]
@[simp] theorem c111 (b:Bool) (e:Int) (h:Heap):doCall MX (callW MX) 111 [.bool b,.int .i64 e] h=some (.ret (.int .i64 (if b then 0 else e)),h):=pureX mode_111 eff_111 rfl rfl (t111 b e []) h
@[simp] theorem c215 (b:Bool) (e:Int) (h:Heap):doCall MX (callW MX) 215 [.bool b,.int .i64 e] h=some (.ret (.int .i64 (if b then 0 else e)),h):=pureX mode_215 eff_215 rfl rfl (t215 b e []) h
theorem tWidth (n:Int) (h:Heap):runW MX 155 [.int .i64 n] h=some (.ret (.bool (decide (1≤n∧n≤16))),h):=by
 simp [runW,Tryz.f155]
@[simp] theorem c155 (n:Int) (h:Heap):doCall MX (callW MX) 155 [.int .i64 n] h=some (.ret (.bool (decide (1≤n∧n≤16))),h):=pureX mode_155 eff_155 rfl rfl (tWidth n []) h
def ints (l:List Int):List (List AV):=l.map fun e=>[AV.int .i64 e]
def firstOf:List Int→Int
 | []=>0
 | e::r=>if e=0 then firstOf r else e
theorem firstOf_drop {l:List Int} {i:Nat} (hi:i<l.length):firstOf (l.drop i)=if l[i]=0 then firstOf (l.drop (i+1)) else l[i]:=by
 rw [List.drop_eq_getElem_cons hi];rfl
theorem t97 (l:List Int) (ex:Bool) (hl:l.length<1048577) (h:Heap):runW MX 97 [.sl 1 ex (ints l)] h=some (.ret (.int .i64 (firstOf l)),h):=by
 obtain ⟨e,st,hlp,hq⟩:=loop_up (M:=MX) (fid:=97) (N:=15) (C:=callW MX) (c:=loopC Tryz.f97 0) (n:=l.length) (fun i (_:Unit)=>([(5,.sl 1 ex (ints l)),(6,.int .i64 l.length),(7,.int .i64 i)],h)) (fun i _=>firstOf l=firstOf (l.drop i))
  (fun r=>(r=(.ext 0,([(5,.sl 1 ex (ints l)),(6,.int .i64 l.length),(7,.int .i64 l.length),(8,.bool false)],h))∧firstOf l=0)∨(r=(.ret,([(2,.int .i64 (firstOf l))],h)))) (fun i b hi hI=>by
    have hi':((i:Int)<(l.length:Int)):=by omega
    have hw:wr .i64 ((i:Int)+1)=(i:Int)+1:=wr_i64 (by omega) (by omega)
    have hx:=ixA_sl i 1 ex (ints l) .i64 (by simpa [ints] using hi)
    have he:(ints l)[i]'(by simpa [ints] using hi)=[.int .i64 l[i]]:=by simp [ints]
    rw [he] at hx
    have hd:=firstOf_drop hi
    by_cases h0:l[i]=0
    ·exact .inl ⟨(),by simp [Tryz.f97,hi',hx,h0,hw],by rw [hI,hd,if_pos h0]⟩
    ·have hne:(l[i] != 0)=true:=by simp [h0]
     rw [if_neg h0] at hd
     exact .inr ⟨_,_,by simp [Tryz.f97,hi',hx,hne] <;> exact ⟨rfl,rfl⟩,by simp,.inr (by rw [hI,hd])⟩) (fun b hI=>by
    refine ⟨_,_,by simp [Tryz.f97] <;> exact ⟨rfl,rfl⟩,by simp,.inl ⟨rfl,?_⟩⟩
    rw [hI,List.drop_length];rfl) () (by simp)
 simp [Tryz.f97] at hlp
 rcases hq with ⟨hq,ha⟩ | hq <;> cases hq
 ·simp [runW,Tryz.f97,ints,hlp,ha]
  simp only [ints] at hlp
  simp [hlp]
 ·simp [runW,Tryz.f97,ints]
  simp only [ints] at hlp
  simp [hlp]
theorem c97 (l:List Int) (ex:Bool) (hl:l.length<1048577) (h:Heap):doCall MX (callW MX) 97 [.sl 1 ex (ints l)] h=some (.ret (.int .i64 (firstOf l)),h):=pureX mode_97 eff_97 rfl rfl (t97 l ex hl []) h
@[simp] theorem c97_2 (a b:Int) (ex:Bool) (h:Heap):doCall MX (callW MX) 97 [.sl 1 ex [[.int .i64 a],[.int .i64 b]]] h=some (.ret (.int .i64 (firstOf [a,b])),h):=c97 [a,b] ex (by simp) h
@[simp] theorem c97_3 (a b c:Int) (ex:Bool) (h:Heap):doCall MX (callW MX) 97 [.sl 1 ex [[.int .i64 a],[.int .i64 b],[.int .i64 c]]] h=some (.ret (.int .i64 (firstOf [a,b,c])),h):=c97 [a,b,c] ex (by simp) h
theorem t217 (l:List Int) (ex:Bool) (hl:l.length<1048577) (h:Heap):runW MX 217 [.sl 1 ex (ints l)] h=some (.ret (.int .i64 (firstOf l)),h):=by
 obtain ⟨e,st,hlp,hq⟩:=loop_up (M:=MX) (fid:=217) (N:=15) (C:=callW MX) (c:=loopC Tryz.f217 0) (n:=l.length) (fun i (_:Unit)=>([(5,.sl 1 ex (ints l)),(6,.int .i64 l.length),(7,.int .i64 i)],h)) (fun i _=>firstOf l=firstOf (l.drop i))
  (fun r=>(r=(.ext 0,([(5,.sl 1 ex (ints l)),(6,.int .i64 l.length),(7,.int .i64 l.length),(8,.bool false)],h))∧firstOf l=0)∨(r=(.ret,([(2,.int .i64 (firstOf l))],h)))) (fun i b hi hI=>by
    have hi':((i:Int)<(l.length:Int)):=by omega
    have hw:wr .i64 ((i:Int)+1)=(i:Int)+1:=wr_i64 (by omega) (by omega)
    have hx:=ixA_sl i 1 ex (ints l) .i64 (by simpa [ints] using hi)
    have he:(ints l)[i]'(by simpa [ints] using hi)=[.int .i64 l[i]]:=by simp [ints]
    rw [he] at hx
    have hd:=firstOf_drop hi
    by_cases h0:l[i]=0
    ·exact .inl ⟨(),by simp [Tryz.f217,hi',hx,h0,hw],by rw [hI,hd,if_pos h0]⟩
    ·have hne:(l[i] != 0)=true:=by simp [h0]
     rw [if_neg h0] at hd
     exact .inr ⟨_,_,by simp [Tryz.f217,hi',hx,hne] <;> exact ⟨rfl,rfl⟩,by simp,.inr (by rw [hI,hd])⟩) (fun b hI=>by
    refine ⟨_,_,by simp [Tryz.f217] <;> exact ⟨rfl,rfl⟩,by simp,.inl ⟨rfl,?_⟩⟩
    rw [hI,List.drop_length];rfl) () (by simp)
 simp [Tryz.f217] at hlp
 rcases hq with ⟨hq,ha⟩ | hq <;> cases hq
 ·simp [runW,Tryz.f217,ints,hlp,ha]
  simp only [ints] at hlp
  simp [hlp]
 ·simp [runW,Tryz.f217,ints]
  simp only [ints] at hlp
  simp [hlp]
theorem c217 (l:List Int) (ex:Bool) (hl:l.length<1048577) (h:Heap):doCall MX (callW MX) 217 [.sl 1 ex (ints l)] h=some (.ret (.int .i64 (firstOf l)),h):=pureX mode_217 eff_217 rfl rfl (t217 l ex hl []) h
@[simp] theorem c217_2 (a b:Int) (ex:Bool) (h:Heap):doCall MX (callW MX) 217 [.sl 1 ex [[.int .i64 a],[.int .i64 b]]] h=some (.ret (.int .i64 (firstOf [a,b])),h):=c217 [a,b] ex (by simp) h
def okAt (i:Nat) (n:Nat):Bool:=(decide (97≤n∧n≤122)||decide (65≤n∧n≤90))||(decide (i≠0)&&(decide (n=95)||decide (48≤n∧n≤57)))
def allOk:Nat→Bytes→Bool
 | _,[]=>true
 | i,b::r=>okAt i b.toNat&&allOk (i+1) r
def isNameS (s:Bytes):Bool:=decide (1≤s.length∧s.length≤16)&&allOk 0 s
theorem allOk_drop {s:Bytes} {i:Nat} (hi:i<s.length):allOk i (s.drop i)=(okAt i s[i].toNat&&allOk (i+1) (s.drop (i+1))):=by
 rw [List.drop_eq_getElem_cons hi];rfl
theorem nine (n:Nat):n<48∨(48≤n∧n≤57)∨(57<n∧n<65)∨(65≤n∧n≤90)∨(90<n∧n<95)∨n=95∨n=96∨(97≤n∧n≤122)∨122<n:=by omega
theorem t157 (s:Bytes) (hs:s.length<1048577) (h:Heap):runW MX 157 [.str s] h=some (.ret (.bool (isNameS s)),h):=by
 by_cases hl:1≤s.length∧s.length≤16
 ·obtain ⟨e,st,hlp,hq⟩:=loop_up (M:=MX) (fid:=157) (N:=55) (C:=callW MX) (c:=loopC Tryz.f157 0) (n:=s.length) (fun i (_:Unit)=>([(0,.str s),(3,.int .i64 i)],h)) (fun i _=>allOk 0 s=allOk i (s.drop i))
   (fun r=>(r=(.ext 0,([(0,.str s),(3,.int .i64 s.length),(17,.bool false)],h))∧allOk 0 s=true)∨(r=(.ret,([(2,.bool false)],h))∧allOk 0 s=false)) (fun i b hi hI=>by
   obtain ⟨n,hn⟩:∃ n,n=s[i].toNat:=⟨_,rfl⟩
   have hd:=allOk_drop hi
   rw [← hn] at hd
   have hw:wr .i64 ((i:Int)+1)=(i:Int)+1:=wr_i64 (by omega) (by omega)
   have hi':((i:Int)<(s.length:Int)):=by omega
   have key:(okAt i n=true∧codeW MX 157 55 (callW MX) (loopC Tryz.f157 0) ([(0,AV.str s),(3,AV.int .i64 i)],h)=some (.nrm,([(0,AV.str s),(3,AV.int .i64 ((i:Int)+1))],h)))∨(okAt i n=false∧codeW MX 157 55 (callW MX) (loopC Tryz.f157 0) ([(0,AV.str s),(3,AV.int .i64 i)],h)=some (.ret,([(2,.bool false)],h))):=by
    have hc:∀ k:Nat,((k:Int)≤(n:Int)↔k≤n)∧((n:Int)≤(k:Int)↔n≤k)∧((n:Int)<(k:Int)↔n<k)∧((k:Int)<(n:Int)↔k<n)∧((n:Int)=(k:Int)↔n=k):=fun k=>by omega
    have c1:=(hc 97).1;have c2:=(hc 122).2.1;have c3:=(hc 65).1;have c4:=(hc 90).2.1;have c5:=(hc 95).2.2.2.2;have c6:=(hc 48).2.2.1;have c7:=(hc 57).2.2.2.1
    simp only [Int.cast_ofNat_Int] at c1 c2 c3 c4 c5 c6 c7
    have hc5:((n:Int) != 95)=decide (n≠95):=by rw [Bool.eq_iff_iff];simp [c5]
    by_cases h0:i=0
    ·have e0:((i:Int) == 0)=true:=by simp [h0]
     rcases nine n with h | h | h | h | h | h | h | h | h
     ·have p0:¬ (97≤n):=(by omega);have p1:n≤122:=(by omega);have p2:¬ (65≤n):=(by omega);have p3:n≤90:=(by omega);have p4:¬ (n=95):=(by omega);have p5:n<48:=(by omega);have p6:¬ (57<n):=(by omega);exact .inr ⟨by simp only [okAt,h0,p0,p1,p2,p3,p4];simp;try omega,by simp [Tryz.f157,← hn,hi',hc5,e0,c1,c2,c3,c4,c5,c6,c7,p0,p1,p2,p3,p4,p5,p6,hw,ixS_str _ .i64 _ hi]⟩
     ·have p0:¬ (97≤n):=(by omega);have p1:n≤122:=(by omega);have p2:¬ (65≤n):=(by omega);have p3:n≤90:=(by omega);have p4:¬ (n=95):=(by omega);have p5:¬ (n<48):=(by omega);have p6:¬ (57<n):=(by omega);exact .inr ⟨by simp only [okAt,h0,p0,p1,p2,p3,p4];simp;try omega,by simp [Tryz.f157,← hn,hi',hc5,e0,c1,c2,c3,c4,c5,c6,c7,p0,p1,p2,p3,p4,p5,p6,hw,ixS_str _ .i64 _ hi]⟩
     ·have p0:¬ (97≤n):=(by omega);have p1:n≤122:=(by omega);have p2:¬ (65≤n):=(by omega);have p3:n≤90:=(by omega);have p4:¬ (n=95):=(by omega);have p5:¬ (n<48):=(by omega);have p6:57<n:=(by omega);exact .inr ⟨by simp only [okAt,h0,p0,p1,p2,p3,p4];simp;try omega,by simp [Tryz.f157,← hn,hi',hc5,e0,c1,c2,c3,c4,c5,c6,c7,p0,p1,p2,p3,p4,p5,p6,hw,ixS_str _ .i64 _ hi]⟩
     ·have p0:¬ (97≤n):=(by omega);have p1:n≤122:=(by omega);have p2:65≤n:=(by omega);have p3:n≤90:=(by omega);have p4:¬ (n=95):=(by omega);have p5:¬ (n<48):=(by omega);have p6:57<n:=(by omega);exact .inl ⟨by simp only [okAt,h0,p0,p1,p2,p3,p4];simp;try omega,by simp [Tryz.f157,← hn,hi',hc5,e0,c1,c2,c3,c4,c5,c6,c7,p0,p1,p2,p3,p4,p5,p6,hw,ixS_str _ .i64 _ hi]⟩
     ·have p0:¬ (97≤n):=(by omega);have p1:n≤122:=(by omega);have p2:65≤n:=(by omega);have p3:¬ (n≤90):=(by omega);have p4:¬ (n=95):=(by omega);have p5:¬ (n<48):=(by omega);have p6:57<n:=(by omega);exact .inr ⟨by simp only [okAt,h0,p0,p1,p2,p3,p4];simp;try omega,by simp [Tryz.f157,← hn,hi',hc5,e0,c1,c2,c3,c4,c5,c6,c7,p0,p1,p2,p3,p4,p5,p6,hw,ixS_str _ .i64 _ hi]⟩
     ·have p0:¬ (97≤n):=(by omega);have p1:n≤122:=(by omega);have p2:65≤n:=(by omega);have p3:¬ (n≤90):=(by omega);have p4:n=95:=(by omega);have p5:¬ (n<48):=(by omega);have p6:57<n:=(by omega);exact .inr ⟨by simp only [okAt,h0,p0,p1,p2,p3,p4];simp;try omega,by simp [Tryz.f157,← hn,hi',hc5,e0,c1,c2,c3,c4,c5,c6,c7,p0,p1,p2,p3,p4,p5,p6,hw,ixS_str _ .i64 _ hi]⟩
     ·have p0:¬ (97≤n):=(by omega);have p1:n≤122:=(by omega);have p2:65≤n:=(by omega);have p3:¬ (n≤90):=(by omega);have p4:¬ (n=95):=(by omega);have p5:¬ (n<48):=(by omega);have p6:57<n:=(by omega);exact .inr ⟨by simp only [okAt,h0,p0,p1,p2,p3,p4];simp;try omega,by simp [Tryz.f157,← hn,hi',hc5,e0,c1,c2,c3,c4,c5,c6,c7,p0,p1,p2,p3,p4,p5,p6,hw,ixS_str _ .i64 _ hi]⟩
     ·have p0:97≤n:=(by omega);have p1:n≤122:=(by omega);have p2:65≤n:=(by omega);have p3:¬ (n≤90):=(by omega);have p4:¬ (n=95):=(by omega);have p5:¬ (n<48):=(by omega);have p6:57<n:=(by omega);exact .inl ⟨by simp only [okAt,h0,p0,p1,p2,p3,p4];simp;try omega,by simp [Tryz.f157,← hn,hi',hc5,e0,c1,c2,c3,c4,c5,c6,c7,p0,p1,p2,p3,p4,p5,p6,hw,ixS_str _ .i64 _ hi]⟩
     ·have p0:97≤n:=(by omega);have p1:¬ (n≤122):=(by omega);have p2:65≤n:=(by omega);have p3:¬ (n≤90):=(by omega);have p4:¬ (n=95):=(by omega);have p5:¬ (n<48):=(by omega);have p6:57<n:=(by omega);exact .inr ⟨by simp only [okAt,h0,p0,p1,p2,p3,p4];simp;try omega,by simp [Tryz.f157,← hn,hi',hc5,e0,c1,c2,c3,c4,c5,c6,c7,p0,p1,p2,p3,p4,p5,p6,hw,ixS_str _ .i64 _ hi]⟩
    ·have e0:((i:Int) == 0)=false:=by simp;omega
     rcases nine n with h | h | h | h | h | h | h | h | h
     ·have p0:¬ (97≤n):=(by omega);have p1:n≤122:=(by omega);have p2:¬ (65≤n):=(by omega);have p3:n≤90:=(by omega);have p4:¬ (n=95):=(by omega);have p5:n<48:=(by omega);have p6:¬ (57<n):=(by omega);exact .inr ⟨by simp only [okAt,h0,p0,p1,p2,p3,p4];simp;try omega,by simp [Tryz.f157,← hn,hi',hc5,e0,c1,c2,c3,c4,c5,c6,c7,p0,p1,p2,p3,p4,p5,p6,hw,ixS_str _ .i64 _ hi]⟩
     ·have p0:¬ (97≤n):=(by omega);have p1:n≤122:=(by omega);have p2:¬ (65≤n):=(by omega);have p3:n≤90:=(by omega);have p4:¬ (n=95):=(by omega);have p5:¬ (n<48):=(by omega);have p6:¬ (57<n):=(by omega);exact .inl ⟨by simp only [okAt,h0,p0,p1,p2,p3,p4];simp;try omega,by simp [Tryz.f157,← hn,hi',hc5,e0,c1,c2,c3,c4,c5,c6,c7,p0,p1,p2,p3,p4,p5,p6,hw,ixS_str _ .i64 _ hi]⟩
     ·have p0:¬ (97≤n):=(by omega);have p1:n≤122:=(by omega);have p2:¬ (65≤n):=(by omega);have p3:n≤90:=(by omega);have p4:¬ (n=95):=(by omega);have p5:¬ (n<48):=(by omega);have p6:57<n:=(by omega);exact .inr ⟨by simp only [okAt,h0,p0,p1,p2,p3,p4];simp;try omega,by simp [Tryz.f157,← hn,hi',hc5,e0,c1,c2,c3,c4,c5,c6,c7,p0,p1,p2,p3,p4,p5,p6,hw,ixS_str _ .i64 _ hi]⟩
     ·have p0:¬ (97≤n):=(by omega);have p1:n≤122:=(by omega);have p2:65≤n:=(by omega);have p3:n≤90:=(by omega);have p4:¬ (n=95):=(by omega);have p5:¬ (n<48):=(by omega);have p6:57<n:=(by omega);exact .inl ⟨by simp only [okAt,h0,p0,p1,p2,p3,p4];simp;try omega,by simp [Tryz.f157,← hn,hi',hc5,e0,c1,c2,c3,c4,c5,c6,c7,p0,p1,p2,p3,p4,p5,p6,hw,ixS_str _ .i64 _ hi]⟩
     ·have p0:¬ (97≤n):=(by omega);have p1:n≤122:=(by omega);have p2:65≤n:=(by omega);have p3:¬ (n≤90):=(by omega);have p4:¬ (n=95):=(by omega);have p5:¬ (n<48):=(by omega);have p6:57<n:=(by omega);exact .inr ⟨by simp only [okAt,h0,p0,p1,p2,p3,p4];simp;try omega,by simp [Tryz.f157,← hn,hi',hc5,e0,c1,c2,c3,c4,c5,c6,c7,p0,p1,p2,p3,p4,p5,p6,hw,ixS_str _ .i64 _ hi]⟩
     ·have p0:¬ (97≤n):=(by omega);have p1:n≤122:=(by omega);have p2:65≤n:=(by omega);have p3:¬ (n≤90):=(by omega);have p4:n=95:=(by omega);have p5:¬ (n<48):=(by omega);have p6:57<n:=(by omega);exact .inl ⟨by simp only [okAt,h0,p0,p1,p2,p3,p4];simp;try omega,by simp [Tryz.f157,← hn,hi',hc5,e0,c1,c2,c3,c4,c5,c6,c7,p0,p1,p2,p3,p4,p5,p6,hw,ixS_str _ .i64 _ hi]⟩
     ·have p0:¬ (97≤n):=(by omega);have p1:n≤122:=(by omega);have p2:65≤n:=(by omega);have p3:¬ (n≤90):=(by omega);have p4:¬ (n=95):=(by omega);have p5:¬ (n<48):=(by omega);have p6:57<n:=(by omega);exact .inr ⟨by simp only [okAt,h0,p0,p1,p2,p3,p4];simp;try omega,by simp [Tryz.f157,← hn,hi',hc5,e0,c1,c2,c3,c4,c5,c6,c7,p0,p1,p2,p3,p4,p5,p6,hw,ixS_str _ .i64 _ hi]⟩
     ·have p0:97≤n:=(by omega);have p1:n≤122:=(by omega);have p2:65≤n:=(by omega);have p3:¬ (n≤90):=(by omega);have p4:¬ (n=95):=(by omega);have p5:¬ (n<48):=(by omega);have p6:57<n:=(by omega);exact .inl ⟨by simp only [okAt,h0,p0,p1,p2,p3,p4];simp;try omega,by simp [Tryz.f157,← hn,hi',hc5,e0,c1,c2,c3,c4,c5,c6,c7,p0,p1,p2,p3,p4,p5,p6,hw,ixS_str _ .i64 _ hi]⟩
     ·have p0:97≤n:=(by omega);have p1:¬ (n≤122):=(by omega);have p2:65≤n:=(by omega);have p3:¬ (n≤90):=(by omega);have p4:¬ (n=95):=(by omega);have p5:¬ (n<48):=(by omega);have p6:57<n:=(by omega);exact .inr ⟨by simp only [okAt,h0,p0,p1,p2,p3,p4];simp;try omega,by simp [Tryz.f157,← hn,hi',hc5,e0,c1,c2,c3,c4,c5,c6,c7,p0,p1,p2,p3,p4,p5,p6,hw,ixS_str _ .i64 _ hi]⟩
   rcases key with ⟨h1,h2⟩ | ⟨h1,h2⟩
   ·exact .inl ⟨(),h2,by rw [hI,hd,h1,Bool.true_and]⟩
   ·exact .inr ⟨_,_,h2,by simp,.inr ⟨rfl,by rw [hI,hd,h1,Bool.false_and]⟩⟩) (fun b hI=>by
   refine ⟨_,_,by simp [Tryz.f157] <;> exact ⟨rfl,rfl⟩,by simp,.inl ⟨rfl,?_⟩⟩
   rw [hI,List.drop_length];rfl) () (by simp)
  have hl1:¬ ((s.length:Int)<1):=by omega
  have hl2:¬ (16<(s.length:Int)):=by omega
  simp [Tryz.f157] at hlp
  rcases hq with ⟨hq,ha⟩ | ⟨hq,ha⟩ <;> cases hq <;> simp [runW,Tryz.f157,hlp,hl1,hl2,isNameS,ha,hl]
 ·have hl':isNameS s=false:=by simp [isNameS];intro h1 h2;exact absurd ⟨h1,h2⟩ hl
  by_cases h1:s.length<1
  ·have:((s.length:Int)<1):=by omega
   simp [runW,Tryz.f157,this,hl']
  ·have h1':¬ ((s.length:Int)<1):=by omega
   have h2:(16<(s.length:Int)):=by omega
   simp [runW,Tryz.f157,h1',h2,hl']
@[simp] theorem c157 (s:Bytes) (hs:s.length<1048577) (h:Heap):doCall MX (callW MX) 157 [.str s] h=some (.ret (.bool (isNameS s)),h):=pureX mode_157 eff_157 rfl rfl (t157 s hs []) h
theorem t180 (s:Bytes) (hs:s.length<1048577):runW MX 180 [.str s] []=some (.ret (.bool (isNameS s)),[.arr 1 false (bytesA s)]):=by
 obtain ⟨e,st,hlp,hq⟩:=loop_up (M:=MX) (fid:=180) (N:=50) (C:=callW MX) (c:=loopC Tryz.f180 0) (n:=s.length) (fun i (_:Unit)=>([(0,.str s),(7,.hs 0 s.length 1 0 s.length false),(8,.int .i64 s.length),(9,.int .i64 i)],[.arr 1 false (bytesA s)])) (fun i _=>allOk 0 s=allOk i (s.drop i))
   (fun r=>(r=(.ext 0,([(0,.str s),(7,.hs 0 s.length 1 0 s.length false),(8,.int .i64 s.length),(9,.int .i64 s.length),(10,.bool false)],[.arr 1 false (bytesA s)]))∧allOk 0 s=true)∨(r=(.ret,([(2,.bool false)],[.arr 1 false (bytesA s)]))∧allOk 0 s=false)) (fun i b hi hI=>by
   obtain ⟨n,hn⟩:∃ n,n=s[i].toNat:=⟨_,rfl⟩
   have hd:=allOk_drop hi
   rw [← hn] at hd
   have hw:wr .i64 ((i:Int)+1)=(i:Int)+1:=wr_i64 (by omega) (by omega)
   have hi':((i:Int)<(s.length:Int)):=by omega
   have key:(okAt i n=true∧codeW MX 180 50 (callW MX) (loopC Tryz.f180 0) ([(0,AV.str s),(7,AV.hs 0 s.length 1 0 s.length false),(8,AV.int .i64 s.length),(9,AV.int .i64 i)],[.arr 1 false (bytesA s)])=some (.nrm,([(0,AV.str s),(7,AV.hs 0 s.length 1 0 s.length false),(8,AV.int .i64 s.length),(9,AV.int .i64 ((i:Int)+1))],[.arr 1 false (bytesA s)])))∨(okAt i n=false∧codeW MX 180 50 (callW MX) (loopC Tryz.f180 0) ([(0,AV.str s),(7,AV.hs 0 s.length 1 0 s.length false),(8,AV.int .i64 s.length),(9,AV.int .i64 i)],[.arr 1 false (bytesA s)])=some (.ret,([(2,.bool false)],[.arr 1 false (bytesA s)]))):=by
    have hc:∀ k:Nat,((k:Int)≤(n:Int)↔k≤n)∧((n:Int)≤(k:Int)↔n≤k)∧((n:Int)<(k:Int)↔n<k)∧((k:Int)<(n:Int)↔k<n)∧((n:Int)=(k:Int)↔n=k):=fun k=>by omega
    have c1:=(hc 97).1;have c2:=(hc 122).2.1;have c3:=(hc 65).1;have c4:=(hc 90).2.1;have c5:=(hc 95).2.2.2.2;have c6:=(hc 48).2.2.1;have c7:=(hc 57).2.2.2.1
    simp only [Int.cast_ofNat_Int] at c1 c2 c3 c4 c5 c6 c7
    have hc5:((n:Int) != 95)=decide (n≠95):=by rw [Bool.eq_iff_iff];simp [c5]
    by_cases h0:i=0
    ·have e0:((i:Int) == 0)=true:=by simp [h0]
     rcases nine n with h | h | h | h | h | h | h | h | h
     ·have p0:¬ (97≤n):=(by omega);have p1:n≤122:=(by omega);have p2:¬ (65≤n):=(by omega);have p3:n≤90:=(by omega);have p4:¬ (n=95):=(by omega);have p5:n<48:=(by omega);have p6:¬ (57<n):=(by omega);exact .inr ⟨by simp only [okAt,h0,p0,p1,p2,p3,p4];simp;try omega,by simp [Tryz.f180,← hn,hi',hc5,e0,c1,c2,c3,c4,c5,c6,c7,p0,p1,p2,p3,p4,p5,p6,hw,ixA_hs i 0 0 s.length 1 s.length false .i64 hi,bytesA_len,bytesA_get hi]⟩
     ·have p0:¬ (97≤n):=(by omega);have p1:n≤122:=(by omega);have p2:¬ (65≤n):=(by omega);have p3:n≤90:=(by omega);have p4:¬ (n=95):=(by omega);have p5:¬ (n<48):=(by omega);have p6:¬ (57<n):=(by omega);exact .inr ⟨by simp only [okAt,h0,p0,p1,p2,p3,p4];simp;try omega,by simp [Tryz.f180,← hn,hi',hc5,e0,c1,c2,c3,c4,c5,c6,c7,p0,p1,p2,p3,p4,p5,p6,hw,ixA_hs i 0 0 s.length 1 s.length false .i64 hi,bytesA_len,bytesA_get hi]⟩
     ·have p0:¬ (97≤n):=(by omega);have p1:n≤122:=(by omega);have p2:¬ (65≤n):=(by omega);have p3:n≤90:=(by omega);have p4:¬ (n=95):=(by omega);have p5:¬ (n<48):=(by omega);have p6:57<n:=(by omega);exact .inr ⟨by simp only [okAt,h0,p0,p1,p2,p3,p4];simp;try omega,by simp [Tryz.f180,← hn,hi',hc5,e0,c1,c2,c3,c4,c5,c6,c7,p0,p1,p2,p3,p4,p5,p6,hw,ixA_hs i 0 0 s.length 1 s.length false .i64 hi,bytesA_len,bytesA_get hi]⟩
     ·have p0:¬ (97≤n):=(by omega);have p1:n≤122:=(by omega);have p2:65≤n:=(by omega);have p3:n≤90:=(by omega);have p4:¬ (n=95):=(by omega);have p5:¬ (n<48):=(by omega);have p6:57<n:=(by omega);exact .inl ⟨by simp only [okAt,h0,p0,p1,p2,p3,p4];simp;try omega,by simp [Tryz.f180,← hn,hi',hc5,e0,c1,c2,c3,c4,c5,c6,c7,p0,p1,p2,p3,p4,p5,p6,hw,ixA_hs i 0 0 s.length 1 s.length false .i64 hi,bytesA_len,bytesA_get hi]⟩
     ·have p0:¬ (97≤n):=(by omega);have p1:n≤122:=(by omega);have p2:65≤n:=(by omega);have p3:¬ (n≤90):=(by omega);have p4:¬ (n=95):=(by omega);have p5:¬ (n<48):=(by omega);have p6:57<n:=(by omega);exact .inr ⟨by simp only [okAt,h0,p0,p1,p2,p3,p4];simp;try omega,by simp [Tryz.f180,← hn,hi',hc5,e0,c1,c2,c3,c4,c5,c6,c7,p0,p1,p2,p3,p4,p5,p6,hw,ixA_hs i 0 0 s.length 1 s.length false .i64 hi,bytesA_len,bytesA_get hi]⟩
     ·have p0:¬ (97≤n):=(by omega);have p1:n≤122:=(by omega);have p2:65≤n:=(by omega);have p3:¬ (n≤90):=(by omega);have p4:n=95:=(by omega);have p5:¬ (n<48):=(by omega);have p6:57<n:=(by omega);exact .inr ⟨by simp only [okAt,h0,p0,p1,p2,p3,p4];simp;try omega,by simp [Tryz.f180,← hn,hi',hc5,e0,c1,c2,c3,c4,c5,c6,c7,p0,p1,p2,p3,p4,p5,p6,hw,ixA_hs i 0 0 s.length 1 s.length false .i64 hi,bytesA_len,bytesA_get hi]⟩
     ·have p0:¬ (97≤n):=(by omega);have p1:n≤122:=(by omega);have p2:65≤n:=(by omega);have p3:¬ (n≤90):=(by omega);have p4:¬ (n=95):=(by omega);have p5:¬ (n<48):=(by omega);have p6:57<n:=(by omega);exact .inr ⟨by simp only [okAt,h0,p0,p1,p2,p3,p4];simp;try omega,by simp [Tryz.f180,← hn,hi',hc5,e0,c1,c2,c3,c4,c5,c6,c7,p0,p1,p2,p3,p4,p5,p6,hw,ixA_hs i 0 0 s.length 1 s.length false .i64 hi,bytesA_len,bytesA_get hi]⟩
     ·have p0:97≤n:=(by omega);have p1:n≤122:=(by omega);have p2:65≤n:=(by omega);have p3:¬ (n≤90):=(by omega);have p4:¬ (n=95):=(by omega);have p5:¬ (n<48):=(by omega);have p6:57<n:=(by omega);exact .inl ⟨by simp only [okAt,h0,p0,p1,p2,p3,p4];simp;try omega,by simp [Tryz.f180,← hn,hi',hc5,e0,c1,c2,c3,c4,c5,c6,c7,p0,p1,p2,p3,p4,p5,p6,hw,ixA_hs i 0 0 s.length 1 s.length false .i64 hi,bytesA_len,bytesA_get hi]⟩
     ·have p0:97≤n:=(by omega);have p1:¬ (n≤122):=(by omega);have p2:65≤n:=(by omega);have p3:¬ (n≤90):=(by omega);have p4:¬ (n=95):=(by omega);have p5:¬ (n<48):=(by omega);have p6:57<n:=(by omega);exact .inr ⟨by simp only [okAt,h0,p0,p1,p2,p3,p4];simp;try omega,by simp [Tryz.f180,← hn,hi',hc5,e0,c1,c2,c3,c4,c5,c6,c7,p0,p1,p2,p3,p4,p5,p6,hw,ixA_hs i 0 0 s.length 1 s.length false .i64 hi,bytesA_len,bytesA_get hi]⟩
    ·have e0:((i:Int) == 0)=false:=by simp;omega
     rcases nine n with h | h | h | h | h | h | h | h | h
     ·have p0:¬ (97≤n):=(by omega);have p1:n≤122:=(by omega);have p2:¬ (65≤n):=(by omega);have p3:n≤90:=(by omega);have p4:¬ (n=95):=(by omega);have p5:n<48:=(by omega);have p6:¬ (57<n):=(by omega);exact .inr ⟨by simp only [okAt,h0,p0,p1,p2,p3,p4];simp;try omega,by simp [Tryz.f180,← hn,hi',hc5,e0,c1,c2,c3,c4,c5,c6,c7,p0,p1,p2,p3,p4,p5,p6,hw,ixA_hs i 0 0 s.length 1 s.length false .i64 hi,bytesA_len,bytesA_get hi]⟩
     ·have p0:¬ (97≤n):=(by omega);have p1:n≤122:=(by omega);have p2:¬ (65≤n):=(by omega);have p3:n≤90:=(by omega);have p4:¬ (n=95):=(by omega);have p5:¬ (n<48):=(by omega);have p6:¬ (57<n):=(by omega);exact .inl ⟨by simp only [okAt,h0,p0,p1,p2,p3,p4];simp;try omega,by simp [Tryz.f180,← hn,hi',hc5,e0,c1,c2,c3,c4,c5,c6,c7,p0,p1,p2,p3,p4,p5,p6,hw,ixA_hs i 0 0 s.length 1 s.length false .i64 hi,bytesA_len,bytesA_get hi]⟩
     ·have p0:¬ (97≤n):=(by omega);have p1:n≤122:=(by omega);have p2:¬ (65≤n):=(by omega);have p3:n≤90:=(by omega);have p4:¬ (n=95):=(by omega);have p5:¬ (n<48):=(by omega);have p6:57<n:=(by omega);exact .inr ⟨by simp only [okAt,h0,p0,p1,p2,p3,p4];simp;try omega,by simp [Tryz.f180,← hn,hi',hc5,e0,c1,c2,c3,c4,c5,c6,c7,p0,p1,p2,p3,p4,p5,p6,hw,ixA_hs i 0 0 s.length 1 s.length false .i64 hi,bytesA_len,bytesA_get hi]⟩
     ·have p0:¬ (97≤n):=(by omega);have p1:n≤122:=(by omega);have p2:65≤n:=(by omega);have p3:n≤90:=(by omega);have p4:¬ (n=95):=(by omega);have p5:¬ (n<48):=(by omega);have p6:57<n:=(by omega);exact .inl ⟨by simp only [okAt,h0,p0,p1,p2,p3,p4];simp;try omega,by simp [Tryz.f180,← hn,hi',hc5,e0,c1,c2,c3,c4,c5,c6,c7,p0,p1,p2,p3,p4,p5,p6,hw,ixA_hs i 0 0 s.length 1 s.length false .i64 hi,bytesA_len,bytesA_get hi]⟩
     ·have p0:¬ (97≤n):=(by omega);have p1:n≤122:=(by omega);have p2:65≤n:=(by omega);have p3:¬ (n≤90):=(by omega);have p4:¬ (n=95):=(by omega);have p5:¬ (n<48):=(by omega);have p6:57<n:=(by omega);exact .inr ⟨by simp only [okAt,h0,p0,p1,p2,p3,p4];simp;try omega,by simp [Tryz.f180,← hn,hi',hc5,e0,c1,c2,c3,c4,c5,c6,c7,p0,p1,p2,p3,p4,p5,p6,hw,ixA_hs i 0 0 s.length 1 s.length false .i64 hi,bytesA_len,bytesA_get hi]⟩
     ·have p0:¬ (97≤n):=(by omega);have p1:n≤122:=(by omega);have p2:65≤n:=(by omega);have p3:¬ (n≤90):=(by omega);have p4:n=95:=(by omega);have p5:¬ (n<48):=(by omega);have p6:57<n:=(by omega);exact .inl ⟨by simp only [okAt,h0,p0,p1,p2,p3,p4];simp;try omega,by simp [Tryz.f180,← hn,hi',hc5,e0,c1,c2,c3,c4,c5,c6,c7,p0,p1,p2,p3,p4,p5,p6,hw,ixA_hs i 0 0 s.length 1 s.length false .i64 hi,bytesA_len,bytesA_get hi]⟩
     ·have p0:¬ (97≤n):=(by omega);have p1:n≤122:=(by omega);have p2:65≤n:=(by omega);have p3:¬ (n≤90):=(by omega);have p4:¬ (n=95):=(by omega);have p5:¬ (n<48):=(by omega);have p6:57<n:=(by omega);exact .inr ⟨by simp only [okAt,h0,p0,p1,p2,p3,p4];simp;try omega,by simp [Tryz.f180,← hn,hi',hc5,e0,c1,c2,c3,c4,c5,c6,c7,p0,p1,p2,p3,p4,p5,p6,hw,ixA_hs i 0 0 s.length 1 s.length false .i64 hi,bytesA_len,bytesA_get hi]⟩
     ·have p0:97≤n:=(by omega);have p1:n≤122:=(by omega);have p2:65≤n:=(by omega);have p3:¬ (n≤90):=(by omega);have p4:¬ (n=95):=(by omega);have p5:¬ (n<48):=(by omega);have p6:57<n:=(by omega);exact .inl ⟨by simp only [okAt,h0,p0,p1,p2,p3,p4];simp;try omega,by simp [Tryz.f180,← hn,hi',hc5,e0,c1,c2,c3,c4,c5,c6,c7,p0,p1,p2,p3,p4,p5,p6,hw,ixA_hs i 0 0 s.length 1 s.length false .i64 hi,bytesA_len,bytesA_get hi]⟩
     ·have p0:97≤n:=(by omega);have p1:¬ (n≤122):=(by omega);have p2:65≤n:=(by omega);have p3:¬ (n≤90):=(by omega);have p4:¬ (n=95):=(by omega);have p5:¬ (n<48):=(by omega);have p6:57<n:=(by omega);exact .inr ⟨by simp only [okAt,h0,p0,p1,p2,p3,p4];simp;try omega,by simp [Tryz.f180,← hn,hi',hc5,e0,c1,c2,c3,c4,c5,c6,c7,p0,p1,p2,p3,p4,p5,p6,hw,ixA_hs i 0 0 s.length 1 s.length false .i64 hi,bytesA_len,bytesA_get hi]⟩
   rcases key with ⟨h1,h2⟩ | ⟨h1,h2⟩
   ·exact .inl ⟨(),h2,by rw [hI,hd,h1,Bool.true_and]⟩
   ·exact .inr ⟨_,_,h2,by simp,.inr ⟨rfl,by rw [hI,hd,h1,Bool.false_and]⟩⟩) (fun b hI=>by
   refine ⟨_,_,by simp [Tryz.f180] <;> exact ⟨rfl,rfl⟩,by simp,.inl ⟨rfl,?_⟩⟩
   rw [hI,List.drop_length];rfl) () (by simp)
 simp [Tryz.f180] at hlp
 have hlen:decide ((1:Int)≤s.length∧(s.length:Int)≤16)=decide (1≤s.length∧s.length≤16):=by rw [Bool.eq_iff_iff];simp;omega
 rcases hq with ⟨hq,ha⟩ | ⟨hq,ha⟩ <;> cases hq <;> simp [runW,Tryz.f180,hlp,cvB,newArr,bytesA_len,c181,isNameS,ha,hlen]
theorem t268 (s:Bytes) (hs:s.length<1048577):runW MX 268 [.str s] []=some (.ret (.bool (isNameS s)),[.arr 1 false (bytesA s)]):=by
 obtain ⟨e,st,hlp,hq⟩:=loop_up (M:=MX) (fid:=268) (N:=50) (C:=callW MX) (c:=loopC Tryz.f268 0) (n:=s.length) (fun i (_:Unit)=>([(0,.str s),(7,.hs 0 s.length 1 0 s.length false),(8,.int .i64 s.length),(9,.int .i64 i)],[.arr 1 false (bytesA s)])) (fun i _=>allOk 0 s=allOk i (s.drop i))
   (fun r=>(r=(.ext 0,([(0,.str s),(7,.hs 0 s.length 1 0 s.length false),(8,.int .i64 s.length),(9,.int .i64 s.length),(10,.bool false)],[.arr 1 false (bytesA s)]))∧allOk 0 s=true)∨(r=(.ret,([(2,.bool false)],[.arr 1 false (bytesA s)]))∧allOk 0 s=false)) (fun i b hi hI=>by
   obtain ⟨n,hn⟩:∃ n,n=s[i].toNat:=⟨_,rfl⟩
   have hd:=allOk_drop hi
   rw [← hn] at hd
   have hw:wr .i64 ((i:Int)+1)=(i:Int)+1:=wr_i64 (by omega) (by omega)
   have hi':((i:Int)<(s.length:Int)):=by omega
   have key:(okAt i n=true∧codeW MX 268 50 (callW MX) (loopC Tryz.f268 0) ([(0,AV.str s),(7,AV.hs 0 s.length 1 0 s.length false),(8,AV.int .i64 s.length),(9,AV.int .i64 i)],[.arr 1 false (bytesA s)])=some (.nrm,([(0,AV.str s),(7,AV.hs 0 s.length 1 0 s.length false),(8,AV.int .i64 s.length),(9,AV.int .i64 ((i:Int)+1))],[.arr 1 false (bytesA s)])))∨(okAt i n=false∧codeW MX 268 50 (callW MX) (loopC Tryz.f268 0) ([(0,AV.str s),(7,AV.hs 0 s.length 1 0 s.length false),(8,AV.int .i64 s.length),(9,AV.int .i64 i)],[.arr 1 false (bytesA s)])=some (.ret,([(2,.bool false)],[.arr 1 false (bytesA s)]))):=by
    have hc:∀ k:Nat,((k:Int)≤(n:Int)↔k≤n)∧((n:Int)≤(k:Int)↔n≤k)∧((n:Int)<(k:Int)↔n<k)∧((k:Int)<(n:Int)↔k<n)∧((n:Int)=(k:Int)↔n=k):=fun k=>by omega
    have c1:=(hc 97).1;have c2:=(hc 122).2.1;have c3:=(hc 65).1;have c4:=(hc 90).2.1;have c5:=(hc 95).2.2.2.2;have c6:=(hc 48).2.2.1;have c7:=(hc 57).2.2.2.1
    simp only [Int.cast_ofNat_Int] at c1 c2 c3 c4 c5 c6 c7
    have hc5:((n:Int) != 95)=decide (n≠95):=by rw [Bool.eq_iff_iff];simp [c5]
    by_cases h0:i=0
    ·have e0:((i:Int) == 0)=true:=by simp [h0]
     rcases nine n with h | h | h | h | h | h | h | h | h
     ·have p0:¬ (97≤n):=(by omega);have p1:n≤122:=(by omega);have p2:¬ (65≤n):=(by omega);have p3:n≤90:=(by omega);have p4:¬ (n=95):=(by omega);have p5:n<48:=(by omega);have p6:¬ (57<n):=(by omega);exact .inr ⟨by simp only [okAt,h0,p0,p1,p2,p3,p4];simp;try omega,by simp [Tryz.f268,← hn,hi',hc5,e0,c1,c2,c3,c4,c5,c6,c7,p0,p1,p2,p3,p4,p5,p6,hw,ixA_hs i 0 0 s.length 1 s.length false .i64 hi,bytesA_len,bytesA_get hi]⟩
     ·have p0:¬ (97≤n):=(by omega);have p1:n≤122:=(by omega);have p2:¬ (65≤n):=(by omega);have p3:n≤90:=(by omega);have p4:¬ (n=95):=(by omega);have p5:¬ (n<48):=(by omega);have p6:¬ (57<n):=(by omega);exact .inr ⟨by simp only [okAt,h0,p0,p1,p2,p3,p4];simp;try omega,by simp [Tryz.f268,← hn,hi',hc5,e0,c1,c2,c3,c4,c5,c6,c7,p0,p1,p2,p3,p4,p5,p6,hw,ixA_hs i 0 0 s.length 1 s.length false .i64 hi,bytesA_len,bytesA_get hi]⟩
     ·have p0:¬ (97≤n):=(by omega);have p1:n≤122:=(by omega);have p2:¬ (65≤n):=(by omega);have p3:n≤90:=(by omega);have p4:¬ (n=95):=(by omega);have p5:¬ (n<48):=(by omega);have p6:57<n:=(by omega);exact .inr ⟨by simp only [okAt,h0,p0,p1,p2,p3,p4];simp;try omega,by simp [Tryz.f268,← hn,hi',hc5,e0,c1,c2,c3,c4,c5,c6,c7,p0,p1,p2,p3,p4,p5,p6,hw,ixA_hs i 0 0 s.length 1 s.length false .i64 hi,bytesA_len,bytesA_get hi]⟩
     ·have p0:¬ (97≤n):=(by omega);have p1:n≤122:=(by omega);have p2:65≤n:=(by omega);have p3:n≤90:=(by omega);have p4:¬ (n=95):=(by omega);have p5:¬ (n<48):=(by omega);have p6:57<n:=(by omega);exact .inl ⟨by simp only [okAt,h0,p0,p1,p2,p3,p4];simp;try omega,by simp [Tryz.f268,← hn,hi',hc5,e0,c1,c2,c3,c4,c5,c6,c7,p0,p1,p2,p3,p4,p5,p6,hw,ixA_hs i 0 0 s.length 1 s.length false .i64 hi,bytesA_len,bytesA_get hi]⟩
     ·have p0:¬ (97≤n):=(by omega);have p1:n≤122:=(by omega);have p2:65≤n:=(by omega);have p3:¬ (n≤90):=(by omega);have p4:¬ (n=95):=(by omega);have p5:¬ (n<48):=(by omega);have p6:57<n:=(by omega);exact .inr ⟨by simp only [okAt,h0,p0,p1,p2,p3,p4];simp;try omega,by simp [Tryz.f268,← hn,hi',hc5,e0,c1,c2,c3,c4,c5,c6,c7,p0,p1,p2,p3,p4,p5,p6,hw,ixA_hs i 0 0 s.length 1 s.length false .i64 hi,bytesA_len,bytesA_get hi]⟩
     ·have p0:¬ (97≤n):=(by omega);have p1:n≤122:=(by omega);have p2:65≤n:=(by omega);have p3:¬ (n≤90):=(by omega);have p4:n=95:=(by omega);have p5:¬ (n<48):=(by omega);have p6:57<n:=(by omega);exact .inr ⟨by simp only [okAt,h0,p0,p1,p2,p3,p4];simp;try omega,by simp [Tryz.f268,← hn,hi',hc5,e0,c1,c2,c3,c4,c5,c6,c7,p0,p1,p2,p3,p4,p5,p6,hw,ixA_hs i 0 0 s.length 1 s.length false .i64 hi,bytesA_len,bytesA_get hi]⟩
     ·have p0:¬ (97≤n):=(by omega);have p1:n≤122:=(by omega);have p2:65≤n:=(by omega);have p3:¬ (n≤90):=(by omega);have p4:¬ (n=95):=(by omega);have p5:¬ (n<48):=(by omega);have p6:57<n:=(by omega);exact .inr ⟨by simp only [okAt,h0,p0,p1,p2,p3,p4];simp;try omega,by simp [Tryz.f268,← hn,hi',hc5,e0,c1,c2,c3,c4,c5,c6,c7,p0,p1,p2,p3,p4,p5,p6,hw,ixA_hs i 0 0 s.length 1 s.length false .i64 hi,bytesA_len,bytesA_get hi]⟩
     ·have p0:97≤n:=(by omega);have p1:n≤122:=(by omega);have p2:65≤n:=(by omega);have p3:¬ (n≤90):=(by omega);have p4:¬ (n=95):=(by omega);have p5:¬ (n<48):=(by omega);have p6:57<n:=(by omega);exact .inl ⟨by simp only [okAt,h0,p0,p1,p2,p3,p4];simp;try omega,by simp [Tryz.f268,← hn,hi',hc5,e0,c1,c2,c3,c4,c5,c6,c7,p0,p1,p2,p3,p4,p5,p6,hw,ixA_hs i 0 0 s.length 1 s.length false .i64 hi,bytesA_len,bytesA_get hi]⟩
     ·have p0:97≤n:=(by omega);have p1:¬ (n≤122):=(by omega);have p2:65≤n:=(by omega);have p3:¬ (n≤90):=(by omega);have p4:¬ (n=95):=(by omega);have p5:¬ (n<48):=(by omega);have p6:57<n:=(by omega);exact .inr ⟨by simp only [okAt,h0,p0,p1,p2,p3,p4];simp;try omega,by simp [Tryz.f268,← hn,hi',hc5,e0,c1,c2,c3,c4,c5,c6,c7,p0,p1,p2,p3,p4,p5,p6,hw,ixA_hs i 0 0 s.length 1 s.length false .i64 hi,bytesA_len,bytesA_get hi]⟩
    ·have e0:((i:Int) == 0)=false:=by simp;omega
     rcases nine n with h | h | h | h | h | h | h | h | h
     ·have p0:¬ (97≤n):=(by omega);have p1:n≤122:=(by omega);have p2:¬ (65≤n):=(by omega);have p3:n≤90:=(by omega);have p4:¬ (n=95):=(by omega);have p5:n<48:=(by omega);have p6:¬ (57<n):=(by omega);exact .inr ⟨by simp only [okAt,h0,p0,p1,p2,p3,p4];simp;try omega,by simp [Tryz.f268,← hn,hi',hc5,e0,c1,c2,c3,c4,c5,c6,c7,p0,p1,p2,p3,p4,p5,p6,hw,ixA_hs i 0 0 s.length 1 s.length false .i64 hi,bytesA_len,bytesA_get hi]⟩
     ·have p0:¬ (97≤n):=(by omega);have p1:n≤122:=(by omega);have p2:¬ (65≤n):=(by omega);have p3:n≤90:=(by omega);have p4:¬ (n=95):=(by omega);have p5:¬ (n<48):=(by omega);have p6:¬ (57<n):=(by omega);exact .inl ⟨by simp only [okAt,h0,p0,p1,p2,p3,p4];simp;try omega,by simp [Tryz.f268,← hn,hi',hc5,e0,c1,c2,c3,c4,c5,c6,c7,p0,p1,p2,p3,p4,p5,p6,hw,ixA_hs i 0 0 s.length 1 s.length false .i64 hi,bytesA_len,bytesA_get hi]⟩
     ·have p0:¬ (97≤n):=(by omega);have p1:n≤122:=(by omega);have p2:¬ (65≤n):=(by omega);have p3:n≤90:=(by omega);have p4:¬ (n=95):=(by omega);have p5:¬ (n<48):=(by omega);have p6:57<n:=(by omega);exact .inr ⟨by simp only [okAt,h0,p0,p1,p2,p3,p4];simp;try omega,by simp [Tryz.f268,← hn,hi',hc5,e0,c1,c2,c3,c4,c5,c6,c7,p0,p1,p2,p3,p4,p5,p6,hw,ixA_hs i 0 0 s.length 1 s.length false .i64 hi,bytesA_len,bytesA_get hi]⟩
     ·have p0:¬ (97≤n):=(by omega);have p1:n≤122:=(by omega);have p2:65≤n:=(by omega);have p3:n≤90:=(by omega);have p4:¬ (n=95):=(by omega);have p5:¬ (n<48):=(by omega);have p6:57<n:=(by omega);exact .inl ⟨by simp only [okAt,h0,p0,p1,p2,p3,p4];simp;try omega,by simp [Tryz.f268,← hn,hi',hc5,e0,c1,c2,c3,c4,c5,c6,c7,p0,p1,p2,p3,p4,p5,p6,hw,ixA_hs i 0 0 s.length 1 s.length false .i64 hi,bytesA_len,bytesA_get hi]⟩
     ·have p0:¬ (97≤n):=(by omega);have p1:n≤122:=(by omega);have p2:65≤n:=(by omega);have p3:¬ (n≤90):=(by omega);have p4:¬ (n=95):=(by omega);have p5:¬ (n<48):=(by omega);have p6:57<n:=(by omega);exact .inr ⟨by simp only [okAt,h0,p0,p1,p2,p3,p4];simp;try omega,by simp [Tryz.f268,← hn,hi',hc5,e0,c1,c2,c3,c4,c5,c6,c7,p0,p1,p2,p3,p4,p5,p6,hw,ixA_hs i 0 0 s.length 1 s.length false .i64 hi,bytesA_len,bytesA_get hi]⟩
     ·have p0:¬ (97≤n):=(by omega);have p1:n≤122:=(by omega);have p2:65≤n:=(by omega);have p3:¬ (n≤90):=(by omega);have p4:n=95:=(by omega);have p5:¬ (n<48):=(by omega);have p6:57<n:=(by omega);exact .inl ⟨by simp only [okAt,h0,p0,p1,p2,p3,p4];simp;try omega,by simp [Tryz.f268,← hn,hi',hc5,e0,c1,c2,c3,c4,c5,c6,c7,p0,p1,p2,p3,p4,p5,p6,hw,ixA_hs i 0 0 s.length 1 s.length false .i64 hi,bytesA_len,bytesA_get hi]⟩
     ·have p0:¬ (97≤n):=(by omega);have p1:n≤122:=(by omega);have p2:65≤n:=(by omega);have p3:¬ (n≤90):=(by omega);have p4:¬ (n=95):=(by omega);have p5:¬ (n<48):=(by omega);have p6:57<n:=(by omega);exact .inr ⟨by simp only [okAt,h0,p0,p1,p2,p3,p4];simp;try omega,by simp [Tryz.f268,← hn,hi',hc5,e0,c1,c2,c3,c4,c5,c6,c7,p0,p1,p2,p3,p4,p5,p6,hw,ixA_hs i 0 0 s.length 1 s.length false .i64 hi,bytesA_len,bytesA_get hi]⟩
     ·have p0:97≤n:=(by omega);have p1:n≤122:=(by omega);have p2:65≤n:=(by omega);have p3:¬ (n≤90):=(by omega);have p4:¬ (n=95):=(by omega);have p5:¬ (n<48):=(by omega);have p6:57<n:=(by omega);exact .inl ⟨by simp only [okAt,h0,p0,p1,p2,p3,p4];simp;try omega,by simp [Tryz.f268,← hn,hi',hc5,e0,c1,c2,c3,c4,c5,c6,c7,p0,p1,p2,p3,p4,p5,p6,hw,ixA_hs i 0 0 s.length 1 s.length false .i64 hi,bytesA_len,bytesA_get hi]⟩
     ·have p0:97≤n:=(by omega);have p1:¬ (n≤122):=(by omega);have p2:65≤n:=(by omega);have p3:¬ (n≤90):=(by omega);have p4:¬ (n=95):=(by omega);have p5:¬ (n<48):=(by omega);have p6:57<n:=(by omega);exact .inr ⟨by simp only [okAt,h0,p0,p1,p2,p3,p4];simp;try omega,by simp [Tryz.f268,← hn,hi',hc5,e0,c1,c2,c3,c4,c5,c6,c7,p0,p1,p2,p3,p4,p5,p6,hw,ixA_hs i 0 0 s.length 1 s.length false .i64 hi,bytesA_len,bytesA_get hi]⟩
   rcases key with ⟨h1,h2⟩ | ⟨h1,h2⟩
   ·exact .inl ⟨(),h2,by rw [hI,hd,h1,Bool.true_and]⟩
   ·exact .inr ⟨_,_,h2,by simp,.inr ⟨rfl,by rw [hI,hd,h1,Bool.false_and]⟩⟩) (fun b hI=>by
   refine ⟨_,_,by simp [Tryz.f268] <;> exact ⟨rfl,rfl⟩,by simp,.inl ⟨rfl,?_⟩⟩
   rw [hI,List.drop_length];rfl) () (by simp)
 simp [Tryz.f268] at hlp
 have hlen:decide ((1:Int)≤s.length∧(s.length:Int)≤16)=decide (1≤s.length∧s.length≤16):=by rw [Bool.eq_iff_iff];simp;omega
 rcases hq with ⟨hq,ha⟩ | ⟨hq,ha⟩ <;> cases hq <;> simp [runW,Tryz.f268,hlp,cvB,newArr,bytesA_len,c196,isNameS,ha,hlen]
@[simp] theorem c180 (s:Bytes) (hs:s.length<1048577) (h:Heap):doCall MX (callW MX) 180 [.str s] h=some (.ret (.bool (isNameS s)),h):=pureX mode_180 eff_180 rfl rfl (t180 s hs) h
@[simp] theorem c268 (s:Bytes) (hs:s.length<1048577) (h:Heap):doCall MX (callW MX) 268 [.str s] h=some (.ret (.bool (isNameS s)),h):=pureX mode_268 eff_268 rfl rfl (t268 s hs) h
theorem fi_some {α:Type} {p:α→Bool} {l:List α} {i:Nat} (hi:i<l.length) (h:∀ j (hj:j<l.length),j<i→p l[j]=false) (hp:p l[i]=true):l.findIdx? p=some i:=by
 rw [List.findIdx?_eq_some_iff_getElem]
 exact ⟨hi,hp,fun j hj=>by simp [h j (by omega) hj]⟩
theorem fi_none {α:Type} {p:α→Bool} {l:List α} (h:∀ j (hj:j<l.length),p l[j]=false):l.findIdx? p=none:=by
 rw [List.findIdx?_eq_none_iff]
 intro x hx
 obtain ⟨j,hj,rfl⟩:=List.getElem_of_mem hx
 exact h j hj
theorem fi_step {α:Type} {p:α→Bool} {l:List α} {i:Nat} (hi:i<l.length) (h:∀ j (hj:j<l.length),j<i→p l[j]=false) (hp:p l[i]=false):∀ j (hj:j<l.length),j<i+1→p l[j]=false:=fun j hj h0=>by
 by_cases hji:j=i
 ·subst hji;exact hp
 ·exact h j hj (by omega)
def ixI:Option Nat→Int
 | some i=>i
 | none => -1
theorem DataRep.dest {d:DataV} {xs:List AV} (h:DataRep d xs):∃ pv cv,xs=[.str d.nm,pv,cv]∧SlR StrRep 1 d.params pv∧SlR ConRep 2 d.cons cv:=h
theorem ConRep.dest {c:ConV} {xs:List AV} (h:ConRep c xs):∃ fv,xs=[.str c.nm,fv]∧SlR FieldRep 5 c.fields fv:=h
theorem TyRep.dest' {t:TyV} {xs:List AV} (h:TyRep t xs):∃ pv,xs=[.int .i64 t.k,.int .i64 t.v,.str t.nm,pv]∧SlR TyRep 4 t.ps pv:=by
 cases t with
 | mk k v nm ps=>exact h.dest
theorem FieldRep.dest {f:FieldV} {xs:List AV} (h:FieldRep f xs):∃ pv,xs=[.str f.nm,.int .i64 f.ty.k,.int .i64 f.ty.v,.str f.ty.nm,pv]∧SlR TyRep 4 f.ty.ps pv:=by
 obtain ⟨tx,rfl,ht⟩:=h
 obtain ⟨pv,rfl,hp⟩:=ht.dest'
 exact ⟨pv,rfl,hp⟩
theorem wr_next {i n:Nat} (hi:i<n) (hn:n<1048577):wr .i64 ((i:Int)+1)=(i:Int)+1:=wr_i64 (by omega) (by omega)
theorem lt_cast {i n:Nat} (hi:i<n):((i:Int)<(n:Int)):=by omega
theorem t89 (l:List Bytes) (v:AV) (s:Bytes) (hv:SlR StrRep 1 l v) (hl:l.length<1048577) (h:Heap):runW MX 89 [v,.str s] h=some (.ret (.bool (l.findIdx? (fun x:Bytes=>x == s)).isSome),h):=by
 obtain ⟨e,st,hlp,hq⟩:=loop_up (M:=MX) (fid:=89) (N:=18) (C:=callW MX) (c:=loopC Tryz.f89 0) (n:=l.length) (fun i (_:Unit)=>([(0,v),(1,.str s),(5,.int .i64 i)],h)) (fun i _=>∀ j (hj:j<l.length),j<i→(fun x:Bytes=>x == s) l[j]=false)
  (fun r=>(r=(.ext 0,([(0,v),(1,.str s),(5,.int .i64 l.length),(9,.bool false)],h))∧l.findIdx? (fun x:Bytes=>x == s)=none)∨(∃ i:Nat,r=(.ret,([(4,.bool true)],h))∧l.findIdx? (fun x:Bytes=>x == s)=some i)) (fun i b hi hI=>by
    obtain ⟨e,he,hR⟩:=hv.ix hi
    have hi':=lt_cast hi
    have hw:=wr_next hi hl
    cases hR
    cases hx:(l[i] == s) with
    | true=>exact .inr ⟨_,_,by simp only [beq_iff_eq] at hx;simp [Tryz.f89,hv.len,hi',he,hx] <;> exact ⟨rfl,rfl⟩,by simp,.inr ⟨i,rfl,fi_some (p:=(fun x:Bytes=>x == s)) hi hI hx⟩⟩
    | false=>exact .inl ⟨(),by have hx':=hx;simp only [beq_eq_false_iff_ne,ne_eq] at hx';simp [Tryz.f89,hv.len,hi',he,hx,hx',hw],fi_step (p:=(fun x:Bytes=>x == s)) hi hI hx⟩) (fun b hI=>by
    exact ⟨_,_,by simp [Tryz.f89,hv.len] <;> exact ⟨rfl,rfl⟩,by simp,.inl ⟨rfl,fi_none (p:=(fun x:Bytes=>x == s)) fun j hj=>hI j hj hj⟩⟩) () (fun j _ h0=>by omega)
 simp [Tryz.f89] at hlp
 rcases hq with ⟨hq,hs⟩ | ⟨i,hq,hs⟩ <;> cases hq <;> simp [runW,Tryz.f89,hlp,hs]
theorem c89 {l:List Bytes} {v:AV} (s:Bytes) (hv:SlR StrRep 1 l v) (hl:l.length<1048577) (h:Heap):doCall MX (callW MX) 89 [v,.str s] h=some (.ret (.bool (l.findIdx? (fun x:Bytes=>x == s)).isSome),h):=
 pureX mode_89 eff_89 (by simp [hv.noRef,AV.noRef]) rfl (t89 l v s hv hl []) h
theorem t118 (l:List DataV) (v:AV) (s:Bytes) (hv:SlR DataRep 3 l v) (hl:l.length<1048577) (h:Heap):runW MX 118 [v,.str s] h=some (.ret (.int .i64 (ixI (l.findIdx? (fun x:DataV=>x.nm == s)))),h):=by
 obtain ⟨e,st,hlp,hq⟩:=loop_up (M:=MX) (fid:=118) (N:=20) (C:=callW MX) (c:=loopC Tryz.f118 0) (n:=l.length) (fun i (_:Unit)=>([(0,v),(1,.str s),(5,.int .i64 i)],h)) (fun i _=>∀ j (hj:j<l.length),j<i→(fun x:DataV=>x.nm == s) l[j]=false)
  (fun r=>(r=(.ext 0,([(0,v),(1,.str s),(5,.int .i64 l.length),(9,.bool false)],h))∧l.findIdx? (fun x:DataV=>x.nm == s)=none)∨(∃ i:Nat,r=(.ret,([(4,.int .i64 i)],h))∧l.findIdx? (fun x:DataV=>x.nm == s)=some i)) (fun i b hi hI=>by
    obtain ⟨e,he,hR⟩:=hv.ix hi
    have hi':=lt_cast hi
    have hw:=wr_next hi hl
    obtain ⟨pv,cv,rfl,hp,hc⟩:=hR.dest
    cases hx:(l[i].nm == s) with
    | true=>exact .inr ⟨_,_,by simp only [beq_iff_eq] at hx;simp [Tryz.f118,hv.len,hi',he,hx] <;> exact ⟨rfl,rfl⟩,by simp,.inr ⟨i,rfl,fi_some (p:=(fun x:DataV=>x.nm == s)) hi hI hx⟩⟩
    | false=>exact .inl ⟨(),by have hx':=hx;simp only [beq_eq_false_iff_ne,ne_eq] at hx';simp [Tryz.f118,hv.len,hi',he,hx,hx',hw],fi_step (p:=(fun x:DataV=>x.nm == s)) hi hI hx⟩) (fun b hI=>by
    exact ⟨_,_,by simp [Tryz.f118,hv.len] <;> exact ⟨rfl,rfl⟩,by simp,.inl ⟨rfl,fi_none (p:=(fun x:DataV=>x.nm == s)) fun j hj=>hI j hj hj⟩⟩) () (fun j _ h0=>by omega)
 simp [Tryz.f118] at hlp
 rcases hq with ⟨hq,hs⟩ | ⟨i,hq,hs⟩ <;> cases hq <;> simp [runW,Tryz.f118,hlp,hs,ixI]
theorem c118 {l:List DataV} {v:AV} (s:Bytes) (hv:SlR DataRep 3 l v) (hl:l.length<1048577) (h:Heap):doCall MX (callW MX) 118 [v,.str s] h=some (.ret (.int .i64 (ixI (l.findIdx? (fun x:DataV=>x.nm == s)))),h):=
 pureX mode_118 eff_118 (by simp [hv.noRef,AV.noRef]) rfl (t118 l v s hv hl []) h
theorem t72 (l:List ConV) (v:AV) (s:Bytes) (hv:SlR ConRep 2 l v) (hl:l.length<1048577) (h:Heap):runW MX 72 [v,.str s] h=some (.ret (.int .i64 (ixI (l.findIdx? (fun x:ConV=>x.nm == s)))),h):=by
 obtain ⟨e,st,hlp,hq⟩:=loop_up (M:=MX) (fid:=72) (N:=20) (C:=callW MX) (c:=loopC Tryz.f72 0) (n:=l.length) (fun i (_:Unit)=>([(0,v),(1,.str s),(5,.int .i64 i)],h)) (fun i _=>∀ j (hj:j<l.length),j<i→(fun x:ConV=>x.nm == s) l[j]=false)
  (fun r=>(r=(.ext 0,([(0,v),(1,.str s),(5,.int .i64 l.length),(9,.bool false)],h))∧l.findIdx? (fun x:ConV=>x.nm == s)=none)∨(∃ i:Nat,r=(.ret,([(4,.int .i64 i)],h))∧l.findIdx? (fun x:ConV=>x.nm == s)=some i)) (fun i b hi hI=>by
    obtain ⟨e,he,hR⟩:=hv.ix hi
    have hi':=lt_cast hi
    have hw:=wr_next hi hl
    obtain ⟨fv,rfl,hf⟩:=hR.dest
    cases hx:(l[i].nm == s) with
    | true=>exact .inr ⟨_,_,by simp only [beq_iff_eq] at hx;simp [Tryz.f72,hv.len,hi',he,hx] <;> exact ⟨rfl,rfl⟩,by simp,.inr ⟨i,rfl,fi_some (p:=(fun x:ConV=>x.nm == s)) hi hI hx⟩⟩
    | false=>exact .inl ⟨(),by have hx':=hx;simp only [beq_eq_false_iff_ne,ne_eq] at hx';simp [Tryz.f72,hv.len,hi',he,hx,hx',hw],fi_step (p:=(fun x:ConV=>x.nm == s)) hi hI hx⟩) (fun b hI=>by
    exact ⟨_,_,by simp [Tryz.f72,hv.len] <;> exact ⟨rfl,rfl⟩,by simp,.inl ⟨rfl,fi_none (p:=(fun x:ConV=>x.nm == s)) fun j hj=>hI j hj hj⟩⟩) () (fun j _ h0=>by omega)
 simp [Tryz.f72] at hlp
 rcases hq with ⟨hq,hs⟩ | ⟨i,hq,hs⟩ <;> cases hq <;> simp [runW,Tryz.f72,hlp,hs,ixI]
theorem c72 {l:List ConV} {v:AV} (s:Bytes) (hv:SlR ConRep 2 l v) (hl:l.length<1048577) (h:Heap):doCall MX (callW MX) 72 [v,.str s] h=some (.ret (.int .i64 (ixI (l.findIdx? (fun x:ConV=>x.nm == s)))),h):=
 pureX mode_72 eff_72 (by simp [hv.noRef,AV.noRef]) rfl (t72 l v s hv hl []) h
theorem t269 (l:List Bytes) (v:AV) (s:Bytes) (hv:SlR StrRep 1 l v) (hl:l.length<1048577) (h:Heap):runW MX 269 [v,.str s] h=some (.ret (.int .i64 (ixI (l.findIdx? (fun x:Bytes=>x == s)))),h):=by
 obtain ⟨e,st,hlp,hq⟩:=loop_up (M:=MX) (fid:=269) (N:=19) (C:=callW MX) (c:=loopC Tryz.f269 0) (n:=l.length) (fun i (_:Unit)=>([(0,v),(1,.str s),(7,.int .i64 l.length),(8,.int .i64 i)],h)) (fun i _=>∀ j (hj:j<l.length),j<i→(fun x:Bytes=>x == s) l[j]=false)
  (fun r=>(r=(.ext 0,([(0,v),(1,.str s),(7,.int .i64 l.length),(8,.int .i64 l.length),(9,.bool false)],h))∧l.findIdx? (fun x:Bytes=>x == s)=none)∨(∃ i:Nat,r=(.ret,([(4,.int .i64 i)],h))∧l.findIdx? (fun x:Bytes=>x == s)=some i)) (fun i b hi hI=>by
    obtain ⟨e,he,hR⟩:=hv.ix hi
    have hi':=lt_cast hi
    have hw:=wr_next hi hl
    cases hR
    cases hx:(l[i] == s) with
    | true=>exact .inr ⟨_,_,by simp only [beq_iff_eq] at hx;simp [Tryz.f269,hv.len,hi',he,hx] <;> exact ⟨rfl,rfl⟩,by simp,.inr ⟨i,rfl,fi_some (p:=(fun x:Bytes=>x == s)) hi hI hx⟩⟩
    | false=>
     have hx':(s == l[i])=false:=by simp only [beq_eq_false_iff_ne,ne_eq] at hx ⊢;exact fun e=>hx e.symm
     exact .inl ⟨(),by simp [Tryz.f269,hv.len,hi',he,hx',hw],fi_step (p:=(fun x:Bytes=>x == s)) hi hI hx⟩) (fun b hI=>by
    exact ⟨_,_,by simp [Tryz.f269,hv.len] <;> exact ⟨rfl,rfl⟩,by simp,.inl ⟨rfl,fi_none (p:=(fun x:Bytes=>x == s)) fun j hj=>hI j hj hj⟩⟩) () (fun j _ h0=>by omega)
 simp [Tryz.f269] at hlp
 rcases hq with ⟨hq,hs⟩ | ⟨i,hq,hs⟩ <;> cases hq <;> simp [runW,Tryz.f269,hlp,hs,ixI,hv.len]
theorem c269 {l:List Bytes} {v:AV} (s:Bytes) (hv:SlR StrRep 1 l v) (hl:l.length<1048577) (h:Heap):doCall MX (callW MX) 269 [v,.str s] h=some (.ret (.int .i64 (ixI (l.findIdx? (fun x:Bytes=>x == s)))),h):=
 pureX mode_269 eff_269 (by simp [hv.noRef,AV.noRef]) rfl (t269 l v s hv hl []) h
theorem ixI_nonneg (o:Option Nat):decide (0≤ixI o)=o.isSome:=by
 cases o with
 | none=>rfl
 | some i=>simp [ixI]
theorem c260 {l:List Bytes} {v:AV} (s:Bytes) (hv:SlR StrRep 1 l v) (hl:l.length<1048577) (h:Heap):doCall MX (callW MX) 260 [v,.str s] h=some (.ret (.bool (l.findIdx? (fun x:Bytes=>x == s)).isSome),h):=
 pureX mode_260 eff_260 (by simp [hv.noRef,AV.noRef]) rfl (hr:=[]) (by simp [runW,Tryz.f260,c269 s hv hl,ixI_nonneg]) h
def bitS:Bytes:=[66,105,116]
def boolS:Bytes:=[66,111,111,108]
def isBit (t:TyV):Bool:=decide (t.k=1)&&(t.nm == bitS)
theorem c66 {t:TyV} {xs:List AV} (hx:TyRep t xs) (h:Heap):doCall MX (callW MX) 66 [.agg xs] h=some (.ret (.bool (isBit t)),h):=by
 have hn:([AV.agg xs]:List AV).all AV.noRef=true:=by simp [AV.noRef,hx.noRefs]
 obtain ⟨pv,rfl,hp⟩:=hx.dest'
 by_cases h1:t.k=1
 ·exact pureX mode_66 eff_66 hn rfl (hr:=[.var false [.int .i64 t.k,.int .i64 t.v,.str t.nm,pv]]) (by simp [runW,Tryz.f66,h1,isBit,bitS]) h
 ·have hb:(t.k == 1)=false:=by simp [h1]
  exact pureX mode_66 eff_66 hn rfl (hr:=[.var false [.int .i64 t.k,.int .i64 t.v,.str t.nm,pv]]) (by simp [runW,Tryz.f66,h1,hb,isBit,bitS]) h
mutual
def tyIn:TyV→Int→Int→Int
 | .mk _ _ _ ps,d,c=>if 40<d∨200<c+1∨200<(ps.length:Int) then 201 else tyIns ps (d+1) (c+1)
def tyIns:List TyV→Int→Int→Int
 | [],_,c=>c
 | p::r,d,c=>if c≤200 then tyIns r d (tyIn p d c) else c
end
theorem tyIn_range (t:TyV):∀ d c,0≤c→c≤201→0≤tyIn t d c∧tyIn t d c≤201:=by
 induction t using TyV.ind with
 | h k v nm ps ih=>
  intro d c h0 h1
  have key:∀ (l:List TyV),(∀ p∈l,p∈ps)→∀ d c,0≤c→c≤201→0≤tyIns l d c∧tyIns l d c≤201:=by
   intro l
   induction l with
   | nil=>intro _ d c h0 h1;simp [tyIns,h0,h1]
   | cons p r ihr=>
    intro hm d c h0 h1
    simp only [tyIns]
    split
    ·obtain ⟨a,b⟩:=ih p (hm p (by simp)) d c h0 h1
     exact ihr (fun q hq=>hm q (by simp [hq])) d _ a b
    ·exact ⟨h0,h1⟩
  simp only [tyIn]
  split
  ·omega
  ·exact key ps (fun _ h=>h) _ _ (by omega) (by omega)
def isTree (t:TyV):Bool:=decide (tyIn t 1 0≤200)
theorem c110 (t:TyV):∀ (xs:List AV) (d c:Int),TyRep t xs→Sm 1048577 t→0≤d→d≤41→0≤c→c≤201→∀ h,doCall MX (callW MX) 110 [.agg xs,.int .i64 d,.int .i64 c] h=some (.ret (.int .i64 (tyIn t d c)),h):=by
 induction t using TyV.ind with
 | h k v nm ps ih=>
  intro xs d c hx hs d0 d1 c0 c1 h
  have hn:([AV.agg xs,.int .i64 d,.int .i64 c]:List AV).all AV.noRef=true:=by simp [AV.noRef,hx.noRefs]
  obtain ⟨pv,rfl,hp⟩:=hx.dest
  obtain ⟨s1,s2,s3⟩:=hs.dest
  have wc:wr .i64 (c+1)=c+1:=wr_i64 (by omega) (by omega)
  have wd:wr .i64 (d+1)=d+1:=wr_i64 (by omega) (by omega)
  refine pureX mode_110 eff_110 hn rfl (hr:=[.var false [.int .i64 k,.int .i64 v,.str nm,pv]]) ?_ h
  by_cases h1:40<d
  ·simp [runW,Tryz.f110,wc,h1,tyIn]
  ·by_cases h2:200<c+1
   ·simp [runW,Tryz.f110,wc,h1,h2,tyIn]
   ·by_cases h3:200<(ps.length:Int)
    ·simp [runW,Tryz.f110,wc,h1,h2,h3,hp.len,tyIn]
    ·obtain ⟨e,st,hlp,hq⟩:=loop_up (M:=MX) (fid:=110) (N:=43) (C:=callW MX) (c:=loopC Tryz.f110 0) (n:=ps.length) (fun i (b:Int)=>([(1,.int .i64 d),(2,.int .i64 b),(3,.hp 0 0),(7,.int .i64 i)],[.var false [.int .i64 k,.int .i64 v,.str nm,pv]]))
      (fun i b=>tyIns ps (d+1) (c+1)=tyIns (ps.drop i) (d+1) b∧0≤b∧b≤201)
      (fun r=>∃ (i:Nat) (x:AV),r=(.ext 0,([(1,.int .i64 d),(2,.int .i64 (tyIns ps (d+1) (c+1))),(3,.hp 0 0),(7,.int .i64 i),(30,x)],[.var false [.int .i64 k,.int .i64 v,.str nm,pv]]))) (fun i b hi hI=>by
        obtain ⟨e,he,hR⟩:=hp.ix hi
        have hi':=lt_cast hi
        have hw:=wr_next hi s2
        obtain ⟨i1,i2,i3⟩:=hI
        have hdr:ps.drop i=ps[i]::ps.drop (i+1):=List.drop_eq_getElem_cons hi
        rw [hdr] at i1
        simp only [tyIns] at i1
        have hrec:=ih ps[i] (List.getElem_mem hi) e (d+1) b hR (s3 _ (List.getElem_mem hi)) (by omega) (by omega) i2 i3
        obtain ⟨q,hq,hq'⟩:=hR.dest'
        subst hq
        by_cases hb:b≤200
        ·rw [if_pos hb] at i1
         have hrange:=tyIn_range ps[i] (d+1) b i2 i3
         exact .inl ⟨tyIn ps[i] (d+1) b,by simp [Tryz.f110,hp.len,hi',he,hb,hw,wd,hrec],i1,hrange⟩
        ·rw [if_neg hb] at i1
         exact .inr ⟨_,_,by simp [Tryz.f110,hp.len,hi',hb] <;> exact ⟨rfl,rfl⟩,by simp,i,_,by rw [i1]⟩) (fun b hI=>by
        obtain ⟨i1,i2,i3⟩:=hI
        rw [List.drop_length] at i1
        simp only [tyIns] at i1
        exact ⟨_,_,by simp [Tryz.f110,hp.len] <;> exact ⟨rfl,rfl⟩,by simp,ps.length,_,by rw [i1]⟩) (c+1) ⟨by simp,by omega,by omega⟩
     obtain ⟨i,x,hq⟩:=hq
     cases hq
     simp [Tryz.f110] at hlp
     simp [runW,Tryz.f110,wc,h1,h2,h3,hp.len,hlp,tyIn]
theorem c156 (t:TyV):∀ (xs:List AV) (d c:Int),TyRep t xs→Sm 1048577 t→0≤d→d≤41→0≤c→c≤201→∀ h,doCall MX (callW MX) 156 [.agg xs,.int .i64 d,.int .i64 c] h=some (.ret (.int .i64 (tyIn t d c)),h):=by
 induction t using TyV.ind with
 | h k v nm ps ih=>
  intro xs d c hx hs d0 d1 c0 c1 h
  have hn:([AV.agg xs,.int .i64 d,.int .i64 c]:List AV).all AV.noRef=true:=by simp [AV.noRef,hx.noRefs]
  obtain ⟨pv,rfl,hp⟩:=hx.dest
  obtain ⟨s1,s2,s3⟩:=hs.dest
  have wc:wr .i64 (c+1)=c+1:=wr_i64 (by omega) (by omega)
  have wd:wr .i64 (d+1)=d+1:=wr_i64 (by omega) (by omega)
  refine pureX mode_156 eff_156 hn rfl (hr:=[.var false [.int .i64 k,.int .i64 v,.str nm,pv]]) ?_ h
  by_cases h1:40<d
  ·simp [runW,Tryz.f156,wc,h1,tyIn]
  ·by_cases h2:200<c+1
   ·simp [runW,Tryz.f156,wc,h1,h2,tyIn]
   ·by_cases h3:200<(ps.length:Int)
    ·simp [runW,Tryz.f156,wc,h1,h2,h3,hp.len,tyIn]
    ·obtain ⟨e,st,hlp,hq⟩:=loop_up (M:=MX) (fid:=156) (N:=43) (C:=callW MX) (c:=loopC Tryz.f156 0) (n:=ps.length) (fun i (b:Int)=>([(1,.int .i64 d),(2,.int .i64 b),(3,.hp 0 0),(7,.int .i64 i)],[.var false [.int .i64 k,.int .i64 v,.str nm,pv]]))
      (fun i b=>tyIns ps (d+1) (c+1)=tyIns (ps.drop i) (d+1) b∧0≤b∧b≤201)
      (fun r=>∃ (i:Nat) (x:AV),r=(.ext 0,([(1,.int .i64 d),(2,.int .i64 (tyIns ps (d+1) (c+1))),(3,.hp 0 0),(7,.int .i64 i),(30,x)],[.var false [.int .i64 k,.int .i64 v,.str nm,pv]]))) (fun i b hi hI=>by
        obtain ⟨e,he,hR⟩:=hp.ix hi
        have hi':=lt_cast hi
        have hw:=wr_next hi s2
        obtain ⟨i1,i2,i3⟩:=hI
        have hdr:ps.drop i=ps[i]::ps.drop (i+1):=List.drop_eq_getElem_cons hi
        rw [hdr] at i1
        simp only [tyIns] at i1
        have hrec:=ih ps[i] (List.getElem_mem hi) e (d+1) b hR (s3 _ (List.getElem_mem hi)) (by omega) (by omega) i2 i3
        obtain ⟨q,hq,hq'⟩:=hR.dest'
        subst hq
        by_cases hb:b≤200
        ·rw [if_pos hb] at i1
         have hrange:=tyIn_range ps[i] (d+1) b i2 i3
         exact .inl ⟨tyIn ps[i] (d+1) b,by simp [Tryz.f156,hp.len,hi',he,hb,hw,wd,hrec],i1,hrange⟩
        ·rw [if_neg hb] at i1
         exact .inr ⟨_,_,by simp [Tryz.f156,hp.len,hi',hb] <;> exact ⟨rfl,rfl⟩,by simp,i,_,by rw [i1]⟩) (fun b hI=>by
        obtain ⟨i1,i2,i3⟩:=hI
        rw [List.drop_length] at i1
        simp only [tyIns] at i1
        exact ⟨_,_,by simp [Tryz.f156,hp.len] <;> exact ⟨rfl,rfl⟩,by simp,ps.length,_,by rw [i1]⟩) (c+1) ⟨by simp,by omega,by omega⟩
     obtain ⟨i,x,hq⟩:=hq
     cases hq
     simp [Tryz.f156] at hlp
     simp [runW,Tryz.f156,wc,h1,h2,h3,hp.len,hlp,tyIn]
theorem c59 {t:TyV} {xs:List AV} (hx:TyRep t xs) (hs:Sm 1048577 t) (h:Heap):doCall MX (callW MX) 59 [.agg xs] h=some (.ret (.bool (isTree t)),h):=by
 have hn:([AV.agg xs]:List AV).all AV.noRef=true:=by simp [AV.noRef,hx.noRefs]
 have hc:=c110 t xs 1 0 hx hs (by omega) (by omega) (by omega) (by omega)
 obtain ⟨pv,rfl,hp⟩:=hx.dest'
 exact pureX mode_59 eff_59 hn rfl (hr:=[.var false [.int .i64 t.k,.int .i64 t.v,.str t.nm,pv]]) (by simp [runW,Tryz.f59,hc,isTree]) h
theorem c86 {t:TyV} {xs:List AV} (hx:TyRep t xs) (hs:Sm 1048577 t) (h:Heap):doCall MX (callW MX) 86 [.agg xs] h=some (.ret (.bool (isTree t)),h):=by
 have hn:([AV.agg xs]:List AV).all AV.noRef=true:=by simp [AV.noRef,hx.noRefs]
 have hc:=c156 t xs 1 0 hx hs (by omega) (by omega) (by omega) (by omega)
 obtain ⟨pv,rfl,hp⟩:=hx.dest'
 exact pureX mode_86 eff_86 hn rfl (hr:=[.var false [.int .i64 t.k,.int .i64 t.v,.str t.nm,pv]]) (by simp [runW,Tryz.f86,hc,isTree]) h
def rCount (l:List DataV) (k:Int) (nm:Bytes):Option Nat:=
 if k=1 then (if nm == bitS then some 1 else if nm == boolS then some 0 else (l.findIdx? (fun d=>d.nm == nm)).map (fun i=>(l.getD i default).params.length)) else some 0
mutual
def rNodeErr (l:List DataV) (params:List Bytes):TyV→Int
 | .mk k v nm ps=>if ¬ (0≤k∧k≤2) then 15 else if k=0∧params.findIdx? (fun x=>x == nm)=none then 6 else match rCount l k nm with
  | none=>6
  | some n=>if ps.length≠n then 10 else if k=2∧¬ (0≤v∧v≤1000000000) then 2 else rNodeErrs l params ps
def rNodeErrs (l:List DataV) (params:List Bytes):List TyV→Int
 | []=>0
 | p::r=>if rNodeErr l params p=0 then rNodeErrs l params r else rNodeErr l params p
end
theorem fi_lt {α:Type} {p:α→Bool} {l:List α} {i:Nat} (h:l.findIdx? p=some i):i<l.length:=by
 rw [List.findIdx?_eq_some_iff_getElem] at h
 exact h.1
theorem c186 {l:List DataV} {lv:AV} (hl:SlR DataRep 3 l lv) (hll:l.length<1048577) {params:List Bytes} {pr:AV} (hpr:SlR StrRep 1 params pr) (hpl:params.length<1048577) (hps:∀ d∈l,d.params.length<1048577) (t:TyV):∀ (xs:List AV),TyRep t xs→Sm 1048577 t→∀ h,doCall MX (callW MX) 186 [lv,pr,.agg xs] h=some (.ret (.int .i64 (rNodeErr l params t)),h):=by
 induction t using TyV.ind with
 | h k v nm ps ih=>
  intro xs hx hs h
  have hn:([lv,pr,AV.agg xs]:List AV).all AV.noRef=true:=by simp [AV.noRef,hx.noRefs,hl.noRef,hpr.noRef]
  obtain ⟨pv,rfl,hp⟩:=hx.dest
  obtain ⟨s1,s2,s3⟩:=hs.dest
  refine pureX mode_186 eff_186 hn rfl (hr:=[.var false [.int .i64 k,.int .i64 v,.str nm,pv]]) ?_ h
  have hP:=c89 nm hpr hpl
  have hD:=c118 nm hl hll
  -- the parts
  have hlp:rNodeErrs l params ps=rNodeErrs l params ps:=rfl
  obtain ⟨e,st,hlp,hq⟩:=loop_up (M:=MX) (fid:=186) (N:=81) (C:=callW MX) (c:=loopC Tryz.f186 0) (n:=ps.length) (fun i (_:Unit)=>([(0,lv),(1,pr),(5,.hp 0 0),(9,.int .i64 i)],[.var false [.int .i64 k,.int .i64 v,.str nm,pv]]))
   (fun i _=>rNodeErrs l params ps=rNodeErrs l params (ps.drop i))
   (fun r=>(r=(.ext 1,([(0,lv),(1,pr),(5,.hp 0 0),(9,.int .i64 ps.length),(67,.bool false)],[.var false [.int .i64 k,.int .i64 v,.str nm,pv]]))∧rNodeErrs l params ps=0)∨r=(.ret,([(6,.int .i64 (rNodeErrs l params ps))],[.var false [.int .i64 k,.int .i64 v,.str nm,pv]]))) (fun i b hi hI=>by
     obtain ⟨e,he,hR⟩:=hp.ix hi
     have hi':=lt_cast hi
     have hw:=wr_next hi s2
     have hdr:ps.drop i=ps[i]::ps.drop (i+1):=List.drop_eq_getElem_cons hi
     rw [hdr] at hI
     simp only [rNodeErrs] at hI
     have hrec:=ih ps[i] (List.getElem_mem hi) e hR (s3 _ (List.getElem_mem hi))
     obtain ⟨q,hq,hq'⟩:=hR.dest'
     subst hq
     by_cases h0:rNodeErr l params ps[i]=0
     ·rw [if_pos h0] at hI
      exact .inl ⟨(),by simp [Tryz.f186,hp.len,hi',he,hw,hrec,h0],hI⟩
     ·rw [if_neg h0] at hI
      have hne:(rNodeErr l params ps[i] != 0)=true:=by simp [h0]
      exact .inr ⟨_,_,by simp [Tryz.f186,hp.len,hi',he,hw,hrec,hne] <;> exact ⟨rfl,rfl⟩,by simp,.inr (by rw [hI])⟩) (fun b hI=>by
     rw [List.drop_length] at hI
     exact ⟨_,_,by simp [Tryz.f186,hp.len] <;> exact ⟨rfl,rfl⟩,by simp,.inl ⟨rfl,hI⟩⟩) () (by simp)
  simp [Tryz.f186] at hlp
  -- the tail,for any count
  by_cases hk:0≤k∧k≤2
  ·have tail:∀ n:Nat,(∀ x:Int,x=n→(ps.length≠n→((ps.length:Int) != x)=true)∧(ps.length=n→((ps.length:Int) != x)=false)):=fun n x hx=>by
    subst hx
    constructor
    ·intro h;simp;omega
    ·intro h;simp;omega
   have fin:∀ (n:Nat),rCount l k nm=some n→(k=0→params.findIdx? (fun x=>x == nm)≠none)→rNodeErr l params (.mk k v nm ps)=(if ps.length≠n then 10 else if k=2∧¬ (0≤v∧v≤1000000000) then 2 else rNodeErrs l params ps):=fun n hc h0=>by
    simp only [rNodeErr,hc]
    rw [if_neg (fun h=>h hk),if_neg (fun h=>h0 h.1 h.2)]
   have kk:k=0∨k=1∨k=2:=by omega
   rcases kk with rfl | rfl | rfl
   ·-- a variable
    cases hm:params.findIdx? (fun x=>x == nm) with
    | none=>simp [runW,Tryz.f186,hP,hm,rNodeErr]
    | some j=>
     rw [fin 0 rfl (by simp [hm])]
     by_cases hL:ps.length=0
     ·have:=(tail 0 0 rfl).2 hL
      rcases hq with ⟨hq,ha⟩ | hq <;> cases hq <;> simp [runW,Tryz.f186,hP,hm,hp.len,this,hL,hlp] <;> try exact ha.symm
     ·have:=(tail 0 0 rfl).1 hL
      simp [runW,Tryz.f186,hP,hm,hp.len,this,hL]
   ·by_cases hb:nm=bitS
    ·rw [fin 1 (by simp [rCount,hb]) (by simp)]
     have hb1:(nm == [66,105,116])=true:=by simp [hb,bitS]
     by_cases hL:ps.length=1
     ·have:=(tail 1 1 rfl).2 hL
      rcases hq with ⟨hq,ha⟩ | hq <;> cases hq <;> simp [runW,Tryz.f186,hD,hp.len,this,hL,hlp,hb1] <;> try exact ha.symm
     ·have:=(tail 1 1 rfl).1 hL
      simp [runW,Tryz.f186,hD,hp.len,this,hL,hb1]
    ·have hb1:(nm == [66,105,116])=false:=by simpa [bitS] using hb
     by_cases hb2:nm=boolS
     ·rw [fin 0 (by simp [rCount,hb2,boolS,bitS]) (by simp)]
      have hb3:(nm == [66,111,111,108])=true:=by simp [hb2,boolS]
      by_cases hL:ps.length=0
      ·have:=(tail 0 0 rfl).2 hL
       rcases hq with ⟨hq,ha⟩ | hq <;> cases hq <;> simp [runW,Tryz.f186,hD,hp.len,this,hL,hlp,hb1,hb3] <;> try exact ha.symm
      ·have:=(tail 0 0 rfl).1 hL
       simp [runW,Tryz.f186,hD,hp.len,this,hL,hb1,hb3]
     ·have hb3:(nm == [66,111,111,108])=false:=by simpa [boolS] using hb2
      cases hf:l.findIdx? (fun d=>d.nm == nm) with
      | none=>
       have:rNodeErr l params (.mk 1 v nm ps)=6:=by
        have hc:rCount l 1 nm=none:=by simp [rCount,hb,hb2,hf]
        simp [rNodeErr,hc]
       rw [this]
       simp [runW,Tryz.f186,hD,hf,ixI,hb1,hb3]
      | some i=>
       have hi:=fi_lt hf
       obtain ⟨e,he,hR⟩:=hl.ix hi
       obtain ⟨pp,cc,rfl,hpp,hcc⟩:=hR.dest
       rw [fin l[i].params.length (by simp [rCount,hb,hb2,hf,hi]) (by simp)]
       by_cases hL:ps.length=l[i].params.length
       ·have:=(tail _ (l[i].params.length:Int) rfl).2 hL
        rcases hq with ⟨hq,ha⟩ | hq <;> cases hq <;> simp [runW,Tryz.f186,hD,hf,ixI,hp.len,this,hlp,hb1,hb3,he,hpp.len,hL] <;> try exact ha.symm
       ·have:=(tail _ (l[i].params.length:Int) rfl).1 hL
        simp [runW,Tryz.f186,hD,hf,ixI,hp.len,this,hL,hb1,hb3,he,hpp.len]
   ·rw [fin 0 rfl (by simp)]
    by_cases hL:ps.length=0
    ·have:=(tail 0 0 rfl).2 hL
     by_cases hv:0≤v∧v≤1000000000
     ·rcases hq with ⟨hq,ha⟩ | hq <;> cases hq <;> simp [runW,Tryz.f186,hp.len,this,hL,hlp,hv] <;> try exact ha.symm
     ·simp [runW,Tryz.f186,hp.len,this,hL,hv]
    ·have:=(tail 0 0 rfl).1 hL
     simp [runW,Tryz.f186,hp.len,this,hL]
  ·simp [runW,Tryz.f186,hk,rNodeErr]
theorem get_app {h:Heap} {i:Nat} {b:Blk} (hb:h[i]? = some b) (l:Heap):(h++l)[i]? = some b:=by
 rw [List.getElem?_append_left (List.getElem?_eq_some_iff.1 hb).1];exact hb
theorem get_last (h:Heap) (x:Blk):(h++[x])[h.length]? = some x:=by simp
theorem _root_.Go.Am.SlR.slice {α:Type} {R:α→List AV→Prop} {sz:Nat} {l:List α} {v:AV} (hv:SlR R sz l v) {i:Nat} (hi:i≤l.length):∃ w,slA sz v none (some (.int .i64 i)) none=some w∧SlR R sz (l.take i) w:=by
 rcases hv with ⟨rfl,rfl⟩ | ⟨ex,es,rfl,hl,hr⟩
 ·have:i=0:=by simpa using hi
  subst this
  exact ⟨.nils,rfl,.inl ⟨by simp,rfl⟩⟩
 ·have h0:(0:Int)≤i∧(i:Int)≤es.length:=by omega
  have h1:upTo (i:Int) es.length=some i:=by simp [upTo,h0]
  have h2:upTo 0 i=some 0:=by simp [upTo]
  refine ⟨.sl sz (ex&&Nat.beq i es.length) (es.take i),by simp [slA,optInt,Go.Am.intOf,h1,h2,beq_d,mxOk],.inr ⟨_,_,rfl,by simp [hl],fun j a e h3 h4 => ?_⟩⟩
  rw [List.getElem?_take] at h3 h4
  split at h3
  ·rename_i hj
   rw [if_pos hj] at h4
   exact hr j a e h3 h4
  ·cases h3
def rTreeErr (l:List DataV) (params:List Bytes) (t:TyV):Int:=if isTree t then rNodeErr l params t else 8
theorem c153 {l:List DataV} {lv:AV} (hl:SlR DataRep 3 l lv) (hll:l.length<1048577) {params:List Bytes} {pr:AV} (hpr:SlR StrRep 1 params pr) (hpl:params.length<1048577) (hps:∀ d∈l,d.params.length<1048577) {t:TyV} {xs:List AV} (hx:TyRep t xs) (hs:Sm 1048577 t) (h:Heap) :
  doCall MX (callW MX) 153 [lv,pr,.agg xs] h=some (.ret (.int .i64 (rTreeErr l params t)),h):=by
 have hn:([lv,pr,AV.agg xs]:List AV).all AV.noRef=true:=by simp [AV.noRef,hx.noRefs,hl.noRef,hpr.noRef]
 have h1:=c59 hx hs
 have h2:=c186 hl hll hpr hpl hps t xs hx hs
 obtain ⟨pv,rfl,hp⟩:=hx.dest'
 cases hb:isTree t with
 | true=>exact pureX mode_153 eff_153 hn rfl (hr:=[.var false [.int .i64 t.k,.int .i64 t.v,.str t.nm,pv]]) (by simp [runW,Tryz.f153,h1,h2,hb,rTreeErr]) h
 | false=>exact pureX mode_153 eff_153 hn rfl (hr:=[.var false [.int .i64 t.k,.int .i64 t.v,.str t.nm,pv]]) (by simp [runW,Tryz.f153,h1,hb,rTreeErr]) h
def hasCon (d:DataV) (s:Bytes):Bool:=(d.cons.findIdx? (fun c=>c.nm == s)).isSome
def conIn (l:List DataV) (s:Bytes):Bool:=(l.findIdx? (fun d=>hasCon d s)).isSome
theorem c212 {l:List DataV} {lv:AV} (s:Bytes) (hl:SlR DataRep 3 l lv) (hll:l.length<1048577) (hcs:∀ d∈l,d.cons.length<1048577) (h:Heap):doCall MX (callW MX) 212 [lv,.str s] h=some (.ret (.bool (conIn l s)),h):=by
 refine pureX mode_212 eff_212 (by simp [hl.noRef,AV.noRef]) rfl (hr:=[]) ?_ h
 obtain ⟨e,st,hlp,hq⟩:=loop_up (M:=MX) (fid:=212) (N:=34) (C:=callW MX) (c:=loopC Tryz.f212 0) (n:=l.length) (fun i (_:Unit)=>([(0,lv),(1,.str s),(5,.int .i64 i)],[])) (fun i _=>∀ j (hj:j<l.length),j<i→(fun d=>hasCon d s) l[j]=false)
  (fun r=>(r=(.ext 0,([(0,lv),(1,.str s),(5,.int .i64 l.length),(10,.bool false)],[]))∧conIn l s=false)∨(r=(.ret,([(4,.bool true)],[]))∧conIn l s=true)) (fun i b hi hI=>by
    obtain ⟨e,he,hR⟩:=hl.ix hi
    have hi':=lt_cast hi
    have hw:=wr_next hi hll
    obtain ⟨pv,cv,rfl,hp,hc⟩:=hR.dest
    have hcl:=hcs _ (List.getElem_mem hi)
    obtain ⟨e2,st2,hlp2,hq2⟩:=loop_up (M:=MX) (fid:=212) (N:=34) (C:=callW MX) (c:=loopC Tryz.f212 1) (n:=l[i].cons.length) (fun k (_:Unit)=>([(0,lv),(1,.str s),(5,.int .i64 i),(6,.int .i64 k)],[])) (fun k _=>∀ j (hj:j<l[i].cons.length),j<k→(fun c:ConV=>c.nm == s) l[i].cons[j]=false)
     (fun r=>(r=(.ext 2,([(0,lv),(1,.str s),(5,.int .i64 i),(6,.int .i64 l[i].cons.length),(20,.bool false)],[]))∧hasCon l[i] s=false)∨(r=(.ret,([(4,.bool true)],[]))∧hasCon l[i] s=true)) (fun k b hk hK=>by
       obtain ⟨e',he',hR'⟩:=hc.ix hk
       have hk':=lt_cast hk
       have hwk:=wr_next hk hcl
       obtain ⟨fv,rfl,hf⟩:=hR'.dest
       cases hx:(l[i].cons[k].nm == s) with
       | true=>exact .inr ⟨_,_,by simp only [beq_iff_eq] at hx;simp [Tryz.f212,hc.len,hk',hi',he,he',hx] <;> first | exact ⟨rfl,rfl⟩ | rfl,by simp,.inr ⟨rfl,by simp only [hasCon];rw [fi_some (p:=fun c:ConV=>c.nm == s) hk hK hx];rfl⟩⟩
       | false=>exact .inl ⟨(),by have hx':=hx;simp only [beq_eq_false_iff_ne,ne_eq] at hx';simp [Tryz.f212,hc.len,hk',hi',he,he',hx,hx',hwk],fi_step (p:=fun c:ConV=>c.nm == s) hk hK hx⟩) (fun b hK=>by
       exact ⟨_,_,by simp [Tryz.f212,hc.len,hi',he] <;> first | exact ⟨rfl,rfl⟩ | rfl,by simp,.inl ⟨rfl,by simp only [hasCon];rw [fi_none (p:=fun c:ConV=>c.nm == s) fun j hj=>hK j hj hj];rfl⟩⟩) () (fun j _ h0=>by omega)
    simp [Tryz.f212] at hlp2
    rcases hq2 with ⟨hq2,hs2⟩ | ⟨hq2,hs2⟩ <;> cases hq2
    ·exact .inl ⟨(),by simp [Tryz.f212,hl.len,hi',hlp2,hw],fi_step (p:=fun d=>hasCon d s) hi hI hs2⟩
    ·exact .inr ⟨_,_,by simp [Tryz.f212,hl.len,hi',hlp2] <;> first | exact ⟨rfl,rfl⟩ | rfl,by simp,.inr ⟨rfl,by simp only [conIn];rw [fi_some (p:=fun d=>hasCon d s) hi hI hs2];rfl⟩⟩) (fun b hI=>by
    exact ⟨_,_,by simp [Tryz.f212,hl.len] <;> first | exact ⟨rfl,rfl⟩ | rfl,by simp,.inl ⟨rfl,by simp only [conIn];rw [fi_none (p:=fun d=>hasCon d s) fun j hj=>hI j hj hj];rfl⟩⟩) () (fun j _ h0=>by omega)
 simp [Tryz.f212] at hlp
 rcases hq with ⟨hq,hs⟩ | ⟨hq,hs⟩ <;> cases hq <;> simp [runW,Tryz.f212,hlp,hs]
def rFields (l:List DataV) (params:List Bytes):List FieldV→List FieldV→Int
 | _,[]=>0
 | prev,f::r=>if isNameS f.nm=false then 4 else if (prev.findIdx? (fun g=>g.nm == f.nm)).isSome then 5 else if rTreeErr l params f.ty=0 then rFields l params (prev++[f]) r else rTreeErr l params f.ty
def rFieldsErr (l:List DataV) (params:List Bytes) (fs:List FieldV):Int:=if 8<fs.length then 8 else rFields l params [] fs
theorem SmC.fld {b:Nat} {c:ConV} (h:SmC b c):c.fields.length<b:=h.2.1
theorem c213 {l:List DataV} {lv:AV} (hl:SlR DataRep 3 l lv) (hsl:SmL 1048577 l) {d:DataV} {dx:List AV} (hd:DataRep d dx) (hsd:SmD 1048577 d) {c:ConV} {cx:List AV} (hc:ConRep c cx) (hsc:SmC 1048577 c) (h:Heap) :
  doCall MX (callW MX) 213 [.agg dx,.agg cx,lv] h=some (.ret (.int .i64 (rFieldsErr l d.params c.fields)),h):=by
 obtain ⟨pv,cv,rfl,hp,hcv⟩:=hd.dest
 obtain ⟨fv,rfl,hf⟩:=hc.dest
 have hn:([AV.agg [.str d.nm,pv,cv],AV.agg [.str c.nm,fv],lv]:List AV).all AV.noRef=true:=by simp [AV.noRef,noRefs,hl.noRef,hp.noRef,hcv.noRef,hf.noRef]
 obtain ⟨hr,hc'⟩:∃ hr,runW MX 213 [.agg [.str d.nm,pv,cv],.agg [.str c.nm,fv],lv] []=some (.ret (.int .i64 (rFieldsErr l d.params c.fields)),hr):=by
  by_cases h8:8<c.fields.length
  ·have h8':(8<(c.fields.length:Int)):=by omega
   exact ⟨_,by simp [runW,Tryz.f213,hf.len,h8',rFieldsErr,h8] <;> rfl⟩
  ·have h8':¬ (8<(c.fields.length:Int)):=by omega
   have hfl:c.fields.length<1048577:=by omega
   obtain ⟨e,st,hlp,hq⟩:=loop_up (M:=MX) (fid:=213) (N:=54) (C:=callW MX) (c:=loopC Tryz.f213 0) (n:=c.fields.length) (fun i (b:Heap)=>([(2,lv),(3,.hp 0 0),(4,.hp 1 0),(7,.int .i64 i)],Blk.var false [AV.str d.nm,pv,cv]::Blk.var false [AV.str c.nm,fv]::b))
    (fun i b=>rFields l d.params [] c.fields=rFields l d.params (c.fields.take i) (c.fields.drop i))
    (fun r=>∃ b:Heap,(r=(.ext 0,([(2,lv),(3,.hp 0 0),(4,.hp 1 0),(7,.int .i64 c.fields.length),(19,.bool false)],b))∧rFields l d.params [] c.fields=0)∨r=(.ret,([(6,.int .i64 (rFields l d.params [] c.fields))],b))) (fun i b hi hI=>by
      have i2:=hI
      obtain ⟨e,he,hR⟩:=hf.ix hi
      have hi':=lt_cast hi
      have hw:=wr_next hi hfl
      have hmem:=List.getElem_mem hi
      obtain ⟨hnm,hsm⟩:=hsc.2.2 _ hmem
      obtain ⟨tx,hex,ht⟩:=hR
      subst hex
      have h153:=c153 hl hsl.1 hp hsd.2.1 (fun d hd=>(hsl.2 d hd).2.1) ht hsm
      have hN:=c157 c.fields[i].nm hnm
      obtain ⟨qv,rfl,hqv⟩:=ht.dest'
      have hdr:c.fields.drop i=c.fields[i]::c.fields.drop (i+1):=List.drop_eq_getElem_cons hi
      have htk:c.fields.take i++[c.fields[i]]=c.fields.take (i+1):=by simp
      rw [hdr] at i2
      simp only [rFields] at i2
      rw [htk] at i2
      -- the block of the field
      cases hN0:isNameS c.fields[i].nm with
      | false=>
       rw [hN0] at i2
       exact .inr ⟨_,_,by simp [Tryz.f213,hf.len,hi',he,hN,hN0] <;> first | exact ⟨rfl,rfl⟩ | rfl,by simp,_,.inr (by rw [i2];rfl)⟩
      | true=>
       rw [hN0] at i2
       obtain ⟨e2,st2,hlp2,hq2⟩:=loop_up (M:=MX) (fid:=213) (N:=54) (C:=callW MX) (c:=loopC Tryz.f213 1) (n:=i) (fun k (_:Unit)=>([(2,lv),(3,.hp 0 0),(4,.hp 1 0),(7,.int .i64 i),(8,.hp (b.length+1+1) 0),(9,.int .i64 k)],(Blk.var false [AV.str d.nm,pv,cv]::Blk.var false [AV.str c.nm,fv]::(b++[Blk.var false [AV.str c.fields[i].nm,AV.int IntKind.i64 c.fields[i].ty.k,AV.int IntKind.i64 c.fields[i].ty.v,AV.str c.fields[i].ty.nm,qv]]:Heap))))
        (fun k _=>∀ j (hj:j<(c.fields.take i).length),j<k→(fun g:FieldV=>g.nm == c.fields[i].nm) (c.fields.take i)[j]=false)
        (fun r=>(r=(.ext 2,([(2,lv),(3,.hp 0 0),(4,.hp 1 0),(7,.int .i64 i),(8,.hp (b.length+1+1) 0),(9,.int .i64 i),(33,.bool false)],(Blk.var false [AV.str d.nm,pv,cv]::Blk.var false [AV.str c.nm,fv]::(b++[Blk.var false [AV.str c.fields[i].nm,AV.int IntKind.i64 c.fields[i].ty.k,AV.int IntKind.i64 c.fields[i].ty.v,AV.str c.fields[i].ty.nm,qv]]:Heap))))∧((c.fields.take i).findIdx? (fun g=>g.nm == c.fields[i].nm)).isSome=false)∨(r=(.ret,([(6,.int .i64 5)],(Blk.var false [AV.str d.nm,pv,cv]::Blk.var false [AV.str c.nm,fv]::(b++[Blk.var false [AV.str c.fields[i].nm,AV.int IntKind.i64 c.fields[i].ty.k,AV.int IntKind.i64 c.fields[i].ty.v,AV.str c.fields[i].ty.nm,qv]]:Heap))))∧((c.fields.take i).findIdx? (fun g=>g.nm == c.fields[i].nm)).isSome=true)) (fun k u hk hK=>by
          have hkl:k<c.fields.length:=by omega
          have hkt:k<(c.fields.take i).length:=by simp;omega
          have hke:(c.fields.take i)[k]=c.fields[k]:=by simp
          obtain ⟨e',he',hR'⟩:=hf.ix hkl
          have hk':=lt_cast hk
          have hwk:=wr_next hk (by omega)
          obtain ⟨qv',rfl,hqv'⟩:=hR'.dest
          cases hx:(c.fields[k].nm == c.fields[i].nm) with
          | true=>exact .inr ⟨_,_,by simp [Tryz.f213,hk',he',hx] <;> first | exact ⟨rfl,rfl⟩ | rfl,by simp,.inr ⟨rfl,by rw [fi_some (p:=fun g:FieldV=>g.nm == c.fields[i].nm) hkt hK (by rw [hke];exact hx)];rfl⟩⟩
          | false=>exact .inl ⟨(),by simp [Tryz.f213,hk',he',hx,hwk],fi_step (p:=fun g:FieldV=>g.nm == c.fields[i].nm) hkt hK (by rw [hke];exact hx)⟩) (fun u hK=>by
          exact ⟨_,_,by simp [Tryz.f213] <;> first | exact ⟨rfl,rfl⟩ | rfl,by simp,.inl ⟨rfl,by rw [fi_none (p:=fun g:FieldV=>g.nm == c.fields[i].nm) fun j hj=>hK j hj (by simp at hj;omega)];rfl⟩⟩) () (fun j _ h0=>by omega)
       simp [Tryz.f213] at hlp2
       rcases hq2 with ⟨hq2,hs2⟩ | ⟨hq2,hs2⟩ <;> cases hq2
       ·rw [hs2] at i2
        by_cases h0:rTreeErr l d.params c.fields[i].ty=0
        ·rw [if_pos h0] at i2
         exact .inl ⟨_,by simp [Tryz.f213,hf.len,hi',he,hN,hN0,hlp2,h153,h0,hw,ht.noRefs,noRefs,AV.noRef,hl.noRef,hp.noRef,hqv.noRef] <;> rfl,by simpa using i2⟩
        ·rw [if_neg h0] at i2
         have hne:(rTreeErr l d.params c.fields[i].ty != 0)=true:=by simp [h0]
         exact .inr ⟨_,_,by simp [Tryz.f213,hf.len,hi',he,hN,hN0,hlp2,h153,hne,noRefs,AV.noRef,hl.noRef,hp.noRef,hqv.noRef] <;> first | exact ⟨rfl,rfl⟩ | rfl,by simp,_,.inr (by rw [i2];rfl)⟩
       ·rw [hs2] at i2
        exact .inr ⟨_,_,by simp [Tryz.f213,hf.len,hi',he,hN,hN0,hlp2] <;> first | exact ⟨rfl,rfl⟩ | rfl,by simp,_,.inr (by rw [i2];rfl)⟩) (fun b hI=>by
      have i2:=hI
      rw [List.drop_length] at i2
      exact ⟨_,_,by simp [Tryz.f213,hf.len] <;> first | exact ⟨rfl,rfl⟩ | rfl,by simp,_,.inl ⟨rfl,i2⟩⟩) ([]:Heap) (by simp)
   simp [Tryz.f213] at hlp
   obtain ⟨b,hq⟩:=hq
   rcases hq with ⟨hq,hs⟩ | hq <;> cases hq
   ·exact ⟨_,by simp [runW,Tryz.f213,hf.len,h8',hlp,rFieldsErr,h8,hs] <;> rfl⟩
   ·exact ⟨_,by simp [runW,Tryz.f213,hf.len,h8',hlp,rFieldsErr,h8] <;> rfl⟩
 exact pureX mode_213 eff_213 hn rfl hc' h
def falseS:Bytes:=[70,97,108,115,101]
def trueS:Bytes:=[84,114,117,101]
def integerS:Bytes:=[73,110,116,101,103,101,114]
def rParams:List Bytes→List Bytes→Int
 | _,[]=>0
 | prev,p::r=>if isNameS p=false then 4 else if (prev.findIdx? (fun x=>x == p)).isSome then 5 else rParams (prev++[p]) r
def rCons (l:List DataV) (params:List Bytes):List ConV→List ConV→Int
 | _,[]=>0
 | prev,c::r=>if isNameS c.nm=false then 4 else if conIn l c.nm then 5 else if (prev.findIdx? (fun g=>g.nm == c.nm)).isSome then 5 else if c.nm == falseS then 5 else if c.nm == trueS then 5 else
  if rFieldsErr l params c.fields=0 then rCons l params (prev++[c]) r else rFieldsErr l params c.fields
def rDataErr (d:DataV) (l:List DataV):Int:=
 if isNameS d.nm=false then 4 else if (l.findIdx? (fun x=>x.nm == d.nm)).isSome then 5 else if d.nm == bitS then 5 else if d.nm == boolS then 5 else if d.nm == integerS then 5 else
 if 4<d.params.length then 8 else if 16<d.cons.length then 8 else if d.cons.length=0 then 10 else
 if rParams [] d.params=0 then rCons l d.params [] d.cons else rParams [] d.params
theorem conIn_one (c:List ConV) (s:Bytes):conIn [⟨[],[],c⟩] s=(c.findIdx? (fun g=>g.nm == s)).isSome:=by
 simp only [conIn,hasCon,List.findIdx?_cons]
 cases (c.findIdx? (fun g=>g.nm == s)).isSome <;> simp
theorem c185 {l:List DataV} {lv:AV} (hl:SlR DataRep 3 l lv) (hsl:SmL 1048577 l) {d:DataV} {dx:List AV} (hd:DataRep d dx) (hsd:SmD 1048577 d) (h:Heap) :
  doCall MX (callW MX) 185 [.agg dx,lv] h=some (.ret (.int .i64 (rDataErr d l)),h):=by
 have h213:=fun {c:ConV} {cx:List AV} (hc:ConRep c cx) (hsc:SmC 1048577 c)=>c213 hl hsl hd hsd hc hsc
 obtain ⟨s1,s2,s3,s4,s5⟩:=hsd
 have hN:=c157 d.nm s1
 have hD:=c118 d.nm hl hsl.1
 obtain ⟨pv,cv,rfl,hp,hcv⟩:=hd.dest
 have hn:([AV.agg [.str d.nm,pv,cv],lv]:List AV).all AV.noRef=true:=by simp [AV.noRef,noRefs,hl.noRef,hp.noRef,hcv.noRef]
 obtain ⟨hr,hc'⟩:∃ hr,runW MX 185 [.agg [.str d.nm,pv,cv],lv] []=some (.ret (.int .i64 (rDataErr d l)),hr):=by
  unfold rDataErr
  cases hN0:isNameS d.nm with
  | false=>exact ⟨_,by simp [runW,Tryz.f185,hN,hN0] <;> rfl⟩
  | true=>
  cases hD0:l.findIdx? (fun x=>x.nm == d.nm) with
  | some j=>
   exact ⟨_,by simp [runW,Tryz.f185,hN,hN0,hD,hD0,ixI] <;> rfl⟩
  | none=>
  cases hb1:(d.nm == bitS) with
  | true=>
   have hb1':(d.nm == [66,105,116])=true:=hb1
   exact ⟨_,by simp [runW,Tryz.f185,hN,hN0,hD,hD0,ixI,hb1'] <;> rfl⟩
  | false=>
  have hb1':(d.nm == [66,105,116])=false:=hb1
  cases hb2:(d.nm == boolS) with
  | true=>
   have hb2':(d.nm == [66,111,111,108])=true:=hb2
   exact ⟨_,by simp [runW,Tryz.f185,hN,hN0,hD,hD0,ixI,hb1',hb2'] <;> rfl⟩
  | false=>
  have hb2':(d.nm == [66,111,111,108])=false:=hb2
  cases hb3:(d.nm == integerS) with
  | true=>
   have hb3':(d.nm == [73,110,116,101,103,101,114])=true:=hb3
   exact ⟨_,by simp [runW,Tryz.f185,hN,hN0,hD,hD0,ixI,hb1',hb2',hb3'] <;> rfl⟩
  | false=>
  have hb3':(d.nm == [73,110,116,101,103,101,114])=false:=hb3
  by_cases h4:4<d.params.length
  ·have h4':(4<(d.params.length:Int)):=by omega
   exact ⟨_,by simp [runW,Tryz.f185,hN,hN0,hD,hD0,ixI,hb1',hb2',hb3',hp.len,h4',h4] <;> rfl⟩
  ·have h4':¬ (4<(d.params.length:Int)):=by omega
   by_cases h16:16<d.cons.length
   ·have h16':(16<(d.cons.length:Int)):=by omega
    exact ⟨_,by simp [runW,Tryz.f185,hN,hN0,hD,hD0,ixI,hb1',hb2',hb3',hp.len,hcv.len,h4',h4,h16',h16] <;> rfl⟩
   ·have h16':¬ (16<(d.cons.length:Int)):=by omega
    by_cases h0:d.cons.length=0
    ·exact ⟨_,by simp [runW,Tryz.f185,hN,hN0,hD,hD0,ixI,hb1',hb2',hb3',hp.len,hcv.len,h4',h4,h16',h16,h0] <;> rfl⟩
    ·have h0':((d.cons.length:Int) == 0)=false:=by rw [beq_eq_false_iff_ne];omega
     -- the parameters
     obtain ⟨e,st,hlp,hq⟩:=loop_up (M:=MX) (fid:=185) (N:=119) (C:=callW MX) (c:=loopC Tryz.f185 0) (n:=d.params.length) (fun i (_:Unit)=>([(1,lv),(2,.hp 0 0),(5,.int .i64 i)],[Blk.var false [AV.str d.nm,pv,cv]]))
      (fun i _=>rParams [] d.params=rParams (d.params.take i) (d.params.drop i))
      (fun r=>(r=(.ext 0,([(1,lv),(2,.hp 0 0),(5,.int .i64 d.params.length),(51,.bool false)],[Blk.var false [AV.str d.nm,pv,cv]]))∧rParams [] d.params=0)∨(r=(.ret,([(4,.int .i64 (rParams [] d.params))],[Blk.var false [AV.str d.nm,pv,cv]]))∧rParams [] d.params≠0)) (fun i b hi hI=>by
        obtain ⟨e,he,hR⟩:=hp.ix hi
        have hi':=lt_cast hi
        have hw:=wr_next hi s2
        cases hR
        have hNp:=c157 d.params[i] (s3 _ (List.getElem_mem hi))
        obtain ⟨w,hw1,hw2⟩:=hp.slice (Nat.le_of_lt hi)
        have hH:=c89 d.params[i] hw2 (by simp;omega)
        have hdr:d.params.drop i=d.params[i]::d.params.drop (i+1):=List.drop_eq_getElem_cons hi
        have htk:d.params.take i++[d.params[i]]=d.params.take (i+1):=by simp
        rw [hdr] at hI
        simp only [rParams] at hI
        rw [htk] at hI
        cases hNp0:isNameS d.params[i] with
        | false=>
         rw [hNp0] at hI
         exact .inr ⟨_,_,by simp [Tryz.f185,hp.len,hi',he,hNp,hNp0] <;> first | exact ⟨rfl,rfl⟩ | rfl,by simp,.inr ⟨by rw [hI];rfl,by rw [hI];simp⟩⟩
        | true=>
         rw [hNp0] at hI
         cases hH0:((d.params.take i).findIdx? (fun x=>x == d.params[i])).isSome with
         | true=>
          rw [hH0] at hI
          simp only [hH0] at hH
          exact .inr ⟨_,_,by simp [Tryz.f185,hp.len,hi',he,hNp,hNp0,hw1,hw2.noRef,hH,hH0,AV.noRef] <;> first | exact ⟨rfl,rfl⟩ | rfl,by simp,.inr ⟨by rw [hI];rfl,by rw [hI];simp⟩⟩
         | false=>
          rw [hH0] at hI
          simp only [hH0] at hH
          exact .inl ⟨(),by simp [Tryz.f185,hp.len,hi',he,hNp,hNp0,hw1,hw2.noRef,hH,hH0,AV.noRef,hw],by simpa using hI⟩) (fun b hI=>by
        rw [List.drop_length] at hI
        exact ⟨_,_,by simp [Tryz.f185,hp.len] <;> first | exact ⟨rfl,rfl⟩ | rfl,by simp,.inl ⟨rfl,hI⟩⟩) () (by simp)
     simp [Tryz.f185] at hlp
     rcases hq with ⟨hq,hP⟩ | ⟨hq,hP⟩ <;> cases hq
     ·-- the constructors
      obtain ⟨e2,st2,hlp2,hq2⟩:=loop_up (M:=MX) (fid:=185) (N:=119) (C:=callW MX) (c:=loopC Tryz.f185 1) (n:=d.cons.length) (fun i (b:Heap)=>([(1,lv),(2,.hp 0 0),(6,.int .i64 i)],Blk.var false [AV.str d.nm,pv,cv]::b))
       (fun i _=>rCons l d.params [] d.cons=rCons l d.params (d.cons.take i) (d.cons.drop i))
       (fun r=>∃ b:Heap,(r=(.ext 2,([(1,lv),(2,.hp 0 0),(6,.int .i64 d.cons.length),(75,.bool false)],b))∧rCons l d.params [] d.cons=0)∨(r=(.ret,([(4,.int .i64 (rCons l d.params [] d.cons))],b)))) (fun i b hi hI=>by
         obtain ⟨e,he,hR⟩:=hcv.ix hi
         have hi':=lt_cast hi
         have hw:=wr_next hi s4
         have hmem:=List.getElem_mem hi
         have hsc:=s5 _ hmem
         have hNc:=c157 d.cons[i].nm hsc.1
         have h212:=c212 d.cons[i].nm hl hsl.1 (fun d hd=>(hsl.2 d hd).2.2.2.1)
         obtain ⟨w,hw1,hw2⟩:=hcv.slice (Nat.le_of_lt hi)
         have hone:SlR DataRep 3 [⟨[],[],d.cons.take i⟩] (.sl 3 true [[.str [],.nils,w]]):=.inr ⟨true,_,rfl,rfl,fun j a e h1 h2=>by
          cases j with
          | zero=>
           simp only [List.getElem?_cons_zero,Option.some.injEq] at h1 h2
           subst h1;subst h2
           exact ⟨.nils,w,rfl,.inl ⟨rfl,rfl⟩,hw2⟩
          | succ j=>simp at h1⟩
         have h212b:=c212 d.cons[i].nm hone (by simp) (fun d' hd'=>by simp at hd';subst hd';simp;omega)
         rw [conIn_one] at h212b
         have hdr:d.cons.drop i=d.cons[i]::d.cons.drop (i+1):=List.drop_eq_getElem_cons hi
         have htk:d.cons.take i++[d.cons[i]]=d.cons.take (i+1):=by simp
         have h3:=h213 hR hsc
         obtain ⟨fv,rfl,hf⟩:=hR.dest
         rw [hdr] at hI
         simp only [rCons] at hI
         rw [htk] at hI
         cases hNc0:isNameS d.cons[i].nm with
         | false=>
          rw [hNc0] at hI
          exact .inr ⟨_,_,by simp [Tryz.f185,hcv.len,hi',he,hNc,hNc0] <;> first | exact ⟨rfl,rfl⟩ | rfl,by simp,_,.inr (by rw [hI];rfl)⟩
         | true=>
         rw [hNc0] at hI
         cases hc1:conIn l d.cons[i].nm with
         | true=>
          rw [hc1] at hI
          exact .inr ⟨_,_,by simp [Tryz.f185,hcv.len,hi',he,hNc,hNc0,h212,hc1,hl.noRef,AV.noRef] <;> first | exact ⟨rfl,rfl⟩ | rfl,by simp,_,.inr (by rw [hI];rfl)⟩
         | false=>
         rw [hc1] at hI
         cases hc2:((d.cons.take i).findIdx? (fun g=>g.nm == d.cons[i].nm)).isSome with
         | true=>
          rw [hc2] at hI
          simp only [hc2] at h212b
          exact .inr ⟨_,_,by simp [Tryz.f185,hcv.len,hi',he,hNc,hNc0,h212,hc1,hw1,bsA,fillE,List.replicate,noRefs,AV.noRef,hw2.noRef,hw2.cells,h212b,hc2,hl.noRef] <;> first | exact ⟨rfl,rfl⟩ | rfl,by simp,_,.inr (by rw [hI];rfl)⟩
         | false=>
         rw [hc2] at hI
         simp only [hc2] at h212b
         cases hc3:(d.cons[i].nm == falseS) with
         | true=>
          rw [hc3] at hI
          have hc3':(d.cons[i].nm == [70,97,108,115,101])=true:=hc3
          exact .inr ⟨_,_,by simp [Tryz.f185,hcv.len,hi',he,hNc,hNc0,h212,hc1,hw1,bsA,fillE,List.replicate,noRefs,AV.noRef,hw2.noRef,hw2.cells,h212b,hc2,hl.noRef,hc3'] <;> first | exact ⟨rfl,rfl⟩ | rfl,by simp,_,.inr (by rw [hI];rfl)⟩
         | false=>
         rw [hc3] at hI
         have hc3':(d.cons[i].nm == [70,97,108,115,101])=false:=hc3
         cases hc4:(d.cons[i].nm == trueS) with
         | true=>
          rw [hc4] at hI
          have hc4':(d.cons[i].nm == [84,114,117,101])=true:=hc4
          exact .inr ⟨_,_,by simp [Tryz.f185,hcv.len,hi',he,hNc,hNc0,h212,hc1,hw1,bsA,fillE,List.replicate,noRefs,AV.noRef,hw2.noRef,hw2.cells,h212b,hc2,hl.noRef,hc3',hc4'] <;> first | exact ⟨rfl,rfl⟩ | rfl,by simp,_,.inr (by rw [hI];rfl)⟩
         | false=>
         rw [hc4] at hI
         have hc4':(d.cons[i].nm == [84,114,117,101])=false:=hc4
         by_cases hz:rFieldsErr l d.params d.cons[i].fields=0
         ·rw [if_pos hz] at hI
          exact .inl ⟨_,by simp [Tryz.f185,hcv.len,hi',he,hNc,hNc0,h212,hc1,hw1,bsA,fillE,List.replicate,noRefs,AV.noRef,hw2.noRef,hw2.cells,h212b,hc2,hl.noRef,hp.noRef,hcv.noRef,hf.noRef,hc3',hc4',h3,hz,hw] <;> rfl,by simpa using hI⟩
         ·rw [if_neg hz] at hI
          have hne:(rFieldsErr l d.params d.cons[i].fields != 0)=true:=by simp [hz]
          exact .inr ⟨_,_,by simp [Tryz.f185,hcv.len,hi',he,hNc,hNc0,h212,hc1,hw1,bsA,fillE,List.replicate,noRefs,AV.noRef,hw2.noRef,hw2.cells,h212b,hc2,hl.noRef,hp.noRef,hcv.noRef,hf.noRef,hc3',hc4',h3,hne] <;> first | exact ⟨rfl,rfl⟩ | rfl,by simp,_,.inr (by rw [hI];rfl)⟩) (fun b hI=>by
         rw [List.drop_length] at hI
         exact ⟨_,_,by simp [Tryz.f185,hcv.len] <;> first | exact ⟨rfl,rfl⟩ | rfl,by simp,_,.inl ⟨rfl,hI⟩⟩) ([]:Heap) (by simp)
      simp [Tryz.f185] at hlp2
      obtain ⟨b,hq2⟩:=hq2
      rcases hq2 with ⟨hq2,hC⟩ | hq2 <;> cases hq2
      ·exact ⟨_,by simp [runW,Tryz.f185,hN,hN0,hD,hD0,ixI,hb1',hb2',hb3',hp.len,hcv.len,h4',h4,h16',h16,h0,h0',hlp,hP,hlp2,hC] <;> rfl⟩
      ·exact ⟨_,by simp [runW,Tryz.f185,hN,hN0,hD,hD0,ixI,hb1',hb2',hb3',hp.len,hcv.len,h4',h4,h16',h16,h0,h0',hlp,hP,hlp2] <;> rfl⟩
     ·exact ⟨_,by simp [runW,Tryz.f185,hN,hN0,hD,hD0,ixI,hb1',hb2',hb3',hp.len,hcv.len,h4',h4,h16',h16,h0,h0',hlp,hP] <;> rfl⟩
 exact pureX mode_185 eff_185 hn rfl hc' h
def rDatas:List DataV→List DataV→Int×Int
 | _,[]=>(0,0)
 | prev,d::r=>if rDataErr d prev=0 then rDatas (prev++[d]) r else (prev.length,rDataErr d prev)
def rCheckData (l:List DataV):Int×Int:=if 20<l.length then (0,8) else rDatas [] l
theorem c152 {l:List DataV} {lv:AV} (hl:SlR DataRep 3 l lv) (hsl:SmL 1048577 l) (h:Heap) :
  doCall MX (callW MX) 152 [lv] h=some (.ret (.tup [.int .i64 (rCheckData l).1,.int .i64 (rCheckData l).2]),h):=by
 refine pureX mode_152 eff_152 (by simp [hl.noRef]) rfl (hr:=[]) ?_ h
 unfold rCheckData
 by_cases h20:20<l.length
 ·have h20':(20<(l.length:Int)):=by omega
  simp [runW,Tryz.f152,hl.len,h20,h20']
 ·have h20':¬ (20<(l.length:Int)):=by omega
  obtain ⟨e,st,hlp,hq⟩:=loop_up (M:=MX) (fid:=152) (N:=27) (C:=callW MX) (c:=loopC Tryz.f152 0) (n:=l.length) (fun i (_:Unit)=>([(0,lv),(4,.int .i64 i)],[]))
   (fun i _=>rDatas [] l=rDatas (l.take i) (l.drop i))
   (fun r=>(r=(.ext 0,([(0,lv),(4,.int .i64 l.length),(12,.bool false)],[]))∧rDatas [] l=(0,0))∨(r=(.ret,([(2,.int .i64 (rDatas [] l).1),(3,.int .i64 (rDatas [] l).2)],[])))) (fun i b hi hI=>by
     obtain ⟨e,he,hR⟩:=hl.ix hi
     have hi':=lt_cast hi
     have hw:=wr_next hi hsl.1
     have hmem:=List.getElem_mem hi
     obtain ⟨w,hw1,hw2⟩:=hl.slice (Nat.le_of_lt hi)
     have h185:=c185 hw2 ⟨by simp;omega,fun d hd=>hsl.2 d (List.mem_of_mem_take hd)⟩ hR (hsl.2 _ hmem)
     have hdr:l.drop i=l[i]::l.drop (i+1):=List.drop_eq_getElem_cons hi
     have htk:l.take i++[l[i]]=l.take (i+1):=by simp
     have htl:(l.take i).length=i:=by simp;omega
     obtain ⟨pv,cv,rfl,hp,hc⟩:=hR.dest
     rw [hdr] at hI
     simp only [rDatas] at hI
     rw [htk,htl] at hI
     by_cases h0:rDataErr l[i] (l.take i)=0
     ·rw [if_pos h0] at hI
      exact .inl ⟨(),by simp [Tryz.f152,hl.len,hi',he,hw1,h185,h0,hw,noRefs,AV.noRef,hw2.noRef,hp.noRef,hc.noRef],hI⟩
     ·rw [if_neg h0] at hI
      have hne:(rDataErr l[i] (l.take i) != 0)=true:=by simp [h0]
      exact .inr ⟨_,_,by simp [Tryz.f152,hl.len,hi',he,hw1,h185,hne,noRefs,AV.noRef,hw2.noRef,hp.noRef,hc.noRef] <;> first | exact ⟨rfl,rfl⟩ | rfl,by simp,.inr (by rw [hI])⟩) (fun b hI=>by
     rw [List.drop_length] at hI
     exact ⟨_,_,by simp [Tryz.f152,hl.len] <;> first | exact ⟨rfl,rfl⟩ | rfl,by simp,.inl ⟨rfl,hI⟩⟩) () (by simp)
  simp [Tryz.f152] at hlp
  rcases hq with ⟨hq,hs⟩ | hq <;> cases hq
  ·simp [runW,Tryz.f152,hl.len,h20,h20',hlp,hs]
  ·simp [runW,Tryz.f152,hl.len,h20,h20',hlp]
theorem c84 {l:List DataV} {lv:AV} (hl:SlR DataRep 3 l lv) (hsl:SmL 1048577 l) (h:Heap) :
  doCall MX (callW MX) 84 [lv] h=some (.ret (.int .i64 (rCheckData l).2),h):=
 pureX mode_84 eff_84 (by simp [hl.noRef]) rfl (hr:=[]) (by simp [runW,Tryz.f84,c152 hl hsl]) h
end Go.Proofs.Am12
namespace Go.Proofs.Am12
open Go Go.Am
attribute [local simp] cw_skip cw_region cw_seq cw_cond cw_block cw_loop cw_exit cw_ret regionA runOps wantedA opEx xVal xPick xAlloc xBox xBuild xBuildSlice xLoad xStore xNil xBin xUn xConv xIface xFunc xMakeSlice xSlice xFieldAddr xField xIndexAddr xIndex xLookup xUpdate xExtract xBuiltin xPanic xCall
 ev evs ofVal ofCell OR.ofV OR.ofVH OR.ofC putD Tm.get Tm.init Tm.only beq_d ble_d blt_d finish resultA resA binA intBin strBin unA cells_int cells_bool cells_str cells_nilp cells_ro cells_hp cells_ep cells_nils cells_sl cells_hs cells_nilm cells_hm cells_fn cells_nilf cells_agg loopC loopsIn lenSl_nils lenSl_sl lenSl_hs lenSt_str faA_ro faA_hp faA_ep ld1_def ldN_def takeA rd_ro rd_hp rd_ep stA spliceAt zipFst fillC kdOf kdRead blkOf noCh okDraw_ld okDraw_l okPairsL loudS kdSh
set_option maxHeartbeats 1000000
theorem ap_empty {α:Type} {R:α→List AV→Prop} {sz byt:Nat} {l:List α} {v:AV} (hv:SlR R sz l v) (h0:0<sz) (hb:byt≤1024) (hl:l.length<1048577) (h:Heap) :
  ∃ es:List (List AV),es.length=l.length∧(∀ (i:Nat) a e,l[i]? = some a→es[i]? = some e→R a e)∧((l=[]∧apA sz byt (.sl sz true []) v h=some (.sl sz true [],h))∨(l≠[]∧apA sz byt (.sl sz true []) v h=some (.hs h.length es.length sz 0 es.length false,h++[.arr sz false es]))):=by
 obtain ⟨es,h1,h2,h3,h4⟩:=hv.rd h
 refine ⟨es,h3,h4,?_⟩
 have hn:∀ b,v≠.str b:=fun b e=>by subst e;rcases hv with ⟨_,e⟩ | ⟨_,_,e,_⟩ <;> cases e
 have hap:apA sz byt (.sl sz true []) v h=apX sz byt (.sl sz true []) es 0 h:=by
  unfold apA
  rcases hv with ⟨_,rfl⟩ | ⟨_,_,rfl,_⟩ <;> simp only [h1,h2,lenA] <;> rfl
 rw [hap]
 have e1:szOk sz (.sl sz true [])=true:=by simp [szOk,elemSz]
 have hbb:(0+es.length) * byt≤17592186044416:=Nat.le_trans (Nat.mul_le_mul (show 0+es.length≤1048577 by omega) hb) (by decide)
 cases l with
 | nil=>
  have:es=[]:=List.eq_nil_of_length_eq_zero h3
  subst this
  exact .inl ⟨rfl,by simp [apX,e1,h0,nblt]⟩
 | cons x r=>
  refine .inr ⟨by simp,?_⟩
  have hne:es≠[]:=fun e=>by rw [e] at h3;simp at h3
  obtain ⟨y,ys,rfl⟩:∃ y ys,es=y::ys:=by cases es with | nil=>exact absurd rfl hne | cons y ys=>exact ⟨y,ys,rfl⟩
  simp only [List.length_cons,Nat.zero_add] at hbb h3 hl
  simp [apX,e1,h0,hbb,show ys.length≤17592186044415 by omega,newArr]
theorem strRep_noRefs (a:Bytes) (e:List AV) (h:StrRep a e):noRefs e=true:=by cases h;rfl
theorem c80 {l:List Bytes} {v:AV} (hv:SlR StrRep 1 l v) (hl:l.length<1048577):∃ w,SlR StrRep 1 l w∧∀ h,doCall MX (callW MX) 80 [v] h=some (.ret w,h):=by
 obtain ⟨es,h1,h2,h3⟩:=ap_empty (byt:=16) hv (by decide) (by decide) hl []
 rcases h3 with ⟨hn,h3⟩ | ⟨hn,h3⟩
 ·exact ⟨.sl 1 true [],.inr ⟨true,[],rfl,by simp [hn],fun i a e h _=>by simp [hn] at h⟩,fun h=>pureX mode_80 eff_80 (by simp [hv.noRef]) rfl (hr:=[]) (by simp [runW,Tryz.f80,bsA,fillE,h3]) h⟩
 ·have hs:=reps_noRefs h1 h2 strRep_noRefs
  have hne:es≠[]:=fun e=>by rw [e] at h1;exact hn (List.eq_nil_of_length_eq_zero h1.symm)
  have hacc:AccIn 1 ([]:Heap).length [.arr 1 false es] (.hs 0 es.length 1 0 es.length false) es:=.inr ⟨0,hne,by simp,rfl⟩
  exact ⟨.sl 1 false es,AccIn.rep h1 h2 _,fun h=>pureS mode_80 eff_80 (by simp [hv.noRef]) rfl (hacc.snap (n:=9999999) hs hne) rfl (hr:=[.arr 1 false es]) (by simp [runW,Tryz.f80,bsA,fillE,h3]) h⟩
theorem c142 (t:TyV):∀ (xs:List AV),TyRep t xs→Sm 1048577 t→∃ ys,TyRep t ys∧∀ h,doCall MX (callW MX) 142 [.agg xs] h=some (.ret (.agg ys),h):=by
 induction t using TyV.ind with
 | h k v nm ps ih=>
  intro xs hx hs
  have hn:([AV.agg xs]:List AV).all AV.noRef=true:=by simp [AV.noRef,hx.noRefs]
  obtain ⟨pv,rfl,hp⟩:=hx.dest
  obtain ⟨s1,s2,s3⟩:=hs.dest
  have hb:=bef_142_6
  simp [opsF,opsAt,Tryz.f142] at hb
  obtain ⟨e,st,hlp,hq⟩:=loop_up (M:=MX) (fid:=142) (N:=26) (C:=callW MX) (c:=loopC Tryz.f142 0) (n:=ps.length)
   (fun i (b:AV×Heap×List (List AV))=>([(1,.hp 0 0),(2,.hp 1 0),(3,.hp 2 0),(4,.int .i64 i)],Blk.var false [AV.int .i64 k,AV.int .i64 v,AV.str nm,pv]::Blk.var false [AV.int .i64 0,AV.int .i64 0,AV.str [],AV.nils]::Blk.var false [AV.int .i64 k,AV.int .i64 v,AV.str nm,b.1]::b.2.1))
   (fun i b=>AccIn 4 3 b.2.1 b.1 b.2.2∧b.2.2.length=(ps.take i).length∧∀ (j:Nat) t e,(ps.take i)[j]? = some t→b.2.2[j]? = some e→TyRep t e)
   (fun r=>∃ b:AV×Heap×List (List AV),r=(.ext 0,([(1,.hp 0 0),(2,.hp 1 0),(3,.hp 2 0),(4,.int .i64 ps.length),(11,.bool false)],Blk.var false [AV.int .i64 k,AV.int .i64 v,AV.str nm,pv]::Blk.var false [AV.int .i64 0,AV.int .i64 0,AV.str [],AV.nils]::Blk.var false [AV.int .i64 k,AV.int .i64 v,AV.str nm,b.1]::b.2.1)) ∧
     AccIn 4 3 b.2.1 b.1 b.2.2∧b.2.2.length=ps.length∧∀ (j:Nat) t e,ps[j]? = some t→b.2.2[j]? = some e→TyRep t e) (fun i b hi hI=>by
     obtain ⟨a,rest,es⟩:=b
     obtain ⟨i1,i2,i3⟩:=hI
     simp only at i1 i2 i3
     obtain ⟨e,he,hR⟩:=hp.ix hi
     have hi':=lt_cast hi
     have hw:=wr_next hi s2
     obtain ⟨ys,hys,hcall⟩:=ih ps[i] (List.getElem_mem hi) e hR (s3 _ (List.getElem_mem hi))
     have htk:ps.take i++[ps[i]]=ps.take (i+1):=by simp
     obtain ⟨j1,j2⟩:=rep_push i2 i3 hys
     rw [htk] at j1 j2
     have hlen:es.length<16777215:=by rw [i2];simp;omega
     obtain ⟨a',rest',hap,hacc⟩:=AccIn.push (byt:=56) (P:=[Blk.var false [AV.int .i64 k,AV.int .i64 v,AV.str nm,pv],Blk.var false [AV.int .i64 0,AV.int .i64 0,AV.str [],AV.nils],Blk.var false [AV.int .i64 k,AV.int .i64 v,AV.str nm,a]]) ys true i1 (by decide) (by decide) hlen
     simp only [List.cons_append,List.nil_append] at hap
     have hyn:=hys.noRefs
     have hyl:=hys.len
     obtain ⟨qv,rfl,hqv⟩:=hR.dest'
     exact .inl ⟨(a',rest',es++[ys]),by simp [Tryz.f142,hp.len,hi',he,hcall,bsA,fillE,List.replicate,hyl,hyn,hap,hacc.cells,hw,hb,noRefs,AV.noRef,hqv.noRef],hacc,j1,j2⟩) (fun b hI=>by
     obtain ⟨a,rest,es⟩:=b
     obtain ⟨i1,i2,i3⟩:=hI
     rw [List.take_length] at i2 i3
     exact ⟨_,_,by simp [Tryz.f142,hp.len] <;> first | exact ⟨rfl,rfl⟩ | rfl,by simp,(a,rest,es),rfl,i1,i2,i3⟩) (.nils,[],[]) ⟨.nil _ _ _,by simp,fun j t e h=>by simp at h⟩
  obtain ⟨⟨a,rest,es⟩,hq,i1,i2,i3⟩:=hq
  cases hq
  simp [Tryz.f142] at hlp
  have hrun:runW MX 142 [.agg [.int .i64 k,.int .i64 v,.str nm,pv]] []=some (.ret (.agg [.int .i64 k,.int .i64 v,.str nm,a]),[Blk.var false [AV.int .i64 k,AV.int .i64 v,AV.str nm,pv],Blk.var false [AV.int .i64 k,AV.int .i64 v,AV.str nm,a],Blk.var false [AV.int .i64 k,AV.int .i64 v,AV.str nm,a]]++rest):=by
   simp [runW,Tryz.f142,hlp,resA]
  have hsn:=reps_noRefs i2 i3 (fun a e h=>h.noRefs)
  obtain ⟨v',rest',hsa,hv'⟩:=AccIn.snapIn (P:=[Blk.var false [AV.int .i64 k,AV.int .i64 v,AV.str nm,pv],Blk.var false [AV.int .i64 k,AV.int .i64 v,AV.str nm,a],Blk.var false [AV.int .i64 k,AV.int .i64 v,AV.str nm,a]]) i1 hsn
  have hrep:SlR TyRep 4 ps v':=by
   rcases hv' with ⟨h1,rfl⟩ | rfl
   ·exact .inl ⟨List.eq_nil_of_length_eq_zero (by rw [← i2,h1];rfl),rfl⟩
   ·exact AccIn.rep i2 i3 false
  refine ⟨_,TyRep.intro hrep,fun h => ?_⟩
  cases hna:a.noRef with
  | true=>
   have:a=v':=by
    have h1:=i1.noRef
    rw [hna] at h1
    have h2:es=[]:=by cases es with | nil=>rfl | cons=>cases h1
    rcases i1 with ⟨_,h3⟩ | ⟨_,h3,_⟩
    ·rcases hv' with ⟨_,h4⟩ | h4
     ·rw [h4];exact h3
     ·have:=hsa 0;simp only at h3;subst h3;cases this;rfl
    ·exact absurd h2 h3
   subst this
   exact pureX mode_142 eff_142 hn (by simp [AV.noRef,noRefs,hna]) hrun h
  | false=>
   exact pureS mode_142 eff_142 hn (by simp [AV.noRef,noRefs,hna]) ((SnapIn.agg (by simp [noRefs,AV.noRef,hna]) (.cons (.flat rfl _) (.cons (.flat rfl _) (.cons (.flat rfl _) (.cons hsa (.nil _)))))).at (by decide)) (by simp [AV.noRef,noRefs,hrep.noRef]) hrun h
theorem pureT {f:FuncId} {args:List AV} {v v':AV} {hr hr':Heap} {K:Nat} (hm:MX.mode f = { fresh:=true }) (he:MX.eff f=none) (ha:args.all AV.noRef=true) (hs:SnapIn K v hr v' hr') (hk:K≤snapN) (hv':v'.noRef=true) (heq:v.noRef=true→v=v') (hc:runW MX f args []=some (.ret v,hr)) (h:Heap) :
  doCall MX (callW MX) f args h=some (.ret v',h):=by
 cases hv:v.noRef with
 | true=>have:=heq hv;subst this;exact pureX hm he ha hv hc h
 | false=>exact pureS hm he ha hv (hs.at hk) hv' hc h
theorem acc_end {α:Type} {R:α→List AV→Prop} {l:List α} {sz:Nat} {P rest:Heap} {a:AV} {es:List (List AV)} (hR:∀ a e,R a e→noRefs e=true) (h:AccIn sz P.length rest a es) (hl:es.length=l.length) (hr:∀ (i:Nat) a e,l[i]? = some a→es[i]? = some e→R a e) :
  ∃ v' rest',SnapIn 1 a (P++rest) v' (P++rest')∧SlR R sz l v'∧(a.noRef=true→a=v'):=by
 have hn:=reps_noRefs hl hr hR
 by_cases h0:es=[]
 ·rcases h with ⟨_,rfl⟩ | ⟨_,h1,_⟩
  ·exact ⟨.nils,rest,fun n=>rfl,.inl ⟨List.eq_nil_of_length_eq_zero (by rw [← hl,h0];rfl),rfl⟩,fun _=>rfl⟩
  ·exact absurd h0 h1
 ·refine ⟨_,_,fun n=>h.snap hn h0,AccIn.rep hl hr false,fun hna => ?_⟩
  rw [h.noRef] at hna
  cases es with
  | nil=>exact absurd rfl h0
  | cons=>cases hna
theorem fieldRep_noRefs (a:FieldV) (e:List AV) (h:FieldRep a e):noRefs e=true:=by
 obtain ⟨pv,rfl,hp⟩:=h.dest
 simp [noRefs,AV.noRef,hp.noRef]
theorem conRep_noRefs (a:ConV) (e:List AV) (h:ConRep a e):noRefs e=true:=by
 obtain ⟨pv,rfl,hp⟩:=h.dest
 simp [noRefs,AV.noRef,hp.noRef]
theorem take_push {α:Type} {l:List α} {i:Nat} (hi:i<l.length):l.take i++[l[i]]=l.take (i+1):=by simp
theorem c81 {l:List FieldV} {v:AV} (hv:SlR FieldRep 5 l v) (hl:l.length<1048577) (hs:∀ f∈l,Sm 1048577 f.ty):∃ w,SlR FieldRep 5 l w∧∀ h,doCall MX (callW MX) 81 [v] h=some (.ret w,h):=by
 have hb:=bef_81_5
 simp [opsF,opsAt,Tryz.f81] at hb
 obtain ⟨e,st,hlp,hq⟩:=loop_up (M:=MX) (fid:=81) (N:=27) (C:=callW MX) (c:=loopC Tryz.f81 0) (n:=l.length)
  (fun i (b:AV×Heap×List (List AV))=>([(0,v),(3,b.1),(4,.int .i64 i)],b.2.1))
  (fun i b=>AccIn 5 0 b.2.1 b.1 b.2.2∧b.2.2.length=(l.take i).length∧∀ (j:Nat) t e,(l.take i)[j]? = some t→b.2.2[j]? = some e→FieldRep t e)
  (fun r=>∃ b:AV×Heap×List (List AV),r=(.ext 0,([(0,v),(3,b.1),(4,.int .i64 l.length),(8,.bool false)],b.2.1)) ∧
    AccIn 5 0 b.2.1 b.1 b.2.2∧b.2.2.length=l.length∧∀ (j:Nat) t e,l[j]? = some t→b.2.2[j]? = some e→FieldRep t e) (fun i b hi hI=>by
    obtain ⟨a,rest,es⟩:=b
    obtain ⟨i1,i2,i3⟩:=hI
    simp only at i1 i2 i3
    obtain ⟨e,he,hR⟩:=hv.ix hi
    have hi':=lt_cast hi
    have hw:=wr_next hi hl
    obtain ⟨tx,rfl,ht⟩:=hR
    obtain ⟨ys,hys,hcall⟩:=c142 l[i].ty tx ht (hs _ (List.getElem_mem hi))
    have hyf:FieldRep l[i] (.str l[i].nm::ys):=⟨ys,rfl,hys⟩
    obtain ⟨j1,j2⟩:=rep_push i2 i3 hyf
    rw [take_push hi] at j1 j2
    have hlen:es.length<16777215:=by rw [i2];simp;omega
    obtain ⟨a',rest',hap,hacc⟩:=AccIn.push (byt:=72) (P:=[]) (.str l[i].nm::ys) true i1 (by decide) (by decide) hlen
    simp only [List.nil_append] at hap
    obtain ⟨q,rfl,hq⟩:=hys.dest'
    obtain ⟨q',rfl,hq'⟩:=ht.dest'
    exact .inl ⟨(a',rest',es++[.str l[i].nm::[.int .i64 l[i].ty.k,.int .i64 l[i].ty.v,.str l[i].ty.nm,q]]),by simp [Tryz.f81,hv.len,hi',he,hcall,bsA,fillE,List.replicate,hap,hw,hb,noRefs,AV.noRef,hq.noRef,hq'.noRef],hacc,j1,j2⟩) (fun b hI=>by
    obtain ⟨a,rest,es⟩:=b
    obtain ⟨i1,i2,i3⟩:=hI
    rw [List.take_length] at i2 i3
    exact ⟨_,_,by simp [Tryz.f81,hv.len] <;> first | exact ⟨rfl,rfl⟩ | rfl,by simp,(a,rest,es),rfl,i1,i2,i3⟩) (.nils,[],[]) ⟨.nil _ _ _,by simp,fun j t e h=>by simp at h⟩
 obtain ⟨⟨a,rest,es⟩,hq,i1,i2,i3⟩:=hq
 cases hq
 simp [Tryz.f81] at hlp
 obtain ⟨v',rest',hsn,hrep,heq⟩:=acc_end (P:=[]) fieldRep_noRefs i1 i2 i3
 exact ⟨v',hrep,fun h=>pureT mode_81 eff_81 (by simp [hv.noRef]) hsn (by decide) hrep.noRef heq (by simp [runW,Tryz.f81,hlp]) h⟩
theorem pushsF {sz byt:Nat} {rest:Heap} {a:AV} {es xs:List (List AV)} {x:AV} (h:AccIn sz 0 rest a es) (hx:rdElems rest x=some xs) (hs:szOk sz x=true) (hnx:∀ b,x≠.str b) (hxs:xs≠[]) (h0:0<sz) (hb:byt≤1024) (hn:es.length+xs.length<16777216) :
  ∃ a' rest',apA sz byt a x rest=some (a',rest')∧AccIn sz 0 rest' a' (es++xs)∧∀ (id:Nat) (b:Blk),rest[id]? = some b→(∀ lk es,b≠Blk.arr sz lk es)→rest'[id]? = some b:=by
 have hbb:(es.length+xs.length) * byt≤17592186044416:=Nat.le_trans (Nat.mul_le_mul (Nat.le_of_lt hn) hb) (by decide)
 have hap:∀ n,lenA a=some n→apA sz byt a x rest=apX sz byt a xs n rest:=fun n hl=>by
  unfold apA
  cases x with
  | str b=>exact absurd rfl (hnx b)
  | _=>first | simp only [hs,hx,hl] | (simp only [rdElems] at hx;cases hx)
 obtain ⟨y,ys,rfl⟩:∃ y ys,xs=y::ys:=by cases xs with | nil=>exact absurd rfl hxs | cons y ys=>exact ⟨y,ys,rfl⟩
 rcases h with ⟨rfl,rfl⟩ | ⟨j,hne,rfl,h2⟩
 ·refine ⟨.hs rest.length (ys.length+1) sz 0 (ys.length+1) false,rest++[.arr sz false (y::ys)],?_,.inr ⟨rest.length,by simp,by simp,by simp⟩,fun id b hid _=>get_app hid _⟩
  rw [hap 0 rfl]
  have e1:szOk sz AV.nils=true:=rfl
  have h2:=hbb
  simp only [List.length_nil,Nat.zero_add,List.length_cons] at h2 hn
  simp [apX,e1,h0,h2,show ys.length≤17592186044415 by omega,newArr]
 ·have hj:=(List.getElem?_eq_some_iff.1 h2).1
  simp only [Nat.zero_add] at hap ⊢
  refine ⟨.hs j (es.length+(ys.length+1)) sz 0 (es.length+(ys.length+1)) false,rest.set j (.arr sz false (es++y::ys)),?_,.inr ⟨j,by simp,by simp,by simp [hj]⟩,fun id b hid hbn => ?_⟩
  ·rw [hap es.length rfl]
   have e1:szOk sz (.hs j es.length sz 0 es.length false)=true:=by simp [szOk,elemSz]
   simp only [List.length_cons] at hbb hn
   simp [apX,e1,h0,hbb,show es.length+(ys.length+1)≤17592186044416 by omega,h2]
  ·by_cases hij:j=id
   ·subst hij;rw [h2] at hid;simp only [Option.some.injEq] at hid;exact absurd hid.symm (hbn _ _)
   ·rw [List.getElem?_set_ne hij];exact hid
def AccL (sz:Nat) (H:Heap) (a:AV) (es:List (List AV)):Prop:=(es=[]∧a=.nils)∨∃ id lk,es≠[]∧a=.hs id es.length sz 0 es.length false∧H[id]? = some (.arr sz lk es)
def Keeps (H H':Heap):Prop:=∀ (id:Nat) sz lk (es:List (List AV)),H[id]? = some (.arr sz lk es)→es.all noRefs=true→∃ lk',H'[id]? = some (.arr sz lk' es)
def KeepS (H H':Heap):Prop:=∀ (id:Nat) sz lk (es:List (List AV)),H[id]? = some (.arr sz lk es)→∃ lk' es',H'[id]? = some (.arr sz lk' es')∧es'.length=es.length
theorem KeepS.refl (H:Heap):KeepS H H:=fun _ _ lk es h=>⟨lk,es,h,rfl⟩
theorem KeepS.trans {A B C:Heap} (h:KeepS A B) (k:KeepS B C):KeepS A C:=fun id sz lk es hh=>by
 obtain ⟨lk',es',h1,h2⟩:=h id sz lk es hh
 obtain ⟨lk2,es2,h3,h4⟩:=k id sz lk' es' h1
 exact ⟨lk2,es2,h3,by rw [h4,h2]⟩
theorem Keeps.refl (H:Heap):Keeps H H:=fun _ _ lk _ h _=>⟨lk,h⟩
theorem Keeps.trans {A B C:Heap} (h:Keeps A B) (k:Keeps B C):Keeps A C:=fun id sz lk es hh hn=>by
 obtain ⟨lk',h1⟩:=h id sz lk es hh hn
 exact k id sz lk' es h1 hn
theorem AccL.keeps {sz:Nat} {H H':Heap} {a:AV} {es:List (List AV)} (h:AccL sz H a es) (hn:es.all noRefs=true) (k:Keeps H H'):AccL sz H' a es:=by
 rcases h with h | ⟨id,lk,h0,h1,h2⟩
 ·exact .inl h
 ·obtain ⟨lk',h3⟩:=k id sz lk es h2 hn
  exact .inr ⟨id,lk',h0,h1,h3⟩
theorem AccL.snap {α:Type} {R:α→List AV→Prop} {l:List α} {sz:Nat} {H:Heap} {a:AV} {es:List (List AV)} (hR:∀ a e,R a e→noRefs e=true) (h:AccL sz H a es) (hl:es.length=l.length) (hr:∀ (i:Nat) a e,l[i]? = some a→es[i]? = some e→R a e) :
  ∃ v' H',SnapIn 1 a H v' H'∧SlR R sz l v'∧Keeps H H'∧KeepS H H':=by
 have hn:=reps_noRefs hl hr hR
 rcases h with ⟨h0,rfl⟩ | ⟨id,lk,h0,rfl,h2⟩
 ·exact ⟨.nils,H,fun n=>rfl,.inl ⟨List.eq_nil_of_length_eq_zero (by rw [← hl,h0];rfl),rfl⟩,Keeps.refl H,KeepS.refl H⟩
 ·refine ⟨.sl sz false es,H.set id (.arr sz true es),fun n => ?_,AccIn.rep hl hr false,fun id' sz' lk' es' h3 h4 => ?_,fun id' sz' lk' es' h3 => ?_⟩
  ·have hb:(Nat.beq es.length es.length&&Nat.beq sz sz&&Nat.ble (0+es.length) es.length&&es.all noRefs)=true:=by simp [ble_d,hn]
   simp only [Am.snap,h2,hb]
   simp
  ·by_cases hij:id=id'
   ·subst hij
    rw [h2] at h3
    simp only [Option.some.injEq,Blk.arr.injEq] at h3
    obtain ⟨rfl,_,rfl⟩:=h3
    exact ⟨true,List.getElem?_set_self (List.getElem?_eq_some_iff.1 h2).1⟩
   ·exact ⟨lk',by rw [List.getElem?_set_ne hij];exact h3⟩
  ·by_cases hij:id=id'
   ·subst hij
    rw [h2] at h3
    simp only [Option.some.injEq,Blk.arr.injEq] at h3
    obtain ⟨rfl,_,rfl⟩:=h3
    exact ⟨true,es,List.getElem?_set_self (List.getElem?_eq_some_iff.1 h2).1,rfl⟩
   ·exact ⟨lk',es',by rw [List.getElem?_set_ne hij];exact h3,rfl⟩
def DataPre (H:Heap) (d:DataV) (e:List AV):Prop:=∃ pw ca ces,e=[.str d.nm,pw,ca]∧SlR StrRep 1 d.params pw∧AccL 2 H ca ces∧ces.length=d.cons.length∧∀ (j:Nat) t e,d.cons[j]? = some t→ces[j]? = some e→ConRep t e
theorem DataPre.keeps {H H':Heap} {d:DataV} {e:List AV} (h:DataPre H d e) (k:Keeps H H'):DataPre H' d e:=by
 obtain ⟨pw,ca,ces,h1,h2,h3,h4,h5⟩:=h
 exact ⟨pw,ca,ces,h1,h2,h3.keeps (reps_noRefs h4 h5 conRep_noRefs) k,h4,h5⟩
theorem DataPre.snap {H:Heap} {d:DataV} {e:List AV} (h:DataPre H d e):∃ e' H',SnapsIn 4 e H e' H'∧DataRep d e'∧Keeps H H'∧KeepS H H':=by
 obtain ⟨pw,ca,ces,rfl,h2,h3,h4,h5⟩:=h
 obtain ⟨v',H',s1,s2,s3,s4⟩:=h3.snap conRep_noRefs h4 h5
 have hpw:pw.flat=true:=by rcases h2 with ⟨_,rfl⟩ | ⟨_,_,rfl,_⟩ <;> rfl
 exact ⟨[.str d.nm,pw,v'],H',.cons (.flat rfl _) (.cons (.flat hpw _) (.cons s1 (.nil _))),⟨pw,v',rfl,h2,s2⟩,s3,s4⟩
theorem datas_snap:∀ {l:List DataV} {es:List (List AV)} {H:Heap},es.length=l.length→(∀ (j:Nat) d e,l[j]? = some d→es[j]? = some e→DataPre H d e) →
  ∃ es' H',SnapssIn (5+l.length) es H es' H'∧es'.length=l.length∧(∀ (j:Nat) d e,l[j]? = some d→es'[j]? = some e→DataRep d e)∧Keeps H H'∧KeepS H H'
 | [],[],H,_,_=>⟨[],H,(SnapssIn.nil H).mono (by decide),rfl,fun j d e h=>by simp at h,Keeps.refl H,KeepS.refl H⟩
 | d::l,e::es,H,hl,hp=>by
  obtain ⟨e',H1,s1,s2,s3,s4⟩:=(hp 0 d e rfl rfl).snap
  obtain ⟨es',H2,t1,t2,t3,t4,t5⟩:=datas_snap (l:=l) (es:=es) (H:=H1) (by simpa using hl) (fun j d' e' h1 h2=>(hp (j+1) d' e' (by simpa using h1) (by simpa using h2)).keeps s3)
  refine ⟨e'::es',H2,(SnapssIn.cons s1 t1).mono (by simp only [List.length_cons];omega),by simp [t2],fun j d' e'' h1 h2 => ?_,s3.trans t4,s4.trans t5⟩
  cases j with
  | zero=>simp at h1 h2;exact h1 ▸ h2 ▸ s2
  | succ j=>exact t3 j d' e'' (by simpa using h1) (by simpa using h2)
 | [],_::_,_,hl,_=>by simp at hl
 | _::_,[],_,hl,_=>by simp at hl
theorem c31 {l:List DataV} {v:AV} (hv:SlR DataRep 3 l v) (hsl:SmL 1048577 l):∃ w,SlR DataRep 3 l w∧∀ h,doCall MX (callW MX) 31 [v] h=some (.ret w,h):=by
 have hb5:=bef_31_5
 simp [opsF,opsAt,Tryz.f31] at hb5
 have hb10:=bef_31_10
 simp [opsF,opsAt,Tryz.f31] at hb10
 obtain ⟨e,st,hlp,hq⟩:=loop_up (M:=MX) (fid:=31) (N:=60) (C:=callW MX) (c:=loopC Tryz.f31 0) (n:=l.length)
  (fun i (b:AV×Heap×List (List AV))=>([(0,v),(3,b.1),(4,.int .i64 i)],b.2.1))
  (fun i b=>AccIn 3 0 b.2.1 b.1 b.2.2∧b.2.2.length=(l.take i).length∧∀ (j:Nat) t e,(l.take i)[j]? = some t→b.2.2[j]? = some e→DataPre b.2.1 t e)
  (fun r=>∃ b:AV×Heap×List (List AV),r=(.ext 0,([(0,v),(3,b.1),(4,.int .i64 l.length),(11,.bool false)],b.2.1)) ∧
    AccIn 3 0 b.2.1 b.1 b.2.2∧b.2.2.length=l.length∧∀ (j:Nat) t e,l[j]? = some t→b.2.2[j]? = some e→DataPre b.2.1 t e) (fun i b hi hI=>by
    obtain ⟨a,pre,es⟩:=b
    obtain ⟨i1,i2,i3⟩:=hI
    simp only at i1 i2 i3
    obtain ⟨e,he,hR⟩:=hv.ix hi
    have hi':=lt_cast hi
    have hw:=wr_next hi hsl.1
    have hsd:=hsl.2 _ (List.getElem_mem hi)
    obtain ⟨s1,s2,s3,s4,s5⟩:=hsd
    obtain ⟨pv,cv,rfl,hp,hc⟩:=hR.dest
    obtain ⟨pw,hpw,h80⟩:=c80 hp s2
    obtain ⟨e2,st2,hlp2,hq2⟩:=loop_up (M:=MX) (fid:=31) (N:=60) (C:=callW MX) (c:=loopC Tryz.f31 1) (n:=l[i].cons.length)
     (fun k (b:AV×Heap×List (List AV))=>([(0,v),(3,a),(4,.int .i64 i),(5,.hp pre.length 0),(6,.int .i64 k)],pre++Blk.var false [AV.str l[i].nm,pw,b.1]::b.2.1))
     (fun k b=>AccIn 2 (pre.length+1) b.2.1 b.1 b.2.2∧b.2.2.length=(l[i].cons.take k).length∧∀ (j:Nat) t e,(l[i].cons.take k)[j]? = some t→b.2.2[j]? = some e→ConRep t e)
     (fun r=>∃ b:AV×Heap×List (List AV),r=(.ext 2,([(0,v),(3,a),(4,.int .i64 i),(5,.hp pre.length 0),(6,.int .i64 l[i].cons.length),(33,.bool false)],pre++Blk.var false [AV.str l[i].nm,pw,b.1]::b.2.1)) ∧
       AccIn 2 (pre.length+1) b.2.1 b.1 b.2.2∧b.2.2.length=l[i].cons.length∧∀ (j:Nat) t e,l[i].cons[j]? = some t→b.2.2[j]? = some e→ConRep t e) (fun k b hk hK=>by
       obtain ⟨ca,rest,ces⟩:=b
       obtain ⟨k1,k2,k3⟩:=hK
       simp only at k1 k2 k3
       obtain ⟨e',he',hR'⟩:=hc.ix hk
       have hk':=lt_cast hk
       have hwk:=wr_next hk s4
       have hsc:=s5 _ (List.getElem_mem hk)
       obtain ⟨fv,rfl,hf⟩:=hR'.dest
       obtain ⟨fw,hfw,h81⟩:=c81 hf hsc.2.1 (fun f hf=>(hsc.2.2 f hf).2)
       have hcr:ConRep l[i].cons[k] [.str l[i].cons[k].nm,fw]:=⟨fw,rfl,hfw⟩
       obtain ⟨j1,j2⟩:=rep_push k2 k3 hcr
       rw [take_push hk] at j1 j2
       have hlen:ces.length<16777215:=by rw [k2,List.length_take];exact Nat.lt_of_le_of_lt (Nat.min_le_right _ _) (Nat.lt_of_lt_of_le s4 (by decide))
       have k1':=k1.grow [Blk.var false [AV.str l[i].cons[k].nm,fv]]
       have hPl:(pre++[Blk.var false [AV.str l[i].nm,pw,ca]]).length=pre.length+1:=by simp
       obtain ⟨ca',rest',hap,hacc⟩:=AccIn.push (byt:=40) (P:=pre++[Blk.var false [AV.str l[i].nm,pw,ca]]) [.str l[i].cons[k].nm,fw] true (by rw [hPl];exact k1') (by decide) (by decide) hlen
       rw [hPl] at hacc
       simp only [List.append_assoc,List.cons_append,List.nil_append] at hap
       exact .inl ⟨(ca',rest',ces++[[.str l[i].cons[k].nm,fw]]),by simp [Tryz.f31,hv.len,hi',he,hc.len,hk',he',h81,bsA,fillE,List.replicate,hap,hwk,hb10,noRefs,AV.noRef,hf.noRef,hfw.noRef,hfw.cells,hacc.cells],hacc,j1,j2⟩) (fun b hK=>by
       obtain ⟨ca,rest,ces⟩:=b
       obtain ⟨k1,k2,k3⟩:=hK
       rw [List.take_length] at k2 k3
       exact ⟨_,_,by simp [Tryz.f31,hi',he,hc.len] <;> first | exact ⟨rfl,rfl⟩ | rfl,by simp,(ca,rest,ces),rfl,k1,k2,k3⟩) (.nils,[],[]) ⟨.nil _ _ _,by simp,fun j t e h=>by simp at h⟩
    obtain ⟨⟨ca,rest,ces⟩,hq2,k1,k2,k3⟩:=hq2
    cases hq2
    simp [Tryz.f31] at hlp2
    have hpl:ces.length=l[i].cons.length:=k2
    have hlen:es.length<16777215:=by rw [i2];exact Nat.lt_of_le_of_lt (List.length_take_le _ _) (by have:=hsl.1;omega)
    -- the whole heap behind the loop
    have hca:AccL 2 (pre++Blk.var false [AV.str l[i].nm,pw,ca]::rest) ca ces:=by
     rcases k1 with h | ⟨j,h0,h1,h2⟩
     ·exact .inl h
     ·exact .inr ⟨pre.length+1+j,false,h0,h1,by rw [List.getElem?_append_right (by omega),show pre.length+1+j - pre.length=j+1 by omega];simpa using h2⟩
    have keepG:∀ (A L:Heap),Keeps A (A++L):=fun A L id sz lk es h _=>⟨lk,get_app h L⟩
    have fin:∀ (H:Heap) (x:AV),Keeps (pre++Blk.var false [AV.str l[i].nm,pw,ca]::rest) H→AccIn 3 0 H a es→rdElems H x=some [[AV.str l[i].nm,pw,ca]]→szOk 3 x=true→(∀ b,x≠.str b) →
      ∃ a' H',apA 3 64 a x H=some (a',H')∧AccIn 3 0 H' a' (es++[[AV.str l[i].nm,pw,ca]])∧(es++[[AV.str l[i].nm,pw,ca]]).length=(l.take (i+1)).length∧∀ (j:Nat) t e,(l.take (i+1))[j]? = some t→(es++[[AV.str l[i].nm,pw,ca]])[j]? = some e→DataPre H' t e:=by
     intro H x hk hacc hrd hsz hst
     obtain ⟨a',H',h1,h2,h3⟩:=pushsF (byt:=64) hacc hrd hsz hst (by simp) (by decide) (by decide) (by simp;omega)
     have e0:DataPre (pre++Blk.var false [AV.str l[i].nm,pw,ca]::rest) l[i] [AV.str l[i].nm,pw,ca]:=⟨pw,ca,ces,rfl,hpw,hca,k2,k3⟩
     obtain ⟨j1,j2⟩:=rep_push (R:=DataPre (pre++Blk.var false [AV.str l[i].nm,pw,ca]::rest)) i2 (fun j t e g1 g2=>(i3 j t e g1 g2).keeps (keepG _ _)) e0
     rw [take_push hi] at j1 j2
     have keepP:∀ t e,DataPre H t e→DataPre H' t e:=fun t e h=>by
      obtain ⟨q1,q2,q3,q4,q5,q6,q7,q8⟩:=h
      refine ⟨q1,q2,q3,q4,q5,?_,q7,q8⟩
      rcases q6 with h | ⟨id,lk,g0,g1,g2⟩
      ·exact .inl h
      ·exact .inr ⟨id,lk,g0,g1,h3 id _ g2 (fun lk' es' e=>by cases e)⟩
     exact ⟨a',H',h1,h2,j1,fun j t e g1 g2=>keepP t e ((j2 j t e g1 g2).keeps hk)⟩
    have i1':=i1.grow (Blk.var false [AV.str l[i].nm,pw,ca]::rest)
    cases hna:ca.noRef with
    | true=>
     obtain ⟨a',H',f1,f2,f3,f4⟩:=fin _ (.sl 3 true [[AV.str l[i].nm,pw,ca]]) (Keeps.refl _) i1' rfl (by simp [szOk,elemSz]) (fun b h=>by cases h)
     exact .inl ⟨(a',H',es++[[AV.str l[i].nm,pw,ca]]),by simp [Tryz.f31,hv.len,hi',he,h80,hpw.cells,hb5,noRefs,AV.noRef,hp.noRef,hpw.noRef,hna,hlp2,bsA,fillE,List.replicate,f1,hw],f2,f3,f4⟩
    | false=>
     obtain ⟨a',H',f1,f2,f3,f4⟩:=fin ((pre++Blk.var false [AV.str l[i].nm,pw,ca]::rest)++[Blk.arr 3 false [[AV.str l[i].nm,pw,ca]]]) (.hs (pre++Blk.var false [AV.str l[i].nm,pw,ca]::rest).length 1 3 0 1 false) (keepG _ _) (by have:=i1.grow ((Blk.var false [AV.str l[i].nm,pw,ca]::rest)++[Blk.arr 3 false [[AV.str l[i].nm,pw,ca]]]);rwa [← List.append_assoc] at this)
      (by simp only [rdElems,get_last];simp) (by simp [szOk,elemSz]) (fun b h=>by cases h)
     simp at f1
     exact .inl ⟨(a',H',es++[[AV.str l[i].nm,pw,ca]]),by simp [Tryz.f31,hv.len,hi',he,h80,hpw.cells,hb5,noRefs,AV.noRef,hp.noRef,hpw.noRef,hna,hlp2,bsA,fillE,List.replicate,newArr,f1,hw],f2,f3,f4⟩) (fun b hI=>by
    obtain ⟨a,rest,es⟩:=b
    obtain ⟨i1,i2,i3⟩:=hI
    rw [List.take_length] at i2 i3
    exact ⟨_,_,by simp [Tryz.f31,hv.len] <;> first | exact ⟨rfl,rfl⟩ | rfl,by simp,(a,rest,es),rfl,i1,i2,i3⟩) (.nils,[],[]) ⟨.nil _ _ _,by simp,fun j t e h=>by simp at h⟩
 obtain ⟨⟨a,rest,es⟩,hq,i1,i2,i3⟩:=hq
 cases hq
 simp [Tryz.f31] at hlp
 have hrun:runW MX 31 [v] []=some (.ret a,rest):=by simp [runW,Tryz.f31,hlp]
 simp only at i1 i2 i3
 rcases i1 with ⟨h0,rfl⟩ | ⟨j,h0,rfl,h2⟩
 ·have:l=[]:=List.eq_nil_of_length_eq_zero (by rw [← i2,h0];rfl)
  exact ⟨.nils,.inl ⟨this,rfl⟩,fun h=>pureX mode_31 eff_31 (by simp [hv.noRef]) rfl hrun h⟩
 ·obtain ⟨es',H',s1,s2,s3,s4,s5⟩:=datas_snap i2 i3
  simp only [Nat.zero_add] at hrun
  have hjl:=(List.getElem?_eq_some_iff.1 h2).1
  by_cases hall:es.all noRefs=true
  ·have hacc:AccIn 3 ([]:Heap).length rest (.hs j es.length 3 0 es.length false) es:=.inr ⟨j,h0,by simp,h2⟩
   -- nothing in it leads to blocks
   have hrep:∀ (k:Nat) d e,l[k]? = some d→es[k]? = some e→DataRep d e:=fun k d e g1 g2=>by
    obtain ⟨pw,ca,ces,rfl,q1,q2,q3,q4⟩:=i3 k d e g1 g2
    have hne:noRefs [AV.str d.nm,pw,ca]=true:=List.all_eq_true.1 hall _ (List.mem_of_getElem? g2)
    rcases q2 with ⟨q5,rfl⟩ | ⟨_,_,_,rfl,_⟩
    ·exact ⟨pw,.nils,rfl,q1,.inl ⟨List.eq_nil_of_length_eq_zero (by rw [← q3,q5];rfl),rfl⟩⟩
    ·simp [noRefs,AV.noRef] at hne
   exact ⟨_,AccIn.rep i2 hrep false,fun h=>pureS mode_31 eff_31 (by simp [hv.noRef]) rfl (hacc.snap (n:=9999999) hall h0) rfl hrun h⟩
  ·obtain ⟨lk2,es2,hk2,hkl⟩:=s5 j 3 false es h2
   refine ⟨_,AccIn.rep s2 s3 false,fun h=>pureS mode_31 eff_31 (by simp [hv.noRef]) rfl (hr':=H'.set j (.arr 3 true es')) ?_ rfl hrun h⟩
   have hse:snapss (snapN - 1) es rest=some (es',H'):=by
    have h9:=(s1.mono (show 5+l.length≤snapN - 1 by have:=hsl.1;simp only [snapN];omega)) 0
    rwa [Nat.zero_add] at h9
   have ha:es.all noRefs=false:=by simpa using hall
   have hb1:(Nat.beq es.length es.length&&Nat.beq 3 3&&Nat.ble (0+es.length) es.length&&es.all noRefs)=false:=by simp [ble_d,ha]
   have hb2:(Nat.beq es.length es.length&&Nat.beq 3 3&&Nat.ble (0+es.length) es.length)=true:=by simp [ble_d]
   have hb3:(Nat.beq 3 3&&Nat.beq es2.length es.length)=true:=by rw [hkl];simp
   have hl':es'.length=es.length:=by rw [s2,i2]
   clear hb5 hb10 hlp
   show snap ((snapN - 1)+1) _ _=_
   simp only [snap,h2,hb1,hb2,hse,hk2,hb3]
   rw [← hl']
   simp [ha]
mutual
def repl (params:List Bytes) (args:List TyV):TyV→TyV
 | .mk k v nm ps=>match (if k=0 then params.findIdx? (fun x=>x == nm) else none) with
  | some i=>args.getD i default
  | none=> .mk k v nm (repls params args ps)
def repls (params:List Bytes) (args:List TyV):List TyV→List TyV
 | []=>[]
 | p::r=>repl params args p::repls params args r
end
theorem repls_map (params:List Bytes) (args:List TyV):∀ ps,repls params args ps=ps.map (repl params args)
 | []=>rfl
 | p::r=>by simp [repls,repls_map params args r]
theorem repl_sm {b:Nat} {params:List Bytes} {args:List TyV} (ha:∀ a∈args,Sm b a) (h0:0<b) (t:TyV):Sm b t→Sm b (repl params args t):=by
 induction t using TyV.ind with
 | h k v nm ps ih=>
  intro hs
  obtain ⟨s1,s2,s3⟩:=hs.dest
  simp only [repl]
  split
  ·rename_i i _
   rw [List.getD_eq_getElem?_getD]
   cases hi:args[i]? with
   | none=>exact .mk default default default default h0 h0 (fun p hp=>by cases hp)
   | some a=>exact ha a (List.mem_of_getElem? hi)
  ·rw [repls_map]
   exact .mk k v nm _ s1 (by simpa using s2) (fun p hp=>by
    obtain ⟨q,hq,rfl⟩:=List.mem_map.1 hp
    exact ih q hq (s3 q hq))
theorem c119 {params:List Bytes} {pr:AV} (hpr:SlR StrRep 1 params pr) (hpl:params.length<1048577) {args:List TyV} {av:AV} (har:SlR TyRep 4 args av) (has:∀ a∈args,Sm 1048577 a) (hpa:params.length≤args.length) (t:TyV) :
  ∀ (xs:List AV),TyRep t xs→Sm 1048577 t→∃ ys,TyRep (repl params args t) ys∧∀ h,doCall MX (callW MX) 119 [.agg xs,pr,av] h=some (.ret (.agg ys),h):=by
 induction t using TyV.ind with
 | h k v nm ps ih=>
  intro xs hx hs
  have hn:([AV.agg xs,pr,av]:List AV).all AV.noRef=true:=by simp [AV.noRef,hx.noRefs,hpr.noRef,har.noRef]
  obtain ⟨pv,rfl,hp⟩:=hx.dest
  obtain ⟨s1,s2,s3⟩:=hs.dest
  have hb5:=bef_119_5
  simp [opsF,opsAt,Tryz.f119] at hb5
  have hb:=bef_119_12
  simp [opsF,opsAt,Tryz.f119] at hb
  -- the parts
  obtain ⟨e,st,hlp,hq⟩:=loop_up (M:=MX) (fid:=119) (N:=54) (C:=callW MX) (c:=loopC Tryz.f119 1) (n:=ps.length)
   (fun i (b:AV×Heap×List (List AV))=>([(1,pr),(2,av),(3,.hp 0 0),(6,.hp 1 0),(8,.hp 2 0),(9,.int .i64 i)],Blk.var false [AV.int .i64 k,AV.int .i64 v,AV.str nm,pv]::Blk.var false [AV.int .i64 0,AV.int .i64 0,AV.str [],AV.nils]::Blk.var false [AV.int .i64 k,AV.int .i64 v,AV.str nm,b.1]::b.2.1))
   (fun i b=>AccIn 4 3 b.2.1 b.1 b.2.2∧b.2.2.length=((ps.map (repl params args)).take i).length∧∀ (j:Nat) t e,((ps.map (repl params args)).take i)[j]? = some t→b.2.2[j]? = some e→TyRep t e)
   (fun r=>∃ b:AV×Heap×List (List AV),r=(.ext 2,([(1,pr),(2,av),(3,.hp 0 0),(6,.hp 1 0),(8,.hp 2 0),(9,.int .i64 ps.length),(37,.bool false)],Blk.var false [AV.int .i64 k,AV.int .i64 v,AV.str nm,pv]::Blk.var false [AV.int .i64 0,AV.int .i64 0,AV.str [],AV.nils]::Blk.var false [AV.int .i64 k,AV.int .i64 v,AV.str nm,b.1]::b.2.1)) ∧
     AccIn 4 3 b.2.1 b.1 b.2.2∧b.2.2.length=(ps.map (repl params args)).length∧∀ (j:Nat) t e,(ps.map (repl params args))[j]? = some t→b.2.2[j]? = some e→TyRep t e) (fun i b hi hI=>by
     obtain ⟨a,rest,es⟩:=b
     obtain ⟨i1,i2,i3⟩:=hI
     simp only at i1 i2 i3
     obtain ⟨e,he,hR⟩:=hp.ix hi
     have hi':=lt_cast hi
     have hw:=wr_next hi s2
     have him:i<(ps.map (repl params args)).length:=by simpa using hi
     obtain ⟨ys,hys,hcall⟩:=ih ps[i] (List.getElem_mem hi) e hR (s3 _ (List.getElem_mem hi))
     have hys':TyRep (ps.map (repl params args))[i] ys:=by simpa using hys
     obtain ⟨j1,j2⟩:=rep_push i2 i3 hys'
     rw [take_push him] at j1 j2
     have hlen:es.length<16777215:=by rw [i2,List.length_take,List.length_map];exact Nat.lt_of_le_of_lt (Nat.min_le_right _ _) (Nat.lt_of_lt_of_le s2 (by decide))
     obtain ⟨a',rest',hap,hacc⟩:=AccIn.push (byt:=56) (P:=[Blk.var false [AV.int .i64 k,AV.int .i64 v,AV.str nm,pv],Blk.var false [AV.int .i64 0,AV.int .i64 0,AV.str [],AV.nils],Blk.var false [AV.int .i64 k,AV.int .i64 v,AV.str nm,a]]) ys true i1 (by decide) (by decide) hlen
     simp only [List.cons_append,List.nil_append] at hap
     have hyn:=hys.noRefs
     have hyl:=hys.len
     obtain ⟨qv,rfl,hqv⟩:=hR.dest'
     exact .inl ⟨(a',rest',es++[ys]),by simp [Tryz.f119,hp.len,hi',he,hcall,bsA,fillE,List.replicate,hyl,hyn,hap,hacc.cells,hw,hb,noRefs,AV.noRef,hqv.noRef,hpr.noRef,har.noRef],hacc,j1,j2⟩) (fun b hI=>by
     obtain ⟨a,rest,es⟩:=b
     obtain ⟨i1,i2,i3⟩:=hI
     rw [List.take_of_length_le (by simp)] at i2 i3
     exact ⟨_,_,by simp [Tryz.f119,hp.len] <;> first | exact ⟨rfl,rfl⟩ | rfl,by simp,(a,rest,es),rfl,i1,i2,i3⟩) (.nils,[],[]) ⟨.nil _ _ _,by simp,fun j t e h=>by simp at h⟩
  obtain ⟨⟨a,rest,es⟩,hq,i1,i2,i3⟩:=hq
  cases hq
  simp [Tryz.f119] at hlp
  obtain ⟨v',rest',hsn,hrep,heq⟩:=acc_end (P:=[Blk.var false [AV.int .i64 k,AV.int .i64 v,AV.str nm,pv],Blk.var false [AV.int .i64 k,AV.int .i64 v,AV.str nm,a],Blk.var false [AV.int .i64 k,AV.int .i64 v,AV.str nm,a]]) (fun a e h=>TyRep.noRefs h) i1 i2 i3
  have fin:∀ (hrun:runW MX 119 [.agg [.int .i64 k,.int .i64 v,.str nm,pv],pr,av] []=some (.ret (.agg [.int .i64 k,.int .i64 v,.str nm,a]),[Blk.var false [AV.int .i64 k,AV.int .i64 v,AV.str nm,pv],Blk.var false [AV.int .i64 k,AV.int .i64 v,AV.str nm,a],Blk.var false [AV.int .i64 k,AV.int .i64 v,AV.str nm,a]]++rest)) h,
    doCall MX (callW MX) 119 [.agg [.int .i64 k,.int .i64 v,.str nm,pv],pr,av] h=some (.ret (.agg [.int .i64 k,.int .i64 v,.str nm,v']),h):=fun hrun h=>by
   cases hna:a.noRef with
   | true=>
    have:=heq hna
    subst this
    exact pureX mode_119 eff_119 hn (by simp [AV.noRef,noRefs,hna]) hrun h
   | false=>
    exact pureS mode_119 eff_119 hn (by simp [AV.noRef,noRefs,hna]) ((SnapIn.agg (by simp [noRefs,AV.noRef,hna]) (.cons (.flat rfl _) (.cons (.flat rfl _) (.cons (.flat rfl _) (.cons hsn (.nil _)))))).at (by decide)) (by simp [AV.noRef,noRefs,hrep.noRef]) hrun h
  by_cases hk:k=0
  ·subst hk
   -- the parameters
   obtain ⟨e2,st2,hlp2,hq2⟩:=loop_up (M:=MX) (fid:=119) (N:=54) (C:=callW MX) (c:=loopC Tryz.f119 0) (n:=params.length)
    (fun i (_:Unit)=>([(1,pr),(2,av),(3,.hp 0 0),(6,.hp 1 0),(7,.int .i64 i)],[Blk.var false [AV.int .i64 0,AV.int .i64 v,AV.str nm,pv],Blk.var false [AV.int .i64 0,AV.int .i64 0,AV.str [],AV.nils]]))
    (fun i _=>∀ j (hj:j<params.length),j<i→(fun x:Bytes=>x == nm) params[j]=false)
    (fun r=>(r=(.ext 0,([(1,pr),(2,av),(3,.hp 0 0),(6,.hp 1 0),(7,.int .i64 params.length),(16,.bool false)],[Blk.var false [AV.int .i64 0,AV.int .i64 v,AV.str nm,pv],Blk.var false [AV.int .i64 0,AV.int .i64 0,AV.str [],AV.nils]]))∧params.findIdx? (fun x=>x == nm)=none) ∨
      ∃ (i:Nat) (ys:List AV),r=(.ret,([(6,.hp 1 0)],[Blk.var false [AV.int .i64 0,AV.int .i64 v,AV.str nm,pv],Blk.var false ys]))∧params.findIdx? (fun x=>x == nm)=some i∧TyRep (args.getD i default) ys) (fun i b hi hI=>by
      obtain ⟨e,he,hR⟩:=hpr.ix hi
      have hi':=lt_cast hi
      have hw:=wr_next hi hpl
      cases hR
      cases hx:(params[i] == nm) with
      | false=>exact .inl ⟨(),by simp [Tryz.f119,hpr.len,hi',he,hx,hw],fi_step (p:=fun x:Bytes=>x == nm) hi hI hx⟩
      | true=>
       have hia:i<args.length:=by omega
       obtain ⟨e3,he3,hR3⟩:=har.ix hia
       obtain ⟨ys,hys,hcall⟩:=c142 args[i] e3 hR3 (has _ (List.getElem_mem hia))
       obtain ⟨qv,rfl,hqv⟩:=hR3.dest'
       have hgd:TyRep (args.getD i default) ys:=by simpa [hia] using hys
       obtain ⟨qy,rfl,hqy⟩:=hys.dest'
       exact .inr ⟨_,_,by simp [Tryz.f119,hpr.len,hi',he,hx,he3,hcall] <;> first | exact ⟨rfl,rfl⟩ | rfl,by simp,.inr ⟨i,_,rfl,fi_some (p:=fun x:Bytes=>x == nm) hi hI hx,hgd⟩⟩) (fun b hI=>by
      exact ⟨_,_,by simp [Tryz.f119,hpr.len] <;> first | exact ⟨rfl,rfl⟩ | rfl,by simp,.inl ⟨rfl,fi_none (p:=fun x:Bytes=>x == nm) fun j hj=>hI j hj hj⟩⟩) () (fun j _ h0=>by omega)
   simp [Tryz.f119] at hlp2
   rcases hq2 with ⟨hq2,hf⟩ | ⟨i,ys,hq2,hf,hys⟩ <;> cases hq2
   ·refine ⟨_,?_,fin (by simp [runW,Tryz.f119,hlp2,hlp,resA])⟩
    simp only [repl,hf,if_true,repls_map]
    exact TyRep.intro hrep
   ·refine ⟨ys,by simpa [repl,hf] using hys,fun h => ?_⟩
    obtain ⟨qy,rfl,hqy⟩:=hys.dest'
    exact pureX mode_119 eff_119 hn (by simp [AV.noRef,noRefs,hqy.noRef]) (hr:=[Blk.var false [AV.int .i64 0,AV.int .i64 v,AV.str nm,pv],Blk.var false [.int .i64 (args.getD i default).k,.int .i64 (args.getD i default).v,.str (args.getD i default).nm,qy]]) (by simp [runW,Tryz.f119,hlp2,resA]) h
  ·have hk':(k == 0)=false:=by simp [hk]
   refine ⟨_,?_,fin (by simp [runW,Tryz.f119,hk',hk,hlp,resA])⟩
   simp only [repl,hk,if_false,repls_map]
   exact TyRep.intro hrep
theorem pres_snap {α:Type} {Pre:Heap→α→List AV→Prop} {Rep:α→List AV→Prop} {K:Nat} (hs:∀ H d e,Pre H d e→∃ e' H',SnapsIn K e H e' H'∧Rep d e'∧Keeps H H'∧KeepS H H') (hk:∀ H H' d e,Pre H d e→Keeps H H'→Pre H' d e) :
  ∀ {l:List α} {es:List (List AV)} {H:Heap},es.length=l.length→(∀ (j:Nat) d e,l[j]? = some d→es[j]? = some e→Pre H d e) →
  ∃ es' H',SnapssIn (K+1+l.length) es H es' H'∧es'.length=l.length∧(∀ (j:Nat) d e,l[j]? = some d→es'[j]? = some e→Rep d e)∧Keeps H H'∧KeepS H H'
 | [],[],H,_,_=>⟨[],H,(SnapssIn.nil H).mono (by omega),rfl,fun j d e h=>by simp at h,Keeps.refl H,KeepS.refl H⟩
 | d::l,e::es,H,hl,hp=>by
  obtain ⟨e',H1,s1,s2,s3,s4⟩:=hs _ _ _ (hp 0 d e rfl rfl)
  obtain ⟨es',H2,t1,t2,t3,t4,t5⟩:=pres_snap hs hk (l:=l) (es:=es) (H:=H1) (by simpa using hl) (fun j d' e' h1 h2=>hk _ _ _ _ (hp (j+1) d' e' (by simpa using h1) (by simpa using h2)) s3)
  refine ⟨e'::es',H2,(SnapssIn.cons s1 t1).mono (by simp only [List.length_cons];omega),by simp [t2],fun j d' e'' h1 h2 => ?_,s3.trans t4,s4.trans t5⟩
  cases j with
  | zero=>simp at h1 h2;exact h1 ▸ h2 ▸ s2
  | succ j=>exact t3 j d' e'' (by simpa using h1) (by simpa using h2)
 | [],_::_,_,hl,_=>by simp at hl
 | _::_,[],_,hl,_=>by simp at hl
theorem outer_snap {α:Type} {Pre:Heap→α→List AV→Prop} {Rep:α→List AV→Prop} {K sz:Nat} (hs:∀ H d e,Pre H d e→∃ e' H',SnapsIn K e H e' H'∧Rep d e'∧Keeps H H'∧KeepS H H') (hk:∀ H H' d e,Pre H d e→Keeps H H'→Pre H' d e) (hnr:∀ H d e,Pre H d e→noRefs e=true→Rep d e)
  {l:List α} {es:List (List AV)} {H:Heap} {a:AV} (h1:AccL sz H a es) (hl:es.length=l.length) (hp:∀ (j:Nat) d e,l[j]? = some d→es[j]? = some e→Pre H d e) :
  ∃ v' H',SnapIn (K+2+l.length) a H v' H'∧SlR Rep sz l v'∧(a.noRef=true→a=v'):=by
 rcases h1 with ⟨h0,rfl⟩ | ⟨j,lk,h0,rfl,h2⟩
 ·exact ⟨.nils,H,fun n=>by rw [show n+(K+2+l.length)=(n+(K+1+l.length))+1 by omega];rfl,.inl ⟨List.eq_nil_of_length_eq_zero (by rw [← hl,h0];rfl),rfl⟩,fun _=>rfl⟩
 ·by_cases hall:es.all noRefs=true
  ·have hrep:∀ (k:Nat) d e,l[k]? = some d→es[k]? = some e→Rep d e:=fun k d e g1 g2=>hnr _ _ _ (hp k d e g1 g2) (List.all_eq_true.1 hall _ (List.mem_of_getElem? g2))
   refine ⟨.sl sz false es,H.set j (.arr sz true es),fun n => ?_,AccIn.rep hl hrep false,fun hh=>by cases hh⟩
   have hb:(Nat.beq es.length es.length&&Nat.beq sz sz&&Nat.ble (0+es.length) es.length&&es.all noRefs)=true:=by simp [ble_d,hall]
   rw [show n+(K+2+l.length)=(n+(K+1+l.length))+1 by omega]
   simp only [Am.snap,h2,hb]
   simp
  ·obtain ⟨es',H',s1,s2,s3,s4,s5⟩:=pres_snap hs hk hl hp
   obtain ⟨lk2,es2,hk2,hkl⟩:=s5 j sz lk es h2
   refine ⟨.sl sz false es',H'.set j (.arr sz true es'),fun n => ?_,AccIn.rep s2 s3 false,fun hh=>by cases hh⟩
   have hse:=s1 n
   have ha:es.all noRefs=false:=by simpa using hall
   have hb1:(Nat.beq es.length es.length&&Nat.beq sz sz&&Nat.ble (0+es.length) es.length&&es.all noRefs)=false:=by rw [ha,Bool.and_false]
   have hb2:(Nat.beq es.length es.length&&Nat.beq sz sz&&Nat.ble (0+es.length) es.length)=true:=by simp [ble_d]
   have hb3:(Nat.beq sz sz&&Nat.beq es2.length es.length)=true:=by rw [hkl,Nat.beq_refl,Nat.beq_refl];rfl
   have hl':es'.length=es.length:=by rw [s2,hl]
   rw [show n+(K+2+l.length)=(n+(K+1+l.length))+1 by omega]
   simp only [snap,h2,hb1,hb2,hse,hk2,hb3]
   rw [← hl']
   simp [ha]
def ConPre (H:Heap) (c:ConV) (e:List AV):Prop:=∃ fa fes,e=[.str c.nm,fa]∧AccL 5 H fa fes∧fes.length=c.fields.length∧∀ (j:Nat) t e,c.fields[j]? = some t→fes[j]? = some e→FieldRep t e
theorem ConPre.keeps {H H':Heap} {d:ConV} {e:List AV} (h:ConPre H d e) (k:Keeps H H'):ConPre H' d e:=by
 obtain ⟨ca,ces,h1,h3,h4,h5⟩:=h
 exact ⟨ca,ces,h1,h3.keeps (reps_noRefs h4 h5 fieldRep_noRefs) k,h4,h5⟩
theorem ConPre.snap {H:Heap} {d:ConV} {e:List AV} (h:ConPre H d e):∃ e' H',SnapsIn 3 e H e' H'∧ConRep d e'∧Keeps H H'∧KeepS H H':=by
 obtain ⟨ca,ces,rfl,h3,h4,h5⟩:=h
 obtain ⟨v',H',s1,s2,s3,s4⟩:=h3.snap fieldRep_noRefs h4 h5
 exact ⟨[.str d.nm,v'],H',.cons (.flat rfl _) (.cons s1 (.nil _)),⟨v',rfl,s2⟩,s3,s4⟩
theorem ConPre.noRef {H:Heap} {d:ConV} {e:List AV} (h:ConPre H d e) (hn:noRefs e=true):ConRep d e:=by
 obtain ⟨ca,ces,rfl,q2,q3,q4⟩:=h
 rcases q2 with ⟨q5,rfl⟩ | ⟨_,_,_,rfl,_⟩
 ·exact ⟨.nils,rfl,.inl ⟨List.eq_nil_of_length_eq_zero (by rw [← q3,q5];rfl),rfl⟩⟩
 ·simp [noRefs,AV.noRef] at hn
theorem tPower (n:Int) (h0:0≤n) (h1:n≤62) (h:Heap):runW MX 67 [.int .i64 n] h=some (.ret (.int .i64 ((2 ^ n.toNat:Nat):Int)),h):=by
 have hm:min n.toNat 64=n.toNat:=by omega
 have hp:(2:Nat) ^ n.toNat≤2 ^ 62:=Nat.pow_le_pow_right (by decide) (by omega)
 have hp':(2:Nat) ^ n.toNat<9223372036854775808:=Nat.lt_of_le_of_lt hp (by decide)
 have hw:wr .i64 ((2 ^ n.toNat:Nat):Int)=((2 ^ n.toNat:Nat):Int):=wr_i64 (Int.natCast_nonneg _) (Int.ofNat_lt.2 hp')
 have hn:¬ n<0:=by omega
 have hs:shiftBin .shl .i64 1 n=some (.int .i64 ((2 ^ n.toNat:Nat):Int)):=by
  simp only [shiftBin,decide_eq_false hn,IntKind.bits,hm,Int.one_mul,hw]
 simp [runW,Tryz.f67,hs]
theorem c67 (n:Int) (h0:0≤n) (h1:n≤62) (h:Heap):doCall MX (callW MX) 67 [.int .i64 n] h=some (.ret (.int .i64 ((2 ^ n.toNat:Nat):Int)),h):=pureX mode_67 eff_67 rfl rfl (tPower n h0 h1 []) h
def replC (params:List Bytes) (args:List TyV) (c:ConV):ConV:=⟨c.nm,c.fields.map fun f=>⟨f.nm,repl params args f.ty⟩⟩
def consOf (l:List DataV) (t:TyV):List ConV:=
 if t.nm == boolS then [⟨falseS,[]⟩,⟨trueS,[]⟩] else match l.findIdx? (fun d=>d.nm == t.nm) with
  | some i=>(l.getD i default).cons.map (replC (l.getD i default).params t.ps)
  | none=>[]
def HasC (l:List DataV) (t:TyV):Prop:=(t.nm == boolS)=true∨∃ i,l.findIdx? (fun d=>d.nm == t.nm)=some i∧(l.getD i default).params.length≤t.ps.length
theorem AccIn.toL {sz:Nat} {P rest:Heap} {a:AV} {es:List (List AV)} (h:AccIn sz P.length rest a es):AccL sz (P++rest) a es:=by
 rcases h with h | ⟨j,h0,h1,h2⟩
 ·exact .inl h
 ·exact .inr ⟨P.length+j,false,h0,h1,by rw [List.getElem?_append_right (by omega)];simpa using h2⟩
theorem keepG (A L:Heap):Keeps A (A++L):=fun _ _ lk _ h _=>⟨lk,get_app h L⟩
theorem c68 {l:List DataV} {lv:AV} (hl:SlR DataRep 3 l lv) (hsl:SmL 1048577 l) {t:TyV} {xs:List AV} (hx:TyRep t xs) (hst:Sm 1048577 t) (hc:HasC l t) :
  ∃ w,SlR ConRep 2 (consOf l t) w∧∀ h,doCall MX (callW MX) 68 [lv,.agg xs] h=some (.ret w,h):=by
 have hn:([lv,AV.agg xs]:List AV).all AV.noRef=true:=by simp [AV.noRef,hx.noRefs,hl.noRef]
 have hps:∀ p∈t.ps,Sm 1048577 p:=by cases t;exact hst.dest.2.2
 obtain ⟨pv,rfl,hp⟩:=hx.dest'
 cases hb:(t.nm == boolS) with
 | true=>
  have hb':(t.nm == [66,111,111,108])=true:=hb
  refine ⟨.sl 2 true [[.str falseS,.nils],[.str trueS,.nils]],?_,fun h=>pureX mode_68 eff_68 hn rfl (hr:=[Blk.var false [AV.int .i64 t.k,AV.int .i64 t.v,AV.str t.nm,pv]]) (by simp [runW,Tryz.f68,hb',bsA,fillE,List.replicate,noRefs,AV.noRef,falseS,trueS]) h⟩
  simp only [consOf,hb,if_true]
  exact .inr ⟨true,_,rfl,rfl,fun i a e h1 h2=>by
   match i with
   | 0=>simp at h1 h2;subst h1;subst h2;exact ⟨.nils,rfl,.inl ⟨rfl,rfl⟩⟩
   | 1=>simp at h1 h2;subst h1;subst h2;exact ⟨.nils,rfl,.inl ⟨rfl,rfl⟩⟩
   | i+2=>simp at h1⟩
 | false=>
  have hb':(t.nm == [66,111,111,108])=false:=hb
  rcases hc with hc | ⟨i,hf,hpa⟩
  ·rw [hb] at hc;cases hc
  have hil:=fi_lt hf
  have hD:=c118 t.nm hl hsl.1
  have hgd:l.getD i default=l[i]:=by simp [hil]
  rw [hgd] at hpa
  obtain ⟨de,hde,hdR⟩:=hl.ix hil
  obtain ⟨s1,s2,s3,s4,s5⟩:=hsl.2 _ (List.getElem_mem hil)
  obtain ⟨qv,cv,rfl,hqp,hcv⟩:=hdR.dest
  have hb13:=bef_68_13
  simp [opsF,opsAt,Tryz.f68] at hb13
  let F:=replC l[i].params t.ps
  have hcons:consOf l t=l[i].cons.map F:=by simp only [consOf,hb,hf,hgd];rfl
  -- the constructors
  obtain ⟨e,st,hlp,hq⟩:=loop_up (M:=MX) (fid:=68) (N:=78) (C:=callW MX) (c:=loopC Tryz.f68 0) (n:=l[i].cons.length)
   (fun k (b:AV×Heap×List (List AV))=>([(3,.hp 0 0),(5,.hp 1 0),(6,b.1),(7,.int .i64 k)],Blk.var false [AV.int .i64 t.k,AV.int .i64 t.v,AV.str t.nm,pv]::Blk.var false [AV.str l[i].nm,qv,cv]::b.2.1))
   (fun k b=>AccIn 2 0 (Blk.var false [AV.int .i64 t.k,AV.int .i64 t.v,AV.str t.nm,pv]::Blk.var false [AV.str l[i].nm,qv,cv]::b.2.1) b.1 b.2.2∧b.2.2.length=((l[i].cons.map F).take k).length∧∀ (j:Nat) t' e,((l[i].cons.map F).take k)[j]? = some t'→b.2.2[j]? = some e→ConPre (Blk.var false [AV.int .i64 t.k,AV.int .i64 t.v,AV.str t.nm,pv]::Blk.var false [AV.str l[i].nm,qv,cv]::b.2.1) t' e)
   (fun r=>∃ b:AV×Heap×List (List AV),r=(.ext 0,([(3,.hp 0 0),(5,.hp 1 0),(6,b.1),(7,.int .i64 l[i].cons.length),(28,.bool false)],Blk.var false [AV.int .i64 t.k,AV.int .i64 t.v,AV.str t.nm,pv]::Blk.var false [AV.str l[i].nm,qv,cv]::b.2.1)) ∧
     AccIn 2 0 (Blk.var false [AV.int .i64 t.k,AV.int .i64 t.v,AV.str t.nm,pv]::Blk.var false [AV.str l[i].nm,qv,cv]::b.2.1) b.1 b.2.2∧b.2.2.length=(l[i].cons.map F).length∧∀ (j:Nat) t' e,(l[i].cons.map F)[j]? = some t'→b.2.2[j]? = some e→ConPre (Blk.var false [AV.int .i64 t.k,AV.int .i64 t.v,AV.str t.nm,pv]::Blk.var false [AV.str l[i].nm,qv,cv]::b.2.1) t' e) (fun k b hk hI=>by
     obtain ⟨a,pre,es⟩:=b
     obtain ⟨i1,i2,i3⟩:=hI
     simp only at i1 i2 i3
     obtain ⟨ce,hce,hcR⟩:=hcv.ix hk
     have hk':=lt_cast hk
     have hw:=wr_next hk s4
     have hkm:k<(l[i].cons.map F).length:=by simpa using hk
     have hsc:=s5 _ (List.getElem_mem hk)
     obtain ⟨fv,rfl,hfv⟩:=hcR.dest
     -- its fields
     obtain ⟨e2,st2,hlp2,hq2⟩:=loop_up (M:=MX) (fid:=68) (N:=78) (C:=callW MX) (c:=loopC Tryz.f68 1) (n:=l[i].cons[k].fields.length)
      (fun m (b:AV×Heap×List (List AV))=>([(3,.hp 0 0),(5,.hp 1 0),(6,a),(7,.int .i64 k),(8,.hp (pre.length+1+1) 0),(9,.int .i64 m)],Blk.var false [AV.int .i64 t.k,AV.int .i64 t.v,AV.str t.nm,pv]::Blk.var false [AV.str l[i].nm,qv,cv]::(pre++Blk.var false [AV.str l[i].cons[k].nm,b.1]::b.2.1)))
      (fun m b=>AccIn 5 (pre.length+3) b.2.1 b.1 b.2.2∧b.2.2.length=((F l[i].cons[k]).fields.take m).length∧∀ (j:Nat) t e,((F l[i].cons[k]).fields.take m)[j]? = some t→b.2.2[j]? = some e→FieldRep t e)
      (fun r=>∃ b:AV×Heap×List (List AV),r=(.ext 2,([(3,.hp 0 0),(5,.hp 1 0),(6,a),(7,.int .i64 k),(8,.hp (pre.length+1+1) 0),(9,.int .i64 l[i].cons[k].fields.length),(46,.bool false)],Blk.var false [AV.int .i64 t.k,AV.int .i64 t.v,AV.str t.nm,pv]::Blk.var false [AV.str l[i].nm,qv,cv]::(pre++Blk.var false [AV.str l[i].cons[k].nm,b.1]::b.2.1))) ∧
        AccIn 5 (pre.length+3) b.2.1 b.1 b.2.2∧b.2.2.length=(F l[i].cons[k]).fields.length∧∀ (j:Nat) t e,(F l[i].cons[k]).fields[j]? = some t→b.2.2[j]? = some e→FieldRep t e) (fun m b hm hM=>by
        obtain ⟨fa,rest,fes⟩:=b
        obtain ⟨k1,k2,k3⟩:=hM
        simp only at k1 k2 k3
        obtain ⟨fe,hfe,hfR⟩:=hfv.ix hm
        have hm':=lt_cast hm
        have hwm:=wr_next hm hsc.2.1
        have hmm:m<(F l[i].cons[k]).fields.length:=by simpa [F,replC] using hm
        have hsf:=hsc.2.2 _ (List.getElem_mem hm)
        obtain ⟨tx,rfl,htx⟩:=hfR
        obtain ⟨ys,hys,hcall⟩:=c119 hqp s2 hp hps hpa l[i].cons[k].fields[m].ty tx htx hsf.2
        have hfr:FieldRep (F l[i].cons[k]).fields[m] (.str l[i].cons[k].fields[m].nm::ys):=⟨ys,by simp [F,replC],by simpa [F,replC] using hys⟩
        obtain ⟨j1,j2⟩:=rep_push k2 k3 hfr
        rw [take_push hmm] at j1 j2
        have hlen:fes.length<16777215:=by rw [k2,List.length_take];exact Nat.lt_of_le_of_lt (Nat.min_le_right _ _) (by simp only [F,replC,List.length_map];exact Nat.lt_of_lt_of_le hsc.2.1 (by decide))
        obtain ⟨q,rfl,hq⟩:=hys.dest'
        obtain ⟨q',rfl,hq'⟩:=htx.dest'
        have k1':=k1.grow [Blk.var false [AV.str l[i].cons[k].fields[m].nm,AV.int .i64 l[i].cons[k].fields[m].ty.k,AV.int .i64 l[i].cons[k].fields[m].ty.v,AV.str l[i].cons[k].fields[m].ty.nm,q']]
        have hPl:(Blk.var false [AV.int .i64 t.k,AV.int .i64 t.v,AV.str t.nm,pv]::Blk.var false [AV.str l[i].nm,qv,cv]::(pre++[Blk.var false [AV.str l[i].cons[k].nm,fa]])).length=pre.length+3:=by simp
        obtain ⟨fa',rest',hap,hacc⟩:=AccIn.push (byt:=72) (P:=Blk.var false [AV.int .i64 t.k,AV.int .i64 t.v,AV.str t.nm,pv]::Blk.var false [AV.str l[i].nm,qv,cv]::(pre++[Blk.var false [AV.str l[i].cons[k].nm,fa]]))
         (.str l[i].cons[k].fields[m].nm::[.int .i64 (repl l[i].params t.ps l[i].cons[k].fields[m].ty).k,.int .i64 (repl l[i].params t.ps l[i].cons[k].fields[m].ty).v,.str (repl l[i].params t.ps l[i].cons[k].fields[m].ty).nm,q]) true (by rw [hPl];exact k1') (by decide) (by decide) hlen
        rw [hPl] at hacc
        simp only [List.append_assoc,List.cons_append,List.nil_append] at hap
        exact .inl ⟨(fa',rest',_),by simp [Tryz.f68,hcv.len,hk',hce,hfv.len,hm',hfe,hcall,bsA,fillE,List.replicate,hap,hwm,hb13,noRefs,AV.noRef,hq.noRef,hq'.noRef,hqp.noRef,hp.noRef,hacc.cells],hacc,j1,j2⟩) (fun b hM=>by
        obtain ⟨fa,rest,fes⟩:=b
        obtain ⟨k1,k2,k3⟩:=hM
        rw [List.take_of_length_le (by simp [F,replC])] at k2 k3
        exact ⟨_,_,by simp [Tryz.f68,hcv.len,hk',hce,hfv.len] <;> first | exact ⟨rfl,rfl⟩ | rfl,by simp,(fa,rest,fes),rfl,k1,k2,k3⟩) (.nils,[],[]) ⟨.nil _ _ _,by simp,fun j t e h=>by simp at h⟩
     obtain ⟨⟨fa,rest,fes⟩,hq2,k1,k2,k3⟩:=hq2
     cases hq2
     simp [Tryz.f68] at hlp2
     have hlen:es.length<16777215:=by rw [i2,List.length_take,List.length_map];exact Nat.lt_of_le_of_lt (Nat.min_le_right _ _) (Nat.lt_of_lt_of_le s4 (by decide))
     let B0:=Blk.var false [AV.int .i64 t.k,AV.int .i64 t.v,AV.str t.nm,pv]
     let B1:=Blk.var false [AV.str l[i].nm,qv,cv]
     let C:=Blk.var false [AV.str l[i].cons[k].nm,fa]
     have hfa:AccL 5 (B0::B1::(pre++C::rest)) fa fes:=by
      rcases k1 with h | ⟨j,h0,h1,h2⟩
      ·exact .inl h
      ·refine .inr ⟨pre.length+3+j,false,h0,h1,?_⟩
       show (B0::B1::(pre++C::rest))[pre.length+3+j]? = _
       rw [show pre.length+3+j=(pre.length+1+j)+1+1 by omega,List.getElem?_cons_succ,List.getElem?_cons_succ,List.getElem?_append_right (by omega),show pre.length+1+j - pre.length=j+1 by omega]
       simpa using h2
     have e0:ConPre (B0::B1::(pre++C::rest)) (l[i].cons.map F)[k] [AV.str l[i].cons[k].nm,fa]:=⟨fa,fes,by simp [F,replC],hfa,by simpa [F] using k2,fun j t e h1 h2=>k3 j t e (by simpa [F] using h1) h2⟩
     have fin:∀ (H:Heap) (x:AV),Keeps (B0::B1::(pre++C::rest)) H→AccIn 2 0 H a es→rdElems H x=some [[AV.str l[i].cons[k].nm,fa]]→szOk 2 x=true→(∀ b,x≠.str b)→H[0]? = some B0→H[1]? = some B1 →
       ∃ a' T,apA 2 40 a x H=some (a',B0::B1::T)∧AccIn 2 0 (B0::B1::T) a' (es++[[AV.str l[i].cons[k].nm,fa]])∧(es++[[AV.str l[i].cons[k].nm,fa]]).length=((l[i].cons.map F).take (k+1)).length∧∀ (j:Nat) t' e,((l[i].cons.map F).take (k+1))[j]? = some t'→(es++[[AV.str l[i].cons[k].nm,fa]])[j]? = some e→ConPre (B0::B1::T) t' e:=by
      intro H x hk hacc hrd hsz hst hh0 hh1
      obtain ⟨a',H',h1,h2,h3⟩:=pushsF (byt:=40) hacc hrd hsz hst (by simp) (by decide) (by decide) (by simp;omega)
      have g0:=h3 0 _ hh0 (fun lk es e=>by simp [B0] at e)
      have g1:=h3 1 _ hh1 (fun lk es e=>by simp [B1] at e)
      obtain ⟨T,rfl⟩:∃ T,H'=B0::B1::T:=by
       match H',g0,g1 with
       | x::y::T,g0,g1=>simp at g0 g1;exact ⟨T,by rw [g0,g1]⟩
      obtain ⟨j1,j2⟩:=rep_push (R:=ConPre (B0::B1::(pre++C::rest))) i2 (fun j t e g1 g2=>(i3 j t e g1 g2).keeps (keepG (B0::B1::pre) (C::rest))) e0
      rw [take_push hkm] at j1 j2
      have keepP:∀ t e,ConPre H t e→ConPre (B0::B1::T) t e:=fun t e h=>by
       obtain ⟨q3,q4,q5,q6,q7,q8⟩:=h
       refine ⟨q3,q4,q5,?_,q7,q8⟩
       rcases q6 with h | ⟨id,lk,g0,g1,g2⟩
       ·exact .inl h
       ·exact .inr ⟨id,lk,g0,g1,h3 id _ g2 (fun lk' es' e=>by cases e)⟩
      exact ⟨a',T,h1,h2,j1,fun j t e g1 g2=>keepP t e ((j2 j t e g1 g2).keeps hk)⟩
     have i1':AccIn 2 0 (B0::B1::(pre++C::rest)) a es:=AccIn.grow (rest:=B0::B1::pre) i1 (C::rest)
     cases hna:fa.noRef with
     | true=>
      obtain ⟨a',T,f1,f2,f3,f4⟩:=fin _ (.sl 2 true [[AV.str l[i].cons[k].nm,fa]]) (Keeps.refl _) i1' rfl (by simp [szOk,elemSz]) (fun b h=>by cases h) rfl rfl
      simp only [B0,B1,C] at f1
      exact .inl ⟨(a',T,es++[[AV.str l[i].cons[k].nm,fa]]),by simp [Tryz.f68,hcv.len,hk',hce,hlp2,bsA,fillE,List.replicate,noRefs,AV.noRef,hna,f1,hw],f2,f3,f4⟩
     | false=>
      obtain ⟨a',T,f1,f2,f3,f4⟩:=fin ((B0::B1::(pre++C::rest))++[Blk.arr 2 false [[AV.str l[i].cons[k].nm,fa]]]) (.hs (B0::B1::(pre++C::rest)).length 1 2 0 1 false) (keepG _ _) (i1'.grow _)
       (by simp only [rdElems,get_last];simp) (by simp [szOk,elemSz]) (fun b h=>by cases h) rfl rfl
      simp [B0,B1,C] at f1
      exact .inl ⟨(a',T,es++[[AV.str l[i].cons[k].nm,fa]]),by simp [Tryz.f68,hcv.len,hk',hce,hlp2,bsA,fillE,List.replicate,newArr,noRefs,AV.noRef,hna,f1,hw],f2,f3,f4⟩) (fun b hI=>by
     obtain ⟨a,rest,es⟩:=b
     obtain ⟨i1,i2,i3⟩:=hI
     rw [List.take_of_length_le (by simp)] at i2 i3
     exact ⟨_,_,by simp [Tryz.f68,hcv.len] <;> first | exact ⟨rfl,rfl⟩ | rfl,by simp,(a,rest,es),rfl,i1,i2,i3⟩) (.nils,[],[]) ⟨.nil _ _ _,by simp,fun j t e h=>by simp at h⟩
  obtain ⟨⟨a,rest,es⟩,hq,i1,i2,i3⟩:=hq
  cases hq
  simp [Tryz.f68] at hlp
  obtain ⟨v',H',s6,s7,s8⟩:=outer_snap (K:=3) (fun H d e h=>ConPre.snap h) (fun H H' d e h k=>ConPre.keeps h k) (fun H d e h hn=>ConPre.noRef h hn) (AccIn.toL (P:=[]) i1) i2 i3
  rw [hcons]
  have hrun:runW MX 68 [lv,.agg [.int .i64 t.k,.int .i64 t.v,.str t.nm,pv]] []=some (.ret a,Blk.var false [AV.int .i64 t.k,AV.int .i64 t.v,AV.str t.nm,pv]::Blk.var false [AV.str l[i].nm,qv,cv]::rest):=by
   simp [runW,Tryz.f68,hb',hD,hf,ixI,hde,hlp]
  exact ⟨v',s7,fun h=>pureT mode_68 eff_68 hn s6 (by simp only [snapN,List.length_map];omega) s7.noRef s8 hrun h⟩
end Go.Proofs.Am12
namespace Go.Am
open Go
def okPairsM (L:List (List Nat)):List (Nat×Kd)→Bool
 | []=>true
 | (i,x)::r=>(r.all fun p => !(kdClash x p.2)||(L.getD p.1 []).elem i)&&okPairsM L r
theorem okDraw_k {ops:Array Oper} {ks:List Kd} (h:okPairsM (befOf ops) (loudOf 0 ks)=true):okDraw ops ks=true:=by
 unfold okDraw
 have hb:∀ i j,((befOf ops).getD j []).elem i=true→((Region.before ops).getD j 0).testBit i=true:=by
  intro i j h
  unfold befOf at h
  rw [List.getD_eq_getElem?_getD,List.getElem?_map] at h
  cases hm:(Region.before ops).toList[j]? with
  | none=>rw [hm] at h;simp at h
  | some m=>
   rw [hm] at h
   simp only [Option.map_some,Option.getD_some,List.elem_eq_mem,decide_eq_true_eq,List.mem_filter] at h
   have hm':(Region.before ops)[j]? = some m:=by simpa using hm
   rw [Array.getD_eq_getD_getElem?,hm']
   exact h.2
 have h2:∀ (l:List (Nat×Kd)),okPairsM (befOf ops) l=true→okPairs (Region.before ops) l=true:=by
  intro l
  induction l with
  | nil=>intro _;rfl
  | cons a r ih=>
   intro h
   obtain ⟨i,x⟩:=a
   simp only [okPairsM,Bool.and_eq_true,List.all_eq_true] at h
   simp only [okPairs,Bool.and_eq_true,List.all_eq_true]
   refine ⟨fun p hp => ?_,ih h.2⟩
   have:=h.1 p hp
   simp only [Bool.or_eq_true] at this ⊢
   rcases this with h3 | h3
   ·exact .inl h3
   ·exact .inr (hb _ _ h3)
 exact h2 _ h
end Go.Am
namespace Go.Am
open Go
mutual
theorem AV.beq_rfl:∀ a:AV,AV.beq a a=true
 | .undef=>rfl
 | .bool b=>by simp [AV.beq]
 | .int k n=>by simp [AV.beq]
 | .str s=>by simp [AV.beq]
 | .nilp=>rfl
 | .ro cs=>by simp only [AV.beq];exact beqs_rfl cs
 | .hp i o=>by simp [AV.beq]
 | .ep a b c d e=>by simp [AV.beq]
 | .nils=>rfl
 | .sl a b c=>by simp only [AV.beq,Nat.beq_refl,beq_self_eq_true,Bool.true_and];exact beqss_rfl c
 | .hs a b c d e f=>by simp [AV.beq]
 | .nilm=>rfl
 | .hm i=>by simp [AV.beq]
 | .fn f a c=>by simp only [AV.beq,Nat.beq_refl,Bool.true_and,beqs_rfl a,beqs_rfl c]
 | .nilf=>rfl
 | .iface t v=>by simp only [AV.beq,Nat.beq_refl,Bool.true_and];exact AV.beq_rfl v
 | .nili=>rfl
 | .agg a=>by simp only [AV.beq];exact beqs_rfl a
 | .tup a=>by simp only [AV.beq];exact beqs_rfl a
theorem beqs_rfl:∀ l:List AV,beqs l l=true
 | []=>rfl
 | a::r=>by simp only [beqs,AV.beq_rfl a,beqs_rfl r,Bool.and_self]
theorem beqss_rfl:∀ l:List (List AV),beqss l l=true
 | []=>rfl
 | a::r=>by simp only [beqss,beqs_rfl a,beqss_rfl r,Bool.and_self]
end
theorem blk_beq_refl':∀ b:Blk,Blk.beq b b=true:=by
 intro b
 have h1:(∀ v:AV,AV.beq v v=true)∧(∀ l:List AV,beqs l l=true)∧(∀ l:List (List AV),beqss l l=true):=⟨AV.beq_rfl,beqs_rfl,beqss_rfl⟩
 cases b with
 | var l a=>simp [Blk.beq,h1.2.1]
 | arr s l a=>simp [Blk.beq,h1.2.2]
 | mp a=>
  have:∀ a:List (AV×AV),beqps a a=true:=by
   intro a
   induction a with
   | nil=>rfl
   | cons x r ih=>simp [beqps,h1.1,ih]
  simp [Blk.beq,this]
 | hole=>rfl
theorem mods_same:∀ (k:Nat) (T:Heap),mods k T T=[]
 | _,[]=>rfl
 | k,b::r=>by simp only [mods,blk_beq_refl' b,mods_same (k+1) r]
theorem mods_one (k:Nat) (X Y:Blk) (T:Heap) (x:Nat) (h:x∈mods k (X::T) (Y::T)):x=k:=by
 simp only [mods] at h
 split at h
 ·rw [mods_same] at h;cases h
 ·rw [mods_same] at h;simpa using h
theorem mods_at0 {X Y:Blk} {T:Heap} {x:Nat} (hx:x≠0):(x∈mods 0 (X::T) (Y::T))=False:=by
 refine eq_false fun h=>hx ?_
 exact mods_one _ X Y T x h
theorem mods_at1 {b0 X Y:Blk} {T:Heap} {x:Nat} (hx:x≠1):(x∈mods 0 (b0::X::T) (b0::Y::T))=False:=by
 refine eq_false fun h=>hx ?_
 simp only [mods,blk_beq_refl'] at h
 exact mods_one _ X Y T x h
theorem mods_at2 {b0 b1 X Y:Blk} {T:Heap} {x:Nat} (hx:x≠2):(x∈mods 0 (b0::b1::X::T) (b0::b1::Y::T))=False:=by
 refine eq_false fun h=>hx ?_
 simp only [mods,blk_beq_refl'] at h
 exact mods_one _ X Y T x h
theorem mods_at3 {b0 b1 b2 X Y:Blk} {T:Heap} {x:Nat} (hx:x≠3):(x∈mods 0 (b0::b1::b2::X::T) (b0::b1::b2::Y::T))=False:=by
 refine eq_false fun h=>hx ?_
 simp only [mods,blk_beq_refl'] at h
 exact mods_one _ X Y T x h
theorem mods_at4 {b0 b1 b2 b3 X Y:Blk} {T:Heap} {x:Nat} (hx:x≠4):(x∈mods 0 (b0::b1::b2::b3::X::T) (b0::b1::b2::b3::Y::T))=False:=by
 refine eq_false fun h=>hx ?_
 simp only [mods,blk_beq_refl'] at h
 exact mods_one _ X Y T x h
theorem mods_at5 {b0 b1 b2 b3 b4 X Y:Blk} {T:Heap} {x:Nat} (hx:x≠5):(x∈mods 0 (b0::b1::b2::b3::b4::X::T) (b0::b1::b2::b3::b4::Y::T))=False:=by
 refine eq_false fun h=>hx ?_
 simp only [mods,blk_beq_refl'] at h
 exact mods_one _ X Y T x h
theorem mods_at6 {b0 b1 b2 b3 b4 b5 X Y:Blk} {T:Heap} {x:Nat} (hx:x≠6):(x∈mods 0 (b0::b1::b2::b3::b4::b5::X::T) (b0::b1::b2::b3::b4::b5::Y::T))=False:=by
 refine eq_false fun h=>hx ?_
 simp only [mods,blk_beq_refl'] at h
 exact mods_one _ X Y T x h
end Go.Am
namespace Go.Am
open Go
def kdLen (v:Option AV):Kd:=match v with
 | some (.hm id)=> .ld id
 | _=> .st
theorem SlR.kdLen {α:Type} {R:α→List AV→Prop} {sz:Nat} {l:List α} {v:AV} (hv:SlR R sz l v):kdLen (some v)=.st:=by
 rcases hv with ⟨_,rfl⟩ | ⟨_,_,rfl,_⟩ <;> rfl
section
variable (M:Par) (t:Tm) (h h':Heap)
theorem kd_move (x):kdOf M t (.move x) h h'=.st:=rfl
theorem kd_assign (x):kdOf M t (.assign x) h h'=.st:=rfl
theorem kd_pick (a b c):kdOf M t (.pick a b c) h h'=.st:=rfl
theorem kd_build (a b):kdOf M t (.build a b) h h'=.st:=rfl
theorem kd_nil (a):kdOf M t (.nilCheck a) h h'=.st:=rfl
theorem kd_bin (a b c d e):kdOf M t (.binOp a b c d e) h h'=.st:=rfl
theorem kd_un (a b c):kdOf M t (.unOp a b c) h h'=.st:=rfl
theorem kd_iface (a b):kdOf M t (.makeInterface a b) h h'=.st:=rfl
theorem kd_func (a b c):kdOf M t (.makeFunc a b c) h h'=.st:=rfl
theorem kd_slice (a b c d e):kdOf M t (.slice a b c d e) h h'=.st:=rfl
theorem kd_fieldAddr (a b c):kdOf M t (.fieldAddr a b c) h h'=.st:=rfl
theorem kd_field (a b c):kdOf M t (.field a b c) h h'=.st:=rfl
theorem kd_indexAddr (a b c):kdOf M t (.indexAddr a b c) h h'=.st:=rfl
theorem kd_index (a b c):kdOf M t (.index a b c) h h'=.st:=rfl
theorem kd_extract (a b):kdOf M t (.extract a b) h h'=.st:=rfl
theorem kd_load (a b):kdOf M t (.load a b) h h'=kdRead (ev t b):=rfl
theorem kd_lookup (a b c d):kdOf M t (.lookup a b c d) h h'=kdRead (ev t b):=rfl
theorem kd_len (a b):kdOf M t (.call { callee:=.builtin .len,args:=a,argTypes:=b }) h h'=kdLen ((a[0]?).bind (ev t)):=rfl
theorem kd_max (a b):kdOf M t (.call { callee:=.builtin .max,args:=a,argTypes:=b }) h h'=.st:=rfl
theorem kd_min (a b):kdOf M t (.call { callee:=.builtin .min,args:=a,argTypes:=b }) h h'=.st:=rfl
theorem kd_append (a b):kdOf M t (.call { callee:=.builtin .append,args:=a,argTypes:=b }) h h'=.ch (mods 0 h h'):=rfl
theorem kd_callv (f a b):kdOf M t (.call { callee:=.value f,args:=a,argTypes:=b }) h h'=(match ev t f,evs t a.toList with
  | some (.fn g fs cap),some vs=>(match (M.prim g).isSome||((M.mode g).fresh && !(M.mode g).keepTop&&(fs++vs++cap).all AV.noRef) with
   | true=> .st
   | false=> .ch (mods 0 h h'))
  | _,_=> .ch (mods 0 h h')):=rfl
theorem kd_alloc (a):kdOf M t (.alloc a) h h'=.ch [h.length]:=rfl
theorem kd_box (a b):kdOf M t (.box a b) h h'=.ch [h.length]:=rfl
theorem kd_bs (a b c):kdOf M t (.buildSlice a b c) h h'=(match Nat.beq h.length h'.length with | true=> .st | false=> .ch [h.length]):=rfl
theorem kd_map (a b):kdOf M t (.makeMap a b) h h'=.ch [h.length]:=rfl
theorem kd_ms (a b c):kdOf M t (.makeSlice a b c) h h'=.ch [h.length]:=rfl
theorem kd_cv (a b c):kdOf M t (.convert a b c) h h'=(match Nat.beq h.length h'.length with | true=> .st | false=> .ch [h.length]):=rfl
theorem kd_store (a b c):kdOf M t (.store a b c) h h'=.ch (mods 0 h h'):=rfl
theorem kd_mapUpdate (a b c d):kdOf M t (.mapUpdate a b c d) h h'=.ch (mods 0 h h'):=rfl
theorem kd_insert (a b c d):kdOf M t (.insert a b c d) h h'=.ch (mods 0 h h'):=rfl
end
theorem kdLen_nils:kdLen (some .nils)=.st:=rfl
theorem kdLen_sl (a b c):kdLen (some (.sl a b c))=.st:=rfl
theorem kdLen_hs (a b c d e f):kdLen (some (.hs a b c d e f))=.st:=rfl
theorem kdLen_str (a):kdLen (some (.str a))=.st:=rfl
end Go.Am
namespace Go.Proofs.Am12
open Go Go.Am
attribute [local simp] cw_skip cw_region cw_seq cw_cond cw_block cw_loop cw_exit cw_ret regionA runOps wantedA opEx xVal xPick xAlloc xBox xBuild xBuildSlice xLoad xStore xNil xBin xUn xConv xIface xFunc xMakeSlice xSlice xFieldAddr xField xIndexAddr xIndex xLookup xUpdate xExtract xBuiltin xPanic xCall
 ev evs ofVal ofCell OR.ofV OR.ofVH OR.ofC putD Tm.get Tm.init Tm.only beq_d ble_d blt_d finish resultA resA binA intBin strBin unA cells_int cells_bool cells_str cells_nilp cells_ro cells_hp cells_ep cells_nils cells_sl cells_hs cells_nilm cells_hm cells_fn cells_nilf cells_agg loopC loopsIn lenSl_nils lenSl_sl lenSl_hs lenSt_str faA_ro faA_hp faA_ep ld1_def ldN_def takeA rd_ro rd_hp rd_ep stA spliceAt zipFst fillC kdOf kdRead blkOf noCh okDraw_ld okDraw_l okPairsL loudS kdSh
set_option maxHeartbeats 1000000
attribute [local simp] okDraw_k okPairsM loudOf kdClash mods_at0 mods_at1 mods_at2 mods_at3 mods_at4 mods_at5 mods_at6
abbrev Rec:=TyV→Int→Int×Int
def eFs (rec:Rec):List FieldV→Int→Int×Int
 | [],c=>(c,0)
 | f::r,c=>if (rec f.ty c).2=0 then eFs rec r (rec f.ty c).1 else rec f.ty c
def eCs (rec:Rec):List ConV→Int→Int×Int
 | [],c=>(c,0)
 | k::r,c=>if (eFs rec k.fields c).2=0 then eCs rec r (eFs rec k.fields c).1 else eFs rec k.fields c
def argOf (t:TyV):TyV:=t.ps.getD 0 default
def eStep (l:List DataV) (r:Option Rec) (t:TyV) (c:Int):Int×Int:=
 if isTree t=false then (c+1,8) else if t.k=2 then (c+1,26) else if isBit t=true∧(argOf t).k≠2 then (c+1,26) else if isBit t=true∧¬ (1≤(argOf t).v∧(argOf t).v≤16) then (c+1,25) else
 if 200<c+1 then (c+1,8) else match r with
  | none=>(c+1,8)
  | some rec=>if isBit t=true then (c+1,0) else eCs rec (consOf l t) (c+1)
def expE (l:List DataV):Nat→Rec
 | 0=>eStep l none
 | n+1=>eStep l (some (expE l n))
def VT (l:List DataV) (t:TyV):Prop:=rNodeErr l [] t=0
structure DOK (l:List DataV):Prop where
 bit:∀ t,VT l t→isBit t=true→t.ps.length=1
 has:∀ t,VT l t→t.k≠2→isBit t=false→HasC l t
 fld:∀ t,VT l t→t.k≠2→isBit t=false→∀ c∈consOf l t,∀ f∈c.fields,VT l f.ty
theorem consOf_sm {b:Nat} {l:List DataV} (hsl:SmL b l) {t:TyV} (hst:Sm b t) (h8:5<b):(consOf l t).length<b∧∀ c∈consOf l t,SmC b c:=by
 have hps:∀ p∈t.ps,Sm b p:=by cases t;exact hst.dest.2.2
 unfold consOf
 split
 ·exact ⟨by simp;omega,fun c hc=>by
   simp only [List.mem_cons,List.not_mem_nil,or_false] at hc
   rcases hc with rfl | rfl
   ·exact ⟨by simp [falseS];omega,by simp;omega,fun f hf=>by cases hf⟩
   ·exact ⟨by simp [trueS];omega,by simp;omega,fun f hf=>by cases hf⟩⟩
 ·split
  ·rename_i i hf
   have hil:=fi_lt hf
   have hgd:l.getD i default=l[i]:=by simp [hil]
   rw [hgd]
   obtain ⟨s1,s2,s3,s4,s5⟩:=hsl.2 _ (List.getElem_mem hil)
   refine ⟨by simpa using s4,fun c hc => ?_⟩
   obtain ⟨c0,hc0,rfl⟩:=List.mem_map.1 hc
   obtain ⟨q1,q2,q3⟩:=s5 c0 hc0
   refine ⟨q1,by simpa [replC] using q2,fun f hf => ?_⟩
   obtain ⟨f0,hf0,rfl⟩:=List.mem_map.1 hf
   obtain ⟨r1,r2⟩:=q3 f0 hf0
   exact ⟨r1,repl_sm hps (by omega) _ r2⟩
  ·exact ⟨by simp;omega,fun c hc=>by cases hc⟩
def Ranged (rec:Rec):Prop:=∀ t c,0≤c→c≤200→0≤(rec t c).1∧(rec t c).1≤201∧((rec t c).2=0→(rec t c).1≤200)
theorem eFs_range {rec:Rec} (hr:Ranged rec):∀ (fs:List FieldV) c,0≤c→c≤200→0≤(eFs rec fs c).1∧(eFs rec fs c).1≤201∧((eFs rec fs c).2=0→(eFs rec fs c).1≤200)
 | [],c,h0,h1=>⟨h0,by simp [eFs];omega,fun _=>h1⟩
 | f::r,c,h0,h1=>by
  obtain ⟨a,b,d⟩:=hr f.ty c h0 h1
  simp only [eFs]
  split
  ·rename_i hz;exact eFs_range hr r _ a (d hz)
  ·exact ⟨a,b,d⟩
theorem eCs_range {rec:Rec} (hr:Ranged rec):∀ (cs:List ConV) c,0≤c→c≤200→0≤(eCs rec cs c).1∧(eCs rec cs c).1≤201∧((eCs rec cs c).2=0→(eCs rec cs c).1≤200)
 | [],c,h0,h1=>⟨h0,by simp [eCs];omega,fun _=>h1⟩
 | f::r,c,h0,h1=>by
  obtain ⟨a,b,d⟩:=eFs_range hr f.fields c h0 h1
  simp only [eCs]
  split
  ·rename_i hz;exact eCs_range hr r _ a (d hz)
  ·exact ⟨a,b,d⟩
theorem eStep_range {l:List DataV} {r:Option Rec} (hr:∀ rec,r=some rec→Ranged rec):Ranged (eStep l r):=by
 intro t c h0 h1
 unfold eStep
 split
 ·exact ⟨by simp;omega,by simp;omega,fun h=>by cases h⟩
 split
 ·exact ⟨by simp;omega,by simp;omega,fun h=>by cases h⟩
 split
 ·exact ⟨by simp;omega,by simp;omega,fun h=>by cases h⟩
 split
 ·exact ⟨by simp;omega,by simp;omega,fun h=>by cases h⟩
 split
 ·exact ⟨by simp;omega,by simp;omega,fun h=>by cases h⟩
 split
 ·exact ⟨by simp;omega,by simp;omega,fun h=>by cases h⟩
 split
 ·exact ⟨by simp;omega,by simp;omega,fun _=>by simp;omega⟩
 ·exact eCs_range (hr _ rfl) _ _ (by omega) (by omega)
theorem expE_range (l:List DataV):∀ n,Ranged (expE l n)
 | 0=>eStep_range fun rec h=>by cases h
 | n+1=>eStep_range fun rec h=>by cases h;exact expE_range l n
theorem c154 {l:List DataV} {lv:AV} (hl:SlR DataRep 3 l lv) (hsl:SmL 1048577 l) (hok:DOK l):∀ (n:Nat),n≤40→∀ (t:TyV) (xs:List AV) (c e0:Int),TyRep t xs→Sm 1048577 t→VT l t→0≤c→c≤200→∀ h,
  doCall MX (callW MX) 154 [lv,.agg xs,.agg [.int .i64 c,.int .i64 e0,.int .i64 (40 - n)]] h=some (.ret (.agg [.int .i64 (expE l n t c).1,.int .i64 (expE l n t c).2,.int .i64 (40 - n)]),h):=by
 intro n
 induction n with
 | zero=>
  intro _ t xs c e0 hx hst hv h0 h1 h
  have hn:([lv,AV.agg xs,.agg [.int .i64 c,.int .i64 e0,.int .i64 (40 - (0:Nat))]]:List AV).all AV.noRef=true:=by simp [AV.noRef,hx.noRefs,hl.noRef,noRefs]
  have wc:wr .i64 (c+1)=c+1:=wr_i64 (by omega) (by omega)
  have hT:=c59 hx hst
  have hB:=c66 hx
  have hbit:=hok.bit t hv
  obtain ⟨D,hD⟩:∃ D:Int,D=40 - (0:Nat):=⟨_,rfl⟩
  rw [← hD] at hn ⊢
  have hd:40≤D:=by omega
  obtain ⟨pv,rfl,hp⟩:=hx.dest'
  obtain ⟨hr,hc⟩:∃ hr,runW MX 154 [lv,.agg [.int .i64 t.k,.int .i64 t.v,.str t.nm,pv],.agg [.int .i64 c,.int .i64 e0,.int .i64 D]] []=some (.ret (.agg [.int .i64 (expE l 0 t c).1,.int .i64 (expE l 0 t c).2,.int .i64 D]),hr):=by
   simp only [expE,eStep]
   cases hT0:isTree t with
   | false=>exact ⟨_,by simp [runW,Tryz.f154,wc,hT,hT0,resA] <;> rfl⟩
   | true=>
   by_cases h2:t.k=2
   ·have h2':(t.k == 2)=true:=by simp [h2]
    rw [if_neg (by simp),if_pos h2]
    exact ⟨_,by simp [runW,Tryz.f154,wc,hT,hT0,h2',resA] <;> rfl⟩
   ·have h2':(t.k == 2)=false:=by simp [h2]
    cases hB0:isBit t with
    | false=>
     by_cases h200:200<c+1
     ·exact ⟨_,by simp [runW,Tryz.f154,wc,hT,hT0,h2,h2',hB,hB0,h200,hd,resA] <;> rfl⟩
     ·exact ⟨_,by simp [runW,Tryz.f154,wc,hT,hT0,h2,h2',hB,hB0,h200,hd,resA] <;> rfl⟩
    | true=>
     have hb:=hbit hB0
     obtain ⟨e,he,hR⟩:=hp.ix (i:=0) (by omega)
     have hag:argOf t=t.ps[0]'(by omega):=by simp [argOf,hb]
     rw [← hag] at hR
     obtain ⟨qv,rfl,hq⟩:=hR.dest'
     simp only [Int.natCast_zero] at he
     by_cases hk:(argOf t).k=2
     ·have hk':((argOf t).k != 2)=false:=by simp [hk]
      by_cases hw:1≤(argOf t).v∧(argOf t).v≤16
      ·by_cases h200:200<c+1
       ·exact ⟨_,by simp [runW,Tryz.f154,wc,hT,hT0,h2,h2',hB,hB0,he,hk,hk',hw,h200,hd,resA] <;> rfl⟩
       ·exact ⟨_,by simp [runW,Tryz.f154,wc,hT,hT0,h2,h2',hB,hB0,he,hk,hk',hw,h200,hd,resA] <;> rfl⟩
      ·exact ⟨_,by simp [runW,Tryz.f154,wc,hT,hT0,h2,h2',hB,hB0,he,hk,hk',hw,resA] <;> rfl⟩
     ·have hk':((argOf t).k != 2)=true:=by simp [hk]
      exact ⟨_,by simp [runW,Tryz.f154,wc,hT,hT0,h2,h2',hB,hB0,he,hk,hk',resA] <;> rfl⟩
  exact pureX mode_154 eff_154 hn (by simp [AV.noRef,noRefs]) hc h
 | succ n ih=>
  intro hn40 t xs c e0 hx hst hv h0 h1 h
  have hn:([lv,AV.agg xs,.agg [.int .i64 c,.int .i64 e0,.int .i64 (40 - (n+1:Nat))]]:List AV).all AV.noRef=true:=by simp [AV.noRef,hx.noRefs,hl.noRef,noRefs]
  have wc:wr .i64 (c+1)=c+1:=wr_i64 (by omega) (by omega)
  have hT:=c59 hx hst
  have hB:=c66 hx
  have hbit:=hok.bit t hv
  have hd:¬ (40≤(40 - (n+1:Nat):Int)):=by omega
  have hd1:(40 - (n+1:Nat):Int)+1=40 - (n:Int):=by omega
  have wd:wr .i64 ((40 - (n+1:Nat):Int)+1)=40 - (n:Int):=by rw [hd1];exact wr_i64 (by omega) (by omega)
  have h68:=c68 hl hsl hx hst
  obtain ⟨D,hD⟩:∃ D:Int,D=40 - (n+1:Nat):=⟨_,rfl⟩
  rw [← hD] at hd wd hn ⊢
  have hcsm:=consOf_sm hsl hst (by decide)
  obtain ⟨pv,rfl,hp⟩:=hx.dest'
  obtain ⟨hr,hc⟩:∃ hr,runW MX 154 [lv,.agg [.int .i64 t.k,.int .i64 t.v,.str t.nm,pv],.agg [.int .i64 c,.int .i64 e0,.int .i64 D]] []=some (.ret (.agg [.int .i64 (expE l (n+1) t c).1,.int .i64 (expE l (n+1) t c).2,.int .i64 D]),hr):=by
   simp only [expE,eStep]
   cases hT0:isTree t with
   | false=>exact ⟨_,by simp [runW,Tryz.f154,wc,hT,hT0,resA] <;> rfl⟩
   | true=>
   by_cases h2:t.k=2
   ·have h2':(t.k == 2)=true:=by simp [h2]
    rw [if_neg (by simp),if_pos h2]
    exact ⟨_,by simp [runW,Tryz.f154,wc,hT,hT0,h2',resA] <;> rfl⟩
   ·have h2':(t.k == 2)=false:=by simp [h2]
    cases hB0:isBit t with
    | true=>
     have hb:=hbit hB0
     obtain ⟨e,he,hR⟩:=hp.ix (i:=0) (by omega)
     have hag:argOf t=t.ps[0]'(by omega):=by simp [argOf,hb]
     rw [← hag] at hR
     obtain ⟨qv,rfl,hq⟩:=hR.dest'
     simp only [Int.natCast_zero] at he
     by_cases hk:(argOf t).k=2
     ·have hk':((argOf t).k != 2)=false:=by simp [hk]
      by_cases hw:1≤(argOf t).v∧(argOf t).v≤16
      ·by_cases h200:200<c+1
       ·exact ⟨_,by simp [runW,Tryz.f154,wc,hT,hT0,h2,h2',hB,hB0,he,hk,hk',hw,h200,resA] <;> rfl⟩
       ·exact ⟨_,by simp [runW,Tryz.f154,wc,hT,hT0,h2,h2',hB,hB0,he,hk,hk',hw,h200,hd,resA] <;> rfl⟩
      ·exact ⟨_,by simp [runW,Tryz.f154,wc,hT,hT0,h2,h2',hB,hB0,he,hk,hk',hw,resA] <;> rfl⟩
     ·have hk':((argOf t).k != 2)=true:=by simp [hk]
      exact ⟨_,by simp [runW,Tryz.f154,wc,hT,hT0,h2,h2',hB,hB0,he,hk,hk',resA] <;> rfl⟩
    | false=>
     by_cases h200:200<c+1
     ·exact ⟨_,by simp [runW,Tryz.f154,wc,hT,hT0,h2,h2',hB,hB0,h200,resA] <;> rfl⟩
     ·obtain ⟨w,hw,h68'⟩:=h68 (hok.has t hv h2 hB0)
      have hvf:=hok.fld t hv h2 hB0
      have hR:=expE_range l n
      have hb23:=bef_154_23
      simp [opsF,opsAt,Tryz.f154] at hb23
      have hb24:=bef_154_24
      simp [opsF,opsAt,Tryz.f154] at hb24
      -- all constructors
      obtain ⟨e,st,hlp,hq⟩:=loop_up (M:=MX) (fid:=154) (N:=113) (C:=callW MX) (c:=loopC Tryz.f154 0) (n:=(consOf l t).length)
       (fun i (b:Int×Heap)=>([(0,lv),(6,.hp 2 0),(7,.hp 3 0),(8,w),(9,.int .i64 i)],Blk.var false [AV.int .i64 t.k,AV.int .i64 t.v,AV.str t.nm,pv]::Blk.var false [AV.int .i64 c,AV.int .i64 e0,AV.int .i64 D]::Blk.var false [AV.int .i64 0,AV.int .i64 0,AV.int .i64 0]::Blk.var false [AV.int .i64 b.1,AV.int .i64 0,AV.int .i64 D]::b.2))
       (fun i b=>0≤b.1∧b.1≤200∧eCs (expE l n) (consOf l t) (c+1)=eCs (expE l n) ((consOf l t).drop i) b.1)
       (fun r=>∃ b:Int×Heap,(r=(.ext 0,([(0,lv),(6,.hp 2 0),(7,.hp 3 0),(8,w),(9,.int .i64 (consOf l t).length),(72,.bool false)],Blk.var false [AV.int .i64 t.k,AV.int .i64 t.v,AV.str t.nm,pv]::Blk.var false [AV.int .i64 c,AV.int .i64 e0,AV.int .i64 D]::Blk.var false [AV.int .i64 0,AV.int .i64 0,AV.int .i64 0]::Blk.var false [AV.int .i64 b.1,AV.int .i64 0,AV.int .i64 D]::b.2))∧eCs (expE l n) (consOf l t) (c+1)=(b.1,0)) ∨
         (r=(.ret,([(6,.hp 2 0)],Blk.var false [AV.int .i64 t.k,AV.int .i64 t.v,AV.str t.nm,pv]::Blk.var false [AV.int .i64 c,AV.int .i64 e0,AV.int .i64 D]::Blk.var false [AV.int .i64 (eCs (expE l n) (consOf l t) (c+1)).1,AV.int .i64 (eCs (expE l n) (consOf l t) (c+1)).2,AV.int .i64 D]::b.2)))) (fun i b hi hI=>by
         obtain ⟨cc,G⟩:=b
         obtain ⟨i0,i1,i2⟩:=hI
         simp only at i0 i1 i2
         obtain ⟨ce,hce,hcR⟩:=hw.ix hi
         have hi':=lt_cast hi
         have hwi:=wr_next hi hcsm.1
         have hsc:=hcsm.2 _ (List.getElem_mem hi)
         obtain ⟨fv,rfl,hfv⟩:=hcR.dest
         have hdr:(consOf l t).drop i=(consOf l t)[i]::(consOf l t).drop (i+1):=List.drop_eq_getElem_cons hi
         rw [hdr] at i2
         simp only [eCs] at i2
         obtain ⟨e2,st2,hlp2,hq2⟩:=loop_up (M:=MX) (fid:=154) (N:=113) (C:=callW MX) (c:=loopC Tryz.f154 1) (n:=(consOf l t)[i].fields.length)
          (fun j (b:Int×Heap)=>([(0,lv),(6,.hp 2 0),(7,.hp 3 0),(8,w),(9,.int .i64 i),(10,.int .i64 j)],Blk.var false [AV.int .i64 t.k,AV.int .i64 t.v,AV.str t.nm,pv]::Blk.var false [AV.int .i64 c,AV.int .i64 e0,AV.int .i64 D]::Blk.var false [AV.int .i64 0,AV.int .i64 0,AV.int .i64 0]::Blk.var false [AV.int .i64 b.1,AV.int .i64 0,AV.int .i64 D]::b.2))
          (fun j b=>0≤b.1∧b.1≤200∧eFs (expE l n) (consOf l t)[i].fields cc=eFs (expE l n) ((consOf l t)[i].fields.drop j) b.1)
          (fun r=>∃ b:Int×Heap,(r=(.ext 2,([(0,lv),(6,.hp 2 0),(7,.hp 3 0),(8,w),(9,.int .i64 i),(10,.int .i64 (consOf l t)[i].fields.length),(82,.bool false)],Blk.var false [AV.int .i64 t.k,AV.int .i64 t.v,AV.str t.nm,pv]::Blk.var false [AV.int .i64 c,AV.int .i64 e0,AV.int .i64 D]::Blk.var false [AV.int .i64 0,AV.int .i64 0,AV.int .i64 0]::Blk.var false [AV.int .i64 b.1,AV.int .i64 0,AV.int .i64 D]::b.2))∧eFs (expE l n) (consOf l t)[i].fields cc=(b.1,0)∧0≤b.1∧b.1≤200) ∨
            (r=(.ret,([(6,.hp 2 0)],Blk.var false [AV.int .i64 t.k,AV.int .i64 t.v,AV.str t.nm,pv]::Blk.var false [AV.int .i64 c,AV.int .i64 e0,AV.int .i64 D]::Blk.var false [AV.int .i64 (eFs (expE l n) (consOf l t)[i].fields cc).1,AV.int .i64 (eFs (expE l n) (consOf l t)[i].fields cc).2,AV.int .i64 D]::b.2))∧(eFs (expE l n) (consOf l t)[i].fields cc).2≠0)) (fun j b hj hJ=>by
            obtain ⟨cf,G'⟩:=b
            obtain ⟨j0,j1,j2⟩:=hJ
            simp only at j0 j1 j2
            obtain ⟨fe,hfe,hfR⟩:=hfv.ix hj
            have hj':=lt_cast hj
            have hwj:=wr_next hj hsc.2.1
            have hmf:=List.getElem_mem hj
            obtain ⟨tx,rfl,htx⟩:=hfR
            have hrec:=ih (by omega) (consOf l t)[i].fields[j].ty tx cf 0 htx (hsc.2.2 _ hmf).2 (hvf _ (List.getElem_mem hi) _ hmf) j0 j1
            obtain ⟨r1,r2,r3⟩:=hR (consOf l t)[i].fields[j].ty cf j0 j1
            obtain ⟨qv,rfl,hqv⟩:=htx.dest'
            have hdr2:(consOf l t)[i].fields.drop j=(consOf l t)[i].fields[j]::(consOf l t)[i].fields.drop (j+1):=List.drop_eq_getElem_cons hj
            rw [hdr2] at j2
            simp only [eFs] at j2
            by_cases hz:(expE l n (consOf l t)[i].fields[j].ty cf).2=0
            ·rw [if_pos hz] at j2
             exact .inl ⟨((expE l n (consOf l t)[i].fields[j].ty cf).1,G'++[Blk.var false [AV.int .i64 (expE l n (consOf l t)[i].fields[j].ty cf).1,AV.int .i64 0,AV.int .i64 (40 - n)]]),by simp [Tryz.f154,hw.len,hi',hce,hfv.len,hj',hfe,wd,hrec,hz,hwj,hb23,hb24,noRefs,AV.noRef,hl.noRef,hqv.noRef],r1,r3 hz,j2⟩
            ·rw [if_neg hz] at j2
             have hne:((expE l n (consOf l t)[i].fields[j].ty cf).2 != 0)=true:=by simp [hz]
             exact .inr ⟨_,_,by simp [Tryz.f154,hw.len,hi',hce,hfv.len,hj',hfe,wd,hrec,hne,hb23,hb24,noRefs,AV.noRef,hl.noRef,hqv.noRef] <;> first | exact ⟨rfl,rfl⟩ | rfl,by simp,(0,_),.inr ⟨by rw [j2],by rw [j2];exact hz⟩⟩) (fun b hJ=>by
            obtain ⟨cf,G'⟩:=b
            obtain ⟨j0,j1,j2⟩:=hJ
            rw [List.drop_length] at j2
            exact ⟨_,_,by simp [Tryz.f154,hw.len,hi',hce,hfv.len] <;> first | exact ⟨rfl,rfl⟩ | rfl,by simp,(cf,G'),.inl ⟨rfl,j2,j0,j1⟩⟩) (cc,G) ⟨i0,i1,by simp⟩
         simp [Tryz.f154] at hlp2
         obtain ⟨⟨cf,G'⟩,hq2⟩:=hq2
         rcases hq2 with ⟨hq2,hF,f0,f1⟩ | ⟨hq2,hF⟩ <;> cases hq2
         ·rw [hF] at i2
          exact .inl ⟨(cf,G'),by simp [Tryz.f154,hw.len,hi',hlp2,hwi],f0,f1,by simpa using i2⟩
         ·rw [if_neg hF] at i2
          exact .inr ⟨_,_,by simp [Tryz.f154,hw.len,hi',hlp2] <;> first | exact ⟨rfl,rfl⟩ | rfl,by simp,(0,_),.inr (by rw [i2])⟩) (fun b hI=>by
         obtain ⟨cc,G⟩:=b
         obtain ⟨i0,i1,i2⟩:=hI
         rw [List.drop_length] at i2
         exact ⟨_,_,by simp [Tryz.f154,hw.len] <;> first | exact ⟨rfl,rfl⟩ | rfl,by simp,(cc,G),.inl ⟨rfl,i2⟩⟩) (c+1,[]) ⟨by simp;omega,by simp;omega,by simp⟩
      simp [Tryz.f154] at hlp
      obtain ⟨⟨cc,G⟩,hq⟩:=hq
      rcases hq with ⟨hq,hC⟩ | hq <;> cases hq
      ·exact ⟨_,by simp [runW,Tryz.f154,wc,hT,hT0,h2,h2',hB,hB0,h200,hd,h68',hlp,hC,resA] <;> rfl⟩
      ·exact ⟨_,by simp [runW,Tryz.f154,wc,hT,hT0,h2,h2',hB,hB0,h200,hd,h68',hlp,resA] <;> rfl⟩
  exact pureX mode_154 eff_154 hn (by simp [AV.noRef,noRefs]) hc h
inductive Sh where
 | bit (n:Int)
 | cons (ns:List Bytes) (ss:List (List Sh))
 deriving Inhabited
theorem Sh.ind {P:Sh→Prop} (hb:∀ n,P (.bit n)) (hc:∀ ns ss,(∀ s∈ss,∀ x∈s,P x)→P (.cons ns ss)) (s:Sh):P s:=
 Sh.rec (motive_1:=P) (motive_2:=fun ss=>∀ s∈ss,∀ x∈s,P x) (motive_3:=fun s=>∀ x∈s,P x) (fun n=>hb n) (fun ns ss ih=>hc ns ss ih)
  (fun s hs=>by cases hs) (fun a r ha hr s hs=>by
    rcases List.mem_cons.1 hs with rfl | hs
    ·exact ha
    ·exact hr s hs) (fun x hx=>by cases hx) (fun a r ha hr x hx=>by
    rcases List.mem_cons.1 hx with rfl | hx
    ·exact ha
    ·exact hr x hx) s
inductive IsSh (l:List DataV):TyV→Sh→Prop where
 | bit (t:TyV) (hb:isBit t=true) (hw:1≤(argOf t).v∧(argOf t).v≤16) (h2:(argOf t).k=2):IsSh l t (.bit (argOf t).v)
 | cons (t:TyV) (ns:List Bytes) (ss:List (List Sh)) (hb:isBit t=false) (hk:t.k≠2) (hn:ns=(consOf l t).map (·.nm)) (hl:ss.length=(consOf l t).length)
   (hs:∀ (i:Nat) c s,(consOf l t)[i]? = some c→ss[i]? = some s→s.length=c.fields.length)
   (hf:∀ (i:Nat) c s (j:Nat) f y,(consOf l t)[i]? = some c→ss[i]? = some s→c.fields[j]? = some f→s[j]? = some y→IsSh l f.ty y):IsSh l t (.cons ns ss)
theorem IsSh.unique {l:List DataV} {t:TyV} {s:Sh} (h:IsSh l t s):∀ s',IsSh l t s'→s=s':=by
 induction h with
 | bit t hb hw h2=>
  intro s' h'
  cases h' with
  | bit _ _ _ _=>rfl
  | cons _ _ _ hb'=>rw [hb] at hb';cases hb'
 | cons t ns ss hb hk hn hl hs hf ih=>
  intro s' h'
  cases h' with
  | bit _ hb' _=>rw [hb] at hb';cases hb'
  | cons _ ns' ss' hb' hk' hn' hl' hs' hf'=>
   have e1:ns=ns':=by rw [hn,hn']
   have e2:ss=ss':=by
    apply List.ext_getElem (by rw [hl,hl'])
    intro i h1 h2
    have hc:(consOf l t)[i]? = some ((consOf l t)[i]'(by omega)):=List.getElem?_eq_getElem _
    have a1:=hs i _ _ hc (List.getElem?_eq_getElem h1)
    have b1:=hs' i _ _ hc (List.getElem?_eq_getElem h2)
    apply List.ext_getElem (by rw [a1,b1])
    intro j g1 g2
    exact ih i _ _ j _ _ hc (List.getElem?_eq_getElem h1) (List.getElem?_eq_getElem (by omega)) (List.getElem?_eq_getElem g1) _ (hf' i _ _ j _ _ hc (List.getElem?_eq_getElem h2) (List.getElem?_eq_getElem (by omega)) (List.getElem?_eq_getElem g2))
   rw [e1,e2]
theorem eFs_sh {l:List DataV} {rec:Rec} (hr:∀ t c,(rec t c).2=0→∃ s,IsSh l t s):∀ (fs:List FieldV) c,(eFs rec fs c).2=0→∃ ss:List Sh,ss.length=fs.length∧∀ (j:Nat) f y,fs[j]? = some f→ss[j]? = some y→IsSh l f.ty y
 | [],_,_=>⟨[],rfl,fun j f y h=>by simp at h⟩
 | f::r,c,h=>by
  simp only [eFs] at h
  split at h
  ·rename_i hz
   obtain ⟨s,hs⟩:=hr f.ty c hz
   obtain ⟨ss,h1,h2⟩:=eFs_sh hr r _ h
   refine ⟨s::ss,by simp [h1],fun j f' y g1 g2 => ?_⟩
   cases j with
   | zero=>simp at g1 g2;exact g1 ▸ g2 ▸ hs
   | succ j=>exact h2 j f' y (by simpa using g1) (by simpa using g2)
  ·rename_i hz;exact absurd h hz
theorem eCs_sh {l:List DataV} {rec:Rec} (hr:∀ t c,(rec t c).2=0→∃ s,IsSh l t s):∀ (cs:List ConV) c,(eCs rec cs c).2=0→∃ ss:List (List Sh),ss.length=cs.length∧∀ (i:Nat) k s,cs[i]? = some k→ss[i]? = some s→s.length=k.fields.length∧∀ (j:Nat) f y,k.fields[j]? = some f→s[j]? = some y→IsSh l f.ty y
 | [],_,_=>⟨[],rfl,fun j f y h=>by simp at h⟩
 | k::r,c,h=>by
  simp only [eCs] at h
  split at h
  ·rename_i hz
   obtain ⟨s,hs1,hs2⟩:=eFs_sh hr k.fields c hz
   obtain ⟨ss,h1,h2⟩:=eCs_sh hr r _ h
   refine ⟨s::ss,by simp [h1],fun j f' y g1 g2 => ?_⟩
   cases j with
   | zero=>simp at g1 g2;subst g1;subst g2;exact ⟨hs1,hs2⟩
   | succ j=>exact h2 j f' y (by simpa using g1) (by simpa using g2)
  ·rename_i hz;exact absurd h hz
theorem eStep_sh {l:List DataV} {r:Option Rec} (hr:∀ rec,r=some rec→∀ t c,(rec t c).2=0→∃ s,IsSh l t s) (t:TyV) (c:Int) (h:(eStep l r t c).2=0):∃ s,IsSh l t s:=by
 unfold eStep at h
 split at h
 ·cases h
 split at h
 ·cases h
 rename_i h2
 split at h
 ·cases h
 rename_i h2'
 split at h
 ·cases h
 rename_i h3'
 split at h
 ·cases h
 split at h
 ·cases h
 split at h
 ·rename_i hb;exact ⟨_,.bit t hb (by
   by_cases hw:1≤(argOf t).v∧(argOf t).v≤16
   ·exact hw
   ·exact absurd ⟨hb,hw⟩ h3') (Decidable.byContradiction fun h=>h2' ⟨hb,h⟩)⟩
 ·rename_i hb
  obtain ⟨ss,h3,h4⟩:=eCs_sh (hr _ rfl) _ _ h
  exact ⟨_,.cons t _ ss (by simpa using hb) h2 rfl h3 (fun i c s g1 g2=>(h4 i c s g1 g2).1) (fun i c s j f y g1 g2 g3 g4=>(h4 i c s g1 g2).2 j f y g3 g4)⟩
theorem expE_sh (l:List DataV):∀ n t c,(expE l n t c).2=0→∃ s,IsSh l t s
 | 0=>eStep_sh fun rec h=>by cases h
 | n+1=>eStep_sh fun rec h=>by cases h;exact expE_sh l n
open Classical in
noncomputable def shOf (l:List DataV) (t:TyV):Sh:=if h:∃ s,IsSh l t s then Classical.choose h else .bit 0
theorem shOf_eq {l:List DataV} {t:TyV} {s:Sh} (h:IsSh l t s):shOf l t=s:=by
 have hx:∃ s,IsSh l t s:=⟨s,h⟩
 unfold shOf
 rw [dif_pos hx]
 exact (Classical.choose_spec hx).unique _ h
def tagI (n:Nat):Int:=if n≤1 then 0 else if n≤2 then 1 else if n≤4 then 2 else if n≤8 then 3 else 4
theorem tags:(List.range 17).all (fun n=>match callF MX 20 73 [.int .i64 n] [] with
  | some (.ret (.int .i64 m),[])=>decide (m=tagI n)
  | _=>false)=true:=by kernel_rfl
theorem pureC {f:FuncId} {args:List AV} {v:AV} {hr:Heap} (hm:MX.mode f = { fresh:=true }) (ha:args.all AV.noRef=true) (hv:v.noRef=true) (hc:callW MX f args []=some (.ret v,hr)) (h:Heap) :
  doCall MX (callW MX) f args h=some (.ret v,h):=by
 have hs:∀ {l:List AV} {h:Heap},l.all AV.noRef=true→snapArgs l h=some (l,h):=by
  intro l
  induction l with
  | nil=>intro h _;rfl
  | cons a r ih=>
   intro h hn
   simp only [List.all_cons,Bool.and_eq_true] at hn
   simp only [snapArgs,hn.1,ih hn.2]
 unfold doCall
 simp only [hm,hs ha,ha,hc,closeRes,hv]
theorem c73 (n:Nat) (hn:n≤16) (h:Heap):doCall MX (callW MX) 73 [.int .i64 n] h=some (.ret (.int .i64 (tagI n)),h):=by
 have h1:=List.all_eq_true.1 tags n (by simp;omega)
 split at h1
 ·rename_i m hm
  have:=of_decide_eq_true h1
  subst this
  exact pureC mode_73 rfl rfl (callW_some.2 ⟨20,hm⟩) h
 ·cases h1
theorem max_ints (T:Ty) (ts:List TypeId) (k k':IntKind) (x y:Int) (h:Heap):builtinA T .max ts [.int k x,.int k' y] h=some (.val (.int k (if y > x then y else x)) h):=rfl
def wAdd (a b:Int):Int:=wr .i64 (a+b)
mutual
def shW:Sh→Int
 | .bit n=>n
 | .cons _ ss=>wAdd (tagI ss.length) (shRoom ss 0)
def shRoom:List (List Sh)→Int→Int
 | [],m=>m
 | s::r,m=>shRoom r (if shWs s 0 > m then shWs s 0 else m)
def shWs:List Sh→Int→Int
 | [],a=>a
 | s::r,a=>shWs r (wAdd a (shW s))
end
theorem shWs_drop {s:List Sh} {j:Nat} (hj:j<s.length) (a:Int):shWs (s.drop j) a=shWs (s.drop (j+1)) (wAdd a (shW s[j])):=by
 rw [List.drop_eq_getElem_cons hj];simp only [shWs]
theorem shRoom_drop {ss:List (List Sh)} {j:Nat} (hj:j<ss.length) (m:Int):shRoom (ss.drop j) m=shRoom (ss.drop (j+1)) (if shWs ss[j] 0 > m then shWs ss[j] 0 else m):=by
 rw [List.drop_eq_getElem_cons hj];simp only [shRoom]
section
variable {l:List DataV} {lv:AV} (hl:SlR DataRep 3 l lv) (hsl:SmL 1048577 l) (hok:DOK l) (hlen:∀ t,VT l t→t.k≠2→isBit t=false→(consOf l t).length≤16)
include hl hsl hok hlen
theorem c26 (s:Sh):∀ (t:TyV) (xs:List AV),TyRep t xs→Sm 1048577 t→VT l t→IsSh l t s→∀ h,doCall MX (callW MX) 26 [lv,.agg xs] h=some (.ret (.int .i64 (shW s)),h):=by
 induction s using Sh.ind with
 | hb n=>
  intro t xs hx hst hv hs h
  have hn:([lv,AV.agg xs]:List AV).all AV.noRef=true:=by simp [AV.noRef,hx.noRefs,hl.noRef]
  have hB:=c66 hx
  obtain ⟨pv,rfl,hp⟩:=hx.dest'
  cases hs with
  | bit _ hb _=>
   have hb1:=hok.bit t hv hb
   obtain ⟨e,he,hR⟩:=hp.ix (i:=0) (by omega)
   have hag:argOf t=t.ps[0]'(by omega):=by simp [argOf,hb1]
   rw [← hag] at hR
   obtain ⟨qv,rfl,hq⟩:=hR.dest'
   simp only [Int.natCast_zero] at he
   exact pureX mode_26 eff_26 hn rfl (hr:=[Blk.var false [AV.int .i64 t.k,AV.int .i64 t.v,AV.str t.nm,pv]]) (by simp [runW,Tryz.f26,hB,hb,he,shW]) h
 | hc ns ss ih=>
  intro t xs hx hst hv hs h
  cases hs with
  | cons _ _ _ hb hk hnn hll hs0 hf0=>
  have hn:([lv,AV.agg xs]:List AV).all AV.noRef=true:=by simp [AV.noRef,hx.noRefs,hl.noRef]
  have hB:=c66 hx
  obtain ⟨w,hw,h68⟩:=c68 hl hsl hx hst (hok.has t hv hk hb)
  have hcsm:=consOf_sm hsl hst (by decide)
  have hvf:=hok.fld t hv hk hb
  have h16:=hlen t hv hk hb
  have hT:=c73 (consOf l t).length h16
  -- a constructor
  have h122:∀ (i:Nat) (hi:i<(consOf l t).length) (hi2:i<ss.length) (cx:List AV),ConRep (consOf l t)[i] cx→∀ h,doCall MX (callW MX) 122 [lv,.agg cx] h=some (.ret (.int .i64 (shWs ss[i] 0)),h):=by
   intro i hi hi2 cx hcx h
   have hn2:([lv,AV.agg cx]:List AV).all AV.noRef=true:=by simp [AV.noRef,conRep_noRefs _ _ hcx,hl.noRef]
   obtain ⟨fv,rfl,hfv⟩:=hcx.dest
   have f1:=hs0 i _ _ (List.getElem?_eq_getElem hi) (List.getElem?_eq_getElem hi2)
   have f2:=fun j f y=>hf0 i _ _ j f y (List.getElem?_eq_getElem hi) (List.getElem?_eq_getElem hi2)
   have hsc:=hcsm.2 _ (List.getElem_mem hi)
   obtain ⟨e,st,hlp,hq⟩:=loop_up (M:=MX) (fid:=122) (N:=25) (C:=callW MX) (c:=loopC Tryz.f122 0) (n:=(consOf l t)[i].fields.length)
    (fun j (b:Int)=>([(0,lv),(3,.hp 0 0),(5,.int .i64 b),(6,.int .i64 j)],[Blk.var false [AV.str (consOf l t)[i].nm,fv]]))
    (fun j b=>shWs ss[i] 0=shWs (ss[i].drop j) b)
    (fun r=>r=(.ext 0,([(0,lv),(3,.hp 0 0),(5,.int .i64 (shWs ss[i] 0)),(6,.int .i64 (consOf l t)[i].fields.length),(11,.bool false)],[Blk.var false [AV.str (consOf l t)[i].nm,fv]]))) (fun j b hj hJ=>by
      obtain ⟨fe,hfe,hfR⟩:=hfv.ix hj
      have hj':=lt_cast hj
      have hwj:=wr_next hj hsc.2.1
      have hmf:=List.getElem_mem hj
      have hjs:j<ss[i].length:=by omega
      obtain ⟨tx,rfl,htx⟩:=hfR
      have hrec:=ih ss[i] (List.getElem_mem hi2) ss[i][j] (List.getElem_mem hjs) (consOf l t)[i].fields[j].ty tx htx (hsc.2.2 _ hmf).2 (hvf _ (List.getElem_mem hi) _ hmf) (f2 j _ _ (List.getElem?_eq_getElem hj) (List.getElem?_eq_getElem hjs))
      obtain ⟨qv,rfl,hqv⟩:=htx.dest'
      rw [shWs_drop hjs] at hJ
      exact .inl ⟨wAdd b (shW ss[i][j]),by simp [Tryz.f122,hfv.len,hj',hfe,hrec,hwj,wAdd],hJ⟩) (fun b hJ=>by
      rw [List.drop_of_length_le (by omega)] at hJ
      simp only [shWs] at hJ
      exact ⟨_,_,by simp [Tryz.f122,hfv.len] <;> first | exact ⟨rfl,rfl⟩ | rfl,by simp,by rw [hJ]⟩) 0 (by simp)
   cases hq
   simp [Tryz.f122] at hlp
   exact pureX mode_122 eff_122 hn2 rfl (hr:=[Blk.var false [AV.str (consOf l t)[i].nm,fv]]) (by simp [runW,Tryz.f122,hlp]) h
  obtain ⟨pv,rfl,hp⟩:=hx.dest'
  -- the room
  have h74:∀ h,doCall MX (callW MX) 74 [lv,.agg [.int .i64 t.k,.int .i64 t.v,.str t.nm,pv]] h=some (.ret (.int .i64 (shRoom ss 0)),h):=by
   intro h
   obtain ⟨e,st,hlp,hq⟩:=loop_up (M:=MX) (fid:=74) (N:=26) (C:=callW MX) (c:=loopC Tryz.f74 0) (n:=(consOf l t).length)
    (fun i (b:Int)=>([(0,lv),(5,w),(6,.int .i64 b),(7,.int .i64 i)],[Blk.var false [AV.int .i64 t.k,AV.int .i64 t.v,AV.str t.nm,pv]]))
    (fun i b=>shRoom ss 0=shRoom (ss.drop i) b)
    (fun r=>r=(.ext 0,([(0,lv),(5,w),(6,.int .i64 (shRoom ss 0)),(7,.int .i64 (consOf l t).length),(14,.bool false)],[Blk.var false [AV.int .i64 t.k,AV.int .i64 t.v,AV.str t.nm,pv]]))) (fun i b hi hI=>by
      obtain ⟨ce,hce,hcR⟩:=hw.ix hi
      have hi':=lt_cast hi
      have hwi:=wr_next hi hcsm.1
      have hi2:i<ss.length:=by omega
      have hW:=h122 i hi hi2 ce hcR
      obtain ⟨fv,rfl,hfv⟩:=hcR.dest
      rw [shRoom_drop hi2] at hI
      exact .inl ⟨if shWs ss[i] 0 > b then shWs ss[i] 0 else b,by simp [Tryz.f74,hw.len,hi',hce,hW,hwi,max_ints],hI⟩) (fun b hI=>by
      rw [List.drop_of_length_le (by omega)] at hI
      simp only [shRoom] at hI
      exact ⟨_,_,by simp [Tryz.f74,hw.len] <;> first | exact ⟨rfl,rfl⟩ | rfl,by simp,by rw [hI]⟩) 0 (by simp)
   cases hq
   simp [Tryz.f74] at hlp
   exact pureX mode_74 eff_74 hn rfl (hr:=[Blk.var false [AV.int .i64 t.k,AV.int .i64 t.v,AV.str t.nm,pv]]) (by simp [runW,Tryz.f74,h68,hlp]) h
  have hw2:=hw
  rcases hw2 with ⟨he,rfl⟩ | ⟨ex,es,rfl,hes,_⟩
  ·rw [he] at hT
   have hs0:ss.length=0:=by rw [hll,he];rfl
   exact pureX mode_26 eff_26 hn rfl (hr:=[Blk.var false [AV.int .i64 t.k,AV.int .i64 t.v,AV.str t.nm,pv]]) (by simp at hT;simp [runW,Tryz.f26,hB,hb,h68,hT,h74,shW,wAdd,hs0,noRefs,AV.noRef,hl.noRef,hp.noRef]) h
  ·exact pureX mode_26 eff_26 hn rfl (hr:=[Blk.var false [AV.int .i64 t.k,AV.int .i64 t.v,AV.str t.nm,pv]]) (by simp [runW,Tryz.f26,hB,hb,h68,hes,hT,h74,shW,wAdd,hll,noRefs,AV.noRef,hl.noRef,hp.noRef]) h
noncomputable def rTypeErr (l:List DataV) (t:TyV):Int:=if rTreeErr l [] t=0 then (if (expE l 40 t 0).2=0 then (if 1≤shW (shOf l t)∧shW (shOf l t)≤16 then 0 else 25) else (expE l 40 t 0).2) else rTreeErr l [] t
theorem c85 {t:TyV} {xs:List AV} (hx:TyRep t xs) (hst:Sm 1048577 t) (h:Heap):doCall MX (callW MX) 85 [lv,.agg xs] h=some (.ret (.int .i64 (rTypeErr l t)),h):=by
 have hn:([lv,AV.agg xs]:List AV).all AV.noRef=true:=by simp [AV.noRef,hx.noRefs,hl.noRef]
 have h153:=c153 hl hsl.1 (params:=[]) (pr:=.nils) (.inl ⟨rfl,rfl⟩) (by decide) (fun d hd=>(hsl.2 d hd).2.1) hx hst
 have h154:=fun hv=>c154 hl hsl hok 40 (by decide) t xs 0 0 hx hst hv (by decide) (by decide)
 have h26:=fun s=>c26 hl hsl hok hlen s t xs hx hst
 obtain ⟨pv,rfl,hp⟩:=hx.dest'
 obtain ⟨hr,hc⟩:∃ hr,runW MX 85 [lv,.agg [.int .i64 t.k,.int .i64 t.v,.str t.nm,pv]] []=some (.ret (.int .i64 (rTypeErr l t)),hr):=by
  unfold rTypeErr
  by_cases h1:rTreeErr l [] t=0
  ·have hv:VT l t:=by
    unfold rTreeErr at h1
    split at h1
    ·exact h1
    ·cases h1
   have e154:=h154 hv
   rw [show (40:Int) - ((40:Nat):Int)=0 by decide] at e154
   by_cases h2:(expE l 40 t 0).2=0
   ·obtain ⟨s,hs⟩:=expE_sh l 40 t 0 h2
    have e26:=h26 s hv hs
    rw [shOf_eq hs]
    by_cases h3:1≤shW s∧shW s≤16
    ·exact ⟨_,by simp [runW,Tryz.f85,h153,h1,e154,h2,e26,h3] <;> rfl⟩
    ·exact ⟨_,by simp [runW,Tryz.f85,h153,h1,e154,h2,e26,h3] <;> rfl⟩
   ·have h2':((expE l 40 t 0).2 != 0)=true:=by simp [h2]
    exact ⟨_,by simp [runW,Tryz.f85,h153,h1,e154,h2,h2'] <;> rfl⟩
  ·have h1':(rTreeErr l [] t != 0)=true:=by simp [h1]
   exact ⟨_,by simp [runW,Tryz.f85,h153,h1,h1'] <;> rfl⟩
 exact pureX mode_85 eff_85 hn rfl hc h
end
end Go.Proofs.Am12
namespace Go.Proofs.Am12
open Go Go.Am
attribute [local simp] cw_skip cw_region cw_seq cw_cond cw_block cw_loop cw_exit cw_ret regionA runOps wantedA opEx xVal xPick xAlloc xBox xBuild xBuildSlice xLoad xStore xNil xBin xUn xConv xIface xFunc xMakeSlice xSlice xFieldAddr xField xIndexAddr xIndex xLookup xUpdate xExtract xBuiltin xPanic xCall
 ev evs ofVal ofCell OR.ofV OR.ofVH OR.ofC putD Tm.get Tm.init Tm.only beq_d ble_d blt_d finish resultA resA binA intBin strBin unA cells_int cells_bool cells_str cells_nilp cells_ro cells_hp cells_ep cells_nils cells_sl cells_hs cells_nilm cells_hm cells_fn cells_nilf cells_agg loopC loopsIn lenSl_nils lenSl_sl lenSl_hs lenSt_str faA_ro faA_hp faA_ep ld1_def ldN_def takeA rd_ro rd_hp rd_ep stA spliceAt zipFst fillC kdRead blkOf noCh okDraw_ld okDraw_l okPairsL loudS kdSh
set_option maxHeartbeats 1000000
attribute [local simp] okDraw_k okPairsM loudOf kdClash mods_at0 mods_at1 mods_at2 mods_at3 mods_at4 mods_at5 mods_at6 kd_move kd_assign kd_pick kd_build kd_nil kd_bin kd_un kd_iface kd_func kd_slice kd_fieldAddr kd_field kd_indexAddr kd_index kd_extract kd_load kd_lookup kd_len kd_max kd_min kd_append kd_callv kd_alloc kd_box kd_bs kd_map kd_ms kd_cv kd_store kd_mapUpdate kd_insert kdLen_nils kdLen_sl kdLen_hs kdLen_str
mutual
def pErr (s:Sh):TyV→Int
 | .mk k v nm ps=>
  if k=0 then (if 0<ps.length then 10 else 0)
  else if k=1 then (if 0<ps.length then 10 else if isNameS nm=false then 4 else 0)
  else if k=3 then (match s with
   | .bit n=>if 0<ps.length then 10 else if 0≤v∧v≤((2 ^ n.toNat:Nat):Int) - 1 then 0 else 2
   | .cons _ _=>26)
  else if k=2 then (match s with
   | .bit _=>6
   | .cons ns ss=>match ns.findIdx? (fun x=>x == nm) with
    | none=>6
    | some i=>if ps.length≠(ss.getD i []).length then 10 else pErrs (ss.getD i []) ps)
  else 15
def pErrs (ss:List Sh):List TyV→Int
 | []=>0
 | p::r=>if pErr (ss.headD default) p=0 then pErrs ss.tail r else pErr (ss.headD default) p
end
theorem pErrs_drop {ss:List Sh} {ps:List TyV} {j:Nat} (hj:j<ps.length) (hs:j<ss.length):pErrs (ss.drop j) (ps.drop j)=if pErr ss[j] ps[j]=0 then pErrs (ss.drop (j+1)) (ps.drop (j+1)) else pErr ss[j] ps[j]:=by
 rw [List.drop_eq_getElem_cons hj,List.drop_eq_getElem_cons hs]
 simp only [pErrs,List.headD_cons,List.tail_cons]
 first | rfl | (split <;> rfl)
theorem c121 (n w:Int) (h0:0≤w) (h1:w≤62) (h:Heap):doCall MX (callW MX) 121 [.int .i64 n,.int .i64 w] h=some (.ret (.bool (decide (0≤n∧n≤((2 ^ w.toNat:Nat):Int) - 1))),h):=by
 have hp:(2:Nat) ^ w.toNat≤2 ^ 62:=Nat.pow_le_pow_right (by decide) (by omega)
 have hp':(2:Nat) ^ w.toNat<9223372036854775808:=Nat.lt_of_le_of_lt hp (by decide)
 have hpos:0<(2:Nat) ^ w.toNat:=Nat.pow_pos (by decide)
 have hc:=c67 w h0 h1
 obtain ⟨P,hP⟩:∃ P:Nat,P=2 ^ w.toNat:=⟨_,rfl⟩
 rw [← hP] at hp' hpos hc ⊢
 have hw:wr .i64 ((P:Int) - 1)=(P:Int) - 1:=wr_i64 (by omega) (by omega)
 exact pureX mode_121 eff_121 rfl rfl (hr:=[]) (by simp [runW,Tryz.f121,hc,hw]) h
section
variable {l:List DataV} {lv:AV} (hl:SlR DataRep 3 l lv) (hsl:SmL 1048577 l) (hok:DOK l)
include hl hsl hok
theorem c87 (p:TyV):∀ (px:List AV),TyRep p px→Sm 1048577 p→∀ (s:Sh) (t:TyV) (xs:List AV),TyRep t xs→Sm 1048577 t→VT l t→IsSh l t s→∀ h,doCall MX (callW MX) 87 [lv,.agg xs,.agg px] h=some (.ret (.int .i64 (pErr s p)),h):=by
 induction p using TyV.ind with
 | h k v nm ps ih=>
  intro px hpx hsp s t xs hx hst hv hs h
  have hn:([lv,AV.agg xs,AV.agg px]:List AV).all AV.noRef=true:=by simp [AV.noRef,hx.noRefs,hl.noRef,hpx.noRefs]
  obtain ⟨s1,s2,s3⟩:=hsp.dest
  have hB:=c66 hx
  have hNm:=c157 nm s1
  -- a constructor
  have h158:k=2→∀ h,doCall MX (callW MX) 158 [lv,.agg xs,.agg px] h=some (.ret (.int .i64 (pErr s (.mk 2 v nm ps))),h):=by
   rintro rfl
   intro h
   cases hs with
   | bit _ hb _=>
    obtain ⟨qv,rfl,hq⟩:=hpx.dest
    obtain ⟨pv,rfl,hp⟩:=hx.dest'
    exact pureX mode_158 eff_158 hn rfl (hr:=[Blk.var false [AV.int .i64 t.k,AV.int .i64 t.v,AV.str t.nm,pv],Blk.var false [AV.int .i64 2,AV.int .i64 v,AV.str nm,qv]]) (by simp [runW,Tryz.f158,hB,hb,pErr]) h
   | cons _ ns ss hb hk hnn hll hs0 hf0=>
    obtain ⟨w,hw,h68⟩:=c68 hl hsl hx hst (hok.has t hv hk hb)
    have hcsm:=consOf_sm hsl hst (by decide)
    have hvf:=hok.fld t hv hk hb
    have h72:=c72 nm hw hcsm.1
    have hfi:ns.findIdx? (fun x=>x == nm)=(consOf l t).findIdx? (fun x=>x.nm == nm):=by rw [hnn,List.findIdx?_map];rfl
    have hb7:=bef_158_7
    simp [opsF,opsAt,Tryz.f158] at hb7
    have hb12:=bef_158_12
    simp [opsF,opsAt,Tryz.f158] at hb12
    obtain ⟨qv,rfl,hq⟩:=hpx.dest
    obtain ⟨pv,rfl,hp⟩:=hx.dest'
    obtain ⟨hr,hc⟩:∃ hr,runW MX 158 [lv,.agg [.int .i64 t.k,.int .i64 t.v,.str t.nm,pv],.agg [.int .i64 2,.int .i64 v,.str nm,qv]] []=some (.ret (.int .i64 (pErr (.cons ns ss) (.mk 2 v nm ps))),hr):=by
     cases hf:(consOf l t).findIdx? (fun x=>x.nm == nm) with
     | none=>
      have hpe:pErr (.cons ns ss) (.mk 2 v nm ps)=6:=by simp [pErr,hfi,hf]
      rw [hpe]
      exact ⟨_,by simp [runW,Tryz.f158,hB,hb,h68,h72,hf,ixI] <;> rfl⟩
     | some i=>
      have hi:=fi_lt hf
      have hi0:¬ ((i:Int)<0):=by omega
      have hi2:i<ss.length:=by omega
      have hgd:ss.getD i []=ss[i]:=by simp [hi2]
      obtain ⟨ce,hce,hcR⟩:=hw.ix hi
      obtain ⟨fv,rfl,hfv⟩:=hcR.dest
      have hsc:=hcsm.2 _ (List.getElem_mem hi)
      have hsl2:=hs0 i _ _ (List.getElem?_eq_getElem hi) (List.getElem?_eq_getElem hi2)
      have hpe:pErr (.cons ns ss) (.mk 2 v nm ps)=if ps.length≠(consOf l t)[i].fields.length then 10 else pErrs ss[i] ps:=by simp [pErr,hfi,hf,hi2,hsl2]
      rw [hpe]
      by_cases hL:ps.length=(consOf l t)[i].fields.length
      ·have hL':((ps.length:Int) != ((consOf l t)[i].fields.length:Int))=false:=by simp [hL]
       have hLs:ps.length=ss[i].length:=by omega
       obtain ⟨e,st,hlp,hq0⟩:=loop_up (M:=MX) (fid:=158) (N:=58) (C:=callW MX) (c:=loopC Tryz.f158 0) (n:=ps.length)
        (fun j (_:Unit)=>([(0,lv),(5,.hp 1 0),(7,w),(8,.int .i64 i),(9,.int .i64 j)],[Blk.var false [AV.int .i64 t.k,AV.int .i64 t.v,AV.str t.nm,pv],Blk.var false [AV.int .i64 2,AV.int .i64 v,AV.str nm,qv]]))
        (fun j _=>pErrs ss[i] ps=pErrs (ss[i].drop j) (ps.drop j))
        (fun r=>(r=(.ext 0,([(0,lv),(5,.hp 1 0),(7,w),(8,.int .i64 i),(9,.int .i64 ps.length),(36,.bool false)],[Blk.var false [AV.int .i64 t.k,AV.int .i64 t.v,AV.str t.nm,pv],Blk.var false [AV.int .i64 2,AV.int .i64 v,AV.str nm,qv]]))∧pErrs ss[i] ps=0) ∨
          (r=(.ret,([(6,.int .i64 (pErrs ss[i] ps))],[Blk.var false [AV.int .i64 t.k,AV.int .i64 t.v,AV.str t.nm,pv],Blk.var false [AV.int .i64 2,AV.int .i64 v,AV.str nm,qv]])))) (fun j b hj hJ=>by
          have hjf:j<(consOf l t)[i].fields.length:=by omega
          have hjs:j<ss[i].length:=by omega
          obtain ⟨fe,hfe,hfR⟩:=hfv.ix hjf
          obtain ⟨pe,hpe,hpR⟩:=hq.ix hj
          have hj':=lt_cast hj
          have hwj:=wr_next hj s2
          have hmf:=List.getElem_mem hjf
          obtain ⟨tx,rfl,htx⟩:=hfR
          have hrec:=ih ps[j] (List.getElem_mem hj) pe hpR (s3 _ (List.getElem_mem hj)) ss[i][j] (consOf l t)[i].fields[j].ty tx htx (hsc.2.2 _ hmf).2 (hvf _ (List.getElem_mem hi) _ hmf) (hf0 i _ _ j _ _ (List.getElem?_eq_getElem hi) (List.getElem?_eq_getElem hi2) (List.getElem?_eq_getElem hjf) (List.getElem?_eq_getElem hjs))
          obtain ⟨q1,rfl,hq1⟩:=htx.dest'
          obtain ⟨q2,rfl,hq2⟩:=hpR.dest'
          rw [pErrs_drop hj hjs] at hJ
          by_cases h0:pErr ss[i][j] ps[j]=0
          ·rw [if_pos h0] at hJ
           exact .inl ⟨(),by simp [Tryz.f158,hq.len,hj',hce,hfe,hpe,hrec,h0,hwj,hb12,noRefs,AV.noRef,hl.noRef,hq1.noRef,hq2.noRef],hJ⟩
          ·rw [if_neg h0] at hJ
           have hne:(pErr ss[i][j] ps[j] != 0)=true:=by simp [h0]
           exact .inr ⟨_,_,by simp [Tryz.f158,hq.len,hj',hce,hfe,hpe,hrec,hne,hb12,noRefs,AV.noRef,hl.noRef,hq1.noRef,hq2.noRef] <;> first | exact ⟨rfl,rfl⟩ | rfl,by simp,.inr (by rw [hJ])⟩) (fun b hJ=>by
          rw [List.drop_length] at hJ
          simp only [pErrs] at hJ
          exact ⟨_,_,by simp [Tryz.f158,hq.len] <;> first | exact ⟨rfl,rfl⟩ | rfl,by simp,.inl ⟨rfl,hJ⟩⟩) () (by simp)
       simp [Tryz.f158] at hlp
       rcases hq0 with ⟨hq0,hz⟩ | hq0 <;> cases hq0
       ·exact ⟨_,by simp [runW,Tryz.f158,hB,hb,h68,h72,hf,ixI,hi0,hce,hq.len,hfv.len,hq.kdLen,hfv.kdLen,hb7,hL,hlp,hz] <;> rfl⟩
       ·exact ⟨_,by simp [runW,Tryz.f158,hB,hb,h68,h72,hf,ixI,hi0,hce,hq.len,hfv.len,hq.kdLen,hfv.kdLen,hb7,hL,hlp] <;> rfl⟩
      ·have hL':((ps.length:Int) != ((consOf l t)[i].fields.length:Int))=true:=by simp;omega
       exact ⟨_,by simp [runW,Tryz.f158,hB,hb,h68,h72,hf,ixI,hi0,hce,hq.len,hfv.len,hq.kdLen,hfv.kdLen,hb7,hL',hL] <;> rfl⟩
    exact pureX mode_158 eff_158 hn rfl hc h
  have hb16:=bef_87_16
  simp [opsF,opsAt,Tryz.f87] at hb16
  have htx:=hx
  obtain ⟨qv,rfl,hq⟩:=hpx.dest
  obtain ⟨pv,rfl,hp⟩:=hx.dest'
  refine pureX mode_87 eff_87 hn rfl (hr:=[Blk.var false [AV.int .i64 t.k,AV.int .i64 t.v,AV.str t.nm,pv],Blk.var false [AV.int .i64 k,AV.int .i64 v,AV.str nm,qv]]) ?_ h
  by_cases k2:k=2
  ·subst k2
   simp [runW,Tryz.f87,h158 rfl]
  simp only [pErr]
  by_cases k0:k=0
  ·subst k0
   by_cases hL:0<ps.length
   ·have hL':(0<(ps.length:Int)):=by omega
    simp [runW,Tryz.f87,hq.len,hL',hL]
   ·have hL':¬ (0<(ps.length:Int)):=by omega
    simp [runW,Tryz.f87,hq.len,hL',hL]
  ·have k0':(k == 0)=false:=by simp [k0]
   by_cases k1:k=1
   ·subst k1
    by_cases hL:0<ps.length
    ·have hL':(0<(ps.length:Int)):=by omega
     simp [runW,Tryz.f87,hq.len,hL',hL]
    ·have hL':¬ (0<(ps.length:Int)):=by omega
     cases hN0:isNameS nm <;> simp [runW,Tryz.f87,hq.len,hL',hL,hNm,hN0]
   ·have k1':(k == 1)=false:=by simp [k1]
    by_cases k3:k=3
    ·subst k3
     cases hs with
     | cons _ ns ss hb _ _ _ _ _=>simp [runW,Tryz.f87,hB,hb]
     | bit _ hb hw=>
      have hb1:=hok.bit t hv hb
      obtain ⟨e,he,hR⟩:=hp.ix (i:=0) (by omega)
      have hag:argOf t=t.ps[0]'(by omega):=by simp [argOf,hb1]
      rw [← hag] at hR
      obtain ⟨qv2,rfl,hq2⟩:=hR.dest'
      simp only [Int.natCast_zero] at he
      have hF:=c121 v (argOf t).v (by omega) (by omega)
      by_cases hL:0<ps.length
      ·have hL':(0<(ps.length:Int)):=by omega
       simp [runW,Tryz.f87,hB,hb,hq.len,hL',hL]
      ·have hL':¬ (0<(ps.length:Int)):=by omega
       have e:∀ x,(if (3:Int)=0 then (if 0<ps.length then 10 else 0) else if (3:Int)=1 then (if 0<ps.length then 10 else if isNameS nm=false then 4 else 0) else if (3:Int)=3 then (match Sh.bit (argOf t).v with
         | .bit n=>if 0<ps.length then 10 else if 0≤v∧v≤((2 ^ n.toNat:Nat):Int) - 1 then 0 else 2
         | .cons _ _=>26) else x)=if 0≤v∧v≤((2 ^ (argOf t).v.toNat:Nat):Int) - 1 then (0:Int) else 2:=fun x=>by
        rw [if_neg (by decide),if_neg (by decide),if_pos rfl]
        show (if 0<ps.length then (10:Int) else _)=_
        rw [if_neg hL]
       have hgoal:∀ b:Bool,b=decide (0≤v∧v≤((2 ^ (argOf t).v.toNat:Nat):Int) - 1)→runW MX 87 [lv,AV.agg [AV.int .i64 t.k,AV.int .i64 t.v,AV.str t.nm,pv],AV.agg [AV.int .i64 3,AV.int .i64 v,AV.str nm,qv]] []=some (.ret (.int .i64 (if b then 0 else 2)),[Blk.var false [AV.int .i64 t.k,AV.int .i64 t.v,AV.str t.nm,pv],Blk.var false [AV.int .i64 3,AV.int .i64 v,AV.str nm,qv]]):=fun b hb2=>by
        rw [← hb2] at hF
        cases b <;> simp [runW,Tryz.f87,hB,hb,hq.len,hL',hL,he,hF,hb16,AV.noRef]
       have h5:=hgoal _ rfl
       rw [h5]
       refine congrArg (fun z=>some (CR.ret (AV.int .i64 z),_)) ?_
       by_cases hr:0≤v∧v≤((2 ^ (argOf t).v.toNat:Nat):Int) - 1
       ·rw [decide_eq_true hr];exact ((e _).trans (if_pos hr)).symm
       ·rw [decide_eq_false hr];exact ((e _).trans (if_neg hr)).symm
    ·have k3':(k == 3)=false:=by simp [k3]
     have k2':(k == 2)=false:=by simp [k2]
     simp [runW,Tryz.f87,k0',k1',k2',k3',k0,k1,k2,k3]
end
mutual
def namesOf:TyV→List Bytes
 | .mk k _ nm ps=>if k=1 then [nm] else namesOfs ps
def namesOfs:List TyV→List Bytes
 | []=>[]
 | p::r=>namesOf p++namesOfs r
end
theorem namesOfs_append:∀ (a b:List TyV),namesOfs (a++b)=namesOfs a++namesOfs b
 | [],b=>rfl
 | p::r,b=>by simp [namesOfs,namesOfs_append r b]
theorem namesOfs_take {ps:List TyV} {i:Nat} (hi:i<ps.length):namesOfs (ps.take (i+1))=namesOfs (ps.take i)++namesOf ps[i]:=by
 rw [← take_push hi,namesOfs_append]
 simp [namesOfs]
theorem namesOfs_len (ps:List TyV) (i:Nat):(namesOfs (ps.take i)).length≤(namesOfs ps).length:=by
 have:=congrArg List.length (namesOfs_append (ps.take i) (ps.drop i))
 rw [List.take_append_drop] at this
 simp at this
 omega
theorem namesOf_mem_len {ps:List TyV} {p:TyV} (hp:p∈ps):(namesOf p).length≤(namesOfs ps).length:=by
 obtain ⟨i,hi,rfl⟩:=List.getElem_of_mem hp
 have:=namesOfs_len ps (i+1)
 rw [namesOfs_take hi] at this
 simp at this
 omega
theorem rep_pushs {α:Type} {R:α→List AV→Prop} {l m:List α} {es xs:List (List AV)} (hl:es.length=l.length) (hr:∀ (i:Nat) a e,l[i]? = some a→es[i]? = some e→R a e) (hl2:xs.length=m.length) (hr2:∀ (i:Nat) a e,m[i]? = some a→xs[i]? = some e→R a e) :
  (es++xs).length=(l++m).length∧∀ (i:Nat) a' e',(l++m)[i]? = some a'→(es++xs)[i]? = some e'→R a' e':=by
 refine ⟨by simp [hl,hl2],fun i a' e' h1 h2 => ?_⟩
 by_cases hi:i<l.length
 ·rw [List.getElem?_append_left hi] at h1
  rw [List.getElem?_append_left (by omega)] at h2
  exact hr i a' e' h1 h2
 ·rw [List.getElem?_append_right (by omega)] at h1
  rw [List.getElem?_append_right (by omega)] at h2
  rw [hl] at h2
  exact hr2 _ a' e' h1 h2
theorem acc_app {sz byt:Nat} {P rest:Heap} {a:AV} {es xs:List (List AV)} {x:AV} (h:AccIn sz P.length rest a es) (hx:rdElems (P++rest) x=some xs) (hs:szOk sz x=true) (hnx:∀ b,x≠.str b) (h0:0<sz) (hb:byt≤1024) (hn:es.length+xs.length<16777216) :
  ∃ a' rest',apA sz byt a x (P++rest)=some (a',P++rest')∧AccIn sz P.length rest' a' (es++xs):=by
 by_cases he:xs=[]
 ·subst he
  refine ⟨a,rest,?_,by simpa using h⟩
  have hbb:(es.length+0) * byt≤17592186044416:=Nat.le_trans (Nat.mul_le_mul (show es.length+0≤16777216 by simp at hn;omega) hb) (by decide)
  have hap:∀ n,lenA a=some n→apA sz byt a x (P++rest)=apX sz byt a [] n (P++rest):=fun n hl=>by
   unfold apA
   cases x with
   | str b=>exact absurd rfl (hnx b)
   | _=>first | simp only [hs,hx,hl] | (simp only [rdElems] at hx;cases hx)
  rcases h with ⟨rfl,rfl⟩ | ⟨j,hne,rfl,h2⟩
  ·rw [hap 0 rfl]
   have e1:szOk sz AV.nils=true:=rfl
   simp [apX,e1,h0]
  ·rw [hap es.length rfl]
   have e1:szOk sz (.hs (P.length+j) es.length sz 0 es.length false)=true:=by simp [szOk,elemSz]
   simp only [Nat.add_zero] at hbb
   simp only [List.length_nil,Nat.add_zero] at hn
   simp [apX,e1,h0,hbb,show es.length≤17592186044416 by omega]
 ·exact h.pushs hx hs hnx he h0 hb hn
theorem _root_.Go.Am.SlR.nstr {α:Type} {R:α→List AV→Prop} {sz:Nat} {l:List α} {v:AV} (hv:SlR R sz l v):∀ b,v≠.str b:=fun b e=>by subst e;rcases hv with ⟨_,e⟩ | ⟨_,_,e,_⟩ <;> cases e
theorem c88 (p:TyV):∀ (px:List AV),TyRep p px→Sm 1048577 p→(namesOf p).length<1048577→∃ w,SlR StrRep 1 (namesOf p) w∧∀ h,doCall MX (callW MX) 88 [.agg px] h=some (.ret w,h):=by
 induction p using TyV.ind with
 | h k v nm ps ih=>
  intro px hpx hsp hlen
  have hn:([AV.agg px]:List AV).all AV.noRef=true:=by simp [AV.noRef,hpx.noRefs]
  obtain ⟨s1,s2,s3⟩:=hsp.dest
  obtain ⟨qv,rfl,hq⟩:=hpx.dest
  by_cases k1:k=1
  ·subst k1
   refine ⟨.sl 1 true [[.str nm]],?_,fun h=>pureX mode_88 eff_88 hn rfl (hr:=[Blk.var false [AV.int .i64 1,AV.int .i64 v,AV.str nm,qv]]) (by simp [runW,Tryz.f88,bsA,fillE,List.replicate,noRefs,AV.noRef]) h⟩
   simp only [namesOf,if_true]
   exact .inr ⟨true,_,rfl,rfl,fun i a e h1 h2=>by
    cases i with
    | zero=>simp at h1 h2;subst h1;subst h2;rfl
    | succ i=>simp at h1⟩
  ·have k1':(k == 1)=false:=by simp [k1]
   have hnm:namesOf (.mk k v nm ps)=namesOfs ps:=by simp [namesOf,k1]
   rw [hnm] at hlen ⊢
   obtain ⟨e,st,hlp,hq0⟩:=loop_up (M:=MX) (fid:=88) (N:=27) (C:=callW MX) (c:=loopC Tryz.f88 0) (n:=ps.length)
    (fun i (b:AV×Heap×List (List AV))=>([(1,.hp 0 0),(3,b.1),(4,.int .i64 i)],Blk.var false [AV.int .i64 k,AV.int .i64 v,AV.str nm,qv]::b.2.1))
    (fun i b=>AccIn 1 1 b.2.1 b.1 b.2.2∧b.2.2.length=(namesOfs (ps.take i)).length∧∀ (j:Nat) t e,(namesOfs (ps.take i))[j]? = some t→b.2.2[j]? = some e→StrRep t e)
    (fun r=>∃ b:AV×Heap×List (List AV),r=(.ext 0,([(1,.hp 0 0),(3,b.1),(4,.int .i64 ps.length),(15,.bool false)],Blk.var false [AV.int .i64 k,AV.int .i64 v,AV.str nm,qv]::b.2.1)) ∧
      AccIn 1 1 b.2.1 b.1 b.2.2∧b.2.2.length=(namesOfs ps).length∧∀ (j:Nat) t e,(namesOfs ps)[j]? = some t→b.2.2[j]? = some e→StrRep t e) (fun i b hi hI=>by
      obtain ⟨a,rest,es⟩:=b
      obtain ⟨i1,i2,i3⟩:=hI
      simp only at i1 i2 i3
      obtain ⟨e,he,hR⟩:=hq.ix hi
      have hi':=lt_cast hi
      have hw:=wr_next hi s2
      have hml:=namesOf_mem_len (List.getElem_mem hi)
      obtain ⟨w,hwr,hcall⟩:=ih ps[i] (List.getElem_mem hi) e hR (s3 _ (List.getElem_mem hi)) (by omega)
      obtain ⟨xs,x1,x2,x3,x4⟩:=hwr.rd ([Blk.var false [AV.int .i64 k,AV.int .i64 v,AV.str nm,qv]]++rest)
      obtain ⟨j1,j2⟩:=rep_pushs i2 i3 x3 x4
      rw [← namesOfs_take hi] at j1 j2
      have htl:=namesOfs_len ps i
      obtain ⟨a',rest',hap,hacc⟩:=acc_app (byt:=16) (P:=[Blk.var false [AV.int .i64 k,AV.int .i64 v,AV.str nm,qv]]) i1 x1 x2 hwr.nstr (by decide) (by decide) (by omega)
      simp only [List.cons_append,List.nil_append] at hap
      obtain ⟨q1,rfl,hq1⟩:=hR.dest'
      exact .inl ⟨(a',rest',es++xs),by simp [Tryz.f88,hq.len,hi',he,hcall,hap,hw],hacc,j1,j2⟩) (fun b hI=>by
      obtain ⟨a,rest,es⟩:=b
      obtain ⟨i1,i2,i3⟩:=hI
      rw [List.take_length] at i2 i3
      exact ⟨_,_,by simp [Tryz.f88,hq.len] <;> first | exact ⟨rfl,rfl⟩ | rfl,by simp,(a,rest,es),rfl,i1,i2,i3⟩) (.nils,[],[]) ⟨.nil _ _ _,by simp [namesOfs],fun j t e h=>by simp [namesOfs] at h⟩
   obtain ⟨⟨a,rest,es⟩,hq0,i1,i2,i3⟩:=hq0
   cases hq0
   simp [Tryz.f88] at hlp
   obtain ⟨v',rest',hsn,hrep,heq⟩:=acc_end (P:=[Blk.var false [AV.int .i64 k,AV.int .i64 v,AV.str nm,qv]]) strRep_noRefs i1 i2 i3
   exact ⟨v',hrep,fun h=>pureT mode_88 eff_88 hn hsn (by decide) hrep.noRef heq (by simp [runW,Tryz.f88,k1',hlp]) h⟩
theorem tyIn_names (t:TyV):∀ d c,0≤c→tyIn t d c≤200→c+(namesOf t).length≤tyIn t d c:=by
 induction t using TyV.ind with
 | h k v nm ps ih=>
  intro d c h0 h
  have key:∀ (l:List TyV),(∀ p∈l,p∈ps)→∀ d c,0≤c→tyIns l d c≤200→c+(namesOfs l).length≤tyIns l d c:=by
   intro l
   induction l with
   | nil=>intro _ d c h0 h;simp [tyIns,namesOfs]
   | cons p r ihr=>
    intro hm d c h0 h
    simp only [tyIns,namesOfs,List.length_append] at h ⊢
    split
    ·rename_i hc
     rw [if_pos hc] at h
     have hp:=hm p (by simp)
     have hle:tyIn p d c≤200:=by
      cases r with
      | nil=>simpa [tyIns] using h
      | cons q r=>simp only [tyIns] at h;split at h <;> omega
     have h1:=ih p hp d c h0 hle
     have h2:=ihr (fun q hq=>hm q (by simp [hq])) d (tyIn p d c) (by omega) h
     omega
    ·rename_i hc;rw [if_neg hc] at h;omega
  simp only [tyIn] at h ⊢
  split
  ·rename_i hc;rw [if_pos hc] at h;omega
  ·rename_i hc
   rw [if_neg hc] at h
   have:=key ps (fun _ h=>h) (d+1) (c+1) (by omega) h
   simp only [namesOf]
   split
   ·have:∀ (l:List TyV) d c,c≤tyIns l d c∨200<tyIns l d c:=by
     intro l
     induction l with
     | nil=>intro d c;left;simp [tyIns]
     | cons p r ihr=>
      intro d c
      simp only [tyIns]
      split
      ·have hpm:∀ (p:TyV) d c,c≤tyIn p d c∨200<tyIn p d c:=by
        intro p
        induction p using TyV.ind with
        | h k v nm qs ihq=>
         intro d c
         simp only [tyIn]
         split
         ·right;omega
         ·have key2:∀ (l:List TyV),(∀ p∈l,p∈qs)→∀ d c,c≤tyIns l d c∨200<tyIns l d c:=by
           intro l
           induction l with
           | nil=>intro _ d c;left;simp [tyIns]
           | cons p r ihr2=>
            intro hm d c
            simp only [tyIns]
            split
            ·rcases ihq p (hm p (by simp)) d c with h1 | h1 <;> rcases ihr2 (fun q hq=>hm q (by simp [hq])) d (tyIn p d c) with h2 | h2 <;> omega
            ·left;omega
          rcases key2 qs (fun _ h=>h) (d+1) (c+1) with h1 | h1 <;> omega
       rcases hpm p d c with h1 | h1 <;> rcases ihr d (tyIn p d c) with h2 | h2 <;> omega
      ·left;omega
    rcases this ps (d+1) (c+1) with h1 | h1
    ·simp;omega
    ·omega
   ·omega
theorem isTree_names {t:TyV} (h:isTree t=true):(namesOf t).length≤200:=by
 unfold isTree at h
 have:=tyIn_names t 1 0 (by decide) (of_decide_eq_true h)
 have:=of_decide_eq_true h
 omega
def dups:List Bytes→List Bytes→Bool
 | _,[]=>false
 | prev,x::r=>(prev.findIdx? (fun y=>y == x)).isSome||dups (prev++[x]) r
def patErr (s:Sh) (p:TyV):Int:=if isTree p=false then 8 else if pErr s p=0 then (if dups [] (namesOf p) then 23 else 0) else pErr s p
section
variable {l:List DataV} {lv:AV} (hl:SlR DataRep 3 l lv) (hsl:SmL 1048577 l) (hok:DOK l)
include hl hsl hok
theorem c35 {p:TyV} {px:List AV} (hpx:TyRep p px) (hsp:Sm 1048577 p) {s:Sh} {t:TyV} {xs:List AV} (hx:TyRep t xs) (hst:Sm 1048577 t) (hv:VT l t) (hs:IsSh l t s) (h:Heap) :
  doCall MX (callW MX) 35 [lv,.agg xs,.agg px] h=some (.ret (.int .i64 (patErr s p)),h):=by
 have hn:([lv,AV.agg xs,AV.agg px]:List AV).all AV.noRef=true:=by simp [AV.noRef,hx.noRefs,hl.noRef,hpx.noRefs]
 have h86:=c86 hpx hsp
 have h87:=c87 hl hsl hok p px hpx hsp s t xs hx hst hv hs
 have h88:=c88 p px hpx hsp
 have hb10:=bef_35_10
 simp [opsF,opsAt,Tryz.f35] at hb10
 obtain ⟨pv,rfl,hp⟩:=hx.dest'
 obtain ⟨qv,rfl,hq⟩:=hpx.dest'
 obtain ⟨hr,hc⟩:∃ hr,runW MX 35 [lv,.agg [.int .i64 t.k,.int .i64 t.v,.str t.nm,pv],.agg [.int .i64 p.k,.int .i64 p.v,.str p.nm,qv]] []=some (.ret (.int .i64 (patErr s p)),hr):=by
  unfold patErr
  cases hT:isTree p with
  | false=>exact ⟨_,by simp [runW,Tryz.f35,h86,hT] <;> rfl⟩
  | true=>
   by_cases h0:pErr s p=0
   ·have hln:=isTree_names hT
    obtain ⟨w,hw,hcall⟩:=h88 (by omega)
    obtain ⟨e,st,hlp,hq0⟩:=loop_up (M:=MX) (fid:=35) (N:=36) (C:=callW MX) (c:=loopC Tryz.f35 0) (n:=(namesOf p).length)
     (fun i (_:Unit)=>([(8,w),(9,.int .i64 i)],[Blk.var false [AV.int .i64 t.k,AV.int .i64 t.v,AV.str t.nm,pv],Blk.var false [AV.int .i64 p.k,AV.int .i64 p.v,AV.str p.nm,qv]]))
     (fun i _=>dups [] (namesOf p)=dups ((namesOf p).take i) ((namesOf p).drop i))
     (fun r=>(r=(.ext 0,([(8,w),(9,.int .i64 (namesOf p).length),(25,.bool false)],[Blk.var false [AV.int .i64 t.k,AV.int .i64 t.v,AV.str t.nm,pv],Blk.var false [AV.int .i64 p.k,AV.int .i64 p.v,AV.str p.nm,qv]]))∧dups [] (namesOf p)=false) ∨
       (r=(.ret,([(6,.int .i64 23)],[Blk.var false [AV.int .i64 t.k,AV.int .i64 t.v,AV.str t.nm,pv],Blk.var false [AV.int .i64 p.k,AV.int .i64 p.v,AV.str p.nm,qv]]))∧dups [] (namesOf p)=true)) (fun i b hi hI=>by
       obtain ⟨e,he,hR⟩:=hw.ix hi
       have hi':=lt_cast hi
       have hwi:=wr_next hi (by omega)
       cases hR
       obtain ⟨w2,hw1,hw2⟩:=hw.slice (Nat.le_of_lt hi)
       have hH:=c89 (namesOf p)[i] hw2 (by simp;omega)
       have hdr:(namesOf p).drop i=(namesOf p)[i]::(namesOf p).drop (i+1):=List.drop_eq_getElem_cons hi
       rw [hdr] at hI
       simp only [dups] at hI
       rw [take_push hi] at hI
       cases hH0:(((namesOf p).take i).findIdx? (fun x=>x == (namesOf p)[i])).isSome with
       | true=>
        rw [hH0] at hI
        simp only [hH0] at hH
        exact .inr ⟨_,_,by simp [Tryz.f35,hw.len,hi',he,hw1,hw2.noRef,hH,hb10,AV.noRef] <;> first | exact ⟨rfl,rfl⟩ | rfl,by simp,.inr ⟨rfl,by rw [hI];rfl⟩⟩
       | false=>
        rw [hH0] at hI
        simp only [hH0] at hH
        exact .inl ⟨(),by simp [Tryz.f35,hw.len,hi',he,hw1,hw2.noRef,hH,hb10,AV.noRef,hwi],by simpa using hI⟩) (fun b hI=>by
       rw [List.drop_length] at hI
       exact ⟨_,_,by simp [Tryz.f35,hw.len] <;> first | exact ⟨rfl,rfl⟩ | rfl,by simp,.inl ⟨rfl,hI⟩⟩) () (by simp)
    simp [Tryz.f35] at hlp
    rcases hq0 with ⟨hq0,hd⟩ | ⟨hq0,hd⟩ <;> cases hq0
    ·exact ⟨_,by simp [runW,Tryz.f35,h86,hT,h87,h0,hcall,hlp,hd] <;> rfl⟩
    ·exact ⟨_,by simp [runW,Tryz.f35,h86,hT,h87,h0,hcall,hlp,hd] <;> rfl⟩
   ·have hne:(pErr s p != 0)=true:=by simp [h0]
    exact ⟨_,by simp [runW,Tryz.f35,h86,hT,h87,hne,h0] <;> rfl⟩
 exact pureX mode_35 eff_35 hn rfl hc h
end
def OKF (l:List DataV):Prop:=(rCheckData l).2=0→DOK l∧∀ t,VT l t→t.k≠2→isBit t=false→(consOf l t).length≤16
noncomputable def rBoth (l:List DataV) (t:TyV):Int:=if (rCheckData l).2=0 then rTypeErr l t else (rCheckData l).2
theorem rBoth_sh {l:List DataV} {t:TyV} (h:rBoth l t=0):(rCheckData l).2=0∧VT l t∧IsSh l t (shOf l t):=by
 unfold rBoth at h
 split at h
 ·rename_i h1
  unfold rTypeErr at h
  split at h
  ·rename_i h2
   split at h
   ·rename_i h3
    obtain ⟨s,hs⟩:=expE_sh l 40 t 0 h3
    refine ⟨h1,?_,by rw [shOf_eq hs];exact hs⟩
    unfold rTreeErr at h2
    split at h2
    ·exact h2
    ·cases h2
   ·rename_i h3;exact absurd h h3
  ·rename_i h2;exact absurd h h2
 ·rename_i h1;exact absurd h h1
def rArms (s:Sh):Nat→List TyV→Int×Int
 | _,[]=>(0,0)
 | i,p::r=>if patErr s p=0 then rArms s (i+1) r else (i,patErr s p)
noncomputable def rCheckArms (l:List DataV) (t:TyV) (arms:List TyV):Int×Int:=
 if rBoth l t=0 then (if arms.length=0 then (0,10) else if 12<arms.length then (0,8) else rArms (shOf l t) 0 arms) else (0,rBoth l t)
theorem TaskRep.dest {k:TaskV} {xs:List AV} (h:TaskRep k xs):∃ dv pv av,xs=[dv,.int .i64 k.ty.k,.int .i64 k.ty.v,.str k.ty.nm,pv,av]∧SlR DataRep 3 k.data dv∧SlR TyRep 4 k.ty.ps pv∧TyRep k.ty [.int .i64 k.ty.k,.int .i64 k.ty.v,.str k.ty.nm,pv]∧SlR TyRep 4 k.arms av:=by
 obtain ⟨dv,tx,av,rfl,h1,h2,h3⟩:=h
 have h2':=h2
 obtain ⟨pv,rfl,hp⟩:=h2.dest'
 exact ⟨dv,pv,av,rfl,h1,hp,h2',h3⟩
section
variable {l:List DataV} {lv:AV} (hl:SlR DataRep 3 l lv) (hsl:SmL 1048577 l) (hokf:OKF l)
include hl hsl hokf
theorem c34 {t:TyV} {xs:List AV} (hx:TyRep t xs) (hst:Sm 1048577 t) (h:Heap):doCall MX (callW MX) 34 [lv,.agg xs] h=some (.ret (.int .i64 (rBoth l t)),h):=by
 have hn:([lv,AV.agg xs]:List AV).all AV.noRef=true:=by simp [AV.noRef,hx.noRefs,hl.noRef]
 have h84:=c84 hl hsl
 have h85:=fun hok hlen=>c85 hl hsl hok hlen hx hst
 obtain ⟨pv,rfl,hp⟩:=hx.dest'
 refine pureX mode_34 eff_34 hn rfl (hr:=[Blk.var false [AV.int .i64 t.k,AV.int .i64 t.v,AV.str t.nm,pv]]) ?_ h
 unfold rBoth
 by_cases h0:(rCheckData l).2=0
 ·obtain ⟨hok,hlen⟩:=hokf h0
  simp [runW,Tryz.f34,h84,h0,h85 hok hlen]
 ·have hne:((rCheckData l).2 != 0)=true:=by simp [h0]
  simp [runW,Tryz.f34,h84,h0,hne]
end
theorem c32 {k:TaskV} {xs:List AV} (hx:TaskRep k xs) (hsk:SmT 1048577 k) (hokf:OKF k.data) (h:Heap):doCall MX (callW MX) 32 [.agg xs] h=some (.ret (.tup [.int .i64 (rCheckArms k.data k.ty k.arms).1,.int .i64 (rCheckArms k.data k.ty k.arms).2]),h):=by
 obtain ⟨dv,pv,av,rfl,hd,hp,ht,ha⟩:=hx.dest
 obtain ⟨s1,s2,s3,s4⟩:=hsk
 have hn:([AV.agg [dv,.int .i64 k.ty.k,.int .i64 k.ty.v,.str k.ty.nm,pv,av]]:List AV).all AV.noRef=true:=by simp [AV.noRef,noRefs,hd.noRef,hp.noRef,ha.noRef]
 have h34:=c34 hd s1 hokf ht s2
 have hb11:=bef_32_11
 simp [opsF,opsAt,Tryz.f32] at hb11
 refine pureX mode_32 eff_32 hn rfl (hr:=[Blk.var false [dv,.int .i64 k.ty.k,.int .i64 k.ty.v,.str k.ty.nm,pv,av]]) ?_ h
 unfold rCheckArms
 by_cases h0:rBoth k.data k.ty=0
 ·obtain ⟨c1,c2,c3⟩:=rBoth_sh h0
  obtain ⟨hok,hlen⟩:=hokf c1
  by_cases ha0:k.arms.length=0
  ·have ha0':((k.arms.length:Int) == 0)=true:=by simp only [beq_iff_eq];omega
   simp [runW,Tryz.f32,h34,h0,ha.len,ha0',ha0]
  ·have ha0':((k.arms.length:Int) == 0)=false:=by rw [beq_eq_false_iff_ne];omega
   by_cases ha12:12<k.arms.length
   ·have ha12':(12<(k.arms.length:Int)):=by omega
    simp [runW,Tryz.f32,h34,h0,ha.len,ha0',ha0,ha12,ha12']
   ·have ha12':¬ (12<(k.arms.length:Int)):=by omega
    obtain ⟨e,st,hlp,hq0⟩:=loop_up (M:=MX) (fid:=32) (N:=44) (C:=callW MX) (c:=loopC Tryz.f32 0) (n:=k.arms.length)
     (fun i (_:Unit)=>([(1,.hp 0 0),(5,.int .i64 i)],[Blk.var false [dv,.int .i64 k.ty.k,.int .i64 k.ty.v,.str k.ty.nm,pv,av]]))
     (fun i _=>rArms (shOf k.data k.ty) 0 k.arms=rArms (shOf k.data k.ty) i (k.arms.drop i))
     (fun r=>(r=(.ext 0,([(1,.hp 0 0),(5,.int .i64 k.arms.length),(27,.bool false)],[Blk.var false [dv,.int .i64 k.ty.k,.int .i64 k.ty.v,.str k.ty.nm,pv,av]]))∧rArms (shOf k.data k.ty) 0 k.arms=(0,0)) ∨
       (r=(.ret,([(2,.int .i64 (rArms (shOf k.data k.ty) 0 k.arms).1),(3,.int .i64 (rArms (shOf k.data k.ty) 0 k.arms).2)],[Blk.var false [dv,.int .i64 k.ty.k,.int .i64 k.ty.v,.str k.ty.nm,pv,av]])))) (fun i b hi hI=>by
       obtain ⟨e,he,hR⟩:=ha.ix hi
       have hi':=lt_cast hi
       have hwi:=wr_next hi s3
       have h35:=c35 hd s1 hok hR (s4 _ (List.getElem_mem hi)) ht s2 c2 c3
       obtain ⟨qv,rfl,hq⟩:=hR.dest'
       have hdr:k.arms.drop i=k.arms[i]::k.arms.drop (i+1):=List.drop_eq_getElem_cons hi
       rw [hdr] at hI
       simp only [rArms] at hI
       by_cases hz:patErr (shOf k.data k.ty) k.arms[i]=0
       ·rw [if_pos hz] at hI
        exact .inl ⟨(),by simp [Tryz.f32,ha.len,hi',he,h35,hz,hwi,hb11,noRefs,AV.noRef,hd.noRef,hp.noRef,hq.noRef],hI⟩
       ·rw [if_neg hz] at hI
        have hne:(patErr (shOf k.data k.ty) k.arms[i] != 0)=true:=by simp [hz]
        exact .inr ⟨_,_,by simp [Tryz.f32,ha.len,hi',he,h35,hne,hb11,noRefs,AV.noRef,hd.noRef,hp.noRef,hq.noRef] <;> first | exact ⟨rfl,rfl⟩ | rfl,by simp,.inr (by rw [hI])⟩) (fun b hI=>by
       rw [List.drop_length] at hI
       exact ⟨_,_,by simp [Tryz.f32,ha.len] <;> first | exact ⟨rfl,rfl⟩ | rfl,by simp,.inl ⟨rfl,hI⟩⟩) () (by simp)
    simp [Tryz.f32] at hlp
    rcases hq0 with ⟨hq0,hz⟩ | hq0 <;> cases hq0
    ·simp [runW,Tryz.f32,h34,h0,ha.len,ha0',ha0,ha12,ha12',hlp,hz]
    ·simp [runW,Tryz.f32,h34,h0,ha.len,ha0',ha0,ha12,ha12',hlp]
 ·have hne:(rBoth k.data k.ty != 0)=true:=by simp [h0]
  simp [runW,Tryz.f32,h34,h0,hne]
def smallF (c:ConV):Bool:=decide (c.fields.length≤12)&&c.fields.all fun f=>isTree f.ty
def smallD (d:DataV):Bool:=decide (d.cons.length≤20)&&decide (d.params.length≤12)&&d.cons.all smallF
def smallT (k:TaskV):Bool:=decide (k.data.length≤24)&&decide (k.arms.length≤16)&&k.data.all smallD
theorem all_drop {α:Type} {p:α→Bool} {l:List α} {i:Nat} (hi:i<l.length):(l.drop i).all p=(p l[i]&&(l.drop (i+1)).all p):=by
 rw [List.drop_eq_getElem_cons hi,List.all_cons]
theorem c11 {k:TaskV} {xs:List AV} (hx:TaskRep k xs) (hsk:SmT 1048577 k) (h:Heap):doCall MX (callW MX) 11 [.agg xs] h=some (.ret (.bool (smallT k)),h):=by
 obtain ⟨dv,pv,av,rfl,hd,hp,ht,ha⟩:=hx.dest
 obtain ⟨s1,s2,s3,s4⟩:=hsk
 have hn:([AV.agg [dv,.int .i64 k.ty.k,.int .i64 k.ty.v,.str k.ty.nm,pv,av]]:List AV).all AV.noRef=true:=by simp [AV.noRef,noRefs,hd.noRef,hp.noRef,ha.noRef]
 refine pureX mode_11 eff_11 hn rfl (hr:=[Blk.var false [dv,.int .i64 k.ty.k,.int .i64 k.ty.v,.str k.ty.nm,pv,av]]) ?_ h
 unfold smallT
 by_cases h24:24<k.data.length
 ·have h24':(24<(k.data.length:Int)):=by omega
  have:¬ (k.data.length≤24):=by omega
  simp [runW,Tryz.f11,hd.len,h24',this]
 ·have h24':¬ (24<(k.data.length:Int)):=by omega
  have h24i:k.data.length≤24:=by omega
  by_cases h16:16<k.arms.length
  ·have h16':(16<(k.arms.length:Int)):=by omega
   have:¬ (k.arms.length≤16):=by omega
   simp [runW,Tryz.f11,hd.len,ha.len,h24',h16',this]
  ·have h16':¬ (16<(k.arms.length:Int)):=by omega
   have h16i:k.arms.length≤16:=by omega
   let B:=Blk.var false [dv,.int .i64 k.ty.k,.int .i64 k.ty.v,.str k.ty.nm,pv,av]
   obtain ⟨e,st,hlp,hq0⟩:=loop_up (M:=MX) (fid:=11) (N:=79) (C:=callW MX) (c:=loopC Tryz.f11 0) (n:=k.data.length)
    (fun i (_:Unit)=>([(1,.hp 0 0),(3,.int .i64 i)],[Blk.var false [dv,.int .i64 k.ty.k,.int .i64 k.ty.v,.str k.ty.nm,pv,av]]))
    (fun i _=>k.data.all smallD=(k.data.drop i).all smallD)
    (fun r=>(r=(.ext 0,([(1,.hp 0 0),(3,.int .i64 k.data.length),(21,.bool false)],[Blk.var false [dv,.int .i64 k.ty.k,.int .i64 k.ty.v,.str k.ty.nm,pv,av]]))∧k.data.all smallD=true) ∨
      (r=(.ret,([(2,.bool false)],[Blk.var false [dv,.int .i64 k.ty.k,.int .i64 k.ty.v,.str k.ty.nm,pv,av]]))∧k.data.all smallD=false)) (fun i b hi hI=>by
      obtain ⟨e,he,hR⟩:=hd.ix hi
      have hi':=lt_cast hi
      have hwi:=wr_next hi s1.1
      obtain ⟨d1,d2,d3,d4,d5⟩:=s1.2 _ (List.getElem_mem hi)
      obtain ⟨qv,cv,rfl,hqp,hcv⟩:=hR.dest
      rw [all_drop hi] at hI
      by_cases h20:20<k.data[i].cons.length
      ·have h20':(20<(k.data[i].cons.length:Int)):=by omega
       have hs:smallD k.data[i]=false:=by simp [smallD];intro h;omega
       rw [hs,Bool.false_and] at hI
       exact .inr ⟨_,_,by simp [Tryz.f11,hd.len,hi',he,hcv.len,h20'] <;> first | exact ⟨rfl,rfl⟩ | rfl,by simp,.inr ⟨rfl,hI⟩⟩
      ·have h20':¬ (20<(k.data[i].cons.length:Int)):=by omega
       have h20i:k.data[i].cons.length≤20:=by omega
       by_cases h12:12<k.data[i].params.length
       ·have h12':(12<(k.data[i].params.length:Int)):=by omega
        have hs:smallD k.data[i]=false:=by simp [smallD];intro _ h;omega
        rw [hs,Bool.false_and] at hI
        exact .inr ⟨_,_,by simp [Tryz.f11,hd.len,hi',he,hcv.len,hqp.len,h20',h12'] <;> first | exact ⟨rfl,rfl⟩ | rfl,by simp,.inr ⟨rfl,hI⟩⟩
       ·have h12':¬ (12<(k.data[i].params.length:Int)):=by omega
        have h12i:k.data[i].params.length≤12:=by omega
        have hsD:smallD k.data[i]=k.data[i].cons.all smallF:=by simp [smallD,h20i,h12i]
        rw [hsD] at hI
        obtain ⟨e2,st2,hlp2,hq2⟩:=loop_up (M:=MX) (fid:=11) (N:=79) (C:=callW MX) (c:=loopC Tryz.f11 1) (n:=k.data[i].cons.length)
         (fun j (_:Unit)=>([(1,.hp 0 0),(3,.int .i64 i),(4,.int .i64 j)],[Blk.var false [dv,.int .i64 k.ty.k,.int .i64 k.ty.v,.str k.ty.nm,pv,av]]))
         (fun j _=>k.data[i].cons.all smallF=(k.data[i].cons.drop j).all smallF)
         (fun r=>(r=(.ext 2,([(1,.hp 0 0),(3,.int .i64 i),(4,.int .i64 k.data[i].cons.length),(50,.bool false)],[Blk.var false [dv,.int .i64 k.ty.k,.int .i64 k.ty.v,.str k.ty.nm,pv,av]]))∧k.data[i].cons.all smallF=true) ∨
           (r=(.ret,([(2,.bool false)],[Blk.var false [dv,.int .i64 k.ty.k,.int .i64 k.ty.v,.str k.ty.nm,pv,av]]))∧k.data[i].cons.all smallF=false)) (fun j b hj hJ=>by
           obtain ⟨ce,hce,hcR⟩:=hcv.ix hj
           have hj':=lt_cast hj
           have hwj:=wr_next hj d4
           obtain ⟨c1,c2,c3⟩:=d5 _ (List.getElem_mem hj)
           obtain ⟨fv,rfl,hfv⟩:=hcR.dest
           rw [all_drop hj] at hJ
           by_cases f12:12<k.data[i].cons[j].fields.length
           ·have f12':(12<(k.data[i].cons[j].fields.length:Int)):=by omega
            have hs:smallF k.data[i].cons[j]=false:=by simp [smallF];intro h;omega
            rw [hs,Bool.false_and] at hJ
            exact .inr ⟨_,_,by simp [Tryz.f11,hi',he,hcv.len,hj',hce,hfv.len,f12'] <;> first | exact ⟨rfl,rfl⟩ | rfl,by simp,.inr ⟨rfl,hJ⟩⟩
           ·have f12':¬ (12<(k.data[i].cons[j].fields.length:Int)):=by omega
            have f12i:k.data[i].cons[j].fields.length≤12:=by omega
            have hsF:smallF k.data[i].cons[j]=k.data[i].cons[j].fields.all fun f=>isTree f.ty:=by simp [smallF,f12i]
            rw [hsF] at hJ
            obtain ⟨e3,st3,hlp3,hq3⟩:=loop_up (M:=MX) (fid:=11) (N:=79) (C:=callW MX) (c:=loopC Tryz.f11 2) (n:=k.data[i].cons[j].fields.length)
             (fun m (_:Unit)=>([(1,.hp 0 0),(3,.int .i64 i),(4,.int .i64 j),(5,fv),(6,.int .i64 m)],[Blk.var false [dv,.int .i64 k.ty.k,.int .i64 k.ty.v,.str k.ty.nm,pv,av]]))
             (fun m _=>(k.data[i].cons[j].fields.all fun f=>isTree f.ty)=(k.data[i].cons[j].fields.drop m).all fun f=>isTree f.ty)
             (fun r=>(r=(.ext 4,([(1,.hp 0 0),(3,.int .i64 i),(4,.int .i64 j),(5,fv),(6,.int .i64 k.data[i].cons[j].fields.length),(69,.bool false)],[Blk.var false [dv,.int .i64 k.ty.k,.int .i64 k.ty.v,.str k.ty.nm,pv,av]]))∧(k.data[i].cons[j].fields.all fun f=>isTree f.ty)=true) ∨
               (r=(.ret,([(2,.bool false)],[Blk.var false [dv,.int .i64 k.ty.k,.int .i64 k.ty.v,.str k.ty.nm,pv,av]]))∧(k.data[i].cons[j].fields.all fun f=>isTree f.ty)=false)) (fun m b hm hM=>by
               obtain ⟨fe,hfe,hfR⟩:=hfv.ix hm
               have hm':=lt_cast hm
               have hwm:=wr_next hm c2
               obtain ⟨f1,f2⟩:=c3 _ (List.getElem_mem hm)
               obtain ⟨tx,rfl,htx⟩:=hfR
               have hT:=c59 htx f2
               obtain ⟨q1,rfl,hq1⟩:=htx.dest'
               rw [all_drop hm] at hM
               cases hT0:isTree k.data[i].cons[j].fields[m].ty with
               | false=>
                rw [hT0,Bool.false_and] at hM
                exact .inr ⟨_,_,by simp [Tryz.f11,hfv.len,hm',hfe,hT,hT0] <;> first | exact ⟨rfl,rfl⟩ | rfl,by simp,.inr ⟨rfl,hM⟩⟩
               | true=>
                rw [hT0,Bool.true_and] at hM
                exact .inl ⟨(),by simp [Tryz.f11,hfv.len,hm',hfe,hT,hT0,hwm],hM⟩) (fun b hM=>by
               rw [List.drop_length] at hM
               exact ⟨_,_,by simp [Tryz.f11,hfv.len] <;> first | exact ⟨rfl,rfl⟩ | rfl,by simp,.inl ⟨rfl,by rw [hM];rfl⟩⟩) () (by simp)
            simp [Tryz.f11] at hlp3
            rcases hq3 with ⟨hq3,hz⟩ | ⟨hq3,hz⟩ <;> cases hq3
            ·rw [hz,Bool.true_and] at hJ
             exact .inl ⟨(),by simp [Tryz.f11,hi',he,hcv.len,hj',hce,hfv.len,f12',hlp3,hwj],hJ⟩
            ·rw [hz,Bool.false_and] at hJ
             exact .inr ⟨_,_,by simp [Tryz.f11,hi',he,hcv.len,hj',hce,hfv.len,f12',hlp3] <;> first | exact ⟨rfl,rfl⟩ | rfl,by simp,.inr ⟨rfl,hJ⟩⟩) (fun b hJ=>by
           rw [List.drop_length] at hJ
           exact ⟨_,_,by simp [Tryz.f11,hi',he,hcv.len] <;> first | exact ⟨rfl,rfl⟩ | rfl,by simp,.inl ⟨rfl,by rw [hJ];rfl⟩⟩) () (by simp)
        simp [Tryz.f11] at hlp2
        rcases hq2 with ⟨hq2,hz⟩ | ⟨hq2,hz⟩ <;> cases hq2
        ·rw [hz,Bool.true_and] at hI
         exact .inl ⟨(),by simp [Tryz.f11,hd.len,hi',he,hcv.len,hqp.len,h20',h12',hlp2,hwi],hI⟩
        ·rw [hz,Bool.false_and] at hI
         exact .inr ⟨_,_,by simp [Tryz.f11,hd.len,hi',he,hcv.len,hqp.len,h20',h12',hlp2] <;> first | exact ⟨rfl,rfl⟩ | rfl,by simp,.inr ⟨rfl,hI⟩⟩) (fun b hI=>by
      rw [List.drop_length] at hI
      exact ⟨_,_,by simp [Tryz.f11,hd.len] <;> first | exact ⟨rfl,rfl⟩ | rfl,by simp,.inl ⟨rfl,by rw [hI];rfl⟩⟩) () (by simp)
   simp [Tryz.f11] at hlp
   rcases hq0 with ⟨hq0,hz⟩ | ⟨hq0,hz⟩ <;> cases hq0 <;> simp [runW,Tryz.f11,hd.len,ha.len,h24',h16',h24i,h16i,hlp] <;> simpa using hz
end Go.Proofs.Am12
