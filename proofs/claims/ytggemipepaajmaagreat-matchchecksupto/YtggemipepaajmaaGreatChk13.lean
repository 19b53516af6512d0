/- The abstract machine of this claim, part 13. -/
import Derived.Test.YtggemipepaajmaaGreatChk12
import Derived.Test.YtggemipepaajmaaGreatRows
set_option linter.unusedSimpArgs false
set_option linter.unusedVariables false
set_option linter.unusedSectionVars false
set_option linter.unnecessarySimpa false
namespace Go.Proofs.Am12
open Go Go.Am Go.Proofs.YtggemipepaajmaaGreat
abbrev Bytes:=List UInt8
abbrev lim:Nat:=1048577
inductive TyV where
 | mk (k v:Int) (nm:Bytes) (ps:List TyV)
 deriving Inhabited
def TyV.k:TyV→Int | .mk k _ _ _=>k
def TyV.v:TyV→Int | .mk _ v _ _=>v
def TyV.nm:TyV→Bytes | .mk _ _ n _=>n
def TyV.ps:TyV→List TyV | .mk _ _ _ p=>p
theorem TyV.ind {P:TyV→Prop} (h:∀ k v nm ps,(∀ p∈ps,P p)→P (.mk k v nm ps)) (t:TyV):P t:=
 TyV.rec (motive_1:=P) (motive_2:=fun ps=>∀ p∈ps,P p) (fun k v nm ps ih=>h k v nm ps ih) (fun p hp=>by cases hp) (fun a r ha hr p hp=>by
  rcases List.mem_cons.1 hp with rfl | hp
  ·exact ha
  ·exact hr p hp) t
inductive AU:TyV→List AV→Prop where
 | nil (k v:Int) (nm:Bytes):AU (.mk k v nm []) [.int .i64 k,.int .i64 v,.str nm,.AI]
 | sl (k v:Int) (nm:Bytes) (ps:List TyV) (ex:Bool) (es:List (List AV)) (hl:es.length=ps.length) (h:∀ (i:Nat) t e,ps[i]? = some t→es[i]? = some e→AU t e) :
   AU (.mk k v nm ps) [.int .i64 k,.int .i64 v,.str nm,.sl 4 ex es]
theorem AU.dest {k v:Int} {nm:Bytes} {ps:List TyV} {xs:List AV} (h:AU (.mk k v nm ps) xs):∃ pv,xs=[.int .i64 k,.int .i64 v,.str nm,pv]∧SlR AU 4 ps pv:=by
 cases h with
 | nil=>exact ⟨_,rfl,.inl ⟨rfl,rfl⟩⟩
 | sl _ _ _ _ ex es hl h=>exact ⟨_,rfl,.inr ⟨ex,es,rfl,hl,h⟩⟩
theorem AU.intro {k v:Int} {nm:Bytes} {ps:List TyV} {pv:AV} (h:SlR AU 4 ps pv):AU (.mk k v nm ps) [.int .i64 k,.int .i64 v,.str nm,pv]:=by
 rcases h with ⟨rfl,rfl⟩ | ⟨ex,es,rfl,hl,h⟩
 ·exact .nil k v nm
 ·exact .sl k v nm ps ex es hl h
theorem AU.AG {t:TyV} {xs:List AV} (h:AU t xs):AG xs=true:=by
 cases t with
 | mk k v nm ps=>
  obtain ⟨pv,rfl,hp⟩:=h.dest
  simp [Am.AG,AV.AD,hp.AD]
theorem AU.len {t:TyV} {xs:List AV} (h:AU t xs):xs.length=4:=by
 cases h <;> rfl
inductive Sm (b:Nat):TyV→Prop where
 | mk (k v:Int) (nm:Bytes) (ps:List TyV) (h1:nm.length<b) (h2:ps.length<b) (h3:∀ p∈ps,Sm b p):Sm b (.mk k v nm ps)
theorem Sm.dest {b:Nat} {k v:Int} {nm:Bytes} {ps:List TyV} (h:Sm b (.mk k v nm ps)):nm.length<b∧ps.length<b∧∀ p∈ps,Sm b p:=by
 cases h with
 | mk _ _ _ _ h1 h2 h3=>exact ⟨h1,h2,h3⟩
def CI (n:Bytes) (xs:List AV):Prop:=xs=[.str n]
structure CO where
 nm:Bytes
 ty:TyV
 deriving Inhabited
def BS (f:CO) (xs:List AV):Prop:=∃ tx,xs=.str f.nm::tx∧AU f.ty tx
structure Bm where
 nm:Bytes
 fields:List CO
 deriving Inhabited
def DR (c:Bm) (xs:List AV):Prop:=∃ fv,xs=[.str c.nm,fv]∧SlR BS 5 c.fields fv
structure AO where
 nm:Bytes
 params:List Bytes
 cons:List Bm
 deriving Inhabited
def Ac (d:AO) (xs:List AV):Prop:=∃ pv cv,xs=[.str d.nm,pv,cv]∧SlR CI 1 d.params pv∧SlR DR 2 d.cons cv
structure Dx where
 data:List AO
 ty:TyV
 arms:List TyV
def DS (t:Dx) (xs:List AV):Prop:=∃ dv tx av,xs=dv::tx++[av]∧SlR Ac 3 t.data dv∧AU t.ty tx∧SlR AU 4 t.arms av
def SmF (b:Nat) (f:CO):Prop:=f.nm.length<b∧Sm b f.ty
def SmC (b:Nat) (c:Bm):Prop:=c.nm.length<b∧c.fields.length<b∧∀ f∈c.fields,SmF b f
def SmD (b:Nat) (d:AO):Prop:=d.nm.length<b∧d.params.length<b∧(∀ p∈d.params,p.length<b)∧d.cons.length<b∧∀ c∈d.cons,SmC b c
def SmL (b:Nat) (l:List AO):Prop:=l.length<b∧∀ d∈l,SmD b d
def SmT (b:Nat) (t:Dx):Prop:=SmL b t.data∧Sm b t.ty∧t.arms.length<b∧∀ p∈t.arms,Sm b p
theorem Gx {α β:Type} {R:α→β→Prop} {S:α→Prop}:∀ (es:List β),(∀ e∈es,∃ a,R a e∧S a)→∃ xs:List α,es.length=xs.length∧(∀ (i:Nat) a e,xs[i]? = some a→es[i]? = some e→R a e)∧∀ x∈xs,S x
 | [],_=>⟨[],rfl,fun i a e h=>by simp at h,fun x hx=>by cases hx⟩
 | e::r,h=>by
  obtain ⟨a,ha,hs⟩:=h e (by simp)
  obtain ⟨xs,h1,h2,h3⟩:=Gx r (fun x hx=>h x (by simp [hx]))
  refine ⟨a::xs,by simp [h1],fun i a' e' h3 h4 => ?_,fun x hx => ?_⟩
  ·cases i with
   | zero=>simp at h3 h4;exact h3 ▸ h4 ▸ ha
   | succ i=>exact h2 i a' e' (by simpa using h3) (by simpa using h4)
  ·rcases List.mem_cons.1 hx with rfl | hx
   ·exact hs
   ·exact h3 x hx
theorem und25:und MX.ty 25=some (.struct #[{ name := "Kind",type:=3,offset:=0,embedded:=false,tag := "",pkgPath := "",byteOffset:=0 },{ name := "Value",type:=3,offset:=1,embedded:=false,tag := "",pkgPath := "",byteOffset:=8 },
  { name := "Name",type:=9,offset:=2,embedded:=false,tag := "",pkgPath := "",byteOffset:=16 },{ name := "Parts",type:=23,offset:=3,embedded:=false,tag := "",pkgPath := "",byteOffset:=32 }]):=by kernel_rfl
theorem und62:und MX.ty 62=some (.struct #[{ name := "Kind",type:=3,offset:=0,embedded:=false,tag := "",pkgPath := "",byteOffset:=0 },{ name := "Value",type:=3,offset:=1,embedded:=false,tag := "",pkgPath := "",byteOffset:=8 },
  { name := "Name",type:=9,offset:=2,embedded:=false,tag := "",pkgPath := "",byteOffset:=16 },{ name := "Parts",type:=26,offset:=3,embedded:=false,tag := "",pkgPath := "",byteOffset:=32 }]):=by kernel_rfl
theorem und23:und MX.ty 23=some (.slice 25):=by kernel_rfl
theorem XJ:und MX.ty 26=some (.slice 62):=by kernel_rfl
theorem RB:und MX.ty 3=some (.int .i64):=by kernel_rfl
theorem Ta:und MX.ty 9=some .string:=by kernel_rfl
theorem siz25:siz MX.ty 25=4:=by kernel_rfl
theorem XK:siz MX.ty 62=4:=by kernel_rfl
theorem sizX9:siz MX.ty 9=1:=by kernel_rfl
theorem YT:siz MX.ty 103=3:=by kernel_rfl
theorem YU:siz MX.ty 106=2:=by kernel_rfl
theorem YV:siz MX.ty 109=5:=by kernel_rfl
section
variable {H:Type}
theorem Gy {d:DataW H} {xs:List AV} (h:Shp MX 3 d xs):∃ n,xs=[.int .i64 n]∧(Lit.int .i64 n).wf=true:=by
 cases h with
 | int h n hw=>rw [RB] at h;cases h;exact ⟨n,rfl,hw⟩
 | bool h=>rw [RB] at h;cases h
 | str h=>rw [RB] at h;cases h
 | nil h=>rw [RB] at h;cases h
 | sl h=>rw [RB] at h;cases h
 | struct h=>rw [RB] at h;cases h
theorem HU {d:DataW H} {xs:List AV} {b:Nat} (h:Shp MX 9 d xs) (hb:Rows.uptoBulk d<b):∃ s,xs=[.str s]∧s.length<b:=by
 cases h with
 | str h s=>exact ⟨s,rfl,by simp only [Rows.uptoBulk] at hb;omega⟩
 | int h=>rw [Ta] at h;cases h
 | bool h=>rw [Ta] at h;cases h
 | nil h=>rw [Ta] at h;cases h
 | sl h=>rw [Ta] at h;cases h
 | struct h=>rw [Ta] at h;cases h
theorem one_le (d:DataW H):1≤Rows.uptoBulk d:=by
 cases d with
 | lit l=>cases l <;> simp [Rows.uptoBulk]
 | _=>simp [Rows.uptoBulk]
theorem KD {d:DataW H} {l:List (DataW H)} (h:d∈l):Rows.uptoBulk d≤Rows.uptoBulkAll l:=by
 induction l with
 | nil=>cases h
 | cons x r ih=>
  simp only [Rows.uptoBulkAll]
  rcases List.mem_cons.1 h with rfl | e
  ·omega
  ·have:=ih e;omega
theorem length_le (l:List (DataW H)):l.length≤Rows.uptoBulkAll l:=by
 induction l with
 | nil=>simp
 | cons x r ih=>have:=one_le x;simp only [Rows.uptoBulkAll,List.length_cons];omega
theorem F2 {α:Type} {R:α→List AV→Prop} {S:α→Prop} {t e:TypeId} {d:DataW H} {xs:List AV} {b:Nat} (hu:und MX.ty t=some (.slice e)) (hR:∀ (d:DataW H) xs,Shp MX e d xs→Rows.uptoBulk d<b→∃ a,R a xs∧S a) (h:Shp MX t d xs) (hb:Rows.uptoBulk d<b) :
  ∃ l v,xs=[v]∧SlR R (siz MX.ty e) l v∧l.length<b∧∀ x∈l,S x:=by
 cases h with
 | nil h=>exact ⟨[],_,rfl,.inl ⟨rfl,rfl⟩,by have:=one_le (DataW.nil:DataW H);simp;omega,fun x hx=>by cases hx⟩
 | sl h ds sp es hl hs=>
  rw [hu] at h
  cases h
  simp only [Rows.uptoBulk] at hb
  obtain ⟨l,h1,h2,h3⟩:=Gx (R:=R) (S:=S) es (fun x hx=>by
   obtain ⟨i,hi⟩:=List.mem_iff_getElem?.1 hx
   have hlt:i<ds.length:=by rw [← hl];exact (List.getElem?_eq_some_iff.1 hi).1
   exact hR _ _ (hs i ds[i] x (List.getElem?_eq_getElem hlt) hi) (by have:=KD (List.getElem_mem hlt);omega))
  have:=length_le ds
  exact ⟨l,_,rfl,.inr ⟨false,es,rfl,h1,h2⟩,by omega,h3⟩
 | bool h=>rw [hu] at h;cases h
 | int h=>rw [hu] at h;cases h
 | str h=>rw [hu] at h;cases h
 | struct h=>rw [hu] at h;cases h
theorem Fp {t:TypeId} {fs:Array Field} {d:DataW H} {xs:List AV} {b:Nat} (hu:und MX.ty t=some (.struct fs)) (h:Shp MX t d xs) (hb:Rows.uptoBulk d<b) :
  ∃ (ds:List (DataW H)) (rows:List (List AV)),xs=rows.flatten∧rows.length=ds.length∧fs.size=ds.length∧(∀ (i:Nat) f d a,fs[i]? = some f→ds[i]? = some d→rows[i]? = some a→Shp MX f.type d a)∧∀ d∈ds,Rows.uptoBulk d<b:=by
 cases h with
 | struct h ds rows hl hf hs=>
  rw [hu] at h;cases h
  exact ⟨ds,rows,rfl,hl,hf,hs,fun d hd=>by have:=KD hd;simp only [Rows.uptoBulk] at hb;omega⟩
 | nil h=>rw [hu] at h;cases h
 | sl h=>rw [hu] at h;cases h
 | bool h=>rw [hu] at h;cases h
 | int h=>rw [hu] at h;cases h
 | str h=>rw [hu] at h;cases h
theorem QF {tT tS:TypeId} {n1 n2 n3 n4:String} {o1 o2 o3 o4:Nat} (hT:und MX.ty tT=some (.struct #[{ name:=n1,type:=3,offset:=0,embedded:=false,tag := "",pkgPath := "",byteOffset:=o1 },{ name:=n2,type:=3,offset:=1,embedded:=false,tag := "",pkgPath := "",byteOffset:=o2 },
  { name:=n3,type:=9,offset:=2,embedded:=false,tag := "",pkgPath := "",byteOffset:=o3 },{ name:=n4,type:=tS,offset:=3,embedded:=false,tag := "",pkgPath := "",byteOffset:=o4 }])) (hS:und MX.ty tS=some (.slice tT)) (hz:siz MX.ty tT=4) {t:TypeId} {d:DataW H} {xs:List AV} (h:Shp MX t d xs) {b:Nat} (hb:Rows.uptoBulk d<b) :
  (t=tT→∃ tv,AU tv xs∧Sm b tv)∧(t=tS→∃ l v,xs=[v]∧SlR AU 4 l v∧l.length<b∧∀ x∈l,Sm b x):=by
 induction h with
 | bool h b=>exact ⟨fun e=>(by subst e;rw [hT] at h;cases h),fun e=>(by subst e;rw [hS] at h;cases h)⟩
 | int h n hw=>exact ⟨fun e=>(by subst e;rw [hT] at h;cases h),fun e=>(by subst e;rw [hS] at h;cases h)⟩
 | str h bs=>exact ⟨fun e=>(by subst e;rw [hT] at h;cases h),fun e=>(by subst e;rw [hS] at h;cases h)⟩
 | nil h=>exact ⟨fun e=>(by subst e;rw [hT] at h;cases h),fun e=>⟨[],.AI,rfl,.inl ⟨rfl,rfl⟩,by have:=one_le (DataW.nil:DataW H);simp;omega,fun x hx=>by cases hx⟩⟩
 | sl h ds sp es hl hs ih=>
  refine ⟨fun e=>(by subst e;rw [hT] at h;cases h),fun e => ?_⟩
  subst e
  rw [hS] at h
  cases h
  rw [hz]
  simp only [Rows.uptoBulk] at hb
  obtain ⟨l,h1,h2,h3⟩:=Gx (R:=AU) (S:=Sm b) es (fun x hx=>by
   obtain ⟨i,hi⟩:=List.mem_iff_getElem?.1 hx
   have hlt:i<ds.length:=by rw [← hl];exact (List.getElem?_eq_some_iff.1 hi).1
   exact (ih i ds[i] x (List.getElem?_eq_getElem hlt) hi (by have:=KD (List.getElem_mem hlt);omega)).1 rfl)
  have:=length_le ds
  exact ⟨l,_,rfl,.inr ⟨false,es,rfl,h1,h2⟩,by omega,h3⟩
 | struct h ds rows hl hf hs ih=>
  refine ⟨fun e => ?_,fun e=>(by subst e;rw [hS] at h;cases h)⟩
  subst e
  rw [hT] at h
  cases h
  simp only [List.size_toArray,List.length_cons,List.length_nil] at hf
  match ds,rows,hf,hl with
  | [d0,d1,d2,d3],[a0,a1,a2,a3],_,_=>
   simp only [Rows.uptoBulk,Rows.uptoBulkAll] at hb
   obtain ⟨k,rfl,_⟩:=Gy (hs 0 _ d0 a0 rfl rfl rfl)
   obtain ⟨v,rfl,_⟩:=Gy (hs 1 _ d1 a1 rfl rfl rfl)
   obtain ⟨nm,rfl,hnm⟩:=HU (b:=b) (hs 2 _ d2 a2 rfl rfl rfl) (by omega)
   obtain ⟨l,pv,rfl,hp,hlb,hS⟩:=(ih 3 _ d3 a3 rfl rfl rfl (by omega)).2 rfl
   exact ⟨.mk k v nm l,AU.intro hp,.mk k v nm l hnm hlb hS⟩
theorem Tb {b:Nat} (d:DataW H) (xs:List AV) (h:Shp MX 25 d xs) (hb:Rows.uptoBulk d<b):∃ tv,AU tv xs∧Sm b tv:=(QF und25 und23 siz25 h hb).1 rfl
theorem WG {b:Nat} (d:DataW H) (xs:List AV) (h:Shp MX 62 d xs) (hb:Rows.uptoBulk d<b):∃ tv,AU tv xs∧Sm b tv:=(QF und62 XJ XK h hb).1 rfl
theorem YW:und MX.ty 109=some (.struct #[{ name := "Name",type:=9,offset:=0,embedded:=false,tag := "",pkgPath := "",byteOffset:=0 },{ name := "Type",type:=25,offset:=1,embedded:=false,tag := "",pkgPath := "",byteOffset:=16 }]):=by kernel_rfl
theorem YX:und MX.ty 106=some (.struct #[{ name := "Name",type:=9,offset:=0,embedded:=false,tag := "",pkgPath := "",byteOffset:=0 },{ name := "Fields",type:=104,offset:=1,embedded:=false,tag := "",pkgPath := "",byteOffset:=16 }]):=by kernel_rfl
theorem YY:und MX.ty 103=some (.struct #[{ name := "Name",type:=9,offset:=0,embedded:=false,tag := "",pkgPath := "",byteOffset:=0 },{ name := "Params",type:=100,offset:=1,embedded:=false,tag := "",pkgPath := "",byteOffset:=16 },{ name := "Constructors",type:=101,offset:=2,embedded:=false,tag := "",pkgPath := "",byteOffset:=40 }]):=by kernel_rfl
theorem und28:und MX.ty 28=some (.struct #[{ name := "Data",type:=22,offset:=0,embedded:=false,tag := "",pkgPath := "",byteOffset:=0 },{ name := "Type",type:=25,offset:=1,embedded:=false,tag := "",pkgPath := "",byteOffset:=24 },{ name := "Arms",type:=26,offset:=5,embedded:=false,tag := "",pkgPath := "",byteOffset:=80 }]):=by kernel_rfl
theorem WH:und MX.ty 100=some (.slice 9):=by kernel_rfl
theorem YZ:und MX.ty 101=some (.slice 106):=by kernel_rfl
theorem Ya:und MX.ty 104=some (.slice 109):=by kernel_rfl
theorem und22:und MX.ty 22=some (.slice 103):=by kernel_rfl
theorem RC {b:Nat} (d:DataW H) (xs:List AV) (h:Shp MX 109 d xs) (hb:Rows.uptoBulk d<b):∃ f,BS f xs∧SmF b f:=by
 obtain ⟨ds,rows,rfl,hl,hf,hs,hbs⟩:=Fp YW h hb
 match ds,rows,hf,hl with
 | [d0,d1],[a0,a1],_,_=>
  obtain ⟨nm,rfl,hn⟩:=HU (hs 0 _ d0 a0 rfl rfl rfl) (hbs d0 (by simp))
  obtain ⟨tv,ht,hst⟩:=Tb _ _ (hs 1 _ d1 a1 rfl rfl rfl) (hbs d1 (by simp))
  exact ⟨⟨nm,tv⟩,⟨a1,by simp,ht⟩,hn,hst⟩
theorem WI {b:Nat} (d:DataW H) (xs:List AV) (h:Shp MX 106 d xs) (hb:Rows.uptoBulk d<b):∃ c,DR c xs∧SmC b c:=by
 obtain ⟨ds,rows,rfl,hl,hf,hs,hbs⟩:=Fp YX h hb
 match ds,rows,hf,hl with
 | [d0,d1],[a0,a1],_,_=>
  obtain ⟨nm,rfl,hn⟩:=HU (hs 0 _ d0 a0 rfl rfl rfl) (hbs d0 (by simp))
  obtain ⟨l,v,rfl,hv,hlb,hS⟩:=F2 (R:=BS) (S:=SmF b) Ya (fun d xs=>RC d xs) (hs 1 _ d1 a1 rfl rfl rfl) (hbs d1 (by simp))
  rw [YV] at hv
  exact ⟨⟨nm,l⟩,⟨v,by simp,hv⟩,hn,hlb,hS⟩
theorem Tc {b:Nat} (d:DataW H) (xs:List AV) (h:Shp MX 103 d xs) (hb:Rows.uptoBulk d<b):∃ c,Ac c xs∧SmD b c:=by
 obtain ⟨ds,rows,rfl,hl,hf,hs,hbs⟩:=Fp YY h hb
 match ds,rows,hf,hl with
 | [d0,d1,d2],[a0,a1,a2],_,_=>
  obtain ⟨nm,rfl,hn⟩:=HU (hs 0 _ d0 a0 rfl rfl rfl) (hbs d0 (by simp))
  obtain ⟨l,v,rfl,hv,hlb,hS⟩:=F2 (R:=CI) (S:=fun s=>s.length<b) WH (fun d xs h hb=>HU h hb) (hs 1 _ d1 a1 rfl rfl rfl) (hbs d1 (by simp))
  obtain ⟨m,w,rfl,hw,hmb,hM⟩:=F2 (R:=DR) (S:=SmC b) YZ (fun d xs=>WI d xs) (hs 2 _ d2 a2 rfl rfl rfl) (hbs d2 (by simp))
  rw [sizX9] at hv
  rw [YU] at hw
  exact ⟨⟨nm,l,m⟩,⟨v,w,by simp,hv,hw⟩,hn,hlb,hS,hmb,hM⟩
theorem Td {b:Nat} (d:DataW H) (xs:List AV) (h:Shp MX 28 d xs) (hb:Rows.uptoBulk d<b):∃ c,DS c xs∧SmT b c:=by
 obtain ⟨ds,rows,rfl,hl,hf,hs,hbs⟩:=Fp und28 h hb
 match ds,rows,hf,hl with
 | [d0,d1,d2],[a0,a1,a2],_,_=>
  obtain ⟨l,v,rfl,hv,hlb,hS⟩:=F2 (R:=Ac) (S:=SmD b) und22 (fun d xs=>Tc d xs) (hs 0 _ d0 a0 rfl rfl rfl) (hbs d0 (by simp))
  obtain ⟨tv,ht,hst⟩:=Tb _ _ (hs 1 _ d1 a1 rfl rfl rfl) (hbs d1 (by simp))
  obtain ⟨m,w,rfl,hw,hmb,hM⟩:=F2 (R:=AU) (S:=Sm b) XJ (fun d xs=>WG d xs) (hs 2 _ d2 a2 rfl rfl rfl) (hbs d2 (by simp))
  rw [YT] at hv
  rw [XK] at hw
  exact ⟨⟨l,tv,m⟩,⟨v,a1,w,by simp,hv,ht,hw⟩,⟨hlb,hS⟩,hst,hmb,hM⟩
end
end Go.Proofs.Am12
namespace Go.Proofs.Am12
open Go Go.Am
attribute [local simp] Dq B8 EL Dr CS Ds Dt Ee BT BP Bb Ap Fy Ez D9 Gn D1 A4 El EA Gp Gq xUn Ej D2 E0 BF C7 BG D3 BH D4 Cb CV Bx BE EB EK
 ev evs C3 C4 OR.ofV OR.DQ OR.ofC E6 Tm.get Tm.init Tm.only A2 A7 CF finish B6 Cm Gm Db D0 unA CA Bg CB Bh Cp Cq Cr Bi Cs Ct Bj Cu Cv Bk CC AP CJ Bf Cn Co B9 Ef Eg Eh Du Dv FM Fa Fb FN stA A3 DE B7 EX C8 Ek GH CD
set_option maxHeartbeats 1000000
theorem Aj {s:Bytes} {i:Nat} (hi:i<s.length):(CZ s)[i]? = some [.int .u8 s[i].toNat]:=by simp [CZ,hi]
theorem Ae {f:FuncId} {args:List AV} {v:AV} {hr:AE} (hm:MX.mode f = { fresh:=true }) (he:MX.eff f=none) (ha:args.all AV.AD=true) (hv:v.AD=true) (hc:AN MX f args []=some (.ret v,hr)) (h:AE) :
  AK MX (AH MX) f args h=some (.ret v,h):=by
 have hs:∀ {l:List AV} {h:AE},l.all AV.AD=true→Ax l h=some (l,h):=by
  intro l
  induction l with
  | nil=>intro h _;rfl
  | cons a r ih=>
   intro h hn
   simp only [List.all_cons,Bool.and_eq_true] at hn
   simp only [Ax,hn.1,ih hn.2]
 unfold AK
 simp only [hm,hs ha,ha,HB he hc,Bw,hv]
theorem Hy {f:FuncId} {args:List AV} {v v':AV} {hr hr':AE} (hm:MX.mode f = { fresh:=true }) (he:MX.eff f=none) (ha:args.all AV.AD=true) (hv:v.AD=false) (hsn:snap CX v hr=some (v',hr')) (hv':v'.AD=true) (hc:AN MX f args []=some (.ret v,hr)) (h:AE) :
  AK MX (AH MX) f args h=some (.ret v',h):=by
 have hs:∀ {l:List AV} {h:AE},l.all AV.AD=true→Ax l h=some (l,h):=by
  intro l
  induction l with
  | nil=>intro h _;rfl
  | cons a r ih=>
   intro h hn
   simp only [List.all_cons,Bool.and_eq_true] at hn
   simp only [Ax,hn.1,ih hn.2]
 unfold AK
 simp only [hm,hs ha,ha,HB he hc,Bw,hv,hsn,hv']
theorem O4 (n lo hi:Int) (h:AE):AN MX 104 [.int .i64 n,.int .i64 lo,.int .i64 hi] h=some (.ret (.bool (decide (lo≤n∧n≤hi))),h):=by
 by_cases h1:lo≤n <;> by_cases h2:n≤hi <;> simp [AN,Tryz.f104,h1,h2]
theorem O5 (n lo hi:Int) (h:AE):AN MX 181 [.int .i64 n,.int .i64 lo,.int .i64 hi] h=some (.ret (.bool (decide (lo≤n∧n≤hi))),h):=by
 by_cases h1:lo≤n <;> by_cases h2:n≤hi <;> simp [AN,Tryz.f181,h1,h2]
theorem O6 (n lo hi:Int) (h:AE):AN MX 196 [.int .i64 n,.int .i64 lo,.int .i64 hi] h=some (.ret (.bool (decide (lo≤n∧n≤hi))),h):=by
 by_cases h1:lo≤n <;> by_cases h2:n≤hi <;> simp [AN,Tryz.f196,h1,h2]
@[simp] theorem c104 (n lo hi:Int) (h:AE):AK MX (AH MX) 104 [.int .i64 n,.int .i64 lo,.int .i64 hi] h=some (.ret (.bool (decide (lo≤n∧n≤hi))),h):=Ae SV VM rfl rfl (O4 n lo hi []) h
@[simp] theorem c181 (n lo hi:Int) (h:AE):AK MX (AH MX) 181 [.int .i64 n,.int .i64 lo,.int .i64 hi] h=some (.ret (.bool (decide (lo≤n∧n≤hi))),h):=Ae Ss Vk rfl rfl (O5 n lo hi []) h
@[simp] theorem O7 (n lo hi:Int) (h:AE):AK MX (AH MX) 196 [.int .i64 n,.int .i64 lo,.int .i64 hi] h=some (.ret (.bool (decide (lo≤n∧n≤hi))),h):=Ae Sz Vq rfl rfl (O6 n lo hi []) h
theorem t111 (b:Bool) (e:Int) (h:AE):AN MX 111 [.bool b,.int .i64 e] h=some (.ret (.int .i64 (if b then 0 else e)),h):=by
 cases b <;> simp [AN,Tryz.f111]
theorem t215 (b:Bool) (e:Int) (h:AE):AN MX 215 [.bool b,.int .i64 e] h=some (.ret (.int .i64 (if b then 0 else e)),h):=by
 cases b <;> simp [AN,Tryz.f215]
@[simp] theorem c111 (b:Bool) (e:Int) (h:AE):AK MX (AH MX) 111 [.bool b,.int .i64 e] h=some (.ret (.int .i64 (if b then 0 else e)),h):=Ae SX VO rfl rfl (t111 b e []) h
@[simp] theorem Jg (b:Bool) (e:Int) (h:AE):AK MX (AH MX) 215 [.bool b,.int .i64 e] h=some (.ret (.int .i64 (if b then 0 else e)),h):=Ae S5 Vw rfl rfl (t215 b e []) h
theorem Yb (n:Int) (h:AE):AN MX 155 [.int .i64 n] h=some (.ret (.bool (decide (1≤n∧n≤16))),h):=by
 simp [AN,Tryz.f155]
@[simp] theorem c155 (n:Int) (h:AE):AK MX (AH MX) 155 [.int .i64 n] h=some (.ret (.bool (decide (1≤n∧n≤16))),h):=Ae Sj Vc rfl rfl (Yb n []) h
def ints (l:List Int):List (List AV):=l.map fun e=>[AV.int .i64 e]
def An:List Int→Int
 | []=>0
 | e::r=>if e=0 then An r else e
theorem JM {l:List Int} {i:Nat} (hi:i<l.length):An (l.drop i)=if l[i]=0 then An (l.drop (i+1)) else l[i]:=by
 rw [List.drop_eq_getElem_cons hi];rfl
theorem t97 (l:List Int) (ex:Bool) (hl:l.length<1048577) (h:AE):AN MX 97 [.sl 1 ex (ints l)] h=some (.ret (.int .i64 (An l)),h):=by
 obtain ⟨e,st,hlp,hq⟩:=AR (M:=MX) (fid:=97) (N:=15) (C:=AH MX) (c:=AP Tryz.f97 0) (n:=l.length) (fun i (_:Unit)=>([(5,.sl 1 ex (ints l)),(6,.int .i64 l.length),(7,.int .i64 i)],h)) (fun i _=>An l=An (l.drop i))
  (fun r=>(r=(.ext 0,([(5,.sl 1 ex (ints l)),(6,.int .i64 l.length),(7,.int .i64 l.length),(8,.bool false)],h))∧An l=0)∨(r=(.ret,([(2,.int .i64 (An l))],h)))) (fun i b hi hI=>by
    have hi':((i:Int)<(l.length:Int)):=by omega
    have hw:wr .i64 ((i:Int)+1)=(i:Int)+1:=BD (by omega) (by omega)
    have hx:=G0 i 1 ex (ints l) .i64 (by simpa [ints] using hi)
    have he:(ints l)[i]'(by simpa [ints] using hi)=[.int .i64 l[i]]:=by simp [ints]
    rw [he] at hx
    have hd:=JM hi
    by_cases h0:l[i]=0
    ·exact .inl ⟨(),by simp [Tryz.f97,hi',hx,h0,hw],by rw [hI,hd,if_pos h0]⟩
    ·have hne:(l[i] != 0)=true:=by simp [h0]
     rw [if_neg h0] at hd
     exact .inr ⟨_,_,by simp [Tryz.f97,hi',hx,hne] <;> exact ⟨rfl,rfl⟩,by simp,.inr (by rw [hI,hd])⟩) (fun b hI=>by
    refine ⟨_,_,by simp [Tryz.f97] <;> exact ⟨rfl,rfl⟩,by simp,.inl ⟨rfl,?_⟩⟩
    rw [hI,List.drop_length];rfl) () (by simp)
 simp [Tryz.f97] at hlp
 rcases hq with ⟨hq,ha⟩ | hq <;> cases hq
 ·simp [AN,Tryz.f97,ints,hlp,ha]
  simp only [ints] at hlp
  simp [hlp]
 ·simp [AN,Tryz.f97,ints]
  simp only [ints] at hlp
  simp [hlp]
theorem c97 (l:List Int) (ex:Bool) (hl:l.length<1048577) (h:AE):AK MX (AH MX) 97 [.sl 1 ex (ints l)] h=some (.ret (.int .i64 (An l)),h):=Ae VI YD rfl rfl (t97 l ex hl []) h
@[simp] theorem c97_2 (a b:Int) (ex:Bool) (h:AE):AK MX (AH MX) 97 [.sl 1 ex [[.int .i64 a],[.int .i64 b]]] h=some (.ret (.int .i64 (An [a,b])),h):=c97 [a,b] ex (by simp) h
@[simp] theorem c97_3 (a b c:Int) (ex:Bool) (h:AE):AK MX (AH MX) 97 [.sl 1 ex [[.int .i64 a],[.int .i64 b],[.int .i64 c]]] h=some (.ret (.int .i64 (An [a,b,c])),h):=c97 [a,b,c] ex (by simp) h
theorem t217 (l:List Int) (ex:Bool) (hl:l.length<1048577) (h:AE):AN MX 217 [.sl 1 ex (ints l)] h=some (.ret (.int .i64 (An l)),h):=by
 obtain ⟨e,st,hlp,hq⟩:=AR (M:=MX) (fid:=217) (N:=15) (C:=AH MX) (c:=AP Tryz.f217 0) (n:=l.length) (fun i (_:Unit)=>([(5,.sl 1 ex (ints l)),(6,.int .i64 l.length),(7,.int .i64 i)],h)) (fun i _=>An l=An (l.drop i))
  (fun r=>(r=(.ext 0,([(5,.sl 1 ex (ints l)),(6,.int .i64 l.length),(7,.int .i64 l.length),(8,.bool false)],h))∧An l=0)∨(r=(.ret,([(2,.int .i64 (An l))],h)))) (fun i b hi hI=>by
    have hi':((i:Int)<(l.length:Int)):=by omega
    have hw:wr .i64 ((i:Int)+1)=(i:Int)+1:=BD (by omega) (by omega)
    have hx:=G0 i 1 ex (ints l) .i64 (by simpa [ints] using hi)
    have he:(ints l)[i]'(by simpa [ints] using hi)=[.int .i64 l[i]]:=by simp [ints]
    rw [he] at hx
    have hd:=JM hi
    by_cases h0:l[i]=0
    ·exact .inl ⟨(),by simp [Tryz.f217,hi',hx,h0,hw],by rw [hI,hd,if_pos h0]⟩
    ·have hne:(l[i] != 0)=true:=by simp [h0]
     rw [if_neg h0] at hd
     exact .inr ⟨_,_,by simp [Tryz.f217,hi',hx,hne] <;> exact ⟨rfl,rfl⟩,by simp,.inr (by rw [hI,hd])⟩) (fun b hI=>by
    refine ⟨_,_,by simp [Tryz.f217] <;> exact ⟨rfl,rfl⟩,by simp,.inl ⟨rfl,?_⟩⟩
    rw [hI,List.drop_length];rfl) () (by simp)
 simp [Tryz.f217] at hlp
 rcases hq with ⟨hq,ha⟩ | hq <;> cases hq
 ·simp [AN,Tryz.f217,ints,hlp,ha]
  simp only [ints] at hlp
  simp [hlp]
 ·simp [AN,Tryz.f217,ints]
  simp only [ints] at hlp
  simp [hlp]
theorem c217 (l:List Int) (ex:Bool) (hl:l.length<1048577) (h:AE):AK MX (AH MX) 217 [.sl 1 ex (ints l)] h=some (.ret (.int .i64 (An l)),h):=Ae S6 Vx rfl rfl (t217 l ex hl []) h
@[simp] theorem c217_2 (a b:Int) (ex:Bool) (h:AE):AK MX (AH MX) 217 [.sl 1 ex [[.int .i64 a],[.int .i64 b]]] h=some (.ret (.int .i64 (An [a,b])),h):=c217 [a,b] ex (by simp) h
def CT (i:Nat) (n:Nat):Bool:=(decide (97≤n∧n≤122)||decide (65≤n∧n≤90))||(decide (i≠0)&&(decide (n=95)||decide (48≤n∧n≤57)))
def GB:Nat→Bytes→Bool
 | _,[]=>true
 | i,b::r=>CT i b.toNat&&GB (i+1) r
def A6 (s:Bytes):Bool:=decide (1≤s.length∧s.length≤16)&&GB 0 s
theorem Ir {s:Bytes} {i:Nat} (hi:i<s.length):GB i (s.drop i)=(CT i s[i].toNat&&GB (i+1) (s.drop (i+1))):=by
 rw [List.drop_eq_getElem_cons hi];rfl
theorem nine (n:Nat):n<48∨(48≤n∧n≤57)∨(57<n∧n<65)∨(65≤n∧n≤90)∨(90<n∧n<95)∨n=95∨n=96∨(97≤n∧n≤122)∨122<n:=by omega
theorem t157 (s:Bytes) (hs:s.length<1048577) (h:AE):AN MX 157 [.str s] h=some (.ret (.bool (A6 s)),h):=by
 by_cases hl:1≤s.length∧s.length≤16
 ·obtain ⟨e,st,hlp,hq⟩:=AR (M:=MX) (fid:=157) (N:=55) (C:=AH MX) (c:=AP Tryz.f157 0) (n:=s.length) (fun i (_:Unit)=>([(0,.str s),(3,.int .i64 i)],h)) (fun i _=>GB 0 s=GB i (s.drop i))
   (fun r=>(r=(.ext 0,([(0,.str s),(3,.int .i64 s.length),(17,.bool false)],h))∧GB 0 s=true)∨(r=(.ret,([(2,.bool false)],h))∧GB 0 s=false)) (fun i b hi hI=>by
   obtain ⟨n,hn⟩:∃ n,n=s[i].toNat:=⟨_,rfl⟩
   have hd:=Ir hi
   rw [← hn] at hd
   have hw:wr .i64 ((i:Int)+1)=(i:Int)+1:=BD (by omega) (by omega)
   have hi':((i:Int)<(s.length:Int)):=by omega
   have key:(CT i n=true∧AW MX 157 55 (AH MX) (AP Tryz.f157 0) ([(0,AV.str s),(3,AV.int .i64 i)],h)=some (.nrm,([(0,AV.str s),(3,AV.int .i64 ((i:Int)+1))],h)))∨(CT i n=false∧AW MX 157 55 (AH MX) (AP Tryz.f157 0) ([(0,AV.str s),(3,AV.int .i64 i)],h)=some (.ret,([(2,.bool false)],h))):=by
    have hc:∀ k:Nat,((k:Int)≤(n:Int)↔k≤n)∧((n:Int)≤(k:Int)↔n≤k)∧((n:Int)<(k:Int)↔n<k)∧((k:Int)<(n:Int)↔k<n)∧((n:Int)=(k:Int)↔n=k):=fun k=>by omega
    have c1:=(hc 97).1;have c2:=(hc 122).2.1;have c3:=(hc 65).1;have c4:=(hc 90).2.1;have c5:=(hc 95).2.2.2.2;have c6:=(hc 48).2.2.1;have c7:=(hc 57).2.2.2.1
    simp only [Int.cast_ofNat_Int] at c1 c2 c3 c4 c5 c6 c7
    have hc5:((n:Int) != 95)=decide (n≠95):=by rw [Bool.eq_iff_iff];simp [c5]
    by_cases h0:i=0
    ·have e0:((i:Int) == 0)=true:=by simp [h0]
     rcases nine n with h | h | h | h | h | h | h | h | h
     ·have p0:¬ (97≤n):=(by omega);have p1:n≤122:=(by omega);have p2:¬ (65≤n):=(by omega);have p3:n≤90:=(by omega);have p4:¬ (n=95):=(by omega);have p5:n<48:=(by omega);have p6:¬ (57<n):=(by omega);exact .inr ⟨by simp only [CT,h0,p0,p1,p2,p3,p4];simp;try omega,by simp [Tryz.f157,← hn,hi',hc5,e0,c1,c2,c3,c4,c5,c6,c7,p0,p1,p2,p3,p4,p5,p6,hw,Dw _ .i64 _ hi]⟩
     ·have p0:¬ (97≤n):=(by omega);have p1:n≤122:=(by omega);have p2:¬ (65≤n):=(by omega);have p3:n≤90:=(by omega);have p4:¬ (n=95):=(by omega);have p5:¬ (n<48):=(by omega);have p6:¬ (57<n):=(by omega);exact .inr ⟨by simp only [CT,h0,p0,p1,p2,p3,p4];simp;try omega,by simp [Tryz.f157,← hn,hi',hc5,e0,c1,c2,c3,c4,c5,c6,c7,p0,p1,p2,p3,p4,p5,p6,hw,Dw _ .i64 _ hi]⟩
     ·have p0:¬ (97≤n):=(by omega);have p1:n≤122:=(by omega);have p2:¬ (65≤n):=(by omega);have p3:n≤90:=(by omega);have p4:¬ (n=95):=(by omega);have p5:¬ (n<48):=(by omega);have p6:57<n:=(by omega);exact .inr ⟨by simp only [CT,h0,p0,p1,p2,p3,p4];simp;try omega,by simp [Tryz.f157,← hn,hi',hc5,e0,c1,c2,c3,c4,c5,c6,c7,p0,p1,p2,p3,p4,p5,p6,hw,Dw _ .i64 _ hi]⟩
     ·have p0:¬ (97≤n):=(by omega);have p1:n≤122:=(by omega);have p2:65≤n:=(by omega);have p3:n≤90:=(by omega);have p4:¬ (n=95):=(by omega);have p5:¬ (n<48):=(by omega);have p6:57<n:=(by omega);exact .inl ⟨by simp only [CT,h0,p0,p1,p2,p3,p4];simp;try omega,by simp [Tryz.f157,← hn,hi',hc5,e0,c1,c2,c3,c4,c5,c6,c7,p0,p1,p2,p3,p4,p5,p6,hw,Dw _ .i64 _ hi]⟩
     ·have p0:¬ (97≤n):=(by omega);have p1:n≤122:=(by omega);have p2:65≤n:=(by omega);have p3:¬ (n≤90):=(by omega);have p4:¬ (n=95):=(by omega);have p5:¬ (n<48):=(by omega);have p6:57<n:=(by omega);exact .inr ⟨by simp only [CT,h0,p0,p1,p2,p3,p4];simp;try omega,by simp [Tryz.f157,← hn,hi',hc5,e0,c1,c2,c3,c4,c5,c6,c7,p0,p1,p2,p3,p4,p5,p6,hw,Dw _ .i64 _ hi]⟩
     ·have p0:¬ (97≤n):=(by omega);have p1:n≤122:=(by omega);have p2:65≤n:=(by omega);have p3:¬ (n≤90):=(by omega);have p4:n=95:=(by omega);have p5:¬ (n<48):=(by omega);have p6:57<n:=(by omega);exact .inr ⟨by simp only [CT,h0,p0,p1,p2,p3,p4];simp;try omega,by simp [Tryz.f157,← hn,hi',hc5,e0,c1,c2,c3,c4,c5,c6,c7,p0,p1,p2,p3,p4,p5,p6,hw,Dw _ .i64 _ hi]⟩
     ·have p0:¬ (97≤n):=(by omega);have p1:n≤122:=(by omega);have p2:65≤n:=(by omega);have p3:¬ (n≤90):=(by omega);have p4:¬ (n=95):=(by omega);have p5:¬ (n<48):=(by omega);have p6:57<n:=(by omega);exact .inr ⟨by simp only [CT,h0,p0,p1,p2,p3,p4];simp;try omega,by simp [Tryz.f157,← hn,hi',hc5,e0,c1,c2,c3,c4,c5,c6,c7,p0,p1,p2,p3,p4,p5,p6,hw,Dw _ .i64 _ hi]⟩
     ·have p0:97≤n:=(by omega);have p1:n≤122:=(by omega);have p2:65≤n:=(by omega);have p3:¬ (n≤90):=(by omega);have p4:¬ (n=95):=(by omega);have p5:¬ (n<48):=(by omega);have p6:57<n:=(by omega);exact .inl ⟨by simp only [CT,h0,p0,p1,p2,p3,p4];simp;try omega,by simp [Tryz.f157,← hn,hi',hc5,e0,c1,c2,c3,c4,c5,c6,c7,p0,p1,p2,p3,p4,p5,p6,hw,Dw _ .i64 _ hi]⟩
     ·have p0:97≤n:=(by omega);have p1:¬ (n≤122):=(by omega);have p2:65≤n:=(by omega);have p3:¬ (n≤90):=(by omega);have p4:¬ (n=95):=(by omega);have p5:¬ (n<48):=(by omega);have p6:57<n:=(by omega);exact .inr ⟨by simp only [CT,h0,p0,p1,p2,p3,p4];simp;try omega,by simp [Tryz.f157,← hn,hi',hc5,e0,c1,c2,c3,c4,c5,c6,c7,p0,p1,p2,p3,p4,p5,p6,hw,Dw _ .i64 _ hi]⟩
    ·have e0:((i:Int) == 0)=false:=by simp;omega
     rcases nine n with h | h | h | h | h | h | h | h | h
     ·have p0:¬ (97≤n):=(by omega);have p1:n≤122:=(by omega);have p2:¬ (65≤n):=(by omega);have p3:n≤90:=(by omega);have p4:¬ (n=95):=(by omega);have p5:n<48:=(by omega);have p6:¬ (57<n):=(by omega);exact .inr ⟨by simp only [CT,h0,p0,p1,p2,p3,p4];simp;try omega,by simp [Tryz.f157,← hn,hi',hc5,e0,c1,c2,c3,c4,c5,c6,c7,p0,p1,p2,p3,p4,p5,p6,hw,Dw _ .i64 _ hi]⟩
     ·have p0:¬ (97≤n):=(by omega);have p1:n≤122:=(by omega);have p2:¬ (65≤n):=(by omega);have p3:n≤90:=(by omega);have p4:¬ (n=95):=(by omega);have p5:¬ (n<48):=(by omega);have p6:¬ (57<n):=(by omega);exact .inl ⟨by simp only [CT,h0,p0,p1,p2,p3,p4];simp;try omega,by simp [Tryz.f157,← hn,hi',hc5,e0,c1,c2,c3,c4,c5,c6,c7,p0,p1,p2,p3,p4,p5,p6,hw,Dw _ .i64 _ hi]⟩
     ·have p0:¬ (97≤n):=(by omega);have p1:n≤122:=(by omega);have p2:¬ (65≤n):=(by omega);have p3:n≤90:=(by omega);have p4:¬ (n=95):=(by omega);have p5:¬ (n<48):=(by omega);have p6:57<n:=(by omega);exact .inr ⟨by simp only [CT,h0,p0,p1,p2,p3,p4];simp;try omega,by simp [Tryz.f157,← hn,hi',hc5,e0,c1,c2,c3,c4,c5,c6,c7,p0,p1,p2,p3,p4,p5,p6,hw,Dw _ .i64 _ hi]⟩
     ·have p0:¬ (97≤n):=(by omega);have p1:n≤122:=(by omega);have p2:65≤n:=(by omega);have p3:n≤90:=(by omega);have p4:¬ (n=95):=(by omega);have p5:¬ (n<48):=(by omega);have p6:57<n:=(by omega);exact .inl ⟨by simp only [CT,h0,p0,p1,p2,p3,p4];simp;try omega,by simp [Tryz.f157,← hn,hi',hc5,e0,c1,c2,c3,c4,c5,c6,c7,p0,p1,p2,p3,p4,p5,p6,hw,Dw _ .i64 _ hi]⟩
     ·have p0:¬ (97≤n):=(by omega);have p1:n≤122:=(by omega);have p2:65≤n:=(by omega);have p3:¬ (n≤90):=(by omega);have p4:¬ (n=95):=(by omega);have p5:¬ (n<48):=(by omega);have p6:57<n:=(by omega);exact .inr ⟨by simp only [CT,h0,p0,p1,p2,p3,p4];simp;try omega,by simp [Tryz.f157,← hn,hi',hc5,e0,c1,c2,c3,c4,c5,c6,c7,p0,p1,p2,p3,p4,p5,p6,hw,Dw _ .i64 _ hi]⟩
     ·have p0:¬ (97≤n):=(by omega);have p1:n≤122:=(by omega);have p2:65≤n:=(by omega);have p3:¬ (n≤90):=(by omega);have p4:n=95:=(by omega);have p5:¬ (n<48):=(by omega);have p6:57<n:=(by omega);exact .inl ⟨by simp only [CT,h0,p0,p1,p2,p3,p4];simp;try omega,by simp [Tryz.f157,← hn,hi',hc5,e0,c1,c2,c3,c4,c5,c6,c7,p0,p1,p2,p3,p4,p5,p6,hw,Dw _ .i64 _ hi]⟩
     ·have p0:¬ (97≤n):=(by omega);have p1:n≤122:=(by omega);have p2:65≤n:=(by omega);have p3:¬ (n≤90):=(by omega);have p4:¬ (n=95):=(by omega);have p5:¬ (n<48):=(by omega);have p6:57<n:=(by omega);exact .inr ⟨by simp only [CT,h0,p0,p1,p2,p3,p4];simp;try omega,by simp [Tryz.f157,← hn,hi',hc5,e0,c1,c2,c3,c4,c5,c6,c7,p0,p1,p2,p3,p4,p5,p6,hw,Dw _ .i64 _ hi]⟩
     ·have p0:97≤n:=(by omega);have p1:n≤122:=(by omega);have p2:65≤n:=(by omega);have p3:¬ (n≤90):=(by omega);have p4:¬ (n=95):=(by omega);have p5:¬ (n<48):=(by omega);have p6:57<n:=(by omega);exact .inl ⟨by simp only [CT,h0,p0,p1,p2,p3,p4];simp;try omega,by simp [Tryz.f157,← hn,hi',hc5,e0,c1,c2,c3,c4,c5,c6,c7,p0,p1,p2,p3,p4,p5,p6,hw,Dw _ .i64 _ hi]⟩
     ·have p0:97≤n:=(by omega);have p1:¬ (n≤122):=(by omega);have p2:65≤n:=(by omega);have p3:¬ (n≤90):=(by omega);have p4:¬ (n=95):=(by omega);have p5:¬ (n<48):=(by omega);have p6:57<n:=(by omega);exact .inr ⟨by simp only [CT,h0,p0,p1,p2,p3,p4];simp;try omega,by simp [Tryz.f157,← hn,hi',hc5,e0,c1,c2,c3,c4,c5,c6,c7,p0,p1,p2,p3,p4,p5,p6,hw,Dw _ .i64 _ hi]⟩
   rcases key with ⟨h1,h2⟩ | ⟨h1,h2⟩
   ·exact .inl ⟨(),h2,by rw [hI,hd,h1,Bool.true_and]⟩
   ·exact .inr ⟨_,_,h2,by simp,.inr ⟨rfl,by rw [hI,hd,h1,Bool.false_and]⟩⟩) (fun b hI=>by
   refine ⟨_,_,by simp [Tryz.f157] <;> exact ⟨rfl,rfl⟩,by simp,.inl ⟨rfl,?_⟩⟩
   rw [hI,List.drop_length];rfl) () (by simp)
  have hl1:¬ ((s.length:Int)<1):=by omega
  have hl2:¬ (16<(s.length:Int)):=by omega
  simp [Tryz.f157] at hlp
  rcases hq with ⟨hq,ha⟩ | ⟨hq,ha⟩ <;> cases hq <;> simp [AN,Tryz.f157,hlp,hl1,hl2,A6,ha,hl]
 ·have hl':A6 s=false:=by simp [A6];intro h1 h2;exact absurd ⟨h1,h2⟩ hl
  by_cases h1:s.length<1
  ·have:((s.length:Int)<1):=by omega
   simp [AN,Tryz.f157,this,hl']
  ·have h1':¬ ((s.length:Int)<1):=by omega
   have h2:(16<(s.length:Int)):=by omega
   simp [AN,Tryz.f157,h1',h2,hl']
@[simp] theorem Te (s:Bytes) (hs:s.length<1048577) (h:AE):AK MX (AH MX) 157 [.str s] h=some (.ret (.bool (A6 s)),h):=Ae Sl Ve rfl rfl (t157 s hs []) h
theorem t180 (s:Bytes) (hs:s.length<1048577):AN MX 180 [.str s] []=some (.ret (.bool (A6 s)),[.arr 1 false (CZ s)]):=by
 obtain ⟨e,st,hlp,hq⟩:=AR (M:=MX) (fid:=180) (N:=50) (C:=AH MX) (c:=AP Tryz.f180 0) (n:=s.length) (fun i (_:Unit)=>([(0,.str s),(7,.hs 0 s.length 1 0 s.length false),(8,.int .i64 s.length),(9,.int .i64 i)],[.arr 1 false (CZ s)])) (fun i _=>GB 0 s=GB i (s.drop i))
   (fun r=>(r=(.ext 0,([(0,.str s),(7,.hs 0 s.length 1 0 s.length false),(8,.int .i64 s.length),(9,.int .i64 s.length),(10,.bool false)],[.arr 1 false (CZ s)]))∧GB 0 s=true)∨(r=(.ret,([(2,.bool false)],[.arr 1 false (CZ s)]))∧GB 0 s=false)) (fun i b hi hI=>by
   obtain ⟨n,hn⟩:∃ n,n=s[i].toNat:=⟨_,rfl⟩
   have hd:=Ir hi
   rw [← hn] at hd
   have hw:wr .i64 ((i:Int)+1)=(i:Int)+1:=BD (by omega) (by omega)
   have hi':((i:Int)<(s.length:Int)):=by omega
   have key:(CT i n=true∧AW MX 180 50 (AH MX) (AP Tryz.f180 0) ([(0,AV.str s),(7,AV.hs 0 s.length 1 0 s.length false),(8,AV.int .i64 s.length),(9,AV.int .i64 i)],[.arr 1 false (CZ s)])=some (.nrm,([(0,AV.str s),(7,AV.hs 0 s.length 1 0 s.length false),(8,AV.int .i64 s.length),(9,AV.int .i64 ((i:Int)+1))],[.arr 1 false (CZ s)])))∨(CT i n=false∧AW MX 180 50 (AH MX) (AP Tryz.f180 0) ([(0,AV.str s),(7,AV.hs 0 s.length 1 0 s.length false),(8,AV.int .i64 s.length),(9,AV.int .i64 i)],[.arr 1 false (CZ s)])=some (.ret,([(2,.bool false)],[.arr 1 false (CZ s)]))):=by
    have hc:∀ k:Nat,((k:Int)≤(n:Int)↔k≤n)∧((n:Int)≤(k:Int)↔n≤k)∧((n:Int)<(k:Int)↔n<k)∧((k:Int)<(n:Int)↔k<n)∧((n:Int)=(k:Int)↔n=k):=fun k=>by omega
    have c1:=(hc 97).1;have c2:=(hc 122).2.1;have c3:=(hc 65).1;have c4:=(hc 90).2.1;have c5:=(hc 95).2.2.2.2;have c6:=(hc 48).2.2.1;have c7:=(hc 57).2.2.2.1
    simp only [Int.cast_ofNat_Int] at c1 c2 c3 c4 c5 c6 c7
    have hc5:((n:Int) != 95)=decide (n≠95):=by rw [Bool.eq_iff_iff];simp [c5]
    by_cases h0:i=0
    ·have e0:((i:Int) == 0)=true:=by simp [h0]
     rcases nine n with h | h | h | h | h | h | h | h | h
     ·have p0:¬ (97≤n):=(by omega);have p1:n≤122:=(by omega);have p2:¬ (65≤n):=(by omega);have p3:n≤90:=(by omega);have p4:¬ (n=95):=(by omega);have p5:n<48:=(by omega);have p6:¬ (57<n):=(by omega);exact .inr ⟨by simp only [CT,h0,p0,p1,p2,p3,p4];simp;try omega,by simp [Tryz.f180,← hn,hi',hc5,e0,c1,c2,c3,c4,c5,c6,c7,p0,p1,p2,p3,p4,p5,p6,hw,A8 i 0 0 s.length 1 s.length false .i64 hi,Ab,Aj hi]⟩
     ·have p0:¬ (97≤n):=(by omega);have p1:n≤122:=(by omega);have p2:¬ (65≤n):=(by omega);have p3:n≤90:=(by omega);have p4:¬ (n=95):=(by omega);have p5:¬ (n<48):=(by omega);have p6:¬ (57<n):=(by omega);exact .inr ⟨by simp only [CT,h0,p0,p1,p2,p3,p4];simp;try omega,by simp [Tryz.f180,← hn,hi',hc5,e0,c1,c2,c3,c4,c5,c6,c7,p0,p1,p2,p3,p4,p5,p6,hw,A8 i 0 0 s.length 1 s.length false .i64 hi,Ab,Aj hi]⟩
     ·have p0:¬ (97≤n):=(by omega);have p1:n≤122:=(by omega);have p2:¬ (65≤n):=(by omega);have p3:n≤90:=(by omega);have p4:¬ (n=95):=(by omega);have p5:¬ (n<48):=(by omega);have p6:57<n:=(by omega);exact .inr ⟨by simp only [CT,h0,p0,p1,p2,p3,p4];simp;try omega,by simp [Tryz.f180,← hn,hi',hc5,e0,c1,c2,c3,c4,c5,c6,c7,p0,p1,p2,p3,p4,p5,p6,hw,A8 i 0 0 s.length 1 s.length false .i64 hi,Ab,Aj hi]⟩
     ·have p0:¬ (97≤n):=(by omega);have p1:n≤122:=(by omega);have p2:65≤n:=(by omega);have p3:n≤90:=(by omega);have p4:¬ (n=95):=(by omega);have p5:¬ (n<48):=(by omega);have p6:57<n:=(by omega);exact .inl ⟨by simp only [CT,h0,p0,p1,p2,p3,p4];simp;try omega,by simp [Tryz.f180,← hn,hi',hc5,e0,c1,c2,c3,c4,c5,c6,c7,p0,p1,p2,p3,p4,p5,p6,hw,A8 i 0 0 s.length 1 s.length false .i64 hi,Ab,Aj hi]⟩
     ·have p0:¬ (97≤n):=(by omega);have p1:n≤122:=(by omega);have p2:65≤n:=(by omega);have p3:¬ (n≤90):=(by omega);have p4:¬ (n=95):=(by omega);have p5:¬ (n<48):=(by omega);have p6:57<n:=(by omega);exact .inr ⟨by simp only [CT,h0,p0,p1,p2,p3,p4];simp;try omega,by simp [Tryz.f180,← hn,hi',hc5,e0,c1,c2,c3,c4,c5,c6,c7,p0,p1,p2,p3,p4,p5,p6,hw,A8 i 0 0 s.length 1 s.length false .i64 hi,Ab,Aj hi]⟩
     ·have p0:¬ (97≤n):=(by omega);have p1:n≤122:=(by omega);have p2:65≤n:=(by omega);have p3:¬ (n≤90):=(by omega);have p4:n=95:=(by omega);have p5:¬ (n<48):=(by omega);have p6:57<n:=(by omega);exact .inr ⟨by simp only [CT,h0,p0,p1,p2,p3,p4];simp;try omega,by simp [Tryz.f180,← hn,hi',hc5,e0,c1,c2,c3,c4,c5,c6,c7,p0,p1,p2,p3,p4,p5,p6,hw,A8 i 0 0 s.length 1 s.length false .i64 hi,Ab,Aj hi]⟩
     ·have p0:¬ (97≤n):=(by omega);have p1:n≤122:=(by omega);have p2:65≤n:=(by omega);have p3:¬ (n≤90):=(by omega);have p4:¬ (n=95):=(by omega);have p5:¬ (n<48):=(by omega);have p6:57<n:=(by omega);exact .inr ⟨by simp only [CT,h0,p0,p1,p2,p3,p4];simp;try omega,by simp [Tryz.f180,← hn,hi',hc5,e0,c1,c2,c3,c4,c5,c6,c7,p0,p1,p2,p3,p4,p5,p6,hw,A8 i 0 0 s.length 1 s.length false .i64 hi,Ab,Aj hi]⟩
     ·have p0:97≤n:=(by omega);have p1:n≤122:=(by omega);have p2:65≤n:=(by omega);have p3:¬ (n≤90):=(by omega);have p4:¬ (n=95):=(by omega);have p5:¬ (n<48):=(by omega);have p6:57<n:=(by omega);exact .inl ⟨by simp only [CT,h0,p0,p1,p2,p3,p4];simp;try omega,by simp [Tryz.f180,← hn,hi',hc5,e0,c1,c2,c3,c4,c5,c6,c7,p0,p1,p2,p3,p4,p5,p6,hw,A8 i 0 0 s.length 1 s.length false .i64 hi,Ab,Aj hi]⟩
     ·have p0:97≤n:=(by omega);have p1:¬ (n≤122):=(by omega);have p2:65≤n:=(by omega);have p3:¬ (n≤90):=(by omega);have p4:¬ (n=95):=(by omega);have p5:¬ (n<48):=(by omega);have p6:57<n:=(by omega);exact .inr ⟨by simp only [CT,h0,p0,p1,p2,p3,p4];simp;try omega,by simp [Tryz.f180,← hn,hi',hc5,e0,c1,c2,c3,c4,c5,c6,c7,p0,p1,p2,p3,p4,p5,p6,hw,A8 i 0 0 s.length 1 s.length false .i64 hi,Ab,Aj hi]⟩
    ·have e0:((i:Int) == 0)=false:=by simp;omega
     rcases nine n with h | h | h | h | h | h | h | h | h
     ·have p0:¬ (97≤n):=(by omega);have p1:n≤122:=(by omega);have p2:¬ (65≤n):=(by omega);have p3:n≤90:=(by omega);have p4:¬ (n=95):=(by omega);have p5:n<48:=(by omega);have p6:¬ (57<n):=(by omega);exact .inr ⟨by simp only [CT,h0,p0,p1,p2,p3,p4];simp;try omega,by simp [Tryz.f180,← hn,hi',hc5,e0,c1,c2,c3,c4,c5,c6,c7,p0,p1,p2,p3,p4,p5,p6,hw,A8 i 0 0 s.length 1 s.length false .i64 hi,Ab,Aj hi]⟩
     ·have p0:¬ (97≤n):=(by omega);have p1:n≤122:=(by omega);have p2:¬ (65≤n):=(by omega);have p3:n≤90:=(by omega);have p4:¬ (n=95):=(by omega);have p5:¬ (n<48):=(by omega);have p6:¬ (57<n):=(by omega);exact .inl ⟨by simp only [CT,h0,p0,p1,p2,p3,p4];simp;try omega,by simp [Tryz.f180,← hn,hi',hc5,e0,c1,c2,c3,c4,c5,c6,c7,p0,p1,p2,p3,p4,p5,p6,hw,A8 i 0 0 s.length 1 s.length false .i64 hi,Ab,Aj hi]⟩
     ·have p0:¬ (97≤n):=(by omega);have p1:n≤122:=(by omega);have p2:¬ (65≤n):=(by omega);have p3:n≤90:=(by omega);have p4:¬ (n=95):=(by omega);have p5:¬ (n<48):=(by omega);have p6:57<n:=(by omega);exact .inr ⟨by simp only [CT,h0,p0,p1,p2,p3,p4];simp;try omega,by simp [Tryz.f180,← hn,hi',hc5,e0,c1,c2,c3,c4,c5,c6,c7,p0,p1,p2,p3,p4,p5,p6,hw,A8 i 0 0 s.length 1 s.length false .i64 hi,Ab,Aj hi]⟩
     ·have p0:¬ (97≤n):=(by omega);have p1:n≤122:=(by omega);have p2:65≤n:=(by omega);have p3:n≤90:=(by omega);have p4:¬ (n=95):=(by omega);have p5:¬ (n<48):=(by omega);have p6:57<n:=(by omega);exact .inl ⟨by simp only [CT,h0,p0,p1,p2,p3,p4];simp;try omega,by simp [Tryz.f180,← hn,hi',hc5,e0,c1,c2,c3,c4,c5,c6,c7,p0,p1,p2,p3,p4,p5,p6,hw,A8 i 0 0 s.length 1 s.length false .i64 hi,Ab,Aj hi]⟩
     ·have p0:¬ (97≤n):=(by omega);have p1:n≤122:=(by omega);have p2:65≤n:=(by omega);have p3:¬ (n≤90):=(by omega);have p4:¬ (n=95):=(by omega);have p5:¬ (n<48):=(by omega);have p6:57<n:=(by omega);exact .inr ⟨by simp only [CT,h0,p0,p1,p2,p3,p4];simp;try omega,by simp [Tryz.f180,← hn,hi',hc5,e0,c1,c2,c3,c4,c5,c6,c7,p0,p1,p2,p3,p4,p5,p6,hw,A8 i 0 0 s.length 1 s.length false .i64 hi,Ab,Aj hi]⟩
     ·have p0:¬ (97≤n):=(by omega);have p1:n≤122:=(by omega);have p2:65≤n:=(by omega);have p3:¬ (n≤90):=(by omega);have p4:n=95:=(by omega);have p5:¬ (n<48):=(by omega);have p6:57<n:=(by omega);exact .inl ⟨by simp only [CT,h0,p0,p1,p2,p3,p4];simp;try omega,by simp [Tryz.f180,← hn,hi',hc5,e0,c1,c2,c3,c4,c5,c6,c7,p0,p1,p2,p3,p4,p5,p6,hw,A8 i 0 0 s.length 1 s.length false .i64 hi,Ab,Aj hi]⟩
     ·have p0:¬ (97≤n):=(by omega);have p1:n≤122:=(by omega);have p2:65≤n:=(by omega);have p3:¬ (n≤90):=(by omega);have p4:¬ (n=95):=(by omega);have p5:¬ (n<48):=(by omega);have p6:57<n:=(by omega);exact .inr ⟨by simp only [CT,h0,p0,p1,p2,p3,p4];simp;try omega,by simp [Tryz.f180,← hn,hi',hc5,e0,c1,c2,c3,c4,c5,c6,c7,p0,p1,p2,p3,p4,p5,p6,hw,A8 i 0 0 s.length 1 s.length false .i64 hi,Ab,Aj hi]⟩
     ·have p0:97≤n:=(by omega);have p1:n≤122:=(by omega);have p2:65≤n:=(by omega);have p3:¬ (n≤90):=(by omega);have p4:¬ (n=95):=(by omega);have p5:¬ (n<48):=(by omega);have p6:57<n:=(by omega);exact .inl ⟨by simp only [CT,h0,p0,p1,p2,p3,p4];simp;try omega,by simp [Tryz.f180,← hn,hi',hc5,e0,c1,c2,c3,c4,c5,c6,c7,p0,p1,p2,p3,p4,p5,p6,hw,A8 i 0 0 s.length 1 s.length false .i64 hi,Ab,Aj hi]⟩
     ·have p0:97≤n:=(by omega);have p1:¬ (n≤122):=(by omega);have p2:65≤n:=(by omega);have p3:¬ (n≤90):=(by omega);have p4:¬ (n=95):=(by omega);have p5:¬ (n<48):=(by omega);have p6:57<n:=(by omega);exact .inr ⟨by simp only [CT,h0,p0,p1,p2,p3,p4];simp;try omega,by simp [Tryz.f180,← hn,hi',hc5,e0,c1,c2,c3,c4,c5,c6,c7,p0,p1,p2,p3,p4,p5,p6,hw,A8 i 0 0 s.length 1 s.length false .i64 hi,Ab,Aj hi]⟩
   rcases key with ⟨h1,h2⟩ | ⟨h1,h2⟩
   ·exact .inl ⟨(),h2,by rw [hI,hd,h1,Bool.true_and]⟩
   ·exact .inr ⟨_,_,h2,by simp,.inr ⟨rfl,by rw [hI,hd,h1,Bool.false_and]⟩⟩) (fun b hI=>by
   refine ⟨_,_,by simp [Tryz.f180] <;> exact ⟨rfl,rfl⟩,by simp,.inl ⟨rfl,?_⟩⟩
   rw [hI,List.drop_length];rfl) () (by simp)
 simp [Tryz.f180] at hlp
 have hlen:decide ((1:Int)≤s.length∧(s.length:Int)≤16)=decide (1≤s.length∧s.length≤16):=by rw [Bool.eq_iff_iff];simp;omega
 rcases hq with ⟨hq,ha⟩ | ⟨hq,ha⟩ <;> cases hq <;> simp [AN,Tryz.f180,hlp,cvB,Av,Ab,c181,A6,ha,hlen]
theorem t268 (s:Bytes) (hs:s.length<1048577):AN MX 268 [.str s] []=some (.ret (.bool (A6 s)),[.arr 1 false (CZ s)]):=by
 obtain ⟨e,st,hlp,hq⟩:=AR (M:=MX) (fid:=268) (N:=50) (C:=AH MX) (c:=AP Tryz.f268 0) (n:=s.length) (fun i (_:Unit)=>([(0,.str s),(7,.hs 0 s.length 1 0 s.length false),(8,.int .i64 s.length),(9,.int .i64 i)],[.arr 1 false (CZ s)])) (fun i _=>GB 0 s=GB i (s.drop i))
   (fun r=>(r=(.ext 0,([(0,.str s),(7,.hs 0 s.length 1 0 s.length false),(8,.int .i64 s.length),(9,.int .i64 s.length),(10,.bool false)],[.arr 1 false (CZ s)]))∧GB 0 s=true)∨(r=(.ret,([(2,.bool false)],[.arr 1 false (CZ s)]))∧GB 0 s=false)) (fun i b hi hI=>by
   obtain ⟨n,hn⟩:∃ n,n=s[i].toNat:=⟨_,rfl⟩
   have hd:=Ir hi
   rw [← hn] at hd
   have hw:wr .i64 ((i:Int)+1)=(i:Int)+1:=BD (by omega) (by omega)
   have hi':((i:Int)<(s.length:Int)):=by omega
   have key:(CT i n=true∧AW MX 268 50 (AH MX) (AP Tryz.f268 0) ([(0,AV.str s),(7,AV.hs 0 s.length 1 0 s.length false),(8,AV.int .i64 s.length),(9,AV.int .i64 i)],[.arr 1 false (CZ s)])=some (.nrm,([(0,AV.str s),(7,AV.hs 0 s.length 1 0 s.length false),(8,AV.int .i64 s.length),(9,AV.int .i64 ((i:Int)+1))],[.arr 1 false (CZ s)])))∨(CT i n=false∧AW MX 268 50 (AH MX) (AP Tryz.f268 0) ([(0,AV.str s),(7,AV.hs 0 s.length 1 0 s.length false),(8,AV.int .i64 s.length),(9,AV.int .i64 i)],[.arr 1 false (CZ s)])=some (.ret,([(2,.bool false)],[.arr 1 false (CZ s)]))):=by
    have hc:∀ k:Nat,((k:Int)≤(n:Int)↔k≤n)∧((n:Int)≤(k:Int)↔n≤k)∧((n:Int)<(k:Int)↔n<k)∧((k:Int)<(n:Int)↔k<n)∧((n:Int)=(k:Int)↔n=k):=fun k=>by omega
    have c1:=(hc 97).1;have c2:=(hc 122).2.1;have c3:=(hc 65).1;have c4:=(hc 90).2.1;have c5:=(hc 95).2.2.2.2;have c6:=(hc 48).2.2.1;have c7:=(hc 57).2.2.2.1
    simp only [Int.cast_ofNat_Int] at c1 c2 c3 c4 c5 c6 c7
    have hc5:((n:Int) != 95)=decide (n≠95):=by rw [Bool.eq_iff_iff];simp [c5]
    by_cases h0:i=0
    ·have e0:((i:Int) == 0)=true:=by simp [h0]
     rcases nine n with h | h | h | h | h | h | h | h | h
     ·have p0:¬ (97≤n):=(by omega);have p1:n≤122:=(by omega);have p2:¬ (65≤n):=(by omega);have p3:n≤90:=(by omega);have p4:¬ (n=95):=(by omega);have p5:n<48:=(by omega);have p6:¬ (57<n):=(by omega);exact .inr ⟨by simp only [CT,h0,p0,p1,p2,p3,p4];simp;try omega,by simp [Tryz.f268,← hn,hi',hc5,e0,c1,c2,c3,c4,c5,c6,c7,p0,p1,p2,p3,p4,p5,p6,hw,A8 i 0 0 s.length 1 s.length false .i64 hi,Ab,Aj hi]⟩
     ·have p0:¬ (97≤n):=(by omega);have p1:n≤122:=(by omega);have p2:¬ (65≤n):=(by omega);have p3:n≤90:=(by omega);have p4:¬ (n=95):=(by omega);have p5:¬ (n<48):=(by omega);have p6:¬ (57<n):=(by omega);exact .inr ⟨by simp only [CT,h0,p0,p1,p2,p3,p4];simp;try omega,by simp [Tryz.f268,← hn,hi',hc5,e0,c1,c2,c3,c4,c5,c6,c7,p0,p1,p2,p3,p4,p5,p6,hw,A8 i 0 0 s.length 1 s.length false .i64 hi,Ab,Aj hi]⟩
     ·have p0:¬ (97≤n):=(by omega);have p1:n≤122:=(by omega);have p2:¬ (65≤n):=(by omega);have p3:n≤90:=(by omega);have p4:¬ (n=95):=(by omega);have p5:¬ (n<48):=(by omega);have p6:57<n:=(by omega);exact .inr ⟨by simp only [CT,h0,p0,p1,p2,p3,p4];simp;try omega,by simp [Tryz.f268,← hn,hi',hc5,e0,c1,c2,c3,c4,c5,c6,c7,p0,p1,p2,p3,p4,p5,p6,hw,A8 i 0 0 s.length 1 s.length false .i64 hi,Ab,Aj hi]⟩
     ·have p0:¬ (97≤n):=(by omega);have p1:n≤122:=(by omega);have p2:65≤n:=(by omega);have p3:n≤90:=(by omega);have p4:¬ (n=95):=(by omega);have p5:¬ (n<48):=(by omega);have p6:57<n:=(by omega);exact .inl ⟨by simp only [CT,h0,p0,p1,p2,p3,p4];simp;try omega,by simp [Tryz.f268,← hn,hi',hc5,e0,c1,c2,c3,c4,c5,c6,c7,p0,p1,p2,p3,p4,p5,p6,hw,A8 i 0 0 s.length 1 s.length false .i64 hi,Ab,Aj hi]⟩
     ·have p0:¬ (97≤n):=(by omega);have p1:n≤122:=(by omega);have p2:65≤n:=(by omega);have p3:¬ (n≤90):=(by omega);have p4:¬ (n=95):=(by omega);have p5:¬ (n<48):=(by omega);have p6:57<n:=(by omega);exact .inr ⟨by simp only [CT,h0,p0,p1,p2,p3,p4];simp;try omega,by simp [Tryz.f268,← hn,hi',hc5,e0,c1,c2,c3,c4,c5,c6,c7,p0,p1,p2,p3,p4,p5,p6,hw,A8 i 0 0 s.length 1 s.length false .i64 hi,Ab,Aj hi]⟩
     ·have p0:¬ (97≤n):=(by omega);have p1:n≤122:=(by omega);have p2:65≤n:=(by omega);have p3:¬ (n≤90):=(by omega);have p4:n=95:=(by omega);have p5:¬ (n<48):=(by omega);have p6:57<n:=(by omega);exact .inr ⟨by simp only [CT,h0,p0,p1,p2,p3,p4];simp;try omega,by simp [Tryz.f268,← hn,hi',hc5,e0,c1,c2,c3,c4,c5,c6,c7,p0,p1,p2,p3,p4,p5,p6,hw,A8 i 0 0 s.length 1 s.length false .i64 hi,Ab,Aj hi]⟩
     ·have p0:¬ (97≤n):=(by omega);have p1:n≤122:=(by omega);have p2:65≤n:=(by omega);have p3:¬ (n≤90):=(by omega);have p4:¬ (n=95):=(by omega);have p5:¬ (n<48):=(by omega);have p6:57<n:=(by omega);exact .inr ⟨by simp only [CT,h0,p0,p1,p2,p3,p4];simp;try omega,by simp [Tryz.f268,← hn,hi',hc5,e0,c1,c2,c3,c4,c5,c6,c7,p0,p1,p2,p3,p4,p5,p6,hw,A8 i 0 0 s.length 1 s.length false .i64 hi,Ab,Aj hi]⟩
     ·have p0:97≤n:=(by omega);have p1:n≤122:=(by omega);have p2:65≤n:=(by omega);have p3:¬ (n≤90):=(by omega);have p4:¬ (n=95):=(by omega);have p5:¬ (n<48):=(by omega);have p6:57<n:=(by omega);exact .inl ⟨by simp only [CT,h0,p0,p1,p2,p3,p4];simp;try omega,by simp [Tryz.f268,← hn,hi',hc5,e0,c1,c2,c3,c4,c5,c6,c7,p0,p1,p2,p3,p4,p5,p6,hw,A8 i 0 0 s.length 1 s.length false .i64 hi,Ab,Aj hi]⟩
     ·have p0:97≤n:=(by omega);have p1:¬ (n≤122):=(by omega);have p2:65≤n:=(by omega);have p3:¬ (n≤90):=(by omega);have p4:¬ (n=95):=(by omega);have p5:¬ (n<48):=(by omega);have p6:57<n:=(by omega);exact .inr ⟨by simp only [CT,h0,p0,p1,p2,p3,p4];simp;try omega,by simp [Tryz.f268,← hn,hi',hc5,e0,c1,c2,c3,c4,c5,c6,c7,p0,p1,p2,p3,p4,p5,p6,hw,A8 i 0 0 s.length 1 s.length false .i64 hi,Ab,Aj hi]⟩
    ·have e0:((i:Int) == 0)=false:=by simp;omega
     rcases nine n with h | h | h | h | h | h | h | h | h
     ·have p0:¬ (97≤n):=(by omega);have p1:n≤122:=(by omega);have p2:¬ (65≤n):=(by omega);have p3:n≤90:=(by omega);have p4:¬ (n=95):=(by omega);have p5:n<48:=(by omega);have p6:¬ (57<n):=(by omega);exact .inr ⟨by simp only [CT,h0,p0,p1,p2,p3,p4];simp;try omega,by simp [Tryz.f268,← hn,hi',hc5,e0,c1,c2,c3,c4,c5,c6,c7,p0,p1,p2,p3,p4,p5,p6,hw,A8 i 0 0 s.length 1 s.length false .i64 hi,Ab,Aj hi]⟩
     ·have p0:¬ (97≤n):=(by omega);have p1:n≤122:=(by omega);have p2:¬ (65≤n):=(by omega);have p3:n≤90:=(by omega);have p4:¬ (n=95):=(by omega);have p5:¬ (n<48):=(by omega);have p6:¬ (57<n):=(by omega);exact .inl ⟨by simp only [CT,h0,p0,p1,p2,p3,p4];simp;try omega,by simp [Tryz.f268,← hn,hi',hc5,e0,c1,c2,c3,c4,c5,c6,c7,p0,p1,p2,p3,p4,p5,p6,hw,A8 i 0 0 s.length 1 s.length false .i64 hi,Ab,Aj hi]⟩
     ·have p0:¬ (97≤n):=(by omega);have p1:n≤122:=(by omega);have p2:¬ (65≤n):=(by omega);have p3:n≤90:=(by omega);have p4:¬ (n=95):=(by omega);have p5:¬ (n<48):=(by omega);have p6:57<n:=(by omega);exact .inr ⟨by simp only [CT,h0,p0,p1,p2,p3,p4];simp;try omega,by simp [Tryz.f268,← hn,hi',hc5,e0,c1,c2,c3,c4,c5,c6,c7,p0,p1,p2,p3,p4,p5,p6,hw,A8 i 0 0 s.length 1 s.length false .i64 hi,Ab,Aj hi]⟩
     ·have p0:¬ (97≤n):=(by omega);have p1:n≤122:=(by omega);have p2:65≤n:=(by omega);have p3:n≤90:=(by omega);have p4:¬ (n=95):=(by omega);have p5:¬ (n<48):=(by omega);have p6:57<n:=(by omega);exact .inl ⟨by simp only [CT,h0,p0,p1,p2,p3,p4];simp;try omega,by simp [Tryz.f268,← hn,hi',hc5,e0,c1,c2,c3,c4,c5,c6,c7,p0,p1,p2,p3,p4,p5,p6,hw,A8 i 0 0 s.length 1 s.length false .i64 hi,Ab,Aj hi]⟩
     ·have p0:¬ (97≤n):=(by omega);have p1:n≤122:=(by omega);have p2:65≤n:=(by omega);have p3:¬ (n≤90):=(by omega);have p4:¬ (n=95):=(by omega);have p5:¬ (n<48):=(by omega);have p6:57<n:=(by omega);exact .inr ⟨by simp only [CT,h0,p0,p1,p2,p3,p4];simp;try omega,by simp [Tryz.f268,← hn,hi',hc5,e0,c1,c2,c3,c4,c5,c6,c7,p0,p1,p2,p3,p4,p5,p6,hw,A8 i 0 0 s.length 1 s.length false .i64 hi,Ab,Aj hi]⟩
     ·have p0:¬ (97≤n):=(by omega);have p1:n≤122:=(by omega);have p2:65≤n:=(by omega);have p3:¬ (n≤90):=(by omega);have p4:n=95:=(by omega);have p5:¬ (n<48):=(by omega);have p6:57<n:=(by omega);exact .inl ⟨by simp only [CT,h0,p0,p1,p2,p3,p4];simp;try omega,by simp [Tryz.f268,← hn,hi',hc5,e0,c1,c2,c3,c4,c5,c6,c7,p0,p1,p2,p3,p4,p5,p6,hw,A8 i 0 0 s.length 1 s.length false .i64 hi,Ab,Aj hi]⟩
     ·have p0:¬ (97≤n):=(by omega);have p1:n≤122:=(by omega);have p2:65≤n:=(by omega);have p3:¬ (n≤90):=(by omega);have p4:¬ (n=95):=(by omega);have p5:¬ (n<48):=(by omega);have p6:57<n:=(by omega);exact .inr ⟨by simp only [CT,h0,p0,p1,p2,p3,p4];simp;try omega,by simp [Tryz.f268,← hn,hi',hc5,e0,c1,c2,c3,c4,c5,c6,c7,p0,p1,p2,p3,p4,p5,p6,hw,A8 i 0 0 s.length 1 s.length false .i64 hi,Ab,Aj hi]⟩
     ·have p0:97≤n:=(by omega);have p1:n≤122:=(by omega);have p2:65≤n:=(by omega);have p3:¬ (n≤90):=(by omega);have p4:¬ (n=95):=(by omega);have p5:¬ (n<48):=(by omega);have p6:57<n:=(by omega);exact .inl ⟨by simp only [CT,h0,p0,p1,p2,p3,p4];simp;try omega,by simp [Tryz.f268,← hn,hi',hc5,e0,c1,c2,c3,c4,c5,c6,c7,p0,p1,p2,p3,p4,p5,p6,hw,A8 i 0 0 s.length 1 s.length false .i64 hi,Ab,Aj hi]⟩
     ·have p0:97≤n:=(by omega);have p1:¬ (n≤122):=(by omega);have p2:65≤n:=(by omega);have p3:¬ (n≤90):=(by omega);have p4:¬ (n=95):=(by omega);have p5:¬ (n<48):=(by omega);have p6:57<n:=(by omega);exact .inr ⟨by simp only [CT,h0,p0,p1,p2,p3,p4];simp;try omega,by simp [Tryz.f268,← hn,hi',hc5,e0,c1,c2,c3,c4,c5,c6,c7,p0,p1,p2,p3,p4,p5,p6,hw,A8 i 0 0 s.length 1 s.length false .i64 hi,Ab,Aj hi]⟩
   rcases key with ⟨h1,h2⟩ | ⟨h1,h2⟩
   ·exact .inl ⟨(),h2,by rw [hI,hd,h1,Bool.true_and]⟩
   ·exact .inr ⟨_,_,h2,by simp,.inr ⟨rfl,by rw [hI,hd,h1,Bool.false_and]⟩⟩) (fun b hI=>by
   refine ⟨_,_,by simp [Tryz.f268] <;> exact ⟨rfl,rfl⟩,by simp,.inl ⟨rfl,?_⟩⟩
   rw [hI,List.drop_length];rfl) () (by simp)
 simp [Tryz.f268] at hlp
 have hlen:decide ((1:Int)≤s.length∧(s.length:Int)≤16)=decide (1≤s.length∧s.length≤16):=by rw [Bool.eq_iff_iff];simp;omega
 rcases hq with ⟨hq,ha⟩ | ⟨hq,ha⟩ <;> cases hq <;> simp [AN,Tryz.f268,hlp,cvB,Av,Ab,O7,A6,ha,hlen]
@[simp] theorem c180 (s:Bytes) (hs:s.length<1048577) (h:AE):AK MX (AH MX) 180 [.str s] h=some (.ret (.bool (A6 s)),h):=Ae Sr Vj rfl rfl (t180 s hs) h
@[simp] theorem c268 (s:Bytes) (hs:s.length<1048577) (h:AE):AK MX (AH MX) 268 [.str s] h=some (.ret (.bool (A6 s)),h):=Ae TN WC rfl rfl (t268 s hs) h
theorem EN {α:Type} {p:α→Bool} {l:List α} {i:Nat} (hi:i<l.length) (h:∀ j (hj:j<l.length),j<i→p l[j]=false) (hp:p l[i]=true):l.findIdx? p=some i:=by
 rw [List.findIdx?_eq_some_iff_getElem]
 exact ⟨hi,hp,fun j hj=>by simp [h j (by omega) hj]⟩
theorem EO {α:Type} {p:α→Bool} {l:List α} (h:∀ j (hj:j<l.length),p l[j]=false):l.findIdx? p=none:=by
 rw [List.findIdx?_eq_none_iff]
 intro x hx
 obtain ⟨j,hj,rfl⟩:=List.getElem_of_mem hx
 exact h j hj
theorem EP {α:Type} {p:α→Bool} {l:List α} {i:Nat} (hi:i<l.length) (h:∀ j (hj:j<l.length),j<i→p l[j]=false) (hp:p l[i]=false):∀ j (hj:j<l.length),j<i+1→p l[j]=false:=fun j hj h0=>by
 by_cases hji:j=i
 ·subst hji;exact hp
 ·exact h j hj (by omega)
def ixI:Option Nat→Int
 | some i=>i
 | none => -1
theorem Ac.dest {d:AO} {xs:List AV} (h:Ac d xs):∃ pv cv,xs=[.str d.nm,pv,cv]∧SlR CI 1 d.params pv∧SlR DR 2 d.cons cv:=h
theorem DR.dest {c:Bm} {xs:List AV} (h:DR c xs):∃ fv,xs=[.str c.nm,fv]∧SlR BS 5 c.fields fv:=h
theorem AU.AY {t:TyV} {xs:List AV} (h:AU t xs):∃ pv,xs=[.int .i64 t.k,.int .i64 t.v,.str t.nm,pv]∧SlR AU 4 t.ps pv:=by
 cases t with
 | mk k v nm ps=>exact h.dest
theorem BS.dest {f:CO} {xs:List AV} (h:BS f xs):∃ pv,xs=[.str f.nm,.int .i64 f.ty.k,.int .i64 f.ty.v,.str f.ty.nm,pv]∧SlR AU 4 f.ty.ps pv:=by
 obtain ⟨tx,rfl,ht⟩:=h
 obtain ⟨pv,rfl,hp⟩:=ht.AY
 exact ⟨pv,rfl,hp⟩
theorem AZ {i n:Nat} (hi:i<n) (hn:n<1048577):wr .i64 ((i:Int)+1)=(i:Int)+1:=BD (by omega) (by omega)
theorem Aa {i n:Nat} (hi:i<n):((i:Int)<(n:Int)):=by omega
theorem t89 (l:List Bytes) (v:AV) (s:Bytes) (hv:SlR CI 1 l v) (hl:l.length<1048577) (h:AE):AN MX 89 [v,.str s] h=some (.ret (.bool (l.findIdx? (fun x:Bytes=>x == s)).isSome),h):=by
 obtain ⟨e,st,hlp,hq⟩:=AR (M:=MX) (fid:=89) (N:=18) (C:=AH MX) (c:=AP Tryz.f89 0) (n:=l.length) (fun i (_:Unit)=>([(0,v),(1,.str s),(5,.int .i64 i)],h)) (fun i _=>∀ j (hj:j<l.length),j<i→(fun x:Bytes=>x == s) l[j]=false)
  (fun r=>(r=(.ext 0,([(0,v),(1,.str s),(5,.int .i64 l.length),(9,.bool false)],h))∧l.findIdx? (fun x:Bytes=>x == s)=none)∨(∃ i:Nat,r=(.ret,([(4,.bool true)],h))∧l.findIdx? (fun x:Bytes=>x == s)=some i)) (fun i b hi hI=>by
    obtain ⟨e,he,hR⟩:=hv.ix hi
    have hi':=Aa hi
    have hw:=AZ hi hl
    cases hR
    cases hx:(l[i] == s) with
    | true=>exact .inr ⟨_,_,by simp only [beq_iff_eq] at hx;simp [Tryz.f89,hv.len,hi',he,hx] <;> exact ⟨rfl,rfl⟩,by simp,.inr ⟨i,rfl,EN (p:=(fun x:Bytes=>x == s)) hi hI hx⟩⟩
    | false=>exact .inl ⟨(),by have hx':=hx;simp only [beq_eq_false_iff_ne,ne_eq] at hx';simp [Tryz.f89,hv.len,hi',he,hx,hx',hw],EP (p:=(fun x:Bytes=>x == s)) hi hI hx⟩) (fun b hI=>by
    exact ⟨_,_,by simp [Tryz.f89,hv.len] <;> exact ⟨rfl,rfl⟩,by simp,.inl ⟨rfl,EO (p:=(fun x:Bytes=>x == s)) fun j hj=>hI j hj hj⟩⟩) () (fun j _ h0=>by omega)
 simp [Tryz.f89] at hlp
 rcases hq with ⟨hq,hs⟩ | ⟨i,hq,hs⟩ <;> cases hq <;> simp [AN,Tryz.f89,hlp,hs]
theorem c89 {l:List Bytes} {v:AV} (s:Bytes) (hv:SlR CI 1 l v) (hl:l.length<1048577) (h:AE):AK MX (AH MX) 89 [v,.str s] h=some (.ret (.bool (l.findIdx? (fun x:Bytes=>x == s)).isSome),h):=
 Ae VG YB (by simp [hv.AD,AV.AD]) rfl (t89 l v s hv hl []) h
theorem t118 (l:List AO) (v:AV) (s:Bytes) (hv:SlR Ac 3 l v) (hl:l.length<1048577) (h:AE):AN MX 118 [v,.str s] h=some (.ret (.int .i64 (ixI (l.findIdx? (fun x:AO=>x.nm == s)))),h):=by
 obtain ⟨e,st,hlp,hq⟩:=AR (M:=MX) (fid:=118) (N:=20) (C:=AH MX) (c:=AP Tryz.f118 0) (n:=l.length) (fun i (_:Unit)=>([(0,v),(1,.str s),(5,.int .i64 i)],h)) (fun i _=>∀ j (hj:j<l.length),j<i→(fun x:AO=>x.nm == s) l[j]=false)
  (fun r=>(r=(.ext 0,([(0,v),(1,.str s),(5,.int .i64 l.length),(9,.bool false)],h))∧l.findIdx? (fun x:AO=>x.nm == s)=none)∨(∃ i:Nat,r=(.ret,([(4,.int .i64 i)],h))∧l.findIdx? (fun x:AO=>x.nm == s)=some i)) (fun i b hi hI=>by
    obtain ⟨e,he,hR⟩:=hv.ix hi
    have hi':=Aa hi
    have hw:=AZ hi hl
    obtain ⟨pv,cv,rfl,hp,hc⟩:=hR.dest
    cases hx:(l[i].nm == s) with
    | true=>exact .inr ⟨_,_,by simp only [beq_iff_eq] at hx;simp [Tryz.f118,hv.len,hi',he,hx] <;> exact ⟨rfl,rfl⟩,by simp,.inr ⟨i,rfl,EN (p:=(fun x:AO=>x.nm == s)) hi hI hx⟩⟩
    | false=>exact .inl ⟨(),by have hx':=hx;simp only [beq_eq_false_iff_ne,ne_eq] at hx';simp [Tryz.f118,hv.len,hi',he,hx,hx',hw],EP (p:=(fun x:AO=>x.nm == s)) hi hI hx⟩) (fun b hI=>by
    exact ⟨_,_,by simp [Tryz.f118,hv.len] <;> exact ⟨rfl,rfl⟩,by simp,.inl ⟨rfl,EO (p:=(fun x:AO=>x.nm == s)) fun j hj=>hI j hj hj⟩⟩) () (fun j _ h0=>by omega)
 simp [Tryz.f118] at hlp
 rcases hq with ⟨hq,hs⟩ | ⟨i,hq,hs⟩ <;> cases hq <;> simp [AN,Tryz.f118,hlp,hs,ixI]
theorem c118 {l:List AO} {v:AV} (s:Bytes) (hv:SlR Ac 3 l v) (hl:l.length<1048577) (h:AE):AK MX (AH MX) 118 [v,.str s] h=some (.ret (.int .i64 (ixI (l.findIdx? (fun x:AO=>x.nm == s)))),h):=
 Ae Sa VU (by simp [hv.AD,AV.AD]) rfl (t118 l v s hv hl []) h
theorem t72 (l:List Bm) (v:AV) (s:Bytes) (hv:SlR DR 2 l v) (hl:l.length<1048577) (h:AE):AN MX 72 [v,.str s] h=some (.ret (.int .i64 (ixI (l.findIdx? (fun x:Bm=>x.nm == s)))),h):=by
 obtain ⟨e,st,hlp,hq⟩:=AR (M:=MX) (fid:=72) (N:=20) (C:=AH MX) (c:=AP Tryz.f72 0) (n:=l.length) (fun i (_:Unit)=>([(0,v),(1,.str s),(5,.int .i64 i)],h)) (fun i _=>∀ j (hj:j<l.length),j<i→(fun x:Bm=>x.nm == s) l[j]=false)
  (fun r=>(r=(.ext 0,([(0,v),(1,.str s),(5,.int .i64 l.length),(9,.bool false)],h))∧l.findIdx? (fun x:Bm=>x.nm == s)=none)∨(∃ i:Nat,r=(.ret,([(4,.int .i64 i)],h))∧l.findIdx? (fun x:Bm=>x.nm == s)=some i)) (fun i b hi hI=>by
    obtain ⟨e,he,hR⟩:=hv.ix hi
    have hi':=Aa hi
    have hw:=AZ hi hl
    obtain ⟨fv,rfl,hf⟩:=hR.dest
    cases hx:(l[i].nm == s) with
    | true=>exact .inr ⟨_,_,by simp only [beq_iff_eq] at hx;simp [Tryz.f72,hv.len,hi',he,hx] <;> exact ⟨rfl,rfl⟩,by simp,.inr ⟨i,rfl,EN (p:=(fun x:Bm=>x.nm == s)) hi hI hx⟩⟩
    | false=>exact .inl ⟨(),by have hx':=hx;simp only [beq_eq_false_iff_ne,ne_eq] at hx';simp [Tryz.f72,hv.len,hi',he,hx,hx',hw],EP (p:=(fun x:Bm=>x.nm == s)) hi hI hx⟩) (fun b hI=>by
    exact ⟨_,_,by simp [Tryz.f72,hv.len] <;> exact ⟨rfl,rfl⟩,by simp,.inl ⟨rfl,EO (p:=(fun x:Bm=>x.nm == s)) fun j hj=>hI j hj hj⟩⟩) () (fun j _ h0=>by omega)
 simp [Tryz.f72] at hlp
 rcases hq with ⟨hq,hs⟩ | ⟨i,hq,hs⟩ <;> cases hq <;> simp [AN,Tryz.f72,hlp,hs,ixI]
theorem c72 {l:List Bm} {v:AV} (s:Bytes) (hv:SlR DR 2 l v) (hl:l.length<1048577) (h:AE):AK MX (AH MX) 72 [v,.str s] h=some (.ret (.int .i64 (ixI (l.findIdx? (fun x:Bm=>x.nm == s)))),h):=
 Ae U8 X4 (by simp [hv.AD,AV.AD]) rfl (t72 l v s hv hl []) h
theorem t269 (l:List Bytes) (v:AV) (s:Bytes) (hv:SlR CI 1 l v) (hl:l.length<1048577) (h:AE):AN MX 269 [v,.str s] h=some (.ret (.int .i64 (ixI (l.findIdx? (fun x:Bytes=>x == s)))),h):=by
 obtain ⟨e,st,hlp,hq⟩:=AR (M:=MX) (fid:=269) (N:=19) (C:=AH MX) (c:=AP Tryz.f269 0) (n:=l.length) (fun i (_:Unit)=>([(0,v),(1,.str s),(7,.int .i64 l.length),(8,.int .i64 i)],h)) (fun i _=>∀ j (hj:j<l.length),j<i→(fun x:Bytes=>x == s) l[j]=false)
  (fun r=>(r=(.ext 0,([(0,v),(1,.str s),(7,.int .i64 l.length),(8,.int .i64 l.length),(9,.bool false)],h))∧l.findIdx? (fun x:Bytes=>x == s)=none)∨(∃ i:Nat,r=(.ret,([(4,.int .i64 i)],h))∧l.findIdx? (fun x:Bytes=>x == s)=some i)) (fun i b hi hI=>by
    obtain ⟨e,he,hR⟩:=hv.ix hi
    have hi':=Aa hi
    have hw:=AZ hi hl
    cases hR
    cases hx:(l[i] == s) with
    | true=>exact .inr ⟨_,_,by simp only [beq_iff_eq] at hx;simp [Tryz.f269,hv.len,hi',he,hx] <;> exact ⟨rfl,rfl⟩,by simp,.inr ⟨i,rfl,EN (p:=(fun x:Bytes=>x == s)) hi hI hx⟩⟩
    | false=>
     have hx':(s == l[i])=false:=by simp only [beq_eq_false_iff_ne,ne_eq] at hx ⊢;exact fun e=>hx e.symm
     exact .inl ⟨(),by simp [Tryz.f269,hv.len,hi',he,hx',hw],EP (p:=(fun x:Bytes=>x == s)) hi hI hx⟩) (fun b hI=>by
    exact ⟨_,_,by simp [Tryz.f269,hv.len] <;> exact ⟨rfl,rfl⟩,by simp,.inl ⟨rfl,EO (p:=(fun x:Bytes=>x == s)) fun j hj=>hI j hj hj⟩⟩) () (fun j _ h0=>by omega)
 simp [Tryz.f269] at hlp
 rcases hq with ⟨hq,hs⟩ | ⟨i,hq,hs⟩ <;> cases hq <;> simp [AN,Tryz.f269,hlp,hs,ixI,hv.len]
theorem c269 {l:List Bytes} {v:AV} (s:Bytes) (hv:SlR CI 1 l v) (hl:l.length<1048577) (h:AE):AK MX (AH MX) 269 [v,.str s] h=some (.ret (.int .i64 (ixI (l.findIdx? (fun x:Bytes=>x == s)))),h):=
 Ae TP WD (by simp [hv.AD,AV.AD]) rfl (t269 l v s hv hl []) h
theorem O8 (o:Option Nat):decide (0≤ixI o)=o.isSome:=by
 cases o with
 | none=>rfl
 | some i=>simp [ixI]
theorem c260 {l:List Bytes} {v:AV} (s:Bytes) (hv:SlR CI 1 l v) (hl:l.length<1048577) (h:AE):AK MX (AH MX) 260 [v,.str s] h=some (.ret (.bool (l.findIdx? (fun x:Bytes=>x == s)).isSome),h):=
 Ae TJ V9 (by simp [hv.AD,AV.AD]) rfl (hr:=[]) (by simp [AN,Tryz.f260,c269 s hv hl,O8]) h
def Cd:Bytes:=[66,105,116]
def Bn:Bytes:=[66,111,111,108]
def DF (t:TyV):Bool:=decide (t.k=1)&&(t.nm == Cd)
theorem c66 {t:TyV} {xs:List AV} (hx:AU t xs) (h:AE):AK MX (AH MX) 66 [.agg xs] h=some (.ret (.bool (DF t)),h):=by
 have hn:([AV.agg xs]:List AV).all AV.AD=true:=by simp [AV.AD,hx.AG]
 obtain ⟨pv,rfl,hp⟩:=hx.AY
 by_cases h1:t.k=1
 ·exact Ae Pk SN hn rfl (hr:=[.var false [.int .i64 t.k,.int .i64 t.v,.str t.nm,pv]]) (by simp [AN,Tryz.f66,h1,DF,Cd]) h
 ·have hb:(t.k == 1)=false:=by simp [h1]
  exact Ae Pk SN hn rfl (hr:=[.var false [.int .i64 t.k,.int .i64 t.v,.str t.nm,pv]]) (by simp [AN,Tryz.f66,h1,hb,DF,Cd]) h
mutual
def ER:TyV→Int→Int→Int
 | .mk _ _ _ ps,d,c=>if 40<d∨200<c+1∨200<(ps.length:Int) then 201 else Bo ps (d+1) (c+1)
def Bo:List TyV→Int→Int→Int
 | [],_,c=>c
 | p::r,d,c=>if c≤200 then Bo r d (ER p d c) else c
end
theorem It (t:TyV):∀ d c,0≤c→c≤201→0≤ER t d c∧ER t d c≤201:=by
 induction t using TyV.ind with
 | h k v nm ps ih=>
  intro d c h0 h1
  have key:∀ (l:List TyV),(∀ p∈l,p∈ps)→∀ d c,0≤c→c≤201→0≤Bo l d c∧Bo l d c≤201:=by
   intro l
   induction l with
   | nil=>intro _ d c h0 h1;simp [Bo,h0,h1]
   | cons p r ihr=>
    intro hm d c h0 h1
    simp only [Bo]
    split
    ·obtain ⟨a,b⟩:=ih p (hm p (by simp)) d c h0 h1
     exact ihr (fun q hq=>hm q (by simp [hq])) d _ a b
    ·exact ⟨h0,h1⟩
  simp only [ER]
  split
  ·omega
  ·exact key ps (fun _ h=>h) _ _ (by omega) (by omega)
def A1 (t:TyV):Bool:=decide (ER t 1 0≤200)
theorem c110 (t:TyV):∀ (xs:List AV) (d c:Int),AU t xs→Sm 1048577 t→0≤d→d≤41→0≤c→c≤201→∀ h,AK MX (AH MX) 110 [.agg xs,.int .i64 d,.int .i64 c] h=some (.ret (.int .i64 (ER t d c)),h):=by
 induction t using TyV.ind with
 | h k v nm ps ih=>
  intro xs d c hx hs d0 d1 c0 c1 h
  have hn:([AV.agg xs,.int .i64 d,.int .i64 c]:List AV).all AV.AD=true:=by simp [AV.AD,hx.AG]
  obtain ⟨pv,rfl,hp⟩:=hx.dest
  obtain ⟨s1,s2,s3⟩:=hs.dest
  have wc:wr .i64 (c+1)=c+1:=BD (by omega) (by omega)
  have wd:wr .i64 (d+1)=d+1:=BD (by omega) (by omega)
  refine Ae SW VN hn rfl (hr:=[.var false [.int .i64 k,.int .i64 v,.str nm,pv]]) ?_ h
  by_cases h1:40<d
  ·simp [AN,Tryz.f110,wc,h1,ER]
  ·by_cases h2:200<c+1
   ·simp [AN,Tryz.f110,wc,h1,h2,ER]
   ·by_cases h3:200<(ps.length:Int)
    ·simp [AN,Tryz.f110,wc,h1,h2,h3,hp.len,ER]
    ·obtain ⟨e,st,hlp,hq⟩:=AR (M:=MX) (fid:=110) (N:=43) (C:=AH MX) (c:=AP Tryz.f110 0) (n:=ps.length) (fun i (b:Int)=>([(1,.int .i64 d),(2,.int .i64 b),(3,.hp 0 0),(7,.int .i64 i)],[.var false [.int .i64 k,.int .i64 v,.str nm,pv]]))
      (fun i b=>Bo ps (d+1) (c+1)=Bo (ps.drop i) (d+1) b∧0≤b∧b≤201)
      (fun r=>∃ (i:Nat) (x:AV),r=(.ext 0,([(1,.int .i64 d),(2,.int .i64 (Bo ps (d+1) (c+1))),(3,.hp 0 0),(7,.int .i64 i),(30,x)],[.var false [.int .i64 k,.int .i64 v,.str nm,pv]]))) (fun i b hi hI=>by
        obtain ⟨e,he,hR⟩:=hp.ix hi
        have hi':=Aa hi
        have hw:=AZ hi s2
        obtain ⟨i1,i2,i3⟩:=hI
        have hdr:ps.drop i=ps[i]::ps.drop (i+1):=List.drop_eq_getElem_cons hi
        rw [hdr] at i1
        simp only [Bo] at i1
        have hrec:=ih ps[i] (List.getElem_mem hi) e (d+1) b hR (s3 _ (List.getElem_mem hi)) (by omega) (by omega) i2 i3
        obtain ⟨q,hq,hq'⟩:=hR.AY
        subst hq
        by_cases hb:b≤200
        ·rw [if_pos hb] at i1
         have hrange:=It ps[i] (d+1) b i2 i3
         exact .inl ⟨ER ps[i] (d+1) b,by simp [Tryz.f110,hp.len,hi',he,hb,hw,wd,hrec],i1,hrange⟩
        ·rw [if_neg hb] at i1
         exact .inr ⟨_,_,by simp [Tryz.f110,hp.len,hi',hb] <;> exact ⟨rfl,rfl⟩,by simp,i,_,by rw [i1]⟩) (fun b hI=>by
        obtain ⟨i1,i2,i3⟩:=hI
        rw [List.drop_length] at i1
        simp only [Bo] at i1
        exact ⟨_,_,by simp [Tryz.f110,hp.len] <;> exact ⟨rfl,rfl⟩,by simp,ps.length,_,by rw [i1]⟩) (c+1) ⟨by simp,by omega,by omega⟩
     obtain ⟨i,x,hq⟩:=hq
     cases hq
     simp [Tryz.f110] at hlp
     simp [AN,Tryz.f110,wc,h1,h2,h3,hp.len,hlp,ER]
theorem c156 (t:TyV):∀ (xs:List AV) (d c:Int),AU t xs→Sm 1048577 t→0≤d→d≤41→0≤c→c≤201→∀ h,AK MX (AH MX) 156 [.agg xs,.int .i64 d,.int .i64 c] h=some (.ret (.int .i64 (ER t d c)),h):=by
 induction t using TyV.ind with
 | h k v nm ps ih=>
  intro xs d c hx hs d0 d1 c0 c1 h
  have hn:([AV.agg xs,.int .i64 d,.int .i64 c]:List AV).all AV.AD=true:=by simp [AV.AD,hx.AG]
  obtain ⟨pv,rfl,hp⟩:=hx.dest
  obtain ⟨s1,s2,s3⟩:=hs.dest
  have wc:wr .i64 (c+1)=c+1:=BD (by omega) (by omega)
  have wd:wr .i64 (d+1)=d+1:=BD (by omega) (by omega)
  refine Ae Sk Vd hn rfl (hr:=[.var false [.int .i64 k,.int .i64 v,.str nm,pv]]) ?_ h
  by_cases h1:40<d
  ·simp [AN,Tryz.f156,wc,h1,ER]
  ·by_cases h2:200<c+1
   ·simp [AN,Tryz.f156,wc,h1,h2,ER]
   ·by_cases h3:200<(ps.length:Int)
    ·simp [AN,Tryz.f156,wc,h1,h2,h3,hp.len,ER]
    ·obtain ⟨e,st,hlp,hq⟩:=AR (M:=MX) (fid:=156) (N:=43) (C:=AH MX) (c:=AP Tryz.f156 0) (n:=ps.length) (fun i (b:Int)=>([(1,.int .i64 d),(2,.int .i64 b),(3,.hp 0 0),(7,.int .i64 i)],[.var false [.int .i64 k,.int .i64 v,.str nm,pv]]))
      (fun i b=>Bo ps (d+1) (c+1)=Bo (ps.drop i) (d+1) b∧0≤b∧b≤201)
      (fun r=>∃ (i:Nat) (x:AV),r=(.ext 0,([(1,.int .i64 d),(2,.int .i64 (Bo ps (d+1) (c+1))),(3,.hp 0 0),(7,.int .i64 i),(30,x)],[.var false [.int .i64 k,.int .i64 v,.str nm,pv]]))) (fun i b hi hI=>by
        obtain ⟨e,he,hR⟩:=hp.ix hi
        have hi':=Aa hi
        have hw:=AZ hi s2
        obtain ⟨i1,i2,i3⟩:=hI
        have hdr:ps.drop i=ps[i]::ps.drop (i+1):=List.drop_eq_getElem_cons hi
        rw [hdr] at i1
        simp only [Bo] at i1
        have hrec:=ih ps[i] (List.getElem_mem hi) e (d+1) b hR (s3 _ (List.getElem_mem hi)) (by omega) (by omega) i2 i3
        obtain ⟨q,hq,hq'⟩:=hR.AY
        subst hq
        by_cases hb:b≤200
        ·rw [if_pos hb] at i1
         have hrange:=It ps[i] (d+1) b i2 i3
         exact .inl ⟨ER ps[i] (d+1) b,by simp [Tryz.f156,hp.len,hi',he,hb,hw,wd,hrec],i1,hrange⟩
        ·rw [if_neg hb] at i1
         exact .inr ⟨_,_,by simp [Tryz.f156,hp.len,hi',hb] <;> exact ⟨rfl,rfl⟩,by simp,i,_,by rw [i1]⟩) (fun b hI=>by
        obtain ⟨i1,i2,i3⟩:=hI
        rw [List.drop_length] at i1
        simp only [Bo] at i1
        exact ⟨_,_,by simp [Tryz.f156,hp.len] <;> exact ⟨rfl,rfl⟩,by simp,ps.length,_,by rw [i1]⟩) (c+1) ⟨by simp,by omega,by omega⟩
     obtain ⟨i,x,hq⟩:=hq
     cases hq
     simp [Tryz.f156] at hlp
     simp [AN,Tryz.f156,wc,h1,h2,h3,hp.len,hlp,ER]
theorem c59 {t:TyV} {xs:List AV} (hx:AU t xs) (hs:Sm 1048577 t) (h:AE):AK MX (AH MX) 59 [.agg xs] h=some (.ret (.bool (A1 t)),h):=by
 have hn:([AV.agg xs]:List AV).all AV.AD=true:=by simp [AV.AD,hx.AG]
 have hc:=c110 t xs 1 0 hx hs (by omega) (by omega) (by omega) (by omega)
 obtain ⟨pv,rfl,hp⟩:=hx.AY
 exact Ae U3 Xv hn rfl (hr:=[.var false [.int .i64 t.k,.int .i64 t.v,.str t.nm,pv]]) (by simp [AN,Tryz.f59,hc,A1]) h
theorem c86 {t:TyV} {xs:List AV} (hx:AU t xs) (hs:Sm 1048577 t) (h:AE):AK MX (AH MX) 86 [.agg xs] h=some (.ret (.bool (A1 t)),h):=by
 have hn:([AV.agg xs]:List AV).all AV.AD=true:=by simp [AV.AD,hx.AG]
 have hc:=c156 t xs 1 0 hx hs (by omega) (by omega) (by omega) (by omega)
 obtain ⟨pv,rfl,hp⟩:=hx.AY
 exact Ae VE X9 hn rfl (hr:=[.var false [.int .i64 t.k,.int .i64 t.v,.str t.nm,pv]]) (by simp [AN,Tryz.f86,hc,A1]) h
def DT (l:List AO) (k:Int) (nm:Bytes):Option Nat:=
 if k=1 then (if nm == Cd then some 1 else if nm == Bn then some 0 else (l.findIdx? (fun d=>d.nm == nm)).map (fun i=>(l.getD i default).params.length)) else some 0
mutual
def Ah (l:List AO) (params:List Bytes):TyV→Int
 | .mk k v nm ps=>if ¬ (0≤k∧k≤2) then 15 else if k=0∧params.findIdx? (fun x=>x == nm)=none then 6 else match DT l k nm with
  | none=>6
  | some n=>if ps.length≠n then 10 else if k=2∧¬ (0≤v∧v≤1000000000) then 2 else Bp l params ps
def Bp (l:List AO) (params:List Bytes):List TyV→Int
 | []=>0
 | p::r=>if Ah l params p=0 then Bp l params r else Ah l params p
end
theorem F3 {α:Type} {p:α→Bool} {l:List α} {i:Nat} (h:l.findIdx? p=some i):i<l.length:=by
 rw [List.findIdx?_eq_some_iff_getElem] at h
 exact h.1
theorem c186 {l:List AO} {lv:AV} (hl:SlR Ac 3 l lv) (hll:l.length<1048577) {params:List Bytes} {pr:AV} (hpr:SlR CI 1 params pr) (hpl:params.length<1048577) (hps:∀ d∈l,d.params.length<1048577) (t:TyV):∀ (xs:List AV),AU t xs→Sm 1048577 t→∀ h,AK MX (AH MX) 186 [lv,pr,.agg xs] h=some (.ret (.int .i64 (Ah l params t)),h):=by
 induction t using TyV.ind with
 | h k v nm ps ih=>
  intro xs hx hs h
  have hn:([lv,pr,AV.agg xs]:List AV).all AV.AD=true:=by simp [AV.AD,hx.AG,hl.AD,hpr.AD]
  obtain ⟨pv,rfl,hp⟩:=hx.dest
  obtain ⟨s1,s2,s3⟩:=hs.dest
  refine Ae Sx Vo hn rfl (hr:=[.var false [.int .i64 k,.int .i64 v,.str nm,pv]]) ?_ h
  have hP:=c89 nm hpr hpl
  have hD:=c118 nm hl hll
  -- the parts
  have hlp:Bp l params ps=Bp l params ps:=rfl
  obtain ⟨e,st,hlp,hq⟩:=AR (M:=MX) (fid:=186) (N:=81) (C:=AH MX) (c:=AP Tryz.f186 0) (n:=ps.length) (fun i (_:Unit)=>([(0,lv),(1,pr),(5,.hp 0 0),(9,.int .i64 i)],[.var false [.int .i64 k,.int .i64 v,.str nm,pv]]))
   (fun i _=>Bp l params ps=Bp l params (ps.drop i))
   (fun r=>(r=(.ext 1,([(0,lv),(1,pr),(5,.hp 0 0),(9,.int .i64 ps.length),(67,.bool false)],[.var false [.int .i64 k,.int .i64 v,.str nm,pv]]))∧Bp l params ps=0)∨r=(.ret,([(6,.int .i64 (Bp l params ps))],[.var false [.int .i64 k,.int .i64 v,.str nm,pv]]))) (fun i b hi hI=>by
     obtain ⟨e,he,hR⟩:=hp.ix hi
     have hi':=Aa hi
     have hw:=AZ hi s2
     have hdr:ps.drop i=ps[i]::ps.drop (i+1):=List.drop_eq_getElem_cons hi
     rw [hdr] at hI
     simp only [Bp] at hI
     have hrec:=ih ps[i] (List.getElem_mem hi) e hR (s3 _ (List.getElem_mem hi))
     obtain ⟨q,hq,hq'⟩:=hR.AY
     subst hq
     by_cases h0:Ah l params ps[i]=0
     ·rw [if_pos h0] at hI
      exact .inl ⟨(),by simp [Tryz.f186,hp.len,hi',he,hw,hrec,h0],hI⟩
     ·rw [if_neg h0] at hI
      have hne:(Ah l params ps[i] != 0)=true:=by simp [h0]
      exact .inr ⟨_,_,by simp [Tryz.f186,hp.len,hi',he,hw,hrec,hne] <;> exact ⟨rfl,rfl⟩,by simp,.inr (by rw [hI])⟩) (fun b hI=>by
     rw [List.drop_length] at hI
     exact ⟨_,_,by simp [Tryz.f186,hp.len] <;> exact ⟨rfl,rfl⟩,by simp,.inl ⟨rfl,hI⟩⟩) () (by simp)
  simp [Tryz.f186] at hlp
  -- the tail,for any count
  by_cases hk:0≤k∧k≤2
  ·have tail:∀ n:Nat,(∀ x:Int,x=n→(ps.length≠n→((ps.length:Int) != x)=true)∧(ps.length=n→((ps.length:Int) != x)=false)):=fun n x hx=>by
    subst hx
    constructor
    ·intro h;simp;omega
    ·intro h;simp;omega
   have fin:∀ (n:Nat),DT l k nm=some n→(k=0→params.findIdx? (fun x=>x == nm)≠none)→Ah l params (.mk k v nm ps)=(if ps.length≠n then 10 else if k=2∧¬ (0≤v∧v≤1000000000) then 2 else Bp l params ps):=fun n hc h0=>by
    simp only [Ah,hc]
    rw [if_neg (fun h=>h hk),if_neg (fun h=>h0 h.1 h.2)]
   have kk:k=0∨k=1∨k=2:=by omega
   rcases kk with rfl | rfl | rfl
   ·-- a variable
    cases hm:params.findIdx? (fun x=>x == nm) with
    | none=>simp [AN,Tryz.f186,hP,hm,Ah]
    | some j=>
     rw [fin 0 rfl (by simp [hm])]
     by_cases hL:ps.length=0
     ·have:=(tail 0 0 rfl).2 hL
      rcases hq with ⟨hq,ha⟩ | hq <;> cases hq <;> simp [AN,Tryz.f186,hP,hm,hp.len,this,hL,hlp] <;> try exact ha.symm
     ·have:=(tail 0 0 rfl).1 hL
      simp [AN,Tryz.f186,hP,hm,hp.len,this,hL]
   ·by_cases hb:nm=Cd
    ·rw [fin 1 (by simp [DT,hb]) (by simp)]
     have hb1:(nm == [66,105,116])=true:=by simp [hb,Cd]
     by_cases hL:ps.length=1
     ·have:=(tail 1 1 rfl).2 hL
      rcases hq with ⟨hq,ha⟩ | hq <;> cases hq <;> simp [AN,Tryz.f186,hD,hp.len,this,hL,hlp,hb1] <;> try exact ha.symm
     ·have:=(tail 1 1 rfl).1 hL
      simp [AN,Tryz.f186,hD,hp.len,this,hL,hb1]
    ·have hb1:(nm == [66,105,116])=false:=by simpa [Cd] using hb
     by_cases hb2:nm=Bn
     ·rw [fin 0 (by simp [DT,hb2,Bn,Cd]) (by simp)]
      have hb3:(nm == [66,111,111,108])=true:=by simp [hb2,Bn]
      by_cases hL:ps.length=0
      ·have:=(tail 0 0 rfl).2 hL
       rcases hq with ⟨hq,ha⟩ | hq <;> cases hq <;> simp [AN,Tryz.f186,hD,hp.len,this,hL,hlp,hb1,hb3] <;> try exact ha.symm
      ·have:=(tail 0 0 rfl).1 hL
       simp [AN,Tryz.f186,hD,hp.len,this,hL,hb1,hb3]
     ·have hb3:(nm == [66,111,111,108])=false:=by simpa [Bn] using hb2
      cases hf:l.findIdx? (fun d=>d.nm == nm) with
      | none=>
       have:Ah l params (.mk 1 v nm ps)=6:=by
        have hc:DT l 1 nm=none:=by simp [DT,hb,hb2,hf]
        simp [Ah,hc]
       rw [this]
       simp [AN,Tryz.f186,hD,hf,ixI,hb1,hb3]
      | some i=>
       have hi:=F3 hf
       obtain ⟨e,he,hR⟩:=hl.ix hi
       obtain ⟨pp,cc,rfl,hpp,hcc⟩:=hR.dest
       rw [fin l[i].params.length (by simp [DT,hb,hb2,hf,hi]) (by simp)]
       by_cases hL:ps.length=l[i].params.length
       ·have:=(tail _ (l[i].params.length:Int) rfl).2 hL
        rcases hq with ⟨hq,ha⟩ | hq <;> cases hq <;> simp [AN,Tryz.f186,hD,hf,ixI,hp.len,this,hlp,hb1,hb3,he,hpp.len,hL] <;> try exact ha.symm
       ·have:=(tail _ (l[i].params.length:Int) rfl).1 hL
        simp [AN,Tryz.f186,hD,hf,ixI,hp.len,this,hL,hb1,hb3,he,hpp.len]
   ·rw [fin 0 rfl (by simp)]
    by_cases hL:ps.length=0
    ·have:=(tail 0 0 rfl).2 hL
     by_cases hv:0≤v∧v≤1000000000
     ·rcases hq with ⟨hq,ha⟩ | hq <;> cases hq <;> simp [AN,Tryz.f186,hp.len,this,hL,hlp,hv] <;> try exact ha.symm
     ·simp [AN,Tryz.f186,hp.len,this,hL,hv]
    ·have:=(tail 0 0 rfl).1 hL
     simp [AN,Tryz.f186,hp.len,this,hL]
  ·simp [AN,Tryz.f186,hk,Ah]
theorem Al {h:AE} {i:Nat} {b:Blk} (hb:h[i]? = some b) (l:AE):(h++l)[i]? = some b:=by
 rw [List.getElem?_append_left (List.getElem?_eq_some_iff.1 hb).1];exact hb
theorem Ce (h:AE) (x:Blk):(h++[x])[h.length]? = some x:=by simp
theorem _root_.Go.Am.SlR.slice {α:Type} {R:α→List AV→Prop} {sz:Nat} {l:List α} {v:AV} (hv:SlR R sz l v) {i:Nat} (hi:i≤l.length):∃ w,slA sz v none (some (.int .i64 i)) none=some w∧SlR R sz (l.take i) w:=by
 rcases hv with ⟨rfl,rfl⟩ | ⟨ex,es,rfl,hl,hr⟩
 ·have:i=0:=by simpa using hi
  subst this
  exact ⟨.AI,rfl,.inl ⟨by simp,rfl⟩⟩
 ·have h0:(0:Int)≤i∧(i:Int)≤es.length:=by omega
  have h1:FA (i:Int) es.length=some i:=by simp [FA,h0]
  have h2:FA 0 i=some 0:=by simp [FA]
  refine ⟨.sl sz (ex&&Nat.beq i es.length) (es.take i),by simp [slA,Ca,Go.Am.intOf,h1,h2,A2,I2],.inr ⟨_,_,rfl,by simp [hl],fun j a e h3 h4 => ?_⟩⟩
  rw [List.getElem?_take] at h3 h4
  split at h3
  ·rename_i hj
   rw [if_pos hj] at h4
   exact hr j a e h3 h4
  ·cases h3
def BZ (l:List AO) (params:List Bytes) (t:TyV):Int:=if A1 t then Ah l params t else 8
theorem c153 {l:List AO} {lv:AV} (hl:SlR Ac 3 l lv) (hll:l.length<1048577) {params:List Bytes} {pr:AV} (hpr:SlR CI 1 params pr) (hpl:params.length<1048577) (hps:∀ d∈l,d.params.length<1048577) {t:TyV} {xs:List AV} (hx:AU t xs) (hs:Sm 1048577 t) (h:AE) :
  AK MX (AH MX) 153 [lv,pr,.agg xs] h=some (.ret (.int .i64 (BZ l params t)),h):=by
 have hn:([lv,pr,AV.agg xs]:List AV).all AV.AD=true:=by simp [AV.AD,hx.AG,hl.AD,hpr.AD]
 have h1:=c59 hx hs
 have h2:=c186 hl hll hpr hpl hps t xs hx hs
 obtain ⟨pv,rfl,hp⟩:=hx.AY
 cases hb:A1 t with
 | true=>exact Ae NT Pw hn rfl (hr:=[.var false [.int .i64 t.k,.int .i64 t.v,.str t.nm,pv]]) (by simp [AN,Tryz.f153,h1,h2,hb,BZ]) h
 | false=>exact Ae NT Pw hn rfl (hr:=[.var false [.int .i64 t.k,.int .i64 t.v,.str t.nm,pv]]) (by simp [AN,Tryz.f153,h1,hb,BZ]) h
def GY (d:AO) (s:Bytes):Bool:=(d.cons.findIdx? (fun c=>c.nm == s)).isSome
def HC (l:List AO) (s:Bytes):Bool:=(l.findIdx? (fun d=>GY d s)).isSome
theorem c212 {l:List AO} {lv:AV} (s:Bytes) (hl:SlR Ac 3 l lv) (hll:l.length<1048577) (hcs:∀ d∈l,d.cons.length<1048577) (h:AE):AK MX (AH MX) 212 [lv,.str s] h=some (.ret (.bool (HC l s)),h):=by
 refine Ae S3 Vu (by simp [hl.AD,AV.AD]) rfl (hr:=[]) ?_ h
 obtain ⟨e,st,hlp,hq⟩:=AR (M:=MX) (fid:=212) (N:=34) (C:=AH MX) (c:=AP Tryz.f212 0) (n:=l.length) (fun i (_:Unit)=>([(0,lv),(1,.str s),(5,.int .i64 i)],[])) (fun i _=>∀ j (hj:j<l.length),j<i→(fun d=>GY d s) l[j]=false)
  (fun r=>(r=(.ext 0,([(0,lv),(1,.str s),(5,.int .i64 l.length),(10,.bool false)],[]))∧HC l s=false)∨(r=(.ret,([(4,.bool true)],[]))∧HC l s=true)) (fun i b hi hI=>by
    obtain ⟨e,he,hR⟩:=hl.ix hi
    have hi':=Aa hi
    have hw:=AZ hi hll
    obtain ⟨pv,cv,rfl,hp,hc⟩:=hR.dest
    have hcl:=hcs _ (List.getElem_mem hi)
    obtain ⟨e2,st2,hlp2,hq2⟩:=AR (M:=MX) (fid:=212) (N:=34) (C:=AH MX) (c:=AP Tryz.f212 1) (n:=l[i].cons.length) (fun k (_:Unit)=>([(0,lv),(1,.str s),(5,.int .i64 i),(6,.int .i64 k)],[])) (fun k _=>∀ j (hj:j<l[i].cons.length),j<k→(fun c:Bm=>c.nm == s) l[i].cons[j]=false)
     (fun r=>(r=(.ext 2,([(0,lv),(1,.str s),(5,.int .i64 i),(6,.int .i64 l[i].cons.length),(20,.bool false)],[]))∧GY l[i] s=false)∨(r=(.ret,([(4,.bool true)],[]))∧GY l[i] s=true)) (fun k b hk hK=>by
       obtain ⟨e',he',hR'⟩:=hc.ix hk
       have hk':=Aa hk
       have hwk:=AZ hk hcl
       obtain ⟨fv,rfl,hf⟩:=hR'.dest
       cases hx:(l[i].cons[k].nm == s) with
       | true=>exact .inr ⟨_,_,by simp only [beq_iff_eq] at hx;simp [Tryz.f212,hc.len,hk',hi',he,he',hx] <;> first | exact ⟨rfl,rfl⟩ | rfl,by simp,.inr ⟨rfl,by simp only [GY];rw [EN (p:=fun c:Bm=>c.nm == s) hk hK hx];rfl⟩⟩
       | false=>exact .inl ⟨(),by have hx':=hx;simp only [beq_eq_false_iff_ne,ne_eq] at hx';simp [Tryz.f212,hc.len,hk',hi',he,he',hx,hx',hwk],EP (p:=fun c:Bm=>c.nm == s) hk hK hx⟩) (fun b hK=>by
       exact ⟨_,_,by simp [Tryz.f212,hc.len,hi',he] <;> first | exact ⟨rfl,rfl⟩ | rfl,by simp,.inl ⟨rfl,by simp only [GY];rw [EO (p:=fun c:Bm=>c.nm == s) fun j hj=>hK j hj hj];rfl⟩⟩) () (fun j _ h0=>by omega)
    simp [Tryz.f212] at hlp2
    rcases hq2 with ⟨hq2,hs2⟩ | ⟨hq2,hs2⟩ <;> cases hq2
    ·exact .inl ⟨(),by simp [Tryz.f212,hl.len,hi',hlp2,hw],EP (p:=fun d=>GY d s) hi hI hs2⟩
    ·exact .inr ⟨_,_,by simp [Tryz.f212,hl.len,hi',hlp2] <;> first | exact ⟨rfl,rfl⟩ | rfl,by simp,.inr ⟨rfl,by simp only [HC];rw [EN (p:=fun d=>GY d s) hi hI hs2];rfl⟩⟩) (fun b hI=>by
    exact ⟨_,_,by simp [Tryz.f212,hl.len] <;> first | exact ⟨rfl,rfl⟩ | rfl,by simp,.inl ⟨rfl,by simp only [HC];rw [EO (p:=fun d=>GY d s) fun j hj=>hI j hj hj];rfl⟩⟩) () (fun j _ h0=>by omega)
 simp [Tryz.f212] at hlp
 rcases hq with ⟨hq,hs⟩ | ⟨hq,hs⟩ <;> cases hq <;> simp [AN,Tryz.f212,hlp,hs]
def EH (l:List AO) (params:List Bytes):List CO→List CO→Int
 | _,[]=>0
 | prev,f::r=>if A6 f.nm=false then 4 else if (prev.findIdx? (fun g=>g.nm == f.nm)).isSome then 5 else if BZ l params f.ty=0 then EH l params (prev++[f]) r else BZ l params f.ty
def Cf (l:List AO) (params:List Bytes) (fs:List CO):Int:=if 8<fs.length then 8 else EH l params [] fs
theorem SmC.fld {b:Nat} {c:Bm} (h:SmC b c):c.fields.length<b:=h.2.1
theorem c213 {l:List AO} {lv:AV} (hl:SlR Ac 3 l lv) (hsl:SmL 1048577 l) {d:AO} {dx:List AV} (hd:Ac d dx) (hsd:SmD 1048577 d) {c:Bm} {cx:List AV} (hc:DR c cx) (hsc:SmC 1048577 c) (h:AE) :
  AK MX (AH MX) 213 [.agg dx,.agg cx,lv] h=some (.ret (.int .i64 (Cf l d.params c.fields)),h):=by
 obtain ⟨pv,cv,rfl,hp,hcv⟩:=hd.dest
 obtain ⟨fv,rfl,hf⟩:=hc.dest
 have hn:([AV.agg [.str d.nm,pv,cv],AV.agg [.str c.nm,fv],lv]:List AV).all AV.AD=true:=by simp [AV.AD,AG,hl.AD,hp.AD,hcv.AD,hf.AD]
 obtain ⟨hr,hc'⟩:∃ hr,AN MX 213 [.agg [.str d.nm,pv,cv],.agg [.str c.nm,fv],lv] []=some (.ret (.int .i64 (Cf l d.params c.fields)),hr):=by
  by_cases h8:8<c.fields.length
  ·have h8':(8<(c.fields.length:Int)):=by omega
   exact ⟨_,by simp [AN,Tryz.f213,hf.len,h8',Cf,h8] <;> rfl⟩
  ·have h8':¬ (8<(c.fields.length:Int)):=by omega
   have hfl:c.fields.length<1048577:=by omega
   obtain ⟨e,st,hlp,hq⟩:=AR (M:=MX) (fid:=213) (N:=54) (C:=AH MX) (c:=AP Tryz.f213 0) (n:=c.fields.length) (fun i (b:AE)=>([(2,lv),(3,.hp 0 0),(4,.hp 1 0),(7,.int .i64 i)],Blk.var false [AV.str d.nm,pv,cv]::Blk.var false [AV.str c.nm,fv]::b))
    (fun i b=>EH l d.params [] c.fields=EH l d.params (c.fields.take i) (c.fields.drop i))
    (fun r=>∃ b:AE,(r=(.ext 0,([(2,lv),(3,.hp 0 0),(4,.hp 1 0),(7,.int .i64 c.fields.length),(19,.bool false)],b))∧EH l d.params [] c.fields=0)∨r=(.ret,([(6,.int .i64 (EH l d.params [] c.fields))],b))) (fun i b hi hI=>by
      have i2:=hI
      obtain ⟨e,he,hR⟩:=hf.ix hi
      have hi':=Aa hi
      have hw:=AZ hi hfl
      have hmem:=List.getElem_mem hi
      obtain ⟨hnm,hsm⟩:=hsc.2.2 _ hmem
      obtain ⟨tx,hex,ht⟩:=hR
      subst hex
      have h153:=c153 hl hsl.1 hp hsd.2.1 (fun d hd=>(hsl.2 d hd).2.1) ht hsm
      have hN:=Te c.fields[i].nm hnm
      obtain ⟨qv,rfl,hqv⟩:=ht.AY
      have hdr:c.fields.drop i=c.fields[i]::c.fields.drop (i+1):=List.drop_eq_getElem_cons hi
      have htk:c.fields.take i++[c.fields[i]]=c.fields.take (i+1):=by simp
      rw [hdr] at i2
      simp only [EH] at i2
      rw [htk] at i2
      -- the block of the field
      cases hN0:A6 c.fields[i].nm with
      | false=>
       rw [hN0] at i2
       exact .inr ⟨_,_,by simp [Tryz.f213,hf.len,hi',he,hN,hN0] <;> first | exact ⟨rfl,rfl⟩ | rfl,by simp,_,.inr (by rw [i2];rfl)⟩
      | true=>
       rw [hN0] at i2
       obtain ⟨e2,st2,hlp2,hq2⟩:=AR (M:=MX) (fid:=213) (N:=54) (C:=AH MX) (c:=AP Tryz.f213 1) (n:=i) (fun k (_:Unit)=>([(2,lv),(3,.hp 0 0),(4,.hp 1 0),(7,.int .i64 i),(8,.hp (b.length+1+1) 0),(9,.int .i64 k)],(Blk.var false [AV.str d.nm,pv,cv]::Blk.var false [AV.str c.nm,fv]::(b++[Blk.var false [AV.str c.fields[i].nm,AV.int IntKind.i64 c.fields[i].ty.k,AV.int IntKind.i64 c.fields[i].ty.v,AV.str c.fields[i].ty.nm,qv]]:AE))))
        (fun k _=>∀ j (hj:j<(c.fields.take i).length),j<k→(fun g:CO=>g.nm == c.fields[i].nm) (c.fields.take i)[j]=false)
        (fun r=>(r=(.ext 2,([(2,lv),(3,.hp 0 0),(4,.hp 1 0),(7,.int .i64 i),(8,.hp (b.length+1+1) 0),(9,.int .i64 i),(33,.bool false)],(Blk.var false [AV.str d.nm,pv,cv]::Blk.var false [AV.str c.nm,fv]::(b++[Blk.var false [AV.str c.fields[i].nm,AV.int IntKind.i64 c.fields[i].ty.k,AV.int IntKind.i64 c.fields[i].ty.v,AV.str c.fields[i].ty.nm,qv]]:AE))))∧((c.fields.take i).findIdx? (fun g=>g.nm == c.fields[i].nm)).isSome=false)∨(r=(.ret,([(6,.int .i64 5)],(Blk.var false [AV.str d.nm,pv,cv]::Blk.var false [AV.str c.nm,fv]::(b++[Blk.var false [AV.str c.fields[i].nm,AV.int IntKind.i64 c.fields[i].ty.k,AV.int IntKind.i64 c.fields[i].ty.v,AV.str c.fields[i].ty.nm,qv]]:AE))))∧((c.fields.take i).findIdx? (fun g=>g.nm == c.fields[i].nm)).isSome=true)) (fun k u hk hK=>by
          have hkl:k<c.fields.length:=by omega
          have hkt:k<(c.fields.take i).length:=by simp;omega
          have hke:(c.fields.take i)[k]=c.fields[k]:=by simp
          obtain ⟨e',he',hR'⟩:=hf.ix hkl
          have hk':=Aa hk
          have hwk:=AZ hk (by omega)
          obtain ⟨qv',rfl,hqv'⟩:=hR'.dest
          cases hx:(c.fields[k].nm == c.fields[i].nm) with
          | true=>exact .inr ⟨_,_,by simp [Tryz.f213,hk',he',hx] <;> first | exact ⟨rfl,rfl⟩ | rfl,by simp,.inr ⟨rfl,by rw [EN (p:=fun g:CO=>g.nm == c.fields[i].nm) hkt hK (by rw [hke];exact hx)];rfl⟩⟩
          | false=>exact .inl ⟨(),by simp [Tryz.f213,hk',he',hx,hwk],EP (p:=fun g:CO=>g.nm == c.fields[i].nm) hkt hK (by rw [hke];exact hx)⟩) (fun u hK=>by
          exact ⟨_,_,by simp [Tryz.f213] <;> first | exact ⟨rfl,rfl⟩ | rfl,by simp,.inl ⟨rfl,by rw [EO (p:=fun g:CO=>g.nm == c.fields[i].nm) fun j hj=>hK j hj (by simp at hj;omega)];rfl⟩⟩) () (fun j _ h0=>by omega)
       simp [Tryz.f213] at hlp2
       rcases hq2 with ⟨hq2,hs2⟩ | ⟨hq2,hs2⟩ <;> cases hq2
       ·rw [hs2] at i2
        by_cases h0:BZ l d.params c.fields[i].ty=0
        ·rw [if_pos h0] at i2
         exact .inl ⟨_,by simp [Tryz.f213,hf.len,hi',he,hN,hN0,hlp2,h153,h0,hw,ht.AG,AG,AV.AD,hl.AD,hp.AD,hqv.AD] <;> rfl,by simpa using i2⟩
        ·rw [if_neg h0] at i2
         have hne:(BZ l d.params c.fields[i].ty != 0)=true:=by simp [h0]
         exact .inr ⟨_,_,by simp [Tryz.f213,hf.len,hi',he,hN,hN0,hlp2,h153,hne,AG,AV.AD,hl.AD,hp.AD,hqv.AD] <;> first | exact ⟨rfl,rfl⟩ | rfl,by simp,_,.inr (by rw [i2];rfl)⟩
       ·rw [hs2] at i2
        exact .inr ⟨_,_,by simp [Tryz.f213,hf.len,hi',he,hN,hN0,hlp2] <;> first | exact ⟨rfl,rfl⟩ | rfl,by simp,_,.inr (by rw [i2];rfl)⟩) (fun b hI=>by
      have i2:=hI
      rw [List.drop_length] at i2
      exact ⟨_,_,by simp [Tryz.f213,hf.len] <;> first | exact ⟨rfl,rfl⟩ | rfl,by simp,_,.inl ⟨rfl,i2⟩⟩) ([]:AE) (by simp)
   simp [Tryz.f213] at hlp
   obtain ⟨b,hq⟩:=hq
   rcases hq with ⟨hq,hs⟩ | hq <;> cases hq
   ·exact ⟨_,by simp [AN,Tryz.f213,hf.len,h8',hlp,Cf,h8,hs] <;> rfl⟩
   ·exact ⟨_,by simp [AN,Tryz.f213,hf.len,h8',hlp,Cf,h8] <;> rfl⟩
 exact Ae S4 Vv hn rfl hc' h
def Bz:Bytes:=[70,97,108,115,101]
def DG:Bytes:=[84,114,117,101]
def De:Bytes:=[73,110,116,101,103,101,114]
def Cg:List Bytes→List Bytes→Int
 | _,[]=>0
 | prev,p::r=>if A6 p=false then 4 else if (prev.findIdx? (fun x=>x == p)).isSome then 5 else Cg (prev++[p]) r
def EZ (l:List AO) (params:List Bytes):List Bm→List Bm→Int
 | _,[]=>0
 | prev,c::r=>if A6 c.nm=false then 4 else if HC l c.nm then 5 else if (prev.findIdx? (fun g=>g.nm == c.nm)).isSome then 5 else if c.nm == Bz then 5 else if c.nm == DG then 5 else
  if Cf l params c.fields=0 then EZ l params (prev++[c]) r else Cf l params c.fields
def BL (d:AO) (l:List AO):Int:=
 if A6 d.nm=false then 4 else if (l.findIdx? (fun x=>x.nm == d.nm)).isSome then 5 else if d.nm == Cd then 5 else if d.nm == Bn then 5 else if d.nm == De then 5 else
 if 4<d.params.length then 8 else if 16<d.cons.length then 8 else if d.cons.length=0 then 10 else
 if Cg [] d.params=0 then EZ l d.params [] d.cons else Cg [] d.params
theorem RD (c:List Bm) (s:Bytes):HC [⟨[],[],c⟩] s=(c.findIdx? (fun g=>g.nm == s)).isSome:=by
 simp only [HC,GY,List.findIdx?_cons]
 cases (c.findIdx? (fun g=>g.nm == s)).isSome <;> simp
theorem c185 {l:List AO} {lv:AV} (hl:SlR Ac 3 l lv) (hsl:SmL 1048577 l) {d:AO} {dx:List AV} (hd:Ac d dx) (hsd:SmD 1048577 d) (h:AE) :
  AK MX (AH MX) 185 [.agg dx,lv] h=some (.ret (.int .i64 (BL d l)),h):=by
 have h213:=fun {c:Bm} {cx:List AV} (hc:DR c cx) (hsc:SmC 1048577 c)=>c213 hl hsl hd hsd hc hsc
 obtain ⟨s1,s2,s3,s4,s5⟩:=hsd
 have hN:=Te d.nm s1
 have hD:=c118 d.nm hl hsl.1
 obtain ⟨pv,cv,rfl,hp,hcv⟩:=hd.dest
 have hn:([AV.agg [.str d.nm,pv,cv],lv]:List AV).all AV.AD=true:=by simp [AV.AD,AG,hl.AD,hp.AD,hcv.AD]
 obtain ⟨hr,hc'⟩:∃ hr,AN MX 185 [.agg [.str d.nm,pv,cv],lv] []=some (.ret (.int .i64 (BL d l)),hr):=by
  unfold BL
  cases hN0:A6 d.nm with
  | false=>exact ⟨_,by simp [AN,Tryz.f185,hN,hN0] <;> rfl⟩
  | true=>
  cases hD0:l.findIdx? (fun x=>x.nm == d.nm) with
  | some j=>
   exact ⟨_,by simp [AN,Tryz.f185,hN,hN0,hD,hD0,ixI] <;> rfl⟩
  | none=>
  cases hb1:(d.nm == Cd) with
  | true=>
   have hb1':(d.nm == [66,105,116])=true:=hb1
   exact ⟨_,by simp [AN,Tryz.f185,hN,hN0,hD,hD0,ixI,hb1'] <;> rfl⟩
  | false=>
  have hb1':(d.nm == [66,105,116])=false:=hb1
  cases hb2:(d.nm == Bn) with
  | true=>
   have hb2':(d.nm == [66,111,111,108])=true:=hb2
   exact ⟨_,by simp [AN,Tryz.f185,hN,hN0,hD,hD0,ixI,hb1',hb2'] <;> rfl⟩
  | false=>
  have hb2':(d.nm == [66,111,111,108])=false:=hb2
  cases hb3:(d.nm == De) with
  | true=>
   have hb3':(d.nm == [73,110,116,101,103,101,114])=true:=hb3
   exact ⟨_,by simp [AN,Tryz.f185,hN,hN0,hD,hD0,ixI,hb1',hb2',hb3'] <;> rfl⟩
  | false=>
  have hb3':(d.nm == [73,110,116,101,103,101,114])=false:=hb3
  by_cases h4:4<d.params.length
  ·have h4':(4<(d.params.length:Int)):=by omega
   exact ⟨_,by simp [AN,Tryz.f185,hN,hN0,hD,hD0,ixI,hb1',hb2',hb3',hp.len,h4',h4] <;> rfl⟩
  ·have h4':¬ (4<(d.params.length:Int)):=by omega
   by_cases h16:16<d.cons.length
   ·have h16':(16<(d.cons.length:Int)):=by omega
    exact ⟨_,by simp [AN,Tryz.f185,hN,hN0,hD,hD0,ixI,hb1',hb2',hb3',hp.len,hcv.len,h4',h4,h16',h16] <;> rfl⟩
   ·have h16':¬ (16<(d.cons.length:Int)):=by omega
    by_cases h0:d.cons.length=0
    ·exact ⟨_,by simp [AN,Tryz.f185,hN,hN0,hD,hD0,ixI,hb1',hb2',hb3',hp.len,hcv.len,h4',h4,h16',h16,h0] <;> rfl⟩
    ·have h0':((d.cons.length:Int) == 0)=false:=by rw [beq_eq_false_iff_ne];omega
     -- the parameters
     obtain ⟨e,st,hlp,hq⟩:=AR (M:=MX) (fid:=185) (N:=119) (C:=AH MX) (c:=AP Tryz.f185 0) (n:=d.params.length) (fun i (_:Unit)=>([(1,lv),(2,.hp 0 0),(5,.int .i64 i)],[Blk.var false [AV.str d.nm,pv,cv]]))
      (fun i _=>Cg [] d.params=Cg (d.params.take i) (d.params.drop i))
      (fun r=>(r=(.ext 0,([(1,lv),(2,.hp 0 0),(5,.int .i64 d.params.length),(51,.bool false)],[Blk.var false [AV.str d.nm,pv,cv]]))∧Cg [] d.params=0)∨(r=(.ret,([(4,.int .i64 (Cg [] d.params))],[Blk.var false [AV.str d.nm,pv,cv]]))∧Cg [] d.params≠0)) (fun i b hi hI=>by
        obtain ⟨e,he,hR⟩:=hp.ix hi
        have hi':=Aa hi
        have hw:=AZ hi s2
        cases hR
        have hNp:=Te d.params[i] (s3 _ (List.getElem_mem hi))
        obtain ⟨w,hw1,hw2⟩:=hp.slice (Nat.le_of_lt hi)
        have hH:=c89 d.params[i] hw2 (by simp;omega)
        have hdr:d.params.drop i=d.params[i]::d.params.drop (i+1):=List.drop_eq_getElem_cons hi
        have htk:d.params.take i++[d.params[i]]=d.params.take (i+1):=by simp
        rw [hdr] at hI
        simp only [Cg] at hI
        rw [htk] at hI
        cases hNp0:A6 d.params[i] with
        | false=>
         rw [hNp0] at hI
         exact .inr ⟨_,_,by simp [Tryz.f185,hp.len,hi',he,hNp,hNp0] <;> first | exact ⟨rfl,rfl⟩ | rfl,by simp,.inr ⟨by rw [hI];rfl,by rw [hI];simp⟩⟩
        | true=>
         rw [hNp0] at hI
         cases hH0:((d.params.take i).findIdx? (fun x=>x == d.params[i])).isSome with
         | true=>
          rw [hH0] at hI
          simp only [hH0] at hH
          exact .inr ⟨_,_,by simp [Tryz.f185,hp.len,hi',he,hNp,hNp0,hw1,hw2.AD,hH,hH0,AV.AD] <;> first | exact ⟨rfl,rfl⟩ | rfl,by simp,.inr ⟨by rw [hI];rfl,by rw [hI];simp⟩⟩
         | false=>
          rw [hH0] at hI
          simp only [hH0] at hH
          exact .inl ⟨(),by simp [Tryz.f185,hp.len,hi',he,hNp,hNp0,hw1,hw2.AD,hH,hH0,AV.AD,hw],by simpa using hI⟩) (fun b hI=>by
        rw [List.drop_length] at hI
        exact ⟨_,_,by simp [Tryz.f185,hp.len] <;> first | exact ⟨rfl,rfl⟩ | rfl,by simp,.inl ⟨rfl,hI⟩⟩) () (by simp)
     simp [Tryz.f185] at hlp
     rcases hq with ⟨hq,hP⟩ | ⟨hq,hP⟩ <;> cases hq
     ·-- the constructors
      obtain ⟨e2,st2,hlp2,hq2⟩:=AR (M:=MX) (fid:=185) (N:=119) (C:=AH MX) (c:=AP Tryz.f185 1) (n:=d.cons.length) (fun i (b:AE)=>([(1,lv),(2,.hp 0 0),(6,.int .i64 i)],Blk.var false [AV.str d.nm,pv,cv]::b))
       (fun i _=>EZ l d.params [] d.cons=EZ l d.params (d.cons.take i) (d.cons.drop i))
       (fun r=>∃ b:AE,(r=(.ext 2,([(1,lv),(2,.hp 0 0),(6,.int .i64 d.cons.length),(75,.bool false)],b))∧EZ l d.params [] d.cons=0)∨(r=(.ret,([(4,.int .i64 (EZ l d.params [] d.cons))],b)))) (fun i b hi hI=>by
         obtain ⟨e,he,hR⟩:=hcv.ix hi
         have hi':=Aa hi
         have hw:=AZ hi s4
         have hmem:=List.getElem_mem hi
         have hsc:=s5 _ hmem
         have hNc:=Te d.cons[i].nm hsc.1
         have h212:=c212 d.cons[i].nm hl hsl.1 (fun d hd=>(hsl.2 d hd).2.2.2.1)
         obtain ⟨w,hw1,hw2⟩:=hcv.slice (Nat.le_of_lt hi)
         have hone:SlR Ac 3 [⟨[],[],d.cons.take i⟩] (.sl 3 true [[.str [],.AI,w]]):=.inr ⟨true,_,rfl,rfl,fun j a e h1 h2=>by
          cases j with
          | zero=>
           simp only [List.getElem?_cons_zero,Option.some.injEq] at h1 h2
           subst h1;subst h2
           exact ⟨.AI,w,rfl,.inl ⟨rfl,rfl⟩,hw2⟩
          | succ j=>simp at h1⟩
         have h212b:=c212 d.cons[i].nm hone (by simp) (fun d' hd'=>by simp at hd';subst hd';simp;omega)
         rw [RD] at h212b
         have hdr:d.cons.drop i=d.cons[i]::d.cons.drop (i+1):=List.drop_eq_getElem_cons hi
         have htk:d.cons.take i++[d.cons[i]]=d.cons.take (i+1):=by simp
         have h3:=h213 hR hsc
         obtain ⟨fv,rfl,hf⟩:=hR.dest
         rw [hdr] at hI
         simp only [EZ] at hI
         rw [htk] at hI
         cases hNc0:A6 d.cons[i].nm with
         | false=>
          rw [hNc0] at hI
          exact .inr ⟨_,_,by simp [Tryz.f185,hcv.len,hi',he,hNc,hNc0] <;> first | exact ⟨rfl,rfl⟩ | rfl,by simp,_,.inr (by rw [hI];rfl)⟩
         | true=>
         rw [hNc0] at hI
         cases hc1:HC l d.cons[i].nm with
         | true=>
          rw [hc1] at hI
          exact .inr ⟨_,_,by simp [Tryz.f185,hcv.len,hi',he,hNc,hNc0,h212,hc1,hl.AD,AV.AD] <;> first | exact ⟨rfl,rfl⟩ | rfl,by simp,_,.inr (by rw [hI];rfl)⟩
         | false=>
         rw [hc1] at hI
         cases hc2:((d.cons.take i).findIdx? (fun g=>g.nm == d.cons[i].nm)).isSome with
         | true=>
          rw [hc2] at hI
          simp only [hc2] at h212b
          exact .inr ⟨_,_,by simp [Tryz.f185,hcv.len,hi',he,hNc,hNc0,h212,hc1,hw1,bsA,Ak,List.replicate,AG,AV.AD,hw2.AD,hw2.cells,h212b,hc2,hl.AD] <;> first | exact ⟨rfl,rfl⟩ | rfl,by simp,_,.inr (by rw [hI];rfl)⟩
         | false=>
         rw [hc2] at hI
         simp only [hc2] at h212b
         cases hc3:(d.cons[i].nm == Bz) with
         | true=>
          rw [hc3] at hI
          have hc3':(d.cons[i].nm == [70,97,108,115,101])=true:=hc3
          exact .inr ⟨_,_,by simp [Tryz.f185,hcv.len,hi',he,hNc,hNc0,h212,hc1,hw1,bsA,Ak,List.replicate,AG,AV.AD,hw2.AD,hw2.cells,h212b,hc2,hl.AD,hc3'] <;> first | exact ⟨rfl,rfl⟩ | rfl,by simp,_,.inr (by rw [hI];rfl)⟩
         | false=>
         rw [hc3] at hI
         have hc3':(d.cons[i].nm == [70,97,108,115,101])=false:=hc3
         cases hc4:(d.cons[i].nm == DG) with
         | true=>
          rw [hc4] at hI
          have hc4':(d.cons[i].nm == [84,114,117,101])=true:=hc4
          exact .inr ⟨_,_,by simp [Tryz.f185,hcv.len,hi',he,hNc,hNc0,h212,hc1,hw1,bsA,Ak,List.replicate,AG,AV.AD,hw2.AD,hw2.cells,h212b,hc2,hl.AD,hc3',hc4'] <;> first | exact ⟨rfl,rfl⟩ | rfl,by simp,_,.inr (by rw [hI];rfl)⟩
         | false=>
         rw [hc4] at hI
         have hc4':(d.cons[i].nm == [84,114,117,101])=false:=hc4
         by_cases hz:Cf l d.params d.cons[i].fields=0
         ·rw [if_pos hz] at hI
          exact .inl ⟨_,by simp [Tryz.f185,hcv.len,hi',he,hNc,hNc0,h212,hc1,hw1,bsA,Ak,List.replicate,AG,AV.AD,hw2.AD,hw2.cells,h212b,hc2,hl.AD,hp.AD,hcv.AD,hf.AD,hc3',hc4',h3,hz,hw] <;> rfl,by simpa using hI⟩
         ·rw [if_neg hz] at hI
          have hne:(Cf l d.params d.cons[i].fields != 0)=true:=by simp [hz]
          exact .inr ⟨_,_,by simp [Tryz.f185,hcv.len,hi',he,hNc,hNc0,h212,hc1,hw1,bsA,Ak,List.replicate,AG,AV.AD,hw2.AD,hw2.cells,h212b,hc2,hl.AD,hp.AD,hcv.AD,hf.AD,hc3',hc4',h3,hne] <;> first | exact ⟨rfl,rfl⟩ | rfl,by simp,_,.inr (by rw [hI];rfl)⟩) (fun b hI=>by
         rw [List.drop_length] at hI
         exact ⟨_,_,by simp [Tryz.f185,hcv.len] <;> first | exact ⟨rfl,rfl⟩ | rfl,by simp,_,.inl ⟨rfl,hI⟩⟩) ([]:AE) (by simp)
      simp [Tryz.f185] at hlp2
      obtain ⟨b,hq2⟩:=hq2
      rcases hq2 with ⟨hq2,hC⟩ | hq2 <;> cases hq2
      ·exact ⟨_,by simp [AN,Tryz.f185,hN,hN0,hD,hD0,ixI,hb1',hb2',hb3',hp.len,hcv.len,h4',h4,h16',h16,h0,h0',hlp,hP,hlp2,hC] <;> rfl⟩
      ·exact ⟨_,by simp [AN,Tryz.f185,hN,hN0,hD,hD0,ixI,hb1',hb2',hb3',hp.len,hcv.len,h4',h4,h16',h16,h0,h0',hlp,hP,hlp2] <;> rfl⟩
     ·exact ⟨_,by simp [AN,Tryz.f185,hN,hN0,hD,hD0,ixI,hb1',hb2',hb3',hp.len,hcv.len,h4',h4,h16',h16,h0,h0',hlp,hP] <;> rfl⟩
 exact Ae Sw Vn hn rfl hc' h
def E5:List AO→List AO→Int×Int
 | _,[]=>(0,0)
 | prev,d::r=>if BL d prev=0 then E5 (prev++[d]) r else (prev.length,BL d prev)
def Au (l:List AO):Int×Int:=if 20<l.length then (0,8) else E5 [] l
theorem c152 {l:List AO} {lv:AV} (hl:SlR Ac 3 l lv) (hsl:SmL 1048577 l) (h:AE) :
  AK MX (AH MX) 152 [lv] h=some (.ret (.tup [.int .i64 (Au l).1,.int .i64 (Au l).2]),h):=by
 refine Ae Si Vb (by simp [hl.AD]) rfl (hr:=[]) ?_ h
 unfold Au
 by_cases h20:20<l.length
 ·have h20':(20<(l.length:Int)):=by omega
  simp [AN,Tryz.f152,hl.len,h20,h20']
 ·have h20':¬ (20<(l.length:Int)):=by omega
  obtain ⟨e,st,hlp,hq⟩:=AR (M:=MX) (fid:=152) (N:=27) (C:=AH MX) (c:=AP Tryz.f152 0) (n:=l.length) (fun i (_:Unit)=>([(0,lv),(4,.int .i64 i)],[]))
   (fun i _=>E5 [] l=E5 (l.take i) (l.drop i))
   (fun r=>(r=(.ext 0,([(0,lv),(4,.int .i64 l.length),(12,.bool false)],[]))∧E5 [] l=(0,0))∨(r=(.ret,([(2,.int .i64 (E5 [] l).1),(3,.int .i64 (E5 [] l).2)],[])))) (fun i b hi hI=>by
     obtain ⟨e,he,hR⟩:=hl.ix hi
     have hi':=Aa hi
     have hw:=AZ hi hsl.1
     have hmem:=List.getElem_mem hi
     obtain ⟨w,hw1,hw2⟩:=hl.slice (Nat.le_of_lt hi)
     have h185:=c185 hw2 ⟨by simp;omega,fun d hd=>hsl.2 d (List.mem_of_mem_take hd)⟩ hR (hsl.2 _ hmem)
     have hdr:l.drop i=l[i]::l.drop (i+1):=List.drop_eq_getElem_cons hi
     have htk:l.take i++[l[i]]=l.take (i+1):=by simp
     have htl:(l.take i).length=i:=by simp;omega
     obtain ⟨pv,cv,rfl,hp,hc⟩:=hR.dest
     rw [hdr] at hI
     simp only [E5] at hI
     rw [htk,htl] at hI
     by_cases h0:BL l[i] (l.take i)=0
     ·rw [if_pos h0] at hI
      exact .inl ⟨(),by simp [Tryz.f152,hl.len,hi',he,hw1,h185,h0,hw,AG,AV.AD,hw2.AD,hp.AD,hc.AD],hI⟩
     ·rw [if_neg h0] at hI
      have hne:(BL l[i] (l.take i) != 0)=true:=by simp [h0]
      exact .inr ⟨_,_,by simp [Tryz.f152,hl.len,hi',he,hw1,h185,hne,AG,AV.AD,hw2.AD,hp.AD,hc.AD] <;> first | exact ⟨rfl,rfl⟩ | rfl,by simp,.inr (by rw [hI])⟩) (fun b hI=>by
     rw [List.drop_length] at hI
     exact ⟨_,_,by simp [Tryz.f152,hl.len] <;> first | exact ⟨rfl,rfl⟩ | rfl,by simp,.inl ⟨rfl,hI⟩⟩) () (by simp)
  simp [Tryz.f152] at hlp
  rcases hq with ⟨hq,hs⟩ | hq <;> cases hq
  ·simp [AN,Tryz.f152,hl.len,h20,h20',hlp,hs]
  ·simp [AN,Tryz.f152,hl.len,h20,h20',hlp]
theorem c84 {l:List AO} {lv:AV} (hl:SlR Ac 3 l lv) (hsl:SmL 1048577 l) (h:AE) :
  AK MX (AH MX) 84 [lv] h=some (.ret (.int .i64 (Au l).2),h):=
 Ae VC X7 (by simp [hl.AD]) rfl (hr:=[]) (by simp [AN,Tryz.f84,c152 hl hsl]) h
end Go.Proofs.Am12
namespace Go.Proofs.Am12
open Go Go.Am
attribute [local simp] Dq B8 EL Dr CS Ds Dt Ee BT BP Bb Ap Fy Ez D9 Gn D1 A4 El EA Gp Gq xUn Ej D2 E0 BF C7 BG D3 BH D4 Cb CV Bx BE EB EK
 ev evs C3 C4 OR.ofV OR.DQ OR.ofC E6 Tm.get Tm.init Tm.only A2 A7 CF finish B6 Cm Gm Db D0 unA CA Bg CB Bh Cp Cq Cr Bi Cs Ct Bj Cu Cv Bk CC AP CJ Bf Cn Co B9 Ef Eg Eh Du Dv FM Fa Fb FN stA A3 DE B7 EX C8 Ek GH CD DA CG E1 GI
set_option maxHeartbeats 1000000
theorem Kr {α:Type} {R:α→List AV→Prop} {sz byt:Nat} {l:List α} {v:AV} (hv:SlR R sz l v) (h0:0<sz) (hb:byt≤1024) (hl:l.length<1048577) (h:AE) :
  ∃ es:List (List AV),es.length=l.length∧(∀ (i:Nat) a e,l[i]? = some a→es[i]? = some e→R a e)∧((l=[]∧apA sz byt (.sl sz true []) v h=some (.sl sz true [],h))∨(l≠[]∧apA sz byt (.sl sz true []) v h=some (.hs h.length es.length sz 0 es.length false,h++[.arr sz false es]))):=by
 obtain ⟨es,h1,h2,h3,h4⟩:=hv.rd h
 refine ⟨es,h3,h4,?_⟩
 have hn:∀ b,v≠.str b:=fun b e=>by subst e;rcases hv with ⟨_,e⟩ | ⟨_,_,e,_⟩ <;> cases e
 have hap:apA sz byt (.sl sz true []) v h=apX sz byt (.sl sz true []) es 0 h:=by
  unfold apA
  rcases hv with ⟨_,rfl⟩ | ⟨_,_,rfl,_⟩ <;> simp only [h1,h2,FQ] <;> rfl
 rw [hap]
 have e1:CE sz (.sl sz true [])=true:=by simp [CE,BO]
 have hbb:(0+es.length) * byt≤17592186044416:=Nat.le_trans (Nat.mul_le_mul (show 0+es.length≤1048577 by omega) hb) (by decide)
 cases l with
 | nil=>
  have:es=[]:=List.eq_nil_of_length_eq_zero h3
  subst this
  exact .inl ⟨rfl,by simp [apX,e1,h0,Fg]⟩
 | cons x r=>
  refine .inr ⟨by simp,?_⟩
  have hne:es≠[]:=fun e=>by rw [e] at h3;simp at h3
  obtain ⟨y,ys,rfl⟩:∃ y ys,es=y::ys:=by cases es with | nil=>exact absurd rfl hne | cons y ys=>exact ⟨y,ys,rfl⟩
  simp only [List.length_cons,Nat.zero_add] at hbb h3 hl
  simp [apX,e1,h0,hbb,show ys.length≤17592186044415 by omega,Av]
theorem Ib (a:Bytes) (e:List AV) (h:CI a e):AG e=true:=by cases h;rfl
theorem c80 {l:List Bytes} {v:AV} (hv:SlR CI 1 l v) (hl:l.length<1048577):∃ w,SlR CI 1 l w∧∀ h,AK MX (AH MX) 80 [v] h=some (.ret w,h):=by
 obtain ⟨es,h1,h2,h3⟩:=Kr (byt:=16) hv (by decide) (by decide) hl []
 rcases h3 with ⟨hn,h3⟩ | ⟨hn,h3⟩
 ·exact ⟨.sl 1 true [],.inr ⟨true,[],rfl,by simp [hn],fun i a e h _=>by simp [hn] at h⟩,fun h=>Ae Pm SP (by simp [hv.AD]) rfl (hr:=[]) (by simp [AN,Tryz.f80,bsA,Ak,h3]) h⟩
 ·have hs:=BR h1 h2 Ib
  have hne:es≠[]:=fun e=>by rw [e] at h1;exact hn (List.eq_nil_of_length_eq_zero h1.symm)
  have hacc:Af 1 ([]:AE).length [.arr 1 false es] (.hs 0 es.length 1 0 es.length false) es:=.inr ⟨0,hne,by simp,rfl⟩
  exact ⟨.sl 1 false es,Af.rep h1 h2 _,fun h=>Hy Pm SP (by simp [hv.AD]) rfl (hacc.snap (n:=9999999) hs hne) rfl (hr:=[.arr 1 false es]) (by simp [AN,Tryz.f80,bsA,Ak,h3]) h⟩
theorem c142 (t:TyV):∀ (xs:List AV),AU t xs→Sm 1048577 t→∃ ys,AU t ys∧∀ h,AK MX (AH MX) 142 [.agg xs] h=some (.ret (.agg ys),h):=by
 induction t using TyV.ind with
 | h k v nm ps ih=>
  intro xs hx hs
  have hn:([AV.agg xs]:List AV).all AV.AD=true:=by simp [AV.AD,hx.AG]
  obtain ⟨pv,rfl,hp⟩:=hx.dest
  obtain ⟨s1,s2,s3⟩:=hs.dest
  have hb:=Qv
  simp [BK,Be,Tryz.f142] at hb
  obtain ⟨e,st,hlp,hq⟩:=AR (M:=MX) (fid:=142) (N:=26) (C:=AH MX) (c:=AP Tryz.f142 0) (n:=ps.length)
   (fun i (b:AV×AE×List (List AV))=>([(1,.hp 0 0),(2,.hp 1 0),(3,.hp 2 0),(4,.int .i64 i)],Blk.var false [AV.int .i64 k,AV.int .i64 v,AV.str nm,pv]::Blk.var false [AV.int .i64 0,AV.int .i64 0,AV.str [],AV.AI]::Blk.var false [AV.int .i64 k,AV.int .i64 v,AV.str nm,b.1]::b.2.1))
   (fun i b=>Af 4 3 b.2.1 b.1 b.2.2∧b.2.2.length=(ps.take i).length∧∀ (j:Nat) t e,(ps.take i)[j]? = some t→b.2.2[j]? = some e→AU t e)
   (fun r=>∃ b:AV×AE×List (List AV),r=(.ext 0,([(1,.hp 0 0),(2,.hp 1 0),(3,.hp 2 0),(4,.int .i64 ps.length),(11,.bool false)],Blk.var false [AV.int .i64 k,AV.int .i64 v,AV.str nm,pv]::Blk.var false [AV.int .i64 0,AV.int .i64 0,AV.str [],AV.AI]::Blk.var false [AV.int .i64 k,AV.int .i64 v,AV.str nm,b.1]::b.2.1)) ∧
     Af 4 3 b.2.1 b.1 b.2.2∧b.2.2.length=ps.length∧∀ (j:Nat) t e,ps[j]? = some t→b.2.2[j]? = some e→AU t e) (fun i b hi hI=>by
     obtain ⟨a,rest,es⟩:=b
     obtain ⟨i1,i2,i3⟩:=hI
     simp only at i1 i2 i3
     obtain ⟨e,he,hR⟩:=hp.ix hi
     have hi':=Aa hi
     have hw:=AZ hi s2
     obtain ⟨ys,hys,hcall⟩:=ih ps[i] (List.getElem_mem hi) e hR (s3 _ (List.getElem_mem hi))
     have htk:ps.take i++[ps[i]]=ps.take (i+1):=by simp
     obtain ⟨j1,j2⟩:=EY i2 i3 hys
     rw [htk] at j1 j2
     have hlen:es.length<16777215:=by rw [i2];simp;omega
     obtain ⟨a',rest',hap,hacc⟩:=Af.push (byt:=56) (P:=[Blk.var false [AV.int .i64 k,AV.int .i64 v,AV.str nm,pv],Blk.var false [AV.int .i64 0,AV.int .i64 0,AV.str [],AV.AI],Blk.var false [AV.int .i64 k,AV.int .i64 v,AV.str nm,a]]) ys true i1 (by decide) (by decide) hlen
     simp only [List.cons_append,List.nil_append] at hap
     have hyn:=hys.AG
     have hyl:=hys.len
     obtain ⟨qv,rfl,hqv⟩:=hR.AY
     exact .inl ⟨(a',rest',es++[ys]),by simp [Tryz.f142,hp.len,hi',he,hcall,bsA,Ak,List.replicate,hyl,hyn,hap,hacc.cells,hw,hb,AG,AV.AD,hqv.AD],hacc,j1,j2⟩) (fun b hI=>by
     obtain ⟨a,rest,es⟩:=b
     obtain ⟨i1,i2,i3⟩:=hI
     rw [List.take_length] at i2 i3
     exact ⟨_,_,by simp [Tryz.f142,hp.len] <;> first | exact ⟨rfl,rfl⟩ | rfl,by simp,(a,rest,es),rfl,i1,i2,i3⟩) (.AI,[],[]) ⟨.nil _ _ _,by simp,fun j t e h=>by simp at h⟩
  obtain ⟨⟨a,rest,es⟩,hq,i1,i2,i3⟩:=hq
  cases hq
  simp [Tryz.f142] at hlp
  have hrun:AN MX 142 [.agg [.int .i64 k,.int .i64 v,.str nm,pv]] []=some (.ret (.agg [.int .i64 k,.int .i64 v,.str nm,a]),[Blk.var false [AV.int .i64 k,AV.int .i64 v,AV.str nm,pv],Blk.var false [AV.int .i64 k,AV.int .i64 v,AV.str nm,a],Blk.var false [AV.int .i64 k,AV.int .i64 v,AV.str nm,a]]++rest):=by
   simp [AN,Tryz.f142,hlp,Cm]
  have hsn:=BR i2 i3 (fun a e h=>h.AG)
  obtain ⟨v',rest',hsa,hv'⟩:=Af.Kh (P:=[Blk.var false [AV.int .i64 k,AV.int .i64 v,AV.str nm,pv],Blk.var false [AV.int .i64 k,AV.int .i64 v,AV.str nm,a],Blk.var false [AV.int .i64 k,AV.int .i64 v,AV.str nm,a]]) i1 hsn
  have hrep:SlR AU 4 ps v':=by
   rcases hv' with ⟨h1,rfl⟩ | rfl
   ·exact .inl ⟨List.eq_nil_of_length_eq_zero (by rw [← i2,h1];rfl),rfl⟩
   ·exact Af.rep i2 i3 false
  refine ⟨_,AU.intro hrep,fun h => ?_⟩
  cases hna:a.AD with
  | true=>
   have:a=v':=by
    have h1:=i1.AD
    rw [hna] at h1
    have h2:es=[]:=by cases es with | nil=>rfl | cons=>cases h1
    rcases i1 with ⟨_,h3⟩ | ⟨_,h3,_⟩
    ·rcases hv' with ⟨_,h4⟩ | h4
     ·rw [h4];exact h3
     ·have:=hsa 0;simp only at h3;subst h3;cases this;rfl
    ·exact absurd h2 h3
   subst this
   exact Ae NP Pr hn (by simp [AV.AD,AG,hna]) hrun h
  | false=>
   exact Hy NP Pr hn (by simp [AV.AD,AG,hna]) ((BC.agg (by simp [AG,AV.AD,hna]) (.cons (.flat rfl _) (.cons (.flat rfl _) (.cons (.flat rfl _) (.cons hsa (.nil _)))))).at (by decide)) (by simp [AV.AD,AG,hrep.AD]) hrun h
theorem QG {f:FuncId} {args:List AV} {v v':AV} {hr hr':AE} {K:Nat} (hm:MX.mode f = { fresh:=true }) (he:MX.eff f=none) (ha:args.all AV.AD=true) (hs:BC K v hr v' hr') (hk:K≤CX) (hv':v'.AD=true) (heq:v.AD=true→v=v') (hc:AN MX f args []=some (.ret v,hr)) (h:AE) :
  AK MX (AH MX) f args h=some (.ret v',h):=by
 cases hv:v.AD with
 | true=>have:=heq hv;subst this;exact Ae hm he ha hv hc h
 | false=>exact Hy hm he ha hv (hs.at hk) hv' hc h
theorem JN {α:Type} {R:α→List AV→Prop} {l:List α} {sz:Nat} {P rest:AE} {a:AV} {es:List (List AV)} (hR:∀ a e,R a e→AG e=true) (h:Af sz P.length rest a es) (hl:es.length=l.length) (hr:∀ (i:Nat) a e,l[i]? = some a→es[i]? = some e→R a e) :
  ∃ v' rest',BC 1 a (P++rest) v' (P++rest')∧SlR R sz l v'∧(a.AD=true→a=v'):=by
 have hn:=BR hl hr hR
 by_cases h0:es=[]
 ·rcases h with ⟨_,rfl⟩ | ⟨_,h1,_⟩
  ·exact ⟨.AI,rest,fun n=>rfl,.inl ⟨List.eq_nil_of_length_eq_zero (by rw [← hl,h0];rfl),rfl⟩,fun _=>rfl⟩
  ·exact absurd h0 h1
 ·refine ⟨_,_,fun n=>h.snap hn h0,Af.rep hl hr false,fun hna => ?_⟩
  rw [h.AD] at hna
  cases es with
  | nil=>exact absurd rfl h0
  | cons=>cases hna
theorem Ea (a:CO) (e:List AV) (h:BS a e):AG e=true:=by
 obtain ⟨pv,rfl,hp⟩:=h.dest
 simp [AG,AV.AD,hp.AD]
theorem Fv (a:Bm) (e:List AV) (h:DR a e):AG e=true:=by
 obtain ⟨pv,rfl,hp⟩:=h.dest
 simp [AG,AV.AD,hp.AD]
theorem Cj {α:Type} {l:List α} {i:Nat} (hi:i<l.length):l.take i++[l[i]]=l.take (i+1):=by simp
theorem c81 {l:List CO} {v:AV} (hv:SlR BS 5 l v) (hl:l.length<1048577) (hs:∀ f∈l,Sm 1048577 f.ty):∃ w,SlR BS 5 l w∧∀ h,AK MX (AH MX) 81 [v] h=some (.ret w,h):=by
 have hb:=TX
 simp [BK,Be,Tryz.f81] at hb
 obtain ⟨e,st,hlp,hq⟩:=AR (M:=MX) (fid:=81) (N:=27) (C:=AH MX) (c:=AP Tryz.f81 0) (n:=l.length)
  (fun i (b:AV×AE×List (List AV))=>([(0,v),(3,b.1),(4,.int .i64 i)],b.2.1))
  (fun i b=>Af 5 0 b.2.1 b.1 b.2.2∧b.2.2.length=(l.take i).length∧∀ (j:Nat) t e,(l.take i)[j]? = some t→b.2.2[j]? = some e→BS t e)
  (fun r=>∃ b:AV×AE×List (List AV),r=(.ext 0,([(0,v),(3,b.1),(4,.int .i64 l.length),(8,.bool false)],b.2.1)) ∧
    Af 5 0 b.2.1 b.1 b.2.2∧b.2.2.length=l.length∧∀ (j:Nat) t e,l[j]? = some t→b.2.2[j]? = some e→BS t e) (fun i b hi hI=>by
    obtain ⟨a,rest,es⟩:=b
    obtain ⟨i1,i2,i3⟩:=hI
    simp only at i1 i2 i3
    obtain ⟨e,he,hR⟩:=hv.ix hi
    have hi':=Aa hi
    have hw:=AZ hi hl
    obtain ⟨tx,rfl,ht⟩:=hR
    obtain ⟨ys,hys,hcall⟩:=c142 l[i].ty tx ht (hs _ (List.getElem_mem hi))
    have hyf:BS l[i] (.str l[i].nm::ys):=⟨ys,rfl,hys⟩
    obtain ⟨j1,j2⟩:=EY i2 i3 hyf
    rw [Cj hi] at j1 j2
    have hlen:es.length<16777215:=by rw [i2];simp;omega
    obtain ⟨a',rest',hap,hacc⟩:=Af.push (byt:=72) (P:=[]) (.str l[i].nm::ys) true i1 (by decide) (by decide) hlen
    simp only [List.nil_append] at hap
    obtain ⟨q,rfl,hq⟩:=hys.AY
    obtain ⟨q',rfl,hq'⟩:=ht.AY
    exact .inl ⟨(a',rest',es++[.str l[i].nm::[.int .i64 l[i].ty.k,.int .i64 l[i].ty.v,.str l[i].ty.nm,q]]),by simp [Tryz.f81,hv.len,hi',he,hcall,bsA,Ak,List.replicate,hap,hw,hb,AG,AV.AD,hq.AD,hq'.AD],hacc,j1,j2⟩) (fun b hI=>by
    obtain ⟨a,rest,es⟩:=b
    obtain ⟨i1,i2,i3⟩:=hI
    rw [List.take_length] at i2 i3
    exact ⟨_,_,by simp [Tryz.f81,hv.len] <;> first | exact ⟨rfl,rfl⟩ | rfl,by simp,(a,rest,es),rfl,i1,i2,i3⟩) (.AI,[],[]) ⟨.nil _ _ _,by simp,fun j t e h=>by simp at h⟩
 obtain ⟨⟨a,rest,es⟩,hq,i1,i2,i3⟩:=hq
 cases hq
 simp [Tryz.f81] at hlp
 obtain ⟨v',rest',hsn,hrep,heq⟩:=JN (P:=[]) Ea i1 i2 i3
 exact ⟨v',hrep,fun h=>QG VB X6 (by simp [hv.AD]) hsn (by decide) hrep.AD heq (by simp [AN,Tryz.f81,hlp]) h⟩
theorem Me {sz byt:Nat} {rest:AE} {a:AV} {es xs:List (List AV)} {x:AV} (h:Af sz 0 rest a es) (hx:Az rest x=some xs) (hs:CE sz x=true) (hnx:∀ b,x≠.str b) (hxs:xs≠[]) (h0:0<sz) (hb:byt≤1024) (hn:es.length+xs.length<16777216) :
  ∃ a' rest',apA sz byt a x rest=some (a',rest')∧Af sz 0 rest' a' (es++xs)∧∀ (id:Nat) (b:Blk),rest[id]? = some b→(∀ lk es,b≠Blk.arr sz lk es)→rest'[id]? = some b:=by
 have hbb:(es.length+xs.length) * byt≤17592186044416:=Nat.le_trans (Nat.mul_le_mul (Nat.le_of_lt hn) hb) (by decide)
 have hap:∀ n,FQ a=some n→apA sz byt a x rest=apX sz byt a xs n rest:=fun n hl=>by
  unfold apA
  cases x with
  | str b=>exact absurd rfl (hnx b)
  | _=>first | simp only [hs,hx,hl] | (simp only [Az] at hx;cases hx)
 obtain ⟨y,ys,rfl⟩:∃ y ys,xs=y::ys:=by cases xs with | nil=>exact absurd rfl hxs | cons y ys=>exact ⟨y,ys,rfl⟩
 rcases h with ⟨rfl,rfl⟩ | ⟨j,hne,rfl,h2⟩
 ·refine ⟨.hs rest.length (ys.length+1) sz 0 (ys.length+1) false,rest++[.arr sz false (y::ys)],?_,.inr ⟨rest.length,by simp,by simp,by simp⟩,fun id b hid _=>Al hid _⟩
  rw [hap 0 rfl]
  have e1:CE sz AV.AI=true:=rfl
  have h2:=hbb
  simp only [List.length_nil,Nat.zero_add,List.length_cons] at h2 hn
  simp [apX,e1,h0,h2,show ys.length≤17592186044415 by omega,Av]
 ·have hj:=(List.getElem?_eq_some_iff.1 h2).1
  simp only [Nat.zero_add] at hap ⊢
  refine ⟨.hs j (es.length+(ys.length+1)) sz 0 (es.length+(ys.length+1)) false,rest.set j (.arr sz false (es++y::ys)),?_,.inr ⟨j,by simp,by simp,by simp [hj]⟩,fun id b hid hbn => ?_⟩
  ·rw [hap es.length rfl]
   have e1:CE sz (.hs j es.length sz 0 es.length false)=true:=by simp [CE,BO]
   simp only [List.length_cons] at hbb hn
   simp [apX,e1,h0,hbb,show es.length+(ys.length+1)≤17592186044416 by omega,h2]
  ·by_cases hij:j=id
   ·subst hij;rw [h2] at hid;simp only [Option.some.injEq] at hid;exact absurd hid.symm (hbn _ _)
   ·rw [List.getElem?_set_ne hij];exact hid
def IU (sz:Nat) (H:AE) (a:AV) (es:List (List AV)):Prop:=(es=[]∧a=.AI)∨∃ id lk,es≠[]∧a=.hs id es.length sz 0 es.length false∧H[id]? = some (.arr sz lk es)
def Bv (H H':AE):Prop:=∀ (id:Nat) sz lk (es:List (List AV)),H[id]? = some (.arr sz lk es)→es.all AG=true→∃ lk',H'[id]? = some (.arr sz lk' es)
def FO (H H':AE):Prop:=∀ (id:Nat) sz lk (es:List (List AV)),H[id]? = some (.arr sz lk es)→∃ lk' es',H'[id]? = some (.arr sz lk' es')∧es'.length=es.length
theorem FO.refl (H:AE):FO H H:=fun _ _ lk es h=>⟨lk,es,h,rfl⟩
theorem FO.trans {A B C:AE} (h:FO A B) (k:FO B C):FO A C:=fun id sz lk es hh=>by
 obtain ⟨lk',es',h1,h2⟩:=h id sz lk es hh
 obtain ⟨lk2,es2,h3,h4⟩:=k id sz lk' es' h1
 exact ⟨lk2,es2,h3,by rw [h4,h2]⟩
theorem Bv.refl (H:AE):Bv H H:=fun _ _ lk _ h _=>⟨lk,h⟩
theorem Bv.trans {A B C:AE} (h:Bv A B) (k:Bv B C):Bv A C:=fun id sz lk es hh hn=>by
 obtain ⟨lk',h1⟩:=h id sz lk es hh hn
 exact k id sz lk' es h1 hn
theorem IU.keeps {sz:Nat} {H H':AE} {a:AV} {es:List (List AV)} (h:IU sz H a es) (hn:es.all AG=true) (k:Bv H H'):IU sz H' a es:=by
 rcases h with h | ⟨id,lk,h0,h1,h2⟩
 ·exact .inl h
 ·obtain ⟨lk',h3⟩:=k id sz lk es h2 hn
  exact .inr ⟨id,lk',h0,h1,h3⟩
theorem IU.snap {α:Type} {R:α→List AV→Prop} {l:List α} {sz:Nat} {H:AE} {a:AV} {es:List (List AV)} (hR:∀ a e,R a e→AG e=true) (h:IU sz H a es) (hl:es.length=l.length) (hr:∀ (i:Nat) a e,l[i]? = some a→es[i]? = some e→R a e) :
  ∃ v' H',BC 1 a H v' H'∧SlR R sz l v'∧Bv H H'∧FO H H':=by
 have hn:=BR hl hr hR
 rcases h with ⟨h0,rfl⟩ | ⟨id,lk,h0,rfl,h2⟩
 ·exact ⟨.AI,H,fun n=>rfl,.inl ⟨List.eq_nil_of_length_eq_zero (by rw [← hl,h0];rfl),rfl⟩,Bv.refl H,FO.refl H⟩
 ·refine ⟨.sl sz false es,H.set id (.arr sz true es),fun n => ?_,Af.rep hl hr false,fun id' sz' lk' es' h3 h4 => ?_,fun id' sz' lk' es' h3 => ?_⟩
  ·have hb:(Nat.beq es.length es.length&&Nat.beq sz sz&&Nat.ble (0+es.length) es.length&&es.all AG)=true:=by simp [A7,hn]
   simp only [Am.snap,h2,hb]
   simp
  ·by_cases hij:id=id'
   ·subst hij
    rw [h2] at h3
    simp only [Option.some.injEq,Blk.arr.injEq] at h3
    obtain ⟨rfl,_,rfl⟩:=h3
    exact ⟨true,List.getElem?_set_self (List.getElem?_eq_some_iff.1 h2).1⟩
   ·exact ⟨lk',by rw [List.getElem?_set_ne hij];exact h3⟩
  ·by_cases hij:id=id'
   ·subst hij
    rw [h2] at h3
    simp only [Option.some.injEq,Blk.arr.injEq] at h3
    obtain ⟨rfl,_,rfl⟩:=h3
    exact ⟨true,es,List.getElem?_set_self (List.getElem?_eq_some_iff.1 h2).1,rfl⟩
   ·exact ⟨lk',es',by rw [List.getElem?_set_ne hij];exact h3,rfl⟩
def Eu (H:AE) (d:AO) (e:List AV):Prop:=∃ pw ca ces,e=[.str d.nm,pw,ca]∧SlR CI 1 d.params pw∧IU 2 H ca ces∧ces.length=d.cons.length∧∀ (j:Nat) t e,d.cons[j]? = some t→ces[j]? = some e→DR t e
theorem Eu.keeps {H H':AE} {d:AO} {e:List AV} (h:Eu H d e) (k:Bv H H'):Eu H' d e:=by
 obtain ⟨pw,ca,ces,h1,h2,h3,h4,h5⟩:=h
 exact ⟨pw,ca,ces,h1,h2,h3.keeps (BR h4 h5 Fv) k,h4,h5⟩
theorem Eu.snap {H:AE} {d:AO} {e:List AV} (h:Eu H d e):∃ e' H',A9 4 e H e' H'∧Ac d e'∧Bv H H'∧FO H H':=by
 obtain ⟨pw,ca,ces,rfl,h2,h3,h4,h5⟩:=h
 obtain ⟨v',H',s1,s2,s3,s4⟩:=h3.snap Fv h4 h5
 have hpw:pw.flat=true:=by rcases h2 with ⟨_,rfl⟩ | ⟨_,_,rfl,_⟩ <;> rfl
 exact ⟨[.str d.nm,pw,v'],H',.cons (.flat rfl _) (.cons (.flat hpw _) (.cons s1 (.nil _))),⟨pw,v',rfl,h2,s2⟩,s3,s4⟩
theorem Ks:∀ {l:List AO} {es:List (List AV)} {H:AE},es.length=l.length→(∀ (j:Nat) d e,l[j]? = some d→es[j]? = some e→Eu H d e) →
  ∃ es' H',Bq (5+l.length) es H es' H'∧es'.length=l.length∧(∀ (j:Nat) d e,l[j]? = some d→es'[j]? = some e→Ac d e)∧Bv H H'∧FO H H'
 | [],[],H,_,_=>⟨[],H,(Bq.nil H).mono (by decide),rfl,fun j d e h=>by simp at h,Bv.refl H,FO.refl H⟩
 | d::l,e::es,H,hl,hp=>by
  obtain ⟨e',H1,s1,s2,s3,s4⟩:=(hp 0 d e rfl rfl).snap
  obtain ⟨es',H2,t1,t2,t3,t4,t5⟩:=Ks (l:=l) (es:=es) (H:=H1) (by simpa using hl) (fun j d' e' h1 h2=>(hp (j+1) d' e' (by simpa using h1) (by simpa using h2)).keeps s3)
  refine ⟨e'::es',H2,(Bq.cons s1 t1).mono (by simp only [List.length_cons];omega),by simp [t2],fun j d' e'' h1 h2 => ?_,s3.trans t4,s4.trans t5⟩
  cases j with
  | zero=>simp at h1 h2;exact h1 ▸ h2 ▸ s2
  | succ j=>exact t3 j d' e'' (by simpa using h1) (by simpa using h2)
 | [],_::_,_,hl,_=>by simp at hl
 | _::_,[],_,hl,_=>by simp at hl
theorem c31 {l:List AO} {v:AV} (hv:SlR Ac 3 l v) (hsl:SmL 1048577 l):∃ w,SlR Ac 3 l w∧∀ h,AK MX (AH MX) 31 [v] h=some (.ret w,h):=by
 have hb5:=TV
 simp [BK,Be,Tryz.f31] at hb5
 have hb10:=Ql
 simp [BK,Be,Tryz.f31] at hb10
 obtain ⟨e,st,hlp,hq⟩:=AR (M:=MX) (fid:=31) (N:=60) (C:=AH MX) (c:=AP Tryz.f31 0) (n:=l.length)
  (fun i (b:AV×AE×List (List AV))=>([(0,v),(3,b.1),(4,.int .i64 i)],b.2.1))
  (fun i b=>Af 3 0 b.2.1 b.1 b.2.2∧b.2.2.length=(l.take i).length∧∀ (j:Nat) t e,(l.take i)[j]? = some t→b.2.2[j]? = some e→Eu b.2.1 t e)
  (fun r=>∃ b:AV×AE×List (List AV),r=(.ext 0,([(0,v),(3,b.1),(4,.int .i64 l.length),(11,.bool false)],b.2.1)) ∧
    Af 3 0 b.2.1 b.1 b.2.2∧b.2.2.length=l.length∧∀ (j:Nat) t e,l[j]? = some t→b.2.2[j]? = some e→Eu b.2.1 t e) (fun i b hi hI=>by
    obtain ⟨a,pre,es⟩:=b
    obtain ⟨i1,i2,i3⟩:=hI
    simp only at i1 i2 i3
    obtain ⟨e,he,hR⟩:=hv.ix hi
    have hi':=Aa hi
    have hw:=AZ hi hsl.1
    have hsd:=hsl.2 _ (List.getElem_mem hi)
    obtain ⟨s1,s2,s3,s4,s5⟩:=hsd
    obtain ⟨pv,cv,rfl,hp,hc⟩:=hR.dest
    obtain ⟨pw,hpw,h80⟩:=c80 hp s2
    obtain ⟨e2,st2,hlp2,hq2⟩:=AR (M:=MX) (fid:=31) (N:=60) (C:=AH MX) (c:=AP Tryz.f31 1) (n:=l[i].cons.length)
     (fun k (b:AV×AE×List (List AV))=>([(0,v),(3,a),(4,.int .i64 i),(5,.hp pre.length 0),(6,.int .i64 k)],pre++Blk.var false [AV.str l[i].nm,pw,b.1]::b.2.1))
     (fun k b=>Af 2 (pre.length+1) b.2.1 b.1 b.2.2∧b.2.2.length=(l[i].cons.take k).length∧∀ (j:Nat) t e,(l[i].cons.take k)[j]? = some t→b.2.2[j]? = some e→DR t e)
     (fun r=>∃ b:AV×AE×List (List AV),r=(.ext 2,([(0,v),(3,a),(4,.int .i64 i),(5,.hp pre.length 0),(6,.int .i64 l[i].cons.length),(33,.bool false)],pre++Blk.var false [AV.str l[i].nm,pw,b.1]::b.2.1)) ∧
       Af 2 (pre.length+1) b.2.1 b.1 b.2.2∧b.2.2.length=l[i].cons.length∧∀ (j:Nat) t e,l[i].cons[j]? = some t→b.2.2[j]? = some e→DR t e) (fun k b hk hK=>by
       obtain ⟨ca,rest,ces⟩:=b
       obtain ⟨k1,k2,k3⟩:=hK
       simp only at k1 k2 k3
       obtain ⟨e',he',hR'⟩:=hc.ix hk
       have hk':=Aa hk
       have hwk:=AZ hk s4
       have hsc:=s5 _ (List.getElem_mem hk)
       obtain ⟨fv,rfl,hf⟩:=hR'.dest
       obtain ⟨fw,hfw,h81⟩:=c81 hf hsc.2.1 (fun f hf=>(hsc.2.2 f hf).2)
       have hcr:DR l[i].cons[k] [.str l[i].cons[k].nm,fw]:=⟨fw,rfl,hfw⟩
       obtain ⟨j1,j2⟩:=EY k2 k3 hcr
       rw [Cj hk] at j1 j2
       have hlen:ces.length<16777215:=by rw [k2,List.length_take];exact Nat.lt_of_le_of_lt (Nat.min_le_right _ _) (Nat.lt_of_lt_of_le s4 (by decide))
       have k1':=k1.grow [Blk.var false [AV.str l[i].cons[k].nm,fv]]
       have hPl:(pre++[Blk.var false [AV.str l[i].nm,pw,ca]]).length=pre.length+1:=by simp
       obtain ⟨ca',rest',hap,hacc⟩:=Af.push (byt:=40) (P:=pre++[Blk.var false [AV.str l[i].nm,pw,ca]]) [.str l[i].cons[k].nm,fw] true (by rw [hPl];exact k1') (by decide) (by decide) hlen
       rw [hPl] at hacc
       simp only [List.append_assoc,List.cons_append,List.nil_append] at hap
       exact .inl ⟨(ca',rest',ces++[[.str l[i].cons[k].nm,fw]]),by simp [Tryz.f31,hv.len,hi',he,hc.len,hk',he',h81,bsA,Ak,List.replicate,hap,hwk,hb10,AG,AV.AD,hf.AD,hfw.AD,hfw.cells,hacc.cells],hacc,j1,j2⟩) (fun b hK=>by
       obtain ⟨ca,rest,ces⟩:=b
       obtain ⟨k1,k2,k3⟩:=hK
       rw [List.take_length] at k2 k3
       exact ⟨_,_,by simp [Tryz.f31,hi',he,hc.len] <;> first | exact ⟨rfl,rfl⟩ | rfl,by simp,(ca,rest,ces),rfl,k1,k2,k3⟩) (.AI,[],[]) ⟨.nil _ _ _,by simp,fun j t e h=>by simp at h⟩
    obtain ⟨⟨ca,rest,ces⟩,hq2,k1,k2,k3⟩:=hq2
    cases hq2
    simp [Tryz.f31] at hlp2
    have hpl:ces.length=l[i].cons.length:=k2
    have hlen:es.length<16777215:=by rw [i2];exact Nat.lt_of_le_of_lt (List.length_take_le _ _) (by have:=hsl.1;omega)
    -- the whole heap behind the loop
    have hca:IU 2 (pre++Blk.var false [AV.str l[i].nm,pw,ca]::rest) ca ces:=by
     rcases k1 with h | ⟨j,h0,h1,h2⟩
     ·exact .inl h
     ·exact .inr ⟨pre.length+1+j,false,h0,h1,by rw [List.getElem?_append_right (by omega),show pre.length+1+j - pre.length=j+1 by omega];simpa using h2⟩
    have Hz:∀ (A L:AE),Bv A (A++L):=fun A L id sz lk es h _=>⟨lk,Al h L⟩
    have fin:∀ (H:AE) (x:AV),Bv (pre++Blk.var false [AV.str l[i].nm,pw,ca]::rest) H→Af 3 0 H a es→Az H x=some [[AV.str l[i].nm,pw,ca]]→CE 3 x=true→(∀ b,x≠.str b) →
      ∃ a' H',apA 3 64 a x H=some (a',H')∧Af 3 0 H' a' (es++[[AV.str l[i].nm,pw,ca]])∧(es++[[AV.str l[i].nm,pw,ca]]).length=(l.take (i+1)).length∧∀ (j:Nat) t e,(l.take (i+1))[j]? = some t→(es++[[AV.str l[i].nm,pw,ca]])[j]? = some e→Eu H' t e:=by
     intro H x hk hacc hrd hsz hst
     obtain ⟨a',H',h1,h2,h3⟩:=Me (byt:=64) hacc hrd hsz hst (by simp) (by decide) (by decide) (by simp;omega)
     have e0:Eu (pre++Blk.var false [AV.str l[i].nm,pw,ca]::rest) l[i] [AV.str l[i].nm,pw,ca]:=⟨pw,ca,ces,rfl,hpw,hca,k2,k3⟩
     obtain ⟨j1,j2⟩:=EY (R:=Eu (pre++Blk.var false [AV.str l[i].nm,pw,ca]::rest)) i2 (fun j t e g1 g2=>(i3 j t e g1 g2).keeps (Hz _ _)) e0
     rw [Cj hi] at j1 j2
     have keepP:∀ t e,Eu H t e→Eu H' t e:=fun t e h=>by
      obtain ⟨q1,q2,q3,q4,q5,q6,q7,q8⟩:=h
      refine ⟨q1,q2,q3,q4,q5,?_,q7,q8⟩
      rcases q6 with h | ⟨id,lk,g0,g1,g2⟩
      ·exact .inl h
      ·exact .inr ⟨id,lk,g0,g1,h3 id _ g2 (fun lk' es' e=>by cases e)⟩
     exact ⟨a',H',h1,h2,j1,fun j t e g1 g2=>keepP t e ((j2 j t e g1 g2).keeps hk)⟩
    have i1':=i1.grow (Blk.var false [AV.str l[i].nm,pw,ca]::rest)
    cases hna:ca.AD with
    | true=>
     obtain ⟨a',H',f1,f2,f3,f4⟩:=fin _ (.sl 3 true [[AV.str l[i].nm,pw,ca]]) (Bv.refl _) i1' rfl (by simp [CE,BO]) (fun b h=>by cases h)
     exact .inl ⟨(a',H',es++[[AV.str l[i].nm,pw,ca]]),by simp [Tryz.f31,hv.len,hi',he,h80,hpw.cells,hb5,AG,AV.AD,hp.AD,hpw.AD,hna,hlp2,bsA,Ak,List.replicate,f1,hw],f2,f3,f4⟩
    | false=>
     obtain ⟨a',H',f1,f2,f3,f4⟩:=fin ((pre++Blk.var false [AV.str l[i].nm,pw,ca]::rest)++[Blk.arr 3 false [[AV.str l[i].nm,pw,ca]]]) (.hs (pre++Blk.var false [AV.str l[i].nm,pw,ca]::rest).length 1 3 0 1 false) (Hz _ _) (by have:=i1.grow ((Blk.var false [AV.str l[i].nm,pw,ca]::rest)++[Blk.arr 3 false [[AV.str l[i].nm,pw,ca]]]);rwa [← List.append_assoc] at this)
      (by simp only [Az,Ce];simp) (by simp [CE,BO]) (fun b h=>by cases h)
     simp at f1
     exact .inl ⟨(a',H',es++[[AV.str l[i].nm,pw,ca]]),by simp [Tryz.f31,hv.len,hi',he,h80,hpw.cells,hb5,AG,AV.AD,hp.AD,hpw.AD,hna,hlp2,bsA,Ak,List.replicate,Av,f1,hw],f2,f3,f4⟩) (fun b hI=>by
    obtain ⟨a,rest,es⟩:=b
    obtain ⟨i1,i2,i3⟩:=hI
    rw [List.take_length] at i2 i3
    exact ⟨_,_,by simp [Tryz.f31,hv.len] <;> first | exact ⟨rfl,rfl⟩ | rfl,by simp,(a,rest,es),rfl,i1,i2,i3⟩) (.AI,[],[]) ⟨.nil _ _ _,by simp,fun j t e h=>by simp at h⟩
 obtain ⟨⟨a,rest,es⟩,hq,i1,i2,i3⟩:=hq
 cases hq
 simp [Tryz.f31] at hlp
 have hrun:AN MX 31 [v] []=some (.ret a,rest):=by simp [AN,Tryz.f31,hlp]
 simp only at i1 i2 i3
 rcases i1 with ⟨h0,rfl⟩ | ⟨j,h0,rfl,h2⟩
 ·have:l=[]:=List.eq_nil_of_length_eq_zero (by rw [← i2,h0];rfl)
  exact ⟨.AI,.inl ⟨this,rfl⟩,fun h=>Ae MS Oj (by simp [hv.AD]) rfl hrun h⟩
 ·obtain ⟨es',H',s1,s2,s3,s4,s5⟩:=Ks i2 i3
  simp only [Nat.zero_add] at hrun
  have hjl:=(List.getElem?_eq_some_iff.1 h2).1
  by_cases hall:es.all AG=true
  ·have hacc:Af 3 ([]:AE).length rest (.hs j es.length 3 0 es.length false) es:=.inr ⟨j,h0,by simp,h2⟩
   -- nothing in it leads to blocks
   have hrep:∀ (k:Nat) d e,l[k]? = some d→es[k]? = some e→Ac d e:=fun k d e g1 g2=>by
    obtain ⟨pw,ca,ces,rfl,q1,q2,q3,q4⟩:=i3 k d e g1 g2
    have hne:AG [AV.str d.nm,pw,ca]=true:=List.all_eq_true.1 hall _ (List.mem_of_getElem? g2)
    rcases q2 with ⟨q5,rfl⟩ | ⟨_,_,_,rfl,_⟩
    ·exact ⟨pw,.AI,rfl,q1,.inl ⟨List.eq_nil_of_length_eq_zero (by rw [← q3,q5];rfl),rfl⟩⟩
    ·simp [AG,AV.AD] at hne
   exact ⟨_,Af.rep i2 hrep false,fun h=>Hy MS Oj (by simp [hv.AD]) rfl (hacc.snap (n:=9999999) hall h0) rfl hrun h⟩
  ·obtain ⟨lk2,es2,hk2,hkl⟩:=s5 j 3 false es h2
   refine ⟨_,Af.rep s2 s3 false,fun h=>Hy MS Oj (by simp [hv.AD]) rfl (hr':=H'.set j (.arr 3 true es')) ?_ rfl hrun h⟩
   have hse:Fe (CX - 1) es rest=some (es',H'):=by
    have h9:=(s1.mono (show 5+l.length≤CX - 1 by have:=hsl.1;simp only [CX];omega)) 0
    rwa [Nat.zero_add] at h9
   have ha:es.all AG=false:=by simpa using hall
   have hb1:(Nat.beq es.length es.length&&Nat.beq 3 3&&Nat.ble (0+es.length) es.length&&es.all AG)=false:=by simp [A7,ha]
   have hb2:(Nat.beq es.length es.length&&Nat.beq 3 3&&Nat.ble (0+es.length) es.length)=true:=by simp [A7]
   have hb3:(Nat.beq 3 3&&Nat.beq es2.length es.length)=true:=by rw [hkl];simp
   have hl':es'.length=es.length:=by rw [s2,i2]
   clear hb5 hb10 hlp
   show snap ((CX - 1)+1) _ _=_
   simp only [snap,h2,hb1,hb2,hse,hk2,hb3]
   rw [← hl']
   simp [ha]
mutual
def Br (params:List Bytes) (args:List TyV):TyV→TyV
 | .mk k v nm ps=>match (if k=0 then params.findIdx? (fun x=>x == nm) else none) with
  | some i=>args.getD i default
  | none=> .mk k v nm (Nn params args ps)
def Nn (params:List Bytes) (args:List TyV):List TyV→List TyV
 | []=>[]
 | p::r=>Br params args p::Nn params args r
end
theorem Ed (params:List Bytes) (args:List TyV):∀ ps,Nn params args ps=ps.map (Br params args)
 | []=>rfl
 | p::r=>by simp [Nn,Ed params args r]
theorem WJ {b:Nat} {params:List Bytes} {args:List TyV} (ha:∀ a∈args,Sm b a) (h0:0<b) (t:TyV):Sm b t→Sm b (Br params args t):=by
 induction t using TyV.ind with
 | h k v nm ps ih=>
  intro hs
  obtain ⟨s1,s2,s3⟩:=hs.dest
  simp only [Br]
  split
  ·rename_i i _
   rw [List.getD_eq_getElem?_getD]
   cases hi:args[i]? with
   | none=>exact .mk default default default default h0 h0 (fun p hp=>by cases hp)
   | some a=>exact ha a (List.mem_of_getElem? hi)
  ·rw [Ed]
   exact .mk k v nm _ s1 (by simpa using s2) (fun p hp=>by
    obtain ⟨q,hq,rfl⟩:=List.mem_map.1 hp
    exact ih q hq (s3 q hq))
theorem c119 {params:List Bytes} {pr:AV} (hpr:SlR CI 1 params pr) (hpl:params.length<1048577) {args:List TyV} {av:AV} (har:SlR AU 4 args av) (has:∀ a∈args,Sm 1048577 a) (hpa:params.length≤args.length) (t:TyV) :
  ∀ (xs:List AV),AU t xs→Sm 1048577 t→∃ ys,AU (Br params args t) ys∧∀ h,AK MX (AH MX) 119 [.agg xs,pr,av] h=some (.ret (.agg ys),h):=by
 induction t using TyV.ind with
 | h k v nm ps ih=>
  intro xs hx hs
  have hn:([AV.agg xs,pr,av]:List AV).all AV.AD=true:=by simp [AV.AD,hx.AG,hpr.AD,har.AD]
  obtain ⟨pv,rfl,hp⟩:=hx.dest
  obtain ⟨s1,s2,s3⟩:=hs.dest
  have hb5:=Qu
  simp [BK,Be,Tryz.f119] at hb5
  have hb:=Oq
  simp [BK,Be,Tryz.f119] at hb
  -- the parts
  obtain ⟨e,st,hlp,hq⟩:=AR (M:=MX) (fid:=119) (N:=54) (C:=AH MX) (c:=AP Tryz.f119 1) (n:=ps.length)
   (fun i (b:AV×AE×List (List AV))=>([(1,pr),(2,av),(3,.hp 0 0),(6,.hp 1 0),(8,.hp 2 0),(9,.int .i64 i)],Blk.var false [AV.int .i64 k,AV.int .i64 v,AV.str nm,pv]::Blk.var false [AV.int .i64 0,AV.int .i64 0,AV.str [],AV.AI]::Blk.var false [AV.int .i64 k,AV.int .i64 v,AV.str nm,b.1]::b.2.1))
   (fun i b=>Af 4 3 b.2.1 b.1 b.2.2∧b.2.2.length=((ps.map (Br params args)).take i).length∧∀ (j:Nat) t e,((ps.map (Br params args)).take i)[j]? = some t→b.2.2[j]? = some e→AU t e)
   (fun r=>∃ b:AV×AE×List (List AV),r=(.ext 2,([(1,pr),(2,av),(3,.hp 0 0),(6,.hp 1 0),(8,.hp 2 0),(9,.int .i64 ps.length),(37,.bool false)],Blk.var false [AV.int .i64 k,AV.int .i64 v,AV.str nm,pv]::Blk.var false [AV.int .i64 0,AV.int .i64 0,AV.str [],AV.AI]::Blk.var false [AV.int .i64 k,AV.int .i64 v,AV.str nm,b.1]::b.2.1)) ∧
     Af 4 3 b.2.1 b.1 b.2.2∧b.2.2.length=(ps.map (Br params args)).length∧∀ (j:Nat) t e,(ps.map (Br params args))[j]? = some t→b.2.2[j]? = some e→AU t e) (fun i b hi hI=>by
     obtain ⟨a,rest,es⟩:=b
     obtain ⟨i1,i2,i3⟩:=hI
     simp only at i1 i2 i3
     obtain ⟨e,he,hR⟩:=hp.ix hi
     have hi':=Aa hi
     have hw:=AZ hi s2
     have him:i<(ps.map (Br params args)).length:=by simpa using hi
     obtain ⟨ys,hys,hcall⟩:=ih ps[i] (List.getElem_mem hi) e hR (s3 _ (List.getElem_mem hi))
     have hys':AU (ps.map (Br params args))[i] ys:=by simpa using hys
     obtain ⟨j1,j2⟩:=EY i2 i3 hys'
     rw [Cj him] at j1 j2
     have hlen:es.length<16777215:=by rw [i2,List.length_take,List.length_map];exact Nat.lt_of_le_of_lt (Nat.min_le_right _ _) (Nat.lt_of_lt_of_le s2 (by decide))
     obtain ⟨a',rest',hap,hacc⟩:=Af.push (byt:=56) (P:=[Blk.var false [AV.int .i64 k,AV.int .i64 v,AV.str nm,pv],Blk.var false [AV.int .i64 0,AV.int .i64 0,AV.str [],AV.AI],Blk.var false [AV.int .i64 k,AV.int .i64 v,AV.str nm,a]]) ys true i1 (by decide) (by decide) hlen
     simp only [List.cons_append,List.nil_append] at hap
     have hyn:=hys.AG
     have hyl:=hys.len
     obtain ⟨qv,rfl,hqv⟩:=hR.AY
     exact .inl ⟨(a',rest',es++[ys]),by simp [Tryz.f119,hp.len,hi',he,hcall,bsA,Ak,List.replicate,hyl,hyn,hap,hacc.cells,hw,hb,AG,AV.AD,hqv.AD,hpr.AD,har.AD],hacc,j1,j2⟩) (fun b hI=>by
     obtain ⟨a,rest,es⟩:=b
     obtain ⟨i1,i2,i3⟩:=hI
     rw [List.take_of_length_le (by simp)] at i2 i3
     exact ⟨_,_,by simp [Tryz.f119,hp.len] <;> first | exact ⟨rfl,rfl⟩ | rfl,by simp,(a,rest,es),rfl,i1,i2,i3⟩) (.AI,[],[]) ⟨.nil _ _ _,by simp,fun j t e h=>by simp at h⟩
  obtain ⟨⟨a,rest,es⟩,hq,i1,i2,i3⟩:=hq
  cases hq
  simp [Tryz.f119] at hlp
  obtain ⟨v',rest',hsn,hrep,heq⟩:=JN (P:=[Blk.var false [AV.int .i64 k,AV.int .i64 v,AV.str nm,pv],Blk.var false [AV.int .i64 k,AV.int .i64 v,AV.str nm,a],Blk.var false [AV.int .i64 k,AV.int .i64 v,AV.str nm,a]]) (fun a e h=>AU.AG h) i1 i2 i3
  have fin:∀ (hrun:AN MX 119 [.agg [.int .i64 k,.int .i64 v,.str nm,pv],pr,av] []=some (.ret (.agg [.int .i64 k,.int .i64 v,.str nm,a]),[Blk.var false [AV.int .i64 k,AV.int .i64 v,AV.str nm,pv],Blk.var false [AV.int .i64 k,AV.int .i64 v,AV.str nm,a],Blk.var false [AV.int .i64 k,AV.int .i64 v,AV.str nm,a]]++rest)) h,
    AK MX (AH MX) 119 [.agg [.int .i64 k,.int .i64 v,.str nm,pv],pr,av] h=some (.ret (.agg [.int .i64 k,.int .i64 v,.str nm,v']),h):=fun hrun h=>by
   cases hna:a.AD with
   | true=>
    have:=heq hna
    subst this
    exact Ae Kk MZ hn (by simp [AV.AD,AG,hna]) hrun h
   | false=>
    exact Hy Kk MZ hn (by simp [AV.AD,AG,hna]) ((BC.agg (by simp [AG,AV.AD,hna]) (.cons (.flat rfl _) (.cons (.flat rfl _) (.cons (.flat rfl _) (.cons hsn (.nil _)))))).at (by decide)) (by simp [AV.AD,AG,hrep.AD]) hrun h
  by_cases hk:k=0
  ·subst hk
   -- the parameters
   obtain ⟨e2,st2,hlp2,hq2⟩:=AR (M:=MX) (fid:=119) (N:=54) (C:=AH MX) (c:=AP Tryz.f119 0) (n:=params.length)
    (fun i (_:Unit)=>([(1,pr),(2,av),(3,.hp 0 0),(6,.hp 1 0),(7,.int .i64 i)],[Blk.var false [AV.int .i64 0,AV.int .i64 v,AV.str nm,pv],Blk.var false [AV.int .i64 0,AV.int .i64 0,AV.str [],AV.AI]]))
    (fun i _=>∀ j (hj:j<params.length),j<i→(fun x:Bytes=>x == nm) params[j]=false)
    (fun r=>(r=(.ext 0,([(1,pr),(2,av),(3,.hp 0 0),(6,.hp 1 0),(7,.int .i64 params.length),(16,.bool false)],[Blk.var false [AV.int .i64 0,AV.int .i64 v,AV.str nm,pv],Blk.var false [AV.int .i64 0,AV.int .i64 0,AV.str [],AV.AI]]))∧params.findIdx? (fun x=>x == nm)=none) ∨
      ∃ (i:Nat) (ys:List AV),r=(.ret,([(6,.hp 1 0)],[Blk.var false [AV.int .i64 0,AV.int .i64 v,AV.str nm,pv],Blk.var false ys]))∧params.findIdx? (fun x=>x == nm)=some i∧AU (args.getD i default) ys) (fun i b hi hI=>by
      obtain ⟨e,he,hR⟩:=hpr.ix hi
      have hi':=Aa hi
      have hw:=AZ hi hpl
      cases hR
      cases hx:(params[i] == nm) with
      | false=>exact .inl ⟨(),by simp [Tryz.f119,hpr.len,hi',he,hx,hw],EP (p:=fun x:Bytes=>x == nm) hi hI hx⟩
      | true=>
       have hia:i<args.length:=by omega
       obtain ⟨e3,he3,hR3⟩:=har.ix hia
       obtain ⟨ys,hys,hcall⟩:=c142 args[i] e3 hR3 (has _ (List.getElem_mem hia))
       obtain ⟨qv,rfl,hqv⟩:=hR3.AY
       have hgd:AU (args.getD i default) ys:=by simpa [hia] using hys
       obtain ⟨qy,rfl,hqy⟩:=hys.AY
       exact .inr ⟨_,_,by simp [Tryz.f119,hpr.len,hi',he,hx,he3,hcall] <;> first | exact ⟨rfl,rfl⟩ | rfl,by simp,.inr ⟨i,_,rfl,EN (p:=fun x:Bytes=>x == nm) hi hI hx,hgd⟩⟩) (fun b hI=>by
      exact ⟨_,_,by simp [Tryz.f119,hpr.len] <;> first | exact ⟨rfl,rfl⟩ | rfl,by simp,.inl ⟨rfl,EO (p:=fun x:Bytes=>x == nm) fun j hj=>hI j hj hj⟩⟩) () (fun j _ h0=>by omega)
   simp [Tryz.f119] at hlp2
   rcases hq2 with ⟨hq2,hf⟩ | ⟨i,ys,hq2,hf,hys⟩ <;> cases hq2
   ·refine ⟨_,?_,fin (by simp [AN,Tryz.f119,hlp2,hlp,Cm])⟩
    simp only [Br,hf,if_true,Ed]
    exact AU.intro hrep
   ·refine ⟨ys,by simpa [Br,hf] using hys,fun h => ?_⟩
    obtain ⟨qy,rfl,hqy⟩:=hys.AY
    exact Ae Kk MZ hn (by simp [AV.AD,AG,hqy.AD]) (hr:=[Blk.var false [AV.int .i64 0,AV.int .i64 v,AV.str nm,pv],Blk.var false [.int .i64 (args.getD i default).k,.int .i64 (args.getD i default).v,.str (args.getD i default).nm,qy]]) (by simp [AN,Tryz.f119,hlp2,Cm]) h
  ·have hk':(k == 0)=false:=by simp [hk]
   refine ⟨_,?_,fin (by simp [AN,Tryz.f119,hk',hk,hlp,Cm])⟩
   simp only [Br,hk,if_false,Ed]
   exact AU.intro hrep
theorem Lo {α:Type} {Pre:AE→α→List AV→Prop} {Rep:α→List AV→Prop} {K:Nat} (hs:∀ H d e,Pre H d e→∃ e' H',A9 K e H e' H'∧Rep d e'∧Bv H H'∧FO H H') (hk:∀ H H' d e,Pre H d e→Bv H H'→Pre H' d e) :
  ∀ {l:List α} {es:List (List AV)} {H:AE},es.length=l.length→(∀ (j:Nat) d e,l[j]? = some d→es[j]? = some e→Pre H d e) →
  ∃ es' H',Bq (K+1+l.length) es H es' H'∧es'.length=l.length∧(∀ (j:Nat) d e,l[j]? = some d→es'[j]? = some e→Rep d e)∧Bv H H'∧FO H H'
 | [],[],H,_,_=>⟨[],H,(Bq.nil H).mono (by omega),rfl,fun j d e h=>by simp at h,Bv.refl H,FO.refl H⟩
 | d::l,e::es,H,hl,hp=>by
  obtain ⟨e',H1,s1,s2,s3,s4⟩:=hs _ _ _ (hp 0 d e rfl rfl)
  obtain ⟨es',H2,t1,t2,t3,t4,t5⟩:=Lo hs hk (l:=l) (es:=es) (H:=H1) (by simpa using hl) (fun j d' e' h1 h2=>hk _ _ _ _ (hp (j+1) d' e' (by simpa using h1) (by simpa using h2)) s3)
  refine ⟨e'::es',H2,(Bq.cons s1 t1).mono (by simp only [List.length_cons];omega),by simp [t2],fun j d' e'' h1 h2 => ?_,s3.trans t4,s4.trans t5⟩
  cases j with
  | zero=>simp at h1 h2;exact h1 ▸ h2 ▸ s2
  | succ j=>exact t3 j d' e'' (by simpa using h1) (by simpa using h2)
 | [],_::_,_,hl,_=>by simp at hl
 | _::_,[],_,hl,_=>by simp at hl
theorem O9 {α:Type} {Pre:AE→α→List AV→Prop} {Rep:α→List AV→Prop} {K sz:Nat} (hs:∀ H d e,Pre H d e→∃ e' H',A9 K e H e' H'∧Rep d e'∧Bv H H'∧FO H H') (hk:∀ H H' d e,Pre H d e→Bv H H'→Pre H' d e) (hnr:∀ H d e,Pre H d e→AG e=true→Rep d e)
  {l:List α} {es:List (List AV)} {H:AE} {a:AV} (h1:IU sz H a es) (hl:es.length=l.length) (hp:∀ (j:Nat) d e,l[j]? = some d→es[j]? = some e→Pre H d e) :
  ∃ v' H',BC (K+2+l.length) a H v' H'∧SlR Rep sz l v'∧(a.AD=true→a=v'):=by
 rcases h1 with ⟨h0,rfl⟩ | ⟨j,lk,h0,rfl,h2⟩
 ·exact ⟨.AI,H,fun n=>by rw [show n+(K+2+l.length)=(n+(K+1+l.length))+1 by omega];rfl,.inl ⟨List.eq_nil_of_length_eq_zero (by rw [← hl,h0];rfl),rfl⟩,fun _=>rfl⟩
 ·by_cases hall:es.all AG=true
  ·have hrep:∀ (k:Nat) d e,l[k]? = some d→es[k]? = some e→Rep d e:=fun k d e g1 g2=>hnr _ _ _ (hp k d e g1 g2) (List.all_eq_true.1 hall _ (List.mem_of_getElem? g2))
   refine ⟨.sl sz false es,H.set j (.arr sz true es),fun n => ?_,Af.rep hl hrep false,fun hh=>by cases hh⟩
   have hb:(Nat.beq es.length es.length&&Nat.beq sz sz&&Nat.ble (0+es.length) es.length&&es.all AG)=true:=by simp [A7,hall]
   rw [show n+(K+2+l.length)=(n+(K+1+l.length))+1 by omega]
   simp only [Am.snap,h2,hb]
   simp
  ·obtain ⟨es',H',s1,s2,s3,s4,s5⟩:=Lo hs hk hl hp
   obtain ⟨lk2,es2,hk2,hkl⟩:=s5 j sz lk es h2
   refine ⟨.sl sz false es',H'.set j (.arr sz true es'),fun n => ?_,Af.rep s2 s3 false,fun hh=>by cases hh⟩
   have hse:=s1 n
   have ha:es.all AG=false:=by simpa using hall
   have hb1:(Nat.beq es.length es.length&&Nat.beq sz sz&&Nat.ble (0+es.length) es.length&&es.all AG)=false:=by rw [ha,Bool.and_false]
   have hb2:(Nat.beq es.length es.length&&Nat.beq sz sz&&Nat.ble (0+es.length) es.length)=true:=by simp [A7]
   have hb3:(Nat.beq sz sz&&Nat.beq es2.length es.length)=true:=by rw [hkl,Nat.beq_refl,Nat.beq_refl];rfl
   have hl':es'.length=es.length:=by rw [s2,hl]
   rw [show n+(K+2+l.length)=(n+(K+1+l.length))+1 by omega]
   simp only [snap,h2,hb1,hb2,hse,hk2,hb3]
   rw [← hl']
   simp [ha]
def En (H:AE) (c:Bm) (e:List AV):Prop:=∃ fa fes,e=[.str c.nm,fa]∧IU 5 H fa fes∧fes.length=c.fields.length∧∀ (j:Nat) t e,c.fields[j]? = some t→fes[j]? = some e→BS t e
theorem En.keeps {H H':AE} {d:Bm} {e:List AV} (h:En H d e) (k:Bv H H'):En H' d e:=by
 obtain ⟨ca,ces,h1,h3,h4,h5⟩:=h
 exact ⟨ca,ces,h1,h3.keeps (BR h4 h5 Ea) k,h4,h5⟩
theorem En.snap {H:AE} {d:Bm} {e:List AV} (h:En H d e):∃ e' H',A9 3 e H e' H'∧DR d e'∧Bv H H'∧FO H H':=by
 obtain ⟨ca,ces,rfl,h3,h4,h5⟩:=h
 obtain ⟨v',H',s1,s2,s3,s4⟩:=h3.snap Ea h4 h5
 exact ⟨[.str d.nm,v'],H',.cons (.flat rfl _) (.cons s1 (.nil _)),⟨v',rfl,s2⟩,s3,s4⟩
theorem En.AD {H:AE} {d:Bm} {e:List AV} (h:En H d e) (hn:AG e=true):DR d e:=by
 obtain ⟨ca,ces,rfl,q2,q3,q4⟩:=h
 rcases q2 with ⟨q5,rfl⟩ | ⟨_,_,_,rfl,_⟩
 ·exact ⟨.AI,rfl,.inl ⟨List.eq_nil_of_length_eq_zero (by rw [← q3,q5];rfl),rfl⟩⟩
 ·simp [AG,AV.AD] at hn
theorem Yc (n:Int) (h0:0≤n) (h1:n≤62) (h:AE):AN MX 67 [.int .i64 n] h=some (.ret (.int .i64 ((2 ^ n.toNat:Nat):Int)),h):=by
 have hm:min n.toNat 64=n.toNat:=by omega
 have hp:(2:Nat) ^ n.toNat≤2 ^ 62:=Nat.pow_le_pow_right (by decide) (by omega)
 have hp':(2:Nat) ^ n.toNat<9223372036854775808:=Nat.lt_of_le_of_lt hp (by decide)
 have hw:wr .i64 ((2 ^ n.toNat:Nat):Int)=((2 ^ n.toNat:Nat):Int):=BD (Int.natCast_nonneg _) (Int.ofNat_lt.2 hp')
 have hn:¬ n<0:=by omega
 have hs:GQ .shl .i64 1 n=some (.int .i64 ((2 ^ n.toNat:Nat):Int)):=by
  simp only [GQ,decide_eq_false hn,IntKind.bits,hm,Int.one_mul,hw]
 simp [AN,Tryz.f67,hs]
theorem c67 (n:Int) (h0:0≤n) (h1:n≤62) (h:AE):AK MX (AH MX) 67 [.int .i64 n] h=some (.ret (.int .i64 ((2 ^ n.toNat:Nat):Int)),h):=Ae U5 Xy rfl rfl (Yc n h0 h1 []) h
def E2 (params:List Bytes) (args:List TyV) (c:Bm):Bm:=⟨c.nm,c.fields.map fun f=>⟨f.nm,Br params args f.ty⟩⟩
def AQ (l:List AO) (t:TyV):List Bm:=
 if t.nm == Bn then [⟨Bz,[]⟩,⟨DG,[]⟩] else match l.findIdx? (fun d=>d.nm == t.nm) with
  | some i=>(l.getD i default).cons.map (E2 (l.getD i default).params t.ps)
  | none=>[]
def HasC (l:List AO) (t:TyV):Prop:=(t.nm == Bn)=true∨∃ i,l.findIdx? (fun d=>d.nm == t.nm)=some i∧(l.getD i default).params.length≤t.ps.length
theorem Af.toL {sz:Nat} {P rest:AE} {a:AV} {es:List (List AV)} (h:Af sz P.length rest a es):IU sz (P++rest) a es:=by
 rcases h with h | ⟨j,h0,h1,h2⟩
 ·exact .inl h
 ·exact .inr ⟨P.length+j,false,h0,h1,by rw [List.getElem?_append_right (by omega)];simpa using h2⟩
theorem Hz (A L:AE):Bv A (A++L):=fun _ _ lk _ h _=>⟨lk,Al h L⟩
theorem c68 {l:List AO} {lv:AV} (hl:SlR Ac 3 l lv) (hsl:SmL 1048577 l) {t:TyV} {xs:List AV} (hx:AU t xs) (hst:Sm 1048577 t) (hc:HasC l t) :
  ∃ w,SlR DR 2 (AQ l t) w∧∀ h,AK MX (AH MX) 68 [lv,.agg xs] h=some (.ret w,h):=by
 have hn:([lv,AV.agg xs]:List AV).all AV.AD=true:=by simp [AV.AD,hx.AG,hl.AD]
 have hps:∀ p∈t.ps,Sm 1048577 p:=by cases t;exact hst.dest.2.2
 obtain ⟨pv,rfl,hp⟩:=hx.AY
 cases hb:(t.nm == Bn) with
 | true=>
  have hb':(t.nm == [66,111,111,108])=true:=hb
  refine ⟨.sl 2 true [[.str Bz,.AI],[.str DG,.AI]],?_,fun h=>Ae Pl SO hn rfl (hr:=[Blk.var false [AV.int .i64 t.k,AV.int .i64 t.v,AV.str t.nm,pv]]) (by simp [AN,Tryz.f68,hb',bsA,Ak,List.replicate,AG,AV.AD,Bz,DG]) h⟩
  simp only [AQ,hb,if_true]
  exact .inr ⟨true,_,rfl,rfl,fun i a e h1 h2=>by
   match i with
   | 0=>simp at h1 h2;subst h1;subst h2;exact ⟨.AI,rfl,.inl ⟨rfl,rfl⟩⟩
   | 1=>simp at h1 h2;subst h1;subst h2;exact ⟨.AI,rfl,.inl ⟨rfl,rfl⟩⟩
   | i+2=>simp at h1⟩
 | false=>
  have hb':(t.nm == [66,111,111,108])=false:=hb
  rcases hc with hc | ⟨i,hf,hpa⟩
  ·rw [hb] at hc;cases hc
  have hil:=F3 hf
  have hD:=c118 t.nm hl hsl.1
  have hgd:l.getD i default=l[i]:=by simp [hil]
  rw [hgd] at hpa
  obtain ⟨de,hde,hdR⟩:=hl.ix hil
  obtain ⟨s1,s2,s3,s4,s5⟩:=hsl.2 _ (List.getElem_mem hil)
  obtain ⟨qv,cv,rfl,hqp,hcv⟩:=hdR.dest
  have hb13:=Qr
  simp [BK,Be,Tryz.f68] at hb13
  let F:=E2 l[i].params t.ps
  have hcons:AQ l t=l[i].cons.map F:=by simp only [AQ,hb,hf,hgd];rfl
  -- the constructors
  obtain ⟨e,st,hlp,hq⟩:=AR (M:=MX) (fid:=68) (N:=78) (C:=AH MX) (c:=AP Tryz.f68 0) (n:=l[i].cons.length)
   (fun k (b:AV×AE×List (List AV))=>([(3,.hp 0 0),(5,.hp 1 0),(6,b.1),(7,.int .i64 k)],Blk.var false [AV.int .i64 t.k,AV.int .i64 t.v,AV.str t.nm,pv]::Blk.var false [AV.str l[i].nm,qv,cv]::b.2.1))
   (fun k b=>Af 2 0 (Blk.var false [AV.int .i64 t.k,AV.int .i64 t.v,AV.str t.nm,pv]::Blk.var false [AV.str l[i].nm,qv,cv]::b.2.1) b.1 b.2.2∧b.2.2.length=((l[i].cons.map F).take k).length∧∀ (j:Nat) t' e,((l[i].cons.map F).take k)[j]? = some t'→b.2.2[j]? = some e→En (Blk.var false [AV.int .i64 t.k,AV.int .i64 t.v,AV.str t.nm,pv]::Blk.var false [AV.str l[i].nm,qv,cv]::b.2.1) t' e)
   (fun r=>∃ b:AV×AE×List (List AV),r=(.ext 0,([(3,.hp 0 0),(5,.hp 1 0),(6,b.1),(7,.int .i64 l[i].cons.length),(28,.bool false)],Blk.var false [AV.int .i64 t.k,AV.int .i64 t.v,AV.str t.nm,pv]::Blk.var false [AV.str l[i].nm,qv,cv]::b.2.1)) ∧
     Af 2 0 (Blk.var false [AV.int .i64 t.k,AV.int .i64 t.v,AV.str t.nm,pv]::Blk.var false [AV.str l[i].nm,qv,cv]::b.2.1) b.1 b.2.2∧b.2.2.length=(l[i].cons.map F).length∧∀ (j:Nat) t' e,(l[i].cons.map F)[j]? = some t'→b.2.2[j]? = some e→En (Blk.var false [AV.int .i64 t.k,AV.int .i64 t.v,AV.str t.nm,pv]::Blk.var false [AV.str l[i].nm,qv,cv]::b.2.1) t' e) (fun k b hk hI=>by
     obtain ⟨a,pre,es⟩:=b
     obtain ⟨i1,i2,i3⟩:=hI
     simp only at i1 i2 i3
     obtain ⟨ce,hce,hcR⟩:=hcv.ix hk
     have hk':=Aa hk
     have hw:=AZ hk s4
     have hkm:k<(l[i].cons.map F).length:=by simpa using hk
     have hsc:=s5 _ (List.getElem_mem hk)
     obtain ⟨fv,rfl,hfv⟩:=hcR.dest
     -- its fields
     obtain ⟨e2,st2,hlp2,hq2⟩:=AR (M:=MX) (fid:=68) (N:=78) (C:=AH MX) (c:=AP Tryz.f68 1) (n:=l[i].cons[k].fields.length)
      (fun m (b:AV×AE×List (List AV))=>([(3,.hp 0 0),(5,.hp 1 0),(6,a),(7,.int .i64 k),(8,.hp (pre.length+1+1) 0),(9,.int .i64 m)],Blk.var false [AV.int .i64 t.k,AV.int .i64 t.v,AV.str t.nm,pv]::Blk.var false [AV.str l[i].nm,qv,cv]::(pre++Blk.var false [AV.str l[i].cons[k].nm,b.1]::b.2.1)))
      (fun m b=>Af 5 (pre.length+3) b.2.1 b.1 b.2.2∧b.2.2.length=((F l[i].cons[k]).fields.take m).length∧∀ (j:Nat) t e,((F l[i].cons[k]).fields.take m)[j]? = some t→b.2.2[j]? = some e→BS t e)
      (fun r=>∃ b:AV×AE×List (List AV),r=(.ext 2,([(3,.hp 0 0),(5,.hp 1 0),(6,a),(7,.int .i64 k),(8,.hp (pre.length+1+1) 0),(9,.int .i64 l[i].cons[k].fields.length),(46,.bool false)],Blk.var false [AV.int .i64 t.k,AV.int .i64 t.v,AV.str t.nm,pv]::Blk.var false [AV.str l[i].nm,qv,cv]::(pre++Blk.var false [AV.str l[i].cons[k].nm,b.1]::b.2.1))) ∧
        Af 5 (pre.length+3) b.2.1 b.1 b.2.2∧b.2.2.length=(F l[i].cons[k]).fields.length∧∀ (j:Nat) t e,(F l[i].cons[k]).fields[j]? = some t→b.2.2[j]? = some e→BS t e) (fun m b hm hM=>by
        obtain ⟨fa,rest,fes⟩:=b
        obtain ⟨k1,k2,k3⟩:=hM
        simp only at k1 k2 k3
        obtain ⟨fe,hfe,hfR⟩:=hfv.ix hm
        have hm':=Aa hm
        have hwm:=AZ hm hsc.2.1
        have hmm:m<(F l[i].cons[k]).fields.length:=by simpa [F,E2] using hm
        have hsf:=hsc.2.2 _ (List.getElem_mem hm)
        obtain ⟨tx,rfl,htx⟩:=hfR
        obtain ⟨ys,hys,hcall⟩:=c119 hqp s2 hp hps hpa l[i].cons[k].fields[m].ty tx htx hsf.2
        have hfr:BS (F l[i].cons[k]).fields[m] (.str l[i].cons[k].fields[m].nm::ys):=⟨ys,by simp [F,E2],by simpa [F,E2] using hys⟩
        obtain ⟨j1,j2⟩:=EY k2 k3 hfr
        rw [Cj hmm] at j1 j2
        have hlen:fes.length<16777215:=by rw [k2,List.length_take];exact Nat.lt_of_le_of_lt (Nat.min_le_right _ _) (by simp only [F,E2,List.length_map];exact Nat.lt_of_lt_of_le hsc.2.1 (by decide))
        obtain ⟨q,rfl,hq⟩:=hys.AY
        obtain ⟨q',rfl,hq'⟩:=htx.AY
        have k1':=k1.grow [Blk.var false [AV.str l[i].cons[k].fields[m].nm,AV.int .i64 l[i].cons[k].fields[m].ty.k,AV.int .i64 l[i].cons[k].fields[m].ty.v,AV.str l[i].cons[k].fields[m].ty.nm,q']]
        have hPl:(Blk.var false [AV.int .i64 t.k,AV.int .i64 t.v,AV.str t.nm,pv]::Blk.var false [AV.str l[i].nm,qv,cv]::(pre++[Blk.var false [AV.str l[i].cons[k].nm,fa]])).length=pre.length+3:=by simp
        obtain ⟨fa',rest',hap,hacc⟩:=Af.push (byt:=72) (P:=Blk.var false [AV.int .i64 t.k,AV.int .i64 t.v,AV.str t.nm,pv]::Blk.var false [AV.str l[i].nm,qv,cv]::(pre++[Blk.var false [AV.str l[i].cons[k].nm,fa]]))
         (.str l[i].cons[k].fields[m].nm::[.int .i64 (Br l[i].params t.ps l[i].cons[k].fields[m].ty).k,.int .i64 (Br l[i].params t.ps l[i].cons[k].fields[m].ty).v,.str (Br l[i].params t.ps l[i].cons[k].fields[m].ty).nm,q]) true (by rw [hPl];exact k1') (by decide) (by decide) hlen
        rw [hPl] at hacc
        simp only [List.append_assoc,List.cons_append,List.nil_append] at hap
        exact .inl ⟨(fa',rest',_),by simp [Tryz.f68,hcv.len,hk',hce,hfv.len,hm',hfe,hcall,bsA,Ak,List.replicate,hap,hwm,hb13,AG,AV.AD,hq.AD,hq'.AD,hqp.AD,hp.AD,hacc.cells],hacc,j1,j2⟩) (fun b hM=>by
        obtain ⟨fa,rest,fes⟩:=b
        obtain ⟨k1,k2,k3⟩:=hM
        rw [List.take_of_length_le (by simp [F,E2])] at k2 k3
        exact ⟨_,_,by simp [Tryz.f68,hcv.len,hk',hce,hfv.len] <;> first | exact ⟨rfl,rfl⟩ | rfl,by simp,(fa,rest,fes),rfl,k1,k2,k3⟩) (.AI,[],[]) ⟨.nil _ _ _,by simp,fun j t e h=>by simp at h⟩
     obtain ⟨⟨fa,rest,fes⟩,hq2,k1,k2,k3⟩:=hq2
     cases hq2
     simp [Tryz.f68] at hlp2
     have hlen:es.length<16777215:=by rw [i2,List.length_take,List.length_map];exact Nat.lt_of_le_of_lt (Nat.min_le_right _ _) (Nat.lt_of_lt_of_le s4 (by decide))
     let B0:=Blk.var false [AV.int .i64 t.k,AV.int .i64 t.v,AV.str t.nm,pv]
     let B1:=Blk.var false [AV.str l[i].nm,qv,cv]
     let C:=Blk.var false [AV.str l[i].cons[k].nm,fa]
     have hfa:IU 5 (B0::B1::(pre++C::rest)) fa fes:=by
      rcases k1 with h | ⟨j,h0,h1,h2⟩
      ·exact .inl h
      ·refine .inr ⟨pre.length+3+j,false,h0,h1,?_⟩
       show (B0::B1::(pre++C::rest))[pre.length+3+j]? = _
       rw [show pre.length+3+j=(pre.length+1+j)+1+1 by omega,List.getElem?_cons_succ,List.getElem?_cons_succ,List.getElem?_append_right (by omega),show pre.length+1+j - pre.length=j+1 by omega]
       simpa using h2
     have e0:En (B0::B1::(pre++C::rest)) (l[i].cons.map F)[k] [AV.str l[i].cons[k].nm,fa]:=⟨fa,fes,by simp [F,E2],hfa,by simpa [F] using k2,fun j t e h1 h2=>k3 j t e (by simpa [F] using h1) h2⟩
     have fin:∀ (H:AE) (x:AV),Bv (B0::B1::(pre++C::rest)) H→Af 2 0 H a es→Az H x=some [[AV.str l[i].cons[k].nm,fa]]→CE 2 x=true→(∀ b,x≠.str b)→H[0]? = some B0→H[1]? = some B1 →
       ∃ a' T,apA 2 40 a x H=some (a',B0::B1::T)∧Af 2 0 (B0::B1::T) a' (es++[[AV.str l[i].cons[k].nm,fa]])∧(es++[[AV.str l[i].cons[k].nm,fa]]).length=((l[i].cons.map F).take (k+1)).length∧∀ (j:Nat) t' e,((l[i].cons.map F).take (k+1))[j]? = some t'→(es++[[AV.str l[i].cons[k].nm,fa]])[j]? = some e→En (B0::B1::T) t' e:=by
      intro H x hk hacc hrd hsz hst hh0 hh1
      obtain ⟨a',H',h1,h2,h3⟩:=Me (byt:=40) hacc hrd hsz hst (by simp) (by decide) (by decide) (by simp;omega)
      have g0:=h3 0 _ hh0 (fun lk es e=>by simp [B0] at e)
      have g1:=h3 1 _ hh1 (fun lk es e=>by simp [B1] at e)
      obtain ⟨T,rfl⟩:∃ T,H'=B0::B1::T:=by
       match H',g0,g1 with
       | x::y::T,g0,g1=>simp at g0 g1;exact ⟨T,by rw [g0,g1]⟩
      obtain ⟨j1,j2⟩:=EY (R:=En (B0::B1::(pre++C::rest))) i2 (fun j t e g1 g2=>(i3 j t e g1 g2).keeps (Hz (B0::B1::pre) (C::rest))) e0
      rw [Cj hkm] at j1 j2
      have keepP:∀ t e,En H t e→En (B0::B1::T) t e:=fun t e h=>by
       obtain ⟨q3,q4,q5,q6,q7,q8⟩:=h
       refine ⟨q3,q4,q5,?_,q7,q8⟩
       rcases q6 with h | ⟨id,lk,g0,g1,g2⟩
       ·exact .inl h
       ·exact .inr ⟨id,lk,g0,g1,h3 id _ g2 (fun lk' es' e=>by cases e)⟩
      exact ⟨a',T,h1,h2,j1,fun j t e g1 g2=>keepP t e ((j2 j t e g1 g2).keeps hk)⟩
     have i1':Af 2 0 (B0::B1::(pre++C::rest)) a es:=Af.grow (rest:=B0::B1::pre) i1 (C::rest)
     cases hna:fa.AD with
     | true=>
      obtain ⟨a',T,f1,f2,f3,f4⟩:=fin _ (.sl 2 true [[AV.str l[i].cons[k].nm,fa]]) (Bv.refl _) i1' rfl (by simp [CE,BO]) (fun b h=>by cases h) rfl rfl
      simp only [B0,B1,C] at f1
      exact .inl ⟨(a',T,es++[[AV.str l[i].cons[k].nm,fa]]),by simp [Tryz.f68,hcv.len,hk',hce,hlp2,bsA,Ak,List.replicate,AG,AV.AD,hna,f1,hw],f2,f3,f4⟩
     | false=>
      obtain ⟨a',T,f1,f2,f3,f4⟩:=fin ((B0::B1::(pre++C::rest))++[Blk.arr 2 false [[AV.str l[i].cons[k].nm,fa]]]) (.hs (B0::B1::(pre++C::rest)).length 1 2 0 1 false) (Hz _ _) (i1'.grow _)
       (by simp only [Az,Ce];simp) (by simp [CE,BO]) (fun b h=>by cases h) rfl rfl
      simp [B0,B1,C] at f1
      exact .inl ⟨(a',T,es++[[AV.str l[i].cons[k].nm,fa]]),by simp [Tryz.f68,hcv.len,hk',hce,hlp2,bsA,Ak,List.replicate,Av,AG,AV.AD,hna,f1,hw],f2,f3,f4⟩) (fun b hI=>by
     obtain ⟨a,rest,es⟩:=b
     obtain ⟨i1,i2,i3⟩:=hI
     rw [List.take_of_length_le (by simp)] at i2 i3
     exact ⟨_,_,by simp [Tryz.f68,hcv.len] <;> first | exact ⟨rfl,rfl⟩ | rfl,by simp,(a,rest,es),rfl,i1,i2,i3⟩) (.AI,[],[]) ⟨.nil _ _ _,by simp,fun j t e h=>by simp at h⟩
  obtain ⟨⟨a,rest,es⟩,hq,i1,i2,i3⟩:=hq
  cases hq
  simp [Tryz.f68] at hlp
  obtain ⟨v',H',s6,s7,s8⟩:=O9 (K:=3) (fun H d e h=>En.snap h) (fun H H' d e h k=>En.keeps h k) (fun H d e h hn=>En.AD h hn) (Af.toL (P:=[]) i1) i2 i3
  rw [hcons]
  have hrun:AN MX 68 [lv,.agg [.int .i64 t.k,.int .i64 t.v,.str t.nm,pv]] []=some (.ret a,Blk.var false [AV.int .i64 t.k,AV.int .i64 t.v,AV.str t.nm,pv]::Blk.var false [AV.str l[i].nm,qv,cv]::rest):=by
   simp [AN,Tryz.f68,hb',hD,hf,ixI,hde,hlp]
  exact ⟨v',s7,fun h=>QG Pl SO hn s6 (by simp only [CX,List.length_map];omega) s7.AD s8 hrun h⟩
end Go.Proofs.Am12
namespace Go.Am
open Go
def CU (L:List (List Nat)):List (Nat×Kd)→Bool
 | []=>true
 | (i,x)::r=>(r.all fun p => !(Bl x p.2)||(L.getD p.1 []).elem i)&&CU L r
theorem DH {ops:Array Oper} {ks:List Kd} (h:CU (BX ops) (CM 0 ks)=true):HN ops ks=true:=by
 unfold HN
 have hb:∀ i j,((BX ops).getD j []).elem i=true→((Region.before ops).getD j 0).testBit i=true:=by
  intro i j h
  unfold BX at h
  rw [List.getD_eq_getElem?_getD,List.getElem?_map] at h
  cases hm:(Region.before ops).toList[j]? with
  | none=>rw [hm] at h;simp at h
  | some m=>
   rw [hm] at h
   simp only [Option.map_some,Option.getD_some,List.elem_eq_mem,decide_eq_true_eq,List.mem_filter] at h
   have hm':(Region.before ops)[j]? = some m:=by simpa using hm
   rw [Array.getD_eq_getD_getElem?,hm']
   exact h.2
 have h2:∀ (l:List (Nat×Kd)),CU (BX ops) l=true→E9 (Region.before ops) l=true:=by
  intro l
  induction l with
  | nil=>intro _;rfl
  | cons a r ih=>
   intro h
   obtain ⟨i,x⟩:=a
   simp only [CU,Bool.and_eq_true,List.all_eq_true] at h
   simp only [E9,Bool.and_eq_true,List.all_eq_true]
   refine ⟨fun p hp => ?_,ih h.2⟩
   have:=h.1 p hp
   simp only [Bool.or_eq_true] at this ⊢
   rcases this with h3 | h3
   ·exact .inl h3
   ·exact .inr (hb _ _ h3)
 exact h2 _ h
end Go.Am
namespace Go.Am
open Go
mutual
theorem AV.Mf:∀ a:AV,AV.beq a a=true
 | .undef=>rfl
 | .bool b=>by simp [AV.beq]
 | .int k n=>by simp [AV.beq]
 | .str s=>by simp [AV.beq]
 | .D6=>rfl
 | .ro cs=>by simp only [AV.beq];exact F4 cs
 | .hp i o=>by simp [AV.beq]
 | .ep a b c d e=>by simp [AV.beq]
 | .AI=>rfl
 | .sl a b c=>by simp only [AV.beq,Nat.beq_refl,beq_self_eq_true,Bool.true_and];exact Jh c
 | .hs a b c d e f=>by simp [AV.beq]
 | .FW=>rfl
 | .hm i=>by simp [AV.beq]
 | .fn f a c=>by simp only [AV.beq,Nat.beq_refl,Bool.true_and,F4 a,F4 c]
 | .FY=>rfl
 | .iface t v=>by simp only [AV.beq,Nat.beq_refl,Bool.true_and];exact AV.Mf v
 | .Hb=>rfl
 | .agg a=>by simp only [AV.beq];exact F4 a
 | .tup a=>by simp only [AV.beq];exact F4 a
theorem F4:∀ l:List AV,IT l l=true
 | []=>rfl
 | a::r=>by simp only [IT,AV.Mf a,F4 r,Bool.and_self]
theorem Jh:∀ l:List (List AV),I0 l l=true
 | []=>rfl
 | a::r=>by simp only [I0,F4 a,Jh r,Bool.and_self]
end
theorem DW:∀ b:Blk,Blk.beq b b=true:=by
 intro b
 have h1:(∀ v:AV,AV.beq v v=true)∧(∀ l:List AV,IT l l=true)∧(∀ l:List (List AV),I0 l l=true):=⟨AV.Mf,F4,Jh⟩
 cases b with
 | var l a=>simp [Blk.beq,h1.2.1]
 | arr s l a=>simp [Blk.beq,h1.2.2]
 | mp a=>
  have:∀ a:List (AV×AV),Jk a a=true:=by
   intro a
   induction a with
   | nil=>rfl
   | cons x r ih=>simp [Jk,h1.1,ih]
  simp [Blk.beq,this]
 | hole=>rfl
theorem GP:∀ (k:Nat) (T:AE),Ck k T T=[]
 | _,[]=>rfl
 | k,b::r=>by simp only [Ck,DW b,GP (k+1) r]
theorem GZ (k:Nat) (X Y:Blk) (T:AE) (x:Nat) (h:x∈Ck k (X::T) (Y::T)):x=k:=by
 simp only [Ck] at h
 split at h
 ·rw [GP] at h;cases h
 ·rw [GP] at h;simpa using h
theorem DI {X Y:Blk} {T:AE} {x:Nat} (hx:x≠0):(x∈Ck 0 (X::T) (Y::T))=False:=by
 refine eq_false fun h=>hx ?_
 exact GZ _ X Y T x h
theorem DJ {b0 X Y:Blk} {T:AE} {x:Nat} (hx:x≠1):(x∈Ck 0 (b0::X::T) (b0::Y::T))=False:=by
 refine eq_false fun h=>hx ?_
 simp only [Ck,DW] at h
 exact GZ _ X Y T x h
theorem DK {b0 b1 X Y:Blk} {T:AE} {x:Nat} (hx:x≠2):(x∈Ck 0 (b0::b1::X::T) (b0::b1::Y::T))=False:=by
 refine eq_false fun h=>hx ?_
 simp only [Ck,DW] at h
 exact GZ _ X Y T x h
theorem DL {b0 b1 b2 X Y:Blk} {T:AE} {x:Nat} (hx:x≠3):(x∈Ck 0 (b0::b1::b2::X::T) (b0::b1::b2::Y::T))=False:=by
 refine eq_false fun h=>hx ?_
 simp only [Ck,DW] at h
 exact GZ _ X Y T x h
theorem DM {b0 b1 b2 b3 X Y:Blk} {T:AE} {x:Nat} (hx:x≠4):(x∈Ck 0 (b0::b1::b2::b3::X::T) (b0::b1::b2::b3::Y::T))=False:=by
 refine eq_false fun h=>hx ?_
 simp only [Ck,DW] at h
 exact GZ _ X Y T x h
theorem DN {b0 b1 b2 b3 b4 X Y:Blk} {T:AE} {x:Nat} (hx:x≠5):(x∈Ck 0 (b0::b1::b2::b3::b4::X::T) (b0::b1::b2::b3::b4::Y::T))=False:=by
 refine eq_false fun h=>hx ?_
 simp only [Ck,DW] at h
 exact GZ _ X Y T x h
theorem DP {b0 b1 b2 b3 b4 b5 X Y:Blk} {T:AE} {x:Nat} (hx:x≠6):(x∈Ck 0 (b0::b1::b2::b3::b4::b5::X::T) (b0::b1::b2::b3::b4::b5::Y::T))=False:=by
 refine eq_false fun h=>hx ?_
 simp only [Ck,DW] at h
 exact GZ _ X Y T x h
end Go.Am
namespace Go.Am
open Go
def E3 (v:Option AV):Kd:=match v with
 | some (.hm id)=> .ld id
 | _=> .st
theorem SlR.E3 {α:Type} {R:α→List AV→Prop} {sz:Nat} {l:List α} {v:AV} (hv:SlR R sz l v):E3 (some v)=.st:=by
 rcases hv with ⟨_,rfl⟩ | ⟨_,_,rfl,_⟩ <;> rfl
section
variable (M:Par) (t:Tm) (h h':AE)
theorem ES (x):EX M t (.move x) h h'=.st:=rfl
theorem Cy (x):EX M t (.assign x) h h'=.st:=rfl
theorem ET (a b c):EX M t (.pick a b c) h h'=.st:=rfl
theorem Df (a b):EX M t (.build a b) h h'=.st:=rfl
theorem FC (a):EX M t (.nilCheck a) h h'=.st:=rfl
theorem FD (a b c d e):EX M t (.binOp a b c d e) h h'=.st:=rfl
theorem Ga (a b c):EX M t (.unOp a b c) h h'=.st:=rfl
theorem Dg (a b):EX M t (.makeInterface a b) h h'=.st:=rfl
theorem EU (a b c):EX M t (.makeFunc a b c) h h'=.st:=rfl
theorem Dh (a b c d e):EX M t (.slice a b c d e) h h'=.st:=rfl
theorem BU (a b c):EX M t (.fieldAddr a b c) h h'=.st:=rfl
theorem Di (a b c):EX M t (.field a b c) h h'=.st:=rfl
theorem BV (a b c):EX M t (.indexAddr a b c) h h'=.st:=rfl
theorem Dj (a b c):EX M t (.index a b c) h h'=.st:=rfl
theorem CP (a b):EX M t (.extract a b) h h'=.st:=rfl
theorem EV (a b):EX M t (.load a b) h h'=C8 (ev t b):=rfl
theorem Cz (a b c d):EX M t (.lookup a b c d) h h'=C8 (ev t b):=rfl
theorem FE (a b):EX M t (.call { callee:=.builtin .len,args:=a,argTypes:=b }) h h'=E3 ((a[0]?).bind (ev t)):=rfl
theorem FF (a b):EX M t (.call { callee:=.builtin .max,args:=a,argTypes:=b }) h h'=.st:=rfl
theorem FG (a b):EX M t (.call { callee:=.builtin .min,args:=a,argTypes:=b }) h h'=.st:=rfl
theorem C0 (a b):EX M t (.call { callee:=.builtin .append,args:=a,argTypes:=b }) h h'=.ch (Ck 0 h h'):=rfl
theorem Dk (f a b):EX M t (.call { callee:=.value f,args:=a,argTypes:=b }) h h'=(match ev t f,evs t a.toList with
  | some (.fn g fs cap),some vs=>(match (M.prim g).isSome||((M.mode g).fresh && !(M.mode g).keepTop&&(fs++vs++cap).all AV.AD) with
   | true=> .st
   | false=> .ch (Ck 0 h h'))
  | _,_=> .ch (Ck 0 h h')):=rfl
theorem Dl (a):EX M t (.alloc a) h h'=.ch [h.length]:=rfl
theorem FH (a b):EX M t (.box a b) h h'=.ch [h.length]:=rfl
theorem Gb (a b c):EX M t (.buildSlice a b c) h h'=(match Nat.beq h.length h'.length with | true=> .st | false=> .ch [h.length]):=rfl
theorem FI (a b):EX M t (.makeMap a b) h h'=.ch [h.length]:=rfl
theorem Gc (a b c):EX M t (.makeSlice a b c) h h'=.ch [h.length]:=rfl
theorem Gd (a b c):EX M t (.convert a b c) h h'=(match Nat.beq h.length h'.length with | true=> .st | false=> .ch [h.length]):=rfl
theorem Dm (a b c):EX M t (.store a b c) h h'=.ch (Ck 0 h h'):=rfl
theorem BW (a b c d):EX M t (.mapUpdate a b c d) h h'=.ch (Ck 0 h h'):=rfl
theorem C1 (a b c d):EX M t (.insert a b c d) h h'=.ch (Ck 0 h h'):=rfl
end
theorem CQ:E3 (some .AI)=.st:=rfl
theorem Dn (a b c):E3 (some (.sl a b c))=.st:=rfl
theorem Dp (a b c d e f):E3 (some (.hs a b c d e f))=.st:=rfl
theorem C2 (a):E3 (some (.str a))=.st:=rfl
end Go.Am
namespace Go.Proofs.Am12
open Go Go.Am
attribute [local simp] Dq B8 EL Dr CS Ds Dt Ee BT BP Bb Ap Fy Ez D9 Gn D1 A4 El EA Gp Gq xUn Ej D2 E0 BF C7 BG D3 BH D4 Cb CV Bx BE EB EK
 ev evs C3 C4 OR.ofV OR.DQ OR.ofC E6 Tm.get Tm.init Tm.only A2 A7 CF finish B6 Cm Gm Db D0 unA CA Bg CB Bh Cp Cq Cr Bi Cs Ct Bj Cu Cv Bk CC AP CJ Bf Cn Co B9 Ef Eg Eh Du Dv FM Fa Fb FN stA A3 DE B7 EX C8 Ek GH CD DA CG E1 GI
set_option maxHeartbeats 1000000
attribute [local simp] DH CU CM Bl DI DJ DK DL DM DN DP
abbrev Rec:=TyV→Int→Int×Int
def eFs (rec:Rec):List CO→Int→Int×Int
 | [],c=>(c,0)
 | f::r,c=>if (rec f.ty c).2=0 then eFs rec r (rec f.ty c).1 else rec f.ty c
def eCs (rec:Rec):List Bm→Int→Int×Int
 | [],c=>(c,0)
 | k::r,c=>if (eFs rec k.fields c).2=0 then eCs rec r (eFs rec k.fields c).1 else eFs rec k.fields c
def BM (t:TyV):TyV:=t.ps.getD 0 default
def DB (l:List AO) (r:Option Rec) (t:TyV) (c:Int):Int×Int:=
 if A1 t=false then (c+1,8) else if t.k=2 then (c+1,26) else if DF t=true∧(BM t).k≠2 then (c+1,26) else if DF t=true∧¬ (1≤(BM t).v∧(BM t).v≤16) then (c+1,25) else
 if 200<c+1 then (c+1,8) else match r with
  | none=>(c+1,8)
  | some rec=>if DF t=true then (c+1,0) else eCs rec (AQ l t) (c+1)
def DZ (l:List AO):Nat→Rec
 | 0=>DB l none
 | n+1=>DB l (some (DZ l n))
def VT (l:List AO) (t:TyV):Prop:=Ah l [] t=0
structure DOK (l:List AO):Prop where
 bit:∀ t,VT l t→DF t=true→t.ps.length=1
 has:∀ t,VT l t→t.k≠2→DF t=false→HasC l t
 fld:∀ t,VT l t→t.k≠2→DF t=false→∀ c∈AQ l t,∀ f∈c.fields,VT l f.ty
theorem Ev {b:Nat} {l:List AO} (hsl:SmL b l) {t:TyV} (hst:Sm b t) (h8:5<b):(AQ l t).length<b∧∀ c∈AQ l t,SmC b c:=by
 have hps:∀ p∈t.ps,Sm b p:=by cases t;exact hst.dest.2.2
 unfold AQ
 split
 ·exact ⟨by simp;omega,fun c hc=>by
   simp only [List.mem_cons,List.not_mem_nil,or_false] at hc
   rcases hc with rfl | rfl
   ·exact ⟨by simp [Bz];omega,by simp;omega,fun f hf=>by cases hf⟩
   ·exact ⟨by simp [DG];omega,by simp;omega,fun f hf=>by cases hf⟩⟩
 ·split
  ·rename_i i hf
   have hil:=F3 hf
   have hgd:l.getD i default=l[i]:=by simp [hil]
   rw [hgd]
   obtain ⟨s1,s2,s3,s4,s5⟩:=hsl.2 _ (List.getElem_mem hil)
   refine ⟨by simpa using s4,fun c hc => ?_⟩
   obtain ⟨c0,hc0,rfl⟩:=List.mem_map.1 hc
   obtain ⟨q1,q2,q3⟩:=s5 c0 hc0
   refine ⟨q1,by simpa [E2] using q2,fun f hf => ?_⟩
   obtain ⟨f0,hf0,rfl⟩:=List.mem_map.1 hf
   obtain ⟨r1,r2⟩:=q3 f0 hf0
   exact ⟨r1,WJ hps (by omega) _ r2⟩
  ·exact ⟨by simp;omega,fun c hc=>by cases hc⟩
def Iu (rec:Rec):Prop:=∀ t c,0≤c→c≤200→0≤(rec t c).1∧(rec t c).1≤201∧((rec t c).2=0→(rec t c).1≤200)
theorem Lp {rec:Rec} (hr:Iu rec):∀ (fs:List CO) c,0≤c→c≤200→0≤(eFs rec fs c).1∧(eFs rec fs c).1≤201∧((eFs rec fs c).2=0→(eFs rec fs c).1≤200)
 | [],c,h0,h1=>⟨h0,by simp [eFs];omega,fun _=>h1⟩
 | f::r,c,h0,h1=>by
  obtain ⟨a,b,d⟩:=hr f.ty c h0 h1
  simp only [eFs]
  split
  ·rename_i hz;exact Lp hr r _ a (d hz)
  ·exact ⟨a,b,d⟩
theorem Lq {rec:Rec} (hr:Iu rec):∀ (cs:List Bm) c,0≤c→c≤200→0≤(eCs rec cs c).1∧(eCs rec cs c).1≤201∧((eCs rec cs c).2=0→(eCs rec cs c).1≤200)
 | [],c,h0,h1=>⟨h0,by simp [eCs];omega,fun _=>h1⟩
 | f::r,c,h0,h1=>by
  obtain ⟨a,b,d⟩:=Lp hr f.fields c h0 h1
  simp only [eCs]
  split
  ·rename_i hz;exact Lq hr r _ a (d hz)
  ·exact ⟨a,b,d⟩
theorem Ju {l:List AO} {r:Option Rec} (hr:∀ rec,r=some rec→Iu rec):Iu (DB l r):=by
 intro t c h0 h1
 unfold DB
 split
 ·exact ⟨by simp;omega,by simp;omega,fun h=>by cases h⟩
 split
 ·exact ⟨by simp;omega,by simp;omega,fun h=>by cases h⟩
 split
 ·exact ⟨by simp;omega,by simp;omega,fun h=>by cases h⟩
 split
 ·exact ⟨by simp;omega,by simp;omega,fun h=>by cases h⟩
 split
 ·exact ⟨by simp;omega,by simp;omega,fun h=>by cases h⟩
 split
 ·exact ⟨by simp;omega,by simp;omega,fun h=>by cases h⟩
 split
 ·exact ⟨by simp;omega,by simp;omega,fun _=>by simp;omega⟩
 ·exact Lq (hr _ rfl) _ _ (by omega) (by omega)
theorem Ge (l:List AO):∀ n,Iu (DZ l n)
 | 0=>Ju fun rec h=>by cases h
 | n+1=>Ju fun rec h=>by cases h;exact Ge l n
theorem c154 {l:List AO} {lv:AV} (hl:SlR Ac 3 l lv) (hsl:SmL 1048577 l) (hok:DOK l):∀ (n:Nat),n≤40→∀ (t:TyV) (xs:List AV) (c e0:Int),AU t xs→Sm 1048577 t→VT l t→0≤c→c≤200→∀ h,
  AK MX (AH MX) 154 [lv,.agg xs,.agg [.int .i64 c,.int .i64 e0,.int .i64 (40 - n)]] h=some (.ret (.agg [.int .i64 (DZ l n t c).1,.int .i64 (DZ l n t c).2,.int .i64 (40 - n)]),h):=by
 intro n
 induction n with
 | zero=>
  intro _ t xs c e0 hx hst hv h0 h1 h
  have hn:([lv,AV.agg xs,.agg [.int .i64 c,.int .i64 e0,.int .i64 (40 - (0:Nat))]]:List AV).all AV.AD=true:=by simp [AV.AD,hx.AG,hl.AD,AG]
  have wc:wr .i64 (c+1)=c+1:=BD (by omega) (by omega)
  have hT:=c59 hx hst
  have hB:=c66 hx
  have hbit:=hok.bit t hv
  obtain ⟨D,hD⟩:∃ D:Int,D=40 - (0:Nat):=⟨_,rfl⟩
  rw [← hD] at hn ⊢
  have hd:40≤D:=by omega
  obtain ⟨pv,rfl,hp⟩:=hx.AY
  obtain ⟨hr,hc⟩:∃ hr,AN MX 154 [lv,.agg [.int .i64 t.k,.int .i64 t.v,.str t.nm,pv],.agg [.int .i64 c,.int .i64 e0,.int .i64 D]] []=some (.ret (.agg [.int .i64 (DZ l 0 t c).1,.int .i64 (DZ l 0 t c).2,.int .i64 D]),hr):=by
   simp only [DZ,DB]
   cases hT0:A1 t with
   | false=>exact ⟨_,by simp [AN,Tryz.f154,wc,hT,hT0,Cm] <;> rfl⟩
   | true=>
   by_cases h2:t.k=2
   ·have h2':(t.k == 2)=true:=by simp [h2]
    rw [if_neg (by simp),if_pos h2]
    exact ⟨_,by simp [AN,Tryz.f154,wc,hT,hT0,h2',Cm] <;> rfl⟩
   ·have h2':(t.k == 2)=false:=by simp [h2]
    cases hB0:DF t with
    | false=>
     by_cases h200:200<c+1
     ·exact ⟨_,by simp [AN,Tryz.f154,wc,hT,hT0,h2,h2',hB,hB0,h200,hd,Cm] <;> rfl⟩
     ·exact ⟨_,by simp [AN,Tryz.f154,wc,hT,hT0,h2,h2',hB,hB0,h200,hd,Cm] <;> rfl⟩
    | true=>
     have hb:=hbit hB0
     obtain ⟨e,he,hR⟩:=hp.ix (i:=0) (by omega)
     have hag:BM t=t.ps[0]'(by omega):=by simp [BM,hb]
     rw [← hag] at hR
     obtain ⟨qv,rfl,hq⟩:=hR.AY
     simp only [Int.natCast_zero] at he
     by_cases hk:(BM t).k=2
     ·have hk':((BM t).k != 2)=false:=by simp [hk]
      by_cases hw:1≤(BM t).v∧(BM t).v≤16
      ·by_cases h200:200<c+1
       ·exact ⟨_,by simp [AN,Tryz.f154,wc,hT,hT0,h2,h2',hB,hB0,he,hk,hk',hw,h200,hd,Cm] <;> rfl⟩
       ·exact ⟨_,by simp [AN,Tryz.f154,wc,hT,hT0,h2,h2',hB,hB0,he,hk,hk',hw,h200,hd,Cm] <;> rfl⟩
      ·exact ⟨_,by simp [AN,Tryz.f154,wc,hT,hT0,h2,h2',hB,hB0,he,hk,hk',hw,Cm] <;> rfl⟩
     ·have hk':((BM t).k != 2)=true:=by simp [hk]
      exact ⟨_,by simp [AN,Tryz.f154,wc,hT,hT0,h2,h2',hB,hB0,he,hk,hk',Cm] <;> rfl⟩
  exact Ae NU Px hn (by simp [AV.AD,AG]) hc h
 | succ n ih=>
  intro hn40 t xs c e0 hx hst hv h0 h1 h
  have hn:([lv,AV.agg xs,.agg [.int .i64 c,.int .i64 e0,.int .i64 (40 - (n+1:Nat))]]:List AV).all AV.AD=true:=by simp [AV.AD,hx.AG,hl.AD,AG]
  have wc:wr .i64 (c+1)=c+1:=BD (by omega) (by omega)
  have hT:=c59 hx hst
  have hB:=c66 hx
  have hbit:=hok.bit t hv
  have hd:¬ (40≤(40 - (n+1:Nat):Int)):=by omega
  have hd1:(40 - (n+1:Nat):Int)+1=40 - (n:Int):=by omega
  have wd:wr .i64 ((40 - (n+1:Nat):Int)+1)=40 - (n:Int):=by rw [hd1];exact BD (by omega) (by omega)
  have h68:=c68 hl hsl hx hst
  obtain ⟨D,hD⟩:∃ D:Int,D=40 - (n+1:Nat):=⟨_,rfl⟩
  rw [← hD] at hd wd hn ⊢
  have hcsm:=Ev hsl hst (by decide)
  obtain ⟨pv,rfl,hp⟩:=hx.AY
  obtain ⟨hr,hc⟩:∃ hr,AN MX 154 [lv,.agg [.int .i64 t.k,.int .i64 t.v,.str t.nm,pv],.agg [.int .i64 c,.int .i64 e0,.int .i64 D]] []=some (.ret (.agg [.int .i64 (DZ l (n+1) t c).1,.int .i64 (DZ l (n+1) t c).2,.int .i64 D]),hr):=by
   simp only [DZ,DB]
   cases hT0:A1 t with
   | false=>exact ⟨_,by simp [AN,Tryz.f154,wc,hT,hT0,Cm] <;> rfl⟩
   | true=>
   by_cases h2:t.k=2
   ·have h2':(t.k == 2)=true:=by simp [h2]
    rw [if_neg (by simp),if_pos h2]
    exact ⟨_,by simp [AN,Tryz.f154,wc,hT,hT0,h2',Cm] <;> rfl⟩
   ·have h2':(t.k == 2)=false:=by simp [h2]
    cases hB0:DF t with
    | true=>
     have hb:=hbit hB0
     obtain ⟨e,he,hR⟩:=hp.ix (i:=0) (by omega)
     have hag:BM t=t.ps[0]'(by omega):=by simp [BM,hb]
     rw [← hag] at hR
     obtain ⟨qv,rfl,hq⟩:=hR.AY
     simp only [Int.natCast_zero] at he
     by_cases hk:(BM t).k=2
     ·have hk':((BM t).k != 2)=false:=by simp [hk]
      by_cases hw:1≤(BM t).v∧(BM t).v≤16
      ·by_cases h200:200<c+1
       ·exact ⟨_,by simp [AN,Tryz.f154,wc,hT,hT0,h2,h2',hB,hB0,he,hk,hk',hw,h200,Cm] <;> rfl⟩
       ·exact ⟨_,by simp [AN,Tryz.f154,wc,hT,hT0,h2,h2',hB,hB0,he,hk,hk',hw,h200,hd,Cm] <;> rfl⟩
      ·exact ⟨_,by simp [AN,Tryz.f154,wc,hT,hT0,h2,h2',hB,hB0,he,hk,hk',hw,Cm] <;> rfl⟩
     ·have hk':((BM t).k != 2)=true:=by simp [hk]
      exact ⟨_,by simp [AN,Tryz.f154,wc,hT,hT0,h2,h2',hB,hB0,he,hk,hk',Cm] <;> rfl⟩
    | false=>
     by_cases h200:200<c+1
     ·exact ⟨_,by simp [AN,Tryz.f154,wc,hT,hT0,h2,h2',hB,hB0,h200,Cm] <;> rfl⟩
     ·obtain ⟨w,hw,h68'⟩:=h68 (hok.has t hv h2 hB0)
      have hvf:=hok.fld t hv h2 hB0
      have hR:=Ge l n
      have hb23:=Oy
      simp [BK,Be,Tryz.f154] at hb23
      have hb24:=Oz
      simp [BK,Be,Tryz.f154] at hb24
      -- all constructors
      obtain ⟨e,st,hlp,hq⟩:=AR (M:=MX) (fid:=154) (N:=113) (C:=AH MX) (c:=AP Tryz.f154 0) (n:=(AQ l t).length)
       (fun i (b:Int×AE)=>([(0,lv),(6,.hp 2 0),(7,.hp 3 0),(8,w),(9,.int .i64 i)],Blk.var false [AV.int .i64 t.k,AV.int .i64 t.v,AV.str t.nm,pv]::Blk.var false [AV.int .i64 c,AV.int .i64 e0,AV.int .i64 D]::Blk.var false [AV.int .i64 0,AV.int .i64 0,AV.int .i64 0]::Blk.var false [AV.int .i64 b.1,AV.int .i64 0,AV.int .i64 D]::b.2))
       (fun i b=>0≤b.1∧b.1≤200∧eCs (DZ l n) (AQ l t) (c+1)=eCs (DZ l n) ((AQ l t).drop i) b.1)
       (fun r=>∃ b:Int×AE,(r=(.ext 0,([(0,lv),(6,.hp 2 0),(7,.hp 3 0),(8,w),(9,.int .i64 (AQ l t).length),(72,.bool false)],Blk.var false [AV.int .i64 t.k,AV.int .i64 t.v,AV.str t.nm,pv]::Blk.var false [AV.int .i64 c,AV.int .i64 e0,AV.int .i64 D]::Blk.var false [AV.int .i64 0,AV.int .i64 0,AV.int .i64 0]::Blk.var false [AV.int .i64 b.1,AV.int .i64 0,AV.int .i64 D]::b.2))∧eCs (DZ l n) (AQ l t) (c+1)=(b.1,0)) ∨
         (r=(.ret,([(6,.hp 2 0)],Blk.var false [AV.int .i64 t.k,AV.int .i64 t.v,AV.str t.nm,pv]::Blk.var false [AV.int .i64 c,AV.int .i64 e0,AV.int .i64 D]::Blk.var false [AV.int .i64 (eCs (DZ l n) (AQ l t) (c+1)).1,AV.int .i64 (eCs (DZ l n) (AQ l t) (c+1)).2,AV.int .i64 D]::b.2)))) (fun i b hi hI=>by
         obtain ⟨cc,G⟩:=b
         obtain ⟨i0,i1,i2⟩:=hI
         simp only at i0 i1 i2
         obtain ⟨ce,hce,hcR⟩:=hw.ix hi
         have hi':=Aa hi
         have hwi:=AZ hi hcsm.1
         have hsc:=hcsm.2 _ (List.getElem_mem hi)
         obtain ⟨fv,rfl,hfv⟩:=hcR.dest
         have hdr:(AQ l t).drop i=(AQ l t)[i]::(AQ l t).drop (i+1):=List.drop_eq_getElem_cons hi
         rw [hdr] at i2
         simp only [eCs] at i2
         obtain ⟨e2,st2,hlp2,hq2⟩:=AR (M:=MX) (fid:=154) (N:=113) (C:=AH MX) (c:=AP Tryz.f154 1) (n:=(AQ l t)[i].fields.length)
          (fun j (b:Int×AE)=>([(0,lv),(6,.hp 2 0),(7,.hp 3 0),(8,w),(9,.int .i64 i),(10,.int .i64 j)],Blk.var false [AV.int .i64 t.k,AV.int .i64 t.v,AV.str t.nm,pv]::Blk.var false [AV.int .i64 c,AV.int .i64 e0,AV.int .i64 D]::Blk.var false [AV.int .i64 0,AV.int .i64 0,AV.int .i64 0]::Blk.var false [AV.int .i64 b.1,AV.int .i64 0,AV.int .i64 D]::b.2))
          (fun j b=>0≤b.1∧b.1≤200∧eFs (DZ l n) (AQ l t)[i].fields cc=eFs (DZ l n) ((AQ l t)[i].fields.drop j) b.1)
          (fun r=>∃ b:Int×AE,(r=(.ext 2,([(0,lv),(6,.hp 2 0),(7,.hp 3 0),(8,w),(9,.int .i64 i),(10,.int .i64 (AQ l t)[i].fields.length),(82,.bool false)],Blk.var false [AV.int .i64 t.k,AV.int .i64 t.v,AV.str t.nm,pv]::Blk.var false [AV.int .i64 c,AV.int .i64 e0,AV.int .i64 D]::Blk.var false [AV.int .i64 0,AV.int .i64 0,AV.int .i64 0]::Blk.var false [AV.int .i64 b.1,AV.int .i64 0,AV.int .i64 D]::b.2))∧eFs (DZ l n) (AQ l t)[i].fields cc=(b.1,0)∧0≤b.1∧b.1≤200) ∨
            (r=(.ret,([(6,.hp 2 0)],Blk.var false [AV.int .i64 t.k,AV.int .i64 t.v,AV.str t.nm,pv]::Blk.var false [AV.int .i64 c,AV.int .i64 e0,AV.int .i64 D]::Blk.var false [AV.int .i64 (eFs (DZ l n) (AQ l t)[i].fields cc).1,AV.int .i64 (eFs (DZ l n) (AQ l t)[i].fields cc).2,AV.int .i64 D]::b.2))∧(eFs (DZ l n) (AQ l t)[i].fields cc).2≠0)) (fun j b hj hJ=>by
            obtain ⟨cf,G'⟩:=b
            obtain ⟨j0,j1,j2⟩:=hJ
            simp only at j0 j1 j2
            obtain ⟨fe,hfe,hfR⟩:=hfv.ix hj
            have hj':=Aa hj
            have hwj:=AZ hj hsc.2.1
            have hmf:=List.getElem_mem hj
            obtain ⟨tx,rfl,htx⟩:=hfR
            have hrec:=ih (by omega) (AQ l t)[i].fields[j].ty tx cf 0 htx (hsc.2.2 _ hmf).2 (hvf _ (List.getElem_mem hi) _ hmf) j0 j1
            obtain ⟨r1,r2,r3⟩:=hR (AQ l t)[i].fields[j].ty cf j0 j1
            obtain ⟨qv,rfl,hqv⟩:=htx.AY
            have hdr2:(AQ l t)[i].fields.drop j=(AQ l t)[i].fields[j]::(AQ l t)[i].fields.drop (j+1):=List.drop_eq_getElem_cons hj
            rw [hdr2] at j2
            simp only [eFs] at j2
            by_cases hz:(DZ l n (AQ l t)[i].fields[j].ty cf).2=0
            ·rw [if_pos hz] at j2
             exact .inl ⟨((DZ l n (AQ l t)[i].fields[j].ty cf).1,G'++[Blk.var false [AV.int .i64 (DZ l n (AQ l t)[i].fields[j].ty cf).1,AV.int .i64 0,AV.int .i64 (40 - n)]]),by simp [Tryz.f154,hw.len,hi',hce,hfv.len,hj',hfe,wd,hrec,hz,hwj,hb23,hb24,AG,AV.AD,hl.AD,hqv.AD],r1,r3 hz,j2⟩
            ·rw [if_neg hz] at j2
             have hne:((DZ l n (AQ l t)[i].fields[j].ty cf).2 != 0)=true:=by simp [hz]
             exact .inr ⟨_,_,by simp [Tryz.f154,hw.len,hi',hce,hfv.len,hj',hfe,wd,hrec,hne,hb23,hb24,AG,AV.AD,hl.AD,hqv.AD] <;> first | exact ⟨rfl,rfl⟩ | rfl,by simp,(0,_),.inr ⟨by rw [j2],by rw [j2];exact hz⟩⟩) (fun b hJ=>by
            obtain ⟨cf,G'⟩:=b
            obtain ⟨j0,j1,j2⟩:=hJ
            rw [List.drop_length] at j2
            exact ⟨_,_,by simp [Tryz.f154,hw.len,hi',hce,hfv.len] <;> first | exact ⟨rfl,rfl⟩ | rfl,by simp,(cf,G'),.inl ⟨rfl,j2,j0,j1⟩⟩) (cc,G) ⟨i0,i1,by simp⟩
         simp [Tryz.f154] at hlp2
         obtain ⟨⟨cf,G'⟩,hq2⟩:=hq2
         rcases hq2 with ⟨hq2,hF,f0,f1⟩ | ⟨hq2,hF⟩ <;> cases hq2
         ·rw [hF] at i2
          exact .inl ⟨(cf,G'),by simp [Tryz.f154,hw.len,hi',hlp2,hwi],f0,f1,by simpa using i2⟩
         ·rw [if_neg hF] at i2
          exact .inr ⟨_,_,by simp [Tryz.f154,hw.len,hi',hlp2] <;> first | exact ⟨rfl,rfl⟩ | rfl,by simp,(0,_),.inr (by rw [i2])⟩) (fun b hI=>by
         obtain ⟨cc,G⟩:=b
         obtain ⟨i0,i1,i2⟩:=hI
         rw [List.drop_length] at i2
         exact ⟨_,_,by simp [Tryz.f154,hw.len] <;> first | exact ⟨rfl,rfl⟩ | rfl,by simp,(cc,G),.inl ⟨rfl,i2⟩⟩) (c+1,[]) ⟨by simp;omega,by simp;omega,by simp⟩
      simp [Tryz.f154] at hlp
      obtain ⟨⟨cc,G⟩,hq⟩:=hq
      rcases hq with ⟨hq,hC⟩ | hq <;> cases hq
      ·exact ⟨_,by simp [AN,Tryz.f154,wc,hT,hT0,h2,h2',hB,hB0,h200,hd,h68',hlp,hC,Cm] <;> rfl⟩
      ·exact ⟨_,by simp [AN,Tryz.f154,wc,hT,hT0,h2,h2',hB,hB0,h200,hd,h68',hlp,Cm] <;> rfl⟩
  exact Ae NU Px hn (by simp [AV.AD,AG]) hc h
inductive Sh where
 | bit (n:Int)
 | cons (ns:List Bytes) (ss:List (List Sh))
 deriving Inhabited
theorem Sh.ind {P:Sh→Prop} (hb:∀ n,P (.bit n)) (hc:∀ ns ss,(∀ s∈ss,∀ x∈s,P x)→P (.cons ns ss)) (s:Sh):P s:=
 Sh.rec (motive_1:=P) (motive_2:=fun ss=>∀ s∈ss,∀ x∈s,P x) (motive_3:=fun s=>∀ x∈s,P x) (fun n=>hb n) (fun ns ss ih=>hc ns ss ih)
  (fun s hs=>by cases hs) (fun a r ha hr s hs=>by
    rcases List.mem_cons.1 hs with rfl | hs
    ·exact ha
    ·exact hr s hs) (fun x hx=>by cases hx) (fun a r ha hr x hx=>by
    rcases List.mem_cons.1 hx with rfl | hx
    ·exact ha
    ·exact hr x hx) s
inductive Cw (l:List AO):TyV→Sh→Prop where
 | bit (t:TyV) (hb:DF t=true) (hw:1≤(BM t).v∧(BM t).v≤16) (h2:(BM t).k=2):Cw l t (.bit (BM t).v)
 | cons (t:TyV) (ns:List Bytes) (ss:List (List Sh)) (hb:DF t=false) (hk:t.k≠2) (hn:ns=(AQ l t).map (·.nm)) (hl:ss.length=(AQ l t).length)
   (hs:∀ (i:Nat) c s,(AQ l t)[i]? = some c→ss[i]? = some s→s.length=c.fields.length)
   (hf:∀ (i:Nat) c s (j:Nat) f y,(AQ l t)[i]? = some c→ss[i]? = some s→c.fields[j]? = some f→s[j]? = some y→Cw l f.ty y):Cw l t (.cons ns ss)
theorem Cw.unique {l:List AO} {t:TyV} {s:Sh} (h:Cw l t s):∀ s',Cw l t s'→s=s':=by
 induction h with
 | bit t hb hw h2=>
  intro s' h'
  cases h' with
  | bit _ _ _ _=>rfl
  | cons _ _ _ hb'=>rw [hb] at hb';cases hb'
 | cons t ns ss hb hk hn hl hs hf ih=>
  intro s' h'
  cases h' with
  | bit _ hb' _=>rw [hb] at hb';cases hb'
  | cons _ ns' ss' hb' hk' hn' hl' hs' hf'=>
   have e1:ns=ns':=by rw [hn,hn']
   have e2:ss=ss':=by
    apply List.ext_getElem (by rw [hl,hl'])
    intro i h1 h2
    have hc:(AQ l t)[i]? = some ((AQ l t)[i]'(by omega)):=List.getElem?_eq_getElem _
    have a1:=hs i _ _ hc (List.getElem?_eq_getElem h1)
    have b1:=hs' i _ _ hc (List.getElem?_eq_getElem h2)
    apply List.ext_getElem (by rw [a1,b1])
    intro j g1 g2
    exact ih i _ _ j _ _ hc (List.getElem?_eq_getElem h1) (List.getElem?_eq_getElem (by omega)) (List.getElem?_eq_getElem g1) _ (hf' i _ _ j _ _ hc (List.getElem?_eq_getElem h2) (List.getElem?_eq_getElem (by omega)) (List.getElem?_eq_getElem g2))
   rw [e1,e2]
theorem Tf {l:List AO} {rec:Rec} (hr:∀ t c,(rec t c).2=0→∃ s,Cw l t s):∀ (fs:List CO) c,(eFs rec fs c).2=0→∃ ss:List Sh,ss.length=fs.length∧∀ (j:Nat) f y,fs[j]? = some f→ss[j]? = some y→Cw l f.ty y
 | [],_,_=>⟨[],rfl,fun j f y h=>by simp at h⟩
 | f::r,c,h=>by
  simp only [eFs] at h
  split at h
  ·rename_i hz
   obtain ⟨s,hs⟩:=hr f.ty c hz
   obtain ⟨ss,h1,h2⟩:=Tf hr r _ h
   refine ⟨s::ss,by simp [h1],fun j f' y g1 g2 => ?_⟩
   cases j with
   | zero=>simp at g1 g2;exact g1 ▸ g2 ▸ hs
   | succ j=>exact h2 j f' y (by simpa using g1) (by simpa using g2)
  ·rename_i hz;exact absurd h hz
theorem Tg {l:List AO} {rec:Rec} (hr:∀ t c,(rec t c).2=0→∃ s,Cw l t s):∀ (cs:List Bm) c,(eCs rec cs c).2=0→∃ ss:List (List Sh),ss.length=cs.length∧∀ (i:Nat) k s,cs[i]? = some k→ss[i]? = some s→s.length=k.fields.length∧∀ (j:Nat) f y,k.fields[j]? = some f→s[j]? = some y→Cw l f.ty y
 | [],_,_=>⟨[],rfl,fun j f y h=>by simp at h⟩
 | k::r,c,h=>by
  simp only [eCs] at h
  split at h
  ·rename_i hz
   obtain ⟨s,hs1,hs2⟩:=Tf hr k.fields c hz
   obtain ⟨ss,h1,h2⟩:=Tg hr r _ h
   refine ⟨s::ss,by simp [h1],fun j f' y g1 g2 => ?_⟩
   cases j with
   | zero=>simp at g1 g2;subst g1;subst g2;exact ⟨hs1,hs2⟩
   | succ j=>exact h2 j f' y (by simpa using g1) (by simpa using g2)
  ·rename_i hz;exact absurd h hz
theorem No {l:List AO} {r:Option Rec} (hr:∀ rec,r=some rec→∀ t c,(rec t c).2=0→∃ s,Cw l t s) (t:TyV) (c:Int) (h:(DB l r t c).2=0):∃ s,Cw l t s:=by
 unfold DB at h
 split at h
 ·cases h
 split at h
 ·cases h
 rename_i h2
 split at h
 ·cases h
 rename_i h2'
 split at h
 ·cases h
 rename_i h3'
 split at h
 ·cases h
 split at h
 ·cases h
 split at h
 ·rename_i hb;exact ⟨_,.bit t hb (by
   by_cases hw:1≤(BM t).v∧(BM t).v≤16
   ·exact hw
   ·exact absurd ⟨hb,hw⟩ h3') (Decidable.byContradiction fun h=>h2' ⟨hb,h⟩)⟩
 ·rename_i hb
  obtain ⟨ss,h3,h4⟩:=Tg (hr _ rfl) _ _ h
  exact ⟨_,.cons t _ ss (by simpa using hb) h2 rfl h3 (fun i c s g1 g2=>(h4 i c s g1 g2).1) (fun i c s j f y g1 g2 g3 g4=>(h4 i c s g1 g2).2 j f y g3 g4)⟩
theorem IJ (l:List AO):∀ n t c,(DZ l n t c).2=0→∃ s,Cw l t s
 | 0=>No fun rec h=>by cases h
 | n+1=>No fun rec h=>by cases h;exact IJ l n
open Classical in
noncomputable def CY (l:List AO) (t:TyV):Sh:=if h:∃ s,Cw l t s then Classical.choose h else .bit 0
theorem HV {l:List AO} {t:TyV} {s:Sh} (h:Cw l t s):CY l t=s:=by
 have hx:∃ s,Cw l t s:=⟨s,h⟩
 unfold CY
 rw [dif_pos hx]
 exact (Classical.choose_spec hx).unique _ h
def JO (n:Nat):Int:=if n≤1 then 0 else if n≤2 then 1 else if n≤4 then 2 else if n≤8 then 3 else 4
theorem tags:(List.range 17).all (fun n=>match C9 MX 20 73 [.int .i64 n] [] with
  | some (.ret (.int .i64 m),[])=>decide (m=JO n)
  | _=>false)=true:=by kernel_rfl
theorem pureC {f:FuncId} {args:List AV} {v:AV} {hr:AE} (hm:MX.mode f = { fresh:=true }) (ha:args.all AV.AD=true) (hv:v.AD=true) (hc:AH MX f args []=some (.ret v,hr)) (h:AE) :
  AK MX (AH MX) f args h=some (.ret v,h):=by
 have hs:∀ {l:List AV} {h:AE},l.all AV.AD=true→Ax l h=some (l,h):=by
  intro l
  induction l with
  | nil=>intro h _;rfl
  | cons a r ih=>
   intro h hn
   simp only [List.all_cons,Bool.and_eq_true] at hn
   simp only [Ax,hn.1,ih hn.2]
 unfold AK
 simp only [hm,hs ha,ha,hc,Bw,hv]
theorem c73 (n:Nat) (hn:n≤16) (h:AE):AK MX (AH MX) 73 [.int .i64 n] h=some (.ret (.int .i64 (JO n)),h):=by
 have h1:=List.all_eq_true.1 tags n (by simp;omega)
 split at h1
 ·rename_i m hm
  have:=of_decide_eq_true h1
  subst this
  exact pureC U9 rfl rfl (Fm.2 ⟨20,hm⟩) h
 ·cases h1
theorem Kt (T:Ty) (ts:List TypeId) (k k':IntKind) (x y:Int) (h:AE):Ad T .max ts [.int k x,.int k' y] h=some (.val (.int k (if y > x then y else x)) h):=rfl
def J1 (a b:Int):Int:=wr .i64 (a+b)
mutual
def shW:Sh→Int
 | .bit n=>n
 | .cons _ ss=>J1 (JO ss.length) (Ei ss 0)
def Ei:List (List Sh)→Int→Int
 | [],m=>m
 | s::r,m=>Ei r (if Fq s 0 > m then Fq s 0 else m)
def Fq:List Sh→Int→Int
 | [],a=>a
 | s::r,a=>Fq r (J1 a (shW s))
end
theorem Lr {s:List Sh} {j:Nat} (hj:j<s.length) (a:Int):Fq (s.drop j) a=Fq (s.drop (j+1)) (J1 a (shW s[j])):=by
 rw [List.drop_eq_getElem_cons hj];simp only [Fq]
theorem Jv {ss:List (List Sh)} {j:Nat} (hj:j<ss.length) (m:Int):Ei (ss.drop j) m=Ei (ss.drop (j+1)) (if Fq ss[j] 0 > m then Fq ss[j] 0 else m):=by
 rw [List.drop_eq_getElem_cons hj];simp only [Ei]
section
variable {l:List AO} {lv:AV} (hl:SlR Ac 3 l lv) (hsl:SmL 1048577 l) (hok:DOK l) (hlen:∀ t,VT l t→t.k≠2→DF t=false→(AQ l t).length≤16)
include hl hsl hok hlen
theorem c26 (s:Sh):∀ (t:TyV) (xs:List AV),AU t xs→Sm 1048577 t→VT l t→Cw l t s→∀ h,AK MX (AH MX) 26 [lv,.agg xs] h=some (.ret (.int .i64 (shW s)),h):=by
 induction s using Sh.ind with
 | hb n=>
  intro t xs hx hst hv hs h
  have hn:([lv,AV.agg xs]:List AV).all AV.AD=true:=by simp [AV.AD,hx.AG,hl.AD]
  have hB:=c66 hx
  obtain ⟨pv,rfl,hp⟩:=hx.AY
  cases hs with
  | bit _ hb _=>
   have hb1:=hok.bit t hv hb
   obtain ⟨e,he,hR⟩:=hp.ix (i:=0) (by omega)
   have hag:BM t=t.ps[0]'(by omega):=by simp [BM,hb1]
   rw [← hag] at hR
   obtain ⟨qv,rfl,hq⟩:=hR.AY
   simp only [Int.natCast_zero] at he
   exact Ae MR Oi hn rfl (hr:=[Blk.var false [AV.int .i64 t.k,AV.int .i64 t.v,AV.str t.nm,pv]]) (by simp [AN,Tryz.f26,hB,hb,he,shW]) h
 | hc ns ss ih=>
  intro t xs hx hst hv hs h
  cases hs with
  | cons _ _ _ hb hk hnn hll hs0 hf0=>
  have hn:([lv,AV.agg xs]:List AV).all AV.AD=true:=by simp [AV.AD,hx.AG,hl.AD]
  have hB:=c66 hx
  obtain ⟨w,hw,h68⟩:=c68 hl hsl hx hst (hok.has t hv hk hb)
  have hcsm:=Ev hsl hst (by decide)
  have hvf:=hok.fld t hv hk hb
  have h16:=hlen t hv hk hb
  have hT:=c73 (AQ l t).length h16
  -- a constructor
  have h122:∀ (i:Nat) (hi:i<(AQ l t).length) (hi2:i<ss.length) (cx:List AV),DR (AQ l t)[i] cx→∀ h,AK MX (AH MX) 122 [lv,.agg cx] h=some (.ret (.int .i64 (Fq ss[i] 0)),h):=by
   intro i hi hi2 cx hcx h
   have hn2:([lv,AV.agg cx]:List AV).all AV.AD=true:=by simp [AV.AD,Fv _ _ hcx,hl.AD]
   obtain ⟨fv,rfl,hfv⟩:=hcx.dest
   have f1:=hs0 i _ _ (List.getElem?_eq_getElem hi) (List.getElem?_eq_getElem hi2)
   have f2:=fun j f y=>hf0 i _ _ j f y (List.getElem?_eq_getElem hi) (List.getElem?_eq_getElem hi2)
   have hsc:=hcsm.2 _ (List.getElem_mem hi)
   obtain ⟨e,st,hlp,hq⟩:=AR (M:=MX) (fid:=122) (N:=25) (C:=AH MX) (c:=AP Tryz.f122 0) (n:=(AQ l t)[i].fields.length)
    (fun j (b:Int)=>([(0,lv),(3,.hp 0 0),(5,.int .i64 b),(6,.int .i64 j)],[Blk.var false [AV.str (AQ l t)[i].nm,fv]]))
    (fun j b=>Fq ss[i] 0=Fq (ss[i].drop j) b)
    (fun r=>r=(.ext 0,([(0,lv),(3,.hp 0 0),(5,.int .i64 (Fq ss[i] 0)),(6,.int .i64 (AQ l t)[i].fields.length),(11,.bool false)],[Blk.var false [AV.str (AQ l t)[i].nm,fv]]))) (fun j b hj hJ=>by
      obtain ⟨fe,hfe,hfR⟩:=hfv.ix hj
      have hj':=Aa hj
      have hwj:=AZ hj hsc.2.1
      have hmf:=List.getElem_mem hj
      have hjs:j<ss[i].length:=by omega
      obtain ⟨tx,rfl,htx⟩:=hfR
      have hrec:=ih ss[i] (List.getElem_mem hi2) ss[i][j] (List.getElem_mem hjs) (AQ l t)[i].fields[j].ty tx htx (hsc.2.2 _ hmf).2 (hvf _ (List.getElem_mem hi) _ hmf) (f2 j _ _ (List.getElem?_eq_getElem hj) (List.getElem?_eq_getElem hjs))
      obtain ⟨qv,rfl,hqv⟩:=htx.AY
      rw [Lr hjs] at hJ
      exact .inl ⟨J1 b (shW ss[i][j]),by simp [Tryz.f122,hfv.len,hj',hfe,hrec,hwj,J1],hJ⟩) (fun b hJ=>by
      rw [List.drop_of_length_le (by omega)] at hJ
      simp only [Fq] at hJ
      exact ⟨_,_,by simp [Tryz.f122,hfv.len] <;> first | exact ⟨rfl,rfl⟩ | rfl,by simp,by rw [hJ]⟩) 0 (by simp)
   cases hq
   simp [Tryz.f122] at hlp
   exact Ae Sd VX hn2 rfl (hr:=[Blk.var false [AV.str (AQ l t)[i].nm,fv]]) (by simp [AN,Tryz.f122,hlp]) h
  obtain ⟨pv,rfl,hp⟩:=hx.AY
  -- the room
  have h74:∀ h,AK MX (AH MX) 74 [lv,.agg [.int .i64 t.k,.int .i64 t.v,.str t.nm,pv]] h=some (.ret (.int .i64 (Ei ss 0)),h):=by
   intro h
   obtain ⟨e,st,hlp,hq⟩:=AR (M:=MX) (fid:=74) (N:=26) (C:=AH MX) (c:=AP Tryz.f74 0) (n:=(AQ l t).length)
    (fun i (b:Int)=>([(0,lv),(5,w),(6,.int .i64 b),(7,.int .i64 i)],[Blk.var false [AV.int .i64 t.k,AV.int .i64 t.v,AV.str t.nm,pv]]))
    (fun i b=>Ei ss 0=Ei (ss.drop i) b)
    (fun r=>r=(.ext 0,([(0,lv),(5,w),(6,.int .i64 (Ei ss 0)),(7,.int .i64 (AQ l t).length),(14,.bool false)],[Blk.var false [AV.int .i64 t.k,AV.int .i64 t.v,AV.str t.nm,pv]]))) (fun i b hi hI=>by
      obtain ⟨ce,hce,hcR⟩:=hw.ix hi
      have hi':=Aa hi
      have hwi:=AZ hi hcsm.1
      have hi2:i<ss.length:=by omega
      have hW:=h122 i hi hi2 ce hcR
      obtain ⟨fv,rfl,hfv⟩:=hcR.dest
      rw [Jv hi2] at hI
      exact .inl ⟨if Fq ss[i] 0 > b then Fq ss[i] 0 else b,by simp [Tryz.f74,hw.len,hi',hce,hW,hwi,Kt],hI⟩) (fun b hI=>by
      rw [List.drop_of_length_le (by omega)] at hI
      simp only [Ei] at hI
      exact ⟨_,_,by simp [Tryz.f74,hw.len] <;> first | exact ⟨rfl,rfl⟩ | rfl,by simp,by rw [hI]⟩) 0 (by simp)
   cases hq
   simp [Tryz.f74] at hlp
   exact Ae VA X5 hn rfl (hr:=[Blk.var false [AV.int .i64 t.k,AV.int .i64 t.v,AV.str t.nm,pv]]) (by simp [AN,Tryz.f74,h68,hlp]) h
  have hw2:=hw
  rcases hw2 with ⟨he,rfl⟩ | ⟨ex,es,rfl,hes,_⟩
  ·rw [he] at hT
   have hs0:ss.length=0:=by rw [hll,he];rfl
   exact Ae MR Oi hn rfl (hr:=[Blk.var false [AV.int .i64 t.k,AV.int .i64 t.v,AV.str t.nm,pv]]) (by simp at hT;simp [AN,Tryz.f26,hB,hb,h68,hT,h74,shW,J1,hs0,AG,AV.AD,hl.AD,hp.AD]) h
  ·exact Ae MR Oi hn rfl (hr:=[Blk.var false [AV.int .i64 t.k,AV.int .i64 t.v,AV.str t.nm,pv]]) (by simp [AN,Tryz.f26,hB,hb,h68,hes,hT,h74,shW,J1,hll,AG,AV.AD,hl.AD,hp.AD]) h
noncomputable def FU (l:List AO) (t:TyV):Int:=if BZ l [] t=0 then (if (DZ l 40 t 0).2=0 then (if 1≤shW (CY l t)∧shW (CY l t)≤16 then 0 else 25) else (DZ l 40 t 0).2) else BZ l [] t
theorem c85 {t:TyV} {xs:List AV} (hx:AU t xs) (hst:Sm 1048577 t) (h:AE):AK MX (AH MX) 85 [lv,.agg xs] h=some (.ret (.int .i64 (FU l t)),h):=by
 have hn:([lv,AV.agg xs]:List AV).all AV.AD=true:=by simp [AV.AD,hx.AG,hl.AD]
 have h153:=c153 hl hsl.1 (params:=[]) (pr:=.AI) (.inl ⟨rfl,rfl⟩) (by decide) (fun d hd=>(hsl.2 d hd).2.1) hx hst
 have h154:=fun hv=>c154 hl hsl hok 40 (by decide) t xs 0 0 hx hst hv (by decide) (by decide)
 have h26:=fun s=>c26 hl hsl hok hlen s t xs hx hst
 obtain ⟨pv,rfl,hp⟩:=hx.AY
 obtain ⟨hr,hc⟩:∃ hr,AN MX 85 [lv,.agg [.int .i64 t.k,.int .i64 t.v,.str t.nm,pv]] []=some (.ret (.int .i64 (FU l t)),hr):=by
  unfold FU
  by_cases h1:BZ l [] t=0
  ·have hv:VT l t:=by
    unfold BZ at h1
    split at h1
    ·exact h1
    ·cases h1
   have e154:=h154 hv
   rw [show (40:Int) - ((40:Nat):Int)=0 by decide] at e154
   by_cases h2:(DZ l 40 t 0).2=0
   ·obtain ⟨s,hs⟩:=IJ l 40 t 0 h2
    have e26:=h26 s hv hs
    rw [HV hs]
    by_cases h3:1≤shW s∧shW s≤16
    ·exact ⟨_,by simp [AN,Tryz.f85,h153,h1,e154,h2,e26,h3] <;> rfl⟩
    ·exact ⟨_,by simp [AN,Tryz.f85,h153,h1,e154,h2,e26,h3] <;> rfl⟩
   ·have h2':((DZ l 40 t 0).2 != 0)=true:=by simp [h2]
    exact ⟨_,by simp [AN,Tryz.f85,h153,h1,e154,h2,h2'] <;> rfl⟩
  ·have h1':(BZ l [] t != 0)=true:=by simp [h1]
   exact ⟨_,by simp [AN,Tryz.f85,h153,h1,h1'] <;> rfl⟩
 exact Ae VD X8 hn rfl hc h
end
end Go.Proofs.Am12
namespace Go.Proofs.Am12
open Go Go.Am
attribute [local simp] Dq B8 EL Dr CS Ds Dt Ee BT BP Bb Ap Fy Ez D9 Gn D1 A4 El EA Gp Gq xUn Ej D2 E0 BF C7 BG D3 BH D4 Cb CV Bx BE EB EK
 ev evs C3 C4 OR.ofV OR.DQ OR.ofC E6 Tm.get Tm.init Tm.only A2 A7 CF finish B6 Cm Gm Db D0 unA CA Bg CB Bh Cp Cq Cr Bi Cs Ct Bj Cu Cv Bk CC AP CJ Bf Cn Co B9 Ef Eg Eh Du Dv FM Fa Fb FN stA A3 DE B7 C8 Ek GH CD DA CG E1 GI
set_option maxHeartbeats 1000000
attribute [local simp] DH CU CM Bl DI DJ DK DL DM DN DP ES Cy ET Df FC FD Ga Dg EU Dh BU Di BV Dj CP EV Cz FE FF FG C0 Dk Dl FH Gb FI Gc Gd Dm BW C1 CQ Dn Dp C2
mutual
def Ch (s:Sh):TyV→Int
 | .mk k v nm ps=>
  if k=0 then (if 0<ps.length then 10 else 0)
  else if k=1 then (if 0<ps.length then 10 else if A6 nm=false then 4 else 0)
  else if k=3 then (match s with
   | .bit n=>if 0<ps.length then 10 else if 0≤v∧v≤((2 ^ n.toNat:Nat):Int) - 1 then 0 else 2
   | .cons _ _=>26)
  else if k=2 then (match s with
   | .bit _=>6
   | .cons ns ss=>match ns.findIdx? (fun x=>x == nm) with
    | none=>6
    | some i=>if ps.length≠(ss.getD i []).length then 10 else Eb (ss.getD i []) ps)
  else 15
def Eb (ss:List Sh):List TyV→Int
 | []=>0
 | p::r=>if Ch (ss.headD default) p=0 then Eb ss.tail r else Ch (ss.headD default) p
end
theorem Ku {ss:List Sh} {ps:List TyV} {j:Nat} (hj:j<ps.length) (hs:j<ss.length):Eb (ss.drop j) (ps.drop j)=if Ch ss[j] ps[j]=0 then Eb (ss.drop (j+1)) (ps.drop (j+1)) else Ch ss[j] ps[j]:=by
 rw [List.drop_eq_getElem_cons hj,List.drop_eq_getElem_cons hs]
 simp only [Eb,List.headD_cons,List.tail_cons]
 first | rfl | (split <;> rfl)
theorem c121 (n w:Int) (h0:0≤w) (h1:w≤62) (h:AE):AK MX (AH MX) 121 [.int .i64 n,.int .i64 w] h=some (.ret (.bool (decide (0≤n∧n≤((2 ^ w.toNat:Nat):Int) - 1))),h):=by
 have hp:(2:Nat) ^ w.toNat≤2 ^ 62:=Nat.pow_le_pow_right (by decide) (by omega)
 have hp':(2:Nat) ^ w.toNat<9223372036854775808:=Nat.lt_of_le_of_lt hp (by decide)
 have hpos:0<(2:Nat) ^ w.toNat:=Nat.pow_pos (by decide)
 have hc:=c67 w h0 h1
 obtain ⟨P,hP⟩:∃ P:Nat,P=2 ^ w.toNat:=⟨_,rfl⟩
 rw [← hP] at hp' hpos hc ⊢
 have hw:wr .i64 ((P:Int) - 1)=(P:Int) - 1:=BD (by omega) (by omega)
 exact Ae Sc VW rfl rfl (hr:=[]) (by simp [AN,Tryz.f121,hc,hw]) h
section
variable {l:List AO} {lv:AV} (hl:SlR Ac 3 l lv) (hsl:SmL 1048577 l) (hok:DOK l)
include hl hsl hok
theorem c87 (p:TyV):∀ (px:List AV),AU p px→Sm 1048577 p→∀ (s:Sh) (t:TyV) (xs:List AV),AU t xs→Sm 1048577 t→VT l t→Cw l t s→∀ h,AK MX (AH MX) 87 [lv,.agg xs,.agg px] h=some (.ret (.int .i64 (Ch s p)),h):=by
 induction p using TyV.ind with
 | h k v nm ps ih=>
  intro px hpx hsp s t xs hx hst hv hs h
  have hn:([lv,AV.agg xs,AV.agg px]:List AV).all AV.AD=true:=by simp [AV.AD,hx.AG,hl.AD,hpx.AG]
  obtain ⟨s1,s2,s3⟩:=hsp.dest
  have hB:=c66 hx
  have hNm:=Te nm s1
  -- a constructor
  have h158:k=2→∀ h,AK MX (AH MX) 158 [lv,.agg xs,.agg px] h=some (.ret (.int .i64 (Ch s (.mk 2 v nm ps))),h):=by
   rintro rfl
   intro h
   cases hs with
   | bit _ hb _=>
    obtain ⟨qv,rfl,hq⟩:=hpx.dest
    obtain ⟨pv,rfl,hp⟩:=hx.AY
    exact Ae NV Py hn rfl (hr:=[Blk.var false [AV.int .i64 t.k,AV.int .i64 t.v,AV.str t.nm,pv],Blk.var false [AV.int .i64 2,AV.int .i64 v,AV.str nm,qv]]) (by simp [AN,Tryz.f158,hB,hb,Ch]) h
   | cons _ ns ss hb hk hnn hll hs0 hf0=>
    obtain ⟨w,hw,h68⟩:=c68 hl hsl hx hst (hok.has t hv hk hb)
    have hcsm:=Ev hsl hst (by decide)
    have hvf:=hok.fld t hv hk hb
    have h72:=c72 nm hw hcsm.1
    have hfi:ns.findIdx? (fun x=>x == nm)=(AQ l t).findIdx? (fun x=>x.nm == nm):=by rw [hnn,List.findIdx?_map];rfl
    have hb7:=Qy
    simp [BK,Be,Tryz.f158] at hb7
    have hb12:=O0
    simp [BK,Be,Tryz.f158] at hb12
    obtain ⟨qv,rfl,hq⟩:=hpx.dest
    obtain ⟨pv,rfl,hp⟩:=hx.AY
    obtain ⟨hr,hc⟩:∃ hr,AN MX 158 [lv,.agg [.int .i64 t.k,.int .i64 t.v,.str t.nm,pv],.agg [.int .i64 2,.int .i64 v,.str nm,qv]] []=some (.ret (.int .i64 (Ch (.cons ns ss) (.mk 2 v nm ps))),hr):=by
     cases hf:(AQ l t).findIdx? (fun x=>x.nm == nm) with
     | none=>
      have hpe:Ch (.cons ns ss) (.mk 2 v nm ps)=6:=by simp [Ch,hfi,hf]
      rw [hpe]
      exact ⟨_,by simp [AN,Tryz.f158,hB,hb,h68,h72,hf,ixI] <;> rfl⟩
     | some i=>
      have hi:=F3 hf
      have hi0:¬ ((i:Int)<0):=by omega
      have hi2:i<ss.length:=by omega
      have hgd:ss.getD i []=ss[i]:=by simp [hi2]
      obtain ⟨ce,hce,hcR⟩:=hw.ix hi
      obtain ⟨fv,rfl,hfv⟩:=hcR.dest
      have hsc:=hcsm.2 _ (List.getElem_mem hi)
      have hsl2:=hs0 i _ _ (List.getElem?_eq_getElem hi) (List.getElem?_eq_getElem hi2)
      have hpe:Ch (.cons ns ss) (.mk 2 v nm ps)=if ps.length≠(AQ l t)[i].fields.length then 10 else Eb ss[i] ps:=by simp [Ch,hfi,hf,hi2,hsl2]
      rw [hpe]
      by_cases hL:ps.length=(AQ l t)[i].fields.length
      ·have hL':((ps.length:Int) != ((AQ l t)[i].fields.length:Int))=false:=by simp [hL]
       have hLs:ps.length=ss[i].length:=by omega
       obtain ⟨e,st,hlp,hq0⟩:=AR (M:=MX) (fid:=158) (N:=58) (C:=AH MX) (c:=AP Tryz.f158 0) (n:=ps.length)
        (fun j (_:Unit)=>([(0,lv),(5,.hp 1 0),(7,w),(8,.int .i64 i),(9,.int .i64 j)],[Blk.var false [AV.int .i64 t.k,AV.int .i64 t.v,AV.str t.nm,pv],Blk.var false [AV.int .i64 2,AV.int .i64 v,AV.str nm,qv]]))
        (fun j _=>Eb ss[i] ps=Eb (ss[i].drop j) (ps.drop j))
        (fun r=>(r=(.ext 0,([(0,lv),(5,.hp 1 0),(7,w),(8,.int .i64 i),(9,.int .i64 ps.length),(36,.bool false)],[Blk.var false [AV.int .i64 t.k,AV.int .i64 t.v,AV.str t.nm,pv],Blk.var false [AV.int .i64 2,AV.int .i64 v,AV.str nm,qv]]))∧Eb ss[i] ps=0) ∨
          (r=(.ret,([(6,.int .i64 (Eb ss[i] ps))],[Blk.var false [AV.int .i64 t.k,AV.int .i64 t.v,AV.str t.nm,pv],Blk.var false [AV.int .i64 2,AV.int .i64 v,AV.str nm,qv]])))) (fun j b hj hJ=>by
          have hjf:j<(AQ l t)[i].fields.length:=by omega
          have hjs:j<ss[i].length:=by omega
          obtain ⟨fe,hfe,hfR⟩:=hfv.ix hjf
          obtain ⟨pe,hpe,hpR⟩:=hq.ix hj
          have hj':=Aa hj
          have hwj:=AZ hj s2
          have hmf:=List.getElem_mem hjf
          obtain ⟨tx,rfl,htx⟩:=hfR
          have hrec:=ih ps[j] (List.getElem_mem hj) pe hpR (s3 _ (List.getElem_mem hj)) ss[i][j] (AQ l t)[i].fields[j].ty tx htx (hsc.2.2 _ hmf).2 (hvf _ (List.getElem_mem hi) _ hmf) (hf0 i _ _ j _ _ (List.getElem?_eq_getElem hi) (List.getElem?_eq_getElem hi2) (List.getElem?_eq_getElem hjf) (List.getElem?_eq_getElem hjs))
          obtain ⟨q1,rfl,hq1⟩:=htx.AY
          obtain ⟨q2,rfl,hq2⟩:=hpR.AY
          rw [Ku hj hjs] at hJ
          by_cases h0:Ch ss[i][j] ps[j]=0
          ·rw [if_pos h0] at hJ
           exact .inl ⟨(),by simp [Tryz.f158,hq.len,hj',hce,hfe,hpe,hrec,h0,hwj,hb12,AG,AV.AD,hl.AD,hq1.AD,hq2.AD],hJ⟩
          ·rw [if_neg h0] at hJ
           have hne:(Ch ss[i][j] ps[j] != 0)=true:=by simp [h0]
           exact .inr ⟨_,_,by simp [Tryz.f158,hq.len,hj',hce,hfe,hpe,hrec,hne,hb12,AG,AV.AD,hl.AD,hq1.AD,hq2.AD] <;> first | exact ⟨rfl,rfl⟩ | rfl,by simp,.inr (by rw [hJ])⟩) (fun b hJ=>by
          rw [List.drop_length] at hJ
          simp only [Eb] at hJ
          exact ⟨_,_,by simp [Tryz.f158,hq.len] <;> first | exact ⟨rfl,rfl⟩ | rfl,by simp,.inl ⟨rfl,hJ⟩⟩) () (by simp)
       simp [Tryz.f158] at hlp
       rcases hq0 with ⟨hq0,hz⟩ | hq0 <;> cases hq0
       ·exact ⟨_,by simp [AN,Tryz.f158,hB,hb,h68,h72,hf,ixI,hi0,hce,hq.len,hfv.len,hq.E3,hfv.E3,hb7,hL,hlp,hz] <;> rfl⟩
       ·exact ⟨_,by simp [AN,Tryz.f158,hB,hb,h68,h72,hf,ixI,hi0,hce,hq.len,hfv.len,hq.E3,hfv.E3,hb7,hL,hlp] <;> rfl⟩
      ·have hL':((ps.length:Int) != ((AQ l t)[i].fields.length:Int))=true:=by simp;omega
       exact ⟨_,by simp [AN,Tryz.f158,hB,hb,h68,h72,hf,ixI,hi0,hce,hq.len,hfv.len,hq.E3,hfv.E3,hb7,hL',hL] <;> rfl⟩
    exact Ae NV Py hn rfl hc h
  have hb16:=Qs
  simp [BK,Be,Tryz.f87] at hb16
  have htx:=hx
  obtain ⟨qv,rfl,hq⟩:=hpx.dest
  obtain ⟨pv,rfl,hp⟩:=hx.AY
  refine Ae VF YA hn rfl (hr:=[Blk.var false [AV.int .i64 t.k,AV.int .i64 t.v,AV.str t.nm,pv],Blk.var false [AV.int .i64 k,AV.int .i64 v,AV.str nm,qv]]) ?_ h
  by_cases k2:k=2
  ·subst k2
   simp [AN,Tryz.f87,h158 rfl]
  simp only [Ch]
  by_cases k0:k=0
  ·subst k0
   by_cases hL:0<ps.length
   ·have hL':(0<(ps.length:Int)):=by omega
    simp [AN,Tryz.f87,hq.len,hL',hL]
   ·have hL':¬ (0<(ps.length:Int)):=by omega
    simp [AN,Tryz.f87,hq.len,hL',hL]
  ·have k0':(k == 0)=false:=by simp [k0]
   by_cases k1:k=1
   ·subst k1
    by_cases hL:0<ps.length
    ·have hL':(0<(ps.length:Int)):=by omega
     simp [AN,Tryz.f87,hq.len,hL',hL]
    ·have hL':¬ (0<(ps.length:Int)):=by omega
     cases hN0:A6 nm <;> simp [AN,Tryz.f87,hq.len,hL',hL,hNm,hN0]
   ·have k1':(k == 1)=false:=by simp [k1]
    by_cases k3:k=3
    ·subst k3
     cases hs with
     | cons _ ns ss hb _ _ _ _ _=>simp [AN,Tryz.f87,hB,hb]
     | bit _ hb hw=>
      have hb1:=hok.bit t hv hb
      obtain ⟨e,he,hR⟩:=hp.ix (i:=0) (by omega)
      have hag:BM t=t.ps[0]'(by omega):=by simp [BM,hb1]
      rw [← hag] at hR
      obtain ⟨qv2,rfl,hq2⟩:=hR.AY
      simp only [Int.natCast_zero] at he
      have hF:=c121 v (BM t).v (by omega) (by omega)
      by_cases hL:0<ps.length
      ·have hL':(0<(ps.length:Int)):=by omega
       simp [AN,Tryz.f87,hB,hb,hq.len,hL',hL]
      ·have hL':¬ (0<(ps.length:Int)):=by omega
       have e:∀ x,(if (3:Int)=0 then (if 0<ps.length then 10 else 0) else if (3:Int)=1 then (if 0<ps.length then 10 else if A6 nm=false then 4 else 0) else if (3:Int)=3 then (match Sh.bit (BM t).v with
         | .bit n=>if 0<ps.length then 10 else if 0≤v∧v≤((2 ^ n.toNat:Nat):Int) - 1 then 0 else 2
         | .cons _ _=>26) else x)=if 0≤v∧v≤((2 ^ (BM t).v.toNat:Nat):Int) - 1 then (0:Int) else 2:=fun x=>by
        rw [if_neg (by decide),if_neg (by decide),if_pos rfl]
        show (if 0<ps.length then (10:Int) else _)=_
        rw [if_neg hL]
       have hgoal:∀ b:Bool,b=decide (0≤v∧v≤((2 ^ (BM t).v.toNat:Nat):Int) - 1)→AN MX 87 [lv,AV.agg [AV.int .i64 t.k,AV.int .i64 t.v,AV.str t.nm,pv],AV.agg [AV.int .i64 3,AV.int .i64 v,AV.str nm,qv]] []=some (.ret (.int .i64 (if b then 0 else 2)),[Blk.var false [AV.int .i64 t.k,AV.int .i64 t.v,AV.str t.nm,pv],Blk.var false [AV.int .i64 3,AV.int .i64 v,AV.str nm,qv]]):=fun b hb2=>by
        rw [← hb2] at hF
        cases b <;> simp [AN,Tryz.f87,hB,hb,hq.len,hL',hL,he,hF,hb16,AV.AD]
       have h5:=hgoal _ rfl
       rw [h5]
       refine congrArg (fun z=>some (CR.ret (AV.int .i64 z),_)) ?_
       by_cases hr:0≤v∧v≤((2 ^ (BM t).v.toNat:Nat):Int) - 1
       ·rw [decide_eq_true hr];exact ((e _).trans (if_pos hr)).symm
       ·rw [decide_eq_false hr];exact ((e _).trans (if_neg hr)).symm
    ·have k3':(k == 3)=false:=by simp [k3]
     have k2':(k == 2)=false:=by simp [k2]
     simp [AN,Tryz.f87,k0',k1',k2',k3',k0,k1,k2,k3]
end
mutual
def BB:TyV→List Bytes
 | .mk k _ nm ps=>if k=1 then [nm] else Ba ps
def Ba:List TyV→List Bytes
 | []=>[]
 | p::r=>BB p++Ba r
end
theorem GA:∀ (a b:List TyV),Ba (a++b)=Ba a++Ba b
 | [],b=>rfl
 | p::r,b=>by simp [Ba,GA r b]
theorem G4 {ps:List TyV} {i:Nat} (hi:i<ps.length):Ba (ps.take (i+1))=Ba (ps.take i)++BB ps[i]:=by
 rw [← Cj hi,GA]
 simp [Ba]
theorem HW (ps:List TyV) (i:Nat):(Ba (ps.take i)).length≤(Ba ps).length:=by
 have:=congrArg List.length (GA (ps.take i) (ps.drop i))
 rw [List.take_append_drop] at this
 simp at this
 omega
theorem Hd {ps:List TyV} {p:TyV} (hp:p∈ps):(BB p).length≤(Ba ps).length:=by
 obtain ⟨i,hi,rfl⟩:=List.getElem_of_mem hp
 have:=HW ps (i+1)
 rw [G4 hi] at this
 simp at this
 omega
theorem RE {α:Type} {R:α→List AV→Prop} {l m:List α} {es xs:List (List AV)} (hl:es.length=l.length) (hr:∀ (i:Nat) a e,l[i]? = some a→es[i]? = some e→R a e) (hl2:xs.length=m.length) (hr2:∀ (i:Nat) a e,m[i]? = some a→xs[i]? = some e→R a e) :
  (es++xs).length=(l++m).length∧∀ (i:Nat) a' e',(l++m)[i]? = some a'→(es++xs)[i]? = some e'→R a' e':=by
 refine ⟨by simp [hl,hl2],fun i a' e' h1 h2 => ?_⟩
 by_cases hi:i<l.length
 ·rw [List.getElem?_append_left hi] at h1
  rw [List.getElem?_append_left (by omega)] at h2
  exact hr i a' e' h1 h2
 ·rw [List.getElem?_append_right (by omega)] at h1
  rw [List.getElem?_append_right (by omega)] at h2
  rw [hl] at h2
  exact hr2 _ a' e' h1 h2
theorem QH {sz byt:Nat} {P rest:AE} {a:AV} {es xs:List (List AV)} {x:AV} (h:Af sz P.length rest a es) (hx:Az (P++rest) x=some xs) (hs:CE sz x=true) (hnx:∀ b,x≠.str b) (h0:0<sz) (hb:byt≤1024) (hn:es.length+xs.length<16777216) :
  ∃ a' rest',apA sz byt a x (P++rest)=some (a',P++rest')∧Af sz P.length rest' a' (es++xs):=by
 by_cases he:xs=[]
 ·subst he
  refine ⟨a,rest,?_,by simpa using h⟩
  have hbb:(es.length+0) * byt≤17592186044416:=Nat.le_trans (Nat.mul_le_mul (show es.length+0≤16777216 by simp at hn;omega) hb) (by decide)
  have hap:∀ n,FQ a=some n→apA sz byt a x (P++rest)=apX sz byt a [] n (P++rest):=fun n hl=>by
   unfold apA
   cases x with
   | str b=>exact absurd rfl (hnx b)
   | _=>first | simp only [hs,hx,hl] | (simp only [Az] at hx;cases hx)
  rcases h with ⟨rfl,rfl⟩ | ⟨j,hne,rfl,h2⟩
  ·rw [hap 0 rfl]
   have e1:CE sz AV.AI=true:=rfl
   simp [apX,e1,h0]
  ·rw [hap es.length rfl]
   have e1:CE sz (.hs (P.length+j) es.length sz 0 es.length false)=true:=by simp [CE,BO]
   simp only [Nat.add_zero] at hbb
   simp only [List.length_nil,Nat.add_zero] at hn
   simp [apX,e1,h0,hbb,show es.length≤17592186044416 by omega]
 ·exact h.XH hx hs hnx he h0 hb hn
theorem _root_.Go.Am.SlR.nstr {α:Type} {R:α→List AV→Prop} {sz:Nat} {l:List α} {v:AV} (hv:SlR R sz l v):∀ b,v≠.str b:=fun b e=>by subst e;rcases hv with ⟨_,e⟩ | ⟨_,_,e,_⟩ <;> cases e
theorem c88 (p:TyV):∀ (px:List AV),AU p px→Sm 1048577 p→(BB p).length<1048577→∃ w,SlR CI 1 (BB p) w∧∀ h,AK MX (AH MX) 88 [.agg px] h=some (.ret w,h):=by
 induction p using TyV.ind with
 | h k v nm ps ih=>
  intro px hpx hsp hlen
  have hn:([AV.agg px]:List AV).all AV.AD=true:=by simp [AV.AD,hpx.AG]
  obtain ⟨s1,s2,s3⟩:=hsp.dest
  obtain ⟨qv,rfl,hq⟩:=hpx.dest
  by_cases k1:k=1
  ·subst k1
   refine ⟨.sl 1 true [[.str nm]],?_,fun h=>Ae Po SR hn rfl (hr:=[Blk.var false [AV.int .i64 1,AV.int .i64 v,AV.str nm,qv]]) (by simp [AN,Tryz.f88,bsA,Ak,List.replicate,AG,AV.AD]) h⟩
   simp only [BB,if_true]
   exact .inr ⟨true,_,rfl,rfl,fun i a e h1 h2=>by
    cases i with
    | zero=>simp at h1 h2;subst h1;subst h2;rfl
    | succ i=>simp at h1⟩
  ·have k1':(k == 1)=false:=by simp [k1]
   have hnm:BB (.mk k v nm ps)=Ba ps:=by simp [BB,k1]
   rw [hnm] at hlen ⊢
   obtain ⟨e,st,hlp,hq0⟩:=AR (M:=MX) (fid:=88) (N:=27) (C:=AH MX) (c:=AP Tryz.f88 0) (n:=ps.length)
    (fun i (b:AV×AE×List (List AV))=>([(1,.hp 0 0),(3,b.1),(4,.int .i64 i)],Blk.var false [AV.int .i64 k,AV.int .i64 v,AV.str nm,qv]::b.2.1))
    (fun i b=>Af 1 1 b.2.1 b.1 b.2.2∧b.2.2.length=(Ba (ps.take i)).length∧∀ (j:Nat) t e,(Ba (ps.take i))[j]? = some t→b.2.2[j]? = some e→CI t e)
    (fun r=>∃ b:AV×AE×List (List AV),r=(.ext 0,([(1,.hp 0 0),(3,b.1),(4,.int .i64 ps.length),(15,.bool false)],Blk.var false [AV.int .i64 k,AV.int .i64 v,AV.str nm,qv]::b.2.1)) ∧
      Af 1 1 b.2.1 b.1 b.2.2∧b.2.2.length=(Ba ps).length∧∀ (j:Nat) t e,(Ba ps)[j]? = some t→b.2.2[j]? = some e→CI t e) (fun i b hi hI=>by
      obtain ⟨a,rest,es⟩:=b
      obtain ⟨i1,i2,i3⟩:=hI
      simp only at i1 i2 i3
      obtain ⟨e,he,hR⟩:=hq.ix hi
      have hi':=Aa hi
      have hw:=AZ hi s2
      have hml:=Hd (List.getElem_mem hi)
      obtain ⟨w,hwr,hcall⟩:=ih ps[i] (List.getElem_mem hi) e hR (s3 _ (List.getElem_mem hi)) (by omega)
      obtain ⟨xs,x1,x2,x3,x4⟩:=hwr.rd ([Blk.var false [AV.int .i64 k,AV.int .i64 v,AV.str nm,qv]]++rest)
      obtain ⟨j1,j2⟩:=RE i2 i3 x3 x4
      rw [← G4 hi] at j1 j2
      have htl:=HW ps i
      obtain ⟨a',rest',hap,hacc⟩:=QH (byt:=16) (P:=[Blk.var false [AV.int .i64 k,AV.int .i64 v,AV.str nm,qv]]) i1 x1 x2 hwr.nstr (by decide) (by decide) (by omega)
      simp only [List.cons_append,List.nil_append] at hap
      obtain ⟨q1,rfl,hq1⟩:=hR.AY
      exact .inl ⟨(a',rest',es++xs),by simp [Tryz.f88,hq.len,hi',he,hcall,hap,hw],hacc,j1,j2⟩) (fun b hI=>by
      obtain ⟨a,rest,es⟩:=b
      obtain ⟨i1,i2,i3⟩:=hI
      rw [List.take_length] at i2 i3
      exact ⟨_,_,by simp [Tryz.f88,hq.len] <;> first | exact ⟨rfl,rfl⟩ | rfl,by simp,(a,rest,es),rfl,i1,i2,i3⟩) (.AI,[],[]) ⟨.nil _ _ _,by simp [Ba],fun j t e h=>by simp [Ba] at h⟩
   obtain ⟨⟨a,rest,es⟩,hq0,i1,i2,i3⟩:=hq0
   cases hq0
   simp [Tryz.f88] at hlp
   obtain ⟨v',rest',hsn,hrep,heq⟩:=JN (P:=[Blk.var false [AV.int .i64 k,AV.int .i64 v,AV.str nm,qv]]) Ib i1 i2 i3
   exact ⟨v',hrep,fun h=>QG Po SR hn hsn (by decide) hrep.AD heq (by simp [AN,Tryz.f88,k1',hlp]) h⟩
theorem PA (t:TyV):∀ d c,0≤c→ER t d c≤200→c+(BB t).length≤ER t d c:=by
 induction t using TyV.ind with
 | h k v nm ps ih=>
  intro d c h0 h
  have key:∀ (l:List TyV),(∀ p∈l,p∈ps)→∀ d c,0≤c→Bo l d c≤200→c+(Ba l).length≤Bo l d c:=by
   intro l
   induction l with
   | nil=>intro _ d c h0 h;simp [Bo,Ba]
   | cons p r ihr=>
    intro hm d c h0 h
    simp only [Bo,Ba,List.length_append] at h ⊢
    split
    ·rename_i hc
     rw [if_pos hc] at h
     have hp:=hm p (by simp)
     have hle:ER p d c≤200:=by
      cases r with
      | nil=>simpa [Bo] using h
      | cons q r=>simp only [Bo] at h;split at h <;> omega
     have h1:=ih p hp d c h0 hle
     have h2:=ihr (fun q hq=>hm q (by simp [hq])) d (ER p d c) (by omega) h
     omega
    ·rename_i hc;rw [if_neg hc] at h;omega
  simp only [ER] at h ⊢
  split
  ·rename_i hc;rw [if_pos hc] at h;omega
  ·rename_i hc
   rw [if_neg hc] at h
   have:=key ps (fun _ h=>h) (d+1) (c+1) (by omega) h
   simp only [BB]
   split
   ·have:∀ (l:List TyV) d c,c≤Bo l d c∨200<Bo l d c:=by
     intro l
     induction l with
     | nil=>intro d c;left;simp [Bo]
     | cons p r ihr=>
      intro d c
      simp only [Bo]
      split
      ·have hpm:∀ (p:TyV) d c,c≤ER p d c∨200<ER p d c:=by
        intro p
        induction p using TyV.ind with
        | h k v nm qs ihq=>
         intro d c
         simp only [ER]
         split
         ·right;omega
         ·have key2:∀ (l:List TyV),(∀ p∈l,p∈qs)→∀ d c,c≤Bo l d c∨200<Bo l d c:=by
           intro l
           induction l with
           | nil=>intro _ d c;left;simp [Bo]
           | cons p r ihr2=>
            intro hm d c
            simp only [Bo]
            split
            ·rcases ihq p (hm p (by simp)) d c with h1 | h1 <;> rcases ihr2 (fun q hq=>hm q (by simp [hq])) d (ER p d c) with h2 | h2 <;> omega
            ·left;omega
          rcases key2 qs (fun _ h=>h) (d+1) (c+1) with h1 | h1 <;> omega
       rcases hpm p d c with h1 | h1 <;> rcases ihr d (ER p d c) with h2 | h2 <;> omega
      ·left;omega
    rcases this ps (d+1) (c+1) with h1 | h1
    ·simp;omega
    ·omega
   ·omega
theorem JP {t:TyV} (h:A1 t=true):(BB t).length≤200:=by
 unfold A1 at h
 have:=PA t 1 0 (by decide) (of_decide_eq_true h)
 have:=of_decide_eq_true h
 omega
def IV:List Bytes→List Bytes→Bool
 | _,[]=>false
 | prev,x::r=>(prev.findIdx? (fun y=>y == x)).isSome||IV (prev++[x]) r
def FJ (s:Sh) (p:TyV):Int:=if A1 p=false then 8 else if Ch s p=0 then (if IV [] (BB p) then 23 else 0) else Ch s p
section
variable {l:List AO} {lv:AV} (hl:SlR Ac 3 l lv) (hsl:SmL 1048577 l) (hok:DOK l)
include hl hsl hok
theorem c35 {p:TyV} {px:List AV} (hpx:AU p px) (hsp:Sm 1048577 p) {s:Sh} {t:TyV} {xs:List AV} (hx:AU t xs) (hst:Sm 1048577 t) (hv:VT l t) (hs:Cw l t s) (h:AE) :
  AK MX (AH MX) 35 [lv,.agg xs,.agg px] h=some (.ret (.int .i64 (FJ s p)),h):=by
 have hn:([lv,AV.agg xs,AV.agg px]:List AV).all AV.AD=true:=by simp [AV.AD,hx.AG,hl.AD,hpx.AG]
 have h86:=c86 hpx hsp
 have h87:=c87 hl hsl hok p px hpx hsp s t xs hx hst hv hs
 have h88:=c88 p px hpx hsp
 have hb10:=Qn
 simp [BK,Be,Tryz.f35] at hb10
 obtain ⟨pv,rfl,hp⟩:=hx.AY
 obtain ⟨qv,rfl,hq⟩:=hpx.AY
 obtain ⟨hr,hc⟩:∃ hr,AN MX 35 [lv,.agg [.int .i64 t.k,.int .i64 t.v,.str t.nm,pv],.agg [.int .i64 p.k,.int .i64 p.v,.str p.nm,qv]] []=some (.ret (.int .i64 (FJ s p)),hr):=by
  unfold FJ
  cases hT:A1 p with
  | false=>exact ⟨_,by simp [AN,Tryz.f35,h86,hT] <;> rfl⟩
  | true=>
   by_cases h0:Ch s p=0
   ·have hln:=JP hT
    obtain ⟨w,hw,hcall⟩:=h88 (by omega)
    obtain ⟨e,st,hlp,hq0⟩:=AR (M:=MX) (fid:=35) (N:=36) (C:=AH MX) (c:=AP Tryz.f35 0) (n:=(BB p).length)
     (fun i (_:Unit)=>([(8,w),(9,.int .i64 i)],[Blk.var false [AV.int .i64 t.k,AV.int .i64 t.v,AV.str t.nm,pv],Blk.var false [AV.int .i64 p.k,AV.int .i64 p.v,AV.str p.nm,qv]]))
     (fun i _=>IV [] (BB p)=IV ((BB p).take i) ((BB p).drop i))
     (fun r=>(r=(.ext 0,([(8,w),(9,.int .i64 (BB p).length),(25,.bool false)],[Blk.var false [AV.int .i64 t.k,AV.int .i64 t.v,AV.str t.nm,pv],Blk.var false [AV.int .i64 p.k,AV.int .i64 p.v,AV.str p.nm,qv]]))∧IV [] (BB p)=false) ∨
       (r=(.ret,([(6,.int .i64 23)],[Blk.var false [AV.int .i64 t.k,AV.int .i64 t.v,AV.str t.nm,pv],Blk.var false [AV.int .i64 p.k,AV.int .i64 p.v,AV.str p.nm,qv]]))∧IV [] (BB p)=true)) (fun i b hi hI=>by
       obtain ⟨e,he,hR⟩:=hw.ix hi
       have hi':=Aa hi
       have hwi:=AZ hi (by omega)
       cases hR
       obtain ⟨w2,hw1,hw2⟩:=hw.slice (Nat.le_of_lt hi)
       have hH:=c89 (BB p)[i] hw2 (by simp;omega)
       have hdr:(BB p).drop i=(BB p)[i]::(BB p).drop (i+1):=List.drop_eq_getElem_cons hi
       rw [hdr] at hI
       simp only [IV] at hI
       rw [Cj hi] at hI
       cases hH0:(((BB p).take i).findIdx? (fun x=>x == (BB p)[i])).isSome with
       | true=>
        rw [hH0] at hI
        simp only [hH0] at hH
        exact .inr ⟨_,_,by simp [Tryz.f35,hw.len,hi',he,hw1,hw2.AD,hH,hb10,AV.AD] <;> first | exact ⟨rfl,rfl⟩ | rfl,by simp,.inr ⟨rfl,by rw [hI];rfl⟩⟩
       | false=>
        rw [hH0] at hI
        simp only [hH0] at hH
        exact .inl ⟨(),by simp [Tryz.f35,hw.len,hi',he,hw1,hw2.AD,hH,hb10,AV.AD,hwi],by simpa using hI⟩) (fun b hI=>by
       rw [List.drop_length] at hI
       exact ⟨_,_,by simp [Tryz.f35,hw.len] <;> first | exact ⟨rfl,rfl⟩ | rfl,by simp,.inl ⟨rfl,hI⟩⟩) () (by simp)
    simp [Tryz.f35] at hlp
    rcases hq0 with ⟨hq0,hd⟩ | ⟨hq0,hd⟩ <;> cases hq0
    ·exact ⟨_,by simp [AN,Tryz.f35,h86,hT,h87,h0,hcall,hlp,hd] <;> rfl⟩
    ·exact ⟨_,by simp [AN,Tryz.f35,h86,hT,h87,h0,hcall,hlp,hd] <;> rfl⟩
   ·have hne:(Ch s p != 0)=true:=by simp [h0]
    exact ⟨_,by simp [AN,Tryz.f35,h86,hT,h87,hne,h0] <;> rfl⟩
 exact Ae U0 Xs hn rfl hc h
end
def OKF (l:List AO):Prop:=(Au l).2=0→DOK l∧∀ t,VT l t→t.k≠2→DF t=false→(AQ l t).length≤16
noncomputable def DD (l:List AO) (t:TyV):Int:=if (Au l).2=0 then FU l t else (Au l).2
theorem Gf {l:List AO} {t:TyV} (h:DD l t=0):(Au l).2=0∧VT l t∧Cw l t (CY l t):=by
 unfold DD at h
 split at h
 ·rename_i h1
  unfold FU at h
  split at h
  ·rename_i h2
   split at h
   ·rename_i h3
    obtain ⟨s,hs⟩:=IJ l 40 t 0 h3
    refine ⟨h1,?_,by rw [HV hs];exact hs⟩
    unfold BZ at h2
    split at h2
    ·exact h2
    ·cases h2
   ·rename_i h3;exact absurd h h3
  ·rename_i h2;exact absurd h h2
 ·rename_i h1;exact absurd h h1
def F5 (s:Sh):Nat→List TyV→Int×Int
 | _,[]=>(0,0)
 | i,p::r=>if FJ s p=0 then F5 s (i+1) r else (i,FJ s p)
noncomputable def Aq (l:List AO) (t:TyV) (arms:List TyV):Int×Int:=
 if DD l t=0 then (if arms.length=0 then (0,10) else if 12<arms.length then (0,8) else F5 (CY l t) 0 arms) else (0,DD l t)
theorem DS.dest {k:Dx} {xs:List AV} (h:DS k xs):∃ dv pv av,xs=[dv,.int .i64 k.ty.k,.int .i64 k.ty.v,.str k.ty.nm,pv,av]∧SlR Ac 3 k.data dv∧SlR AU 4 k.ty.ps pv∧AU k.ty [.int .i64 k.ty.k,.int .i64 k.ty.v,.str k.ty.nm,pv]∧SlR AU 4 k.arms av:=by
 obtain ⟨dv,tx,av,rfl,h1,h2,h3⟩:=h
 have h2':=h2
 obtain ⟨pv,rfl,hp⟩:=h2.AY
 exact ⟨dv,pv,av,rfl,h1,hp,h2',h3⟩
section
variable {l:List AO} {lv:AV} (hl:SlR Ac 3 l lv) (hsl:SmL 1048577 l) (hokf:OKF l)
include hl hsl hokf
theorem c34 {t:TyV} {xs:List AV} (hx:AU t xs) (hst:Sm 1048577 t) (h:AE):AK MX (AH MX) 34 [lv,.agg xs] h=some (.ret (.int .i64 (DD l t)),h):=by
 have hn:([lv,AV.agg xs]:List AV).all AV.AD=true:=by simp [AV.AD,hx.AG,hl.AD]
 have h84:=c84 hl hsl
 have h85:=fun hok hlen=>c85 hl hsl hok hlen hx hst
 obtain ⟨pv,rfl,hp⟩:=hx.AY
 refine Ae Uz Xr hn rfl (hr:=[Blk.var false [AV.int .i64 t.k,AV.int .i64 t.v,AV.str t.nm,pv]]) ?_ h
 unfold DD
 by_cases h0:(Au l).2=0
 ·obtain ⟨hok,hlen⟩:=hokf h0
  simp [AN,Tryz.f34,h84,h0,h85 hok hlen]
 ·have hne:((Au l).2 != 0)=true:=by simp [h0]
  simp [AN,Tryz.f34,h84,h0,hne]
end
theorem c32 {k:Dx} {xs:List AV} (hx:DS k xs) (hsk:SmT 1048577 k) (hokf:OKF k.data) (h:AE):AK MX (AH MX) 32 [.agg xs] h=some (.ret (.tup [.int .i64 (Aq k.data k.ty k.arms).1,.int .i64 (Aq k.data k.ty k.arms).2]),h):=by
 obtain ⟨dv,pv,av,rfl,hd,hp,ht,ha⟩:=hx.dest
 obtain ⟨s1,s2,s3,s4⟩:=hsk
 have hn:([AV.agg [dv,.int .i64 k.ty.k,.int .i64 k.ty.v,.str k.ty.nm,pv,av]]:List AV).all AV.AD=true:=by simp [AV.AD,AG,hd.AD,hp.AD,ha.AD]
 have h34:=c34 hd s1 hokf ht s2
 have hb11:=Qm
 simp [BK,Be,Tryz.f32] at hb11
 refine Ae Uy Xq hn rfl (hr:=[Blk.var false [dv,.int .i64 k.ty.k,.int .i64 k.ty.v,.str k.ty.nm,pv,av]]) ?_ h
 unfold Aq
 by_cases h0:DD k.data k.ty=0
 ·obtain ⟨c1,c2,c3⟩:=Gf h0
  obtain ⟨hok,hlen⟩:=hokf c1
  by_cases ha0:k.arms.length=0
  ·have ha0':((k.arms.length:Int) == 0)=true:=by simp only [beq_iff_eq];omega
   simp [AN,Tryz.f32,h34,h0,ha.len,ha0',ha0]
  ·have ha0':((k.arms.length:Int) == 0)=false:=by rw [beq_eq_false_iff_ne];omega
   by_cases ha12:12<k.arms.length
   ·have ha12':(12<(k.arms.length:Int)):=by omega
    simp [AN,Tryz.f32,h34,h0,ha.len,ha0',ha0,ha12,ha12']
   ·have ha12':¬ (12<(k.arms.length:Int)):=by omega
    obtain ⟨e,st,hlp,hq0⟩:=AR (M:=MX) (fid:=32) (N:=44) (C:=AH MX) (c:=AP Tryz.f32 0) (n:=k.arms.length)
     (fun i (_:Unit)=>([(1,.hp 0 0),(5,.int .i64 i)],[Blk.var false [dv,.int .i64 k.ty.k,.int .i64 k.ty.v,.str k.ty.nm,pv,av]]))
     (fun i _=>F5 (CY k.data k.ty) 0 k.arms=F5 (CY k.data k.ty) i (k.arms.drop i))
     (fun r=>(r=(.ext 0,([(1,.hp 0 0),(5,.int .i64 k.arms.length),(27,.bool false)],[Blk.var false [dv,.int .i64 k.ty.k,.int .i64 k.ty.v,.str k.ty.nm,pv,av]]))∧F5 (CY k.data k.ty) 0 k.arms=(0,0)) ∨
       (r=(.ret,([(2,.int .i64 (F5 (CY k.data k.ty) 0 k.arms).1),(3,.int .i64 (F5 (CY k.data k.ty) 0 k.arms).2)],[Blk.var false [dv,.int .i64 k.ty.k,.int .i64 k.ty.v,.str k.ty.nm,pv,av]])))) (fun i b hi hI=>by
       obtain ⟨e,he,hR⟩:=ha.ix hi
       have hi':=Aa hi
       have hwi:=AZ hi s3
       have h35:=c35 hd s1 hok hR (s4 _ (List.getElem_mem hi)) ht s2 c2 c3
       obtain ⟨qv,rfl,hq⟩:=hR.AY
       have hdr:k.arms.drop i=k.arms[i]::k.arms.drop (i+1):=List.drop_eq_getElem_cons hi
       rw [hdr] at hI
       simp only [F5] at hI
       by_cases hz:FJ (CY k.data k.ty) k.arms[i]=0
       ·rw [if_pos hz] at hI
        exact .inl ⟨(),by simp [Tryz.f32,ha.len,hi',he,h35,hz,hwi,hb11,AG,AV.AD,hd.AD,hp.AD,hq.AD],hI⟩
       ·rw [if_neg hz] at hI
        have hne:(FJ (CY k.data k.ty) k.arms[i] != 0)=true:=by simp [hz]
        exact .inr ⟨_,_,by simp [Tryz.f32,ha.len,hi',he,h35,hne,hb11,AG,AV.AD,hd.AD,hp.AD,hq.AD] <;> first | exact ⟨rfl,rfl⟩ | rfl,by simp,.inr (by rw [hI])⟩) (fun b hI=>by
       rw [List.drop_length] at hI
       exact ⟨_,_,by simp [Tryz.f32,ha.len] <;> first | exact ⟨rfl,rfl⟩ | rfl,by simp,.inl ⟨rfl,hI⟩⟩) () (by simp)
    simp [Tryz.f32] at hlp
    rcases hq0 with ⟨hq0,hz⟩ | hq0 <;> cases hq0
    ·simp [AN,Tryz.f32,h34,h0,ha.len,ha0',ha0,ha12,ha12',hlp,hz]
    ·simp [AN,Tryz.f32,h34,h0,ha.len,ha0',ha0,ha12,ha12',hlp]
 ·have hne:(DD k.data k.ty != 0)=true:=by simp [h0]
  simp [AN,Tryz.f32,h34,h0,hne]
def G5 (c:Bm):Bool:=decide (c.fields.length≤12)&&c.fields.all fun f=>A1 f.ty
def Gg (d:AO):Bool:=decide (d.cons.length≤20)&&decide (d.params.length≤12)&&d.cons.all G5
def PB (k:Dx):Bool:=decide (k.data.length≤24)&&decide (k.arms.length≤16)&&k.data.all Gg
theorem Kv {α:Type} {p:α→Bool} {l:List α} {i:Nat} (hi:i<l.length):(l.drop i).all p=(p l[i]&&(l.drop (i+1)).all p):=by
 rw [List.drop_eq_getElem_cons hi,List.all_cons]
theorem c11 {k:Dx} {xs:List AV} (hx:DS k xs) (hsk:SmT 1048577 k) (h:AE):AK MX (AH MX) 11 [.agg xs] h=some (.ret (.bool (PB k)),h):=by
 obtain ⟨dv,pv,av,rfl,hd,hp,ht,ha⟩:=hx.dest
 obtain ⟨s1,s2,s3,s4⟩:=hsk
 have hn:([AV.agg [dv,.int .i64 k.ty.k,.int .i64 k.ty.v,.str k.ty.nm,pv,av]]:List AV).all AV.AD=true:=by simp [AV.AD,AG,hd.AD,hp.AD,ha.AD]
 refine Ae Uu Xm hn rfl (hr:=[Blk.var false [dv,.int .i64 k.ty.k,.int .i64 k.ty.v,.str k.ty.nm,pv,av]]) ?_ h
 unfold PB
 by_cases h24:24<k.data.length
 ·have h24':(24<(k.data.length:Int)):=by omega
  have:¬ (k.data.length≤24):=by omega
  simp [AN,Tryz.f11,hd.len,h24',this]
 ·have h24':¬ (24<(k.data.length:Int)):=by omega
  have h24i:k.data.length≤24:=by omega
  by_cases h16:16<k.arms.length
  ·have h16':(16<(k.arms.length:Int)):=by omega
   have:¬ (k.arms.length≤16):=by omega
   simp [AN,Tryz.f11,hd.len,ha.len,h24',h16',this]
  ·have h16':¬ (16<(k.arms.length:Int)):=by omega
   have h16i:k.arms.length≤16:=by omega
   let B:=Blk.var false [dv,.int .i64 k.ty.k,.int .i64 k.ty.v,.str k.ty.nm,pv,av]
   obtain ⟨e,st,hlp,hq0⟩:=AR (M:=MX) (fid:=11) (N:=79) (C:=AH MX) (c:=AP Tryz.f11 0) (n:=k.data.length)
    (fun i (_:Unit)=>([(1,.hp 0 0),(3,.int .i64 i)],[Blk.var false [dv,.int .i64 k.ty.k,.int .i64 k.ty.v,.str k.ty.nm,pv,av]]))
    (fun i _=>k.data.all Gg=(k.data.drop i).all Gg)
    (fun r=>(r=(.ext 0,([(1,.hp 0 0),(3,.int .i64 k.data.length),(21,.bool false)],[Blk.var false [dv,.int .i64 k.ty.k,.int .i64 k.ty.v,.str k.ty.nm,pv,av]]))∧k.data.all Gg=true) ∨
      (r=(.ret,([(2,.bool false)],[Blk.var false [dv,.int .i64 k.ty.k,.int .i64 k.ty.v,.str k.ty.nm,pv,av]]))∧k.data.all Gg=false)) (fun i b hi hI=>by
      obtain ⟨e,he,hR⟩:=hd.ix hi
      have hi':=Aa hi
      have hwi:=AZ hi s1.1
      obtain ⟨d1,d2,d3,d4,d5⟩:=s1.2 _ (List.getElem_mem hi)
      obtain ⟨qv,cv,rfl,hqp,hcv⟩:=hR.dest
      rw [Kv hi] at hI
      by_cases h20:20<k.data[i].cons.length
      ·have h20':(20<(k.data[i].cons.length:Int)):=by omega
       have hs:Gg k.data[i]=false:=by simp [Gg];intro h;omega
       rw [hs,Bool.false_and] at hI
       exact .inr ⟨_,_,by simp [Tryz.f11,hd.len,hi',he,hcv.len,h20'] <;> first | exact ⟨rfl,rfl⟩ | rfl,by simp,.inr ⟨rfl,hI⟩⟩
      ·have h20':¬ (20<(k.data[i].cons.length:Int)):=by omega
       have h20i:k.data[i].cons.length≤20:=by omega
       by_cases h12:12<k.data[i].params.length
       ·have h12':(12<(k.data[i].params.length:Int)):=by omega
        have hs:Gg k.data[i]=false:=by simp [Gg];intro _ h;omega
        rw [hs,Bool.false_and] at hI
        exact .inr ⟨_,_,by simp [Tryz.f11,hd.len,hi',he,hcv.len,hqp.len,h20',h12'] <;> first | exact ⟨rfl,rfl⟩ | rfl,by simp,.inr ⟨rfl,hI⟩⟩
       ·have h12':¬ (12<(k.data[i].params.length:Int)):=by omega
        have h12i:k.data[i].params.length≤12:=by omega
        have hsD:Gg k.data[i]=k.data[i].cons.all G5:=by simp [Gg,h20i,h12i]
        rw [hsD] at hI
        obtain ⟨e2,st2,hlp2,hq2⟩:=AR (M:=MX) (fid:=11) (N:=79) (C:=AH MX) (c:=AP Tryz.f11 1) (n:=k.data[i].cons.length)
         (fun j (_:Unit)=>([(1,.hp 0 0),(3,.int .i64 i),(4,.int .i64 j)],[Blk.var false [dv,.int .i64 k.ty.k,.int .i64 k.ty.v,.str k.ty.nm,pv,av]]))
         (fun j _=>k.data[i].cons.all G5=(k.data[i].cons.drop j).all G5)
         (fun r=>(r=(.ext 2,([(1,.hp 0 0),(3,.int .i64 i),(4,.int .i64 k.data[i].cons.length),(50,.bool false)],[Blk.var false [dv,.int .i64 k.ty.k,.int .i64 k.ty.v,.str k.ty.nm,pv,av]]))∧k.data[i].cons.all G5=true) ∨
           (r=(.ret,([(2,.bool false)],[Blk.var false [dv,.int .i64 k.ty.k,.int .i64 k.ty.v,.str k.ty.nm,pv,av]]))∧k.data[i].cons.all G5=false)) (fun j b hj hJ=>by
           obtain ⟨ce,hce,hcR⟩:=hcv.ix hj
           have hj':=Aa hj
           have hwj:=AZ hj d4
           obtain ⟨c1,c2,c3⟩:=d5 _ (List.getElem_mem hj)
           obtain ⟨fv,rfl,hfv⟩:=hcR.dest
           rw [Kv hj] at hJ
           by_cases f12:12<k.data[i].cons[j].fields.length
           ·have f12':(12<(k.data[i].cons[j].fields.length:Int)):=by omega
            have hs:G5 k.data[i].cons[j]=false:=by simp [G5];intro h;omega
            rw [hs,Bool.false_and] at hJ
            exact .inr ⟨_,_,by simp [Tryz.f11,hi',he,hcv.len,hj',hce,hfv.len,f12'] <;> first | exact ⟨rfl,rfl⟩ | rfl,by simp,.inr ⟨rfl,hJ⟩⟩
           ·have f12':¬ (12<(k.data[i].cons[j].fields.length:Int)):=by omega
            have f12i:k.data[i].cons[j].fields.length≤12:=by omega
            have hsF:G5 k.data[i].cons[j]=k.data[i].cons[j].fields.all fun f=>A1 f.ty:=by simp [G5,f12i]
            rw [hsF] at hJ
            obtain ⟨e3,st3,hlp3,hq3⟩:=AR (M:=MX) (fid:=11) (N:=79) (C:=AH MX) (c:=AP Tryz.f11 2) (n:=k.data[i].cons[j].fields.length)
             (fun m (_:Unit)=>([(1,.hp 0 0),(3,.int .i64 i),(4,.int .i64 j),(5,fv),(6,.int .i64 m)],[Blk.var false [dv,.int .i64 k.ty.k,.int .i64 k.ty.v,.str k.ty.nm,pv,av]]))
             (fun m _=>(k.data[i].cons[j].fields.all fun f=>A1 f.ty)=(k.data[i].cons[j].fields.drop m).all fun f=>A1 f.ty)
             (fun r=>(r=(.ext 4,([(1,.hp 0 0),(3,.int .i64 i),(4,.int .i64 j),(5,fv),(6,.int .i64 k.data[i].cons[j].fields.length),(69,.bool false)],[Blk.var false [dv,.int .i64 k.ty.k,.int .i64 k.ty.v,.str k.ty.nm,pv,av]]))∧(k.data[i].cons[j].fields.all fun f=>A1 f.ty)=true) ∨
               (r=(.ret,([(2,.bool false)],[Blk.var false [dv,.int .i64 k.ty.k,.int .i64 k.ty.v,.str k.ty.nm,pv,av]]))∧(k.data[i].cons[j].fields.all fun f=>A1 f.ty)=false)) (fun m b hm hM=>by
               obtain ⟨fe,hfe,hfR⟩:=hfv.ix hm
               have hm':=Aa hm
               have hwm:=AZ hm c2
               obtain ⟨f1,f2⟩:=c3 _ (List.getElem_mem hm)
               obtain ⟨tx,rfl,htx⟩:=hfR
               have hT:=c59 htx f2
               obtain ⟨q1,rfl,hq1⟩:=htx.AY
               rw [Kv hm] at hM
               cases hT0:A1 k.data[i].cons[j].fields[m].ty with
               | false=>
                rw [hT0,Bool.false_and] at hM
                exact .inr ⟨_,_,by simp [Tryz.f11,hfv.len,hm',hfe,hT,hT0] <;> first | exact ⟨rfl,rfl⟩ | rfl,by simp,.inr ⟨rfl,hM⟩⟩
               | true=>
                rw [hT0,Bool.true_and] at hM
                exact .inl ⟨(),by simp [Tryz.f11,hfv.len,hm',hfe,hT,hT0,hwm],hM⟩) (fun b hM=>by
               rw [List.drop_length] at hM
               exact ⟨_,_,by simp [Tryz.f11,hfv.len] <;> first | exact ⟨rfl,rfl⟩ | rfl,by simp,.inl ⟨rfl,by rw [hM];rfl⟩⟩) () (by simp)
            simp [Tryz.f11] at hlp3
            rcases hq3 with ⟨hq3,hz⟩ | ⟨hq3,hz⟩ <;> cases hq3
            ·rw [hz,Bool.true_and] at hJ
             exact .inl ⟨(),by simp [Tryz.f11,hi',he,hcv.len,hj',hce,hfv.len,f12',hlp3,hwj],hJ⟩
            ·rw [hz,Bool.false_and] at hJ
             exact .inr ⟨_,_,by simp [Tryz.f11,hi',he,hcv.len,hj',hce,hfv.len,f12',hlp3] <;> first | exact ⟨rfl,rfl⟩ | rfl,by simp,.inr ⟨rfl,hJ⟩⟩) (fun b hJ=>by
           rw [List.drop_length] at hJ
           exact ⟨_,_,by simp [Tryz.f11,hi',he,hcv.len] <;> first | exact ⟨rfl,rfl⟩ | rfl,by simp,.inl ⟨rfl,by rw [hJ];rfl⟩⟩) () (by simp)
        simp [Tryz.f11] at hlp2
        rcases hq2 with ⟨hq2,hz⟩ | ⟨hq2,hz⟩ <;> cases hq2
        ·rw [hz,Bool.true_and] at hI
         exact .inl ⟨(),by simp [Tryz.f11,hd.len,hi',he,hcv.len,hqp.len,h20',h12',hlp2,hwi],hI⟩
        ·rw [hz,Bool.false_and] at hI
         exact .inr ⟨_,_,by simp [Tryz.f11,hd.len,hi',he,hcv.len,hqp.len,h20',h12',hlp2] <;> first | exact ⟨rfl,rfl⟩ | rfl,by simp,.inr ⟨rfl,hI⟩⟩) (fun b hI=>by
      rw [List.drop_length] at hI
      exact ⟨_,_,by simp [Tryz.f11,hd.len] <;> first | exact ⟨rfl,rfl⟩ | rfl,by simp,.inl ⟨rfl,by rw [hI];rfl⟩⟩) () (by simp)
   simp [Tryz.f11] at hlp
   rcases hq0 with ⟨hq0,hz⟩ | ⟨hq0,hz⟩ <;> cases hq0 <;> simp [AN,Tryz.f11,hd.len,ha.len,h24',h16',h24i,h16i,hlp] <;> simpa using hz
end Go.Proofs.Am12
