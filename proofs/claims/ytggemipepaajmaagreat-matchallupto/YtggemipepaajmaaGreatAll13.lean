/- The abstract machine of this claim, part 13. -/
import Derived.Test.YtggemipepaajmaaGreatAll12
import Derived.Test.YtggemipepaajmaaGreatRows
set_option linter.unusedSimpArgs false
set_option linter.unusedVariables false
set_option linter.unusedSectionVars false
set_option linter.unnecessarySimpa false
namespace Go.Proofs.Am12
open Go Go.Am Go.Proofs.YtggemipepaajmaaGreat
abbrev Bytes:=List UInt8
abbrev lim:Nat:=1048577
inductive TyV where
 | mk (k v:Int) (nm:Bytes) (ps:List TyV)
 deriving Inhabited
def TyV.k:TyV→Int | .mk k _ _ _=>k
def TyV.v:TyV→Int | .mk _ v _ _=>v
def TyV.nm:TyV→Bytes | .mk _ _ n _=>n
def TyV.ps:TyV→List TyV | .mk _ _ _ p=>p
theorem TyV.ind {P:TyV→Prop} (h:∀ k v nm ps,(∀ p∈ps,P p)→P (.mk k v nm ps)) (t:TyV):P t:=
 TyV.rec (motive_1:=P) (motive_2:=fun ps=>∀ p∈ps,P p) (fun k v nm ps ih=>h k v nm ps ih) (fun p hp=>by cases hp) (fun a r ha hr p hp=>by
  rcases List.mem_cons.1 hp with rfl | hp
  ·exact ha
  ·exact hr p hp) t
inductive AU:TyV→List AV→Prop where
 | nil (k v:Int) (nm:Bytes):AU (.mk k v nm []) [.int .i64 k,.int .i64 v,.str nm,.AI]
 | sl (k v:Int) (nm:Bytes) (ps:List TyV) (ex:Bool) (es:List (List AV)) (hl:es.length=ps.length) (h:∀ (i:Nat) t e,ps[i]? = some t→es[i]? = some e→AU t e) :
   AU (.mk k v nm ps) [.int .i64 k,.int .i64 v,.str nm,.sl 4 ex es]
theorem AU.dest {k v:Int} {nm:Bytes} {ps:List TyV} {xs:List AV} (h:AU (.mk k v nm ps) xs):∃ pv,xs=[.int .i64 k,.int .i64 v,.str nm,pv]∧SlR AU 4 ps pv:=by
 cases h with
 | nil=>exact ⟨_,rfl,.inl ⟨rfl,rfl⟩⟩
 | sl _ _ _ _ ex es hl h=>exact ⟨_,rfl,.inr ⟨ex,es,rfl,hl,h⟩⟩
theorem AU.intro {k v:Int} {nm:Bytes} {ps:List TyV} {pv:AV} (h:SlR AU 4 ps pv):AU (.mk k v nm ps) [.int .i64 k,.int .i64 v,.str nm,pv]:=by
 rcases h with ⟨rfl,rfl⟩ | ⟨ex,es,rfl,hl,h⟩
 ·exact .nil k v nm
 ·exact .sl k v nm ps ex es hl h
theorem AU.AG {t:TyV} {xs:List AV} (h:AU t xs):AG xs=true:=by
 cases t with
 | mk k v nm ps=>
  obtain ⟨pv,rfl,hp⟩:=h.dest
  simp [Am.AG,AV.AD,hp.AD]
theorem AU.len {t:TyV} {xs:List AV} (h:AU t xs):xs.length=4:=by
 cases h <;> rfl
inductive Sm (b:Nat):TyV→Prop where
 | mk (k v:Int) (nm:Bytes) (ps:List TyV) (h1:nm.length<b) (h2:ps.length<b) (h3:∀ p∈ps,Sm b p):Sm b (.mk k v nm ps)
theorem Sm.dest {b:Nat} {k v:Int} {nm:Bytes} {ps:List TyV} (h:Sm b (.mk k v nm ps)):nm.length<b∧ps.length<b∧∀ p∈ps,Sm b p:=by
 cases h with
 | mk _ _ _ _ h1 h2 h3=>exact ⟨h1,h2,h3⟩
def Bx (n:Bytes) (xs:List AV):Prop:=xs=[.str n]
structure B7 where
 nm:Bytes
 ty:TyV
 deriving Inhabited
def BR (f:B7) (xs:List AV):Prop:=∃ tx,xs=.str f.nm::tx∧AU f.ty tx
structure Bb where
 nm:Bytes
 fields:List B7
 deriving Inhabited
def Cu (c:Bb) (xs:List AV):Prop:=∃ fv,xs=[.str c.nm,fv]∧SlR BR 5 c.fields fv
structure AO where
 nm:Bytes
 params:List Bytes
 cons:List Bb
 deriving Inhabited
def Ab (d:AO) (xs:List AV):Prop:=∃ pv cv,xs=[.str d.nm,pv,cv]∧SlR Bx 1 d.params pv∧SlR Cu 2 d.cons cv
structure C0 where
 data:List AO
 ty:TyV
 arms:List TyV
def C1 (t:C0) (xs:List AV):Prop:=∃ dv tx av,xs=dv::tx++[av]∧SlR Ab 3 t.data dv∧AU t.ty tx∧SlR AU 4 t.arms av
def SmF (b:Nat) (f:B7):Prop:=f.nm.length<b∧Sm b f.ty
def SmC (b:Nat) (c:Bb):Prop:=c.nm.length<b∧c.fields.length<b∧∀ f∈c.fields,SmF b f
def SmD (b:Nat) (d:AO):Prop:=d.nm.length<b∧d.params.length<b∧(∀ p∈d.params,p.length<b)∧d.cons.length<b∧∀ c∈d.cons,SmC b c
def SmL (b:Nat) (l:List AO):Prop:=l.length<b∧∀ d∈l,SmD b d
def SmT (b:Nat) (t:C0):Prop:=SmL b t.data∧Sm b t.ty∧t.arms.length<b∧∀ p∈t.arms,Sm b p
theorem Hu {α β:Type} {R:α→β→Prop} {S:α→Prop}:∀ (es:List β),(∀ e∈es,∃ a,R a e∧S a)→∃ xs:List α,es.length=xs.length∧(∀ (i:Nat) a e,xs[i]? = some a→es[i]? = some e→R a e)∧∀ x∈xs,S x
 | [],_=>⟨[],rfl,fun i a e h=>by simp at h,fun x hx=>by cases hx⟩
 | e::r,h=>by
  obtain ⟨a,ha,hs⟩:=h e (by simp)
  obtain ⟨xs,h1,h2,h3⟩:=Hu r (fun x hx=>h x (by simp [hx]))
  refine ⟨a::xs,by simp [h1],fun i a' e' h3 h4 => ?_,fun x hx => ?_⟩
  ·cases i with
   | zero=>simp at h3 h4;exact h3 ▸ h4 ▸ ha
   | succ i=>exact h2 i a' e' (by simpa using h3) (by simpa using h4)
  ·rcases List.mem_cons.1 hx with rfl | hx
   ·exact hs
   ·exact h3 x hx
theorem und25:und MX.ty 25=some (.struct #[{ name := "Kind",type:=3,offset:=0,embedded:=false,tag := "",pkgPath := "",byteOffset:=0 },{ name := "Value",type:=3,offset:=1,embedded:=false,tag := "",pkgPath := "",byteOffset:=8 },
  { name := "Name",type:=9,offset:=2,embedded:=false,tag := "",pkgPath := "",byteOffset:=16 },{ name := "Parts",type:=23,offset:=3,embedded:=false,tag := "",pkgPath := "",byteOffset:=32 }]):=by kernel_rfl
theorem und62:und MX.ty 62=some (.struct #[{ name := "Kind",type:=3,offset:=0,embedded:=false,tag := "",pkgPath := "",byteOffset:=0 },{ name := "Value",type:=3,offset:=1,embedded:=false,tag := "",pkgPath := "",byteOffset:=8 },
  { name := "Name",type:=9,offset:=2,embedded:=false,tag := "",pkgPath := "",byteOffset:=16 },{ name := "Parts",type:=26,offset:=3,embedded:=false,tag := "",pkgPath := "",byteOffset:=32 }]):=by kernel_rfl
theorem und23:und MX.ty 23=some (.slice 25):=by kernel_rfl
theorem XP:und MX.ty 26=some (.slice 62):=by kernel_rfl
theorem RQ:und MX.ty 3=some (.int .i64):=by kernel_rfl
theorem Ts:und MX.ty 9=some .string:=by kernel_rfl
theorem siz25:siz MX.ty 25=4:=by kernel_rfl
theorem XQ:siz MX.ty 62=4:=by kernel_rfl
theorem sizX9:siz MX.ty 9=1:=by kernel_rfl
theorem Yd:siz MX.ty 103=3:=by kernel_rfl
theorem Ye:siz MX.ty 106=2:=by kernel_rfl
theorem Yf:siz MX.ty 109=5:=by kernel_rfl
section
variable {H:Type}
theorem QN {d:DataW H} {xs:List AV} (h:Shp MX 3 d xs):∃ n,xs=[.int .i64 n]∧(Lit.int .i64 n).wf=true:=by
 cases h with
 | int h n hw=>rw [RQ] at h;cases h;exact ⟨n,rfl,hw⟩
 | bool h=>rw [RQ] at h;cases h
 | str h=>rw [RQ] at h;cases h
 | nil h=>rw [RQ] at h;cases h
 | sl h=>rw [RQ] at h;cases h
 | struct h=>rw [RQ] at h;cases h
theorem JJ {d:DataW H} {xs:List AV} {b:Nat} (h:Shp MX 9 d xs) (hb:Rows.uptoBulk d<b):∃ s,xs=[.str s]∧s.length<b:=by
 cases h with
 | str h s=>exact ⟨s,rfl,by simp only [Rows.uptoBulk] at hb;omega⟩
 | int h=>rw [Ts] at h;cases h
 | bool h=>rw [Ts] at h;cases h
 | nil h=>rw [Ts] at h;cases h
 | sl h=>rw [Ts] at h;cases h
 | struct h=>rw [Ts] at h;cases h
theorem one_le (d:DataW H):1≤Rows.uptoBulk d:=by
 cases d with
 | lit l=>cases l <;> simp [Rows.uptoBulk]
 | _=>simp [Rows.uptoBulk]
theorem Mf {d:DataW H} {l:List (DataW H)} (h:d∈l):Rows.uptoBulk d≤Rows.uptoBulkAll l:=by
 induction l with
 | nil=>cases h
 | cons x r ih=>
  simp only [Rows.uptoBulkAll]
  rcases List.mem_cons.1 h with rfl | e
  ·omega
  ·have:=ih e;omega
theorem length_le (l:List (DataW H)):l.length≤Rows.uptoBulkAll l:=by
 induction l with
 | nil=>simp
 | cons x r ih=>have:=one_le x;simp only [Rows.uptoBulkAll,List.length_cons];omega
theorem Hv {α:Type} {R:α→List AV→Prop} {S:α→Prop} {t e:TypeId} {d:DataW H} {xs:List AV} {b:Nat} (hu:und MX.ty t=some (.slice e)) (hR:∀ (d:DataW H) xs,Shp MX e d xs→Rows.uptoBulk d<b→∃ a,R a xs∧S a) (h:Shp MX t d xs) (hb:Rows.uptoBulk d<b) :
  ∃ l v,xs=[v]∧SlR R (siz MX.ty e) l v∧l.length<b∧∀ x∈l,S x:=by
 cases h with
 | nil h=>exact ⟨[],_,rfl,.inl ⟨rfl,rfl⟩,by have:=one_le (DataW.nil:DataW H);simp;omega,fun x hx=>by cases hx⟩
 | sl h ds sp es hl hs=>
  rw [hu] at h
  cases h
  simp only [Rows.uptoBulk] at hb
  obtain ⟨l,h1,h2,h3⟩:=Hu (R:=R) (S:=S) es (fun x hx=>by
   obtain ⟨i,hi⟩:=List.mem_iff_getElem?.1 hx
   have hlt:i<ds.length:=by rw [← hl];exact (List.getElem?_eq_some_iff.1 hi).1
   exact hR _ _ (hs i ds[i] x (List.getElem?_eq_getElem hlt) hi) (by have:=Mf (List.getElem_mem hlt);omega))
  have:=length_le ds
  exact ⟨l,_,rfl,.inr ⟨false,es,rfl,h1,h2⟩,by omega,h3⟩
 | bool h=>rw [hu] at h;cases h
 | int h=>rw [hu] at h;cases h
 | str h=>rw [hu] at h;cases h
 | struct h=>rw [hu] at h;cases h
theorem HR {t:TypeId} {fs:Array Field} {d:DataW H} {xs:List AV} {b:Nat} (hu:und MX.ty t=some (.struct fs)) (h:Shp MX t d xs) (hb:Rows.uptoBulk d<b) :
  ∃ (ds:List (DataW H)) (rows:List (List AV)),xs=rows.flatten∧rows.length=ds.length∧fs.size=ds.length∧(∀ (i:Nat) f d a,fs[i]? = some f→ds[i]? = some d→rows[i]? = some a→Shp MX f.type d a)∧∀ d∈ds,Rows.uptoBulk d<b:=by
 cases h with
 | struct h ds rows hl hf hs=>
  rw [hu] at h;cases h
  exact ⟨ds,rows,rfl,hl,hf,hs,fun d hd=>by have:=Mf hd;simp only [Rows.uptoBulk] at hb;omega⟩
 | nil h=>rw [hu] at h;cases h
 | sl h=>rw [hu] at h;cases h
 | bool h=>rw [hu] at h;cases h
 | int h=>rw [hu] at h;cases h
 | str h=>rw [hu] at h;cases h
theorem QO {tT tS:TypeId} {n1 n2 n3 n4:String} {o1 o2 o3 o4:Nat} (hT:und MX.ty tT=some (.struct #[{ name:=n1,type:=3,offset:=0,embedded:=false,tag := "",pkgPath := "",byteOffset:=o1 },{ name:=n2,type:=3,offset:=1,embedded:=false,tag := "",pkgPath := "",byteOffset:=o2 },
  { name:=n3,type:=9,offset:=2,embedded:=false,tag := "",pkgPath := "",byteOffset:=o3 },{ name:=n4,type:=tS,offset:=3,embedded:=false,tag := "",pkgPath := "",byteOffset:=o4 }])) (hS:und MX.ty tS=some (.slice tT)) (hz:siz MX.ty tT=4) {t:TypeId} {d:DataW H} {xs:List AV} (h:Shp MX t d xs) {b:Nat} (hb:Rows.uptoBulk d<b) :
  (t=tT→∃ tv,AU tv xs∧Sm b tv)∧(t=tS→∃ l v,xs=[v]∧SlR AU 4 l v∧l.length<b∧∀ x∈l,Sm b x):=by
 induction h with
 | bool h b=>exact ⟨fun e=>(by subst e;rw [hT] at h;cases h),fun e=>(by subst e;rw [hS] at h;cases h)⟩
 | int h n hw=>exact ⟨fun e=>(by subst e;rw [hT] at h;cases h),fun e=>(by subst e;rw [hS] at h;cases h)⟩
 | str h bs=>exact ⟨fun e=>(by subst e;rw [hT] at h;cases h),fun e=>(by subst e;rw [hS] at h;cases h)⟩
 | nil h=>exact ⟨fun e=>(by subst e;rw [hT] at h;cases h),fun e=>⟨[],.AI,rfl,.inl ⟨rfl,rfl⟩,by have:=one_le (DataW.nil:DataW H);simp;omega,fun x hx=>by cases hx⟩⟩
 | sl h ds sp es hl hs ih=>
  refine ⟨fun e=>(by subst e;rw [hT] at h;cases h),fun e => ?_⟩
  subst e
  rw [hS] at h
  cases h
  rw [hz]
  simp only [Rows.uptoBulk] at hb
  obtain ⟨l,h1,h2,h3⟩:=Hu (R:=AU) (S:=Sm b) es (fun x hx=>by
   obtain ⟨i,hi⟩:=List.mem_iff_getElem?.1 hx
   have hlt:i<ds.length:=by rw [← hl];exact (List.getElem?_eq_some_iff.1 hi).1
   exact (ih i ds[i] x (List.getElem?_eq_getElem hlt) hi (by have:=Mf (List.getElem_mem hlt);omega)).1 rfl)
  have:=length_le ds
  exact ⟨l,_,rfl,.inr ⟨false,es,rfl,h1,h2⟩,by omega,h3⟩
 | struct h ds rows hl hf hs ih=>
  refine ⟨fun e => ?_,fun e=>(by subst e;rw [hS] at h;cases h)⟩
  subst e
  rw [hT] at h
  cases h
  simp only [List.size_toArray,List.length_cons,List.length_nil] at hf
  match ds,rows,hf,hl with
  | [d0,d1,d2,d3],[a0,a1,a2,a3],_,_=>
   simp only [Rows.uptoBulk,Rows.uptoBulkAll] at hb
   obtain ⟨k,rfl,_⟩:=QN (hs 0 _ d0 a0 rfl rfl rfl)
   obtain ⟨v,rfl,_⟩:=QN (hs 1 _ d1 a1 rfl rfl rfl)
   obtain ⟨nm,rfl,hnm⟩:=JJ (b:=b) (hs 2 _ d2 a2 rfl rfl rfl) (by omega)
   obtain ⟨l,pv,rfl,hp,hlb,hS⟩:=(ih 3 _ d3 a3 rfl rfl rfl (by omega)).2 rfl
   exact ⟨.mk k v nm l,AU.intro hp,.mk k v nm l hnm hlb hS⟩
theorem Tt {b:Nat} (d:DataW H) (xs:List AV) (h:Shp MX 25 d xs) (hb:Rows.uptoBulk d<b):∃ tv,AU tv xs∧Sm b tv:=(QO und25 und23 siz25 h hb).1 rfl
theorem WN {b:Nat} (d:DataW H) (xs:List AV) (h:Shp MX 62 d xs) (hb:Rows.uptoBulk d<b):∃ tv,AU tv xs∧Sm b tv:=(QO und62 XP XQ h hb).1 rfl
theorem Yg:und MX.ty 109=some (.struct #[{ name := "Name",type:=9,offset:=0,embedded:=false,tag := "",pkgPath := "",byteOffset:=0 },{ name := "Type",type:=25,offset:=1,embedded:=false,tag := "",pkgPath := "",byteOffset:=16 }]):=by kernel_rfl
theorem Yh:und MX.ty 106=some (.struct #[{ name := "Name",type:=9,offset:=0,embedded:=false,tag := "",pkgPath := "",byteOffset:=0 },{ name := "Fields",type:=104,offset:=1,embedded:=false,tag := "",pkgPath := "",byteOffset:=16 }]):=by kernel_rfl
theorem Yi:und MX.ty 103=some (.struct #[{ name := "Name",type:=9,offset:=0,embedded:=false,tag := "",pkgPath := "",byteOffset:=0 },{ name := "Params",type:=100,offset:=1,embedded:=false,tag := "",pkgPath := "",byteOffset:=16 },{ name := "Constructors",type:=101,offset:=2,embedded:=false,tag := "",pkgPath := "",byteOffset:=40 }]):=by kernel_rfl
theorem und28:und MX.ty 28=some (.struct #[{ name := "Data",type:=22,offset:=0,embedded:=false,tag := "",pkgPath := "",byteOffset:=0 },{ name := "Type",type:=25,offset:=1,embedded:=false,tag := "",pkgPath := "",byteOffset:=24 },{ name := "Arms",type:=26,offset:=5,embedded:=false,tag := "",pkgPath := "",byteOffset:=80 }]):=by kernel_rfl
theorem WO:und MX.ty 100=some (.slice 9):=by kernel_rfl
theorem Yj:und MX.ty 101=some (.slice 106):=by kernel_rfl
theorem Yk:und MX.ty 104=some (.slice 109):=by kernel_rfl
theorem und22:und MX.ty 22=some (.slice 103):=by kernel_rfl
theorem RR {b:Nat} (d:DataW H) (xs:List AV) (h:Shp MX 109 d xs) (hb:Rows.uptoBulk d<b):∃ f,BR f xs∧SmF b f:=by
 obtain ⟨ds,rows,rfl,hl,hf,hs,hbs⟩:=HR Yg h hb
 match ds,rows,hf,hl with
 | [d0,d1],[a0,a1],_,_=>
  obtain ⟨nm,rfl,hn⟩:=JJ (hs 0 _ d0 a0 rfl rfl rfl) (hbs d0 (by simp))
  obtain ⟨tv,ht,hst⟩:=Tt _ _ (hs 1 _ d1 a1 rfl rfl rfl) (hbs d1 (by simp))
  exact ⟨⟨nm,tv⟩,⟨a1,by simp,ht⟩,hn,hst⟩
theorem WQ {b:Nat} (d:DataW H) (xs:List AV) (h:Shp MX 106 d xs) (hb:Rows.uptoBulk d<b):∃ c,Cu c xs∧SmC b c:=by
 obtain ⟨ds,rows,rfl,hl,hf,hs,hbs⟩:=HR Yh h hb
 match ds,rows,hf,hl with
 | [d0,d1],[a0,a1],_,_=>
  obtain ⟨nm,rfl,hn⟩:=JJ (hs 0 _ d0 a0 rfl rfl rfl) (hbs d0 (by simp))
  obtain ⟨l,v,rfl,hv,hlb,hS⟩:=Hv (R:=BR) (S:=SmF b) Yk (fun d xs=>RR d xs) (hs 1 _ d1 a1 rfl rfl rfl) (hbs d1 (by simp))
  rw [Yf] at hv
  exact ⟨⟨nm,l⟩,⟨v,by simp,hv⟩,hn,hlb,hS⟩
theorem Tu {b:Nat} (d:DataW H) (xs:List AV) (h:Shp MX 103 d xs) (hb:Rows.uptoBulk d<b):∃ c,Ab c xs∧SmD b c:=by
 obtain ⟨ds,rows,rfl,hl,hf,hs,hbs⟩:=HR Yi h hb
 match ds,rows,hf,hl with
 | [d0,d1,d2],[a0,a1,a2],_,_=>
  obtain ⟨nm,rfl,hn⟩:=JJ (hs 0 _ d0 a0 rfl rfl rfl) (hbs d0 (by simp))
  obtain ⟨l,v,rfl,hv,hlb,hS⟩:=Hv (R:=Bx) (S:=fun s=>s.length<b) WO (fun d xs h hb=>JJ h hb) (hs 1 _ d1 a1 rfl rfl rfl) (hbs d1 (by simp))
  obtain ⟨m,w,rfl,hw,hmb,hM⟩:=Hv (R:=Cu) (S:=SmC b) Yj (fun d xs=>WQ d xs) (hs 2 _ d2 a2 rfl rfl rfl) (hbs d2 (by simp))
  rw [sizX9] at hv
  rw [Ye] at hw
  exact ⟨⟨nm,l,m⟩,⟨v,w,by simp,hv,hw⟩,hn,hlb,hS,hmb,hM⟩
theorem Tv {b:Nat} (d:DataW H) (xs:List AV) (h:Shp MX 28 d xs) (hb:Rows.uptoBulk d<b):∃ c,C1 c xs∧SmT b c:=by
 obtain ⟨ds,rows,rfl,hl,hf,hs,hbs⟩:=HR und28 h hb
 match ds,rows,hf,hl with
 | [d0,d1,d2],[a0,a1,a2],_,_=>
  obtain ⟨l,v,rfl,hv,hlb,hS⟩:=Hv (R:=Ab) (S:=SmD b) und22 (fun d xs=>Tu d xs) (hs 0 _ d0 a0 rfl rfl rfl) (hbs d0 (by simp))
  obtain ⟨tv,ht,hst⟩:=Tt _ _ (hs 1 _ d1 a1 rfl rfl rfl) (hbs d1 (by simp))
  obtain ⟨m,w,rfl,hw,hmb,hM⟩:=Hv (R:=AU) (S:=Sm b) XP (fun d xs=>WN d xs) (hs 2 _ d2 a2 rfl rfl rfl) (hbs d2 (by simp))
  rw [Yd] at hv
  rw [XQ] at hw
  exact ⟨⟨l,tv,m⟩,⟨v,a1,w,by simp,hv,ht,hw⟩,⟨hlb,hS⟩,hst,hmb,hM⟩
end
end Go.Proofs.Am12
namespace Go.Proofs.Am12
open Go Go.Am
attribute [local simp] Du CY EX Dv Ch Dw Dx Ew Ba BS Bg Al GC FC EK Gv D2 BA E3 EL Gw Gx xUn Er D3 FD BK DD BL D4 BM D5 Cp Cf B8 BG EM EO
 ev evs Cy DC OR.ofV OR.Dc OR.ofC FH Tm.get Tm.init Tm.only A2 BC CO finish CB Cg Gu Dn D1 unA Ca Br Cb Bs C4 C5 C6 Bt C7 C8 Bu C9 DA Bv Cc AQ CQ Bq C2 C3 CZ Ey Ez E0 Dy Dz FT F6 F7 FU stA A5 DQ B6 EP DE Es Gd Cd
set_option maxHeartbeats 1000000
theorem Aj {s:Bytes} {i:Nat} (hi:i<s.length):(CJ s)[i]? = some [.int .u8 s[i].toNat]:=by simp [CJ,hi]
theorem Ai {f:FuncId} {args:List AV} {v:AV} {hr:AE} (hm:MX.mode f = { fresh:=true }) (he:MX.eff f=none) (ha:args.all AV.AD=true) (hv:v.AD=true) (hc:AN MX f args []=some (.ret v,hr)) (h:AE) :
  AK MX (AH MX) f args h=some (.ret v,h):=by
 have hs:∀ {l:List AV} {h:AE},l.all AV.AD=true→Ax l h=some (l,h):=by
  intro l
  induction l with
  | nil=>intro h _;rfl
  | cons a r ih=>
   intro h hn
   simp only [List.all_cons,Bool.and_eq_true] at hn
   simp only [Ax,hn.1,ih hn.2]
 unfold AK
 simp only [hm,hs ha,ha,G4 he hc,Bp,hv]
theorem HY {f:FuncId} {args:List AV} {v v':AV} {hr hr':AE} (hm:MX.mode f = { fresh:=true }) (he:MX.eff f=none) (ha:args.all AV.AD=true) (hv:v.AD=false) (hsn:snap Cn v hr=some (v',hr')) (hv':v'.AD=true) (hc:AN MX f args []=some (.ret v,hr)) (h:AE) :
  AK MX (AH MX) f args h=some (.ret v',h):=by
 have hs:∀ {l:List AV} {h:AE},l.all AV.AD=true→Ax l h=some (l,h):=by
  intro l
  induction l with
  | nil=>intro h _;rfl
  | cons a r ih=>
   intro h hn
   simp only [List.all_cons,Bool.and_eq_true] at hn
   simp only [Ax,hn.1,ih hn.2]
 unfold AK
 simp only [hm,hs ha,ha,G4 he hc,Bp,hv,hsn,hv']
theorem Oz (n lo hi:Int) (h:AE):AN MX 104 [.int .i64 n,.int .i64 lo,.int .i64 hi] h=some (.ret (.bool (decide (lo≤n∧n≤hi))),h):=by
 by_cases h1:lo≤n <;> by_cases h2:n≤hi <;> simp [AN,Tryz.f104,h1,h2]
theorem O0 (n lo hi:Int) (h:AE):AN MX 181 [.int .i64 n,.int .i64 lo,.int .i64 hi] h=some (.ret (.bool (decide (lo≤n∧n≤hi))),h):=by
 by_cases h1:lo≤n <;> by_cases h2:n≤hi <;> simp [AN,Tryz.f181,h1,h2]
theorem O4 (n lo hi:Int) (h:AE):AN MX 196 [.int .i64 n,.int .i64 lo,.int .i64 hi] h=some (.ret (.bool (decide (lo≤n∧n≤hi))),h):=by
 by_cases h1:lo≤n <;> by_cases h2:n≤hi <;> simp [AN,Tryz.f196,h1,h2]
@[simp] theorem c104 (n lo hi:Int) (h:AE):AK MX (AH MX) 104 [.int .i64 n,.int .i64 lo,.int .i64 hi] h=some (.ret (.bool (decide (lo≤n∧n≤hi))),h):=Ai Sn VX rfl rfl (Oz n lo hi []) h
@[simp] theorem c181 (n lo hi:Int) (h:AE):AK MX (AH MX) 181 [.int .i64 n,.int .i64 lo,.int .i64 hi] h=some (.ret (.bool (decide (lo≤n∧n≤hi))),h):=Ai S8 Vr rfl rfl (O0 n lo hi []) h
@[simp] theorem O5 (n lo hi:Int) (h:AE):AK MX (AH MX) 196 [.int .i64 n,.int .i64 lo,.int .i64 hi] h=some (.ret (.bool (decide (lo≤n∧n≤hi))),h):=Ai TE Vx rfl rfl (O4 n lo hi []) h
theorem t111 (b:Bool) (e:Int) (h:AE):AN MX 111 [.bool b,.int .i64 e] h=some (.ret (.int .i64 (if b then 0 else e)),h):=by
 cases b <;> simp [AN,Tryz.f111]
theorem t215 (b:Bool) (e:Int) (h:AE):AN MX 215 [.bool b,.int .i64 e] h=some (.ret (.int .i64 (if b then 0 else e)),h):=by
 cases b <;> simp [AN,Tryz.f215]
@[simp] theorem c111 (b:Bool) (e:Int) (h:AE):AK MX (AH MX) 111 [.bool b,.int .i64 e] h=some (.ret (.int .i64 (if b then 0 else e)),h):=Ai Sq VZ rfl rfl (t111 b e []) h
@[simp] theorem Jc (b:Bool) (e:Int) (h:AE):AK MX (AH MX) 215 [.bool b,.int .i64 e] h=some (.ret (.int .i64 (if b then 0 else e)),h):=Ai TK V4 rfl rfl (t215 b e []) h
theorem Yl (n:Int) (h:AE):AN MX 155 [.int .i64 n] h=some (.ret (.bool (decide (1≤n∧n≤16))),h):=by
 simp [AN,Tryz.f155]
@[simp] theorem c155 (n:Int) (h:AE):AK MX (AH MX) 155 [.int .i64 n] h=some (.ret (.bool (decide (1≤n∧n≤16))),h):=Ai S2 Vl rfl rfl (Yl n []) h
def ints (l:List Int):List (List AV):=l.map fun e=>[AV.int .i64 e]
def Av:List Int→Int
 | []=>0
 | e::r=>if e=0 then Av r else e
theorem JK {l:List Int} {i:Nat} (hi:i<l.length):Av (l.drop i)=if l[i]=0 then Av (l.drop (i+1)) else l[i]:=by
 rw [List.drop_eq_getElem_cons hi];rfl
theorem t97 (l:List Int) (ex:Bool) (hl:l.length<1048577) (h:AE):AN MX 97 [.sl 1 ex (ints l)] h=some (.ret (.int .i64 (Av l)),h):=by
 obtain ⟨e,st,hlp,hq⟩:=AR (M:=MX) (fid:=97) (N:=15) (C:=AH MX) (c:=AQ Tryz.f97 0) (n:=l.length) (fun i (_:Unit)=>([(5,.sl 1 ex (ints l)),(6,.int .i64 l.length),(7,.int .i64 i)],h)) (fun i _=>Av l=Av (l.drop i))
  (fun r=>(r=(.ext 0,([(5,.sl 1 ex (ints l)),(6,.int .i64 l.length),(7,.int .i64 l.length),(8,.bool false)],h))∧Av l=0)∨(r=(.ret,([(2,.int .i64 (Av l))],h)))) (fun i b hi hI=>by
    have hi':((i:Int)<(l.length:Int)):=by omega
    have hw:wr .i64 ((i:Int)+1)=(i:Int)+1:=BI (by omega) (by omega)
    have hx:=Gn i 1 ex (ints l) .i64 (by simpa [ints] using hi)
    have he:(ints l)[i]'(by simpa [ints] using hi)=[.int .i64 l[i]]:=by simp [ints]
    rw [he] at hx
    have hd:=JK hi
    by_cases h0:l[i]=0
    ·exact .inl ⟨(),by simp [Tryz.f97,hi',hx,h0,hw],by rw [hI,hd,if_pos h0]⟩
    ·have hne:(l[i] != 0)=true:=by simp [h0]
     rw [if_neg h0] at hd
     exact .inr ⟨_,_,by simp [Tryz.f97,hi',hx,hne] <;> exact ⟨rfl,rfl⟩,by simp,.inr (by rw [hI,hd])⟩) (fun b hI=>by
    refine ⟨_,_,by simp [Tryz.f97] <;> exact ⟨rfl,rfl⟩,by simp,.inl ⟨rfl,?_⟩⟩
    rw [hI,List.drop_length];rfl) () (by simp)
 simp [Tryz.f97] at hlp
 rcases hq with ⟨hq,ha⟩ | hq <;> cases hq
 ·simp [AN,Tryz.f97,ints,hlp,ha]
  simp only [ints] at hlp
  simp [hlp]
 ·simp [AN,Tryz.f97,ints]
  simp only [ints] at hlp
  simp [hlp]
theorem c97 (l:List Int) (ex:Bool) (hl:l.length<1048577) (h:AE):AK MX (AH MX) 97 [.sl 1 ex (ints l)] h=some (.ret (.int .i64 (Av l)),h):=Ai VW YP rfl rfl (t97 l ex hl []) h
@[simp] theorem c97_2 (a b:Int) (ex:Bool) (h:AE):AK MX (AH MX) 97 [.sl 1 ex [[.int .i64 a],[.int .i64 b]]] h=some (.ret (.int .i64 (Av [a,b])),h):=c97 [a,b] ex (by simp) h
@[simp] theorem c97_3 (a b c:Int) (ex:Bool) (h:AE):AK MX (AH MX) 97 [.sl 1 ex [[.int .i64 a],[.int .i64 b],[.int .i64 c]]] h=some (.ret (.int .i64 (Av [a,b,c])),h):=c97 [a,b,c] ex (by simp) h
theorem t217 (l:List Int) (ex:Bool) (hl:l.length<1048577) (h:AE):AN MX 217 [.sl 1 ex (ints l)] h=some (.ret (.int .i64 (Av l)),h):=by
 obtain ⟨e,st,hlp,hq⟩:=AR (M:=MX) (fid:=217) (N:=15) (C:=AH MX) (c:=AQ Tryz.f217 0) (n:=l.length) (fun i (_:Unit)=>([(5,.sl 1 ex (ints l)),(6,.int .i64 l.length),(7,.int .i64 i)],h)) (fun i _=>Av l=Av (l.drop i))
  (fun r=>(r=(.ext 0,([(5,.sl 1 ex (ints l)),(6,.int .i64 l.length),(7,.int .i64 l.length),(8,.bool false)],h))∧Av l=0)∨(r=(.ret,([(2,.int .i64 (Av l))],h)))) (fun i b hi hI=>by
    have hi':((i:Int)<(l.length:Int)):=by omega
    have hw:wr .i64 ((i:Int)+1)=(i:Int)+1:=BI (by omega) (by omega)
    have hx:=Gn i 1 ex (ints l) .i64 (by simpa [ints] using hi)
    have he:(ints l)[i]'(by simpa [ints] using hi)=[.int .i64 l[i]]:=by simp [ints]
    rw [he] at hx
    have hd:=JK hi
    by_cases h0:l[i]=0
    ·exact .inl ⟨(),by simp [Tryz.f217,hi',hx,h0,hw],by rw [hI,hd,if_pos h0]⟩
    ·have hne:(l[i] != 0)=true:=by simp [h0]
     rw [if_neg h0] at hd
     exact .inr ⟨_,_,by simp [Tryz.f217,hi',hx,hne] <;> exact ⟨rfl,rfl⟩,by simp,.inr (by rw [hI,hd])⟩) (fun b hI=>by
    refine ⟨_,_,by simp [Tryz.f217] <;> exact ⟨rfl,rfl⟩,by simp,.inl ⟨rfl,?_⟩⟩
    rw [hI,List.drop_length];rfl) () (by simp)
 simp [Tryz.f217] at hlp
 rcases hq with ⟨hq,ha⟩ | hq <;> cases hq
 ·simp [AN,Tryz.f217,ints,hlp,ha]
  simp only [ints] at hlp
  simp [hlp]
 ·simp [AN,Tryz.f217,ints]
  simp only [ints] at hlp
  simp [hlp]
theorem c217 (l:List Int) (ex:Bool) (hl:l.length<1048577) (h:AE):AK MX (AH MX) 217 [.sl 1 ex (ints l)] h=some (.ret (.int .i64 (Av l)),h):=Ai TL V5 rfl rfl (t217 l ex hl []) h
@[simp] theorem c217_2 (a b:Int) (ex:Bool) (h:AE):AK MX (AH MX) 217 [.sl 1 ex [[.int .i64 a],[.int .i64 b]]] h=some (.ret (.int .i64 (Av [a,b])),h):=c217 [a,b] ex (by simp) h
def CA (i:Nat) (n:Nat):Bool:=(decide (97≤n∧n≤122)||decide (65≤n∧n≤90))||(decide (i≠0)&&(decide (n=95)||decide (48≤n∧n≤57)))
def F8:Nat→Bytes→Bool
 | _,[]=>true
 | i,b::r=>CA i b.toNat&&F8 (i+1) r
def A6 (s:Bytes):Bool:=decide (1≤s.length∧s.length≤16)&&F8 0 s
theorem Io {s:Bytes} {i:Nat} (hi:i<s.length):F8 i (s.drop i)=(CA i s[i].toNat&&F8 (i+1) (s.drop (i+1))):=by
 rw [List.drop_eq_getElem_cons hi];rfl
theorem nine (n:Nat):n<48∨(48≤n∧n≤57)∨(57<n∧n<65)∨(65≤n∧n≤90)∨(90<n∧n<95)∨n=95∨n=96∨(97≤n∧n≤122)∨122<n:=by omega
theorem t157 (s:Bytes) (hs:s.length<1048577) (h:AE):AN MX 157 [.str s] h=some (.ret (.bool (A6 s)),h):=by
 by_cases hl:1≤s.length∧s.length≤16
 ·obtain ⟨e,st,hlp,hq⟩:=AR (M:=MX) (fid:=157) (N:=55) (C:=AH MX) (c:=AQ Tryz.f157 0) (n:=s.length) (fun i (_:Unit)=>([(0,.str s),(3,.int .i64 i)],h)) (fun i _=>F8 0 s=F8 i (s.drop i))
   (fun r=>(r=(.ext 0,([(0,.str s),(3,.int .i64 s.length),(17,.bool false)],h))∧F8 0 s=true)∨(r=(.ret,([(2,.bool false)],h))∧F8 0 s=false)) (fun i b hi hI=>by
   obtain ⟨n,hn⟩:∃ n,n=s[i].toNat:=⟨_,rfl⟩
   have hd:=Io hi
   rw [← hn] at hd
   have hw:wr .i64 ((i:Int)+1)=(i:Int)+1:=BI (by omega) (by omega)
   have hi':((i:Int)<(s.length:Int)):=by omega
   have key:(CA i n=true∧Aa MX 157 55 (AH MX) (AQ Tryz.f157 0) ([(0,AV.str s),(3,AV.int .i64 i)],h)=some (.nrm,([(0,AV.str s),(3,AV.int .i64 ((i:Int)+1))],h)))∨(CA i n=false∧Aa MX 157 55 (AH MX) (AQ Tryz.f157 0) ([(0,AV.str s),(3,AV.int .i64 i)],h)=some (.ret,([(2,.bool false)],h))):=by
    have hc:∀ k:Nat,((k:Int)≤(n:Int)↔k≤n)∧((n:Int)≤(k:Int)↔n≤k)∧((n:Int)<(k:Int)↔n<k)∧((k:Int)<(n:Int)↔k<n)∧((n:Int)=(k:Int)↔n=k):=fun k=>by omega
    have c1:=(hc 97).1;have c2:=(hc 122).2.1;have c3:=(hc 65).1;have c4:=(hc 90).2.1;have c5:=(hc 95).2.2.2.2;have c6:=(hc 48).2.2.1;have c7:=(hc 57).2.2.2.1
    simp only [Int.cast_ofNat_Int] at c1 c2 c3 c4 c5 c6 c7
    have hc5:((n:Int) != 95)=decide (n≠95):=by rw [Bool.eq_iff_iff];simp [c5]
    by_cases h0:i=0
    ·have e0:((i:Int) == 0)=true:=by simp [h0]
     rcases nine n with h | h | h | h | h | h | h | h | h
     ·have p0:¬ (97≤n):=(by omega);have p1:n≤122:=(by omega);have p2:¬ (65≤n):=(by omega);have p3:n≤90:=(by omega);have p4:¬ (n=95):=(by omega);have p5:n<48:=(by omega);have p6:¬ (57<n):=(by omega);exact .inr ⟨by simp only [CA,h0,p0,p1,p2,p3,p4];simp;try omega,by simp [Tryz.f157,← hn,hi',hc5,e0,c1,c2,c3,c4,c5,c6,c7,p0,p1,p2,p3,p4,p5,p6,hw,DX _ .i64 _ hi]⟩
     ·have p0:¬ (97≤n):=(by omega);have p1:n≤122:=(by omega);have p2:¬ (65≤n):=(by omega);have p3:n≤90:=(by omega);have p4:¬ (n=95):=(by omega);have p5:¬ (n<48):=(by omega);have p6:¬ (57<n):=(by omega);exact .inr ⟨by simp only [CA,h0,p0,p1,p2,p3,p4];simp;try omega,by simp [Tryz.f157,← hn,hi',hc5,e0,c1,c2,c3,c4,c5,c6,c7,p0,p1,p2,p3,p4,p5,p6,hw,DX _ .i64 _ hi]⟩
     ·have p0:¬ (97≤n):=(by omega);have p1:n≤122:=(by omega);have p2:¬ (65≤n):=(by omega);have p3:n≤90:=(by omega);have p4:¬ (n=95):=(by omega);have p5:¬ (n<48):=(by omega);have p6:57<n:=(by omega);exact .inr ⟨by simp only [CA,h0,p0,p1,p2,p3,p4];simp;try omega,by simp [Tryz.f157,← hn,hi',hc5,e0,c1,c2,c3,c4,c5,c6,c7,p0,p1,p2,p3,p4,p5,p6,hw,DX _ .i64 _ hi]⟩
     ·have p0:¬ (97≤n):=(by omega);have p1:n≤122:=(by omega);have p2:65≤n:=(by omega);have p3:n≤90:=(by omega);have p4:¬ (n=95):=(by omega);have p5:¬ (n<48):=(by omega);have p6:57<n:=(by omega);exact .inl ⟨by simp only [CA,h0,p0,p1,p2,p3,p4];simp;try omega,by simp [Tryz.f157,← hn,hi',hc5,e0,c1,c2,c3,c4,c5,c6,c7,p0,p1,p2,p3,p4,p5,p6,hw,DX _ .i64 _ hi]⟩
     ·have p0:¬ (97≤n):=(by omega);have p1:n≤122:=(by omega);have p2:65≤n:=(by omega);have p3:¬ (n≤90):=(by omega);have p4:¬ (n=95):=(by omega);have p5:¬ (n<48):=(by omega);have p6:57<n:=(by omega);exact .inr ⟨by simp only [CA,h0,p0,p1,p2,p3,p4];simp;try omega,by simp [Tryz.f157,← hn,hi',hc5,e0,c1,c2,c3,c4,c5,c6,c7,p0,p1,p2,p3,p4,p5,p6,hw,DX _ .i64 _ hi]⟩
     ·have p0:¬ (97≤n):=(by omega);have p1:n≤122:=(by omega);have p2:65≤n:=(by omega);have p3:¬ (n≤90):=(by omega);have p4:n=95:=(by omega);have p5:¬ (n<48):=(by omega);have p6:57<n:=(by omega);exact .inr ⟨by simp only [CA,h0,p0,p1,p2,p3,p4];simp;try omega,by simp [Tryz.f157,← hn,hi',hc5,e0,c1,c2,c3,c4,c5,c6,c7,p0,p1,p2,p3,p4,p5,p6,hw,DX _ .i64 _ hi]⟩
     ·have p0:¬ (97≤n):=(by omega);have p1:n≤122:=(by omega);have p2:65≤n:=(by omega);have p3:¬ (n≤90):=(by omega);have p4:¬ (n=95):=(by omega);have p5:¬ (n<48):=(by omega);have p6:57<n:=(by omega);exact .inr ⟨by simp only [CA,h0,p0,p1,p2,p3,p4];simp;try omega,by simp [Tryz.f157,← hn,hi',hc5,e0,c1,c2,c3,c4,c5,c6,c7,p0,p1,p2,p3,p4,p5,p6,hw,DX _ .i64 _ hi]⟩
     ·have p0:97≤n:=(by omega);have p1:n≤122:=(by omega);have p2:65≤n:=(by omega);have p3:¬ (n≤90):=(by omega);have p4:¬ (n=95):=(by omega);have p5:¬ (n<48):=(by omega);have p6:57<n:=(by omega);exact .inl ⟨by simp only [CA,h0,p0,p1,p2,p3,p4];simp;try omega,by simp [Tryz.f157,← hn,hi',hc5,e0,c1,c2,c3,c4,c5,c6,c7,p0,p1,p2,p3,p4,p5,p6,hw,DX _ .i64 _ hi]⟩
     ·have p0:97≤n:=(by omega);have p1:¬ (n≤122):=(by omega);have p2:65≤n:=(by omega);have p3:¬ (n≤90):=(by omega);have p4:¬ (n=95):=(by omega);have p5:¬ (n<48):=(by omega);have p6:57<n:=(by omega);exact .inr ⟨by simp only [CA,h0,p0,p1,p2,p3,p4];simp;try omega,by simp [Tryz.f157,← hn,hi',hc5,e0,c1,c2,c3,c4,c5,c6,c7,p0,p1,p2,p3,p4,p5,p6,hw,DX _ .i64 _ hi]⟩
    ·have e0:((i:Int) == 0)=false:=by simp;omega
     rcases nine n with h | h | h | h | h | h | h | h | h
     ·have p0:¬ (97≤n):=(by omega);have p1:n≤122:=(by omega);have p2:¬ (65≤n):=(by omega);have p3:n≤90:=(by omega);have p4:¬ (n=95):=(by omega);have p5:n<48:=(by omega);have p6:¬ (57<n):=(by omega);exact .inr ⟨by simp only [CA,h0,p0,p1,p2,p3,p4];simp;try omega,by simp [Tryz.f157,← hn,hi',hc5,e0,c1,c2,c3,c4,c5,c6,c7,p0,p1,p2,p3,p4,p5,p6,hw,DX _ .i64 _ hi]⟩
     ·have p0:¬ (97≤n):=(by omega);have p1:n≤122:=(by omega);have p2:¬ (65≤n):=(by omega);have p3:n≤90:=(by omega);have p4:¬ (n=95):=(by omega);have p5:¬ (n<48):=(by omega);have p6:¬ (57<n):=(by omega);exact .inl ⟨by simp only [CA,h0,p0,p1,p2,p3,p4];simp;try omega,by simp [Tryz.f157,← hn,hi',hc5,e0,c1,c2,c3,c4,c5,c6,c7,p0,p1,p2,p3,p4,p5,p6,hw,DX _ .i64 _ hi]⟩
     ·have p0:¬ (97≤n):=(by omega);have p1:n≤122:=(by omega);have p2:¬ (65≤n):=(by omega);have p3:n≤90:=(by omega);have p4:¬ (n=95):=(by omega);have p5:¬ (n<48):=(by omega);have p6:57<n:=(by omega);exact .inr ⟨by simp only [CA,h0,p0,p1,p2,p3,p4];simp;try omega,by simp [Tryz.f157,← hn,hi',hc5,e0,c1,c2,c3,c4,c5,c6,c7,p0,p1,p2,p3,p4,p5,p6,hw,DX _ .i64 _ hi]⟩
     ·have p0:¬ (97≤n):=(by omega);have p1:n≤122:=(by omega);have p2:65≤n:=(by omega);have p3:n≤90:=(by omega);have p4:¬ (n=95):=(by omega);have p5:¬ (n<48):=(by omega);have p6:57<n:=(by omega);exact .inl ⟨by simp only [CA,h0,p0,p1,p2,p3,p4];simp;try omega,by simp [Tryz.f157,← hn,hi',hc5,e0,c1,c2,c3,c4,c5,c6,c7,p0,p1,p2,p3,p4,p5,p6,hw,DX _ .i64 _ hi]⟩
     ·have p0:¬ (97≤n):=(by omega);have p1:n≤122:=(by omega);have p2:65≤n:=(by omega);have p3:¬ (n≤90):=(by omega);have p4:¬ (n=95):=(by omega);have p5:¬ (n<48):=(by omega);have p6:57<n:=(by omega);exact .inr ⟨by simp only [CA,h0,p0,p1,p2,p3,p4];simp;try omega,by simp [Tryz.f157,← hn,hi',hc5,e0,c1,c2,c3,c4,c5,c6,c7,p0,p1,p2,p3,p4,p5,p6,hw,DX _ .i64 _ hi]⟩
     ·have p0:¬ (97≤n):=(by omega);have p1:n≤122:=(by omega);have p2:65≤n:=(by omega);have p3:¬ (n≤90):=(by omega);have p4:n=95:=(by omega);have p5:¬ (n<48):=(by omega);have p6:57<n:=(by omega);exact .inl ⟨by simp only [CA,h0,p0,p1,p2,p3,p4];simp;try omega,by simp [Tryz.f157,← hn,hi',hc5,e0,c1,c2,c3,c4,c5,c6,c7,p0,p1,p2,p3,p4,p5,p6,hw,DX _ .i64 _ hi]⟩
     ·have p0:¬ (97≤n):=(by omega);have p1:n≤122:=(by omega);have p2:65≤n:=(by omega);have p3:¬ (n≤90):=(by omega);have p4:¬ (n=95):=(by omega);have p5:¬ (n<48):=(by omega);have p6:57<n:=(by omega);exact .inr ⟨by simp only [CA,h0,p0,p1,p2,p3,p4];simp;try omega,by simp [Tryz.f157,← hn,hi',hc5,e0,c1,c2,c3,c4,c5,c6,c7,p0,p1,p2,p3,p4,p5,p6,hw,DX _ .i64 _ hi]⟩
     ·have p0:97≤n:=(by omega);have p1:n≤122:=(by omega);have p2:65≤n:=(by omega);have p3:¬ (n≤90):=(by omega);have p4:¬ (n=95):=(by omega);have p5:¬ (n<48):=(by omega);have p6:57<n:=(by omega);exact .inl ⟨by simp only [CA,h0,p0,p1,p2,p3,p4];simp;try omega,by simp [Tryz.f157,← hn,hi',hc5,e0,c1,c2,c3,c4,c5,c6,c7,p0,p1,p2,p3,p4,p5,p6,hw,DX _ .i64 _ hi]⟩
     ·have p0:97≤n:=(by omega);have p1:¬ (n≤122):=(by omega);have p2:65≤n:=(by omega);have p3:¬ (n≤90):=(by omega);have p4:¬ (n=95):=(by omega);have p5:¬ (n<48):=(by omega);have p6:57<n:=(by omega);exact .inr ⟨by simp only [CA,h0,p0,p1,p2,p3,p4];simp;try omega,by simp [Tryz.f157,← hn,hi',hc5,e0,c1,c2,c3,c4,c5,c6,c7,p0,p1,p2,p3,p4,p5,p6,hw,DX _ .i64 _ hi]⟩
   rcases key with ⟨h1,h2⟩ | ⟨h1,h2⟩
   ·exact .inl ⟨(),h2,by rw [hI,hd,h1,Bool.true_and]⟩
   ·exact .inr ⟨_,_,h2,by simp,.inr ⟨rfl,by rw [hI,hd,h1,Bool.false_and]⟩⟩) (fun b hI=>by
   refine ⟨_,_,by simp [Tryz.f157] <;> exact ⟨rfl,rfl⟩,by simp,.inl ⟨rfl,?_⟩⟩
   rw [hI,List.drop_length];rfl) () (by simp)
  have hl1:¬ ((s.length:Int)<1):=by omega
  have hl2:¬ (16<(s.length:Int)):=by omega
  simp [Tryz.f157] at hlp
  rcases hq with ⟨hq,ha⟩ | ⟨hq,ha⟩ <;> cases hq <;> simp [AN,Tryz.f157,hlp,hl1,hl2,A6,ha,hl]
 ·have hl':A6 s=false:=by simp [A6];intro h1 h2;exact absurd ⟨h1,h2⟩ hl
  by_cases h1:s.length<1
  ·have:((s.length:Int)<1):=by omega
   simp [AN,Tryz.f157,this,hl']
  ·have h1':¬ ((s.length:Int)<1):=by omega
   have h2:(16<(s.length:Int)):=by omega
   simp [AN,Tryz.f157,h1',h2,hl']
@[simp] theorem Tw (s:Bytes) (hs:s.length<1048577) (h:AE):AK MX (AH MX) 157 [.str s] h=some (.ret (.bool (A6 s)),h):=Ai S4 Vn rfl rfl (t157 s hs []) h
theorem t180 (s:Bytes) (hs:s.length<1048577):AN MX 180 [.str s] []=some (.ret (.bool (A6 s)),[.arr 1 false (CJ s)]):=by
 obtain ⟨e,st,hlp,hq⟩:=AR (M:=MX) (fid:=180) (N:=50) (C:=AH MX) (c:=AQ Tryz.f180 0) (n:=s.length) (fun i (_:Unit)=>([(0,.str s),(7,.hs 0 s.length 1 0 s.length false),(8,.int .i64 s.length),(9,.int .i64 i)],[.arr 1 false (CJ s)])) (fun i _=>F8 0 s=F8 i (s.drop i))
   (fun r=>(r=(.ext 0,([(0,.str s),(7,.hs 0 s.length 1 0 s.length false),(8,.int .i64 s.length),(9,.int .i64 s.length),(10,.bool false)],[.arr 1 false (CJ s)]))∧F8 0 s=true)∨(r=(.ret,([(2,.bool false)],[.arr 1 false (CJ s)]))∧F8 0 s=false)) (fun i b hi hI=>by
   obtain ⟨n,hn⟩:∃ n,n=s[i].toNat:=⟨_,rfl⟩
   have hd:=Io hi
   rw [← hn] at hd
   have hw:wr .i64 ((i:Int)+1)=(i:Int)+1:=BI (by omega) (by omega)
   have hi':((i:Int)<(s.length:Int)):=by omega
   have key:(CA i n=true∧Aa MX 180 50 (AH MX) (AQ Tryz.f180 0) ([(0,AV.str s),(7,AV.hs 0 s.length 1 0 s.length false),(8,AV.int .i64 s.length),(9,AV.int .i64 i)],[.arr 1 false (CJ s)])=some (.nrm,([(0,AV.str s),(7,AV.hs 0 s.length 1 0 s.length false),(8,AV.int .i64 s.length),(9,AV.int .i64 ((i:Int)+1))],[.arr 1 false (CJ s)])))∨(CA i n=false∧Aa MX 180 50 (AH MX) (AQ Tryz.f180 0) ([(0,AV.str s),(7,AV.hs 0 s.length 1 0 s.length false),(8,AV.int .i64 s.length),(9,AV.int .i64 i)],[.arr 1 false (CJ s)])=some (.ret,([(2,.bool false)],[.arr 1 false (CJ s)]))):=by
    have hc:∀ k:Nat,((k:Int)≤(n:Int)↔k≤n)∧((n:Int)≤(k:Int)↔n≤k)∧((n:Int)<(k:Int)↔n<k)∧((k:Int)<(n:Int)↔k<n)∧((n:Int)=(k:Int)↔n=k):=fun k=>by omega
    have c1:=(hc 97).1;have c2:=(hc 122).2.1;have c3:=(hc 65).1;have c4:=(hc 90).2.1;have c5:=(hc 95).2.2.2.2;have c6:=(hc 48).2.2.1;have c7:=(hc 57).2.2.2.1
    simp only [Int.cast_ofNat_Int] at c1 c2 c3 c4 c5 c6 c7
    have hc5:((n:Int) != 95)=decide (n≠95):=by rw [Bool.eq_iff_iff];simp [c5]
    by_cases h0:i=0
    ·have e0:((i:Int) == 0)=true:=by simp [h0]
     rcases nine n with h | h | h | h | h | h | h | h | h
     ·have p0:¬ (97≤n):=(by omega);have p1:n≤122:=(by omega);have p2:¬ (65≤n):=(by omega);have p3:n≤90:=(by omega);have p4:¬ (n=95):=(by omega);have p5:n<48:=(by omega);have p6:¬ (57<n):=(by omega);exact .inr ⟨by simp only [CA,h0,p0,p1,p2,p3,p4];simp;try omega,by simp [Tryz.f180,← hn,hi',hc5,e0,c1,c2,c3,c4,c5,c6,c7,p0,p1,p2,p3,p4,p5,p6,hw,A7 i 0 0 s.length 1 s.length false .i64 hi,AZ,Aj hi]⟩
     ·have p0:¬ (97≤n):=(by omega);have p1:n≤122:=(by omega);have p2:¬ (65≤n):=(by omega);have p3:n≤90:=(by omega);have p4:¬ (n=95):=(by omega);have p5:¬ (n<48):=(by omega);have p6:¬ (57<n):=(by omega);exact .inr ⟨by simp only [CA,h0,p0,p1,p2,p3,p4];simp;try omega,by simp [Tryz.f180,← hn,hi',hc5,e0,c1,c2,c3,c4,c5,c6,c7,p0,p1,p2,p3,p4,p5,p6,hw,A7 i 0 0 s.length 1 s.length false .i64 hi,AZ,Aj hi]⟩
     ·have p0:¬ (97≤n):=(by omega);have p1:n≤122:=(by omega);have p2:¬ (65≤n):=(by omega);have p3:n≤90:=(by omega);have p4:¬ (n=95):=(by omega);have p5:¬ (n<48):=(by omega);have p6:57<n:=(by omega);exact .inr ⟨by simp only [CA,h0,p0,p1,p2,p3,p4];simp;try omega,by simp [Tryz.f180,← hn,hi',hc5,e0,c1,c2,c3,c4,c5,c6,c7,p0,p1,p2,p3,p4,p5,p6,hw,A7 i 0 0 s.length 1 s.length false .i64 hi,AZ,Aj hi]⟩
     ·have p0:¬ (97≤n):=(by omega);have p1:n≤122:=(by omega);have p2:65≤n:=(by omega);have p3:n≤90:=(by omega);have p4:¬ (n=95):=(by omega);have p5:¬ (n<48):=(by omega);have p6:57<n:=(by omega);exact .inl ⟨by simp only [CA,h0,p0,p1,p2,p3,p4];simp;try omega,by simp [Tryz.f180,← hn,hi',hc5,e0,c1,c2,c3,c4,c5,c6,c7,p0,p1,p2,p3,p4,p5,p6,hw,A7 i 0 0 s.length 1 s.length false .i64 hi,AZ,Aj hi]⟩
     ·have p0:¬ (97≤n):=(by omega);have p1:n≤122:=(by omega);have p2:65≤n:=(by omega);have p3:¬ (n≤90):=(by omega);have p4:¬ (n=95):=(by omega);have p5:¬ (n<48):=(by omega);have p6:57<n:=(by omega);exact .inr ⟨by simp only [CA,h0,p0,p1,p2,p3,p4];simp;try omega,by simp [Tryz.f180,← hn,hi',hc5,e0,c1,c2,c3,c4,c5,c6,c7,p0,p1,p2,p3,p4,p5,p6,hw,A7 i 0 0 s.length 1 s.length false .i64 hi,AZ,Aj hi]⟩
     ·have p0:¬ (97≤n):=(by omega);have p1:n≤122:=(by omega);have p2:65≤n:=(by omega);have p3:¬ (n≤90):=(by omega);have p4:n=95:=(by omega);have p5:¬ (n<48):=(by omega);have p6:57<n:=(by omega);exact .inr ⟨by simp only [CA,h0,p0,p1,p2,p3,p4];simp;try omega,by simp [Tryz.f180,← hn,hi',hc5,e0,c1,c2,c3,c4,c5,c6,c7,p0,p1,p2,p3,p4,p5,p6,hw,A7 i 0 0 s.length 1 s.length false .i64 hi,AZ,Aj hi]⟩
     ·have p0:¬ (97≤n):=(by omega);have p1:n≤122:=(by omega);have p2:65≤n:=(by omega);have p3:¬ (n≤90):=(by omega);have p4:¬ (n=95):=(by omega);have p5:¬ (n<48):=(by omega);have p6:57<n:=(by omega);exact .inr ⟨by simp only [CA,h0,p0,p1,p2,p3,p4];simp;try omega,by simp [Tryz.f180,← hn,hi',hc5,e0,c1,c2,c3,c4,c5,c6,c7,p0,p1,p2,p3,p4,p5,p6,hw,A7 i 0 0 s.length 1 s.length false .i64 hi,AZ,Aj hi]⟩
     ·have p0:97≤n:=(by omega);have p1:n≤122:=(by omega);have p2:65≤n:=(by omega);have p3:¬ (n≤90):=(by omega);have p4:¬ (n=95):=(by omega);have p5:¬ (n<48):=(by omega);have p6:57<n:=(by omega);exact .inl ⟨by simp only [CA,h0,p0,p1,p2,p3,p4];simp;try omega,by simp [Tryz.f180,← hn,hi',hc5,e0,c1,c2,c3,c4,c5,c6,c7,p0,p1,p2,p3,p4,p5,p6,hw,A7 i 0 0 s.length 1 s.length false .i64 hi,AZ,Aj hi]⟩
     ·have p0:97≤n:=(by omega);have p1:¬ (n≤122):=(by omega);have p2:65≤n:=(by omega);have p3:¬ (n≤90):=(by omega);have p4:¬ (n=95):=(by omega);have p5:¬ (n<48):=(by omega);have p6:57<n:=(by omega);exact .inr ⟨by simp only [CA,h0,p0,p1,p2,p3,p4];simp;try omega,by simp [Tryz.f180,← hn,hi',hc5,e0,c1,c2,c3,c4,c5,c6,c7,p0,p1,p2,p3,p4,p5,p6,hw,A7 i 0 0 s.length 1 s.length false .i64 hi,AZ,Aj hi]⟩
    ·have e0:((i:Int) == 0)=false:=by simp;omega
     rcases nine n with h | h | h | h | h | h | h | h | h
     ·have p0:¬ (97≤n):=(by omega);have p1:n≤122:=(by omega);have p2:¬ (65≤n):=(by omega);have p3:n≤90:=(by omega);have p4:¬ (n=95):=(by omega);have p5:n<48:=(by omega);have p6:¬ (57<n):=(by omega);exact .inr ⟨by simp only [CA,h0,p0,p1,p2,p3,p4];simp;try omega,by simp [Tryz.f180,← hn,hi',hc5,e0,c1,c2,c3,c4,c5,c6,c7,p0,p1,p2,p3,p4,p5,p6,hw,A7 i 0 0 s.length 1 s.length false .i64 hi,AZ,Aj hi]⟩
     ·have p0:¬ (97≤n):=(by omega);have p1:n≤122:=(by omega);have p2:¬ (65≤n):=(by omega);have p3:n≤90:=(by omega);have p4:¬ (n=95):=(by omega);have p5:¬ (n<48):=(by omega);have p6:¬ (57<n):=(by omega);exact .inl ⟨by simp only [CA,h0,p0,p1,p2,p3,p4];simp;try omega,by simp [Tryz.f180,← hn,hi',hc5,e0,c1,c2,c3,c4,c5,c6,c7,p0,p1,p2,p3,p4,p5,p6,hw,A7 i 0 0 s.length 1 s.length false .i64 hi,AZ,Aj hi]⟩
     ·have p0:¬ (97≤n):=(by omega);have p1:n≤122:=(by omega);have p2:¬ (65≤n):=(by omega);have p3:n≤90:=(by omega);have p4:¬ (n=95):=(by omega);have p5:¬ (n<48):=(by omega);have p6:57<n:=(by omega);exact .inr ⟨by simp only [CA,h0,p0,p1,p2,p3,p4];simp;try omega,by simp [Tryz.f180,← hn,hi',hc5,e0,c1,c2,c3,c4,c5,c6,c7,p0,p1,p2,p3,p4,p5,p6,hw,A7 i 0 0 s.length 1 s.length false .i64 hi,AZ,Aj hi]⟩
     ·have p0:¬ (97≤n):=(by omega);have p1:n≤122:=(by omega);have p2:65≤n:=(by omega);have p3:n≤90:=(by omega);have p4:¬ (n=95):=(by omega);have p5:¬ (n<48):=(by omega);have p6:57<n:=(by omega);exact .inl ⟨by simp only [CA,h0,p0,p1,p2,p3,p4];simp;try omega,by simp [Tryz.f180,← hn,hi',hc5,e0,c1,c2,c3,c4,c5,c6,c7,p0,p1,p2,p3,p4,p5,p6,hw,A7 i 0 0 s.length 1 s.length false .i64 hi,AZ,Aj hi]⟩
     ·have p0:¬ (97≤n):=(by omega);have p1:n≤122:=(by omega);have p2:65≤n:=(by omega);have p3:¬ (n≤90):=(by omega);have p4:¬ (n=95):=(by omega);have p5:¬ (n<48):=(by omega);have p6:57<n:=(by omega);exact .inr ⟨by simp only [CA,h0,p0,p1,p2,p3,p4];simp;try omega,by simp [Tryz.f180,← hn,hi',hc5,e0,c1,c2,c3,c4,c5,c6,c7,p0,p1,p2,p3,p4,p5,p6,hw,A7 i 0 0 s.length 1 s.length false .i64 hi,AZ,Aj hi]⟩
     ·have p0:¬ (97≤n):=(by omega);have p1:n≤122:=(by omega);have p2:65≤n:=(by omega);have p3:¬ (n≤90):=(by omega);have p4:n=95:=(by omega);have p5:¬ (n<48):=(by omega);have p6:57<n:=(by omega);exact .inl ⟨by simp only [CA,h0,p0,p1,p2,p3,p4];simp;try omega,by simp [Tryz.f180,← hn,hi',hc5,e0,c1,c2,c3,c4,c5,c6,c7,p0,p1,p2,p3,p4,p5,p6,hw,A7 i 0 0 s.length 1 s.length false .i64 hi,AZ,Aj hi]⟩
     ·have p0:¬ (97≤n):=(by omega);have p1:n≤122:=(by omega);have p2:65≤n:=(by omega);have p3:¬ (n≤90):=(by omega);have p4:¬ (n=95):=(by omega);have p5:¬ (n<48):=(by omega);have p6:57<n:=(by omega);exact .inr ⟨by simp only [CA,h0,p0,p1,p2,p3,p4];simp;try omega,by simp [Tryz.f180,← hn,hi',hc5,e0,c1,c2,c3,c4,c5,c6,c7,p0,p1,p2,p3,p4,p5,p6,hw,A7 i 0 0 s.length 1 s.length false .i64 hi,AZ,Aj hi]⟩
     ·have p0:97≤n:=(by omega);have p1:n≤122:=(by omega);have p2:65≤n:=(by omega);have p3:¬ (n≤90):=(by omega);have p4:¬ (n=95):=(by omega);have p5:¬ (n<48):=(by omega);have p6:57<n:=(by omega);exact .inl ⟨by simp only [CA,h0,p0,p1,p2,p3,p4];simp;try omega,by simp [Tryz.f180,← hn,hi',hc5,e0,c1,c2,c3,c4,c5,c6,c7,p0,p1,p2,p3,p4,p5,p6,hw,A7 i 0 0 s.length 1 s.length false .i64 hi,AZ,Aj hi]⟩
     ·have p0:97≤n:=(by omega);have p1:¬ (n≤122):=(by omega);have p2:65≤n:=(by omega);have p3:¬ (n≤90):=(by omega);have p4:¬ (n=95):=(by omega);have p5:¬ (n<48):=(by omega);have p6:57<n:=(by omega);exact .inr ⟨by simp only [CA,h0,p0,p1,p2,p3,p4];simp;try omega,by simp [Tryz.f180,← hn,hi',hc5,e0,c1,c2,c3,c4,c5,c6,c7,p0,p1,p2,p3,p4,p5,p6,hw,A7 i 0 0 s.length 1 s.length false .i64 hi,AZ,Aj hi]⟩
   rcases key with ⟨h1,h2⟩ | ⟨h1,h2⟩
   ·exact .inl ⟨(),h2,by rw [hI,hd,h1,Bool.true_and]⟩
   ·exact .inr ⟨_,_,h2,by simp,.inr ⟨rfl,by rw [hI,hd,h1,Bool.false_and]⟩⟩) (fun b hI=>by
   refine ⟨_,_,by simp [Tryz.f180] <;> exact ⟨rfl,rfl⟩,by simp,.inl ⟨rfl,?_⟩⟩
   rw [hI,List.drop_length];rfl) () (by simp)
 simp [Tryz.f180] at hlp
 have hlen:decide ((1:Int)≤s.length∧(s.length:Int)≤16)=decide (1≤s.length∧s.length≤16):=by rw [Bool.eq_iff_iff];simp;omega
 rcases hq with ⟨hq,ha⟩ | ⟨hq,ha⟩ <;> cases hq <;> simp [AN,Tryz.f180,hlp,cvB,Aw,AZ,c181,A6,ha,hlen]
theorem t268 (s:Bytes) (hs:s.length<1048577):AN MX 268 [.str s] []=some (.ret (.bool (A6 s)),[.arr 1 false (CJ s)]):=by
 obtain ⟨e,st,hlp,hq⟩:=AR (M:=MX) (fid:=268) (N:=50) (C:=AH MX) (c:=AQ Tryz.f268 0) (n:=s.length) (fun i (_:Unit)=>([(0,.str s),(7,.hs 0 s.length 1 0 s.length false),(8,.int .i64 s.length),(9,.int .i64 i)],[.arr 1 false (CJ s)])) (fun i _=>F8 0 s=F8 i (s.drop i))
   (fun r=>(r=(.ext 0,([(0,.str s),(7,.hs 0 s.length 1 0 s.length false),(8,.int .i64 s.length),(9,.int .i64 s.length),(10,.bool false)],[.arr 1 false (CJ s)]))∧F8 0 s=true)∨(r=(.ret,([(2,.bool false)],[.arr 1 false (CJ s)]))∧F8 0 s=false)) (fun i b hi hI=>by
   obtain ⟨n,hn⟩:∃ n,n=s[i].toNat:=⟨_,rfl⟩
   have hd:=Io hi
   rw [← hn] at hd
   have hw:wr .i64 ((i:Int)+1)=(i:Int)+1:=BI (by omega) (by omega)
   have hi':((i:Int)<(s.length:Int)):=by omega
   have key:(CA i n=true∧Aa MX 268 50 (AH MX) (AQ Tryz.f268 0) ([(0,AV.str s),(7,AV.hs 0 s.length 1 0 s.length false),(8,AV.int .i64 s.length),(9,AV.int .i64 i)],[.arr 1 false (CJ s)])=some (.nrm,([(0,AV.str s),(7,AV.hs 0 s.length 1 0 s.length false),(8,AV.int .i64 s.length),(9,AV.int .i64 ((i:Int)+1))],[.arr 1 false (CJ s)])))∨(CA i n=false∧Aa MX 268 50 (AH MX) (AQ Tryz.f268 0) ([(0,AV.str s),(7,AV.hs 0 s.length 1 0 s.length false),(8,AV.int .i64 s.length),(9,AV.int .i64 i)],[.arr 1 false (CJ s)])=some (.ret,([(2,.bool false)],[.arr 1 false (CJ s)]))):=by
    have hc:∀ k:Nat,((k:Int)≤(n:Int)↔k≤n)∧((n:Int)≤(k:Int)↔n≤k)∧((n:Int)<(k:Int)↔n<k)∧((k:Int)<(n:Int)↔k<n)∧((n:Int)=(k:Int)↔n=k):=fun k=>by omega
    have c1:=(hc 97).1;have c2:=(hc 122).2.1;have c3:=(hc 65).1;have c4:=(hc 90).2.1;have c5:=(hc 95).2.2.2.2;have c6:=(hc 48).2.2.1;have c7:=(hc 57).2.2.2.1
    simp only [Int.cast_ofNat_Int] at c1 c2 c3 c4 c5 c6 c7
    have hc5:((n:Int) != 95)=decide (n≠95):=by rw [Bool.eq_iff_iff];simp [c5]
    by_cases h0:i=0
    ·have e0:((i:Int) == 0)=true:=by simp [h0]
     rcases nine n with h | h | h | h | h | h | h | h | h
     ·have p0:¬ (97≤n):=(by omega);have p1:n≤122:=(by omega);have p2:¬ (65≤n):=(by omega);have p3:n≤90:=(by omega);have p4:¬ (n=95):=(by omega);have p5:n<48:=(by omega);have p6:¬ (57<n):=(by omega);exact .inr ⟨by simp only [CA,h0,p0,p1,p2,p3,p4];simp;try omega,by simp [Tryz.f268,← hn,hi',hc5,e0,c1,c2,c3,c4,c5,c6,c7,p0,p1,p2,p3,p4,p5,p6,hw,A7 i 0 0 s.length 1 s.length false .i64 hi,AZ,Aj hi]⟩
     ·have p0:¬ (97≤n):=(by omega);have p1:n≤122:=(by omega);have p2:¬ (65≤n):=(by omega);have p3:n≤90:=(by omega);have p4:¬ (n=95):=(by omega);have p5:¬ (n<48):=(by omega);have p6:¬ (57<n):=(by omega);exact .inr ⟨by simp only [CA,h0,p0,p1,p2,p3,p4];simp;try omega,by simp [Tryz.f268,← hn,hi',hc5,e0,c1,c2,c3,c4,c5,c6,c7,p0,p1,p2,p3,p4,p5,p6,hw,A7 i 0 0 s.length 1 s.length false .i64 hi,AZ,Aj hi]⟩
     ·have p0:¬ (97≤n):=(by omega);have p1:n≤122:=(by omega);have p2:¬ (65≤n):=(by omega);have p3:n≤90:=(by omega);have p4:¬ (n=95):=(by omega);have p5:¬ (n<48):=(by omega);have p6:57<n:=(by omega);exact .inr ⟨by simp only [CA,h0,p0,p1,p2,p3,p4];simp;try omega,by simp [Tryz.f268,← hn,hi',hc5,e0,c1,c2,c3,c4,c5,c6,c7,p0,p1,p2,p3,p4,p5,p6,hw,A7 i 0 0 s.length 1 s.length false .i64 hi,AZ,Aj hi]⟩
     ·have p0:¬ (97≤n):=(by omega);have p1:n≤122:=(by omega);have p2:65≤n:=(by omega);have p3:n≤90:=(by omega);have p4:¬ (n=95):=(by omega);have p5:¬ (n<48):=(by omega);have p6:57<n:=(by omega);exact .inl ⟨by simp only [CA,h0,p0,p1,p2,p3,p4];simp;try omega,by simp [Tryz.f268,← hn,hi',hc5,e0,c1,c2,c3,c4,c5,c6,c7,p0,p1,p2,p3,p4,p5,p6,hw,A7 i 0 0 s.length 1 s.length false .i64 hi,AZ,Aj hi]⟩
     ·have p0:¬ (97≤n):=(by omega);have p1:n≤122:=(by omega);have p2:65≤n:=(by omega);have p3:¬ (n≤90):=(by omega);have p4:¬ (n=95):=(by omega);have p5:¬ (n<48):=(by omega);have p6:57<n:=(by omega);exact .inr ⟨by simp only [CA,h0,p0,p1,p2,p3,p4];simp;try omega,by simp [Tryz.f268,← hn,hi',hc5,e0,c1,c2,c3,c4,c5,c6,c7,p0,p1,p2,p3,p4,p5,p6,hw,A7 i 0 0 s.length 1 s.length false .i64 hi,AZ,Aj hi]⟩
     ·have p0:¬ (97≤n):=(by omega);have p1:n≤122:=(by omega);have p2:65≤n:=(by omega);have p3:¬ (n≤90):=(by omega);have p4:n=95:=(by omega);have p5:¬ (n<48):=(by omega);have p6:57<n:=(by omega);exact .inr ⟨by simp only [CA,h0,p0,p1,p2,p3,p4];simp;try omega,by simp [Tryz.f268,← hn,hi',hc5,e0,c1,c2,c3,c4,c5,c6,c7,p0,p1,p2,p3,p4,p5,p6,hw,A7 i 0 0 s.length 1 s.length false .i64 hi,AZ,Aj hi]⟩
     ·have p0:¬ (97≤n):=(by omega);have p1:n≤122:=(by omega);have p2:65≤n:=(by omega);have p3:¬ (n≤90):=(by omega);have p4:¬ (n=95):=(by omega);have p5:¬ (n<48):=(by omega);have p6:57<n:=(by omega);exact .inr ⟨by simp only [CA,h0,p0,p1,p2,p3,p4];simp;try omega,by simp [Tryz.f268,← hn,hi',hc5,e0,c1,c2,c3,c4,c5,c6,c7,p0,p1,p2,p3,p4,p5,p6,hw,A7 i 0 0 s.length 1 s.length false .i64 hi,AZ,Aj hi]⟩
     ·have p0:97≤n:=(by omega);have p1:n≤122:=(by omega);have p2:65≤n:=(by omega);have p3:¬ (n≤90):=(by omega);have p4:¬ (n=95):=(by omega);have p5:¬ (n<48):=(by omega);have p6:57<n:=(by omega);exact .inl ⟨by simp only [CA,h0,p0,p1,p2,p3,p4];simp;try omega,by simp [Tryz.f268,← hn,hi',hc5,e0,c1,c2,c3,c4,c5,c6,c7,p0,p1,p2,p3,p4,p5,p6,hw,A7 i 0 0 s.length 1 s.length false .i64 hi,AZ,Aj hi]⟩
     ·have p0:97≤n:=(by omega);have p1:¬ (n≤122):=(by omega);have p2:65≤n:=(by omega);have p3:¬ (n≤90):=(by omega);have p4:¬ (n=95):=(by omega);have p5:¬ (n<48):=(by omega);have p6:57<n:=(by omega);exact .inr ⟨by simp only [CA,h0,p0,p1,p2,p3,p4];simp;try omega,by simp [Tryz.f268,← hn,hi',hc5,e0,c1,c2,c3,c4,c5,c6,c7,p0,p1,p2,p3,p4,p5,p6,hw,A7 i 0 0 s.length 1 s.length false .i64 hi,AZ,Aj hi]⟩
    ·have e0:((i:Int) == 0)=false:=by simp;omega
     rcases nine n with h | h | h | h | h | h | h | h | h
     ·have p0:¬ (97≤n):=(by omega);have p1:n≤122:=(by omega);have p2:¬ (65≤n):=(by omega);have p3:n≤90:=(by omega);have p4:¬ (n=95):=(by omega);have p5:n<48:=(by omega);have p6:¬ (57<n):=(by omega);exact .inr ⟨by simp only [CA,h0,p0,p1,p2,p3,p4];simp;try omega,by simp [Tryz.f268,← hn,hi',hc5,e0,c1,c2,c3,c4,c5,c6,c7,p0,p1,p2,p3,p4,p5,p6,hw,A7 i 0 0 s.length 1 s.length false .i64 hi,AZ,Aj hi]⟩
     ·have p0:¬ (97≤n):=(by omega);have p1:n≤122:=(by omega);have p2:¬ (65≤n):=(by omega);have p3:n≤90:=(by omega);have p4:¬ (n=95):=(by omega);have p5:¬ (n<48):=(by omega);have p6:¬ (57<n):=(by omega);exact .inl ⟨by simp only [CA,h0,p0,p1,p2,p3,p4];simp;try omega,by simp [Tryz.f268,← hn,hi',hc5,e0,c1,c2,c3,c4,c5,c6,c7,p0,p1,p2,p3,p4,p5,p6,hw,A7 i 0 0 s.length 1 s.length false .i64 hi,AZ,Aj hi]⟩
     ·have p0:¬ (97≤n):=(by omega);have p1:n≤122:=(by omega);have p2:¬ (65≤n):=(by omega);have p3:n≤90:=(by omega);have p4:¬ (n=95):=(by omega);have p5:¬ (n<48):=(by omega);have p6:57<n:=(by omega);exact .inr ⟨by simp only [CA,h0,p0,p1,p2,p3,p4];simp;try omega,by simp [Tryz.f268,← hn,hi',hc5,e0,c1,c2,c3,c4,c5,c6,c7,p0,p1,p2,p3,p4,p5,p6,hw,A7 i 0 0 s.length 1 s.length false .i64 hi,AZ,Aj hi]⟩
     ·have p0:¬ (97≤n):=(by omega);have p1:n≤122:=(by omega);have p2:65≤n:=(by omega);have p3:n≤90:=(by omega);have p4:¬ (n=95):=(by omega);have p5:¬ (n<48):=(by omega);have p6:57<n:=(by omega);exact .inl ⟨by simp only [CA,h0,p0,p1,p2,p3,p4];simp;try omega,by simp [Tryz.f268,← hn,hi',hc5,e0,c1,c2,c3,c4,c5,c6,c7,p0,p1,p2,p3,p4,p5,p6,hw,A7 i 0 0 s.length 1 s.length false .i64 hi,AZ,Aj hi]⟩
     ·have p0:¬ (97≤n):=(by omega);have p1:n≤122:=(by omega);have p2:65≤n:=(by omega);have p3:¬ (n≤90):=(by omega);have p4:¬ (n=95):=(by omega);have p5:¬ (n<48):=(by omega);have p6:57<n:=(by omega);exact .inr ⟨by simp only [CA,h0,p0,p1,p2,p3,p4];simp;try omega,by simp [Tryz.f268,← hn,hi',hc5,e0,c1,c2,c3,c4,c5,c6,c7,p0,p1,p2,p3,p4,p5,p6,hw,A7 i 0 0 s.length 1 s.length false .i64 hi,AZ,Aj hi]⟩
     ·have p0:¬ (97≤n):=(by omega);have p1:n≤122:=(by omega);have p2:65≤n:=(by omega);have p3:¬ (n≤90):=(by omega);have p4:n=95:=(by omega);have p5:¬ (n<48):=(by omega);have p6:57<n:=(by omega);exact .inl ⟨by simp only [CA,h0,p0,p1,p2,p3,p4];simp;try omega,by simp [Tryz.f268,← hn,hi',hc5,e0,c1,c2,c3,c4,c5,c6,c7,p0,p1,p2,p3,p4,p5,p6,hw,A7 i 0 0 s.length 1 s.length false .i64 hi,AZ,Aj hi]⟩
     ·have p0:¬ (97≤n):=(by omega);have p1:n≤122:=(by omega);have p2:65≤n:=(by omega);have p3:¬ (n≤90):=(by omega);have p4:¬ (n=95):=(by omega);have p5:¬ (n<48):=(by omega);have p6:57<n:=(by omega);exact .inr ⟨by simp only [CA,h0,p0,p1,p2,p3,p4];simp;try omega,by simp [Tryz.f268,← hn,hi',hc5,e0,c1,c2,c3,c4,c5,c6,c7,p0,p1,p2,p3,p4,p5,p6,hw,A7 i 0 0 s.length 1 s.length false .i64 hi,AZ,Aj hi]⟩
     ·have p0:97≤n:=(by omega);have p1:n≤122:=(by omega);have p2:65≤n:=(by omega);have p3:¬ (n≤90):=(by omega);have p4:¬ (n=95):=(by omega);have p5:¬ (n<48):=(by omega);have p6:57<n:=(by omega);exact .inl ⟨by simp only [CA,h0,p0,p1,p2,p3,p4];simp;try omega,by simp [Tryz.f268,← hn,hi',hc5,e0,c1,c2,c3,c4,c5,c6,c7,p0,p1,p2,p3,p4,p5,p6,hw,A7 i 0 0 s.length 1 s.length false .i64 hi,AZ,Aj hi]⟩
     ·have p0:97≤n:=(by omega);have p1:¬ (n≤122):=(by omega);have p2:65≤n:=(by omega);have p3:¬ (n≤90):=(by omega);have p4:¬ (n=95):=(by omega);have p5:¬ (n<48):=(by omega);have p6:57<n:=(by omega);exact .inr ⟨by simp only [CA,h0,p0,p1,p2,p3,p4];simp;try omega,by simp [Tryz.f268,← hn,hi',hc5,e0,c1,c2,c3,c4,c5,c6,c7,p0,p1,p2,p3,p4,p5,p6,hw,A7 i 0 0 s.length 1 s.length false .i64 hi,AZ,Aj hi]⟩
   rcases key with ⟨h1,h2⟩ | ⟨h1,h2⟩
   ·exact .inl ⟨(),h2,by rw [hI,hd,h1,Bool.true_and]⟩
   ·exact .inr ⟨_,_,h2,by simp,.inr ⟨rfl,by rw [hI,hd,h1,Bool.false_and]⟩⟩) (fun b hI=>by
   refine ⟨_,_,by simp [Tryz.f268] <;> exact ⟨rfl,rfl⟩,by simp,.inl ⟨rfl,?_⟩⟩
   rw [hI,List.drop_length];rfl) () (by simp)
 simp [Tryz.f268] at hlp
 have hlen:decide ((1:Int)≤s.length∧(s.length:Int)≤16)=decide (1≤s.length∧s.length≤16):=by rw [Bool.eq_iff_iff];simp;omega
 rcases hq with ⟨hq,ha⟩ | ⟨hq,ha⟩ <;> cases hq <;> simp [AN,Tryz.f268,hlp,cvB,Aw,AZ,O5,A6,ha,hlen]
@[simp] theorem c180 (s:Bytes) (hs:s.length<1048577) (h:AE):AK MX (AH MX) 180 [.str s] h=some (.ret (.bool (A6 s)),h):=Ai S7 Vq rfl rfl (t180 s hs) h
@[simp] theorem c268 (s:Bytes) (hs:s.length<1048577) (h:AE):AK MX (AH MX) 268 [.str s] h=some (.ret (.bool (A6 s)),h):=Ai Td WK rfl rfl (t268 s hs) h
theorem Eh {α:Type} {p:α→Bool} {l:List α} {i:Nat} (hi:i<l.length) (h:∀ j (hj:j<l.length),j<i→p l[j]=false) (hp:p l[i]=true):l.findIdx? p=some i:=by
 rw [List.findIdx?_eq_some_iff_getElem]
 exact ⟨hi,hp,fun j hj=>by simp [h j (by omega) hj]⟩
theorem Ei {α:Type} {p:α→Bool} {l:List α} (h:∀ j (hj:j<l.length),p l[j]=false):l.findIdx? p=none:=by
 rw [List.findIdx?_eq_none_iff]
 intro x hx
 obtain ⟨j,hj,rfl⟩:=List.getElem_of_mem hx
 exact h j hj
theorem Ej {α:Type} {p:α→Bool} {l:List α} {i:Nat} (hi:i<l.length) (h:∀ j (hj:j<l.length),j<i→p l[j]=false) (hp:p l[i]=false):∀ j (hj:j<l.length),j<i+1→p l[j]=false:=fun j hj h0=>by
 by_cases hji:j=i
 ·subst hji;exact hp
 ·exact h j hj (by omega)
def ixI:Option Nat→Int
 | some i=>i
 | none => -1
theorem Ab.dest {d:AO} {xs:List AV} (h:Ab d xs):∃ pv cv,xs=[.str d.nm,pv,cv]∧SlR Bx 1 d.params pv∧SlR Cu 2 d.cons cv:=h
theorem Cu.dest {c:Bb} {xs:List AV} (h:Cu c xs):∃ fv,xs=[.str c.nm,fv]∧SlR BR 5 c.fields fv:=h
theorem AU.AW {t:TyV} {xs:List AV} (h:AU t xs):∃ pv,xs=[.int .i64 t.k,.int .i64 t.v,.str t.nm,pv]∧SlR AU 4 t.ps pv:=by
 cases t with
 | mk k v nm ps=>exact h.dest
theorem BR.dest {f:B7} {xs:List AV} (h:BR f xs):∃ pv,xs=[.str f.nm,.int .i64 f.ty.k,.int .i64 f.ty.v,.str f.ty.nm,pv]∧SlR AU 4 f.ty.ps pv:=by
 obtain ⟨tx,rfl,ht⟩:=h
 obtain ⟨pv,rfl,hp⟩:=ht.AW
 exact ⟨pv,rfl,hp⟩
theorem AX {i n:Nat} (hi:i<n) (hn:n<1048577):wr .i64 ((i:Int)+1)=(i:Int)+1:=BI (by omega) (by omega)
theorem AY {i n:Nat} (hi:i<n):((i:Int)<(n:Int)):=by omega
theorem t89 (l:List Bytes) (v:AV) (s:Bytes) (hv:SlR Bx 1 l v) (hl:l.length<1048577) (h:AE):AN MX 89 [v,.str s] h=some (.ret (.bool (l.findIdx? (fun x:Bytes=>x == s)).isSome),h):=by
 obtain ⟨e,st,hlp,hq⟩:=AR (M:=MX) (fid:=89) (N:=18) (C:=AH MX) (c:=AQ Tryz.f89 0) (n:=l.length) (fun i (_:Unit)=>([(0,v),(1,.str s),(5,.int .i64 i)],h)) (fun i _=>∀ j (hj:j<l.length),j<i→(fun x:Bytes=>x == s) l[j]=false)
  (fun r=>(r=(.ext 0,([(0,v),(1,.str s),(5,.int .i64 l.length),(9,.bool false)],h))∧l.findIdx? (fun x:Bytes=>x == s)=none)∨(∃ i:Nat,r=(.ret,([(4,.bool true)],h))∧l.findIdx? (fun x:Bytes=>x == s)=some i)) (fun i b hi hI=>by
    obtain ⟨e,he,hR⟩:=hv.ix hi
    have hi':=AY hi
    have hw:=AX hi hl
    cases hR
    cases hx:(l[i] == s) with
    | true=>exact .inr ⟨_,_,by simp only [beq_iff_eq] at hx;simp [Tryz.f89,hv.len,hi',he,hx] <;> exact ⟨rfl,rfl⟩,by simp,.inr ⟨i,rfl,Eh (p:=(fun x:Bytes=>x == s)) hi hI hx⟩⟩
    | false=>exact .inl ⟨(),by have hx':=hx;simp only [beq_eq_false_iff_ne,ne_eq] at hx';simp [Tryz.f89,hv.len,hi',he,hx,hx',hw],Ej (p:=(fun x:Bytes=>x == s)) hi hI hx⟩) (fun b hI=>by
    exact ⟨_,_,by simp [Tryz.f89,hv.len] <;> exact ⟨rfl,rfl⟩,by simp,.inl ⟨rfl,Ei (p:=(fun x:Bytes=>x == s)) fun j hj=>hI j hj hj⟩⟩) () (fun j _ h0=>by omega)
 simp [Tryz.f89] at hlp
 rcases hq with ⟨hq,hs⟩ | ⟨i,hq,hs⟩ <;> cases hq <;> simp [AN,Tryz.f89,hlp,hs]
theorem c89 {l:List Bytes} {v:AV} (s:Bytes) (hv:SlR Bx 1 l v) (hl:l.length<1048577) (h:AE):AK MX (AH MX) 89 [v,.str s] h=some (.ret (.bool (l.findIdx? (fun x:Bytes=>x == s)).isSome),h):=
 Ai VU YN (by simp [hv.AD,AV.AD]) rfl (t89 l v s hv hl []) h
theorem t118 (l:List AO) (v:AV) (s:Bytes) (hv:SlR Ab 3 l v) (hl:l.length<1048577) (h:AE):AN MX 118 [v,.str s] h=some (.ret (.int .i64 (ixI (l.findIdx? (fun x:AO=>x.nm == s)))),h):=by
 obtain ⟨e,st,hlp,hq⟩:=AR (M:=MX) (fid:=118) (N:=20) (C:=AH MX) (c:=AQ Tryz.f118 0) (n:=l.length) (fun i (_:Unit)=>([(0,v),(1,.str s),(5,.int .i64 i)],h)) (fun i _=>∀ j (hj:j<l.length),j<i→(fun x:AO=>x.nm == s) l[j]=false)
  (fun r=>(r=(.ext 0,([(0,v),(1,.str s),(5,.int .i64 l.length),(9,.bool false)],h))∧l.findIdx? (fun x:AO=>x.nm == s)=none)∨(∃ i:Nat,r=(.ret,([(4,.int .i64 i)],h))∧l.findIdx? (fun x:AO=>x.nm == s)=some i)) (fun i b hi hI=>by
    obtain ⟨e,he,hR⟩:=hv.ix hi
    have hi':=AY hi
    have hw:=AX hi hl
    obtain ⟨pv,cv,rfl,hp,hc⟩:=hR.dest
    cases hx:(l[i].nm == s) with
    | true=>exact .inr ⟨_,_,by simp only [beq_iff_eq] at hx;simp [Tryz.f118,hv.len,hi',he,hx] <;> exact ⟨rfl,rfl⟩,by simp,.inr ⟨i,rfl,Eh (p:=(fun x:AO=>x.nm == s)) hi hI hx⟩⟩
    | false=>exact .inl ⟨(),by have hx':=hx;simp only [beq_eq_false_iff_ne,ne_eq] at hx';simp [Tryz.f118,hv.len,hi',he,hx,hx',hw],Ej (p:=(fun x:AO=>x.nm == s)) hi hI hx⟩) (fun b hI=>by
    exact ⟨_,_,by simp [Tryz.f118,hv.len] <;> exact ⟨rfl,rfl⟩,by simp,.inl ⟨rfl,Ei (p:=(fun x:AO=>x.nm == s)) fun j hj=>hI j hj hj⟩⟩) () (fun j _ h0=>by omega)
 simp [Tryz.f118] at hlp
 rcases hq with ⟨hq,hs⟩ | ⟨i,hq,hs⟩ <;> cases hq <;> simp [AN,Tryz.f118,hlp,hs,ixI]
theorem c118 {l:List AO} {v:AV} (s:Bytes) (hv:SlR Ab 3 l v) (hl:l.length<1048577) (h:AE):AK MX (AH MX) 118 [v,.str s] h=some (.ret (.int .i64 (ixI (l.findIdx? (fun x:AO=>x.nm == s)))),h):=
 Ai Su Vd (by simp [hv.AD,AV.AD]) rfl (t118 l v s hv hl []) h
theorem t72 (l:List Bb) (v:AV) (s:Bytes) (hv:SlR Cu 2 l v) (hl:l.length<1048577) (h:AE):AN MX 72 [v,.str s] h=some (.ret (.int .i64 (ixI (l.findIdx? (fun x:Bb=>x.nm == s)))),h):=by
 obtain ⟨e,st,hlp,hq⟩:=AR (M:=MX) (fid:=72) (N:=20) (C:=AH MX) (c:=AQ Tryz.f72 0) (n:=l.length) (fun i (_:Unit)=>([(0,v),(1,.str s),(5,.int .i64 i)],h)) (fun i _=>∀ j (hj:j<l.length),j<i→(fun x:Bb=>x.nm == s) l[j]=false)
  (fun r=>(r=(.ext 0,([(0,v),(1,.str s),(5,.int .i64 l.length),(9,.bool false)],h))∧l.findIdx? (fun x:Bb=>x.nm == s)=none)∨(∃ i:Nat,r=(.ret,([(4,.int .i64 i)],h))∧l.findIdx? (fun x:Bb=>x.nm == s)=some i)) (fun i b hi hI=>by
    obtain ⟨e,he,hR⟩:=hv.ix hi
    have hi':=AY hi
    have hw:=AX hi hl
    obtain ⟨fv,rfl,hf⟩:=hR.dest
    cases hx:(l[i].nm == s) with
    | true=>exact .inr ⟨_,_,by simp only [beq_iff_eq] at hx;simp [Tryz.f72,hv.len,hi',he,hx] <;> exact ⟨rfl,rfl⟩,by simp,.inr ⟨i,rfl,Eh (p:=(fun x:Bb=>x.nm == s)) hi hI hx⟩⟩
    | false=>exact .inl ⟨(),by have hx':=hx;simp only [beq_eq_false_iff_ne,ne_eq] at hx';simp [Tryz.f72,hv.len,hi',he,hx,hx',hw],Ej (p:=(fun x:Bb=>x.nm == s)) hi hI hx⟩) (fun b hI=>by
    exact ⟨_,_,by simp [Tryz.f72,hv.len] <;> exact ⟨rfl,rfl⟩,by simp,.inl ⟨rfl,Ei (p:=(fun x:Bb=>x.nm == s)) fun j hj=>hI j hj hj⟩⟩) () (fun j _ h0=>by omega)
 simp [Tryz.f72] at hlp
 rcases hq with ⟨hq,hs⟩ | ⟨i,hq,hs⟩ <;> cases hq <;> simp [AN,Tryz.f72,hlp,hs,ixI]
theorem c72 {l:List Bb} {v:AV} (s:Bytes) (hv:SlR Cu 2 l v) (hl:l.length<1048577) (h:AE):AK MX (AH MX) 72 [v,.str s] h=some (.ret (.int .i64 (ixI (l.findIdx? (fun x:Bb=>x.nm == s)))),h):=
 Ai VK YG (by simp [hv.AD,AV.AD]) rfl (t72 l v s hv hl []) h
theorem t269 (l:List Bytes) (v:AV) (s:Bytes) (hv:SlR Bx 1 l v) (hl:l.length<1048577) (h:AE):AN MX 269 [v,.str s] h=some (.ret (.int .i64 (ixI (l.findIdx? (fun x:Bytes=>x == s)))),h):=by
 obtain ⟨e,st,hlp,hq⟩:=AR (M:=MX) (fid:=269) (N:=19) (C:=AH MX) (c:=AQ Tryz.f269 0) (n:=l.length) (fun i (_:Unit)=>([(0,v),(1,.str s),(7,.int .i64 l.length),(8,.int .i64 i)],h)) (fun i _=>∀ j (hj:j<l.length),j<i→(fun x:Bytes=>x == s) l[j]=false)
  (fun r=>(r=(.ext 0,([(0,v),(1,.str s),(7,.int .i64 l.length),(8,.int .i64 l.length),(9,.bool false)],h))∧l.findIdx? (fun x:Bytes=>x == s)=none)∨(∃ i:Nat,r=(.ret,([(4,.int .i64 i)],h))∧l.findIdx? (fun x:Bytes=>x == s)=some i)) (fun i b hi hI=>by
    obtain ⟨e,he,hR⟩:=hv.ix hi
    have hi':=AY hi
    have hw:=AX hi hl
    cases hR
    cases hx:(l[i] == s) with
    | true=>exact .inr ⟨_,_,by simp only [beq_iff_eq] at hx;simp [Tryz.f269,hv.len,hi',he,hx] <;> exact ⟨rfl,rfl⟩,by simp,.inr ⟨i,rfl,Eh (p:=(fun x:Bytes=>x == s)) hi hI hx⟩⟩
    | false=>
     have hx':(s == l[i])=false:=by simp only [beq_eq_false_iff_ne,ne_eq] at hx ⊢;exact fun e=>hx e.symm
     exact .inl ⟨(),by simp [Tryz.f269,hv.len,hi',he,hx',hw],Ej (p:=(fun x:Bytes=>x == s)) hi hI hx⟩) (fun b hI=>by
    exact ⟨_,_,by simp [Tryz.f269,hv.len] <;> exact ⟨rfl,rfl⟩,by simp,.inl ⟨rfl,Ei (p:=(fun x:Bytes=>x == s)) fun j hj=>hI j hj hj⟩⟩) () (fun j _ h0=>by omega)
 simp [Tryz.f269] at hlp
 rcases hq with ⟨hq,hs⟩ | ⟨i,hq,hs⟩ <;> cases hq <;> simp [AN,Tryz.f269,hlp,hs,ixI,hv.len]
theorem c269 {l:List Bytes} {v:AV} (s:Bytes) (hv:SlR Bx 1 l v) (hl:l.length<1048577) (h:AE):AK MX (AH MX) 269 [v,.str s] h=some (.ret (.int .i64 (ixI (l.findIdx? (fun x:Bytes=>x == s)))),h):=
 Ai Te WL (by simp [hv.AD,AV.AD]) rfl (t269 l v s hv hl []) h
theorem O6 (o:Option Nat):decide (0≤ixI o)=o.isSome:=by
 cases o with
 | none=>rfl
 | some i=>simp [ixI]
theorem c260 {l:List Bytes} {v:AV} (s:Bytes) (hv:SlR Bx 1 l v) (hl:l.length<1048577) (h:AE):AK MX (AH MX) 260 [v,.str s] h=some (.ret (.bool (l.findIdx? (fun x:Bytes=>x == s)).isSome),h):=
 Ai TZ WH (by simp [hv.AD,AV.AD]) rfl (hr:=[]) (by simp [AN,Tryz.f260,c269 s hv hl,O6]) h
def CT:Bytes:=[66,105,116]
def Bc:Bytes:=[66,111,111,108]
def Cv (t:TyV):Bool:=decide (t.k=1)&&(t.nm == CT)
theorem c66 {t:TyV} {xs:List AV} (hx:AU t xs) (h:AE):AK MX (AH MX) 66 [.agg xs] h=some (.ret (.bool (Cv t)),h):=by
 have hn:([AV.agg xs]:List AV).all AV.AD=true:=by simp [AV.AD,hx.AG]
 obtain ⟨pv,rfl,hp⟩:=hx.AW
 by_cases h1:t.k=1
 ·exact Ai Pr Sf hn rfl (hr:=[.var false [.int .i64 t.k,.int .i64 t.v,.str t.nm,pv]]) (by simp [AN,Tryz.f66,h1,Cv,CT]) h
 ·have hb:(t.k == 1)=false:=by simp [h1]
  exact Ai Pr Sf hn rfl (hr:=[.var false [.int .i64 t.k,.int .i64 t.v,.str t.nm,pv]]) (by simp [AN,Tryz.f66,h1,hb,Cv,CT]) h
mutual
def EN:TyV→Int→Int→Int
 | .mk _ _ _ ps,d,c=>if 40<d∨200<c+1∨200<(ps.length:Int) then 201 else Bd ps (d+1) (c+1)
def Bd:List TyV→Int→Int→Int
 | [],_,c=>c
 | p::r,d,c=>if c≤200 then Bd r d (EN p d c) else c
end
theorem Ip (t:TyV):∀ d c,0≤c→c≤201→0≤EN t d c∧EN t d c≤201:=by
 induction t using TyV.ind with
 | h k v nm ps ih=>
  intro d c h0 h1
  have key:∀ (l:List TyV),(∀ p∈l,p∈ps)→∀ d c,0≤c→c≤201→0≤Bd l d c∧Bd l d c≤201:=by
   intro l
   induction l with
   | nil=>intro _ d c h0 h1;simp [Bd,h0,h1]
   | cons p r ihr=>
    intro hm d c h0 h1
    simp only [Bd]
    split
    ·obtain ⟨a,b⟩:=ih p (hm p (by simp)) d c h0 h1
     exact ihr (fun q hq=>hm q (by simp [hq])) d _ a b
    ·exact ⟨h0,h1⟩
  simp only [EN]
  split
  ·omega
  ·exact key ps (fun _ h=>h) _ _ (by omega) (by omega)
def BE (t:TyV):Bool:=decide (EN t 1 0≤200)
theorem c110 (t:TyV):∀ (xs:List AV) (d c:Int),AU t xs→Sm 1048577 t→0≤d→d≤41→0≤c→c≤201→∀ h,AK MX (AH MX) 110 [.agg xs,.int .i64 d,.int .i64 c] h=some (.ret (.int .i64 (EN t d c)),h):=by
 induction t using TyV.ind with
 | h k v nm ps ih=>
  intro xs d c hx hs d0 d1 c0 c1 h
  have hn:([AV.agg xs,.int .i64 d,.int .i64 c]:List AV).all AV.AD=true:=by simp [AV.AD,hx.AG]
  obtain ⟨pv,rfl,hp⟩:=hx.dest
  obtain ⟨s1,s2,s3⟩:=hs.dest
  have wc:wr .i64 (c+1)=c+1:=BI (by omega) (by omega)
  have wd:wr .i64 (d+1)=d+1:=BI (by omega) (by omega)
  refine Ai Sp VY hn rfl (hr:=[.var false [.int .i64 k,.int .i64 v,.str nm,pv]]) ?_ h
  by_cases h1:40<d
  ·simp [AN,Tryz.f110,wc,h1,EN]
  ·by_cases h2:200<c+1
   ·simp [AN,Tryz.f110,wc,h1,h2,EN]
   ·by_cases h3:200<(ps.length:Int)
    ·simp [AN,Tryz.f110,wc,h1,h2,h3,hp.len,EN]
    ·obtain ⟨e,st,hlp,hq⟩:=AR (M:=MX) (fid:=110) (N:=43) (C:=AH MX) (c:=AQ Tryz.f110 0) (n:=ps.length) (fun i (b:Int)=>([(1,.int .i64 d),(2,.int .i64 b),(3,.hp 0 0),(7,.int .i64 i)],[.var false [.int .i64 k,.int .i64 v,.str nm,pv]]))
      (fun i b=>Bd ps (d+1) (c+1)=Bd (ps.drop i) (d+1) b∧0≤b∧b≤201)
      (fun r=>∃ (i:Nat) (x:AV),r=(.ext 0,([(1,.int .i64 d),(2,.int .i64 (Bd ps (d+1) (c+1))),(3,.hp 0 0),(7,.int .i64 i),(30,x)],[.var false [.int .i64 k,.int .i64 v,.str nm,pv]]))) (fun i b hi hI=>by
        obtain ⟨e,he,hR⟩:=hp.ix hi
        have hi':=AY hi
        have hw:=AX hi s2
        obtain ⟨i1,i2,i3⟩:=hI
        have hdr:ps.drop i=ps[i]::ps.drop (i+1):=List.drop_eq_getElem_cons hi
        rw [hdr] at i1
        simp only [Bd] at i1
        have hrec:=ih ps[i] (List.getElem_mem hi) e (d+1) b hR (s3 _ (List.getElem_mem hi)) (by omega) (by omega) i2 i3
        obtain ⟨q,hq,hq'⟩:=hR.AW
        subst hq
        by_cases hb:b≤200
        ·rw [if_pos hb] at i1
         have hrange:=Ip ps[i] (d+1) b i2 i3
         exact .inl ⟨EN ps[i] (d+1) b,by simp [Tryz.f110,hp.len,hi',he,hb,hw,wd,hrec],i1,hrange⟩
        ·rw [if_neg hb] at i1
         exact .inr ⟨_,_,by simp [Tryz.f110,hp.len,hi',hb] <;> exact ⟨rfl,rfl⟩,by simp,i,_,by rw [i1]⟩) (fun b hI=>by
        obtain ⟨i1,i2,i3⟩:=hI
        rw [List.drop_length] at i1
        simp only [Bd] at i1
        exact ⟨_,_,by simp [Tryz.f110,hp.len] <;> exact ⟨rfl,rfl⟩,by simp,ps.length,_,by rw [i1]⟩) (c+1) ⟨by simp,by omega,by omega⟩
     obtain ⟨i,x,hq⟩:=hq
     cases hq
     simp [Tryz.f110] at hlp
     simp [AN,Tryz.f110,wc,h1,h2,h3,hp.len,hlp,EN]
theorem c156 (t:TyV):∀ (xs:List AV) (d c:Int),AU t xs→Sm 1048577 t→0≤d→d≤41→0≤c→c≤201→∀ h,AK MX (AH MX) 156 [.agg xs,.int .i64 d,.int .i64 c] h=some (.ret (.int .i64 (EN t d c)),h):=by
 induction t using TyV.ind with
 | h k v nm ps ih=>
  intro xs d c hx hs d0 d1 c0 c1 h
  have hn:([AV.agg xs,.int .i64 d,.int .i64 c]:List AV).all AV.AD=true:=by simp [AV.AD,hx.AG]
  obtain ⟨pv,rfl,hp⟩:=hx.dest
  obtain ⟨s1,s2,s3⟩:=hs.dest
  have wc:wr .i64 (c+1)=c+1:=BI (by omega) (by omega)
  have wd:wr .i64 (d+1)=d+1:=BI (by omega) (by omega)
  refine Ai S3 Vm hn rfl (hr:=[.var false [.int .i64 k,.int .i64 v,.str nm,pv]]) ?_ h
  by_cases h1:40<d
  ·simp [AN,Tryz.f156,wc,h1,EN]
  ·by_cases h2:200<c+1
   ·simp [AN,Tryz.f156,wc,h1,h2,EN]
   ·by_cases h3:200<(ps.length:Int)
    ·simp [AN,Tryz.f156,wc,h1,h2,h3,hp.len,EN]
    ·obtain ⟨e,st,hlp,hq⟩:=AR (M:=MX) (fid:=156) (N:=43) (C:=AH MX) (c:=AQ Tryz.f156 0) (n:=ps.length) (fun i (b:Int)=>([(1,.int .i64 d),(2,.int .i64 b),(3,.hp 0 0),(7,.int .i64 i)],[.var false [.int .i64 k,.int .i64 v,.str nm,pv]]))
      (fun i b=>Bd ps (d+1) (c+1)=Bd (ps.drop i) (d+1) b∧0≤b∧b≤201)
      (fun r=>∃ (i:Nat) (x:AV),r=(.ext 0,([(1,.int .i64 d),(2,.int .i64 (Bd ps (d+1) (c+1))),(3,.hp 0 0),(7,.int .i64 i),(30,x)],[.var false [.int .i64 k,.int .i64 v,.str nm,pv]]))) (fun i b hi hI=>by
        obtain ⟨e,he,hR⟩:=hp.ix hi
        have hi':=AY hi
        have hw:=AX hi s2
        obtain ⟨i1,i2,i3⟩:=hI
        have hdr:ps.drop i=ps[i]::ps.drop (i+1):=List.drop_eq_getElem_cons hi
        rw [hdr] at i1
        simp only [Bd] at i1
        have hrec:=ih ps[i] (List.getElem_mem hi) e (d+1) b hR (s3 _ (List.getElem_mem hi)) (by omega) (by omega) i2 i3
        obtain ⟨q,hq,hq'⟩:=hR.AW
        subst hq
        by_cases hb:b≤200
        ·rw [if_pos hb] at i1
         have hrange:=Ip ps[i] (d+1) b i2 i3
         exact .inl ⟨EN ps[i] (d+1) b,by simp [Tryz.f156,hp.len,hi',he,hb,hw,wd,hrec],i1,hrange⟩
        ·rw [if_neg hb] at i1
         exact .inr ⟨_,_,by simp [Tryz.f156,hp.len,hi',hb] <;> exact ⟨rfl,rfl⟩,by simp,i,_,by rw [i1]⟩) (fun b hI=>by
        obtain ⟨i1,i2,i3⟩:=hI
        rw [List.drop_length] at i1
        simp only [Bd] at i1
        exact ⟨_,_,by simp [Tryz.f156,hp.len] <;> exact ⟨rfl,rfl⟩,by simp,ps.length,_,by rw [i1]⟩) (c+1) ⟨by simp,by omega,by omega⟩
     obtain ⟨i,x,hq⟩:=hq
     cases hq
     simp [Tryz.f156] at hlp
     simp [AN,Tryz.f156,wc,h1,h2,h3,hp.len,hlp,EN]
theorem c59 {t:TyV} {xs:List AV} (hx:AU t xs) (hs:Sm 1048577 t) (h:AE):AK MX (AH MX) 59 [.agg xs] h=some (.ret (.bool (BE t)),h):=by
 have hn:([AV.agg xs]:List AV).all AV.AD=true:=by simp [AV.AD,hx.AG]
 have hc:=c110 t xs 1 0 hx hs (by omega) (by omega) (by omega) (by omega)
 obtain ⟨pv,rfl,hp⟩:=hx.AW
 exact Ai VF X9 hn rfl (hr:=[.var false [.int .i64 t.k,.int .i64 t.v,.str t.nm,pv]]) (by simp [AN,Tryz.f59,hc,BE]) h
theorem c86 {t:TyV} {xs:List AV} (hx:AU t xs) (hs:Sm 1048577 t) (h:AE):AK MX (AH MX) 86 [.agg xs] h=some (.ret (.bool (BE t)),h):=by
 have hn:([AV.agg xs]:List AV).all AV.AD=true:=by simp [AV.AD,hx.AG]
 have hc:=c156 t xs 1 0 hx hs (by omega) (by omega) (by omega) (by omega)
 obtain ⟨pv,rfl,hp⟩:=hx.AW
 exact Ai VQ YL hn rfl (hr:=[.var false [.int .i64 t.k,.int .i64 t.v,.str t.nm,pv]]) (by simp [AN,Tryz.f86,hc,BE]) h
def DF (l:List AO) (k:Int) (nm:Bytes):Option Nat:=
 if k=1 then (if nm == CT then some 1 else if nm == Bc then some 0 else (l.findIdx? (fun d=>d.nm == nm)).map (fun i=>(l.getD i default).params.length)) else some 0
mutual
def Ah (l:List AO) (params:List Bytes):TyV→Int
 | .mk k v nm ps=>if ¬ (0≤k∧k≤2) then 15 else if k=0∧params.findIdx? (fun x=>x == nm)=none then 6 else match DF l k nm with
  | none=>6
  | some n=>if ps.length≠n then 10 else if k=2∧¬ (0≤v∧v≤1000000000) then 2 else Be l params ps
def Be (l:List AO) (params:List Bytes):List TyV→Int
 | []=>0
 | p::r=>if Ah l params p=0 then Be l params r else Ah l params p
end
theorem FV {α:Type} {p:α→Bool} {l:List α} {i:Nat} (h:l.findIdx? p=some i):i<l.length:=by
 rw [List.findIdx?_eq_some_iff_getElem] at h
 exact h.1
theorem c186 {l:List AO} {lv:AV} (hl:SlR Ab 3 l lv) (hll:l.length<1048577) {params:List Bytes} {pr:AV} (hpr:SlR Bx 1 params pr) (hpl:params.length<1048577) (hps:∀ d∈l,d.params.length<1048577) (t:TyV):∀ (xs:List AV),AU t xs→Sm 1048577 t→∀ h,AK MX (AH MX) 186 [lv,pr,.agg xs] h=some (.ret (.int .i64 (Ah l params t)),h):=by
 induction t using TyV.ind with
 | h k v nm ps ih=>
  intro xs hx hs h
  have hn:([lv,pr,AV.agg xs]:List AV).all AV.AD=true:=by simp [AV.AD,hx.AG,hl.AD,hpr.AD]
  obtain ⟨pv,rfl,hp⟩:=hx.dest
  obtain ⟨s1,s2,s3⟩:=hs.dest
  refine Ai TC Vv hn rfl (hr:=[.var false [.int .i64 k,.int .i64 v,.str nm,pv]]) ?_ h
  have hP:=c89 nm hpr hpl
  have hD:=c118 nm hl hll
  -- the parts
  have hlp:Be l params ps=Be l params ps:=rfl
  obtain ⟨e,st,hlp,hq⟩:=AR (M:=MX) (fid:=186) (N:=81) (C:=AH MX) (c:=AQ Tryz.f186 0) (n:=ps.length) (fun i (_:Unit)=>([(0,lv),(1,pr),(5,.hp 0 0),(9,.int .i64 i)],[.var false [.int .i64 k,.int .i64 v,.str nm,pv]]))
   (fun i _=>Be l params ps=Be l params (ps.drop i))
   (fun r=>(r=(.ext 1,([(0,lv),(1,pr),(5,.hp 0 0),(9,.int .i64 ps.length),(67,.bool false)],[.var false [.int .i64 k,.int .i64 v,.str nm,pv]]))∧Be l params ps=0)∨r=(.ret,([(6,.int .i64 (Be l params ps))],[.var false [.int .i64 k,.int .i64 v,.str nm,pv]]))) (fun i b hi hI=>by
     obtain ⟨e,he,hR⟩:=hp.ix hi
     have hi':=AY hi
     have hw:=AX hi s2
     have hdr:ps.drop i=ps[i]::ps.drop (i+1):=List.drop_eq_getElem_cons hi
     rw [hdr] at hI
     simp only [Be] at hI
     have hrec:=ih ps[i] (List.getElem_mem hi) e hR (s3 _ (List.getElem_mem hi))
     obtain ⟨q,hq,hq'⟩:=hR.AW
     subst hq
     by_cases h0:Ah l params ps[i]=0
     ·rw [if_pos h0] at hI
      exact .inl ⟨(),by simp [Tryz.f186,hp.len,hi',he,hw,hrec,h0],hI⟩
     ·rw [if_neg h0] at hI
      have hne:(Ah l params ps[i] != 0)=true:=by simp [h0]
      exact .inr ⟨_,_,by simp [Tryz.f186,hp.len,hi',he,hw,hrec,hne] <;> exact ⟨rfl,rfl⟩,by simp,.inr (by rw [hI])⟩) (fun b hI=>by
     rw [List.drop_length] at hI
     exact ⟨_,_,by simp [Tryz.f186,hp.len] <;> exact ⟨rfl,rfl⟩,by simp,.inl ⟨rfl,hI⟩⟩) () (by simp)
  simp [Tryz.f186] at hlp
  -- the tail,for any count
  by_cases hk:0≤k∧k≤2
  ·have tail:∀ n:Nat,(∀ x:Int,x=n→(ps.length≠n→((ps.length:Int) != x)=true)∧(ps.length=n→((ps.length:Int) != x)=false)):=fun n x hx=>by
    subst hx
    constructor
    ·intro h;simp;omega
    ·intro h;simp;omega
   have fin:∀ (n:Nat),DF l k nm=some n→(k=0→params.findIdx? (fun x=>x == nm)≠none)→Ah l params (.mk k v nm ps)=(if ps.length≠n then 10 else if k=2∧¬ (0≤v∧v≤1000000000) then 2 else Be l params ps):=fun n hc h0=>by
    simp only [Ah,hc]
    rw [if_neg (fun h=>h hk),if_neg (fun h=>h0 h.1 h.2)]
   have kk:k=0∨k=1∨k=2:=by omega
   rcases kk with rfl | rfl | rfl
   ·-- a variable
    cases hm:params.findIdx? (fun x=>x == nm) with
    | none=>simp [AN,Tryz.f186,hP,hm,Ah]
    | some j=>
     rw [fin 0 rfl (by simp [hm])]
     by_cases hL:ps.length=0
     ·have:=(tail 0 0 rfl).2 hL
      rcases hq with ⟨hq,ha⟩ | hq <;> cases hq <;> simp [AN,Tryz.f186,hP,hm,hp.len,this,hL,hlp] <;> try exact ha.symm
     ·have:=(tail 0 0 rfl).1 hL
      simp [AN,Tryz.f186,hP,hm,hp.len,this,hL]
   ·by_cases hb:nm=CT
    ·rw [fin 1 (by simp [DF,hb]) (by simp)]
     have hb1:(nm == [66,105,116])=true:=by simp [hb,CT]
     by_cases hL:ps.length=1
     ·have:=(tail 1 1 rfl).2 hL
      rcases hq with ⟨hq,ha⟩ | hq <;> cases hq <;> simp [AN,Tryz.f186,hD,hp.len,this,hL,hlp,hb1] <;> try exact ha.symm
     ·have:=(tail 1 1 rfl).1 hL
      simp [AN,Tryz.f186,hD,hp.len,this,hL,hb1]
    ·have hb1:(nm == [66,105,116])=false:=by simpa [CT] using hb
     by_cases hb2:nm=Bc
     ·rw [fin 0 (by simp [DF,hb2,Bc,CT]) (by simp)]
      have hb3:(nm == [66,111,111,108])=true:=by simp [hb2,Bc]
      by_cases hL:ps.length=0
      ·have:=(tail 0 0 rfl).2 hL
       rcases hq with ⟨hq,ha⟩ | hq <;> cases hq <;> simp [AN,Tryz.f186,hD,hp.len,this,hL,hlp,hb1,hb3] <;> try exact ha.symm
      ·have:=(tail 0 0 rfl).1 hL
       simp [AN,Tryz.f186,hD,hp.len,this,hL,hb1,hb3]
     ·have hb3:(nm == [66,111,111,108])=false:=by simpa [Bc] using hb2
      cases hf:l.findIdx? (fun d=>d.nm == nm) with
      | none=>
       have:Ah l params (.mk 1 v nm ps)=6:=by
        have hc:DF l 1 nm=none:=by simp [DF,hb,hb2,hf]
        simp [Ah,hc]
       rw [this]
       simp [AN,Tryz.f186,hD,hf,ixI,hb1,hb3]
      | some i=>
       have hi:=FV hf
       obtain ⟨e,he,hR⟩:=hl.ix hi
       obtain ⟨pp,cc,rfl,hpp,hcc⟩:=hR.dest
       rw [fin l[i].params.length (by simp [DF,hb,hb2,hf,hi]) (by simp)]
       by_cases hL:ps.length=l[i].params.length
       ·have:=(tail _ (l[i].params.length:Int) rfl).2 hL
        rcases hq with ⟨hq,ha⟩ | hq <;> cases hq <;> simp [AN,Tryz.f186,hD,hf,ixI,hp.len,this,hlp,hb1,hb3,he,hpp.len,hL] <;> try exact ha.symm
       ·have:=(tail _ (l[i].params.length:Int) rfl).1 hL
        simp [AN,Tryz.f186,hD,hf,ixI,hp.len,this,hL,hb1,hb3,he,hpp.len]
   ·rw [fin 0 rfl (by simp)]
    by_cases hL:ps.length=0
    ·have:=(tail 0 0 rfl).2 hL
     by_cases hv:0≤v∧v≤1000000000
     ·rcases hq with ⟨hq,ha⟩ | hq <;> cases hq <;> simp [AN,Tryz.f186,hp.len,this,hL,hlp,hv] <;> try exact ha.symm
     ·simp [AN,Tryz.f186,hp.len,this,hL,hv]
    ·have:=(tail 0 0 rfl).1 hL
     simp [AN,Tryz.f186,hp.len,this,hL]
  ·simp [AN,Tryz.f186,hk,Ah]
theorem Ad {h:AE} {i:Nat} {b:Blk} (hb:h[i]? = some b) (l:AE):(h++l)[i]? = some b:=by
 rw [List.getElem?_append_left (List.getElem?_eq_some_iff.1 hb).1];exact hb
theorem Ci (h:AE) (x:Blk):(h++[x])[h.length]? = some x:=by simp
theorem _root_.Go.Am.SlR.slice {α:Type} {R:α→List AV→Prop} {sz:Nat} {l:List α} {v:AV} (hv:SlR R sz l v) {i:Nat} (hi:i≤l.length):∃ w,slA sz v none (some (.int .i64 i)) none=some w∧SlR R sz (l.take i) w:=by
 rcases hv with ⟨rfl,rfl⟩ | ⟨ex,es,rfl,hl,hr⟩
 ·have:i=0:=by simpa using hi
  subst this
  exact ⟨.AI,rfl,.inl ⟨by simp,rfl⟩⟩
 ·have h0:(0:Int)≤i∧(i:Int)≤es.length:=by omega
  have h1:FP (i:Int) es.length=some i:=by simp [FP,h0]
  have h2:FP 0 i=some 0:=by simp [FP]
  refine ⟨.sl sz (ex&&Nat.beq i es.length) (es.take i),by simp [slA,CK,Go.Am.intOf,h1,h2,A2,Iz],.inr ⟨_,_,rfl,by simp [hl],fun j a e h3 h4 => ?_⟩⟩
  rw [List.getElem?_take] at h3 h4
  split at h3
  ·rename_i hj
   rw [if_pos hj] at h4
   exact hr j a e h3 h4
  ·cases h3
def BU (l:List AO) (params:List Bytes) (t:TyV):Int:=if BE t then Ah l params t else 8
theorem c153 {l:List AO} {lv:AV} (hl:SlR Ab 3 l lv) (hll:l.length<1048577) {params:List Bytes} {pr:AV} (hpr:SlR Bx 1 params pr) (hpl:params.length<1048577) (hps:∀ d∈l,d.params.length<1048577) {t:TyV} {xs:List AV} (hx:AU t xs) (hs:Sm 1048577 t) (h:AE) :
  AK MX (AH MX) 153 [lv,pr,.agg xs] h=some (.ret (.int .i64 (BU l params t)),h):=by
 have hn:([lv,pr,AV.agg xs]:List AV).all AV.AD=true:=by simp [AV.AD,hx.AG,hl.AD,hpr.AD]
 have h1:=c59 hx hs
 have h2:=c186 hl hll hpr hpl hps t xs hx hs
 obtain ⟨pv,rfl,hp⟩:=hx.AW
 cases hb:BE t with
 | true=>exact Ai NR P6 hn rfl (hr:=[.var false [.int .i64 t.k,.int .i64 t.v,.str t.nm,pv]]) (by simp [AN,Tryz.f153,h1,h2,hb,BU]) h
 | false=>exact Ai NR P6 hn rfl (hr:=[.var false [.int .i64 t.k,.int .i64 t.v,.str t.nm,pv]]) (by simp [AN,Tryz.f153,h1,hb,BU]) h
def GV (d:AO) (s:Bytes):Bool:=(d.cons.findIdx? (fun c=>c.nm == s)).isSome
def G5 (l:List AO) (s:Bytes):Bool:=(l.findIdx? (fun d=>GV d s)).isSome
theorem c212 {l:List AO} {lv:AV} (s:Bytes) (hl:SlR Ab 3 l lv) (hll:l.length<1048577) (hcs:∀ d∈l,d.cons.length<1048577) (h:AE):AK MX (AH MX) 212 [lv,.str s] h=some (.ret (.bool (G5 l s)),h):=by
 refine Ai TI V2 (by simp [hl.AD,AV.AD]) rfl (hr:=[]) ?_ h
 obtain ⟨e,st,hlp,hq⟩:=AR (M:=MX) (fid:=212) (N:=34) (C:=AH MX) (c:=AQ Tryz.f212 0) (n:=l.length) (fun i (_:Unit)=>([(0,lv),(1,.str s),(5,.int .i64 i)],[])) (fun i _=>∀ j (hj:j<l.length),j<i→(fun d=>GV d s) l[j]=false)
  (fun r=>(r=(.ext 0,([(0,lv),(1,.str s),(5,.int .i64 l.length),(10,.bool false)],[]))∧G5 l s=false)∨(r=(.ret,([(4,.bool true)],[]))∧G5 l s=true)) (fun i b hi hI=>by
    obtain ⟨e,he,hR⟩:=hl.ix hi
    have hi':=AY hi
    have hw:=AX hi hll
    obtain ⟨pv,cv,rfl,hp,hc⟩:=hR.dest
    have hcl:=hcs _ (List.getElem_mem hi)
    obtain ⟨e2,st2,hlp2,hq2⟩:=AR (M:=MX) (fid:=212) (N:=34) (C:=AH MX) (c:=AQ Tryz.f212 1) (n:=l[i].cons.length) (fun k (_:Unit)=>([(0,lv),(1,.str s),(5,.int .i64 i),(6,.int .i64 k)],[])) (fun k _=>∀ j (hj:j<l[i].cons.length),j<k→(fun c:Bb=>c.nm == s) l[i].cons[j]=false)
     (fun r=>(r=(.ext 2,([(0,lv),(1,.str s),(5,.int .i64 i),(6,.int .i64 l[i].cons.length),(20,.bool false)],[]))∧GV l[i] s=false)∨(r=(.ret,([(4,.bool true)],[]))∧GV l[i] s=true)) (fun k b hk hK=>by
       obtain ⟨e',he',hR'⟩:=hc.ix hk
       have hk':=AY hk
       have hwk:=AX hk hcl
       obtain ⟨fv,rfl,hf⟩:=hR'.dest
       cases hx:(l[i].cons[k].nm == s) with
       | true=>exact .inr ⟨_,_,by simp only [beq_iff_eq] at hx;simp [Tryz.f212,hc.len,hk',hi',he,he',hx] <;> first | exact ⟨rfl,rfl⟩ | rfl,by simp,.inr ⟨rfl,by simp only [GV];rw [Eh (p:=fun c:Bb=>c.nm == s) hk hK hx];rfl⟩⟩
       | false=>exact .inl ⟨(),by have hx':=hx;simp only [beq_eq_false_iff_ne,ne_eq] at hx';simp [Tryz.f212,hc.len,hk',hi',he,he',hx,hx',hwk],Ej (p:=fun c:Bb=>c.nm == s) hk hK hx⟩) (fun b hK=>by
       exact ⟨_,_,by simp [Tryz.f212,hc.len,hi',he] <;> first | exact ⟨rfl,rfl⟩ | rfl,by simp,.inl ⟨rfl,by simp only [GV];rw [Ei (p:=fun c:Bb=>c.nm == s) fun j hj=>hK j hj hj];rfl⟩⟩) () (fun j _ h0=>by omega)
    simp [Tryz.f212] at hlp2
    rcases hq2 with ⟨hq2,hs2⟩ | ⟨hq2,hs2⟩ <;> cases hq2
    ·exact .inl ⟨(),by simp [Tryz.f212,hl.len,hi',hlp2,hw],Ej (p:=fun d=>GV d s) hi hI hs2⟩
    ·exact .inr ⟨_,_,by simp [Tryz.f212,hl.len,hi',hlp2] <;> first | exact ⟨rfl,rfl⟩ | rfl,by simp,.inr ⟨rfl,by simp only [G5];rw [Eh (p:=fun d=>GV d s) hi hI hs2];rfl⟩⟩) (fun b hI=>by
    exact ⟨_,_,by simp [Tryz.f212,hl.len] <;> first | exact ⟨rfl,rfl⟩ | rfl,by simp,.inl ⟨rfl,by simp only [G5];rw [Ei (p:=fun d=>GV d s) fun j hj=>hI j hj hj];rfl⟩⟩) () (fun j _ h0=>by omega)
 simp [Tryz.f212] at hlp
 rcases hq with ⟨hq,hs⟩ | ⟨hq,hs⟩ <;> cases hq <;> simp [AN,Tryz.f212,hlp,hs]
def D0 (l:List AO) (params:List Bytes):List B7→List B7→Int
 | _,[]=>0
 | prev,f::r=>if A6 f.nm=false then 4 else if (prev.findIdx? (fun g=>g.nm == f.nm)).isSome then 5 else if BU l params f.ty=0 then D0 l params (prev++[f]) r else BU l params f.ty
def CU (l:List AO) (params:List Bytes) (fs:List B7):Int:=if 8<fs.length then 8 else D0 l params [] fs
theorem SmC.fld {b:Nat} {c:Bb} (h:SmC b c):c.fields.length<b:=h.2.1
theorem c213 {l:List AO} {lv:AV} (hl:SlR Ab 3 l lv) (hsl:SmL 1048577 l) {d:AO} {dx:List AV} (hd:Ab d dx) (hsd:SmD 1048577 d) {c:Bb} {cx:List AV} (hc:Cu c cx) (hsc:SmC 1048577 c) (h:AE) :
  AK MX (AH MX) 213 [.agg dx,.agg cx,lv] h=some (.ret (.int .i64 (CU l d.params c.fields)),h):=by
 obtain ⟨pv,cv,rfl,hp,hcv⟩:=hd.dest
 obtain ⟨fv,rfl,hf⟩:=hc.dest
 have hn:([AV.agg [.str d.nm,pv,cv],AV.agg [.str c.nm,fv],lv]:List AV).all AV.AD=true:=by simp [AV.AD,AG,hl.AD,hp.AD,hcv.AD,hf.AD]
 obtain ⟨hr,hc'⟩:∃ hr,AN MX 213 [.agg [.str d.nm,pv,cv],.agg [.str c.nm,fv],lv] []=some (.ret (.int .i64 (CU l d.params c.fields)),hr):=by
  by_cases h8:8<c.fields.length
  ·have h8':(8<(c.fields.length:Int)):=by omega
   exact ⟨_,by simp [AN,Tryz.f213,hf.len,h8',CU,h8] <;> rfl⟩
  ·have h8':¬ (8<(c.fields.length:Int)):=by omega
   have hfl:c.fields.length<1048577:=by omega
   obtain ⟨e,st,hlp,hq⟩:=AR (M:=MX) (fid:=213) (N:=54) (C:=AH MX) (c:=AQ Tryz.f213 0) (n:=c.fields.length) (fun i (b:AE)=>([(2,lv),(3,.hp 0 0),(4,.hp 1 0),(7,.int .i64 i)],Blk.var false [AV.str d.nm,pv,cv]::Blk.var false [AV.str c.nm,fv]::b))
    (fun i b=>D0 l d.params [] c.fields=D0 l d.params (c.fields.take i) (c.fields.drop i))
    (fun r=>∃ b:AE,(r=(.ext 0,([(2,lv),(3,.hp 0 0),(4,.hp 1 0),(7,.int .i64 c.fields.length),(19,.bool false)],b))∧D0 l d.params [] c.fields=0)∨r=(.ret,([(6,.int .i64 (D0 l d.params [] c.fields))],b))) (fun i b hi hI=>by
      have i2:=hI
      obtain ⟨e,he,hR⟩:=hf.ix hi
      have hi':=AY hi
      have hw:=AX hi hfl
      have hmem:=List.getElem_mem hi
      obtain ⟨hnm,hsm⟩:=hsc.2.2 _ hmem
      obtain ⟨tx,hex,ht⟩:=hR
      subst hex
      have h153:=c153 hl hsl.1 hp hsd.2.1 (fun d hd=>(hsl.2 d hd).2.1) ht hsm
      have hN:=Tw c.fields[i].nm hnm
      obtain ⟨qv,rfl,hqv⟩:=ht.AW
      have hdr:c.fields.drop i=c.fields[i]::c.fields.drop (i+1):=List.drop_eq_getElem_cons hi
      have htk:c.fields.take i++[c.fields[i]]=c.fields.take (i+1):=by simp
      rw [hdr] at i2
      simp only [D0] at i2
      rw [htk] at i2
      -- the block of the field
      cases hN0:A6 c.fields[i].nm with
      | false=>
       rw [hN0] at i2
       exact .inr ⟨_,_,by simp [Tryz.f213,hf.len,hi',he,hN,hN0] <;> first | exact ⟨rfl,rfl⟩ | rfl,by simp,_,.inr (by rw [i2];rfl)⟩
      | true=>
       rw [hN0] at i2
       obtain ⟨e2,st2,hlp2,hq2⟩:=AR (M:=MX) (fid:=213) (N:=54) (C:=AH MX) (c:=AQ Tryz.f213 1) (n:=i) (fun k (_:Unit)=>([(2,lv),(3,.hp 0 0),(4,.hp 1 0),(7,.int .i64 i),(8,.hp (b.length+1+1) 0),(9,.int .i64 k)],(Blk.var false [AV.str d.nm,pv,cv]::Blk.var false [AV.str c.nm,fv]::(b++[Blk.var false [AV.str c.fields[i].nm,AV.int IntKind.i64 c.fields[i].ty.k,AV.int IntKind.i64 c.fields[i].ty.v,AV.str c.fields[i].ty.nm,qv]]:AE))))
        (fun k _=>∀ j (hj:j<(c.fields.take i).length),j<k→(fun g:B7=>g.nm == c.fields[i].nm) (c.fields.take i)[j]=false)
        (fun r=>(r=(.ext 2,([(2,lv),(3,.hp 0 0),(4,.hp 1 0),(7,.int .i64 i),(8,.hp (b.length+1+1) 0),(9,.int .i64 i),(33,.bool false)],(Blk.var false [AV.str d.nm,pv,cv]::Blk.var false [AV.str c.nm,fv]::(b++[Blk.var false [AV.str c.fields[i].nm,AV.int IntKind.i64 c.fields[i].ty.k,AV.int IntKind.i64 c.fields[i].ty.v,AV.str c.fields[i].ty.nm,qv]]:AE))))∧((c.fields.take i).findIdx? (fun g=>g.nm == c.fields[i].nm)).isSome=false)∨(r=(.ret,([(6,.int .i64 5)],(Blk.var false [AV.str d.nm,pv,cv]::Blk.var false [AV.str c.nm,fv]::(b++[Blk.var false [AV.str c.fields[i].nm,AV.int IntKind.i64 c.fields[i].ty.k,AV.int IntKind.i64 c.fields[i].ty.v,AV.str c.fields[i].ty.nm,qv]]:AE))))∧((c.fields.take i).findIdx? (fun g=>g.nm == c.fields[i].nm)).isSome=true)) (fun k u hk hK=>by
          have hkl:k<c.fields.length:=by omega
          have hkt:k<(c.fields.take i).length:=by simp;omega
          have hke:(c.fields.take i)[k]=c.fields[k]:=by simp
          obtain ⟨e',he',hR'⟩:=hf.ix hkl
          have hk':=AY hk
          have hwk:=AX hk (by omega)
          obtain ⟨qv',rfl,hqv'⟩:=hR'.dest
          cases hx:(c.fields[k].nm == c.fields[i].nm) with
          | true=>exact .inr ⟨_,_,by simp [Tryz.f213,hk',he',hx] <;> first | exact ⟨rfl,rfl⟩ | rfl,by simp,.inr ⟨rfl,by rw [Eh (p:=fun g:B7=>g.nm == c.fields[i].nm) hkt hK (by rw [hke];exact hx)];rfl⟩⟩
          | false=>exact .inl ⟨(),by simp [Tryz.f213,hk',he',hx,hwk],Ej (p:=fun g:B7=>g.nm == c.fields[i].nm) hkt hK (by rw [hke];exact hx)⟩) (fun u hK=>by
          exact ⟨_,_,by simp [Tryz.f213] <;> first | exact ⟨rfl,rfl⟩ | rfl,by simp,.inl ⟨rfl,by rw [Ei (p:=fun g:B7=>g.nm == c.fields[i].nm) fun j hj=>hK j hj (by simp at hj;omega)];rfl⟩⟩) () (fun j _ h0=>by omega)
       simp [Tryz.f213] at hlp2
       rcases hq2 with ⟨hq2,hs2⟩ | ⟨hq2,hs2⟩ <;> cases hq2
       ·rw [hs2] at i2
        by_cases h0:BU l d.params c.fields[i].ty=0
        ·rw [if_pos h0] at i2
         exact .inl ⟨_,by simp [Tryz.f213,hf.len,hi',he,hN,hN0,hlp2,h153,h0,hw,ht.AG,AG,AV.AD,hl.AD,hp.AD,hqv.AD] <;> rfl,by simpa using i2⟩
        ·rw [if_neg h0] at i2
         have hne:(BU l d.params c.fields[i].ty != 0)=true:=by simp [h0]
         exact .inr ⟨_,_,by simp [Tryz.f213,hf.len,hi',he,hN,hN0,hlp2,h153,hne,AG,AV.AD,hl.AD,hp.AD,hqv.AD] <;> first | exact ⟨rfl,rfl⟩ | rfl,by simp,_,.inr (by rw [i2];rfl)⟩
       ·rw [hs2] at i2
        exact .inr ⟨_,_,by simp [Tryz.f213,hf.len,hi',he,hN,hN0,hlp2] <;> first | exact ⟨rfl,rfl⟩ | rfl,by simp,_,.inr (by rw [i2];rfl)⟩) (fun b hI=>by
      have i2:=hI
      rw [List.drop_length] at i2
      exact ⟨_,_,by simp [Tryz.f213,hf.len] <;> first | exact ⟨rfl,rfl⟩ | rfl,by simp,_,.inl ⟨rfl,i2⟩⟩) ([]:AE) (by simp)
   simp [Tryz.f213] at hlp
   obtain ⟨b,hq⟩:=hq
   rcases hq with ⟨hq,hs⟩ | hq <;> cases hq
   ·exact ⟨_,by simp [AN,Tryz.f213,hf.len,h8',hlp,CU,h8,hs] <;> rfl⟩
   ·exact ⟨_,by simp [AN,Tryz.f213,hf.len,h8',hlp,CU,h8] <;> rfl⟩
 exact Ai TJ V3 hn rfl hc' h
def Bw:Bytes:=[70,97,108,115,101]
def DB:Bytes:=[84,114,117,101]
def DU:Bytes:=[73,110,116,101,103,101,114]
def CV:List Bytes→List Bytes→Int
 | _,[]=>0
 | prev,p::r=>if A6 p=false then 4 else if (prev.findIdx? (fun x=>x == p)).isSome then 5 else CV (prev++[p]) r
def ER (l:List AO) (params:List Bytes):List Bb→List Bb→Int
 | _,[]=>0
 | prev,c::r=>if A6 c.nm=false then 4 else if G5 l c.nm then 5 else if (prev.findIdx? (fun g=>g.nm == c.nm)).isSome then 5 else if c.nm == Bw then 5 else if c.nm == DB then 5 else
  if CU l params c.fields=0 then ER l params (prev++[c]) r else CU l params c.fields
def BH (d:AO) (l:List AO):Int:=
 if A6 d.nm=false then 4 else if (l.findIdx? (fun x=>x.nm == d.nm)).isSome then 5 else if d.nm == CT then 5 else if d.nm == Bc then 5 else if d.nm == DU then 5 else
 if 4<d.params.length then 8 else if 16<d.cons.length then 8 else if d.cons.length=0 then 10 else
 if CV [] d.params=0 then ER l d.params [] d.cons else CV [] d.params
theorem RS (c:List Bb) (s:Bytes):G5 [⟨[],[],c⟩] s=(c.findIdx? (fun g=>g.nm == s)).isSome:=by
 simp only [G5,GV,List.findIdx?_cons]
 cases (c.findIdx? (fun g=>g.nm == s)).isSome <;> simp
theorem c185 {l:List AO} {lv:AV} (hl:SlR Ab 3 l lv) (hsl:SmL 1048577 l) {d:AO} {dx:List AV} (hd:Ab d dx) (hsd:SmD 1048577 d) (h:AE) :
  AK MX (AH MX) 185 [.agg dx,lv] h=some (.ret (.int .i64 (BH d l)),h):=by
 have h213:=fun {c:Bb} {cx:List AV} (hc:Cu c cx) (hsc:SmC 1048577 c)=>c213 hl hsl hd hsd hc hsc
 obtain ⟨s1,s2,s3,s4,s5⟩:=hsd
 have hN:=Tw d.nm s1
 have hD:=c118 d.nm hl hsl.1
 obtain ⟨pv,cv,rfl,hp,hcv⟩:=hd.dest
 have hn:([AV.agg [.str d.nm,pv,cv],lv]:List AV).all AV.AD=true:=by simp [AV.AD,AG,hl.AD,hp.AD,hcv.AD]
 obtain ⟨hr,hc'⟩:∃ hr,AN MX 185 [.agg [.str d.nm,pv,cv],lv] []=some (.ret (.int .i64 (BH d l)),hr):=by
  unfold BH
  cases hN0:A6 d.nm with
  | false=>exact ⟨_,by simp [AN,Tryz.f185,hN,hN0] <;> rfl⟩
  | true=>
  cases hD0:l.findIdx? (fun x=>x.nm == d.nm) with
  | some j=>
   exact ⟨_,by simp [AN,Tryz.f185,hN,hN0,hD,hD0,ixI] <;> rfl⟩
  | none=>
  cases hb1:(d.nm == CT) with
  | true=>
   have hb1':(d.nm == [66,105,116])=true:=hb1
   exact ⟨_,by simp [AN,Tryz.f185,hN,hN0,hD,hD0,ixI,hb1'] <;> rfl⟩
  | false=>
  have hb1':(d.nm == [66,105,116])=false:=hb1
  cases hb2:(d.nm == Bc) with
  | true=>
   have hb2':(d.nm == [66,111,111,108])=true:=hb2
   exact ⟨_,by simp [AN,Tryz.f185,hN,hN0,hD,hD0,ixI,hb1',hb2'] <;> rfl⟩
  | false=>
  have hb2':(d.nm == [66,111,111,108])=false:=hb2
  cases hb3:(d.nm == DU) with
  | true=>
   have hb3':(d.nm == [73,110,116,101,103,101,114])=true:=hb3
   exact ⟨_,by simp [AN,Tryz.f185,hN,hN0,hD,hD0,ixI,hb1',hb2',hb3'] <;> rfl⟩
  | false=>
  have hb3':(d.nm == [73,110,116,101,103,101,114])=false:=hb3
  by_cases h4:4<d.params.length
  ·have h4':(4<(d.params.length:Int)):=by omega
   exact ⟨_,by simp [AN,Tryz.f185,hN,hN0,hD,hD0,ixI,hb1',hb2',hb3',hp.len,h4',h4] <;> rfl⟩
  ·have h4':¬ (4<(d.params.length:Int)):=by omega
   by_cases h16:16<d.cons.length
   ·have h16':(16<(d.cons.length:Int)):=by omega
    exact ⟨_,by simp [AN,Tryz.f185,hN,hN0,hD,hD0,ixI,hb1',hb2',hb3',hp.len,hcv.len,h4',h4,h16',h16] <;> rfl⟩
   ·have h16':¬ (16<(d.cons.length:Int)):=by omega
    by_cases h0:d.cons.length=0
    ·exact ⟨_,by simp [AN,Tryz.f185,hN,hN0,hD,hD0,ixI,hb1',hb2',hb3',hp.len,hcv.len,h4',h4,h16',h16,h0] <;> rfl⟩
    ·have h0':((d.cons.length:Int) == 0)=false:=by rw [beq_eq_false_iff_ne];omega
     -- the parameters
     obtain ⟨e,st,hlp,hq⟩:=AR (M:=MX) (fid:=185) (N:=119) (C:=AH MX) (c:=AQ Tryz.f185 0) (n:=d.params.length) (fun i (_:Unit)=>([(1,lv),(2,.hp 0 0),(5,.int .i64 i)],[Blk.var false [AV.str d.nm,pv,cv]]))
      (fun i _=>CV [] d.params=CV (d.params.take i) (d.params.drop i))
      (fun r=>(r=(.ext 0,([(1,lv),(2,.hp 0 0),(5,.int .i64 d.params.length),(51,.bool false)],[Blk.var false [AV.str d.nm,pv,cv]]))∧CV [] d.params=0)∨(r=(.ret,([(4,.int .i64 (CV [] d.params))],[Blk.var false [AV.str d.nm,pv,cv]]))∧CV [] d.params≠0)) (fun i b hi hI=>by
        obtain ⟨e,he,hR⟩:=hp.ix hi
        have hi':=AY hi
        have hw:=AX hi s2
        cases hR
        have hNp:=Tw d.params[i] (s3 _ (List.getElem_mem hi))
        obtain ⟨w,hw1,hw2⟩:=hp.slice (Nat.le_of_lt hi)
        have hH:=c89 d.params[i] hw2 (by simp;omega)
        have hdr:d.params.drop i=d.params[i]::d.params.drop (i+1):=List.drop_eq_getElem_cons hi
        have htk:d.params.take i++[d.params[i]]=d.params.take (i+1):=by simp
        rw [hdr] at hI
        simp only [CV] at hI
        rw [htk] at hI
        cases hNp0:A6 d.params[i] with
        | false=>
         rw [hNp0] at hI
         exact .inr ⟨_,_,by simp [Tryz.f185,hp.len,hi',he,hNp,hNp0] <;> first | exact ⟨rfl,rfl⟩ | rfl,by simp,.inr ⟨by rw [hI];rfl,by rw [hI];simp⟩⟩
        | true=>
         rw [hNp0] at hI
         cases hH0:((d.params.take i).findIdx? (fun x=>x == d.params[i])).isSome with
         | true=>
          rw [hH0] at hI
          simp only [hH0] at hH
          exact .inr ⟨_,_,by simp [Tryz.f185,hp.len,hi',he,hNp,hNp0,hw1,hw2.AD,hH,hH0,AV.AD] <;> first | exact ⟨rfl,rfl⟩ | rfl,by simp,.inr ⟨by rw [hI];rfl,by rw [hI];simp⟩⟩
         | false=>
          rw [hH0] at hI
          simp only [hH0] at hH
          exact .inl ⟨(),by simp [Tryz.f185,hp.len,hi',he,hNp,hNp0,hw1,hw2.AD,hH,hH0,AV.AD,hw],by simpa using hI⟩) (fun b hI=>by
        rw [List.drop_length] at hI
        exact ⟨_,_,by simp [Tryz.f185,hp.len] <;> first | exact ⟨rfl,rfl⟩ | rfl,by simp,.inl ⟨rfl,hI⟩⟩) () (by simp)
     simp [Tryz.f185] at hlp
     rcases hq with ⟨hq,hP⟩ | ⟨hq,hP⟩ <;> cases hq
     ·-- the constructors
      obtain ⟨e2,st2,hlp2,hq2⟩:=AR (M:=MX) (fid:=185) (N:=119) (C:=AH MX) (c:=AQ Tryz.f185 1) (n:=d.cons.length) (fun i (b:AE)=>([(1,lv),(2,.hp 0 0),(6,.int .i64 i)],Blk.var false [AV.str d.nm,pv,cv]::b))
       (fun i _=>ER l d.params [] d.cons=ER l d.params (d.cons.take i) (d.cons.drop i))
       (fun r=>∃ b:AE,(r=(.ext 2,([(1,lv),(2,.hp 0 0),(6,.int .i64 d.cons.length),(75,.bool false)],b))∧ER l d.params [] d.cons=0)∨(r=(.ret,([(4,.int .i64 (ER l d.params [] d.cons))],b)))) (fun i b hi hI=>by
         obtain ⟨e,he,hR⟩:=hcv.ix hi
         have hi':=AY hi
         have hw:=AX hi s4
         have hmem:=List.getElem_mem hi
         have hsc:=s5 _ hmem
         have hNc:=Tw d.cons[i].nm hsc.1
         have h212:=c212 d.cons[i].nm hl hsl.1 (fun d hd=>(hsl.2 d hd).2.2.2.1)
         obtain ⟨w,hw1,hw2⟩:=hcv.slice (Nat.le_of_lt hi)
         have hone:SlR Ab 3 [⟨[],[],d.cons.take i⟩] (.sl 3 true [[.str [],.AI,w]]):=.inr ⟨true,_,rfl,rfl,fun j a e h1 h2=>by
          cases j with
          | zero=>
           simp only [List.getElem?_cons_zero,Option.some.injEq] at h1 h2
           subst h1;subst h2
           exact ⟨.AI,w,rfl,.inl ⟨rfl,rfl⟩,hw2⟩
          | succ j=>simp at h1⟩
         have h212b:=c212 d.cons[i].nm hone (by simp) (fun d' hd'=>by simp at hd';subst hd';simp;omega)
         rw [RS] at h212b
         have hdr:d.cons.drop i=d.cons[i]::d.cons.drop (i+1):=List.drop_eq_getElem_cons hi
         have htk:d.cons.take i++[d.cons[i]]=d.cons.take (i+1):=by simp
         have h3:=h213 hR hsc
         obtain ⟨fv,rfl,hf⟩:=hR.dest
         rw [hdr] at hI
         simp only [ER] at hI
         rw [htk] at hI
         cases hNc0:A6 d.cons[i].nm with
         | false=>
          rw [hNc0] at hI
          exact .inr ⟨_,_,by simp [Tryz.f185,hcv.len,hi',he,hNc,hNc0] <;> first | exact ⟨rfl,rfl⟩ | rfl,by simp,_,.inr (by rw [hI];rfl)⟩
         | true=>
         rw [hNc0] at hI
         cases hc1:G5 l d.cons[i].nm with
         | true=>
          rw [hc1] at hI
          exact .inr ⟨_,_,by simp [Tryz.f185,hcv.len,hi',he,hNc,hNc0,h212,hc1,hl.AD,AV.AD] <;> first | exact ⟨rfl,rfl⟩ | rfl,by simp,_,.inr (by rw [hI];rfl)⟩
         | false=>
         rw [hc1] at hI
         cases hc2:((d.cons.take i).findIdx? (fun g=>g.nm == d.cons[i].nm)).isSome with
         | true=>
          rw [hc2] at hI
          simp only [hc2] at h212b
          exact .inr ⟨_,_,by simp [Tryz.f185,hcv.len,hi',he,hNc,hNc0,h212,hc1,hw1,bsA,Ar,List.replicate,AG,AV.AD,hw2.AD,hw2.cells,h212b,hc2,hl.AD] <;> first | exact ⟨rfl,rfl⟩ | rfl,by simp,_,.inr (by rw [hI];rfl)⟩
         | false=>
         rw [hc2] at hI
         simp only [hc2] at h212b
         cases hc3:(d.cons[i].nm == Bw) with
         | true=>
          rw [hc3] at hI
          have hc3':(d.cons[i].nm == [70,97,108,115,101])=true:=hc3
          exact .inr ⟨_,_,by simp [Tryz.f185,hcv.len,hi',he,hNc,hNc0,h212,hc1,hw1,bsA,Ar,List.replicate,AG,AV.AD,hw2.AD,hw2.cells,h212b,hc2,hl.AD,hc3'] <;> first | exact ⟨rfl,rfl⟩ | rfl,by simp,_,.inr (by rw [hI];rfl)⟩
         | false=>
         rw [hc3] at hI
         have hc3':(d.cons[i].nm == [70,97,108,115,101])=false:=hc3
         cases hc4:(d.cons[i].nm == DB) with
         | true=>
          rw [hc4] at hI
          have hc4':(d.cons[i].nm == [84,114,117,101])=true:=hc4
          exact .inr ⟨_,_,by simp [Tryz.f185,hcv.len,hi',he,hNc,hNc0,h212,hc1,hw1,bsA,Ar,List.replicate,AG,AV.AD,hw2.AD,hw2.cells,h212b,hc2,hl.AD,hc3',hc4'] <;> first | exact ⟨rfl,rfl⟩ | rfl,by simp,_,.inr (by rw [hI];rfl)⟩
         | false=>
         rw [hc4] at hI
         have hc4':(d.cons[i].nm == [84,114,117,101])=false:=hc4
         by_cases hz:CU l d.params d.cons[i].fields=0
         ·rw [if_pos hz] at hI
          exact .inl ⟨_,by simp [Tryz.f185,hcv.len,hi',he,hNc,hNc0,h212,hc1,hw1,bsA,Ar,List.replicate,AG,AV.AD,hw2.AD,hw2.cells,h212b,hc2,hl.AD,hp.AD,hcv.AD,hf.AD,hc3',hc4',h3,hz,hw] <;> rfl,by simpa using hI⟩
         ·rw [if_neg hz] at hI
          have hne:(CU l d.params d.cons[i].fields != 0)=true:=by simp [hz]
          exact .inr ⟨_,_,by simp [Tryz.f185,hcv.len,hi',he,hNc,hNc0,h212,hc1,hw1,bsA,Ar,List.replicate,AG,AV.AD,hw2.AD,hw2.cells,h212b,hc2,hl.AD,hp.AD,hcv.AD,hf.AD,hc3',hc4',h3,hne] <;> first | exact ⟨rfl,rfl⟩ | rfl,by simp,_,.inr (by rw [hI];rfl)⟩) (fun b hI=>by
         rw [List.drop_length] at hI
         exact ⟨_,_,by simp [Tryz.f185,hcv.len] <;> first | exact ⟨rfl,rfl⟩ | rfl,by simp,_,.inl ⟨rfl,hI⟩⟩) ([]:AE) (by simp)
      simp [Tryz.f185] at hlp2
      obtain ⟨b,hq2⟩:=hq2
      rcases hq2 with ⟨hq2,hC⟩ | hq2 <;> cases hq2
      ·exact ⟨_,by simp [AN,Tryz.f185,hN,hN0,hD,hD0,ixI,hb1',hb2',hb3',hp.len,hcv.len,h4',h4,h16',h16,h0,h0',hlp,hP,hlp2,hC] <;> rfl⟩
      ·exact ⟨_,by simp [AN,Tryz.f185,hN,hN0,hD,hD0,ixI,hb1',hb2',hb3',hp.len,hcv.len,h4',h4,h16',h16,h0,h0',hlp,hP,hlp2] <;> rfl⟩
     ·exact ⟨_,by simp [AN,Tryz.f185,hN,hN0,hD,hD0,ixI,hb1',hb2',hb3',hp.len,hcv.len,h4',h4,h16',h16,h0,h0',hlp,hP] <;> rfl⟩
 exact Ai TB Vu hn rfl hc' h
def E1:List AO→List AO→Int×Int
 | _,[]=>(0,0)
 | prev,d::r=>if BH d prev=0 then E1 (prev++[d]) r else (prev.length,BH d prev)
def Ao (l:List AO):Int×Int:=if 20<l.length then (0,8) else E1 [] l
theorem c152 {l:List AO} {lv:AV} (hl:SlR Ab 3 l lv) (hsl:SmL 1048577 l) (h:AE) :
  AK MX (AH MX) 152 [lv] h=some (.ret (.tup [.int .i64 (Ao l).1,.int .i64 (Ao l).2]),h):=by
 refine Ai S1 Vk (by simp [hl.AD]) rfl (hr:=[]) ?_ h
 unfold Ao
 by_cases h20:20<l.length
 ·have h20':(20<(l.length:Int)):=by omega
  simp [AN,Tryz.f152,hl.len,h20,h20']
 ·have h20':¬ (20<(l.length:Int)):=by omega
  obtain ⟨e,st,hlp,hq⟩:=AR (M:=MX) (fid:=152) (N:=27) (C:=AH MX) (c:=AQ Tryz.f152 0) (n:=l.length) (fun i (_:Unit)=>([(0,lv),(4,.int .i64 i)],[]))
   (fun i _=>E1 [] l=E1 (l.take i) (l.drop i))
   (fun r=>(r=(.ext 0,([(0,lv),(4,.int .i64 l.length),(12,.bool false)],[]))∧E1 [] l=(0,0))∨(r=(.ret,([(2,.int .i64 (E1 [] l).1),(3,.int .i64 (E1 [] l).2)],[])))) (fun i b hi hI=>by
     obtain ⟨e,he,hR⟩:=hl.ix hi
     have hi':=AY hi
     have hw:=AX hi hsl.1
     have hmem:=List.getElem_mem hi
     obtain ⟨w,hw1,hw2⟩:=hl.slice (Nat.le_of_lt hi)
     have h185:=c185 hw2 ⟨by simp;omega,fun d hd=>hsl.2 d (List.mem_of_mem_take hd)⟩ hR (hsl.2 _ hmem)
     have hdr:l.drop i=l[i]::l.drop (i+1):=List.drop_eq_getElem_cons hi
     have htk:l.take i++[l[i]]=l.take (i+1):=by simp
     have htl:(l.take i).length=i:=by simp;omega
     obtain ⟨pv,cv,rfl,hp,hc⟩:=hR.dest
     rw [hdr] at hI
     simp only [E1] at hI
     rw [htk,htl] at hI
     by_cases h0:BH l[i] (l.take i)=0
     ·rw [if_pos h0] at hI
      exact .inl ⟨(),by simp [Tryz.f152,hl.len,hi',he,hw1,h185,h0,hw,AG,AV.AD,hw2.AD,hp.AD,hc.AD],hI⟩
     ·rw [if_neg h0] at hI
      have hne:(BH l[i] (l.take i) != 0)=true:=by simp [h0]
      exact .inr ⟨_,_,by simp [Tryz.f152,hl.len,hi',he,hw1,h185,hne,AG,AV.AD,hw2.AD,hp.AD,hc.AD] <;> first | exact ⟨rfl,rfl⟩ | rfl,by simp,.inr (by rw [hI])⟩) (fun b hI=>by
     rw [List.drop_length] at hI
     exact ⟨_,_,by simp [Tryz.f152,hl.len] <;> first | exact ⟨rfl,rfl⟩ | rfl,by simp,.inl ⟨rfl,hI⟩⟩) () (by simp)
  simp [Tryz.f152] at hlp
  rcases hq with ⟨hq,hs⟩ | hq <;> cases hq
  ·simp [AN,Tryz.f152,hl.len,h20,h20',hlp,hs]
  ·simp [AN,Tryz.f152,hl.len,h20,h20',hlp]
theorem c84 {l:List AO} {lv:AV} (hl:SlR Ab 3 l lv) (hsl:SmL 1048577 l) (h:AE) :
  AK MX (AH MX) 84 [lv] h=some (.ret (.int .i64 (Ao l).2),h):=
 Ai VO YJ (by simp [hl.AD]) rfl (hr:=[]) (by simp [AN,Tryz.f84,c152 hl hsl]) h
end Go.Proofs.Am12
namespace Go.Proofs.Am12
open Go Go.Am
attribute [local simp] Du CY EX Dv Ch Dw Dx Ew Ba BS Bg Al GC FC EK Gv D2 BA E3 EL Gw Gx xUn Er D3 FD BK DD BL D4 BM D5 Cp Cf B8 BG EM EO
 ev evs Cy DC OR.ofV OR.Dc OR.ofC FH Tm.get Tm.init Tm.only A2 BC CO finish CB Cg Gu Dn D1 unA Ca Br Cb Bs C4 C5 C6 Bt C7 C8 Bu C9 DA Bv Cc AQ CQ Bq C2 C3 CZ Ey Ez E0 Dy Dz FT F6 F7 FU stA A5 DQ B6 EP DE Es Gd Cd DT CS FG Ge
set_option maxHeartbeats 1000000
theorem Tx {α:Type} {R:α→List AV→Prop} {sz byt:Nat} {l:List α} {v:AV} (hv:SlR R sz l v) (h0:0<sz) (hb:byt≤1024) (hl:l.length<1048577) (h:AE) :
  ∃ es:List (List AV),es.length=l.length∧(∀ (i:Nat) a e,l[i]? = some a→es[i]? = some e→R a e)∧((l=[]∧apA sz byt (.sl sz true []) v h=some (.sl sz true [],h))∨(l≠[]∧apA sz byt (.sl sz true []) v h=some (.hs h.length es.length sz 0 es.length false,h++[.arr sz false es]))):=by
 obtain ⟨es,h1,h2,h3,h4⟩:=hv.rd h
 refine ⟨es,h3,h4,?_⟩
 have hn:∀ b,v≠.str b:=fun b e=>by subst e;rcases hv with ⟨_,e⟩ | ⟨_,_,e,_⟩ <;> cases e
 have hap:apA sz byt (.sl sz true []) v h=apX sz byt (.sl sz true []) es 0 h:=by
  unfold apA
  rcases hv with ⟨_,rfl⟩ | ⟨_,_,rfl,_⟩ <;> simp only [h1,h2,FO] <;> rfl
 rw [hap]
 have e1:CG sz (.sl sz true [])=true:=by simp [CG,BT]
 have hbb:(0+es.length) * byt≤17592186044416:=Nat.le_trans (Nat.mul_le_mul (show 0+es.length≤1048577 by omega) hb) (by decide)
 cases l with
 | nil=>
  have:es=[]:=List.eq_nil_of_length_eq_zero h3
  subst this
  exact .inl ⟨rfl,by simp [apX,e1,h0,FW]⟩
 | cons x r=>
  refine .inr ⟨by simp,?_⟩
  have hne:es≠[]:=fun e=>by rw [e] at h3;simp at h3
  obtain ⟨y,ys,rfl⟩:∃ y ys,es=y::ys:=by cases es with | nil=>exact absurd rfl hne | cons y ys=>exact ⟨y,ys,rfl⟩
  simp only [List.length_cons,Nat.zero_add] at hbb h3 hl
  simp [apX,e1,h0,hbb,show ys.length≤17592186044415 by omega,Aw]
theorem IY (a:Bytes) (e:List AV) (h:Bx a e):AG e=true:=by cases h;rfl
theorem c80 {l:List Bytes} {v:AV} (hv:SlR Bx 1 l v) (hl:l.length<1048577):∃ w,SlR Bx 1 l w∧∀ h,AK MX (AH MX) 80 [v] h=some (.ret w,h):=by
 obtain ⟨es,h1,h2,h3⟩:=Tx (byt:=16) hv (by decide) (by decide) hl []
 rcases h3 with ⟨hn,h3⟩ | ⟨hn,h3⟩
 ·exact ⟨.sl 1 true [],.inr ⟨true,[],rfl,by simp [hn],fun i a e h _=>by simp [hn] at h⟩,fun h=>Ai Pu Sj (by simp [hv.AD]) rfl (hr:=[]) (by simp [AN,Tryz.f80,bsA,Ar,h3]) h⟩
 ·have hs:=Bh h1 h2 IY
  have hne:es≠[]:=fun e=>by rw [e] at h1;exact hn (List.eq_nil_of_length_eq_zero h1.symm)
  have hacc:Af 1 ([]:AE).length [.arr 1 false es] (.hs 0 es.length 1 0 es.length false) es:=.inr ⟨0,hne,by simp,rfl⟩
  exact ⟨.sl 1 false es,Af.rep h1 h2 _,fun h=>HY Pu Sj (by simp [hv.AD]) rfl (hacc.snap (n:=9999999) hs hne) rfl (hr:=[.arr 1 false es]) (by simp [AN,Tryz.f80,bsA,Ar,h3]) h⟩
theorem c142 (t:TyV):∀ (xs:List AV),AU t xs→Sm 1048577 t→∃ ys,AU t ys∧∀ h,AK MX (AH MX) 142 [.agg xs] h=some (.ret (.agg ys),h):=by
 induction t using TyV.ind with
 | h k v nm ps ih=>
  intro xs hx hs
  have hn:([AV.agg xs]:List AV).all AV.AD=true:=by simp [AV.AD,hx.AG]
  obtain ⟨pv,rfl,hp⟩:=hx.dest
  obtain ⟨s1,s2,s3⟩:=hs.dest
  have hb:=RB
  simp [BD,BP,Tryz.f142] at hb
  obtain ⟨e,st,hlp,hq⟩:=AR (M:=MX) (fid:=142) (N:=26) (C:=AH MX) (c:=AQ Tryz.f142 0) (n:=ps.length)
   (fun i (b:AV×AE×List (List AV))=>([(1,.hp 0 0),(2,.hp 1 0),(3,.hp 2 0),(4,.int .i64 i)],Blk.var false [AV.int .i64 k,AV.int .i64 v,AV.str nm,pv]::Blk.var false [AV.int .i64 0,AV.int .i64 0,AV.str [],AV.AI]::Blk.var false [AV.int .i64 k,AV.int .i64 v,AV.str nm,b.1]::b.2.1))
   (fun i b=>Af 4 3 b.2.1 b.1 b.2.2∧b.2.2.length=(ps.take i).length∧∀ (j:Nat) t e,(ps.take i)[j]? = some t→b.2.2[j]? = some e→AU t e)
   (fun r=>∃ b:AV×AE×List (List AV),r=(.ext 0,([(1,.hp 0 0),(2,.hp 1 0),(3,.hp 2 0),(4,.int .i64 ps.length),(11,.bool false)],Blk.var false [AV.int .i64 k,AV.int .i64 v,AV.str nm,pv]::Blk.var false [AV.int .i64 0,AV.int .i64 0,AV.str [],AV.AI]::Blk.var false [AV.int .i64 k,AV.int .i64 v,AV.str nm,b.1]::b.2.1)) ∧
     Af 4 3 b.2.1 b.1 b.2.2∧b.2.2.length=ps.length∧∀ (j:Nat) t e,ps[j]? = some t→b.2.2[j]? = some e→AU t e) (fun i b hi hI=>by
     obtain ⟨a,rest,es⟩:=b
     obtain ⟨i1,i2,i3⟩:=hI
     simp only at i1 i2 i3
     obtain ⟨e,he,hR⟩:=hp.ix hi
     have hi':=AY hi
     have hw:=AX hi s2
     obtain ⟨ys,hys,hcall⟩:=ih ps[i] (List.getElem_mem hi) e hR (s3 _ (List.getElem_mem hi))
     have htk:ps.take i++[ps[i]]=ps.take (i+1):=by simp
     obtain ⟨j1,j2⟩:=D6 i2 i3 hys
     rw [htk] at j1 j2
     have hlen:es.length<16777215:=by rw [i2];simp;omega
     obtain ⟨a',rest',hap,hacc⟩:=Af.push (byt:=56) (P:=[Blk.var false [AV.int .i64 k,AV.int .i64 v,AV.str nm,pv],Blk.var false [AV.int .i64 0,AV.int .i64 0,AV.str [],AV.AI],Blk.var false [AV.int .i64 k,AV.int .i64 v,AV.str nm,a]]) ys true i1 (by decide) (by decide) hlen
     simp only [List.cons_append,List.nil_append] at hap
     have hyn:=hys.AG
     have hyl:=hys.len
     obtain ⟨qv,rfl,hqv⟩:=hR.AW
     exact .inl ⟨(a',rest',es++[ys]),by simp [Tryz.f142,hp.len,hi',he,hcall,bsA,Ar,List.replicate,hyl,hyn,hap,hacc.cells,hw,hb,AG,AV.AD,hqv.AD],hacc,j1,j2⟩) (fun b hI=>by
     obtain ⟨a,rest,es⟩:=b
     obtain ⟨i1,i2,i3⟩:=hI
     rw [List.take_length] at i2 i3
     exact ⟨_,_,by simp [Tryz.f142,hp.len] <;> first | exact ⟨rfl,rfl⟩ | rfl,by simp,(a,rest,es),rfl,i1,i2,i3⟩) (.AI,[],[]) ⟨.nil _ _ _,by simp,fun j t e h=>by simp at h⟩
  obtain ⟨⟨a,rest,es⟩,hq,i1,i2,i3⟩:=hq
  cases hq
  simp [Tryz.f142] at hlp
  have hrun:AN MX 142 [.agg [.int .i64 k,.int .i64 v,.str nm,pv]] []=some (.ret (.agg [.int .i64 k,.int .i64 v,.str nm,a]),[Blk.var false [AV.int .i64 k,AV.int .i64 v,AV.str nm,pv],Blk.var false [AV.int .i64 k,AV.int .i64 v,AV.str nm,a],Blk.var false [AV.int .i64 k,AV.int .i64 v,AV.str nm,a]]++rest):=by
   simp [AN,Tryz.f142,hlp,Cg]
  have hsn:=Bh i2 i3 (fun a e h=>h.AG)
  obtain ⟨v',rest',hsa,hv'⟩:=Af.Kf (P:=[Blk.var false [AV.int .i64 k,AV.int .i64 v,AV.str nm,pv],Blk.var false [AV.int .i64 k,AV.int .i64 v,AV.str nm,a],Blk.var false [AV.int .i64 k,AV.int .i64 v,AV.str nm,a]]) i1 hsn
  have hrep:SlR AU 4 ps v':=by
   rcases hv' with ⟨h1,rfl⟩ | rfl
   ·exact .inl ⟨List.eq_nil_of_length_eq_zero (by rw [← i2,h1];rfl),rfl⟩
   ·exact Af.rep i2 i3 false
  refine ⟨_,AU.intro hrep,fun h => ?_⟩
  cases hna:a.AD with
  | true=>
   have:a=v':=by
    have h1:=i1.AD
    rw [hna] at h1
    have h2:es=[]:=by cases es with | nil=>rfl | cons=>cases h1
    rcases i1 with ⟨_,h3⟩ | ⟨_,h3,_⟩
    ·rcases hv' with ⟨_,h4⟩ | h4
     ·rw [h4];exact h3
     ·have:=hsa 0;simp only at h3;subst h3;cases this;rfl
    ·exact absurd h2 h3
   subst this
   exact Ai NN P0 hn (by simp [AV.AD,AG,hna]) hrun h
  | false=>
   exact HY NN P0 hn (by simp [AV.AD,AG,hna]) ((A1.agg (by simp [AG,AV.AD,hna]) (.cons (.flat rfl _) (.cons (.flat rfl _) (.cons (.flat rfl _) (.cons hsa (.nil _)))))).at (by decide)) (by simp [AV.AD,AG,hrep.AD]) hrun h
theorem QP {f:FuncId} {args:List AV} {v v':AV} {hr hr':AE} {K:Nat} (hm:MX.mode f = { fresh:=true }) (he:MX.eff f=none) (ha:args.all AV.AD=true) (hs:A1 K v hr v' hr') (hk:K≤Cn) (hv':v'.AD=true) (heq:v.AD=true→v=v') (hc:AN MX f args []=some (.ret v,hr)) (h:AE) :
  AK MX (AH MX) f args h=some (.ret v',h):=by
 cases hv:v.AD with
 | true=>have:=heq hv;subst this;exact Ai hm he ha hv hc h
 | false=>exact HY hm he ha hv (hs.at hk) hv' hc h
theorem Gk {α:Type} {R:α→List AV→Prop} {l:List α} {sz:Nat} {P rest:AE} {a:AV} {es:List (List AV)} (hR:∀ a e,R a e→AG e=true) (h:Af sz P.length rest a es) (hl:es.length=l.length) (hr:∀ (i:Nat) a e,l[i]? = some a→es[i]? = some e→R a e) :
  ∃ v' rest',A1 1 a (P++rest) v' (P++rest')∧SlR R sz l v'∧(a.AD=true→a=v'):=by
 have hn:=Bh hl hr hR
 by_cases h0:es=[]
 ·rcases h with ⟨_,rfl⟩ | ⟨_,h1,_⟩
  ·exact ⟨.AI,rest,fun n=>rfl,.inl ⟨List.eq_nil_of_length_eq_zero (by rw [← hl,h0];rfl),rfl⟩,fun _=>rfl⟩
  ·exact absurd h0 h1
 ·refine ⟨_,_,fun n=>h.snap hn h0,Af.rep hl hr false,fun hna => ?_⟩
  rw [h.AD] at hna
  cases es with
  | nil=>exact absurd rfl h0
  | cons=>cases hna
theorem ES (a:B7) (e:List AV) (h:BR a e):AG e=true:=by
 obtain ⟨pv,rfl,hp⟩:=h.dest
 simp [AG,AV.AD,hp.AD]
theorem Fp (a:Bb) (e:List AV) (h:Cu a e):AG e=true:=by
 obtain ⟨pv,rfl,hp⟩:=h.dest
 simp [AG,AV.AD,hp.AD]
theorem Bf {α:Type} {l:List α} {i:Nat} (hi:i<l.length):l.take i++[l[i]]=l.take (i+1):=by simp
theorem c81 {l:List B7} {v:AV} (hv:SlR BR 5 l v) (hl:l.length<1048577) (hs:∀ f∈l,Sm 1048577 f.ty):∃ w,SlR BR 5 l w∧∀ h,AK MX (AH MX) 81 [v] h=some (.ret w,h):=by
 have hb:=Tp
 simp [BD,BP,Tryz.f81] at hb
 obtain ⟨e,st,hlp,hq⟩:=AR (M:=MX) (fid:=81) (N:=27) (C:=AH MX) (c:=AQ Tryz.f81 0) (n:=l.length)
  (fun i (b:AV×AE×List (List AV))=>([(0,v),(3,b.1),(4,.int .i64 i)],b.2.1))
  (fun i b=>Af 5 0 b.2.1 b.1 b.2.2∧b.2.2.length=(l.take i).length∧∀ (j:Nat) t e,(l.take i)[j]? = some t→b.2.2[j]? = some e→BR t e)
  (fun r=>∃ b:AV×AE×List (List AV),r=(.ext 0,([(0,v),(3,b.1),(4,.int .i64 l.length),(8,.bool false)],b.2.1)) ∧
    Af 5 0 b.2.1 b.1 b.2.2∧b.2.2.length=l.length∧∀ (j:Nat) t e,l[j]? = some t→b.2.2[j]? = some e→BR t e) (fun i b hi hI=>by
    obtain ⟨a,rest,es⟩:=b
    obtain ⟨i1,i2,i3⟩:=hI
    simp only at i1 i2 i3
    obtain ⟨e,he,hR⟩:=hv.ix hi
    have hi':=AY hi
    have hw:=AX hi hl
    obtain ⟨tx,rfl,ht⟩:=hR
    obtain ⟨ys,hys,hcall⟩:=c142 l[i].ty tx ht (hs _ (List.getElem_mem hi))
    have hyf:BR l[i] (.str l[i].nm::ys):=⟨ys,rfl,hys⟩
    obtain ⟨j1,j2⟩:=D6 i2 i3 hyf
    rw [Bf hi] at j1 j2
    have hlen:es.length<16777215:=by rw [i2];simp;omega
    obtain ⟨a',rest',hap,hacc⟩:=Af.push (byt:=72) (P:=[]) (.str l[i].nm::ys) true i1 (by decide) (by decide) hlen
    simp only [List.nil_append] at hap
    obtain ⟨q,rfl,hq⟩:=hys.AW
    obtain ⟨q',rfl,hq'⟩:=ht.AW
    exact .inl ⟨(a',rest',es++[.str l[i].nm::[.int .i64 l[i].ty.k,.int .i64 l[i].ty.v,.str l[i].ty.nm,q]]),by simp [Tryz.f81,hv.len,hi',he,hcall,bsA,Ar,List.replicate,hap,hw,hb,AG,AV.AD,hq.AD,hq'.AD],hacc,j1,j2⟩) (fun b hI=>by
    obtain ⟨a,rest,es⟩:=b
    obtain ⟨i1,i2,i3⟩:=hI
    rw [List.take_length] at i2 i3
    exact ⟨_,_,by simp [Tryz.f81,hv.len] <;> first | exact ⟨rfl,rfl⟩ | rfl,by simp,(a,rest,es),rfl,i1,i2,i3⟩) (.AI,[],[]) ⟨.nil _ _ _,by simp,fun j t e h=>by simp at h⟩
 obtain ⟨⟨a,rest,es⟩,hq,i1,i2,i3⟩:=hq
 cases hq
 simp [Tryz.f81] at hlp
 obtain ⟨v',rest',hsn,hrep,heq⟩:=Gk (P:=[]) ES i1 i2 i3
 exact ⟨v',hrep,fun h=>QP VN YI (by simp [hv.AD]) hsn (by decide) hrep.AD heq (by simp [AN,Tryz.f81,hlp]) h⟩
theorem O7 {sz byt:Nat} {rest:AE} {a:AV} {es xs:List (List AV)} {x:AV} (h:Af sz 0 rest a es) (hx:Ay rest x=some xs) (hs:CG sz x=true) (hnx:∀ b,x≠.str b) (hxs:xs≠[]) (h0:0<sz) (hb:byt≤1024) (hn:es.length+xs.length<16777216) :
  ∃ a' rest',apA sz byt a x rest=some (a',rest')∧Af sz 0 rest' a' (es++xs)∧∀ (id:Nat) (b:Blk),rest[id]? = some b→(∀ lk es,b≠Blk.arr sz lk es)→rest'[id]? = some b:=by
 have hbb:(es.length+xs.length) * byt≤17592186044416:=Nat.le_trans (Nat.mul_le_mul (Nat.le_of_lt hn) hb) (by decide)
 have hap:∀ n,FO a=some n→apA sz byt a x rest=apX sz byt a xs n rest:=fun n hl=>by
  unfold apA
  cases x with
  | str b=>exact absurd rfl (hnx b)
  | _=>first | simp only [hs,hx,hl] | (simp only [Ay] at hx;cases hx)
 obtain ⟨y,ys,rfl⟩:∃ y ys,xs=y::ys:=by cases xs with | nil=>exact absurd rfl hxs | cons y ys=>exact ⟨y,ys,rfl⟩
 rcases h with ⟨rfl,rfl⟩ | ⟨j,hne,rfl,h2⟩
 ·refine ⟨.hs rest.length (ys.length+1) sz 0 (ys.length+1) false,rest++[.arr sz false (y::ys)],?_,.inr ⟨rest.length,by simp,by simp,by simp⟩,fun id b hid _=>Ad hid _⟩
  rw [hap 0 rfl]
  have e1:CG sz AV.AI=true:=rfl
  have h2:=hbb
  simp only [List.length_nil,Nat.zero_add,List.length_cons] at h2 hn
  simp [apX,e1,h0,h2,show ys.length≤17592186044415 by omega,Aw]
 ·have hj:=(List.getElem?_eq_some_iff.1 h2).1
  simp only [Nat.zero_add] at hap ⊢
  refine ⟨.hs j (es.length+(ys.length+1)) sz 0 (es.length+(ys.length+1)) false,rest.set j (.arr sz false (es++y::ys)),?_,.inr ⟨j,by simp,by simp,by simp [hj]⟩,fun id b hid hbn => ?_⟩
  ·rw [hap es.length rfl]
   have e1:CG sz (.hs j es.length sz 0 es.length false)=true:=by simp [CG,BT]
   simp only [List.length_cons] at hbb hn
   simp [apX,e1,h0,hbb,show es.length+(ys.length+1)≤17592186044416 by omega,h2]
  ·by_cases hij:j=id
   ·subst hij;rw [h2] at hid;simp only [Option.some.injEq] at hid;exact absurd hid.symm (hbn _ _)
   ·rw [List.getElem?_set_ne hij];exact hid
def Iq (sz:Nat) (H:AE) (a:AV) (es:List (List AV)):Prop:=(es=[]∧a=.AI)∨∃ id lk,es≠[]∧a=.hs id es.length sz 0 es.length false∧H[id]? = some (.arr sz lk es)
def Cj (H H':AE):Prop:=∀ (id:Nat) sz lk (es:List (List AV)),H[id]? = some (.arr sz lk es)→es.all AG=true→∃ lk',H'[id]? = some (.arr sz lk' es)
def F9 (H H':AE):Prop:=∀ (id:Nat) sz lk (es:List (List AV)),H[id]? = some (.arr sz lk es)→∃ lk' es',H'[id]? = some (.arr sz lk' es')∧es'.length=es.length
theorem F9.refl (H:AE):F9 H H:=fun _ _ lk es h=>⟨lk,es,h,rfl⟩
theorem F9.trans {A B C:AE} (h:F9 A B) (k:F9 B C):F9 A C:=fun id sz lk es hh=>by
 obtain ⟨lk',es',h1,h2⟩:=h id sz lk es hh
 obtain ⟨lk2,es2,h3,h4⟩:=k id sz lk' es' h1
 exact ⟨lk2,es2,h3,by rw [h4,h2]⟩
theorem Cj.refl (H:AE):Cj H H:=fun _ _ lk _ h _=>⟨lk,h⟩
theorem Cj.trans {A B C:AE} (h:Cj A B) (k:Cj B C):Cj A C:=fun id sz lk es hh hn=>by
 obtain ⟨lk',h1⟩:=h id sz lk es hh hn
 exact k id sz lk' es h1 hn
theorem Iq.keeps {sz:Nat} {H H':AE} {a:AV} {es:List (List AV)} (h:Iq sz H a es) (hn:es.all AG=true) (k:Cj H H'):Iq sz H' a es:=by
 rcases h with h | ⟨id,lk,h0,h1,h2⟩
 ·exact .inl h
 ·obtain ⟨lk',h3⟩:=k id sz lk es h2 hn
  exact .inr ⟨id,lk',h0,h1,h3⟩
theorem Iq.snap {α:Type} {R:α→List AV→Prop} {l:List α} {sz:Nat} {H:AE} {a:AV} {es:List (List AV)} (hR:∀ a e,R a e→AG e=true) (h:Iq sz H a es) (hl:es.length=l.length) (hr:∀ (i:Nat) a e,l[i]? = some a→es[i]? = some e→R a e) :
  ∃ v' H',A1 1 a H v' H'∧SlR R sz l v'∧Cj H H'∧F9 H H':=by
 have hn:=Bh hl hr hR
 rcases h with ⟨h0,rfl⟩ | ⟨id,lk,h0,rfl,h2⟩
 ·exact ⟨.AI,H,fun n=>rfl,.inl ⟨List.eq_nil_of_length_eq_zero (by rw [← hl,h0];rfl),rfl⟩,Cj.refl H,F9.refl H⟩
 ·refine ⟨.sl sz false es,H.set id (.arr sz true es),fun n => ?_,Af.rep hl hr false,fun id' sz' lk' es' h3 h4 => ?_,fun id' sz' lk' es' h3 => ?_⟩
  ·have hb:(Nat.beq es.length es.length&&Nat.beq sz sz&&Nat.ble (0+es.length) es.length&&es.all AG)=true:=by simp [BC,hn]
   simp only [Am.snap,h2,hb]
   simp
  ·by_cases hij:id=id'
   ·subst hij
    rw [h2] at h3
    simp only [Option.some.injEq,Blk.arr.injEq] at h3
    obtain ⟨rfl,_,rfl⟩:=h3
    exact ⟨true,List.getElem?_set_self (List.getElem?_eq_some_iff.1 h2).1⟩
   ·exact ⟨lk',by rw [List.getElem?_set_ne hij];exact h3⟩
  ·by_cases hij:id=id'
   ·subst hij
    rw [h2] at h3
    simp only [Option.some.injEq,Blk.arr.injEq] at h3
    obtain ⟨rfl,_,rfl⟩:=h3
    exact ⟨true,es,List.getElem?_set_self (List.getElem?_eq_some_iff.1 h2).1,rfl⟩
   ·exact ⟨lk',es',by rw [List.getElem?_set_ne hij];exact h3,rfl⟩
def Ek (H:AE) (d:AO) (e:List AV):Prop:=∃ pw ca ces,e=[.str d.nm,pw,ca]∧SlR Bx 1 d.params pw∧Iq 2 H ca ces∧ces.length=d.cons.length∧∀ (j:Nat) t e,d.cons[j]? = some t→ces[j]? = some e→Cu t e
theorem Ek.keeps {H H':AE} {d:AO} {e:List AV} (h:Ek H d e) (k:Cj H H'):Ek H' d e:=by
 obtain ⟨pw,ca,ces,h1,h2,h3,h4,h5⟩:=h
 exact ⟨pw,ca,ces,h1,h2,h3.keeps (Bh h4 h5 Fp) k,h4,h5⟩
theorem Ek.snap {H:AE} {d:AO} {e:List AV} (h:Ek H d e):∃ e' H',Az 4 e H e' H'∧Ab d e'∧Cj H H'∧F9 H H':=by
 obtain ⟨pw,ca,ces,rfl,h2,h3,h4,h5⟩:=h
 obtain ⟨v',H',s1,s2,s3,s4⟩:=h3.snap Fp h4 h5
 have hpw:pw.flat=true:=by rcases h2 with ⟨_,rfl⟩ | ⟨_,_,rfl,_⟩ <;> rfl
 exact ⟨[.str d.nm,pw,v'],H',.cons (.flat rfl _) (.cons (.flat hpw _) (.cons s1 (.nil _))),⟨pw,v',rfl,h2,s2⟩,s3,s4⟩
theorem Ks:∀ {l:List AO} {es:List (List AV)} {H:AE},es.length=l.length→(∀ (j:Nat) d e,l[j]? = some d→es[j]? = some e→Ek H d e) →
  ∃ es' H',B9 (5+l.length) es H es' H'∧es'.length=l.length∧(∀ (j:Nat) d e,l[j]? = some d→es'[j]? = some e→Ab d e)∧Cj H H'∧F9 H H'
 | [],[],H,_,_=>⟨[],H,(B9.nil H).mono (by decide),rfl,fun j d e h=>by simp at h,Cj.refl H,F9.refl H⟩
 | d::l,e::es,H,hl,hp=>by
  obtain ⟨e',H1,s1,s2,s3,s4⟩:=(hp 0 d e rfl rfl).snap
  obtain ⟨es',H2,t1,t2,t3,t4,t5⟩:=Ks (l:=l) (es:=es) (H:=H1) (by simpa using hl) (fun j d' e' h1 h2=>(hp (j+1) d' e' (by simpa using h1) (by simpa using h2)).keeps s3)
  refine ⟨e'::es',H2,(B9.cons s1 t1).mono (by simp only [List.length_cons];omega),by simp [t2],fun j d' e'' h1 h2 => ?_,s3.trans t4,s4.trans t5⟩
  cases j with
  | zero=>simp at h1 h2;exact h1 ▸ h2 ▸ s2
  | succ j=>exact t3 j d' e'' (by simpa using h1) (by simpa using h2)
 | [],_::_,_,hl,_=>by simp at hl
 | _::_,[],_,hl,_=>by simp at hl
theorem c31 {l:List AO} {v:AV} (hv:SlR Ab 3 l v) (hsl:SmL 1048577 l):∃ w,SlR Ab 3 l w∧∀ h,AK MX (AH MX) 31 [v] h=some (.ret w,h):=by
 have hb5:=Tl
 simp [BD,BP,Tryz.f31] at hb5
 have hb10:=Qy
 simp [BD,BP,Tryz.f31] at hb10
 obtain ⟨e,st,hlp,hq⟩:=AR (M:=MX) (fid:=31) (N:=60) (C:=AH MX) (c:=AQ Tryz.f31 0) (n:=l.length)
  (fun i (b:AV×AE×List (List AV))=>([(0,v),(3,b.1),(4,.int .i64 i)],b.2.1))
  (fun i b=>Af 3 0 b.2.1 b.1 b.2.2∧b.2.2.length=(l.take i).length∧∀ (j:Nat) t e,(l.take i)[j]? = some t→b.2.2[j]? = some e→Ek b.2.1 t e)
  (fun r=>∃ b:AV×AE×List (List AV),r=(.ext 0,([(0,v),(3,b.1),(4,.int .i64 l.length),(11,.bool false)],b.2.1)) ∧
    Af 3 0 b.2.1 b.1 b.2.2∧b.2.2.length=l.length∧∀ (j:Nat) t e,l[j]? = some t→b.2.2[j]? = some e→Ek b.2.1 t e) (fun i b hi hI=>by
    obtain ⟨a,pre,es⟩:=b
    obtain ⟨i1,i2,i3⟩:=hI
    simp only at i1 i2 i3
    obtain ⟨e,he,hR⟩:=hv.ix hi
    have hi':=AY hi
    have hw:=AX hi hsl.1
    have hsd:=hsl.2 _ (List.getElem_mem hi)
    obtain ⟨s1,s2,s3,s4,s5⟩:=hsd
    obtain ⟨pv,cv,rfl,hp,hc⟩:=hR.dest
    obtain ⟨pw,hpw,h80⟩:=c80 hp s2
    obtain ⟨e2,st2,hlp2,hq2⟩:=AR (M:=MX) (fid:=31) (N:=60) (C:=AH MX) (c:=AQ Tryz.f31 1) (n:=l[i].cons.length)
     (fun k (b:AV×AE×List (List AV))=>([(0,v),(3,a),(4,.int .i64 i),(5,.hp pre.length 0),(6,.int .i64 k)],pre++Blk.var false [AV.str l[i].nm,pw,b.1]::b.2.1))
     (fun k b=>Af 2 (pre.length+1) b.2.1 b.1 b.2.2∧b.2.2.length=(l[i].cons.take k).length∧∀ (j:Nat) t e,(l[i].cons.take k)[j]? = some t→b.2.2[j]? = some e→Cu t e)
     (fun r=>∃ b:AV×AE×List (List AV),r=(.ext 2,([(0,v),(3,a),(4,.int .i64 i),(5,.hp pre.length 0),(6,.int .i64 l[i].cons.length),(33,.bool false)],pre++Blk.var false [AV.str l[i].nm,pw,b.1]::b.2.1)) ∧
       Af 2 (pre.length+1) b.2.1 b.1 b.2.2∧b.2.2.length=l[i].cons.length∧∀ (j:Nat) t e,l[i].cons[j]? = some t→b.2.2[j]? = some e→Cu t e) (fun k b hk hK=>by
       obtain ⟨ca,rest,ces⟩:=b
       obtain ⟨k1,k2,k3⟩:=hK
       simp only at k1 k2 k3
       obtain ⟨e',he',hR'⟩:=hc.ix hk
       have hk':=AY hk
       have hwk:=AX hk s4
       have hsc:=s5 _ (List.getElem_mem hk)
       obtain ⟨fv,rfl,hf⟩:=hR'.dest
       obtain ⟨fw,hfw,h81⟩:=c81 hf hsc.2.1 (fun f hf=>(hsc.2.2 f hf).2)
       have hcr:Cu l[i].cons[k] [.str l[i].cons[k].nm,fw]:=⟨fw,rfl,hfw⟩
       obtain ⟨j1,j2⟩:=D6 k2 k3 hcr
       rw [Bf hk] at j1 j2
       have hlen:ces.length<16777215:=by rw [k2,List.length_take];exact Nat.lt_of_le_of_lt (Nat.min_le_right _ _) (Nat.lt_of_lt_of_le s4 (by decide))
       have k1':=k1.grow [Blk.var false [AV.str l[i].cons[k].nm,fv]]
       have hPl:(pre++[Blk.var false [AV.str l[i].nm,pw,ca]]).length=pre.length+1:=by simp
       obtain ⟨ca',rest',hap,hacc⟩:=Af.push (byt:=40) (P:=pre++[Blk.var false [AV.str l[i].nm,pw,ca]]) [.str l[i].cons[k].nm,fw] true (by rw [hPl];exact k1') (by decide) (by decide) hlen
       rw [hPl] at hacc
       simp only [List.append_assoc,List.cons_append,List.nil_append] at hap
       exact .inl ⟨(ca',rest',ces++[[.str l[i].cons[k].nm,fw]]),by simp [Tryz.f31,hv.len,hi',he,hc.len,hk',he',h81,bsA,Ar,List.replicate,hap,hwk,hb10,AG,AV.AD,hf.AD,hfw.AD,hfw.cells,hacc.cells],hacc,j1,j2⟩) (fun b hK=>by
       obtain ⟨ca,rest,ces⟩:=b
       obtain ⟨k1,k2,k3⟩:=hK
       rw [List.take_length] at k2 k3
       exact ⟨_,_,by simp [Tryz.f31,hi',he,hc.len] <;> first | exact ⟨rfl,rfl⟩ | rfl,by simp,(ca,rest,ces),rfl,k1,k2,k3⟩) (.AI,[],[]) ⟨.nil _ _ _,by simp,fun j t e h=>by simp at h⟩
    obtain ⟨⟨ca,rest,ces⟩,hq2,k1,k2,k3⟩:=hq2
    cases hq2
    simp [Tryz.f31] at hlp2
    have hpl:ces.length=l[i].cons.length:=k2
    have hlen:es.length<16777215:=by rw [i2];exact Nat.lt_of_le_of_lt (List.length_take_le _ _) (by have:=hsl.1;omega)
    -- the whole heap behind the loop
    have hca:Iq 2 (pre++Blk.var false [AV.str l[i].nm,pw,ca]::rest) ca ces:=by
     rcases k1 with h | ⟨j,h0,h1,h2⟩
     ·exact .inl h
     ·exact .inr ⟨pre.length+1+j,false,h0,h1,by rw [List.getElem?_append_right (by omega),show pre.length+1+j - pre.length=j+1 by omega];simpa using h2⟩
    have Kt:∀ (A L:AE),Cj A (A++L):=fun A L id sz lk es h _=>⟨lk,Ad h L⟩
    have fin:∀ (H:AE) (x:AV),Cj (pre++Blk.var false [AV.str l[i].nm,pw,ca]::rest) H→Af 3 0 H a es→Ay H x=some [[AV.str l[i].nm,pw,ca]]→CG 3 x=true→(∀ b,x≠.str b) →
      ∃ a' H',apA 3 64 a x H=some (a',H')∧Af 3 0 H' a' (es++[[AV.str l[i].nm,pw,ca]])∧(es++[[AV.str l[i].nm,pw,ca]]).length=(l.take (i+1)).length∧∀ (j:Nat) t e,(l.take (i+1))[j]? = some t→(es++[[AV.str l[i].nm,pw,ca]])[j]? = some e→Ek H' t e:=by
     intro H x hk hacc hrd hsz hst
     obtain ⟨a',H',h1,h2,h3⟩:=O7 (byt:=64) hacc hrd hsz hst (by simp) (by decide) (by decide) (by simp;omega)
     have e0:Ek (pre++Blk.var false [AV.str l[i].nm,pw,ca]::rest) l[i] [AV.str l[i].nm,pw,ca]:=⟨pw,ca,ces,rfl,hpw,hca,k2,k3⟩
     obtain ⟨j1,j2⟩:=D6 (R:=Ek (pre++Blk.var false [AV.str l[i].nm,pw,ca]::rest)) i2 (fun j t e g1 g2=>(i3 j t e g1 g2).keeps (Kt _ _)) e0
     rw [Bf hi] at j1 j2
     have keepP:∀ t e,Ek H t e→Ek H' t e:=fun t e h=>by
      obtain ⟨q1,q2,q3,q4,q5,q6,q7,q8⟩:=h
      refine ⟨q1,q2,q3,q4,q5,?_,q7,q8⟩
      rcases q6 with h | ⟨id,lk,g0,g1,g2⟩
      ·exact .inl h
      ·exact .inr ⟨id,lk,g0,g1,h3 id _ g2 (fun lk' es' e=>by cases e)⟩
     exact ⟨a',H',h1,h2,j1,fun j t e g1 g2=>keepP t e ((j2 j t e g1 g2).keeps hk)⟩
    have i1':=i1.grow (Blk.var false [AV.str l[i].nm,pw,ca]::rest)
    cases hna:ca.AD with
    | true=>
     obtain ⟨a',H',f1,f2,f3,f4⟩:=fin _ (.sl 3 true [[AV.str l[i].nm,pw,ca]]) (Cj.refl _) i1' rfl (by simp [CG,BT]) (fun b h=>by cases h)
     exact .inl ⟨(a',H',es++[[AV.str l[i].nm,pw,ca]]),by simp [Tryz.f31,hv.len,hi',he,h80,hpw.cells,hb5,AG,AV.AD,hp.AD,hpw.AD,hna,hlp2,bsA,Ar,List.replicate,f1,hw],f2,f3,f4⟩
    | false=>
     obtain ⟨a',H',f1,f2,f3,f4⟩:=fin ((pre++Blk.var false [AV.str l[i].nm,pw,ca]::rest)++[Blk.arr 3 false [[AV.str l[i].nm,pw,ca]]]) (.hs (pre++Blk.var false [AV.str l[i].nm,pw,ca]::rest).length 1 3 0 1 false) (Kt _ _) (by have:=i1.grow ((Blk.var false [AV.str l[i].nm,pw,ca]::rest)++[Blk.arr 3 false [[AV.str l[i].nm,pw,ca]]]);rwa [← List.append_assoc] at this)
      (by simp only [Ay,Ci];simp) (by simp [CG,BT]) (fun b h=>by cases h)
     simp at f1
     exact .inl ⟨(a',H',es++[[AV.str l[i].nm,pw,ca]]),by simp [Tryz.f31,hv.len,hi',he,h80,hpw.cells,hb5,AG,AV.AD,hp.AD,hpw.AD,hna,hlp2,bsA,Ar,List.replicate,Aw,f1,hw],f2,f3,f4⟩) (fun b hI=>by
    obtain ⟨a,rest,es⟩:=b
    obtain ⟨i1,i2,i3⟩:=hI
    rw [List.take_length] at i2 i3
    exact ⟨_,_,by simp [Tryz.f31,hv.len] <;> first | exact ⟨rfl,rfl⟩ | rfl,by simp,(a,rest,es),rfl,i1,i2,i3⟩) (.AI,[],[]) ⟨.nil _ _ _,by simp,fun j t e h=>by simp at h⟩
 obtain ⟨⟨a,rest,es⟩,hq,i1,i2,i3⟩:=hq
 cases hq
 simp [Tryz.f31] at hlp
 have hrun:AN MX 31 [v] []=some (.ret a,rest):=by simp [AN,Tryz.f31,hlp]
 simp only at i1 i2 i3
 rcases i1 with ⟨h0,rfl⟩ | ⟨j,h0,rfl,h2⟩
 ·have:l=[]:=List.eq_nil_of_length_eq_zero (by rw [← i2,h0];rfl)
  exact ⟨.AI,.inl ⟨this,rfl⟩,fun h=>Ai MU Oi (by simp [hv.AD]) rfl hrun h⟩
 ·obtain ⟨es',H',s1,s2,s3,s4,s5⟩:=Ks i2 i3
  simp only [Nat.zero_add] at hrun
  have hjl:=(List.getElem?_eq_some_iff.1 h2).1
  by_cases hall:es.all AG=true
  ·have hacc:Af 3 ([]:AE).length rest (.hs j es.length 3 0 es.length false) es:=.inr ⟨j,h0,by simp,h2⟩
   -- nothing in it leads to blocks
   have hrep:∀ (k:Nat) d e,l[k]? = some d→es[k]? = some e→Ab d e:=fun k d e g1 g2=>by
    obtain ⟨pw,ca,ces,rfl,q1,q2,q3,q4⟩:=i3 k d e g1 g2
    have hne:AG [AV.str d.nm,pw,ca]=true:=List.all_eq_true.1 hall _ (List.mem_of_getElem? g2)
    rcases q2 with ⟨q5,rfl⟩ | ⟨_,_,_,rfl,_⟩
    ·exact ⟨pw,.AI,rfl,q1,.inl ⟨List.eq_nil_of_length_eq_zero (by rw [← q3,q5];rfl),rfl⟩⟩
    ·simp [AG,AV.AD] at hne
   exact ⟨_,Af.rep i2 hrep false,fun h=>HY MU Oi (by simp [hv.AD]) rfl (hacc.snap (n:=9999999) hall h0) rfl hrun h⟩
  ·obtain ⟨lk2,es2,hk2,hkl⟩:=s5 j 3 false es h2
   refine ⟨_,Af.rep s2 s3 false,fun h=>HY MU Oi (by simp [hv.AD]) rfl (hr':=H'.set j (.arr 3 true es')) ?_ rfl hrun h⟩
   have hse:F2 (Cn - 1) es rest=some (es',H'):=by
    have h9:=(s1.mono (show 5+l.length≤Cn - 1 by have:=hsl.1;simp only [Cn];omega)) 0
    rwa [Nat.zero_add] at h9
   have ha:es.all AG=false:=by simpa using hall
   have hb1:(Nat.beq es.length es.length&&Nat.beq 3 3&&Nat.ble (0+es.length) es.length&&es.all AG)=false:=by simp [BC,ha]
   have hb2:(Nat.beq es.length es.length&&Nat.beq 3 3&&Nat.ble (0+es.length) es.length)=true:=by simp [BC]
   have hb3:(Nat.beq 3 3&&Nat.beq es2.length es.length)=true:=by rw [hkl];simp
   have hl':es'.length=es.length:=by rw [s2,i2]
   clear hb5 hb10 hlp
   show snap ((Cn - 1)+1) _ _=_
   simp only [snap,h2,hb1,hb2,hse,hk2,hb3]
   rw [← hl']
   simp [ha]
mutual
def Bi (params:List Bytes) (args:List TyV):TyV→TyV
 | .mk k v nm ps=>match (if k=0 then params.findIdx? (fun x=>x == nm) else none) with
  | some i=>args.getD i default
  | none=> .mk k v nm (Nj params args ps)
def Nj (params:List Bytes) (args:List TyV):List TyV→List TyV
 | []=>[]
 | p::r=>Bi params args p::Nj params args r
end
theorem EW (params:List Bytes) (args:List TyV):∀ ps,Nj params args ps=ps.map (Bi params args)
 | []=>rfl
 | p::r=>by simp [Nj,EW params args r]
theorem WR {b:Nat} {params:List Bytes} {args:List TyV} (ha:∀ a∈args,Sm b a) (h0:0<b) (t:TyV):Sm b t→Sm b (Bi params args t):=by
 induction t using TyV.ind with
 | h k v nm ps ih=>
  intro hs
  obtain ⟨s1,s2,s3⟩:=hs.dest
  simp only [Bi]
  split
  ·rename_i i _
   rw [List.getD_eq_getElem?_getD]
   cases hi:args[i]? with
   | none=>exact .mk default default default default h0 h0 (fun p hp=>by cases hp)
   | some a=>exact ha a (List.mem_of_getElem? hi)
  ·rw [EW]
   exact .mk k v nm _ s1 (by simpa using s2) (fun p hp=>by
    obtain ⟨q,hq,rfl⟩:=List.mem_map.1 hp
    exact ih q hq (s3 q hq))
theorem c119 {params:List Bytes} {pr:AV} (hpr:SlR Bx 1 params pr) (hpl:params.length<1048577) {args:List TyV} {av:AV} (har:SlR AU 4 args av) (has:∀ a∈args,Sm 1048577 a) (hpa:params.length≤args.length) (t:TyV) :
  ∀ (xs:List AV),AU t xs→Sm 1048577 t→∃ ys,AU (Bi params args t) ys∧∀ h,AK MX (AH MX) 119 [.agg xs,pr,av] h=some (.ret (.agg ys),h):=by
 induction t using TyV.ind with
 | h k v nm ps ih=>
  intro xs hx hs
  have hn:([AV.agg xs,pr,av]:List AV).all AV.AD=true:=by simp [AV.AD,hx.AG,hpr.AD,har.AD]
  obtain ⟨pv,rfl,hp⟩:=hx.dest
  obtain ⟨s1,s2,s3⟩:=hs.dest
  have hb5:=RA
  simp [BD,BP,Tryz.f119] at hb5
  have hb:=Oj
  simp [BD,BP,Tryz.f119] at hb
  -- the parts
  obtain ⟨e,st,hlp,hq⟩:=AR (M:=MX) (fid:=119) (N:=54) (C:=AH MX) (c:=AQ Tryz.f119 1) (n:=ps.length)
   (fun i (b:AV×AE×List (List AV))=>([(1,pr),(2,av),(3,.hp 0 0),(6,.hp 1 0),(8,.hp 2 0),(9,.int .i64 i)],Blk.var false [AV.int .i64 k,AV.int .i64 v,AV.str nm,pv]::Blk.var false [AV.int .i64 0,AV.int .i64 0,AV.str [],AV.AI]::Blk.var false [AV.int .i64 k,AV.int .i64 v,AV.str nm,b.1]::b.2.1))
   (fun i b=>Af 4 3 b.2.1 b.1 b.2.2∧b.2.2.length=((ps.map (Bi params args)).take i).length∧∀ (j:Nat) t e,((ps.map (Bi params args)).take i)[j]? = some t→b.2.2[j]? = some e→AU t e)
   (fun r=>∃ b:AV×AE×List (List AV),r=(.ext 2,([(1,pr),(2,av),(3,.hp 0 0),(6,.hp 1 0),(8,.hp 2 0),(9,.int .i64 ps.length),(37,.bool false)],Blk.var false [AV.int .i64 k,AV.int .i64 v,AV.str nm,pv]::Blk.var false [AV.int .i64 0,AV.int .i64 0,AV.str [],AV.AI]::Blk.var false [AV.int .i64 k,AV.int .i64 v,AV.str nm,b.1]::b.2.1)) ∧
     Af 4 3 b.2.1 b.1 b.2.2∧b.2.2.length=(ps.map (Bi params args)).length∧∀ (j:Nat) t e,(ps.map (Bi params args))[j]? = some t→b.2.2[j]? = some e→AU t e) (fun i b hi hI=>by
     obtain ⟨a,rest,es⟩:=b
     obtain ⟨i1,i2,i3⟩:=hI
     simp only at i1 i2 i3
     obtain ⟨e,he,hR⟩:=hp.ix hi
     have hi':=AY hi
     have hw:=AX hi s2
     have him:i<(ps.map (Bi params args)).length:=by simpa using hi
     obtain ⟨ys,hys,hcall⟩:=ih ps[i] (List.getElem_mem hi) e hR (s3 _ (List.getElem_mem hi))
     have hys':AU (ps.map (Bi params args))[i] ys:=by simpa using hys
     obtain ⟨j1,j2⟩:=D6 i2 i3 hys'
     rw [Bf him] at j1 j2
     have hlen:es.length<16777215:=by rw [i2,List.length_take,List.length_map];exact Nat.lt_of_le_of_lt (Nat.min_le_right _ _) (Nat.lt_of_lt_of_le s2 (by decide))
     obtain ⟨a',rest',hap,hacc⟩:=Af.push (byt:=56) (P:=[Blk.var false [AV.int .i64 k,AV.int .i64 v,AV.str nm,pv],Blk.var false [AV.int .i64 0,AV.int .i64 0,AV.str [],AV.AI],Blk.var false [AV.int .i64 k,AV.int .i64 v,AV.str nm,a]]) ys true i1 (by decide) (by decide) hlen
     simp only [List.cons_append,List.nil_append] at hap
     have hyn:=hys.AG
     have hyl:=hys.len
     obtain ⟨qv,rfl,hqv⟩:=hR.AW
     exact .inl ⟨(a',rest',es++[ys]),by simp [Tryz.f119,hp.len,hi',he,hcall,bsA,Ar,List.replicate,hyl,hyn,hap,hacc.cells,hw,hb,AG,AV.AD,hqv.AD,hpr.AD,har.AD],hacc,j1,j2⟩) (fun b hI=>by
     obtain ⟨a,rest,es⟩:=b
     obtain ⟨i1,i2,i3⟩:=hI
     rw [List.take_of_length_le (by simp)] at i2 i3
     exact ⟨_,_,by simp [Tryz.f119,hp.len] <;> first | exact ⟨rfl,rfl⟩ | rfl,by simp,(a,rest,es),rfl,i1,i2,i3⟩) (.AI,[],[]) ⟨.nil _ _ _,by simp,fun j t e h=>by simp at h⟩
  obtain ⟨⟨a,rest,es⟩,hq,i1,i2,i3⟩:=hq
  cases hq
  simp [Tryz.f119] at hlp
  obtain ⟨v',rest',hsn,hrep,heq⟩:=Gk (P:=[Blk.var false [AV.int .i64 k,AV.int .i64 v,AV.str nm,pv],Blk.var false [AV.int .i64 k,AV.int .i64 v,AV.str nm,a],Blk.var false [AV.int .i64 k,AV.int .i64 v,AV.str nm,a]]) (fun a e h=>AU.AG h) i1 i2 i3
  have fin:∀ (hrun:AN MX 119 [.agg [.int .i64 k,.int .i64 v,.str nm,pv],pr,av] []=some (.ret (.agg [.int .i64 k,.int .i64 v,.str nm,a]),[Blk.var false [AV.int .i64 k,AV.int .i64 v,AV.str nm,pv],Blk.var false [AV.int .i64 k,AV.int .i64 v,AV.str nm,a],Blk.var false [AV.int .i64 k,AV.int .i64 v,AV.str nm,a]]++rest)) h,
    AK MX (AH MX) 119 [.agg [.int .i64 k,.int .i64 v,.str nm,pv],pr,av] h=some (.ret (.agg [.int .i64 k,.int .i64 v,.str nm,v']),h):=fun hrun h=>by
   cases hna:a.AD with
   | true=>
    have:=heq hna
    subst this
    exact Ai Kk Ma hn (by simp [AV.AD,AG,hna]) hrun h
   | false=>
    exact HY Kk Ma hn (by simp [AV.AD,AG,hna]) ((A1.agg (by simp [AG,AV.AD,hna]) (.cons (.flat rfl _) (.cons (.flat rfl _) (.cons (.flat rfl _) (.cons hsn (.nil _)))))).at (by decide)) (by simp [AV.AD,AG,hrep.AD]) hrun h
  by_cases hk:k=0
  ·subst hk
   -- the parameters
   obtain ⟨e2,st2,hlp2,hq2⟩:=AR (M:=MX) (fid:=119) (N:=54) (C:=AH MX) (c:=AQ Tryz.f119 0) (n:=params.length)
    (fun i (_:Unit)=>([(1,pr),(2,av),(3,.hp 0 0),(6,.hp 1 0),(7,.int .i64 i)],[Blk.var false [AV.int .i64 0,AV.int .i64 v,AV.str nm,pv],Blk.var false [AV.int .i64 0,AV.int .i64 0,AV.str [],AV.AI]]))
    (fun i _=>∀ j (hj:j<params.length),j<i→(fun x:Bytes=>x == nm) params[j]=false)
    (fun r=>(r=(.ext 0,([(1,pr),(2,av),(3,.hp 0 0),(6,.hp 1 0),(7,.int .i64 params.length),(16,.bool false)],[Blk.var false [AV.int .i64 0,AV.int .i64 v,AV.str nm,pv],Blk.var false [AV.int .i64 0,AV.int .i64 0,AV.str [],AV.AI]]))∧params.findIdx? (fun x=>x == nm)=none) ∨
      ∃ (i:Nat) (ys:List AV),r=(.ret,([(6,.hp 1 0)],[Blk.var false [AV.int .i64 0,AV.int .i64 v,AV.str nm,pv],Blk.var false ys]))∧params.findIdx? (fun x=>x == nm)=some i∧AU (args.getD i default) ys) (fun i b hi hI=>by
      obtain ⟨e,he,hR⟩:=hpr.ix hi
      have hi':=AY hi
      have hw:=AX hi hpl
      cases hR
      cases hx:(params[i] == nm) with
      | false=>exact .inl ⟨(),by simp [Tryz.f119,hpr.len,hi',he,hx,hw],Ej (p:=fun x:Bytes=>x == nm) hi hI hx⟩
      | true=>
       have hia:i<args.length:=by omega
       obtain ⟨e3,he3,hR3⟩:=har.ix hia
       obtain ⟨ys,hys,hcall⟩:=c142 args[i] e3 hR3 (has _ (List.getElem_mem hia))
       obtain ⟨qv,rfl,hqv⟩:=hR3.AW
       have hgd:AU (args.getD i default) ys:=by simpa [hia] using hys
       obtain ⟨qy,rfl,hqy⟩:=hys.AW
       exact .inr ⟨_,_,by simp [Tryz.f119,hpr.len,hi',he,hx,he3,hcall] <;> first | exact ⟨rfl,rfl⟩ | rfl,by simp,.inr ⟨i,_,rfl,Eh (p:=fun x:Bytes=>x == nm) hi hI hx,hgd⟩⟩) (fun b hI=>by
      exact ⟨_,_,by simp [Tryz.f119,hpr.len] <;> first | exact ⟨rfl,rfl⟩ | rfl,by simp,.inl ⟨rfl,Ei (p:=fun x:Bytes=>x == nm) fun j hj=>hI j hj hj⟩⟩) () (fun j _ h0=>by omega)
   simp [Tryz.f119] at hlp2
   rcases hq2 with ⟨hq2,hf⟩ | ⟨i,ys,hq2,hf,hys⟩ <;> cases hq2
   ·refine ⟨_,?_,fin (by simp [AN,Tryz.f119,hlp2,hlp,Cg])⟩
    simp only [Bi,hf,if_true,EW]
    exact AU.intro hrep
   ·refine ⟨ys,by simpa [Bi,hf] using hys,fun h => ?_⟩
    obtain ⟨qy,rfl,hqy⟩:=hys.AW
    exact Ai Kk Ma hn (by simp [AV.AD,AG,hqy.AD]) (hr:=[Blk.var false [AV.int .i64 0,AV.int .i64 v,AV.str nm,pv],Blk.var false [.int .i64 (args.getD i default).k,.int .i64 (args.getD i default).v,.str (args.getD i default).nm,qy]]) (by simp [AN,Tryz.f119,hlp2,Cg]) h
  ·have hk':(k == 0)=false:=by simp [hk]
   refine ⟨_,?_,fin (by simp [AN,Tryz.f119,hk',hk,hlp,Cg])⟩
   simp only [Bi,hk,if_false,EW]
   exact AU.intro hrep
theorem Lm {α:Type} {Pre:AE→α→List AV→Prop} {Rep:α→List AV→Prop} {K:Nat} (hs:∀ H d e,Pre H d e→∃ e' H',Az K e H e' H'∧Rep d e'∧Cj H H'∧F9 H H') (hk:∀ H H' d e,Pre H d e→Cj H H'→Pre H' d e) :
  ∀ {l:List α} {es:List (List AV)} {H:AE},es.length=l.length→(∀ (j:Nat) d e,l[j]? = some d→es[j]? = some e→Pre H d e) →
  ∃ es' H',B9 (K+1+l.length) es H es' H'∧es'.length=l.length∧(∀ (j:Nat) d e,l[j]? = some d→es'[j]? = some e→Rep d e)∧Cj H H'∧F9 H H'
 | [],[],H,_,_=>⟨[],H,(B9.nil H).mono (by omega),rfl,fun j d e h=>by simp at h,Cj.refl H,F9.refl H⟩
 | d::l,e::es,H,hl,hp=>by
  obtain ⟨e',H1,s1,s2,s3,s4⟩:=hs _ _ _ (hp 0 d e rfl rfl)
  obtain ⟨es',H2,t1,t2,t3,t4,t5⟩:=Lm hs hk (l:=l) (es:=es) (H:=H1) (by simpa using hl) (fun j d' e' h1 h2=>hk _ _ _ _ (hp (j+1) d' e' (by simpa using h1) (by simpa using h2)) s3)
  refine ⟨e'::es',H2,(B9.cons s1 t1).mono (by simp only [List.length_cons];omega),by simp [t2],fun j d' e'' h1 h2 => ?_,s3.trans t4,s4.trans t5⟩
  cases j with
  | zero=>simp at h1 h2;exact h1 ▸ h2 ▸ s2
  | succ j=>exact t3 j d' e'' (by simpa using h1) (by simpa using h2)
 | [],_::_,_,hl,_=>by simp at hl
 | _::_,[],_,hl,_=>by simp at hl
theorem O8 {α:Type} {Pre:AE→α→List AV→Prop} {Rep:α→List AV→Prop} {K sz:Nat} (hs:∀ H d e,Pre H d e→∃ e' H',Az K e H e' H'∧Rep d e'∧Cj H H'∧F9 H H') (hk:∀ H H' d e,Pre H d e→Cj H H'→Pre H' d e) (hnr:∀ H d e,Pre H d e→AG e=true→Rep d e)
  {l:List α} {es:List (List AV)} {H:AE} {a:AV} (h1:Iq sz H a es) (hl:es.length=l.length) (hp:∀ (j:Nat) d e,l[j]? = some d→es[j]? = some e→Pre H d e) :
  ∃ v' H',A1 (K+2+l.length) a H v' H'∧SlR Rep sz l v'∧(a.AD=true→a=v'):=by
 rcases h1 with ⟨h0,rfl⟩ | ⟨j,lk,h0,rfl,h2⟩
 ·exact ⟨.AI,H,fun n=>by rw [show n+(K+2+l.length)=(n+(K+1+l.length))+1 by omega];rfl,.inl ⟨List.eq_nil_of_length_eq_zero (by rw [← hl,h0];rfl),rfl⟩,fun _=>rfl⟩
 ·by_cases hall:es.all AG=true
  ·have hrep:∀ (k:Nat) d e,l[k]? = some d→es[k]? = some e→Rep d e:=fun k d e g1 g2=>hnr _ _ _ (hp k d e g1 g2) (List.all_eq_true.1 hall _ (List.mem_of_getElem? g2))
   refine ⟨.sl sz false es,H.set j (.arr sz true es),fun n => ?_,Af.rep hl hrep false,fun hh=>by cases hh⟩
   have hb:(Nat.beq es.length es.length&&Nat.beq sz sz&&Nat.ble (0+es.length) es.length&&es.all AG)=true:=by simp [BC,hall]
   rw [show n+(K+2+l.length)=(n+(K+1+l.length))+1 by omega]
   simp only [Am.snap,h2,hb]
   simp
  ·obtain ⟨es',H',s1,s2,s3,s4,s5⟩:=Lm hs hk hl hp
   obtain ⟨lk2,es2,hk2,hkl⟩:=s5 j sz lk es h2
   refine ⟨.sl sz false es',H'.set j (.arr sz true es'),fun n => ?_,Af.rep s2 s3 false,fun hh=>by cases hh⟩
   have hse:=s1 n
   have ha:es.all AG=false:=by simpa using hall
   have hb1:(Nat.beq es.length es.length&&Nat.beq sz sz&&Nat.ble (0+es.length) es.length&&es.all AG)=false:=by rw [ha,Bool.and_false]
   have hb2:(Nat.beq es.length es.length&&Nat.beq sz sz&&Nat.ble (0+es.length) es.length)=true:=by simp [BC]
   have hb3:(Nat.beq sz sz&&Nat.beq es2.length es.length)=true:=by rw [hkl,Nat.beq_refl,Nat.beq_refl];rfl
   have hl':es'.length=es.length:=by rw [s2,hl]
   rw [show n+(K+2+l.length)=(n+(K+1+l.length))+1 by omega]
   simp only [snap,h2,hb1,hb2,hse,hk2,hb3]
   rw [← hl']
   simp [ha]
def Ea (H:AE) (c:Bb) (e:List AV):Prop:=∃ fa fes,e=[.str c.nm,fa]∧Iq 5 H fa fes∧fes.length=c.fields.length∧∀ (j:Nat) t e,c.fields[j]? = some t→fes[j]? = some e→BR t e
theorem Ea.keeps {H H':AE} {d:Bb} {e:List AV} (h:Ea H d e) (k:Cj H H'):Ea H' d e:=by
 obtain ⟨ca,ces,h1,h3,h4,h5⟩:=h
 exact ⟨ca,ces,h1,h3.keeps (Bh h4 h5 ES) k,h4,h5⟩
theorem Ea.snap {H:AE} {d:Bb} {e:List AV} (h:Ea H d e):∃ e' H',Az 3 e H e' H'∧Cu d e'∧Cj H H'∧F9 H H':=by
 obtain ⟨ca,ces,rfl,h3,h4,h5⟩:=h
 obtain ⟨v',H',s1,s2,s3,s4⟩:=h3.snap ES h4 h5
 exact ⟨[.str d.nm,v'],H',.cons (.flat rfl _) (.cons s1 (.nil _)),⟨v',rfl,s2⟩,s3,s4⟩
theorem Ea.AD {H:AE} {d:Bb} {e:List AV} (h:Ea H d e) (hn:AG e=true):Cu d e:=by
 obtain ⟨ca,ces,rfl,q2,q3,q4⟩:=h
 rcases q2 with ⟨q5,rfl⟩ | ⟨_,_,_,rfl,_⟩
 ·exact ⟨.AI,rfl,.inl ⟨List.eq_nil_of_length_eq_zero (by rw [← q3,q5];rfl),rfl⟩⟩
 ·simp [AG,AV.AD] at hn
theorem Ym (n:Int) (h0:0≤n) (h1:n≤62) (h:AE):AN MX 67 [.int .i64 n] h=some (.ret (.int .i64 ((2 ^ n.toNat:Nat):Int)),h):=by
 have hm:min n.toNat 64=n.toNat:=by omega
 have hp:(2:Nat) ^ n.toNat≤2 ^ 62:=Nat.pow_le_pow_right (by decide) (by omega)
 have hp':(2:Nat) ^ n.toNat<9223372036854775808:=Nat.lt_of_le_of_lt hp (by decide)
 have hw:wr .i64 ((2 ^ n.toNat:Nat):Int)=((2 ^ n.toNat:Nat):Int):=BI (Int.natCast_nonneg _) (Int.ofNat_lt.2 hp')
 have hn:¬ n<0:=by omega
 have hs:GN .shl .i64 1 n=some (.int .i64 ((2 ^ n.toNat:Nat):Int)):=by
  simp only [GN,decide_eq_false hn,IntKind.bits,hm,Int.one_mul,hw]
 simp [AN,Tryz.f67,hs]
theorem c67 (n:Int) (h0:0≤n) (h1:n≤62) (h:AE):AK MX (AH MX) 67 [.int .i64 n] h=some (.ret (.int .i64 ((2 ^ n.toNat:Nat):Int)),h):=Ai VH YD rfl rfl (Ym n h0 h1 []) h
def Eu (params:List Bytes) (args:List TyV) (c:Bb):Bb:=⟨c.nm,c.fields.map fun f=>⟨f.nm,Bi params args f.ty⟩⟩
def AP (l:List AO) (t:TyV):List Bb:=
 if t.nm == Bc then [⟨Bw,[]⟩,⟨DB,[]⟩] else match l.findIdx? (fun d=>d.nm == t.nm) with
  | some i=>(l.getD i default).cons.map (Eu (l.getD i default).params t.ps)
  | none=>[]
def HasC (l:List AO) (t:TyV):Prop:=(t.nm == Bc)=true∨∃ i,l.findIdx? (fun d=>d.nm == t.nm)=some i∧(l.getD i default).params.length≤t.ps.length
theorem Af.toL {sz:Nat} {P rest:AE} {a:AV} {es:List (List AV)} (h:Af sz P.length rest a es):Iq sz (P++rest) a es:=by
 rcases h with h | ⟨j,h0,h1,h2⟩
 ·exact .inl h
 ·exact .inr ⟨P.length+j,false,h0,h1,by rw [List.getElem?_append_right (by omega)];simpa using h2⟩
theorem Kt (A L:AE):Cj A (A++L):=fun _ _ lk _ h _=>⟨lk,Ad h L⟩
theorem c68 {l:List AO} {lv:AV} (hl:SlR Ab 3 l lv) (hsl:SmL 1048577 l) {t:TyV} {xs:List AV} (hx:AU t xs) (hst:Sm 1048577 t) (hc:HasC l t) :
  ∃ w,SlR Cu 2 (AP l t) w∧∀ h,AK MX (AH MX) 68 [lv,.agg xs] h=some (.ret w,h):=by
 have hn:([lv,AV.agg xs]:List AV).all AV.AD=true:=by simp [AV.AD,hx.AG,hl.AD]
 have hps:∀ p∈t.ps,Sm 1048577 p:=by cases t;exact hst.dest.2.2
 obtain ⟨pv,rfl,hp⟩:=hx.AW
 cases hb:(t.nm == Bc) with
 | true=>
  have hb':(t.nm == [66,111,111,108])=true:=hb
  refine ⟨.sl 2 true [[.str Bw,.AI],[.str DB,.AI]],?_,fun h=>Ai Ps Sg hn rfl (hr:=[Blk.var false [AV.int .i64 t.k,AV.int .i64 t.v,AV.str t.nm,pv]]) (by simp [AN,Tryz.f68,hb',bsA,Ar,List.replicate,AG,AV.AD,Bw,DB]) h⟩
  simp only [AP,hb,if_true]
  exact .inr ⟨true,_,rfl,rfl,fun i a e h1 h2=>by
   match i with
   | 0=>simp at h1 h2;subst h1;subst h2;exact ⟨.AI,rfl,.inl ⟨rfl,rfl⟩⟩
   | 1=>simp at h1 h2;subst h1;subst h2;exact ⟨.AI,rfl,.inl ⟨rfl,rfl⟩⟩
   | i+2=>simp at h1⟩
 | false=>
  have hb':(t.nm == [66,111,111,108])=false:=hb
  rcases hc with hc | ⟨i,hf,hpa⟩
  ·rw [hb] at hc;cases hc
  have hil:=FV hf
  have hD:=c118 t.nm hl hsl.1
  have hgd:l.getD i default=l[i]:=by simp [hil]
  rw [hgd] at hpa
  obtain ⟨de,hde,hdR⟩:=hl.ix hil
  obtain ⟨s1,s2,s3,s4,s5⟩:=hsl.2 _ (List.getElem_mem hil)
  obtain ⟨qv,cv,rfl,hqp,hcv⟩:=hdR.dest
  have hb13:=Q4
  simp [BD,BP,Tryz.f68] at hb13
  let F:=Eu l[i].params t.ps
  have hcons:AP l t=l[i].cons.map F:=by simp only [AP,hb,hf,hgd];rfl
  -- the constructors
  obtain ⟨e,st,hlp,hq⟩:=AR (M:=MX) (fid:=68) (N:=78) (C:=AH MX) (c:=AQ Tryz.f68 0) (n:=l[i].cons.length)
   (fun k (b:AV×AE×List (List AV))=>([(3,.hp 0 0),(5,.hp 1 0),(6,b.1),(7,.int .i64 k)],Blk.var false [AV.int .i64 t.k,AV.int .i64 t.v,AV.str t.nm,pv]::Blk.var false [AV.str l[i].nm,qv,cv]::b.2.1))
   (fun k b=>Af 2 0 (Blk.var false [AV.int .i64 t.k,AV.int .i64 t.v,AV.str t.nm,pv]::Blk.var false [AV.str l[i].nm,qv,cv]::b.2.1) b.1 b.2.2∧b.2.2.length=((l[i].cons.map F).take k).length∧∀ (j:Nat) t' e,((l[i].cons.map F).take k)[j]? = some t'→b.2.2[j]? = some e→Ea (Blk.var false [AV.int .i64 t.k,AV.int .i64 t.v,AV.str t.nm,pv]::Blk.var false [AV.str l[i].nm,qv,cv]::b.2.1) t' e)
   (fun r=>∃ b:AV×AE×List (List AV),r=(.ext 0,([(3,.hp 0 0),(5,.hp 1 0),(6,b.1),(7,.int .i64 l[i].cons.length),(28,.bool false)],Blk.var false [AV.int .i64 t.k,AV.int .i64 t.v,AV.str t.nm,pv]::Blk.var false [AV.str l[i].nm,qv,cv]::b.2.1)) ∧
     Af 2 0 (Blk.var false [AV.int .i64 t.k,AV.int .i64 t.v,AV.str t.nm,pv]::Blk.var false [AV.str l[i].nm,qv,cv]::b.2.1) b.1 b.2.2∧b.2.2.length=(l[i].cons.map F).length∧∀ (j:Nat) t' e,(l[i].cons.map F)[j]? = some t'→b.2.2[j]? = some e→Ea (Blk.var false [AV.int .i64 t.k,AV.int .i64 t.v,AV.str t.nm,pv]::Blk.var false [AV.str l[i].nm,qv,cv]::b.2.1) t' e) (fun k b hk hI=>by
     obtain ⟨a,pre,es⟩:=b
     obtain ⟨i1,i2,i3⟩:=hI
     simp only at i1 i2 i3
     obtain ⟨ce,hce,hcR⟩:=hcv.ix hk
     have hk':=AY hk
     have hw:=AX hk s4
     have hkm:k<(l[i].cons.map F).length:=by simpa using hk
     have hsc:=s5 _ (List.getElem_mem hk)
     obtain ⟨fv,rfl,hfv⟩:=hcR.dest
     -- its fields
     obtain ⟨e2,st2,hlp2,hq2⟩:=AR (M:=MX) (fid:=68) (N:=78) (C:=AH MX) (c:=AQ Tryz.f68 1) (n:=l[i].cons[k].fields.length)
      (fun m (b:AV×AE×List (List AV))=>([(3,.hp 0 0),(5,.hp 1 0),(6,a),(7,.int .i64 k),(8,.hp (pre.length+1+1) 0),(9,.int .i64 m)],Blk.var false [AV.int .i64 t.k,AV.int .i64 t.v,AV.str t.nm,pv]::Blk.var false [AV.str l[i].nm,qv,cv]::(pre++Blk.var false [AV.str l[i].cons[k].nm,b.1]::b.2.1)))
      (fun m b=>Af 5 (pre.length+3) b.2.1 b.1 b.2.2∧b.2.2.length=((F l[i].cons[k]).fields.take m).length∧∀ (j:Nat) t e,((F l[i].cons[k]).fields.take m)[j]? = some t→b.2.2[j]? = some e→BR t e)
      (fun r=>∃ b:AV×AE×List (List AV),r=(.ext 2,([(3,.hp 0 0),(5,.hp 1 0),(6,a),(7,.int .i64 k),(8,.hp (pre.length+1+1) 0),(9,.int .i64 l[i].cons[k].fields.length),(46,.bool false)],Blk.var false [AV.int .i64 t.k,AV.int .i64 t.v,AV.str t.nm,pv]::Blk.var false [AV.str l[i].nm,qv,cv]::(pre++Blk.var false [AV.str l[i].cons[k].nm,b.1]::b.2.1))) ∧
        Af 5 (pre.length+3) b.2.1 b.1 b.2.2∧b.2.2.length=(F l[i].cons[k]).fields.length∧∀ (j:Nat) t e,(F l[i].cons[k]).fields[j]? = some t→b.2.2[j]? = some e→BR t e) (fun m b hm hM=>by
        obtain ⟨fa,rest,fes⟩:=b
        obtain ⟨k1,k2,k3⟩:=hM
        simp only at k1 k2 k3
        obtain ⟨fe,hfe,hfR⟩:=hfv.ix hm
        have hm':=AY hm
        have hwm:=AX hm hsc.2.1
        have hmm:m<(F l[i].cons[k]).fields.length:=by simpa [F,Eu] using hm
        have hsf:=hsc.2.2 _ (List.getElem_mem hm)
        obtain ⟨tx,rfl,htx⟩:=hfR
        obtain ⟨ys,hys,hcall⟩:=c119 hqp s2 hp hps hpa l[i].cons[k].fields[m].ty tx htx hsf.2
        have hfr:BR (F l[i].cons[k]).fields[m] (.str l[i].cons[k].fields[m].nm::ys):=⟨ys,by simp [F,Eu],by simpa [F,Eu] using hys⟩
        obtain ⟨j1,j2⟩:=D6 k2 k3 hfr
        rw [Bf hmm] at j1 j2
        have hlen:fes.length<16777215:=by rw [k2,List.length_take];exact Nat.lt_of_le_of_lt (Nat.min_le_right _ _) (by simp only [F,Eu,List.length_map];exact Nat.lt_of_lt_of_le hsc.2.1 (by decide))
        obtain ⟨q,rfl,hq⟩:=hys.AW
        obtain ⟨q',rfl,hq'⟩:=htx.AW
        have k1':=k1.grow [Blk.var false [AV.str l[i].cons[k].fields[m].nm,AV.int .i64 l[i].cons[k].fields[m].ty.k,AV.int .i64 l[i].cons[k].fields[m].ty.v,AV.str l[i].cons[k].fields[m].ty.nm,q']]
        have hPl:(Blk.var false [AV.int .i64 t.k,AV.int .i64 t.v,AV.str t.nm,pv]::Blk.var false [AV.str l[i].nm,qv,cv]::(pre++[Blk.var false [AV.str l[i].cons[k].nm,fa]])).length=pre.length+3:=by simp
        obtain ⟨fa',rest',hap,hacc⟩:=Af.push (byt:=72) (P:=Blk.var false [AV.int .i64 t.k,AV.int .i64 t.v,AV.str t.nm,pv]::Blk.var false [AV.str l[i].nm,qv,cv]::(pre++[Blk.var false [AV.str l[i].cons[k].nm,fa]]))
         (.str l[i].cons[k].fields[m].nm::[.int .i64 (Bi l[i].params t.ps l[i].cons[k].fields[m].ty).k,.int .i64 (Bi l[i].params t.ps l[i].cons[k].fields[m].ty).v,.str (Bi l[i].params t.ps l[i].cons[k].fields[m].ty).nm,q]) true (by rw [hPl];exact k1') (by decide) (by decide) hlen
        rw [hPl] at hacc
        simp only [List.append_assoc,List.cons_append,List.nil_append] at hap
        exact .inl ⟨(fa',rest',_),by simp [Tryz.f68,hcv.len,hk',hce,hfv.len,hm',hfe,hcall,bsA,Ar,List.replicate,hap,hwm,hb13,AG,AV.AD,hq.AD,hq'.AD,hqp.AD,hp.AD,hacc.cells],hacc,j1,j2⟩) (fun b hM=>by
        obtain ⟨fa,rest,fes⟩:=b
        obtain ⟨k1,k2,k3⟩:=hM
        rw [List.take_of_length_le (by simp [F,Eu])] at k2 k3
        exact ⟨_,_,by simp [Tryz.f68,hcv.len,hk',hce,hfv.len] <;> first | exact ⟨rfl,rfl⟩ | rfl,by simp,(fa,rest,fes),rfl,k1,k2,k3⟩) (.AI,[],[]) ⟨.nil _ _ _,by simp,fun j t e h=>by simp at h⟩
     obtain ⟨⟨fa,rest,fes⟩,hq2,k1,k2,k3⟩:=hq2
     cases hq2
     simp [Tryz.f68] at hlp2
     have hlen:es.length<16777215:=by rw [i2,List.length_take,List.length_map];exact Nat.lt_of_le_of_lt (Nat.min_le_right _ _) (Nat.lt_of_lt_of_le s4 (by decide))
     let B0:=Blk.var false [AV.int .i64 t.k,AV.int .i64 t.v,AV.str t.nm,pv]
     let B1:=Blk.var false [AV.str l[i].nm,qv,cv]
     let C:=Blk.var false [AV.str l[i].cons[k].nm,fa]
     have hfa:Iq 5 (B0::B1::(pre++C::rest)) fa fes:=by
      rcases k1 with h | ⟨j,h0,h1,h2⟩
      ·exact .inl h
      ·refine .inr ⟨pre.length+3+j,false,h0,h1,?_⟩
       show (B0::B1::(pre++C::rest))[pre.length+3+j]? = _
       rw [show pre.length+3+j=(pre.length+1+j)+1+1 by omega,List.getElem?_cons_succ,List.getElem?_cons_succ,List.getElem?_append_right (by omega),show pre.length+1+j - pre.length=j+1 by omega]
       simpa using h2
     have e0:Ea (B0::B1::(pre++C::rest)) (l[i].cons.map F)[k] [AV.str l[i].cons[k].nm,fa]:=⟨fa,fes,by simp [F,Eu],hfa,by simpa [F] using k2,fun j t e h1 h2=>k3 j t e (by simpa [F] using h1) h2⟩
     have fin:∀ (H:AE) (x:AV),Cj (B0::B1::(pre++C::rest)) H→Af 2 0 H a es→Ay H x=some [[AV.str l[i].cons[k].nm,fa]]→CG 2 x=true→(∀ b,x≠.str b)→H[0]? = some B0→H[1]? = some B1 →
       ∃ a' T,apA 2 40 a x H=some (a',B0::B1::T)∧Af 2 0 (B0::B1::T) a' (es++[[AV.str l[i].cons[k].nm,fa]])∧(es++[[AV.str l[i].cons[k].nm,fa]]).length=((l[i].cons.map F).take (k+1)).length∧∀ (j:Nat) t' e,((l[i].cons.map F).take (k+1))[j]? = some t'→(es++[[AV.str l[i].cons[k].nm,fa]])[j]? = some e→Ea (B0::B1::T) t' e:=by
      intro H x hk hacc hrd hsz hst hh0 hh1
      obtain ⟨a',H',h1,h2,h3⟩:=O7 (byt:=40) hacc hrd hsz hst (by simp) (by decide) (by decide) (by simp;omega)
      have g0:=h3 0 _ hh0 (fun lk es e=>by simp [B0] at e)
      have g1:=h3 1 _ hh1 (fun lk es e=>by simp [B1] at e)
      obtain ⟨T,rfl⟩:∃ T,H'=B0::B1::T:=by
       match H',g0,g1 with
       | x::y::T,g0,g1=>simp at g0 g1;exact ⟨T,by rw [g0,g1]⟩
      obtain ⟨j1,j2⟩:=D6 (R:=Ea (B0::B1::(pre++C::rest))) i2 (fun j t e g1 g2=>(i3 j t e g1 g2).keeps (Kt (B0::B1::pre) (C::rest))) e0
      rw [Bf hkm] at j1 j2
      have keepP:∀ t e,Ea H t e→Ea (B0::B1::T) t e:=fun t e h=>by
       obtain ⟨q3,q4,q5,q6,q7,q8⟩:=h
       refine ⟨q3,q4,q5,?_,q7,q8⟩
       rcases q6 with h | ⟨id,lk,g0,g1,g2⟩
       ·exact .inl h
       ·exact .inr ⟨id,lk,g0,g1,h3 id _ g2 (fun lk' es' e=>by cases e)⟩
      exact ⟨a',T,h1,h2,j1,fun j t e g1 g2=>keepP t e ((j2 j t e g1 g2).keeps hk)⟩
     have i1':Af 2 0 (B0::B1::(pre++C::rest)) a es:=Af.grow (rest:=B0::B1::pre) i1 (C::rest)
     cases hna:fa.AD with
     | true=>
      obtain ⟨a',T,f1,f2,f3,f4⟩:=fin _ (.sl 2 true [[AV.str l[i].cons[k].nm,fa]]) (Cj.refl _) i1' rfl (by simp [CG,BT]) (fun b h=>by cases h) rfl rfl
      simp only [B0,B1,C] at f1
      exact .inl ⟨(a',T,es++[[AV.str l[i].cons[k].nm,fa]]),by simp [Tryz.f68,hcv.len,hk',hce,hlp2,bsA,Ar,List.replicate,AG,AV.AD,hna,f1,hw],f2,f3,f4⟩
     | false=>
      obtain ⟨a',T,f1,f2,f3,f4⟩:=fin ((B0::B1::(pre++C::rest))++[Blk.arr 2 false [[AV.str l[i].cons[k].nm,fa]]]) (.hs (B0::B1::(pre++C::rest)).length 1 2 0 1 false) (Kt _ _) (i1'.grow _)
       (by simp only [Ay,Ci];simp) (by simp [CG,BT]) (fun b h=>by cases h) rfl rfl
      simp [B0,B1,C] at f1
      exact .inl ⟨(a',T,es++[[AV.str l[i].cons[k].nm,fa]]),by simp [Tryz.f68,hcv.len,hk',hce,hlp2,bsA,Ar,List.replicate,Aw,AG,AV.AD,hna,f1,hw],f2,f3,f4⟩) (fun b hI=>by
     obtain ⟨a,rest,es⟩:=b
     obtain ⟨i1,i2,i3⟩:=hI
     rw [List.take_of_length_le (by simp)] at i2 i3
     exact ⟨_,_,by simp [Tryz.f68,hcv.len] <;> first | exact ⟨rfl,rfl⟩ | rfl,by simp,(a,rest,es),rfl,i1,i2,i3⟩) (.AI,[],[]) ⟨.nil _ _ _,by simp,fun j t e h=>by simp at h⟩
  obtain ⟨⟨a,rest,es⟩,hq,i1,i2,i3⟩:=hq
  cases hq
  simp [Tryz.f68] at hlp
  obtain ⟨v',H',s6,s7,s8⟩:=O8 (K:=3) (fun H d e h=>Ea.snap h) (fun H H' d e h k=>Ea.keeps h k) (fun H d e h hn=>Ea.AD h hn) (Af.toL (P:=[]) i1) i2 i3
  rw [hcons]
  have hrun:AN MX 68 [lv,.agg [.int .i64 t.k,.int .i64 t.v,.str t.nm,pv]] []=some (.ret a,Blk.var false [AV.int .i64 t.k,AV.int .i64 t.v,AV.str t.nm,pv]::Blk.var false [AV.str l[i].nm,qv,cv]::rest):=by
   simp [AN,Tryz.f68,hb',hD,hf,ixI,hde,hlp]
  exact ⟨v',s7,fun h=>QP Ps Sg hn s6 (by simp only [Cn,List.length_map];omega) s7.AD s8 hrun h⟩
end Go.Proofs.Am12
namespace Go.Am
open Go
def Ck (L:List (List Nat)):List (Nat×Kd)→Bool
 | []=>true
 | (i,x)::r=>(r.all fun p => !(Bk x p.2)||(L.getD p.1 []).elem i)&&Ck L r
theorem Dd {ops:Array Oper} {ks:List Kd} (h:Ck (BO ops) (CM 0 ks)=true):HK ops ks=true:=by
 unfold HK
 have hb:∀ i j,((BO ops).getD j []).elem i=true→((Region.before ops).getD j 0).testBit i=true:=by
  intro i j h
  unfold BO at h
  rw [List.getD_eq_getElem?_getD,List.getElem?_map] at h
  cases hm:(Region.before ops).toList[j]? with
  | none=>rw [hm] at h;simp at h
  | some m=>
   rw [hm] at h
   simp only [Option.map_some,Option.getD_some,List.elem_eq_mem,decide_eq_true_eq,List.mem_filter] at h
   have hm':(Region.before ops)[j]? = some m:=by simpa using hm
   rw [Array.getD_eq_getD_getElem?,hm']
   exact h.2
 have h2:∀ (l:List (Nat×Kd)),Ck (BO ops) l=true→E7 (Region.before ops) l=true:=by
  intro l
  induction l with
  | nil=>intro _;rfl
  | cons a r ih=>
   intro h
   obtain ⟨i,x⟩:=a
   simp only [Ck,Bool.and_eq_true,List.all_eq_true] at h
   simp only [E7,Bool.and_eq_true,List.all_eq_true]
   refine ⟨fun p hp => ?_,ih h.2⟩
   have:=h.1 p hp
   simp only [Bool.or_eq_true] at this ⊢
   rcases this with h3 | h3
   ·exact .inl h3
   ·exact .inr (hb _ _ h3)
 exact h2 _ h
end Go.Am
namespace Go.Am
open Go
mutual
theorem AV.Mg:∀ a:AV,AV.beq a a=true
 | .undef=>rfl
 | .bool b=>by simp [AV.beq]
 | .int k n=>by simp [AV.beq]
 | .str s=>by simp [AV.beq]
 | .Cq=>rfl
 | .ro cs=>by simp only [AV.beq];exact Fw cs
 | .hp i o=>by simp [AV.beq]
 | .ep a b c d e=>by simp [AV.beq]
 | .AI=>rfl
 | .sl a b c=>by simp only [AV.beq,Nat.beq_refl,beq_self_eq_true,Bool.true_and];exact Jd c
 | .hs a b c d e f=>by simp [AV.beq]
 | .FN=>rfl
 | .hm i=>by simp [AV.beq]
 | .fn f a c=>by simp only [AV.beq,Nat.beq_refl,Bool.true_and,Fw a,Fw c]
 | .FQ=>rfl
 | .iface t v=>by simp only [AV.beq,Nat.beq_refl,Bool.true_and];exact AV.Mg v
 | .HW=>rfl
 | .agg a=>by simp only [AV.beq];exact Fw a
 | .tup a=>by simp only [AV.beq];exact Fw a
theorem Fw:∀ l:List AV,IM l l=true
 | []=>rfl
 | a::r=>by simp only [IM,AV.Mg a,Fw r,Bool.and_self]
theorem Jd:∀ l:List (List AV),Ix l l=true
 | []=>rfl
 | a::r=>by simp only [Ix,Fw a,Jd r,Bool.and_self]
end
theorem DI:∀ b:Blk,Blk.beq b b=true:=by
 intro b
 have h1:(∀ v:AV,AV.beq v v=true)∧(∀ l:List AV,IM l l=true)∧(∀ l:List (List AV),Ix l l=true):=⟨AV.Mg,Fw,Jd⟩
 cases b with
 | var l a=>simp [Blk.beq,h1.2.1]
 | arr s l a=>simp [Blk.beq,h1.2.2]
 | mp a=>
  have:∀ a:List (AV×AV),Jj a a=true:=by
   intro a
   induction a with
   | nil=>rfl
   | cons x r ih=>simp [Jj,h1.1,ih]
  simp [Blk.beq,this]
 | hole=>rfl
theorem GL:∀ (k:Nat) (T:AE),CL k T T=[]
 | _,[]=>rfl
 | k,b::r=>by simp only [CL,DI b,GL (k+1) r]
theorem GW (k:Nat) (X Y:Blk) (T:AE) (x:Nat) (h:x∈CL k (X::T) (Y::T)):x=k:=by
 simp only [CL] at h
 split at h
 ·rw [GL] at h;cases h
 ·rw [GL] at h;simpa using h
theorem De {X Y:Blk} {T:AE} {x:Nat} (hx:x≠0):(x∈CL 0 (X::T) (Y::T))=False:=by
 refine eq_false fun h=>hx ?_
 exact GW _ X Y T x h
theorem Df {b0 X Y:Blk} {T:AE} {x:Nat} (hx:x≠1):(x∈CL 0 (b0::X::T) (b0::Y::T))=False:=by
 refine eq_false fun h=>hx ?_
 simp only [CL,DI] at h
 exact GW _ X Y T x h
theorem Dg {b0 b1 X Y:Blk} {T:AE} {x:Nat} (hx:x≠2):(x∈CL 0 (b0::b1::X::T) (b0::b1::Y::T))=False:=by
 refine eq_false fun h=>hx ?_
 simp only [CL,DI] at h
 exact GW _ X Y T x h
theorem Dh {b0 b1 b2 X Y:Blk} {T:AE} {x:Nat} (hx:x≠3):(x∈CL 0 (b0::b1::b2::X::T) (b0::b1::b2::Y::T))=False:=by
 refine eq_false fun h=>hx ?_
 simp only [CL,DI] at h
 exact GW _ X Y T x h
theorem Di {b0 b1 b2 b3 X Y:Blk} {T:AE} {x:Nat} (hx:x≠4):(x∈CL 0 (b0::b1::b2::b3::X::T) (b0::b1::b2::b3::Y::T))=False:=by
 refine eq_false fun h=>hx ?_
 simp only [CL,DI] at h
 exact GW _ X Y T x h
theorem Dj {b0 b1 b2 b3 b4 X Y:Blk} {T:AE} {x:Nat} (hx:x≠5):(x∈CL 0 (b0::b1::b2::b3::b4::X::T) (b0::b1::b2::b3::b4::Y::T))=False:=by
 refine eq_false fun h=>hx ?_
 simp only [CL,DI] at h
 exact GW _ X Y T x h
theorem Dk {b0 b1 b2 b3 b4 b5 X Y:Blk} {T:AE} {x:Nat} (hx:x≠6):(x∈CL 0 (b0::b1::b2::b3::b4::b5::X::T) (b0::b1::b2::b3::b4::b5::Y::T))=False:=by
 refine eq_false fun h=>hx ?_
 simp only [CL,DI] at h
 exact GW _ X Y T x h
end Go.Am
namespace Go.Am
open Go
def Ds (v:Option AV):Kd:=match v with
 | some (.hm id)=> .ld id
 | _=> .st
theorem SlR.Ds {α:Type} {R:α→List AV→Prop} {sz:Nat} {l:List α} {v:AV} (hv:SlR R sz l v):Ds (some v)=.st:=by
 rcases hv with ⟨_,rfl⟩ | ⟨_,_,rfl,_⟩ <;> rfl
section
variable (M:Par) (t:Tm) (h h':AE)
theorem El (x):EP M t (.move x) h h'=.st:=rfl
theorem DJ (x):EP M t (.assign x) h h'=.st:=rfl
theorem Em (a b c):EP M t (.pick a b c) h h'=.st:=rfl
theorem D7 (a b):EP M t (.build a b) h h'=.st:=rfl
theorem Ff (a):EP M t (.nilCheck a) h h'=.st:=rfl
theorem Fg (a b c d e):EP M t (.binOp a b c d e) h h'=.st:=rfl
theorem G6 (a b c):EP M t (.unOp a b c) h h'=.st:=rfl
theorem D8 (a b):EP M t (.makeInterface a b) h h'=.st:=rfl
theorem En (a b c):EP M t (.makeFunc a b c) h h'=.st:=rfl
theorem D9 (a b c d e):EP M t (.slice a b c d e) h h'=.st:=rfl
theorem Bm (a b c):EP M t (.fieldAddr a b c) h h'=.st:=rfl
theorem EA (a b c):EP M t (.field a b c) h h'=.st:=rfl
theorem Bn (a b c):EP M t (.indexAddr a b c) h h'=.st:=rfl
theorem EB (a b c):EP M t (.index a b c) h h'=.st:=rfl
theorem Cl (a b):EP M t (.extract a b) h h'=.st:=rfl
theorem Eo (a b):EP M t (.load a b) h h'=DE (ev t b):=rfl
theorem DK (a b c d):EP M t (.lookup a b c d) h h'=DE (ev t b):=rfl
theorem Fh (a b):EP M t (.call { callee:=.builtin .len,args:=a,argTypes:=b }) h h'=Ds ((a[0]?).bind (ev t)):=rfl
theorem Fi (a b):EP M t (.call { callee:=.builtin .max,args:=a,argTypes:=b }) h h'=.st:=rfl
theorem Fj (a b):EP M t (.call { callee:=.builtin .min,args:=a,argTypes:=b }) h h'=.st:=rfl
theorem DL (a b):EP M t (.call { callee:=.builtin .append,args:=a,argTypes:=b }) h h'=.ch (CL 0 h h'):=rfl
theorem EC (f a b):EP M t (.call { callee:=.value f,args:=a,argTypes:=b }) h h'=(match ev t f,evs t a.toList with
  | some (.fn g fs cap),some vs=>(match (M.prim g).isSome||((M.mode g).fresh && !(M.mode g).keepTop&&(fs++vs++cap).all AV.AD) with
   | true=> .st
   | false=> .ch (CL 0 h h'))
  | _,_=> .ch (CL 0 h h')):=rfl
theorem ED (a):EP M t (.alloc a) h h'=.ch [h.length]:=rfl
theorem Fk (a b):EP M t (.box a b) h h'=.ch [h.length]:=rfl
theorem G7 (a b c):EP M t (.buildSlice a b c) h h'=(match Nat.beq h.length h'.length with | true=> .st | false=> .ch [h.length]):=rfl
theorem Fl (a b):EP M t (.makeMap a b) h h'=.ch [h.length]:=rfl
theorem G8 (a b c):EP M t (.makeSlice a b c) h h'=.ch [h.length]:=rfl
theorem G9 (a b c):EP M t (.convert a b c) h h'=(match Nat.beq h.length h'.length with | true=> .st | false=> .ch [h.length]):=rfl
theorem EF (a b c):EP M t (.store a b c) h h'=.ch (CL 0 h h'):=rfl
theorem Bo (a b c d):EP M t (.mapUpdate a b c d) h h'=.ch (CL 0 h h'):=rfl
theorem DM (a b c d):EP M t (.insert a b c d) h h'=.ch (CL 0 h h'):=rfl
end
theorem Cm:Ds (some .AI)=.st:=rfl
theorem EG (a b c):Ds (some (.sl a b c))=.st:=rfl
theorem EH (a b c d e f):Ds (some (.hs a b c d e f))=.st:=rfl
theorem DN (a):Ds (some (.str a))=.st:=rfl
end Go.Am
namespace Go.Proofs.Am12
open Go Go.Am
attribute [local simp] Du CY EX Dv Ch Dw Dx Ew Ba BS Bg Al GC FC EK Gv D2 BA E3 EL Gw Gx xUn Er D3 FD BK DD BL D4 BM D5 Cp Cf B8 BG EM EO
 ev evs Cy DC OR.ofV OR.Dc OR.ofC FH Tm.get Tm.init Tm.only A2 BC CO finish CB Cg Gu Dn D1 unA Ca Br Cb Bs C4 C5 C6 Bt C7 C8 Bu C9 DA Bv Cc AQ CQ Bq C2 C3 CZ Ey Ez E0 Dy Dz FT F6 F7 FU stA A5 DQ B6 EP DE Es Gd Cd DT CS FG Ge
set_option maxHeartbeats 1000000
attribute [local simp] Dd Ck CM Bk De Df Dg Dh Di Dj Dk
abbrev Rec:=TyV→Int→Int×Int
def eFs (rec:Rec):List B7→Int→Int×Int
 | [],c=>(c,0)
 | f::r,c=>if (rec f.ty c).2=0 then eFs rec r (rec f.ty c).1 else rec f.ty c
def eCs (rec:Rec):List Bb→Int→Int×Int
 | [],c=>(c,0)
 | k::r,c=>if (eFs rec k.fields c).2=0 then eCs rec r (eFs rec k.fields c).1 else eFs rec k.fields c
def A8 (t:TyV):TyV:=t.ps.getD 0 default
def Cw (l:List AO) (r:Option Rec) (t:TyV) (c:Int):Int×Int:=
 if BE t=false then (c+1,8) else if t.k=2 then (c+1,26) else if Cv t=true∧(A8 t).k≠2 then (c+1,26) else if Cv t=true∧¬ (1≤(A8 t).v∧(A8 t).v≤16) then (c+1,25) else
 if 200<c+1 then (c+1,8) else match r with
  | none=>(c+1,8)
  | some rec=>if Cv t=true then (c+1,0) else eCs rec (AP l t) (c+1)
def DP (l:List AO):Nat→Rec
 | 0=>Cw l none
 | n+1=>Cw l (some (DP l n))
def VT (l:List AO) (t:TyV):Prop:=Ah l [] t=0
structure DOK (l:List AO):Prop where
 bit:∀ t,VT l t→Cv t=true→t.ps.length=1
 has:∀ t,VT l t→t.k≠2→Cv t=false→HasC l t
 fld:∀ t,VT l t→t.k≠2→Cv t=false→∀ c∈AP l t,∀ f∈c.fields,VT l f.ty
theorem Da {b:Nat} {l:List AO} (hsl:SmL b l) {t:TyV} (hst:Sm b t) (h8:5<b):(AP l t).length<b∧∀ c∈AP l t,SmC b c:=by
 have hps:∀ p∈t.ps,Sm b p:=by cases t;exact hst.dest.2.2
 unfold AP
 split
 ·exact ⟨by simp;omega,fun c hc=>by
   simp only [List.mem_cons,List.not_mem_nil,or_false] at hc
   rcases hc with rfl | rfl
   ·exact ⟨by simp [Bw];omega,by simp;omega,fun f hf=>by cases hf⟩
   ·exact ⟨by simp [DB];omega,by simp;omega,fun f hf=>by cases hf⟩⟩
 ·split
  ·rename_i i hf
   have hil:=FV hf
   have hgd:l.getD i default=l[i]:=by simp [hil]
   rw [hgd]
   obtain ⟨s1,s2,s3,s4,s5⟩:=hsl.2 _ (List.getElem_mem hil)
   refine ⟨by simpa using s4,fun c hc => ?_⟩
   obtain ⟨c0,hc0,rfl⟩:=List.mem_map.1 hc
   obtain ⟨q1,q2,q3⟩:=s5 c0 hc0
   refine ⟨q1,by simpa [Eu] using q2,fun f hf => ?_⟩
   obtain ⟨f0,hf0,rfl⟩:=List.mem_map.1 hf
   obtain ⟨r1,r2⟩:=q3 f0 hf0
   exact ⟨r1,WR hps (by omega) _ r2⟩
  ·exact ⟨by simp;omega,fun c hc=>by cases hc⟩
def Ir (rec:Rec):Prop:=∀ t c,0≤c→c≤200→0≤(rec t c).1∧(rec t c).1≤201∧((rec t c).2=0→(rec t c).1≤200)
theorem Ln {rec:Rec} (hr:Ir rec):∀ (fs:List B7) c,0≤c→c≤200→0≤(eFs rec fs c).1∧(eFs rec fs c).1≤201∧((eFs rec fs c).2=0→(eFs rec fs c).1≤200)
 | [],c,h0,h1=>⟨h0,by simp [eFs];omega,fun _=>h1⟩
 | f::r,c,h0,h1=>by
  obtain ⟨a,b,d⟩:=hr f.ty c h0 h1
  simp only [eFs]
  split
  ·rename_i hz;exact Ln hr r _ a (d hz)
  ·exact ⟨a,b,d⟩
theorem Lo {rec:Rec} (hr:Ir rec):∀ (cs:List Bb) c,0≤c→c≤200→0≤(eCs rec cs c).1∧(eCs rec cs c).1≤201∧((eCs rec cs c).2=0→(eCs rec cs c).1≤200)
 | [],c,h0,h1=>⟨h0,by simp [eCs];omega,fun _=>h1⟩
 | f::r,c,h0,h1=>by
  obtain ⟨a,b,d⟩:=Ln hr f.fields c h0 h1
  simp only [eCs]
  split
  ·rename_i hz;exact Lo hr r _ a (d hz)
  ·exact ⟨a,b,d⟩
theorem Jt {l:List AO} {r:Option Rec} (hr:∀ rec,r=some rec→Ir rec):Ir (Cw l r):=by
 intro t c h0 h1
 unfold Cw
 split
 ·exact ⟨by simp;omega,by simp;omega,fun h=>by cases h⟩
 split
 ·exact ⟨by simp;omega,by simp;omega,fun h=>by cases h⟩
 split
 ·exact ⟨by simp;omega,by simp;omega,fun h=>by cases h⟩
 split
 ·exact ⟨by simp;omega,by simp;omega,fun h=>by cases h⟩
 split
 ·exact ⟨by simp;omega,by simp;omega,fun h=>by cases h⟩
 split
 ·exact ⟨by simp;omega,by simp;omega,fun h=>by cases h⟩
 split
 ·exact ⟨by simp;omega,by simp;omega,fun _=>by simp;omega⟩
 ·exact Lo (hr _ rfl) _ _ (by omega) (by omega)
theorem GX (l:List AO):∀ n,Ir (DP l n)
 | 0=>Jt fun rec h=>by cases h
 | n+1=>Jt fun rec h=>by cases h;exact GX l n
theorem c154 {l:List AO} {lv:AV} (hl:SlR Ab 3 l lv) (hsl:SmL 1048577 l) (hok:DOK l):∀ (n:Nat),n≤40→∀ (t:TyV) (xs:List AV) (c e0:Int),AU t xs→Sm 1048577 t→VT l t→0≤c→c≤200→∀ h,
  AK MX (AH MX) 154 [lv,.agg xs,.agg [.int .i64 c,.int .i64 e0,.int .i64 (40 - n)]] h=some (.ret (.agg [.int .i64 (DP l n t c).1,.int .i64 (DP l n t c).2,.int .i64 (40 - n)]),h):=by
 intro n
 induction n with
 | zero=>
  intro _ t xs c e0 hx hst hv h0 h1 h
  have hn:([lv,AV.agg xs,.agg [.int .i64 c,.int .i64 e0,.int .i64 (40 - (0:Nat))]]:List AV).all AV.AD=true:=by simp [AV.AD,hx.AG,hl.AD,AG]
  have wc:wr .i64 (c+1)=c+1:=BI (by omega) (by omega)
  have hT:=c59 hx hst
  have hB:=c66 hx
  have hbit:=hok.bit t hv
  obtain ⟨D,hD⟩:∃ D:Int,D=40 - (0:Nat):=⟨_,rfl⟩
  rw [← hD] at hn ⊢
  have hd:40≤D:=by omega
  obtain ⟨pv,rfl,hp⟩:=hx.AW
  obtain ⟨hr,hc⟩:∃ hr,AN MX 154 [lv,.agg [.int .i64 t.k,.int .i64 t.v,.str t.nm,pv],.agg [.int .i64 c,.int .i64 e0,.int .i64 D]] []=some (.ret (.agg [.int .i64 (DP l 0 t c).1,.int .i64 (DP l 0 t c).2,.int .i64 D]),hr):=by
   simp only [DP,Cw]
   cases hT0:BE t with
   | false=>exact ⟨_,by simp [AN,Tryz.f154,wc,hT,hT0,Cg] <;> rfl⟩
   | true=>
   by_cases h2:t.k=2
   ·have h2':(t.k == 2)=true:=by simp [h2]
    rw [if_neg (by simp),if_pos h2]
    exact ⟨_,by simp [AN,Tryz.f154,wc,hT,hT0,h2',Cg] <;> rfl⟩
   ·have h2':(t.k == 2)=false:=by simp [h2]
    cases hB0:Cv t with
    | false=>
     by_cases h200:200<c+1
     ·exact ⟨_,by simp [AN,Tryz.f154,wc,hT,hT0,h2,h2',hB,hB0,h200,hd,Cg] <;> rfl⟩
     ·exact ⟨_,by simp [AN,Tryz.f154,wc,hT,hT0,h2,h2',hB,hB0,h200,hd,Cg] <;> rfl⟩
    | true=>
     have hb:=hbit hB0
     obtain ⟨e,he,hR⟩:=hp.ix (i:=0) (by omega)
     have hag:A8 t=t.ps[0]'(by omega):=by simp [A8,hb]
     rw [← hag] at hR
     obtain ⟨qv,rfl,hq⟩:=hR.AW
     simp only [Int.natCast_zero] at he
     by_cases hk:(A8 t).k=2
     ·have hk':((A8 t).k != 2)=false:=by simp [hk]
      by_cases hw:1≤(A8 t).v∧(A8 t).v≤16
      ·by_cases h200:200<c+1
       ·exact ⟨_,by simp [AN,Tryz.f154,wc,hT,hT0,h2,h2',hB,hB0,he,hk,hk',hw,h200,hd,Cg] <;> rfl⟩
       ·exact ⟨_,by simp [AN,Tryz.f154,wc,hT,hT0,h2,h2',hB,hB0,he,hk,hk',hw,h200,hd,Cg] <;> rfl⟩
      ·exact ⟨_,by simp [AN,Tryz.f154,wc,hT,hT0,h2,h2',hB,hB0,he,hk,hk',hw,Cg] <;> rfl⟩
     ·have hk':((A8 t).k != 2)=true:=by simp [hk]
      exact ⟨_,by simp [AN,Tryz.f154,wc,hT,hT0,h2,h2',hB,hB0,he,hk,hk',Cg] <;> rfl⟩
  exact Ai NS P7 hn (by simp [AV.AD,AG]) hc h
 | succ n ih=>
  intro hn40 t xs c e0 hx hst hv h0 h1 h
  have hn:([lv,AV.agg xs,.agg [.int .i64 c,.int .i64 e0,.int .i64 (40 - (n+1:Nat))]]:List AV).all AV.AD=true:=by simp [AV.AD,hx.AG,hl.AD,AG]
  have wc:wr .i64 (c+1)=c+1:=BI (by omega) (by omega)
  have hT:=c59 hx hst
  have hB:=c66 hx
  have hbit:=hok.bit t hv
  have hd:¬ (40≤(40 - (n+1:Nat):Int)):=by omega
  have hd1:(40 - (n+1:Nat):Int)+1=40 - (n:Int):=by omega
  have wd:wr .i64 ((40 - (n+1:Nat):Int)+1)=40 - (n:Int):=by rw [hd1];exact BI (by omega) (by omega)
  have h68:=c68 hl hsl hx hst
  obtain ⟨D,hD⟩:∃ D:Int,D=40 - (n+1:Nat):=⟨_,rfl⟩
  rw [← hD] at hd wd hn ⊢
  have hcsm:=Da hsl hst (by decide)
  obtain ⟨pv,rfl,hp⟩:=hx.AW
  obtain ⟨hr,hc⟩:∃ hr,AN MX 154 [lv,.agg [.int .i64 t.k,.int .i64 t.v,.str t.nm,pv],.agg [.int .i64 c,.int .i64 e0,.int .i64 D]] []=some (.ret (.agg [.int .i64 (DP l (n+1) t c).1,.int .i64 (DP l (n+1) t c).2,.int .i64 D]),hr):=by
   simp only [DP,Cw]
   cases hT0:BE t with
   | false=>exact ⟨_,by simp [AN,Tryz.f154,wc,hT,hT0,Cg] <;> rfl⟩
   | true=>
   by_cases h2:t.k=2
   ·have h2':(t.k == 2)=true:=by simp [h2]
    rw [if_neg (by simp),if_pos h2]
    exact ⟨_,by simp [AN,Tryz.f154,wc,hT,hT0,h2',Cg] <;> rfl⟩
   ·have h2':(t.k == 2)=false:=by simp [h2]
    cases hB0:Cv t with
    | true=>
     have hb:=hbit hB0
     obtain ⟨e,he,hR⟩:=hp.ix (i:=0) (by omega)
     have hag:A8 t=t.ps[0]'(by omega):=by simp [A8,hb]
     rw [← hag] at hR
     obtain ⟨qv,rfl,hq⟩:=hR.AW
     simp only [Int.natCast_zero] at he
     by_cases hk:(A8 t).k=2
     ·have hk':((A8 t).k != 2)=false:=by simp [hk]
      by_cases hw:1≤(A8 t).v∧(A8 t).v≤16
      ·by_cases h200:200<c+1
       ·exact ⟨_,by simp [AN,Tryz.f154,wc,hT,hT0,h2,h2',hB,hB0,he,hk,hk',hw,h200,Cg] <;> rfl⟩
       ·exact ⟨_,by simp [AN,Tryz.f154,wc,hT,hT0,h2,h2',hB,hB0,he,hk,hk',hw,h200,hd,Cg] <;> rfl⟩
      ·exact ⟨_,by simp [AN,Tryz.f154,wc,hT,hT0,h2,h2',hB,hB0,he,hk,hk',hw,Cg] <;> rfl⟩
     ·have hk':((A8 t).k != 2)=true:=by simp [hk]
      exact ⟨_,by simp [AN,Tryz.f154,wc,hT,hT0,h2,h2',hB,hB0,he,hk,hk',Cg] <;> rfl⟩
    | false=>
     by_cases h200:200<c+1
     ·exact ⟨_,by simp [AN,Tryz.f154,wc,hT,hT0,h2,h2',hB,hB0,h200,Cg] <;> rfl⟩
     ·obtain ⟨w,hw,h68'⟩:=h68 (hok.has t hv h2 hB0)
      have hvf:=hok.fld t hv h2 hB0
      have hR:=GX l n
      have hb23:=Ot
      simp [BD,BP,Tryz.f154] at hb23
      have hb24:=Ou
      simp [BD,BP,Tryz.f154] at hb24
      -- all constructors
      obtain ⟨e,st,hlp,hq⟩:=AR (M:=MX) (fid:=154) (N:=113) (C:=AH MX) (c:=AQ Tryz.f154 0) (n:=(AP l t).length)
       (fun i (b:Int×AE)=>([(0,lv),(6,.hp 2 0),(7,.hp 3 0),(8,w),(9,.int .i64 i)],Blk.var false [AV.int .i64 t.k,AV.int .i64 t.v,AV.str t.nm,pv]::Blk.var false [AV.int .i64 c,AV.int .i64 e0,AV.int .i64 D]::Blk.var false [AV.int .i64 0,AV.int .i64 0,AV.int .i64 0]::Blk.var false [AV.int .i64 b.1,AV.int .i64 0,AV.int .i64 D]::b.2))
       (fun i b=>0≤b.1∧b.1≤200∧eCs (DP l n) (AP l t) (c+1)=eCs (DP l n) ((AP l t).drop i) b.1)
       (fun r=>∃ b:Int×AE,(r=(.ext 0,([(0,lv),(6,.hp 2 0),(7,.hp 3 0),(8,w),(9,.int .i64 (AP l t).length),(72,.bool false)],Blk.var false [AV.int .i64 t.k,AV.int .i64 t.v,AV.str t.nm,pv]::Blk.var false [AV.int .i64 c,AV.int .i64 e0,AV.int .i64 D]::Blk.var false [AV.int .i64 0,AV.int .i64 0,AV.int .i64 0]::Blk.var false [AV.int .i64 b.1,AV.int .i64 0,AV.int .i64 D]::b.2))∧eCs (DP l n) (AP l t) (c+1)=(b.1,0)) ∨
         (r=(.ret,([(6,.hp 2 0)],Blk.var false [AV.int .i64 t.k,AV.int .i64 t.v,AV.str t.nm,pv]::Blk.var false [AV.int .i64 c,AV.int .i64 e0,AV.int .i64 D]::Blk.var false [AV.int .i64 (eCs (DP l n) (AP l t) (c+1)).1,AV.int .i64 (eCs (DP l n) (AP l t) (c+1)).2,AV.int .i64 D]::b.2)))) (fun i b hi hI=>by
         obtain ⟨cc,G⟩:=b
         obtain ⟨i0,i1,i2⟩:=hI
         simp only at i0 i1 i2
         obtain ⟨ce,hce,hcR⟩:=hw.ix hi
         have hi':=AY hi
         have hwi:=AX hi hcsm.1
         have hsc:=hcsm.2 _ (List.getElem_mem hi)
         obtain ⟨fv,rfl,hfv⟩:=hcR.dest
         have hdr:(AP l t).drop i=(AP l t)[i]::(AP l t).drop (i+1):=List.drop_eq_getElem_cons hi
         rw [hdr] at i2
         simp only [eCs] at i2
         obtain ⟨e2,st2,hlp2,hq2⟩:=AR (M:=MX) (fid:=154) (N:=113) (C:=AH MX) (c:=AQ Tryz.f154 1) (n:=(AP l t)[i].fields.length)
          (fun j (b:Int×AE)=>([(0,lv),(6,.hp 2 0),(7,.hp 3 0),(8,w),(9,.int .i64 i),(10,.int .i64 j)],Blk.var false [AV.int .i64 t.k,AV.int .i64 t.v,AV.str t.nm,pv]::Blk.var false [AV.int .i64 c,AV.int .i64 e0,AV.int .i64 D]::Blk.var false [AV.int .i64 0,AV.int .i64 0,AV.int .i64 0]::Blk.var false [AV.int .i64 b.1,AV.int .i64 0,AV.int .i64 D]::b.2))
          (fun j b=>0≤b.1∧b.1≤200∧eFs (DP l n) (AP l t)[i].fields cc=eFs (DP l n) ((AP l t)[i].fields.drop j) b.1)
          (fun r=>∃ b:Int×AE,(r=(.ext 2,([(0,lv),(6,.hp 2 0),(7,.hp 3 0),(8,w),(9,.int .i64 i),(10,.int .i64 (AP l t)[i].fields.length),(82,.bool false)],Blk.var false [AV.int .i64 t.k,AV.int .i64 t.v,AV.str t.nm,pv]::Blk.var false [AV.int .i64 c,AV.int .i64 e0,AV.int .i64 D]::Blk.var false [AV.int .i64 0,AV.int .i64 0,AV.int .i64 0]::Blk.var false [AV.int .i64 b.1,AV.int .i64 0,AV.int .i64 D]::b.2))∧eFs (DP l n) (AP l t)[i].fields cc=(b.1,0)∧0≤b.1∧b.1≤200) ∨
            (r=(.ret,([(6,.hp 2 0)],Blk.var false [AV.int .i64 t.k,AV.int .i64 t.v,AV.str t.nm,pv]::Blk.var false [AV.int .i64 c,AV.int .i64 e0,AV.int .i64 D]::Blk.var false [AV.int .i64 (eFs (DP l n) (AP l t)[i].fields cc).1,AV.int .i64 (eFs (DP l n) (AP l t)[i].fields cc).2,AV.int .i64 D]::b.2))∧(eFs (DP l n) (AP l t)[i].fields cc).2≠0)) (fun j b hj hJ=>by
            obtain ⟨cf,G'⟩:=b
            obtain ⟨j0,j1,j2⟩:=hJ
            simp only at j0 j1 j2
            obtain ⟨fe,hfe,hfR⟩:=hfv.ix hj
            have hj':=AY hj
            have hwj:=AX hj hsc.2.1
            have hmf:=List.getElem_mem hj
            obtain ⟨tx,rfl,htx⟩:=hfR
            have hrec:=ih (by omega) (AP l t)[i].fields[j].ty tx cf 0 htx (hsc.2.2 _ hmf).2 (hvf _ (List.getElem_mem hi) _ hmf) j0 j1
            obtain ⟨r1,r2,r3⟩:=hR (AP l t)[i].fields[j].ty cf j0 j1
            obtain ⟨qv,rfl,hqv⟩:=htx.AW
            have hdr2:(AP l t)[i].fields.drop j=(AP l t)[i].fields[j]::(AP l t)[i].fields.drop (j+1):=List.drop_eq_getElem_cons hj
            rw [hdr2] at j2
            simp only [eFs] at j2
            by_cases hz:(DP l n (AP l t)[i].fields[j].ty cf).2=0
            ·rw [if_pos hz] at j2
             exact .inl ⟨((DP l n (AP l t)[i].fields[j].ty cf).1,G'++[Blk.var false [AV.int .i64 (DP l n (AP l t)[i].fields[j].ty cf).1,AV.int .i64 0,AV.int .i64 (40 - n)]]),by simp [Tryz.f154,hw.len,hi',hce,hfv.len,hj',hfe,wd,hrec,hz,hwj,hb23,hb24,AG,AV.AD,hl.AD,hqv.AD],r1,r3 hz,j2⟩
            ·rw [if_neg hz] at j2
             have hne:((DP l n (AP l t)[i].fields[j].ty cf).2 != 0)=true:=by simp [hz]
             exact .inr ⟨_,_,by simp [Tryz.f154,hw.len,hi',hce,hfv.len,hj',hfe,wd,hrec,hne,hb23,hb24,AG,AV.AD,hl.AD,hqv.AD] <;> first | exact ⟨rfl,rfl⟩ | rfl,by simp,(0,_),.inr ⟨by rw [j2],by rw [j2];exact hz⟩⟩) (fun b hJ=>by
            obtain ⟨cf,G'⟩:=b
            obtain ⟨j0,j1,j2⟩:=hJ
            rw [List.drop_length] at j2
            exact ⟨_,_,by simp [Tryz.f154,hw.len,hi',hce,hfv.len] <;> first | exact ⟨rfl,rfl⟩ | rfl,by simp,(cf,G'),.inl ⟨rfl,j2,j0,j1⟩⟩) (cc,G) ⟨i0,i1,by simp⟩
         simp [Tryz.f154] at hlp2
         obtain ⟨⟨cf,G'⟩,hq2⟩:=hq2
         rcases hq2 with ⟨hq2,hF,f0,f1⟩ | ⟨hq2,hF⟩ <;> cases hq2
         ·rw [hF] at i2
          exact .inl ⟨(cf,G'),by simp [Tryz.f154,hw.len,hi',hlp2,hwi],f0,f1,by simpa using i2⟩
         ·rw [if_neg hF] at i2
          exact .inr ⟨_,_,by simp [Tryz.f154,hw.len,hi',hlp2] <;> first | exact ⟨rfl,rfl⟩ | rfl,by simp,(0,_),.inr (by rw [i2])⟩) (fun b hI=>by
         obtain ⟨cc,G⟩:=b
         obtain ⟨i0,i1,i2⟩:=hI
         rw [List.drop_length] at i2
         exact ⟨_,_,by simp [Tryz.f154,hw.len] <;> first | exact ⟨rfl,rfl⟩ | rfl,by simp,(cc,G),.inl ⟨rfl,i2⟩⟩) (c+1,[]) ⟨by simp;omega,by simp;omega,by simp⟩
      simp [Tryz.f154] at hlp
      obtain ⟨⟨cc,G⟩,hq⟩:=hq
      rcases hq with ⟨hq,hC⟩ | hq <;> cases hq
      ·exact ⟨_,by simp [AN,Tryz.f154,wc,hT,hT0,h2,h2',hB,hB0,h200,hd,h68',hlp,hC,Cg] <;> rfl⟩
      ·exact ⟨_,by simp [AN,Tryz.f154,wc,hT,hT0,h2,h2',hB,hB0,h200,hd,h68',hlp,Cg] <;> rfl⟩
  exact Ai NS P7 hn (by simp [AV.AD,AG]) hc h
inductive Sh where
 | bit (n:Int)
 | cons (ns:List Bytes) (ss:List (List Sh))
 deriving Inhabited
theorem Sh.ind {P:Sh→Prop} (hb:∀ n,P (.bit n)) (hc:∀ ns ss,(∀ s∈ss,∀ x∈s,P x)→P (.cons ns ss)) (s:Sh):P s:=
 Sh.rec (motive_1:=P) (motive_2:=fun ss=>∀ s∈ss,∀ x∈s,P x) (motive_3:=fun s=>∀ x∈s,P x) (fun n=>hb n) (fun ns ss ih=>hc ns ss ih)
  (fun s hs=>by cases hs) (fun a r ha hr s hs=>by
    rcases List.mem_cons.1 hs with rfl | hs
    ·exact ha
    ·exact hr s hs) (fun x hx=>by cases hx) (fun a r ha hr x hx=>by
    rcases List.mem_cons.1 hx with rfl | hx
    ·exact ha
    ·exact hr x hx) s
inductive CD (l:List AO):TyV→Sh→Prop where
 | bit (t:TyV) (hb:Cv t=true) (hw:1≤(A8 t).v∧(A8 t).v≤16) (h2:(A8 t).k=2):CD l t (.bit (A8 t).v)
 | cons (t:TyV) (ns:List Bytes) (ss:List (List Sh)) (hb:Cv t=false) (hk:t.k≠2) (hn:ns=(AP l t).map (·.nm)) (hl:ss.length=(AP l t).length)
   (hs:∀ (i:Nat) c s,(AP l t)[i]? = some c→ss[i]? = some s→s.length=c.fields.length)
   (hf:∀ (i:Nat) c s (j:Nat) f y,(AP l t)[i]? = some c→ss[i]? = some s→c.fields[j]? = some f→s[j]? = some y→CD l f.ty y):CD l t (.cons ns ss)
theorem CD.unique {l:List AO} {t:TyV} {s:Sh} (h:CD l t s):∀ s',CD l t s'→s=s':=by
 induction h with
 | bit t hb hw h2=>
  intro s' h'
  cases h' with
  | bit _ _ _ _=>rfl
  | cons _ _ _ hb'=>rw [hb] at hb';cases hb'
 | cons t ns ss hb hk hn hl hs hf ih=>
  intro s' h'
  cases h' with
  | bit _ hb' _=>rw [hb] at hb';cases hb'
  | cons _ ns' ss' hb' hk' hn' hl' hs' hf'=>
   have e1:ns=ns':=by rw [hn,hn']
   have e2:ss=ss':=by
    apply List.ext_getElem (by rw [hl,hl'])
    intro i h1 h2
    have hc:(AP l t)[i]? = some ((AP l t)[i]'(by omega)):=List.getElem?_eq_getElem _
    have a1:=hs i _ _ hc (List.getElem?_eq_getElem h1)
    have b1:=hs' i _ _ hc (List.getElem?_eq_getElem h2)
    apply List.ext_getElem (by rw [a1,b1])
    intro j g1 g2
    exact ih i _ _ j _ _ hc (List.getElem?_eq_getElem h1) (List.getElem?_eq_getElem (by omega)) (List.getElem?_eq_getElem g1) _ (hf' i _ _ j _ _ hc (List.getElem?_eq_getElem h2) (List.getElem?_eq_getElem (by omega)) (List.getElem?_eq_getElem g2))
   rw [e1,e2]
theorem Tz {l:List AO} {rec:Rec} (hr:∀ t c,(rec t c).2=0→∃ s,CD l t s):∀ (fs:List B7) c,(eFs rec fs c).2=0→∃ ss:List Sh,ss.length=fs.length∧∀ (j:Nat) f y,fs[j]? = some f→ss[j]? = some y→CD l f.ty y
 | [],_,_=>⟨[],rfl,fun j f y h=>by simp at h⟩
 | f::r,c,h=>by
  simp only [eFs] at h
  split at h
  ·rename_i hz
   obtain ⟨s,hs⟩:=hr f.ty c hz
   obtain ⟨ss,h1,h2⟩:=Tz hr r _ h
   refine ⟨s::ss,by simp [h1],fun j f' y g1 g2 => ?_⟩
   cases j with
   | zero=>simp at g1 g2;exact g1 ▸ g2 ▸ hs
   | succ j=>exact h2 j f' y (by simpa using g1) (by simpa using g2)
  ·rename_i hz;exact absurd h hz
theorem T0 {l:List AO} {rec:Rec} (hr:∀ t c,(rec t c).2=0→∃ s,CD l t s):∀ (cs:List Bb) c,(eCs rec cs c).2=0→∃ ss:List (List Sh),ss.length=cs.length∧∀ (i:Nat) k s,cs[i]? = some k→ss[i]? = some s→s.length=k.fields.length∧∀ (j:Nat) f y,k.fields[j]? = some f→s[j]? = some y→CD l f.ty y
 | [],_,_=>⟨[],rfl,fun j f y h=>by simp at h⟩
 | k::r,c,h=>by
  simp only [eCs] at h
  split at h
  ·rename_i hz
   obtain ⟨s,hs1,hs2⟩:=Tz hr k.fields c hz
   obtain ⟨ss,h1,h2⟩:=T0 hr r _ h
   refine ⟨s::ss,by simp [h1],fun j f' y g1 g2 => ?_⟩
   cases j with
   | zero=>simp at g1 g2;subst g1;subst g2;exact ⟨hs1,hs2⟩
   | succ j=>exact h2 j f' y (by simpa using g1) (by simpa using g2)
  ·rename_i hz;exact absurd h hz
theorem Nk {l:List AO} {r:Option Rec} (hr:∀ rec,r=some rec→∀ t c,(rec t c).2=0→∃ s,CD l t s) (t:TyV) (c:Int) (h:(Cw l r t c).2=0):∃ s,CD l t s:=by
 unfold Cw at h
 split at h
 ·cases h
 split at h
 ·cases h
 rename_i h2
 split at h
 ·cases h
 rename_i h2'
 split at h
 ·cases h
 rename_i h3'
 split at h
 ·cases h
 split at h
 ·cases h
 split at h
 ·rename_i hb;exact ⟨_,.bit t hb (by
   by_cases hw:1≤(A8 t).v∧(A8 t).v≤16
   ·exact hw
   ·exact absurd ⟨hb,hw⟩ h3') (Decidable.byContradiction fun h=>h2' ⟨hb,h⟩)⟩
 ·rename_i hb
  obtain ⟨ss,h3,h4⟩:=T0 (hr _ rfl) _ _ h
  exact ⟨_,.cons t _ ss (by simpa using hb) h2 rfl h3 (fun i c s g1 g2=>(h4 i c s g1 g2).1) (fun i c s j f y g1 g2 g3 g4=>(h4 i c s g1 g2).2 j f y g3 g4)⟩
theorem IG (l:List AO):∀ n t c,(DP l n t c).2=0→∃ s,CD l t s
 | 0=>Nk fun rec h=>by cases h
 | n+1=>Nk fun rec h=>by cases h;exact IG l n
open Classical in
noncomputable def BQ (l:List AO) (t:TyV):Sh:=if h:∃ s,CD l t s then Classical.choose h else .bit 0
theorem HS {l:List AO} {t:TyV} {s:Sh} (h:CD l t s):BQ l t=s:=by
 have hx:∃ s,CD l t s:=⟨s,h⟩
 unfold BQ
 rw [dif_pos hx]
 exact (Classical.choose_spec hx).unique _ h
def JL (n:Nat):Int:=if n≤1 then 0 else if n≤2 then 1 else if n≤4 then 2 else if n≤8 then 3 else 4
theorem tags:(List.range 17).all (fun n=>match Ct MX 20 73 [.int .i64 n] [] with
  | some (.ret (.int .i64 m),[])=>decide (m=JL n)
  | _=>false)=true:=by kernel_rfl
theorem pureC {f:FuncId} {args:List AV} {v:AV} {hr:AE} (hm:MX.mode f = { fresh:=true }) (ha:args.all AV.AD=true) (hv:v.AD=true) (hc:AH MX f args []=some (.ret v,hr)) (h:AE) :
  AK MX (AH MX) f args h=some (.ret v,h):=by
 have hs:∀ {l:List AV} {h:AE},l.all AV.AD=true→Ax l h=some (l,h):=by
  intro l
  induction l with
  | nil=>intro h _;rfl
  | cons a r ih=>
   intro h hn
   simp only [List.all_cons,Bool.and_eq_true] at hn
   simp only [Ax,hn.1,ih hn.2]
 unfold AK
 simp only [hm,hs ha,ha,hc,Bp,hv]
theorem c73 (n:Nat) (hn:n≤16) (h:AE):AK MX (AH MX) 73 [.int .i64 n] h=some (.ret (.int .i64 (JL n)),h):=by
 have h1:=List.all_eq_true.1 tags n (by simp;omega)
 split at h1
 ·rename_i m hm
  have:=of_decide_eq_true h1
  subst this
  exact pureC VL rfl rfl (Fc.2 ⟨20,hm⟩) h
 ·cases h1
theorem Ku (T:Ty) (ts:List TypeId) (k k':IntKind) (x y:Int) (h:AE):Ag T .max ts [.int k x,.int k' y] h=some (.val (.int k (if y > x then y else x)) h):=rfl
def J0 (a b:Int):Int:=wr .i64 (a+b)
mutual
def shW:Sh→Int
 | .bit n=>n
 | .cons _ ss=>J0 (JL ss.length) (EY ss 0)
def EY:List (List Sh)→Int→Int
 | [],m=>m
 | s::r,m=>EY r (if Fm s 0 > m then Fm s 0 else m)
def Fm:List Sh→Int→Int
 | [],a=>a
 | s::r,a=>Fm r (J0 a (shW s))
end
theorem Lp {s:List Sh} {j:Nat} (hj:j<s.length) (a:Int):Fm (s.drop j) a=Fm (s.drop (j+1)) (J0 a (shW s[j])):=by
 rw [List.drop_eq_getElem_cons hj];simp only [Fm]
theorem Ju {ss:List (List Sh)} {j:Nat} (hj:j<ss.length) (m:Int):EY (ss.drop j) m=EY (ss.drop (j+1)) (if Fm ss[j] 0 > m then Fm ss[j] 0 else m):=by
 rw [List.drop_eq_getElem_cons hj];simp only [EY]
section
variable {l:List AO} {lv:AV} (hl:SlR Ab 3 l lv) (hsl:SmL 1048577 l) (hok:DOK l) (hlen:∀ t,VT l t→t.k≠2→Cv t=false→(AP l t).length≤16)
include hl hsl hok hlen
theorem c26 (s:Sh):∀ (t:TyV) (xs:List AV),AU t xs→Sm 1048577 t→VT l t→CD l t s→∀ h,AK MX (AH MX) 26 [lv,.agg xs] h=some (.ret (.int .i64 (shW s)),h):=by
 induction s using Sh.ind with
 | hb n=>
  intro t xs hx hst hv hs h
  have hn:([lv,AV.agg xs]:List AV).all AV.AD=true:=by simp [AV.AD,hx.AG,hl.AD]
  have hB:=c66 hx
  obtain ⟨pv,rfl,hp⟩:=hx.AW
  cases hs with
  | bit _ hb _=>
   have hb1:=hok.bit t hv hb
   obtain ⟨e,he,hR⟩:=hp.ix (i:=0) (by omega)
   have hag:A8 t=t.ps[0]'(by omega):=by simp [A8,hb1]
   rw [← hag] at hR
   obtain ⟨qv,rfl,hq⟩:=hR.AW
   simp only [Int.natCast_zero] at he
   exact Ai MT Oh hn rfl (hr:=[Blk.var false [AV.int .i64 t.k,AV.int .i64 t.v,AV.str t.nm,pv]]) (by simp [AN,Tryz.f26,hB,hb,he,shW]) h
 | hc ns ss ih=>
  intro t xs hx hst hv hs h
  cases hs with
  | cons _ _ _ hb hk hnn hll hs0 hf0=>
  have hn:([lv,AV.agg xs]:List AV).all AV.AD=true:=by simp [AV.AD,hx.AG,hl.AD]
  have hB:=c66 hx
  obtain ⟨w,hw,h68⟩:=c68 hl hsl hx hst (hok.has t hv hk hb)
  have hcsm:=Da hsl hst (by decide)
  have hvf:=hok.fld t hv hk hb
  have h16:=hlen t hv hk hb
  have hT:=c73 (AP l t).length h16
  -- a constructor
  have h122:∀ (i:Nat) (hi:i<(AP l t).length) (hi2:i<ss.length) (cx:List AV),Cu (AP l t)[i] cx→∀ h,AK MX (AH MX) 122 [lv,.agg cx] h=some (.ret (.int .i64 (Fm ss[i] 0)),h):=by
   intro i hi hi2 cx hcx h
   have hn2:([lv,AV.agg cx]:List AV).all AV.AD=true:=by simp [AV.AD,Fp _ _ hcx,hl.AD]
   obtain ⟨fv,rfl,hfv⟩:=hcx.dest
   have f1:=hs0 i _ _ (List.getElem?_eq_getElem hi) (List.getElem?_eq_getElem hi2)
   have f2:=fun j f y=>hf0 i _ _ j f y (List.getElem?_eq_getElem hi) (List.getElem?_eq_getElem hi2)
   have hsc:=hcsm.2 _ (List.getElem_mem hi)
   obtain ⟨e,st,hlp,hq⟩:=AR (M:=MX) (fid:=122) (N:=25) (C:=AH MX) (c:=AQ Tryz.f122 0) (n:=(AP l t)[i].fields.length)
    (fun j (b:Int)=>([(0,lv),(3,.hp 0 0),(5,.int .i64 b),(6,.int .i64 j)],[Blk.var false [AV.str (AP l t)[i].nm,fv]]))
    (fun j b=>Fm ss[i] 0=Fm (ss[i].drop j) b)
    (fun r=>r=(.ext 0,([(0,lv),(3,.hp 0 0),(5,.int .i64 (Fm ss[i] 0)),(6,.int .i64 (AP l t)[i].fields.length),(11,.bool false)],[Blk.var false [AV.str (AP l t)[i].nm,fv]]))) (fun j b hj hJ=>by
      obtain ⟨fe,hfe,hfR⟩:=hfv.ix hj
      have hj':=AY hj
      have hwj:=AX hj hsc.2.1
      have hmf:=List.getElem_mem hj
      have hjs:j<ss[i].length:=by omega
      obtain ⟨tx,rfl,htx⟩:=hfR
      have hrec:=ih ss[i] (List.getElem_mem hi2) ss[i][j] (List.getElem_mem hjs) (AP l t)[i].fields[j].ty tx htx (hsc.2.2 _ hmf).2 (hvf _ (List.getElem_mem hi) _ hmf) (f2 j _ _ (List.getElem?_eq_getElem hj) (List.getElem?_eq_getElem hjs))
      obtain ⟨qv,rfl,hqv⟩:=htx.AW
      rw [Lp hjs] at hJ
      exact .inl ⟨J0 b (shW ss[i][j]),by simp [Tryz.f122,hfv.len,hj',hfe,hrec,hwj,J0],hJ⟩) (fun b hJ=>by
      rw [List.drop_of_length_le (by omega)] at hJ
      simp only [Fm] at hJ
      exact ⟨_,_,by simp [Tryz.f122,hfv.len] <;> first | exact ⟨rfl,rfl⟩ | rfl,by simp,by rw [hJ]⟩) 0 (by simp)
   cases hq
   simp [Tryz.f122] at hlp
   exact Ai Sx Vg hn2 rfl (hr:=[Blk.var false [AV.str (AP l t)[i].nm,fv]]) (by simp [AN,Tryz.f122,hlp]) h
  obtain ⟨pv,rfl,hp⟩:=hx.AW
  -- the room
  have h74:∀ h,AK MX (AH MX) 74 [lv,.agg [.int .i64 t.k,.int .i64 t.v,.str t.nm,pv]] h=some (.ret (.int .i64 (EY ss 0)),h):=by
   intro h
   obtain ⟨e,st,hlp,hq⟩:=AR (M:=MX) (fid:=74) (N:=26) (C:=AH MX) (c:=AQ Tryz.f74 0) (n:=(AP l t).length)
    (fun i (b:Int)=>([(0,lv),(5,w),(6,.int .i64 b),(7,.int .i64 i)],[Blk.var false [AV.int .i64 t.k,AV.int .i64 t.v,AV.str t.nm,pv]]))
    (fun i b=>EY ss 0=EY (ss.drop i) b)
    (fun r=>r=(.ext 0,([(0,lv),(5,w),(6,.int .i64 (EY ss 0)),(7,.int .i64 (AP l t).length),(14,.bool false)],[Blk.var false [AV.int .i64 t.k,AV.int .i64 t.v,AV.str t.nm,pv]]))) (fun i b hi hI=>by
      obtain ⟨ce,hce,hcR⟩:=hw.ix hi
      have hi':=AY hi
      have hwi:=AX hi hcsm.1
      have hi2:i<ss.length:=by omega
      have hW:=h122 i hi hi2 ce hcR
      obtain ⟨fv,rfl,hfv⟩:=hcR.dest
      rw [Ju hi2] at hI
      exact .inl ⟨if Fm ss[i] 0 > b then Fm ss[i] 0 else b,by simp [Tryz.f74,hw.len,hi',hce,hW,hwi,Ku],hI⟩) (fun b hI=>by
      rw [List.drop_of_length_le (by omega)] at hI
      simp only [EY] at hI
      exact ⟨_,_,by simp [Tryz.f74,hw.len] <;> first | exact ⟨rfl,rfl⟩ | rfl,by simp,by rw [hI]⟩) 0 (by simp)
   cases hq
   simp [Tryz.f74] at hlp
   exact Ai VM YH hn rfl (hr:=[Blk.var false [AV.int .i64 t.k,AV.int .i64 t.v,AV.str t.nm,pv]]) (by simp [AN,Tryz.f74,h68,hlp]) h
  have hw2:=hw
  rcases hw2 with ⟨he,rfl⟩ | ⟨ex,es,rfl,hes,_⟩
  ·rw [he] at hT
   have hs0:ss.length=0:=by rw [hll,he];rfl
   exact Ai MT Oh hn rfl (hr:=[Blk.var false [AV.int .i64 t.k,AV.int .i64 t.v,AV.str t.nm,pv]]) (by simp at hT;simp [AN,Tryz.f26,hB,hb,h68,hT,h74,shW,J0,hs0,AG,AV.AD,hl.AD,hp.AD]) h
  ·exact Ai MT Oh hn rfl (hr:=[Blk.var false [AV.int .i64 t.k,AV.int .i64 t.v,AV.str t.nm,pv]]) (by simp [AN,Tryz.f26,hB,hb,h68,hes,hT,h74,shW,J0,hll,AG,AV.AD,hl.AD,hp.AD]) h
noncomputable def FK (l:List AO) (t:TyV):Int:=if BU l [] t=0 then (if (DP l 40 t 0).2=0 then (if 1≤shW (BQ l t)∧shW (BQ l t)≤16 then 0 else 25) else (DP l 40 t 0).2) else BU l [] t
theorem c85 {t:TyV} {xs:List AV} (hx:AU t xs) (hst:Sm 1048577 t) (h:AE):AK MX (AH MX) 85 [lv,.agg xs] h=some (.ret (.int .i64 (FK l t)),h):=by
 have hn:([lv,AV.agg xs]:List AV).all AV.AD=true:=by simp [AV.AD,hx.AG,hl.AD]
 have h153:=c153 hl hsl.1 (params:=[]) (pr:=.AI) (.inl ⟨rfl,rfl⟩) (by decide) (fun d hd=>(hsl.2 d hd).2.1) hx hst
 have h154:=fun hv=>c154 hl hsl hok 40 (by decide) t xs 0 0 hx hst hv (by decide) (by decide)
 have h26:=fun s=>c26 hl hsl hok hlen s t xs hx hst
 obtain ⟨pv,rfl,hp⟩:=hx.AW
 obtain ⟨hr,hc⟩:∃ hr,AN MX 85 [lv,.agg [.int .i64 t.k,.int .i64 t.v,.str t.nm,pv]] []=some (.ret (.int .i64 (FK l t)),hr):=by
  unfold FK
  by_cases h1:BU l [] t=0
  ·have hv:VT l t:=by
    unfold BU at h1
    split at h1
    ·exact h1
    ·cases h1
   have e154:=h154 hv
   rw [show (40:Int) - ((40:Nat):Int)=0 by decide] at e154
   by_cases h2:(DP l 40 t 0).2=0
   ·obtain ⟨s,hs⟩:=IG l 40 t 0 h2
    have e26:=h26 s hv hs
    rw [HS hs]
    by_cases h3:1≤shW s∧shW s≤16
    ·exact ⟨_,by simp [AN,Tryz.f85,h153,h1,e154,h2,e26,h3] <;> rfl⟩
    ·exact ⟨_,by simp [AN,Tryz.f85,h153,h1,e154,h2,e26,h3] <;> rfl⟩
   ·have h2':((DP l 40 t 0).2 != 0)=true:=by simp [h2]
    exact ⟨_,by simp [AN,Tryz.f85,h153,h1,e154,h2,h2'] <;> rfl⟩
  ·have h1':(BU l [] t != 0)=true:=by simp [h1]
   exact ⟨_,by simp [AN,Tryz.f85,h153,h1,h1'] <;> rfl⟩
 exact Ai VP YK hn rfl hc h
end
end Go.Proofs.Am12
namespace Go.Proofs.Am12
open Go Go.Am
attribute [local simp] Du CY EX Dv Ch Dw Dx Ew Ba BS Bg Al GC FC EK Gv D2 BA E3 EL Gw Gx xUn Er D3 FD BK DD BL D4 BM D5 Cp Cf B8 BG EM EO
 ev evs Cy DC OR.ofV OR.Dc OR.ofC FH Tm.get Tm.init Tm.only A2 BC CO finish CB Cg Gu Dn D1 unA Ca Br Cb Bs C4 C5 C6 Bt C7 C8 Bu C9 DA Bv Cc AQ CQ Bq C2 C3 CZ Ey Ez E0 Dy Dz FT F6 F7 FU stA A5 DQ B6 DE Es Gd Cd DT CS FG Ge
set_option maxHeartbeats 1000000
attribute [local simp] Dd Ck CM Bk De Df Dg Dh Di Dj Dk El DJ Em D7 Ff Fg G6 D8 En D9 Bm EA Bn EB Cl Eo DK Fh Fi Fj DL EC ED Fk G7 Fl G8 G9 EF Bo DM Cm EG EH DN
mutual
def CW (s:Sh):TyV→Int
 | .mk k v nm ps=>
  if k=0 then (if 0<ps.length then 10 else 0)
  else if k=1 then (if 0<ps.length then 10 else if A6 nm=false then 4 else 0)
  else if k=3 then (match s with
   | .bit n=>if 0<ps.length then 10 else if 0≤v∧v≤((2 ^ n.toNat:Nat):Int) - 1 then 0 else 2
   | .cons _ _=>26)
  else if k=2 then (match s with
   | .bit _=>6
   | .cons ns ss=>match ns.findIdx? (fun x=>x == nm) with
    | none=>6
    | some i=>if ps.length≠(ss.getD i []).length then 10 else ET (ss.getD i []) ps)
  else 15
def ET (ss:List Sh):List TyV→Int
 | []=>0
 | p::r=>if CW (ss.headD default) p=0 then ET ss.tail r else CW (ss.headD default) p
end
theorem Kv {ss:List Sh} {ps:List TyV} {j:Nat} (hj:j<ps.length) (hs:j<ss.length):ET (ss.drop j) (ps.drop j)=if CW ss[j] ps[j]=0 then ET (ss.drop (j+1)) (ps.drop (j+1)) else CW ss[j] ps[j]:=by
 rw [List.drop_eq_getElem_cons hj,List.drop_eq_getElem_cons hs]
 simp only [ET,List.headD_cons,List.tail_cons]
 first | rfl | (split <;> rfl)
theorem c121 (n w:Int) (h0:0≤w) (h1:w≤62) (h:AE):AK MX (AH MX) 121 [.int .i64 n,.int .i64 w] h=some (.ret (.bool (decide (0≤n∧n≤((2 ^ w.toNat:Nat):Int) - 1))),h):=by
 have hp:(2:Nat) ^ w.toNat≤2 ^ 62:=Nat.pow_le_pow_right (by decide) (by omega)
 have hp':(2:Nat) ^ w.toNat<9223372036854775808:=Nat.lt_of_le_of_lt hp (by decide)
 have hpos:0<(2:Nat) ^ w.toNat:=Nat.pow_pos (by decide)
 have hc:=c67 w h0 h1
 obtain ⟨P,hP⟩:∃ P:Nat,P=2 ^ w.toNat:=⟨_,rfl⟩
 rw [← hP] at hp' hpos hc ⊢
 have hw:wr .i64 ((P:Int) - 1)=(P:Int) - 1:=BI (by omega) (by omega)
 exact Ai Sw Vf rfl rfl (hr:=[]) (by simp [AN,Tryz.f121,hc,hw]) h
section
variable {l:List AO} {lv:AV} (hl:SlR Ab 3 l lv) (hsl:SmL 1048577 l) (hok:DOK l)
include hl hsl hok
theorem c87 (p:TyV):∀ (px:List AV),AU p px→Sm 1048577 p→∀ (s:Sh) (t:TyV) (xs:List AV),AU t xs→Sm 1048577 t→VT l t→CD l t s→∀ h,AK MX (AH MX) 87 [lv,.agg xs,.agg px] h=some (.ret (.int .i64 (CW s p)),h):=by
 induction p using TyV.ind with
 | h k v nm ps ih=>
  intro px hpx hsp s t xs hx hst hv hs h
  have hn:([lv,AV.agg xs,AV.agg px]:List AV).all AV.AD=true:=by simp [AV.AD,hx.AG,hl.AD,hpx.AG]
  obtain ⟨s1,s2,s3⟩:=hsp.dest
  have hB:=c66 hx
  have hNm:=Tw nm s1
  -- a constructor
  have h158:k=2→∀ h,AK MX (AH MX) 158 [lv,.agg xs,.agg px] h=some (.ret (.int .i64 (CW s (.mk 2 v nm ps))),h):=by
   rintro rfl
   intro h
   cases hs with
   | bit _ hb _=>
    obtain ⟨qv,rfl,hq⟩:=hpx.dest
    obtain ⟨pv,rfl,hp⟩:=hx.AW
    exact Ai NT P8 hn rfl (hr:=[Blk.var false [AV.int .i64 t.k,AV.int .i64 t.v,AV.str t.nm,pv],Blk.var false [AV.int .i64 2,AV.int .i64 v,AV.str nm,qv]]) (by simp [AN,Tryz.f158,hB,hb,CW]) h
   | cons _ ns ss hb hk hnn hll hs0 hf0=>
    obtain ⟨w,hw,h68⟩:=c68 hl hsl hx hst (hok.has t hv hk hb)
    have hcsm:=Da hsl hst (by decide)
    have hvf:=hok.fld t hv hk hb
    have h72:=c72 nm hw hcsm.1
    have hfi:ns.findIdx? (fun x=>x == nm)=(AP l t).findIdx? (fun x=>x.nm == nm):=by rw [hnn,List.findIdx?_map];rfl
    have hb7:=RE
    simp [BD,BP,Tryz.f158] at hb7
    have hb12:=Ov
    simp [BD,BP,Tryz.f158] at hb12
    obtain ⟨qv,rfl,hq⟩:=hpx.dest
    obtain ⟨pv,rfl,hp⟩:=hx.AW
    obtain ⟨hr,hc⟩:∃ hr,AN MX 158 [lv,.agg [.int .i64 t.k,.int .i64 t.v,.str t.nm,pv],.agg [.int .i64 2,.int .i64 v,.str nm,qv]] []=some (.ret (.int .i64 (CW (.cons ns ss) (.mk 2 v nm ps))),hr):=by
     cases hf:(AP l t).findIdx? (fun x=>x.nm == nm) with
     | none=>
      have hpe:CW (.cons ns ss) (.mk 2 v nm ps)=6:=by simp [CW,hfi,hf]
      rw [hpe]
      exact ⟨_,by simp [AN,Tryz.f158,hB,hb,h68,h72,hf,ixI] <;> rfl⟩
     | some i=>
      have hi:=FV hf
      have hi0:¬ ((i:Int)<0):=by omega
      have hi2:i<ss.length:=by omega
      have hgd:ss.getD i []=ss[i]:=by simp [hi2]
      obtain ⟨ce,hce,hcR⟩:=hw.ix hi
      obtain ⟨fv,rfl,hfv⟩:=hcR.dest
      have hsc:=hcsm.2 _ (List.getElem_mem hi)
      have hsl2:=hs0 i _ _ (List.getElem?_eq_getElem hi) (List.getElem?_eq_getElem hi2)
      have hpe:CW (.cons ns ss) (.mk 2 v nm ps)=if ps.length≠(AP l t)[i].fields.length then 10 else ET ss[i] ps:=by simp [CW,hfi,hf,hi2,hsl2]
      rw [hpe]
      by_cases hL:ps.length=(AP l t)[i].fields.length
      ·have hL':((ps.length:Int) != ((AP l t)[i].fields.length:Int))=false:=by simp [hL]
       have hLs:ps.length=ss[i].length:=by omega
       obtain ⟨e,st,hlp,hq0⟩:=AR (M:=MX) (fid:=158) (N:=58) (C:=AH MX) (c:=AQ Tryz.f158 0) (n:=ps.length)
        (fun j (_:Unit)=>([(0,lv),(5,.hp 1 0),(7,w),(8,.int .i64 i),(9,.int .i64 j)],[Blk.var false [AV.int .i64 t.k,AV.int .i64 t.v,AV.str t.nm,pv],Blk.var false [AV.int .i64 2,AV.int .i64 v,AV.str nm,qv]]))
        (fun j _=>ET ss[i] ps=ET (ss[i].drop j) (ps.drop j))
        (fun r=>(r=(.ext 0,([(0,lv),(5,.hp 1 0),(7,w),(8,.int .i64 i),(9,.int .i64 ps.length),(36,.bool false)],[Blk.var false [AV.int .i64 t.k,AV.int .i64 t.v,AV.str t.nm,pv],Blk.var false [AV.int .i64 2,AV.int .i64 v,AV.str nm,qv]]))∧ET ss[i] ps=0) ∨
          (r=(.ret,([(6,.int .i64 (ET ss[i] ps))],[Blk.var false [AV.int .i64 t.k,AV.int .i64 t.v,AV.str t.nm,pv],Blk.var false [AV.int .i64 2,AV.int .i64 v,AV.str nm,qv]])))) (fun j b hj hJ=>by
          have hjf:j<(AP l t)[i].fields.length:=by omega
          have hjs:j<ss[i].length:=by omega
          obtain ⟨fe,hfe,hfR⟩:=hfv.ix hjf
          obtain ⟨pe,hpe,hpR⟩:=hq.ix hj
          have hj':=AY hj
          have hwj:=AX hj s2
          have hmf:=List.getElem_mem hjf
          obtain ⟨tx,rfl,htx⟩:=hfR
          have hrec:=ih ps[j] (List.getElem_mem hj) pe hpR (s3 _ (List.getElem_mem hj)) ss[i][j] (AP l t)[i].fields[j].ty tx htx (hsc.2.2 _ hmf).2 (hvf _ (List.getElem_mem hi) _ hmf) (hf0 i _ _ j _ _ (List.getElem?_eq_getElem hi) (List.getElem?_eq_getElem hi2) (List.getElem?_eq_getElem hjf) (List.getElem?_eq_getElem hjs))
          obtain ⟨q1,rfl,hq1⟩:=htx.AW
          obtain ⟨q2,rfl,hq2⟩:=hpR.AW
          rw [Kv hj hjs] at hJ
          by_cases h0:CW ss[i][j] ps[j]=0
          ·rw [if_pos h0] at hJ
           exact .inl ⟨(),by simp [Tryz.f158,hq.len,hj',hce,hfe,hpe,hrec,h0,hwj,hb12,AG,AV.AD,hl.AD,hq1.AD,hq2.AD],hJ⟩
          ·rw [if_neg h0] at hJ
           have hne:(CW ss[i][j] ps[j] != 0)=true:=by simp [h0]
           exact .inr ⟨_,_,by simp [Tryz.f158,hq.len,hj',hce,hfe,hpe,hrec,hne,hb12,AG,AV.AD,hl.AD,hq1.AD,hq2.AD] <;> first | exact ⟨rfl,rfl⟩ | rfl,by simp,.inr (by rw [hJ])⟩) (fun b hJ=>by
          rw [List.drop_length] at hJ
          simp only [ET] at hJ
          exact ⟨_,_,by simp [Tryz.f158,hq.len] <;> first | exact ⟨rfl,rfl⟩ | rfl,by simp,.inl ⟨rfl,hJ⟩⟩) () (by simp)
       simp [Tryz.f158] at hlp
       rcases hq0 with ⟨hq0,hz⟩ | hq0 <;> cases hq0
       ·exact ⟨_,by simp [AN,Tryz.f158,hB,hb,h68,h72,hf,ixI,hi0,hce,hq.len,hfv.len,hq.Ds,hfv.Ds,hb7,hL,hlp,hz] <;> rfl⟩
       ·exact ⟨_,by simp [AN,Tryz.f158,hB,hb,h68,h72,hf,ixI,hi0,hce,hq.len,hfv.len,hq.Ds,hfv.Ds,hb7,hL,hlp] <;> rfl⟩
      ·have hL':((ps.length:Int) != ((AP l t)[i].fields.length:Int))=true:=by simp;omega
       exact ⟨_,by simp [AN,Tryz.f158,hB,hb,h68,h72,hf,ixI,hi0,hce,hq.len,hfv.len,hq.Ds,hfv.Ds,hb7,hL',hL] <;> rfl⟩
    exact Ai NT P8 hn rfl hc h
  have hb16:=Q7
  simp [BD,BP,Tryz.f87] at hb16
  have htx:=hx
  obtain ⟨qv,rfl,hq⟩:=hpx.dest
  obtain ⟨pv,rfl,hp⟩:=hx.AW
  refine Ai VR YM hn rfl (hr:=[Blk.var false [AV.int .i64 t.k,AV.int .i64 t.v,AV.str t.nm,pv],Blk.var false [AV.int .i64 k,AV.int .i64 v,AV.str nm,qv]]) ?_ h
  by_cases k2:k=2
  ·subst k2
   simp [AN,Tryz.f87,h158 rfl]
  simp only [CW]
  by_cases k0:k=0
  ·subst k0
   by_cases hL:0<ps.length
   ·have hL':(0<(ps.length:Int)):=by omega
    simp [AN,Tryz.f87,hq.len,hL',hL]
   ·have hL':¬ (0<(ps.length:Int)):=by omega
    simp [AN,Tryz.f87,hq.len,hL',hL]
  ·have k0':(k == 0)=false:=by simp [k0]
   by_cases k1:k=1
   ·subst k1
    by_cases hL:0<ps.length
    ·have hL':(0<(ps.length:Int)):=by omega
     simp [AN,Tryz.f87,hq.len,hL',hL]
    ·have hL':¬ (0<(ps.length:Int)):=by omega
     cases hN0:A6 nm <;> simp [AN,Tryz.f87,hq.len,hL',hL,hNm,hN0]
   ·have k1':(k == 1)=false:=by simp [k1]
    by_cases k3:k=3
    ·subst k3
     cases hs with
     | cons _ ns ss hb _ _ _ _ _=>simp [AN,Tryz.f87,hB,hb]
     | bit _ hb hw=>
      have hb1:=hok.bit t hv hb
      obtain ⟨e,he,hR⟩:=hp.ix (i:=0) (by omega)
      have hag:A8 t=t.ps[0]'(by omega):=by simp [A8,hb1]
      rw [← hag] at hR
      obtain ⟨qv2,rfl,hq2⟩:=hR.AW
      simp only [Int.natCast_zero] at he
      have hF:=c121 v (A8 t).v (by omega) (by omega)
      by_cases hL:0<ps.length
      ·have hL':(0<(ps.length:Int)):=by omega
       simp [AN,Tryz.f87,hB,hb,hq.len,hL',hL]
      ·have hL':¬ (0<(ps.length:Int)):=by omega
       have e:∀ x,(if (3:Int)=0 then (if 0<ps.length then 10 else 0) else if (3:Int)=1 then (if 0<ps.length then 10 else if A6 nm=false then 4 else 0) else if (3:Int)=3 then (match Sh.bit (A8 t).v with
         | .bit n=>if 0<ps.length then 10 else if 0≤v∧v≤((2 ^ n.toNat:Nat):Int) - 1 then 0 else 2
         | .cons _ _=>26) else x)=if 0≤v∧v≤((2 ^ (A8 t).v.toNat:Nat):Int) - 1 then (0:Int) else 2:=fun x=>by
        rw [if_neg (by decide),if_neg (by decide),if_pos rfl]
        show (if 0<ps.length then (10:Int) else _)=_
        rw [if_neg hL]
       have hgoal:∀ b:Bool,b=decide (0≤v∧v≤((2 ^ (A8 t).v.toNat:Nat):Int) - 1)→AN MX 87 [lv,AV.agg [AV.int .i64 t.k,AV.int .i64 t.v,AV.str t.nm,pv],AV.agg [AV.int .i64 3,AV.int .i64 v,AV.str nm,qv]] []=some (.ret (.int .i64 (if b then 0 else 2)),[Blk.var false [AV.int .i64 t.k,AV.int .i64 t.v,AV.str t.nm,pv],Blk.var false [AV.int .i64 3,AV.int .i64 v,AV.str nm,qv]]):=fun b hb2=>by
        rw [← hb2] at hF
        cases b <;> simp [AN,Tryz.f87,hB,hb,hq.len,hL',hL,he,hF,hb16,AV.AD]
       have h5:=hgoal _ rfl
       rw [h5]
       refine congrArg (fun z=>some (CR.ret (AV.int .i64 z),_)) ?_
       by_cases hr:0≤v∧v≤((2 ^ (A8 t).v.toNat:Nat):Int) - 1
       ·rw [decide_eq_true hr];exact ((e _).trans (if_pos hr)).symm
       ·rw [decide_eq_false hr];exact ((e _).trans (if_neg hr)).symm
    ·have k3':(k == 3)=false:=by simp [k3]
     have k2':(k == 2)=false:=by simp [k2]
     simp [AN,Tryz.f87,k0',k1',k2',k3',k0,k1,k2,k3]
end
mutual
def BB:TyV→List Bytes
 | .mk k _ nm ps=>if k=1 then [nm] else BV ps
def BV:List TyV→List Bytes
 | []=>[]
 | p::r=>BB p++BV r
end
theorem F5:∀ (a b:List TyV),BV (a++b)=BV a++BV b
 | [],b=>rfl
 | p::r,b=>by simp [BV,F5 r b]
theorem Gp {ps:List TyV} {i:Nat} (hi:i<ps.length):BV (ps.take (i+1))=BV (ps.take i)++BB ps[i]:=by
 rw [← Bf hi,F5]
 simp [BV]
theorem HT (ps:List TyV) (i:Nat):(BV (ps.take i)).length≤(BV ps).length:=by
 have:=congrArg List.length (F5 (ps.take i) (ps.drop i))
 rw [List.take_append_drop] at this
 simp at this
 omega
theorem HZ {ps:List TyV} {p:TyV} (hp:p∈ps):(BB p).length≤(BV ps).length:=by
 obtain ⟨i,hi,rfl⟩:=List.getElem_of_mem hp
 have:=HT ps (i+1)
 rw [Gp hi] at this
 simp at this
 omega
theorem RT {α:Type} {R:α→List AV→Prop} {l m:List α} {es xs:List (List AV)} (hl:es.length=l.length) (hr:∀ (i:Nat) a e,l[i]? = some a→es[i]? = some e→R a e) (hl2:xs.length=m.length) (hr2:∀ (i:Nat) a e,m[i]? = some a→xs[i]? = some e→R a e) :
  (es++xs).length=(l++m).length∧∀ (i:Nat) a' e',(l++m)[i]? = some a'→(es++xs)[i]? = some e'→R a' e':=by
 refine ⟨by simp [hl,hl2],fun i a' e' h1 h2 => ?_⟩
 by_cases hi:i<l.length
 ·rw [List.getElem?_append_left hi] at h1
  rw [List.getElem?_append_left (by omega)] at h2
  exact hr i a' e' h1 h2
 ·rw [List.getElem?_append_right (by omega)] at h1
  rw [List.getElem?_append_right (by omega)] at h2
  rw [hl] at h2
  exact hr2 _ a' e' h1 h2
theorem QQ {sz byt:Nat} {P rest:AE} {a:AV} {es xs:List (List AV)} {x:AV} (h:Af sz P.length rest a es) (hx:Ay (P++rest) x=some xs) (hs:CG sz x=true) (hnx:∀ b,x≠.str b) (h0:0<sz) (hb:byt≤1024) (hn:es.length+xs.length<16777216) :
  ∃ a' rest',apA sz byt a x (P++rest)=some (a',P++rest')∧Af sz P.length rest' a' (es++xs):=by
 by_cases he:xs=[]
 ·subst he
  refine ⟨a,rest,?_,by simpa using h⟩
  have hbb:(es.length+0) * byt≤17592186044416:=Nat.le_trans (Nat.mul_le_mul (show es.length+0≤16777216 by simp at hn;omega) hb) (by decide)
  have hap:∀ n,FO a=some n→apA sz byt a x (P++rest)=apX sz byt a [] n (P++rest):=fun n hl=>by
   unfold apA
   cases x with
   | str b=>exact absurd rfl (hnx b)
   | _=>first | simp only [hs,hx,hl] | (simp only [Ay] at hx;cases hx)
  rcases h with ⟨rfl,rfl⟩ | ⟨j,hne,rfl,h2⟩
  ·rw [hap 0 rfl]
   have e1:CG sz AV.AI=true:=rfl
   simp [apX,e1,h0]
  ·rw [hap es.length rfl]
   have e1:CG sz (.hs (P.length+j) es.length sz 0 es.length false)=true:=by simp [CG,BT]
   simp only [Nat.add_zero] at hbb
   simp only [List.length_nil,Nat.add_zero] at hn
   simp [apX,e1,h0,hbb,show es.length≤17592186044416 by omega]
 ·exact h.XN hx hs hnx he h0 hb hn
theorem _root_.Go.Am.SlR.nstr {α:Type} {R:α→List AV→Prop} {sz:Nat} {l:List α} {v:AV} (hv:SlR R sz l v):∀ b,v≠.str b:=fun b e=>by subst e;rcases hv with ⟨_,e⟩ | ⟨_,_,e,_⟩ <;> cases e
theorem c88 (p:TyV):∀ (px:List AV),AU p px→Sm 1048577 p→(BB p).length<1048577→∃ w,SlR Bx 1 (BB p) w∧∀ h,AK MX (AH MX) 88 [.agg px] h=some (.ret w,h):=by
 induction p using TyV.ind with
 | h k v nm ps ih=>
  intro px hpx hsp hlen
  have hn:([AV.agg px]:List AV).all AV.AD=true:=by simp [AV.AD,hpx.AG]
  obtain ⟨s1,s2,s3⟩:=hsp.dest
  obtain ⟨qv,rfl,hq⟩:=hpx.dest
  by_cases k1:k=1
  ·subst k1
   refine ⟨.sl 1 true [[.str nm]],?_,fun h=>Ai Pw Sl hn rfl (hr:=[Blk.var false [AV.int .i64 1,AV.int .i64 v,AV.str nm,qv]]) (by simp [AN,Tryz.f88,bsA,Ar,List.replicate,AG,AV.AD]) h⟩
   simp only [BB,if_true]
   exact .inr ⟨true,_,rfl,rfl,fun i a e h1 h2=>by
    cases i with
    | zero=>simp at h1 h2;subst h1;subst h2;rfl
    | succ i=>simp at h1⟩
  ·have k1':(k == 1)=false:=by simp [k1]
   have hnm:BB (.mk k v nm ps)=BV ps:=by simp [BB,k1]
   rw [hnm] at hlen ⊢
   obtain ⟨e,st,hlp,hq0⟩:=AR (M:=MX) (fid:=88) (N:=27) (C:=AH MX) (c:=AQ Tryz.f88 0) (n:=ps.length)
    (fun i (b:AV×AE×List (List AV))=>([(1,.hp 0 0),(3,b.1),(4,.int .i64 i)],Blk.var false [AV.int .i64 k,AV.int .i64 v,AV.str nm,qv]::b.2.1))
    (fun i b=>Af 1 1 b.2.1 b.1 b.2.2∧b.2.2.length=(BV (ps.take i)).length∧∀ (j:Nat) t e,(BV (ps.take i))[j]? = some t→b.2.2[j]? = some e→Bx t e)
    (fun r=>∃ b:AV×AE×List (List AV),r=(.ext 0,([(1,.hp 0 0),(3,b.1),(4,.int .i64 ps.length),(15,.bool false)],Blk.var false [AV.int .i64 k,AV.int .i64 v,AV.str nm,qv]::b.2.1)) ∧
      Af 1 1 b.2.1 b.1 b.2.2∧b.2.2.length=(BV ps).length∧∀ (j:Nat) t e,(BV ps)[j]? = some t→b.2.2[j]? = some e→Bx t e) (fun i b hi hI=>by
      obtain ⟨a,rest,es⟩:=b
      obtain ⟨i1,i2,i3⟩:=hI
      simp only at i1 i2 i3
      obtain ⟨e,he,hR⟩:=hq.ix hi
      have hi':=AY hi
      have hw:=AX hi s2
      have hml:=HZ (List.getElem_mem hi)
      obtain ⟨w,hwr,hcall⟩:=ih ps[i] (List.getElem_mem hi) e hR (s3 _ (List.getElem_mem hi)) (by omega)
      obtain ⟨xs,x1,x2,x3,x4⟩:=hwr.rd ([Blk.var false [AV.int .i64 k,AV.int .i64 v,AV.str nm,qv]]++rest)
      obtain ⟨j1,j2⟩:=RT i2 i3 x3 x4
      rw [← Gp hi] at j1 j2
      have htl:=HT ps i
      obtain ⟨a',rest',hap,hacc⟩:=QQ (byt:=16) (P:=[Blk.var false [AV.int .i64 k,AV.int .i64 v,AV.str nm,qv]]) i1 x1 x2 hwr.nstr (by decide) (by decide) (by omega)
      simp only [List.cons_append,List.nil_append] at hap
      obtain ⟨q1,rfl,hq1⟩:=hR.AW
      exact .inl ⟨(a',rest',es++xs),by simp [Tryz.f88,hq.len,hi',he,hcall,hap,hw],hacc,j1,j2⟩) (fun b hI=>by
      obtain ⟨a,rest,es⟩:=b
      obtain ⟨i1,i2,i3⟩:=hI
      rw [List.take_length] at i2 i3
      exact ⟨_,_,by simp [Tryz.f88,hq.len] <;> first | exact ⟨rfl,rfl⟩ | rfl,by simp,(a,rest,es),rfl,i1,i2,i3⟩) (.AI,[],[]) ⟨.nil _ _ _,by simp [BV],fun j t e h=>by simp [BV] at h⟩
   obtain ⟨⟨a,rest,es⟩,hq0,i1,i2,i3⟩:=hq0
   cases hq0
   simp [Tryz.f88] at hlp
   obtain ⟨v',rest',hsn,hrep,heq⟩:=Gk (P:=[Blk.var false [AV.int .i64 k,AV.int .i64 v,AV.str nm,qv]]) IY i1 i2 i3
   exact ⟨v',hrep,fun h=>QP Pw Sl hn hsn (by decide) hrep.AD heq (by simp [AN,Tryz.f88,k1',hlp]) h⟩
theorem O9 (t:TyV):∀ d c,0≤c→EN t d c≤200→c+(BB t).length≤EN t d c:=by
 induction t using TyV.ind with
 | h k v nm ps ih=>
  intro d c h0 h
  have key:∀ (l:List TyV),(∀ p∈l,p∈ps)→∀ d c,0≤c→Bd l d c≤200→c+(BV l).length≤Bd l d c:=by
   intro l
   induction l with
   | nil=>intro _ d c h0 h;simp [Bd,BV]
   | cons p r ihr=>
    intro hm d c h0 h
    simp only [Bd,BV,List.length_append] at h ⊢
    split
    ·rename_i hc
     rw [if_pos hc] at h
     have hp:=hm p (by simp)
     have hle:EN p d c≤200:=by
      cases r with
      | nil=>simpa [Bd] using h
      | cons q r=>simp only [Bd] at h;split at h <;> omega
     have h1:=ih p hp d c h0 hle
     have h2:=ihr (fun q hq=>hm q (by simp [hq])) d (EN p d c) (by omega) h
     omega
    ·rename_i hc;rw [if_neg hc] at h;omega
  simp only [EN] at h ⊢
  split
  ·rename_i hc;rw [if_pos hc] at h;omega
  ·rename_i hc
   rw [if_neg hc] at h
   have:=key ps (fun _ h=>h) (d+1) (c+1) (by omega) h
   simp only [BB]
   split
   ·have:∀ (l:List TyV) d c,c≤Bd l d c∨200<Bd l d c:=by
     intro l
     induction l with
     | nil=>intro d c;left;simp [Bd]
     | cons p r ihr=>
      intro d c
      simp only [Bd]
      split
      ·have hpm:∀ (p:TyV) d c,c≤EN p d c∨200<EN p d c:=by
        intro p
        induction p using TyV.ind with
        | h k v nm qs ihq=>
         intro d c
         simp only [EN]
         split
         ·right;omega
         ·have key2:∀ (l:List TyV),(∀ p∈l,p∈qs)→∀ d c,c≤Bd l d c∨200<Bd l d c:=by
           intro l
           induction l with
           | nil=>intro _ d c;left;simp [Bd]
           | cons p r ihr2=>
            intro hm d c
            simp only [Bd]
            split
            ·rcases ihq p (hm p (by simp)) d c with h1 | h1 <;> rcases ihr2 (fun q hq=>hm q (by simp [hq])) d (EN p d c) with h2 | h2 <;> omega
            ·left;omega
          rcases key2 qs (fun _ h=>h) (d+1) (c+1) with h1 | h1 <;> omega
       rcases hpm p d c with h1 | h1 <;> rcases ihr d (EN p d c) with h2 | h2 <;> omega
      ·left;omega
    rcases this ps (d+1) (c+1) with h1 | h1
    ·simp;omega
    ·omega
   ·omega
theorem JM {t:TyV} (h:BE t=true):(BB t).length≤200:=by
 unfold BE at h
 have:=O9 t 1 0 (by decide) (of_decide_eq_true h)
 have:=of_decide_eq_true h
 omega
def IP:List Bytes→List Bytes→Bool
 | _,[]=>false
 | prev,x::r=>(prev.findIdx? (fun y=>y == x)).isSome||IP (prev++[x]) r
def E9 (s:Sh) (p:TyV):Int:=if BE p=false then 8 else if CW s p=0 then (if IP [] (BB p) then 23 else 0) else CW s p
section
variable {l:List AO} {lv:AV} (hl:SlR Ab 3 l lv) (hsl:SmL 1048577 l) (hok:DOK l)
include hl hsl hok
theorem c35 {p:TyV} {px:List AV} (hpx:AU p px) (hsp:Sm 1048577 p) {s:Sh} {t:TyV} {xs:List AV} (hx:AU t xs) (hst:Sm 1048577 t) (hv:VT l t) (hs:CD l t s) (h:AE) :
  AK MX (AH MX) 35 [lv,.agg xs,.agg px] h=some (.ret (.int .i64 (E9 s p)),h):=by
 have hn:([lv,AV.agg xs,AV.agg px]:List AV).all AV.AD=true:=by simp [AV.AD,hx.AG,hl.AD,hpx.AG]
 have h86:=c86 hpx hsp
 have h87:=c87 hl hsl hok p px hpx hsp s t xs hx hst hv hs
 have h88:=c88 p px hpx hsp
 have hb10:=Q1
 simp [BD,BP,Tryz.f35] at hb10
 obtain ⟨pv,rfl,hp⟩:=hx.AW
 obtain ⟨qv,rfl,hq⟩:=hpx.AW
 obtain ⟨hr,hc⟩:∃ hr,AN MX 35 [lv,.agg [.int .i64 t.k,.int .i64 t.v,.str t.nm,pv],.agg [.int .i64 p.k,.int .i64 p.v,.str p.nm,qv]] []=some (.ret (.int .i64 (E9 s p)),hr):=by
  unfold E9
  cases hT:BE p with
  | false=>exact ⟨_,by simp [AN,Tryz.f35,h86,hT] <;> rfl⟩
  | true=>
   by_cases h0:CW s p=0
   ·have hln:=JM hT
    obtain ⟨w,hw,hcall⟩:=h88 (by omega)
    obtain ⟨e,st,hlp,hq0⟩:=AR (M:=MX) (fid:=35) (N:=36) (C:=AH MX) (c:=AQ Tryz.f35 0) (n:=(BB p).length)
     (fun i (_:Unit)=>([(8,w),(9,.int .i64 i)],[Blk.var false [AV.int .i64 t.k,AV.int .i64 t.v,AV.str t.nm,pv],Blk.var false [AV.int .i64 p.k,AV.int .i64 p.v,AV.str p.nm,qv]]))
     (fun i _=>IP [] (BB p)=IP ((BB p).take i) ((BB p).drop i))
     (fun r=>(r=(.ext 0,([(8,w),(9,.int .i64 (BB p).length),(25,.bool false)],[Blk.var false [AV.int .i64 t.k,AV.int .i64 t.v,AV.str t.nm,pv],Blk.var false [AV.int .i64 p.k,AV.int .i64 p.v,AV.str p.nm,qv]]))∧IP [] (BB p)=false) ∨
       (r=(.ret,([(6,.int .i64 23)],[Blk.var false [AV.int .i64 t.k,AV.int .i64 t.v,AV.str t.nm,pv],Blk.var false [AV.int .i64 p.k,AV.int .i64 p.v,AV.str p.nm,qv]]))∧IP [] (BB p)=true)) (fun i b hi hI=>by
       obtain ⟨e,he,hR⟩:=hw.ix hi
       have hi':=AY hi
       have hwi:=AX hi (by omega)
       cases hR
       obtain ⟨w2,hw1,hw2⟩:=hw.slice (Nat.le_of_lt hi)
       have hH:=c89 (BB p)[i] hw2 (by simp;omega)
       have hdr:(BB p).drop i=(BB p)[i]::(BB p).drop (i+1):=List.drop_eq_getElem_cons hi
       rw [hdr] at hI
       simp only [IP] at hI
       rw [Bf hi] at hI
       cases hH0:(((BB p).take i).findIdx? (fun x=>x == (BB p)[i])).isSome with
       | true=>
        rw [hH0] at hI
        simp only [hH0] at hH
        exact .inr ⟨_,_,by simp [Tryz.f35,hw.len,hi',he,hw1,hw2.AD,hH,hb10,AV.AD] <;> first | exact ⟨rfl,rfl⟩ | rfl,by simp,.inr ⟨rfl,by rw [hI];rfl⟩⟩
       | false=>
        rw [hH0] at hI
        simp only [hH0] at hH
        exact .inl ⟨(),by simp [Tryz.f35,hw.len,hi',he,hw1,hw2.AD,hH,hb10,AV.AD,hwi],by simpa using hI⟩) (fun b hI=>by
       rw [List.drop_length] at hI
       exact ⟨_,_,by simp [Tryz.f35,hw.len] <;> first | exact ⟨rfl,rfl⟩ | rfl,by simp,.inl ⟨rfl,hI⟩⟩) () (by simp)
    simp [Tryz.f35] at hlp
    rcases hq0 with ⟨hq0,hd⟩ | ⟨hq0,hd⟩ <;> cases hq0
    ·exact ⟨_,by simp [AN,Tryz.f35,h86,hT,h87,h0,hcall,hlp,hd] <;> rfl⟩
    ·exact ⟨_,by simp [AN,Tryz.f35,h86,hT,h87,h0,hcall,hlp,hd] <;> rfl⟩
   ·have hne:(CW s p != 0)=true:=by simp [h0]
    exact ⟨_,by simp [AN,Tryz.f35,h86,hT,h87,hne,h0] <;> rfl⟩
 exact Ai VC X6 hn rfl hc h
end
def OKF (l:List AO):Prop:=(Ao l).2=0→DOK l∧∀ t,VT l t→t.k≠2→Cv t=false→(AP l t).length≤16
noncomputable def Cx (l:List AO) (t:TyV):Int:=if (Ao l).2=0 then FK l t else (Ao l).2
theorem Fx {l:List AO} {t:TyV} (h:Cx l t=0):(Ao l).2=0∧VT l t∧CD l t (BQ l t):=by
 unfold Cx at h
 split at h
 ·rename_i h1
  unfold FK at h
  split at h
  ·rename_i h2
   split at h
   ·rename_i h3
    obtain ⟨s,hs⟩:=IG l 40 t 0 h3
    refine ⟨h1,?_,by rw [HS hs];exact hs⟩
    unfold BU at h2
    split at h2
    ·exact h2
    ·cases h2
   ·rename_i h3;exact absurd h h3
  ·rename_i h2;exact absurd h h2
 ·rename_i h1;exact absurd h h1
def Fy (s:Sh):Nat→List TyV→Int×Int
 | _,[]=>(0,0)
 | i,p::r=>if E9 s p=0 then Fy s (i+1) r else (i,E9 s p)
noncomputable def Ak (l:List AO) (t:TyV) (arms:List TyV):Int×Int:=
 if Cx l t=0 then (if arms.length=0 then (0,10) else if 12<arms.length then (0,8) else Fy (BQ l t) 0 arms) else (0,Cx l t)
theorem C1.dest {k:C0} {xs:List AV} (h:C1 k xs):∃ dv pv av,xs=[dv,.int .i64 k.ty.k,.int .i64 k.ty.v,.str k.ty.nm,pv,av]∧SlR Ab 3 k.data dv∧SlR AU 4 k.ty.ps pv∧AU k.ty [.int .i64 k.ty.k,.int .i64 k.ty.v,.str k.ty.nm,pv]∧SlR AU 4 k.arms av:=by
 obtain ⟨dv,tx,av,rfl,h1,h2,h3⟩:=h
 have h2':=h2
 obtain ⟨pv,rfl,hp⟩:=h2.AW
 exact ⟨dv,pv,av,rfl,h1,hp,h2',h3⟩
section
variable {l:List AO} {lv:AV} (hl:SlR Ab 3 l lv) (hsl:SmL 1048577 l) (hokf:OKF l)
include hl hsl hokf
theorem c34 {t:TyV} {xs:List AV} (hx:AU t xs) (hst:Sm 1048577 t) (h:AE):AK MX (AH MX) 34 [lv,.agg xs] h=some (.ret (.int .i64 (Cx l t)),h):=by
 have hn:([lv,AV.agg xs]:List AV).all AV.AD=true:=by simp [AV.AD,hx.AG,hl.AD]
 have h84:=c84 hl hsl
 have h85:=fun hok hlen=>c85 hl hsl hok hlen hx hst
 obtain ⟨pv,rfl,hp⟩:=hx.AW
 refine Ai VB X5 hn rfl (hr:=[Blk.var false [AV.int .i64 t.k,AV.int .i64 t.v,AV.str t.nm,pv]]) ?_ h
 unfold Cx
 by_cases h0:(Ao l).2=0
 ·obtain ⟨hok,hlen⟩:=hokf h0
  simp [AN,Tryz.f34,h84,h0,h85 hok hlen]
 ·have hne:((Ao l).2 != 0)=true:=by simp [h0]
  simp [AN,Tryz.f34,h84,h0,hne]
end
theorem c32 {k:C0} {xs:List AV} (hx:C1 k xs) (hsk:SmT 1048577 k) (hokf:OKF k.data) (h:AE):AK MX (AH MX) 32 [.agg xs] h=some (.ret (.tup [.int .i64 (Ak k.data k.ty k.arms).1,.int .i64 (Ak k.data k.ty k.arms).2]),h):=by
 obtain ⟨dv,pv,av,rfl,hd,hp,ht,ha⟩:=hx.dest
 obtain ⟨s1,s2,s3,s4⟩:=hsk
 have hn:([AV.agg [dv,.int .i64 k.ty.k,.int .i64 k.ty.v,.str k.ty.nm,pv,av]]:List AV).all AV.AD=true:=by simp [AV.AD,AG,hd.AD,hp.AD,ha.AD]
 have h34:=c34 hd s1 hokf ht s2
 have hb11:=Qz
 simp [BD,BP,Tryz.f32] at hb11
 refine Ai VA X4 hn rfl (hr:=[Blk.var false [dv,.int .i64 k.ty.k,.int .i64 k.ty.v,.str k.ty.nm,pv,av]]) ?_ h
 unfold Ak
 by_cases h0:Cx k.data k.ty=0
 ·obtain ⟨c1,c2,c3⟩:=Fx h0
  obtain ⟨hok,hlen⟩:=hokf c1
  by_cases ha0:k.arms.length=0
  ·have ha0':((k.arms.length:Int) == 0)=true:=by simp only [beq_iff_eq];omega
   simp [AN,Tryz.f32,h34,h0,ha.len,ha0',ha0]
  ·have ha0':((k.arms.length:Int) == 0)=false:=by rw [beq_eq_false_iff_ne];omega
   by_cases ha12:12<k.arms.length
   ·have ha12':(12<(k.arms.length:Int)):=by omega
    simp [AN,Tryz.f32,h34,h0,ha.len,ha0',ha0,ha12,ha12']
   ·have ha12':¬ (12<(k.arms.length:Int)):=by omega
    obtain ⟨e,st,hlp,hq0⟩:=AR (M:=MX) (fid:=32) (N:=44) (C:=AH MX) (c:=AQ Tryz.f32 0) (n:=k.arms.length)
     (fun i (_:Unit)=>([(1,.hp 0 0),(5,.int .i64 i)],[Blk.var false [dv,.int .i64 k.ty.k,.int .i64 k.ty.v,.str k.ty.nm,pv,av]]))
     (fun i _=>Fy (BQ k.data k.ty) 0 k.arms=Fy (BQ k.data k.ty) i (k.arms.drop i))
     (fun r=>(r=(.ext 0,([(1,.hp 0 0),(5,.int .i64 k.arms.length),(27,.bool false)],[Blk.var false [dv,.int .i64 k.ty.k,.int .i64 k.ty.v,.str k.ty.nm,pv,av]]))∧Fy (BQ k.data k.ty) 0 k.arms=(0,0)) ∨
       (r=(.ret,([(2,.int .i64 (Fy (BQ k.data k.ty) 0 k.arms).1),(3,.int .i64 (Fy (BQ k.data k.ty) 0 k.arms).2)],[Blk.var false [dv,.int .i64 k.ty.k,.int .i64 k.ty.v,.str k.ty.nm,pv,av]])))) (fun i b hi hI=>by
       obtain ⟨e,he,hR⟩:=ha.ix hi
       have hi':=AY hi
       have hwi:=AX hi s3
       have h35:=c35 hd s1 hok hR (s4 _ (List.getElem_mem hi)) ht s2 c2 c3
       obtain ⟨qv,rfl,hq⟩:=hR.AW
       have hdr:k.arms.drop i=k.arms[i]::k.arms.drop (i+1):=List.drop_eq_getElem_cons hi
       rw [hdr] at hI
       simp only [Fy] at hI
       by_cases hz:E9 (BQ k.data k.ty) k.arms[i]=0
       ·rw [if_pos hz] at hI
        exact .inl ⟨(),by simp [Tryz.f32,ha.len,hi',he,h35,hz,hwi,hb11,AG,AV.AD,hd.AD,hp.AD,hq.AD],hI⟩
       ·rw [if_neg hz] at hI
        have hne:(E9 (BQ k.data k.ty) k.arms[i] != 0)=true:=by simp [hz]
        exact .inr ⟨_,_,by simp [Tryz.f32,ha.len,hi',he,h35,hne,hb11,AG,AV.AD,hd.AD,hp.AD,hq.AD] <;> first | exact ⟨rfl,rfl⟩ | rfl,by simp,.inr (by rw [hI])⟩) (fun b hI=>by
       rw [List.drop_length] at hI
       exact ⟨_,_,by simp [Tryz.f32,ha.len] <;> first | exact ⟨rfl,rfl⟩ | rfl,by simp,.inl ⟨rfl,hI⟩⟩) () (by simp)
    simp [Tryz.f32] at hlp
    rcases hq0 with ⟨hq0,hz⟩ | hq0 <;> cases hq0
    ·simp [AN,Tryz.f32,h34,h0,ha.len,ha0',ha0,ha12,ha12',hlp,hz]
    ·simp [AN,Tryz.f32,h34,h0,ha.len,ha0',ha0,ha12,ha12',hlp]
 ·have hne:(Cx k.data k.ty != 0)=true:=by simp [h0]
  simp [AN,Tryz.f32,h34,h0,hne]
def Gq (c:Bb):Bool:=decide (c.fields.length≤12)&&c.fields.all fun f=>BE f.ty
def GY (d:AO):Bool:=decide (d.cons.length≤20)&&decide (d.params.length≤12)&&d.cons.all Gq
def PA (k:C0):Bool:=decide (k.data.length≤24)&&decide (k.arms.length≤16)&&k.data.all GY
theorem Kw {α:Type} {p:α→Bool} {l:List α} {i:Nat} (hi:i<l.length):(l.drop i).all p=(p l[i]&&(l.drop (i+1)).all p):=by
 rw [List.drop_eq_getElem_cons hi,List.all_cons]
theorem c11 {k:C0} {xs:List AV} (hx:C1 k xs) (hsk:SmT 1048577 k) (h:AE):AK MX (AH MX) 11 [.agg xs] h=some (.ret (.bool (PA k)),h):=by
 obtain ⟨dv,pv,av,rfl,hd,hp,ht,ha⟩:=hx.dest
 obtain ⟨s1,s2,s3,s4⟩:=hsk
 have hn:([AV.agg [dv,.int .i64 k.ty.k,.int .i64 k.ty.v,.str k.ty.nm,pv,av]]:List AV).all AV.AD=true:=by simp [AV.AD,AG,hd.AD,hp.AD,ha.AD]
 refine Ai U4 Xu hn rfl (hr:=[Blk.var false [dv,.int .i64 k.ty.k,.int .i64 k.ty.v,.str k.ty.nm,pv,av]]) ?_ h
 unfold PA
 by_cases h24:24<k.data.length
 ·have h24':(24<(k.data.length:Int)):=by omega
  have:¬ (k.data.length≤24):=by omega
  simp [AN,Tryz.f11,hd.len,h24',this]
 ·have h24':¬ (24<(k.data.length:Int)):=by omega
  have h24i:k.data.length≤24:=by omega
  by_cases h16:16<k.arms.length
  ·have h16':(16<(k.arms.length:Int)):=by omega
   have:¬ (k.arms.length≤16):=by omega
   simp [AN,Tryz.f11,hd.len,ha.len,h24',h16',this]
  ·have h16':¬ (16<(k.arms.length:Int)):=by omega
   have h16i:k.arms.length≤16:=by omega
   let B:=Blk.var false [dv,.int .i64 k.ty.k,.int .i64 k.ty.v,.str k.ty.nm,pv,av]
   obtain ⟨e,st,hlp,hq0⟩:=AR (M:=MX) (fid:=11) (N:=79) (C:=AH MX) (c:=AQ Tryz.f11 0) (n:=k.data.length)
    (fun i (_:Unit)=>([(1,.hp 0 0),(3,.int .i64 i)],[Blk.var false [dv,.int .i64 k.ty.k,.int .i64 k.ty.v,.str k.ty.nm,pv,av]]))
    (fun i _=>k.data.all GY=(k.data.drop i).all GY)
    (fun r=>(r=(.ext 0,([(1,.hp 0 0),(3,.int .i64 k.data.length),(21,.bool false)],[Blk.var false [dv,.int .i64 k.ty.k,.int .i64 k.ty.v,.str k.ty.nm,pv,av]]))∧k.data.all GY=true) ∨
      (r=(.ret,([(2,.bool false)],[Blk.var false [dv,.int .i64 k.ty.k,.int .i64 k.ty.v,.str k.ty.nm,pv,av]]))∧k.data.all GY=false)) (fun i b hi hI=>by
      obtain ⟨e,he,hR⟩:=hd.ix hi
      have hi':=AY hi
      have hwi:=AX hi s1.1
      obtain ⟨d1,d2,d3,d4,d5⟩:=s1.2 _ (List.getElem_mem hi)
      obtain ⟨qv,cv,rfl,hqp,hcv⟩:=hR.dest
      rw [Kw hi] at hI
      by_cases h20:20<k.data[i].cons.length
      ·have h20':(20<(k.data[i].cons.length:Int)):=by omega
       have hs:GY k.data[i]=false:=by simp [GY];intro h;omega
       rw [hs,Bool.false_and] at hI
       exact .inr ⟨_,_,by simp [Tryz.f11,hd.len,hi',he,hcv.len,h20'] <;> first | exact ⟨rfl,rfl⟩ | rfl,by simp,.inr ⟨rfl,hI⟩⟩
      ·have h20':¬ (20<(k.data[i].cons.length:Int)):=by omega
       have h20i:k.data[i].cons.length≤20:=by omega
       by_cases h12:12<k.data[i].params.length
       ·have h12':(12<(k.data[i].params.length:Int)):=by omega
        have hs:GY k.data[i]=false:=by simp [GY];intro _ h;omega
        rw [hs,Bool.false_and] at hI
        exact .inr ⟨_,_,by simp [Tryz.f11,hd.len,hi',he,hcv.len,hqp.len,h20',h12'] <;> first | exact ⟨rfl,rfl⟩ | rfl,by simp,.inr ⟨rfl,hI⟩⟩
       ·have h12':¬ (12<(k.data[i].params.length:Int)):=by omega
        have h12i:k.data[i].params.length≤12:=by omega
        have hsD:GY k.data[i]=k.data[i].cons.all Gq:=by simp [GY,h20i,h12i]
        rw [hsD] at hI
        obtain ⟨e2,st2,hlp2,hq2⟩:=AR (M:=MX) (fid:=11) (N:=79) (C:=AH MX) (c:=AQ Tryz.f11 1) (n:=k.data[i].cons.length)
         (fun j (_:Unit)=>([(1,.hp 0 0),(3,.int .i64 i),(4,.int .i64 j)],[Blk.var false [dv,.int .i64 k.ty.k,.int .i64 k.ty.v,.str k.ty.nm,pv,av]]))
         (fun j _=>k.data[i].cons.all Gq=(k.data[i].cons.drop j).all Gq)
         (fun r=>(r=(.ext 2,([(1,.hp 0 0),(3,.int .i64 i),(4,.int .i64 k.data[i].cons.length),(50,.bool false)],[Blk.var false [dv,.int .i64 k.ty.k,.int .i64 k.ty.v,.str k.ty.nm,pv,av]]))∧k.data[i].cons.all Gq=true) ∨
           (r=(.ret,([(2,.bool false)],[Blk.var false [dv,.int .i64 k.ty.k,.int .i64 k.ty.v,.str k.ty.nm,pv,av]]))∧k.data[i].cons.all Gq=false)) (fun j b hj hJ=>by
           obtain ⟨ce,hce,hcR⟩:=hcv.ix hj
           have hj':=AY hj
           have hwj:=AX hj d4
           obtain ⟨c1,c2,c3⟩:=d5 _ (List.getElem_mem hj)
           obtain ⟨fv,rfl,hfv⟩:=hcR.dest
           rw [Kw hj] at hJ
           by_cases f12:12<k.data[i].cons[j].fields.length
           ·have f12':(12<(k.data[i].cons[j].fields.length:Int)):=by omega
            have hs:Gq k.data[i].cons[j]=false:=by simp [Gq];intro h;omega
            rw [hs,Bool.false_and] at hJ
            exact .inr ⟨_,_,by simp [Tryz.f11,hi',he,hcv.len,hj',hce,hfv.len,f12'] <;> first | exact ⟨rfl,rfl⟩ | rfl,by simp,.inr ⟨rfl,hJ⟩⟩
           ·have f12':¬ (12<(k.data[i].cons[j].fields.length:Int)):=by omega
            have f12i:k.data[i].cons[j].fields.length≤12:=by omega
            have hsF:Gq k.data[i].cons[j]=k.data[i].cons[j].fields.all fun f=>BE f.ty:=by simp [Gq,f12i]
            rw [hsF] at hJ
            obtain ⟨e3,st3,hlp3,hq3⟩:=AR (M:=MX) (fid:=11) (N:=79) (C:=AH MX) (c:=AQ Tryz.f11 2) (n:=k.data[i].cons[j].fields.length)
             (fun m (_:Unit)=>([(1,.hp 0 0),(3,.int .i64 i),(4,.int .i64 j),(5,fv),(6,.int .i64 m)],[Blk.var false [dv,.int .i64 k.ty.k,.int .i64 k.ty.v,.str k.ty.nm,pv,av]]))
             (fun m _=>(k.data[i].cons[j].fields.all fun f=>BE f.ty)=(k.data[i].cons[j].fields.drop m).all fun f=>BE f.ty)
             (fun r=>(r=(.ext 4,([(1,.hp 0 0),(3,.int .i64 i),(4,.int .i64 j),(5,fv),(6,.int .i64 k.data[i].cons[j].fields.length),(69,.bool false)],[Blk.var false [dv,.int .i64 k.ty.k,.int .i64 k.ty.v,.str k.ty.nm,pv,av]]))∧(k.data[i].cons[j].fields.all fun f=>BE f.ty)=true) ∨
               (r=(.ret,([(2,.bool false)],[Blk.var false [dv,.int .i64 k.ty.k,.int .i64 k.ty.v,.str k.ty.nm,pv,av]]))∧(k.data[i].cons[j].fields.all fun f=>BE f.ty)=false)) (fun m b hm hM=>by
               obtain ⟨fe,hfe,hfR⟩:=hfv.ix hm
               have hm':=AY hm
               have hwm:=AX hm c2
               obtain ⟨f1,f2⟩:=c3 _ (List.getElem_mem hm)
               obtain ⟨tx,rfl,htx⟩:=hfR
               have hT:=c59 htx f2
               obtain ⟨q1,rfl,hq1⟩:=htx.AW
               rw [Kw hm] at hM
               cases hT0:BE k.data[i].cons[j].fields[m].ty with
               | false=>
                rw [hT0,Bool.false_and] at hM
                exact .inr ⟨_,_,by simp [Tryz.f11,hfv.len,hm',hfe,hT,hT0] <;> first | exact ⟨rfl,rfl⟩ | rfl,by simp,.inr ⟨rfl,hM⟩⟩
               | true=>
                rw [hT0,Bool.true_and] at hM
                exact .inl ⟨(),by simp [Tryz.f11,hfv.len,hm',hfe,hT,hT0,hwm],hM⟩) (fun b hM=>by
               rw [List.drop_length] at hM
               exact ⟨_,_,by simp [Tryz.f11,hfv.len] <;> first | exact ⟨rfl,rfl⟩ | rfl,by simp,.inl ⟨rfl,by rw [hM];rfl⟩⟩) () (by simp)
            simp [Tryz.f11] at hlp3
            rcases hq3 with ⟨hq3,hz⟩ | ⟨hq3,hz⟩ <;> cases hq3
            ·rw [hz,Bool.true_and] at hJ
             exact .inl ⟨(),by simp [Tryz.f11,hi',he,hcv.len,hj',hce,hfv.len,f12',hlp3,hwj],hJ⟩
            ·rw [hz,Bool.false_and] at hJ
             exact .inr ⟨_,_,by simp [Tryz.f11,hi',he,hcv.len,hj',hce,hfv.len,f12',hlp3] <;> first | exact ⟨rfl,rfl⟩ | rfl,by simp,.inr ⟨rfl,hJ⟩⟩) (fun b hJ=>by
           rw [List.drop_length] at hJ
           exact ⟨_,_,by simp [Tryz.f11,hi',he,hcv.len] <;> first | exact ⟨rfl,rfl⟩ | rfl,by simp,.inl ⟨rfl,by rw [hJ];rfl⟩⟩) () (by simp)
        simp [Tryz.f11] at hlp2
        rcases hq2 with ⟨hq2,hz⟩ | ⟨hq2,hz⟩ <;> cases hq2
        ·rw [hz,Bool.true_and] at hI
         exact .inl ⟨(),by simp [Tryz.f11,hd.len,hi',he,hcv.len,hqp.len,h20',h12',hlp2,hwi],hI⟩
        ·rw [hz,Bool.false_and] at hI
         exact .inr ⟨_,_,by simp [Tryz.f11,hd.len,hi',he,hcv.len,hqp.len,h20',h12',hlp2] <;> first | exact ⟨rfl,rfl⟩ | rfl,by simp,.inr ⟨rfl,hI⟩⟩) (fun b hI=>by
      rw [List.drop_length] at hI
      exact ⟨_,_,by simp [Tryz.f11,hd.len] <;> first | exact ⟨rfl,rfl⟩ | rfl,by simp,.inl ⟨rfl,by rw [hI];rfl⟩⟩) () (by simp)
   simp [Tryz.f11] at hlp
   rcases hq0 with ⟨hq0,hz⟩ | ⟨hq0,hz⟩ <;> cases hq0 <;> simp [AN,Tryz.f11,hd.len,ha.len,h24',h16',h24i,h16i,hlp] <;> simpa using hz
end Go.Proofs.Am12
