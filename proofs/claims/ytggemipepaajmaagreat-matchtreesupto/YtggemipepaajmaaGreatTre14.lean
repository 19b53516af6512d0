/- Part 14. -/
import Derived.Test.YtggemipepaajmaaGreatTre13
import Derived.Test.YtggemipepaajmaaGreatRows
set_option linter.all false
set_option maxHeartbeats 1000000
namespace Go.Proofs.Am12
open Go Go.Am Go.Proofs.YtggemipepaajmaaGreat Tryz
abbrev Bytes:=List UInt8
abbrev lim:Nat:=1048577
inductive TyV where
 | mk (k v:Int) (nm:Bytes) (ps:List TyV)
 deriving Inhabited
def TyV.k:TyV->Int | .mk k _ _ _=>k
def TyV.v:TyV->Int | .mk _ v _ _=>v
def TyV.nm:TyV->Bytes | .mk _ _ n _=>n
def TyV.ps:TyV->List TyV | .mk _ _ _ p=>p
theorem TyV.ind{P:TyV->Prop}(h:∀ k v nm ps,(∀ p∈ps,P p)->P (.mk k v nm ps))(t:TyV):P t:=
 TyV.rec (motive_1:=P) (motive_2:=fun ps=>∀ p∈ps,P p) (fun k v nm ps ih=>h k v nm ps ih) (fun p hp=>by cases hp) (fun a r ha hr p hp=>by
  rcases Cd.1 hp with rfl | hp
  .exact ha
  .exact hr p hp) t
inductive AR:TyV->List AV->Prop where
 | nil (k v:Int) (nm:Bytes):AR (.mk k v nm []) [.int .i64 k,.int .i64 v,.str nm,.AH]
 | sl (k v:Int) (nm:Bytes) (ps:List TyV) (ex:Bool) (es:List (List AV)) (hl:es.length=ps.length) (h:∀(i:Nat) t e,ps[i]? = some t->es[i]? = some e->AR t e) :
  AR (.mk k v nm ps) [.int .i64 k,.int .i64 v,.str nm,.sl 4 ex es]
theorem AR.dest{k v:Int}{nm:Bytes}{ps:List TyV}{xs:List AV}(h:AR (.mk k v nm ps) xs):∃ pv,xs=[.int .i64 k,.int .i64 v,.str nm,pv]/\SlR AR 4 ps pv:=by
 cases h with
 | nil=>exact⟨_,rfl,.inl ⟨rfl,rfl⟩⟩
 | sl _ _ _ _ ex es hl h=>exact⟨_,rfl,.inr ⟨ex,es,rfl,hl,h⟩⟩
theorem AR.intro{k v:Int}{nm:Bytes}{ps:List TyV}{pv:AV}(h:SlR AR 4 ps pv):AR (.mk k v nm ps) [.int .i64 k,.int .i64 v,.str nm,pv]:=by
 rcases h with⟨rfl,rfl⟩ | ⟨ex,es,rfl,hl,h⟩
 .exact .nil k v nm
 .exact .sl k v nm ps ex es hl h
theorem AR.AG{t:TyV}{xs:List AV}(h:AR t xs):AG xs=true:=by
 cases t with
 | mk k v nm ps=>
  obtain⟨pv,rfl,hp⟩:=h.dest;simp[Am.AG,AV.AA,hp.AA]
theorem AR.len{t:TyV}{xs:List AV}(h:AR t xs):xs.length=4:=by
 cases h <;> rfl
inductive Sm(b:Nat):TyV->Prop where
 | mk (k v:Int) (nm:Bytes) (ps:List TyV) (h1:nm.length<b) (h2:ps.length<b) (h3:∀ p∈ps,Sm b p):Sm b (.mk k v nm ps)
theorem Sm.dest{b:Nat}{k v:Int}{nm:Bytes}{ps:List TyV}(h:Sm b (.mk k v nm ps)):nm.length<b/\ps.length<b/\∀ p∈ps,Sm b p:=by
 cases h with
 | mk _ _ _ _ h1 h2 h3=>exact⟨h1,h2,h3⟩
def Cv(n:Bytes)(xs:List AV):Prop:=xs=[.str n]
structure DA where
 nm:Bytes
 ty:TyV
 deriving Inhabited
def Bo(f:DA)(xs:List AV):Prop:=∃ tx,xs=.str f.nm::tx/\AR f.ty tx
structure CS where
 nm:Bytes
 fields:List DA
 deriving Inhabited
def EY(c:CS)(xs:List AV):Prop:=∃ fv,xs=[.str c.nm,fv]/\SlR Bo 5 c.fields fv
structure AK where
 nm:Bytes
 params:List Bytes
 cons:List CS
 deriving Inhabited
def Ac(d:AK)(xs:List AV):Prop:=∃ pv cv,xs=[.str d.nm,pv,cv]/\SlR Cv 1 d.params pv/\SlR EY 2 d.cons cv
structure GA where
 data:List AK
 ty:TyV
 arms:List TyV
def Fb(t:GA)(xs:List AV):Prop:=∃ dv tx av,xs=dv::tx++[av]/\SlR Ac 3 t.data dv/\AR t.ty tx/\SlR AR 4 t.arms av
def SmF(b:Nat)(f:DA):Prop:=f.nm.length<b/\Sm b f.ty
def SmC(b:Nat)(c:CS):Prop:=c.nm.length<b/\c.fields.length<b/\∀ f∈c.fields,SmF b f
def SmD(b:Nat)(d:AK):Prop:=d.nm.length<b/\d.params.length<b/\(∀ p∈d.params,p.length<b)/\d.cons.length<b/\∀ c∈d.cons,SmC b c
def SmL(b:Nat)(l:List AK):Prop:=l.length<b/\∀ d∈l,SmD b d
def SmT(b:Nat)(t:GA):Prop:=SmL b t.data/\Sm b t.ty/\t.arms.length<b/\∀ p∈t.arms,Sm b p
theorem Jj{α β:Type}{R:α->β->Prop}{S:α->Prop}:∀(es:List β),(∀ e∈es,∃ a,R a e/\S a)->∃ xs:List α,es.length=xs.length/\(∀(i:Nat) a e,xs[i]? = some a->es[i]? = some e->R a e)/\∀ x∈xs,S x
 | [],_=>⟨[],rfl,fun i a e h=>by simp at h,fun x hx=>by cases hx⟩
 | e::r,h=>by
  obtain⟨a,ha,hs⟩:=h e (by simp);obtain⟨xs,h1,h2,h3⟩:=Jj r (fun x hx=>h x (by simp[hx]));refine⟨a::xs,by simp[h1],fun i a' e' h3 h4 => ?_,fun x hx => ?_⟩
  .cases i with
   | zero=>simp at h3 h4;exact h3 ▸ h4 ▸ ha
   | succ i=>exact h2 i a' e' (by simpa using h3) (by simpa using h4)
  .rcases Cd.1 hx with rfl | hx
   .exact hs
   .exact h3 x hx
theorem und25:und MX.ty 25=some (.struct #[{ name := "Kind",type:=3,offset:=0,embedded:=false,tag := "",pkgPath := "",byteOffset:=0 },{ name := "Value",type:=3,offset:=1,embedded:=false,tag := "",pkgPath := "",byteOffset:=8 },
 { name := "Name",type:=9,offset:=2,embedded:=false,tag := "",pkgPath := "",byteOffset:=16 },{ name := "Parts",type:=23,offset:=3,embedded:=false,tag := "",pkgPath := "",byteOffset:=32 }]):=by kernel_rfl
theorem und62:und MX.ty 62=some (.struct #[{ name := "Kind",type:=3,offset:=0,embedded:=false,tag := "",pkgPath := "",byteOffset:=0 },{ name := "Value",type:=3,offset:=1,embedded:=false,tag := "",pkgPath := "",byteOffset:=8 },
 { name := "Name",type:=9,offset:=2,embedded:=false,tag := "",pkgPath := "",byteOffset:=16 },{ name := "Parts",type:=26,offset:=3,embedded:=false,tag := "",pkgPath := "",byteOffset:=32 }]):=by kernel_rfl
theorem und23:und MX.ty 23=some (.slice 25):=by kernel_rfl
theorem cO:und MX.ty 26=some (.slice 62):=by kernel_rfl
theorem VS:und MX.ty 3=some (.int .i64):=by kernel_rfl
theorem Xl:und MX.ty 9=some .string:=by kernel_rfl
theorem siz25:siz MX.ty 25=4:=by kernel_rfl
theorem cP:siz MX.ty 62=4:=by kernel_rfl
theorem sizX9:siz MX.ty 9=1:=by kernel_rfl
theorem eE:siz MX.ty 103=3:=by kernel_rfl
theorem eF:siz MX.ty 106=2:=by kernel_rfl
theorem eG:siz MX.ty 109=5:=by kernel_rfl
section
variable{H:Type}
theorem Tz{d:DataW H}{xs:List AV}(h:Shp MX 3 d xs):∃ n,xs=[.int .i64 n]/\(Lit.int .i64 n).wf=true:=by
 cases h with
 | int h n hw=>rw[VS]at h;cases h;exact⟨n,rfl,hw⟩
 | bool h=>rw[VS]at h;cases h
 | str h=>rw[VS]at h;cases h
 | nil h=>rw[VS]at h;cases h
 | sl h=>rw[VS]at h;cases h
 | struct h=>rw[VS]at h;cases h
theorem LJ{d:DataW H}{xs:List AV}{b:Nat}(h:Shp MX 9 d xs)(hb:Rows.uptoBulk d<b):∃ s,xs=[.str s]/\s.length<b:=by
 cases h with
 | str h s=>exact⟨s,rfl,by simp only[Rows.uptoBulk]at hb;omega⟩
 | int h=>rw[Xl]at h;cases h
 | bool h=>rw[Xl]at h;cases h
 | nil h=>rw[Xl]at h;cases h
 | sl h=>rw[Xl]at h;cases h
 | struct h=>rw[Xl]at h;cases h
theorem one_le(d:DataW H):1<=Rows.uptoBulk d:=by
 cases d with
 | lit l=>cases l <;> simp[Rows.uptoBulk]
 | _=>simp[Rows.uptoBulk]
theorem Pu{d:DataW H}{l:List (DataW H)}(h:d∈l):Rows.uptoBulk d<=Rows.uptoBulkAll l:=by
 induction l with
 | nil=>cases h
 | cons x r ih=>
  simp only[Rows.uptoBulkAll];rcases Cd.1 h with rfl | e
  .omega
  .have:=ih e;omega
theorem length_le(l:List (DataW H)):l.length<=Rows.uptoBulkAll l:=by
 induction l with
 | nil=>simp
 | cons x r ih=>have:=one_le x;simp only[Rows.uptoBulkAll,D8];omega
theorem Jk{α:Type}{R:α->List AV->Prop}{S:α->Prop}{t e:TypeId}{d:DataW H}{xs:List AV}{b:Nat}(hu:und MX.ty t=some (.slice e))(hR:∀(d:DataW H) xs,Shp MX e d xs->Rows.uptoBulk d<b->∃ a,R a xs/\S a)(h:Shp MX t d xs)(hb:Rows.uptoBulk d<b) :
 ∃ l v,xs=[v]/\SlR R (siz MX.ty e) l v/\l.length<b/\∀ x∈l,S x:=by
 cases h with
 | nil h=>exact⟨[],_,rfl,.inl ⟨rfl,rfl⟩,by have:=one_le (DataW.nil:DataW H);simp;omega,fun x hx=>by cases hx⟩
 | sl h ds sp es hl hs=>
  rw[hu]at h;cases h;simp only[Rows.uptoBulk]at hb;obtain⟨l,h1,h2,h3⟩:=Jj (R:=R) (S:=S) es (fun x hx=>by
   obtain⟨i,hi⟩:=Mg.1 hx;have hlt:i<ds.length:=(by rw[<- hl];exact(Ae.1 hi).1);exact hR _ _ (hs i ds[i] x (AW hlt) hi) (by have:=Pu (Ap hlt);omega))
  have:=length_le ds;exact⟨l,_,rfl,.inr ⟨false,es,rfl,h1,h2⟩,by omega,h3⟩
 | bool h=>rw[hu]at h;cases h
 | int h=>rw[hu]at h;cases h
 | str h=>rw[hu]at h;cases h
 | struct h=>rw[hu]at h;cases h
theorem Iz{t:TypeId}{fs:Array Field}{d:DataW H}{xs:List AV}{b:Nat}(hu:und MX.ty t=some (.struct fs))(h:Shp MX t d xs)(hb:Rows.uptoBulk d<b) :
 ∃(ds:List (DataW H)) (rows:List (List AV)),xs=rows.flatten/\rows.length=ds.length/\fs.size=ds.length/\(∀(i:Nat) f d a,fs[i]? = some f->ds[i]? = some d->rows[i]? = some a->Shp MX f.type d a)/\∀ d∈ds,Rows.uptoBulk d<b:=by
 cases h with
 | struct h ds rows hl hf hs=>
  rw[hu]at h;cases h;exact⟨ds,rows,rfl,hl,hf,hs,fun d hd=>by have:=Pu hd;simp only[Rows.uptoBulk]at hb;omega⟩
 | nil h=>rw[hu]at h;cases h
 | sl h=>rw[hu]at h;cases h
 | bool h=>rw[hu]at h;cases h
 | int h=>rw[hu]at h;cases h
 | str h=>rw[hu]at h;cases h
theorem T0{tT tS:TypeId}{n1 n2 n3 n4:String}{o1 o2 o3 o4:Nat}(hT:und MX.ty tT=some (.struct #[{ name:=n1,type:=3,offset:=0,embedded:=false,tag := "",pkgPath := "",byteOffset:=o1 },{ name:=n2,type:=3,offset:=1,embedded:=false,tag := "",pkgPath := "",byteOffset:=o2 },
 { name:=n3,type:=9,offset:=2,embedded:=false,tag := "",pkgPath := "",byteOffset:=o3 },{ name:=n4,type:=tS,offset:=3,embedded:=false,tag := "",pkgPath := "",byteOffset:=o4 }])) (hS:und MX.ty tS=some (.slice tT)) (hz:siz MX.ty tT=4) {t:TypeId} {d:DataW H} {xs:List AV} (h:Shp MX t d xs) {b:Nat} (hb:Rows.uptoBulk d<b) :
 (t=tT->∃ tv,AR tv xs/\Sm b tv)/\(t=tS->∃ l v,xs=[v]/\SlR AR 4 l v/\l.length<b/\∀ x∈l,Sm b x):=by
 induction h with
 | bool h b=>exact⟨fun e=>(by subst e;rw[hT]at h;cases h),fun e=>(by subst e;rw[hS]at h;cases h)⟩
 | int h n hw=>exact⟨fun e=>(by subst e;rw[hT]at h;cases h),fun e=>(by subst e;rw[hS]at h;cases h)⟩
 | str h bs=>exact⟨fun e=>(by subst e;rw[hT]at h;cases h),fun e=>(by subst e;rw[hS]at h;cases h)⟩
 | nil h=>exact⟨fun e=>(by subst e;rw[hT]at h;cases h),fun e=>⟨[],.AH,rfl,.inl ⟨rfl,rfl⟩,by have:=one_le (DataW.nil:DataW H);simp;omega,fun x hx=>by cases hx⟩⟩
 | sl h ds sp es hl hs ih=>
  refine⟨fun e=>(by subst e;rw[hT]at h;cases h),fun e => ?_⟩;subst e;rw[hS]at h;cases h;rw[hz];simp only[Rows.uptoBulk]at hb;obtain⟨l,h1,h2,h3⟩:=Jj (R:=AR) (S:=Sm b) es (fun x hx=>by
   obtain⟨i,hi⟩:=Mg.1 hx;have hlt:i<ds.length:=(by rw[<- hl];exact(Ae.1 hi).1);exact(ih i ds[i] x (AW hlt) hi (by have:=Pu (Ap hlt);omega)).1 rfl)
  have:=length_le ds;exact⟨l,_,rfl,.inr ⟨false,es,rfl,h1,h2⟩,by omega,h3⟩
 | struct h ds rows hl hf hs ih=>
  refine⟨fun e => ?_,fun e=>(by subst e;rw[hS]at h;cases h)⟩;subst e;rw[hT]at h;cases h;simp only[OH,D8,IB]at hf
  match ds,rows,hf,hl with
  | [d0,d1,d2,d3],[a0,a1,a2,a3],_,_=>
   simp only[Rows.uptoBulk,Rows.uptoBulkAll]at hb;obtain⟨k,rfl,_⟩:=Tz (hs 0 _ d0 a0 rfl rfl rfl);obtain⟨v,rfl,_⟩:=Tz (hs 1 _ d1 a1 rfl rfl rfl);obtain⟨nm,rfl,hnm⟩:=LJ (b:=b) (hs 2 _ d2 a2 rfl rfl rfl) (by omega);obtain⟨l,pv,rfl,hp,hlb,hS⟩:=(ih 3 _ d3 a3 rfl rfl rfl (by omega)).2 rfl;exact⟨.mk k v nm l,AR.intro hp,.mk k v nm l hnm hlb hS⟩
theorem Xm{b:Nat}(d:DataW H)(xs:List AV)(h:Shp MX 25 d xs)(hb:Rows.uptoBulk d<b):∃ tv,AR tv xs/\Sm b tv:=(T0 und25 und23 siz25 h hb).1 rfl
theorem aU{b:Nat}(d:DataW H)(xs:List AV)(h:Shp MX 62 d xs)(hb:Rows.uptoBulk d<b):∃ tv,AR tv xs/\Sm b tv:=(T0 und62 cO cP h hb).1 rfl
theorem eH:und MX.ty 109=some (.struct #[{ name := "Name",type:=9,offset:=0,embedded:=false,tag := "",pkgPath := "",byteOffset:=0 },{ name := "Type",type:=25,offset:=1,embedded:=false,tag := "",pkgPath := "",byteOffset:=16 }]):=by kernel_rfl
theorem eI:und MX.ty 106=some (.struct #[{ name := "Name",type:=9,offset:=0,embedded:=false,tag := "",pkgPath := "",byteOffset:=0 },{ name := "Fields",type:=104,offset:=1,embedded:=false,tag := "",pkgPath := "",byteOffset:=16 }]):=by kernel_rfl
theorem eJ:und MX.ty 103=some (.struct #[{ name := "Name",type:=9,offset:=0,embedded:=false,tag := "",pkgPath := "",byteOffset:=0 },{ name := "Params",type:=100,offset:=1,embedded:=false,tag := "",pkgPath := "",byteOffset:=16 },{ name := "Constructors",type:=101,offset:=2,embedded:=false,tag := "",pkgPath := "",byteOffset:=40 }]):=by kernel_rfl
theorem und28:und MX.ty 28=some (.struct #[{ name := "Data",type:=22,offset:=0,embedded:=false,tag := "",pkgPath := "",byteOffset:=0 },{ name := "Type",type:=25,offset:=1,embedded:=false,tag := "",pkgPath := "",byteOffset:=24 },{ name := "Arms",type:=26,offset:=5,embedded:=false,tag := "",pkgPath := "",byteOffset:=80 }]):=by kernel_rfl
theorem aV:und MX.ty 100=some (.slice 9):=by kernel_rfl
theorem eK:und MX.ty 101=some (.slice 106):=by kernel_rfl
theorem eL:und MX.ty 104=some (.slice 109):=by kernel_rfl
theorem und22:und MX.ty 22=some (.slice 103):=by kernel_rfl
theorem VU{b:Nat}(d:DataW H)(xs:List AV)(h:Shp MX 109 d xs)(hb:Rows.uptoBulk d<b):∃ f,Bo f xs/\SmF b f:=by
 obtain⟨ds,rows,rfl,hl,hf,hs,hbs⟩:=Iz eH h hb
 match ds,rows,hf,hl with
 | [d0,d1],[a0,a1],_,_=>
  obtain⟨nm,rfl,hn⟩:=LJ (hs 0 _ d0 a0 rfl rfl rfl) (hbs d0 (by simp));obtain⟨tv,ht,hst⟩:=Xm _ _ (hs 1 _ d1 a1 rfl rfl rfl) (hbs d1 (by simp));exact⟨⟨nm,tv⟩,⟨a1,by simp,ht⟩,hn,hst⟩
theorem aW{b:Nat}(d:DataW H)(xs:List AV)(h:Shp MX 106 d xs)(hb:Rows.uptoBulk d<b):∃ c,EY c xs/\SmC b c:=by
 obtain⟨ds,rows,rfl,hl,hf,hs,hbs⟩:=Iz eI h hb
 match ds,rows,hf,hl with
 | [d0,d1],[a0,a1],_,_=>
  obtain⟨nm,rfl,hn⟩:=LJ (hs 0 _ d0 a0 rfl rfl rfl) (hbs d0 (by simp));obtain⟨l,v,rfl,hv,hlb,hS⟩:=Jk (R:=Bo) (S:=SmF b) eL (fun d xs=>VU d xs) (hs 1 _ d1 a1 rfl rfl rfl) (hbs d1 (by simp));rw[eG]at hv;exact⟨⟨nm,l⟩,⟨v,by simp,hv⟩,hn,hlb,hS⟩
theorem Xn{b:Nat}(d:DataW H)(xs:List AV)(h:Shp MX 103 d xs)(hb:Rows.uptoBulk d<b):∃ c,Ac c xs/\SmD b c:=by
 obtain⟨ds,rows,rfl,hl,hf,hs,hbs⟩:=Iz eJ h hb
 match ds,rows,hf,hl with
 | [d0,d1,d2],[a0,a1,a2],_,_=>
  obtain⟨nm,rfl,hn⟩:=LJ (hs 0 _ d0 a0 rfl rfl rfl) (hbs d0 (by simp));obtain⟨l,v,rfl,hv,hlb,hS⟩:=Jk (R:=Cv) (S:=fun s=>s.length<b) aV (fun d xs h hb=>LJ h hb) (hs 1 _ d1 a1 rfl rfl rfl) (hbs d1 (by simp));obtain⟨m,w,rfl,hw,hmb,hM⟩:=Jk (R:=EY) (S:=SmC b) eK (fun d xs=>aW d xs) (hs 2 _ d2 a2 rfl rfl rfl) (hbs d2 (by simp));rw[sizX9]at hv;rw[eF]at hw;exact⟨⟨nm,l,m⟩,⟨v,w,by simp,hv,hw⟩,hn,hlb,hS,hmb,hM⟩
theorem Xo{b:Nat}(d:DataW H)(xs:List AV)(h:Shp MX 28 d xs)(hb:Rows.uptoBulk d<b):∃ c,Fb c xs/\SmT b c:=by
 obtain⟨ds,rows,rfl,hl,hf,hs,hbs⟩:=Iz und28 h hb
 match ds,rows,hf,hl with
 | [d0,d1,d2],[a0,a1,a2],_,_=>
  obtain⟨l,v,rfl,hv,hlb,hS⟩:=Jk (R:=Ac) (S:=SmD b) und22 (fun d xs=>Xn d xs) (hs 0 _ d0 a0 rfl rfl rfl) (hbs d0 (by simp));obtain⟨tv,ht,hst⟩:=Xm _ _ (hs 1 _ d1 a1 rfl rfl rfl) (hbs d1 (by simp));obtain⟨m,w,rfl,hw,hmb,hM⟩:=Jk (R:=AR) (S:=Sm b) cO (fun d xs=>aU d xs) (hs 2 _ d2 a2 rfl rfl rfl) (hbs d2 (by simp));rw[eE]at hv;rw[cP]at hw;exact⟨⟨l,tv,m⟩,⟨v,a1,w,by simp,hv,ht,hw⟩,⟨hlb,hS⟩,hst,hmb,hM⟩
end
end Go.Proofs.Am12
namespace Go.Proofs.Am12
open Go Go.Am Tryz
section
attribute [local simp] C7 Br EW DL CG Dd Du Eu BZ Ar Bg Al GV FF EF HE D4 Ax FB EG HF HG xUn E7 D5 FG BF DH BG D6 BH D7 Ce CX Bw BJ EH Ej
 ev evs C4 DE OR.ofV OR.Dz OR.ofC FP Tm.get Tm.init Tm.only A1 A8 CM finish CF DJ HR Dy D3 unA B7 Bb B8 Bc Co Cp Cq Bd Cr Cs Be Ct Cu Bf B9 AL CQ Ba Cm Cn B6 Ev Ew Ey Dv Dw Fl F8 F9 Fm stA Ay Db Bn FH DI E8 Gt Bs
theorem Fo{s:Bytes}{i:Nat}(hi:i<s.length):(DF s)[i]? = some [.int .u8 s[i].toNat]:=by simp[DF,hi]
theorem Af{f:FuncId}{args:List AV}{v:AV}{hr:AF}(hm:MX.mode f = { fresh:=true })(he:MX.eff f=none)(ha:args.all AV.AA=true)(hv:v.AA=true)(hc:AJ MX f args []=some (.ret v,hr))(h:AF) :
 AI MX (AE MX) f args h=some (.ret v,h):=by
 have hs:∀{l:List AV} {h:AF},l.all AV.AA=true->A4 l h=some (l,h):=by
  intro l;induction l with
  | nil=>intro h _;rfl
  | cons a r ih=>
   intro h hn;simp only[JL,BU]at hn;simp only[A4,hn.1,ih hn.2]
 unfold AI;simp only[hm,hs ha,ha,Ie he hc,DG,hv]
theorem LK{f:FuncId}{args:List AV}{v v':AV}{hr hr':AF}(hm:MX.mode f = { fresh:=true })(he:MX.eff f=none)(ha:args.all AV.AA=true)(hv:v.AA=false)(hsn:snap Ds v hr=some (v',hr'))(hv':v'.AA=true)(hc:AJ MX f args []=some (.ret v,hr))(h:AF) :
 AI MX (AE MX) f args h=some (.ret v',h):=by
 have hs:∀{l:List AV} {h:AF},l.all AV.AA=true->A4 l h=some (l,h):=by
  intro l;induction l with
  | nil=>intro h _;rfl
  | cons a r ih=>
   intro h hn;simp only[JL,BU]at hn;simp only[A4,hn.1,ih hn.2]
 unfold AI;simp only[hm,hs ha,ha,Ie he hc,DG,hv,hsn,hv']
theorem SX(n lo hi:Int)(h:AF):AJ MX 104 [.int .i64 n,.int .i64 lo,.int .i64 hi] h=some (.ret (.bool (decide (lo<=n/\n<=hi))),h):=by
 by_cases h1:lo<=n <;> by_cases h2:n<=hi <;> simp[AJ,f104,h1,h2]
theorem SY(n lo hi:Int)(h:AF):AJ MX 181 [.int .i64 n,.int .i64 lo,.int .i64 hi] h=some (.ret (.bool (decide (lo<=n/\n<=hi))),h):=by
 by_cases h1:lo<=n <;> by_cases h2:n<=hi <;> simp[AJ,f181,h1,h2]
theorem SZ(n lo hi:Int)(h:AF):AJ MX 196 [.int .i64 n,.int .i64 lo,.int .i64 hi] h=some (.ret (.bool (decide (lo<=n/\n<=hi))),h):=by
 by_cases h1:lo<=n <;> by_cases h2:n<=hi <;> simp[AJ,f196,h1,h2]
@[simp] theorem c104(n lo hi:Int)(h:AF):AI MX (AE MX) 104 [.int .i64 n,.int .i64 lo,.int .i64 hi] h=some (.ret (.bool (decide (lo<=n/\n<=hi))),h):=Af Wd ZP rfl rfl (SX n lo hi []) h
@[simp] theorem c181(n lo hi:Int)(h:AF):AI MX (AE MX) 181 [.int .i64 n,.int .i64 lo,.int .i64 hi] h=some (.ret (.bool (decide (lo<=n/\n<=hi))),h):=Af W6 Zw rfl rfl (SY n lo hi []) h
@[simp] theorem Sa(n lo hi:Int)(h:AF):AI MX (AE MX) 196 [.int .i64 n,.int .i64 lo,.int .i64 hi] h=some (.ret (.bool (decide (lo<=n/\n<=hi))),h):=Af XD Z3 rfl rfl (SZ n lo hi []) h
theorem t111(b:Bool)(e:Int)(h:AF):AJ MX 111 [.bool b,.int .i64 e] h=some (.ret (.int .i64 (if b then 0 else e)),h):=by
 cases b <;> simp[AJ,f111]
theorem t215(b:Bool)(e:Int)(h:AF):AJ MX 215 [.bool b,.int .i64 e] h=some (.ret (.int .i64 (if b then 0 else e)),h):=by
 cases b <;> simp[AJ,Tryz.f215]
@[simp] theorem c111(b:Bool)(e:Int)(h:AF):AI MX (AE MX) 111 [.bool b,.int .i64 e] h=some (.ret (.int .i64 (if b then 0 else e)),h):=Af Wf ZR rfl rfl (t111 b e []) h
@[simp] theorem Lu(b:Bool)(e:Int)(h:AF):AI MX (AE MX) 215 [.bool b,.int .i64 e] h=some (.ret (.int .i64 (if b then 0 else e)),h):=Af XJ Z9 rfl rfl (t215 b e []) h
theorem eM(n:Int)(h:AF):AJ MX 155 [.int .i64 n] h=some (.ret (.bool (decide (1<=n/\n<=16))),h):=by
 simp[AJ,f155]
@[simp] theorem c155(n:Int)(h:AF):AI MX (AE MX) 155 [.int .i64 n] h=some (.ret (.bool (decide (1<=n/\n<=16))),h):=Af Wx Zn rfl rfl (eM n []) h
def ints(l:List Int):List (List AV):=l.map fun e=>[AV.int .i64 e]
def A9:List Int->Int
 | []=>0
 | e::r=>if e=0 then A9 r else e
theorem LL{l:List Int}{i:Nat}(hi:i<l.length):A9 (l.drop i)=if l[i]=0 then A9 (l.drop (i+1))else l[i]:=by
 rw[De hi];rfl
theorem t97(l:List Int)(ex:Bool)(hl:l.length<1048577)(h:AF):AJ MX 97 [.sl 1 ex (ints l)] h=some (.ret (.int .i64 (A9 l)),h):=by
 obtain⟨e,st,hlp,hq⟩:=AU (M:=MX) (fid:=97) (N:=15) (C:=AE MX) (c:=AL f97 0) (n:=l.length) (fun i (_:Unit)=>([(5,.sl 1 ex (ints l)),(6,.int .i64 l.length),(7,.int .i64 i)],h)) (fun i _=>A9 l=A9 (l.drop i))
  (fun r=>(r=(.ext 0,([(5,.sl 1 ex (ints l)),(6,.int .i64 l.length),(7,.int .i64 l.length),(8,.bool false)],h))/\A9 l=0)\/(r=(.ret,([(2,.int .i64 (A9 l))],h)))) (fun i b hi hI=>by
    have hi':((i:Int)<(l.length:Int)):=(by omega);have hw:wr .i64 ((i:Int)+1)=(i:Int)+1:=Cl (by omega) (by omega);have hx:=IQ i 1 ex (ints l) .i64 (by simpa[ints]using hi);have he:(ints l)[i]'(by simpa[ints]using hi)=[.int .i64 l[i]]:=(by simp[ints]);rw[he]at hx;have hd:=LL hi;by_cases h0:l[i]=0
    .exact .inl ⟨(),by simp[f97,hi',hx,h0,hw],by rw[hI,hd,if_pos h0]⟩
    .have hne:(l[i] != 0)=true:=(by simp[h0]);rw[if_neg h0]at hd;exact .inr ⟨_,_,by simp[f97,hi',hx,hne] <;> exact⟨rfl,rfl⟩,by simp,.inr (by rw[hI,hd])⟩) (fun b hI=>by
    refine⟨_,_,by simp[f97] <;> exact⟨rfl,rfl⟩,by simp,.inl ⟨rfl,?_⟩⟩;rw[hI,C3];rfl) () (by simp)
 simp[f97]at hlp;rcases hq with⟨hq,ha⟩ | hq <;> cases hq
 .simp[AJ,f97,ints,hlp,ha];simp only[ints]at hlp;simp[hlp]
 .simp[AJ,f97,ints];simp only[ints]at hlp;simp[hlp]
theorem c97(l:List Int)(ex:Bool)(hl:l.length<1048577)(h:AF):AI MX (AE MX) 97 [.sl 1 ex (ints l)] h=some (.ret (.int .i64 (A9 l)),h):=Af ZO dg rfl rfl (t97 l ex hl []) h
@[simp] theorem c97_2(a b:Int)(ex:Bool)(h:AF):AI MX (AE MX) 97 [.sl 1 ex [[.int .i64 a],[.int .i64 b]]] h=some (.ret (.int .i64 (A9 [a,b])),h):=c97 [a,b] ex (by simp) h
@[simp] theorem c97_3(a b c:Int)(ex:Bool)(h:AF):AI MX (AE MX) 97 [.sl 1 ex [[.int .i64 a],[.int .i64 b],[.int .i64 c]]] h=some (.ret (.int .i64 (A9 [a,b,c])),h):=c97 [a,b,c] ex (by simp) h
theorem t217(l:List Int)(ex:Bool)(hl:l.length<1048577)(h:AF):AJ MX 217 [.sl 1 ex (ints l)] h=some (.ret (.int .i64 (A9 l)),h):=by
 obtain⟨e,st,hlp,hq⟩:=AU (M:=MX) (fid:=217) (N:=15) (C:=AE MX) (c:=AL f217 0) (n:=l.length) (fun i (_:Unit)=>([(5,.sl 1 ex (ints l)),(6,.int .i64 l.length),(7,.int .i64 i)],h)) (fun i _=>A9 l=A9 (l.drop i))
  (fun r=>(r=(.ext 0,([(5,.sl 1 ex (ints l)),(6,.int .i64 l.length),(7,.int .i64 l.length),(8,.bool false)],h))/\A9 l=0)\/(r=(.ret,([(2,.int .i64 (A9 l))],h)))) (fun i b hi hI=>by
    have hi':((i:Int)<(l.length:Int)):=(by omega);have hw:wr .i64 ((i:Int)+1)=(i:Int)+1:=Cl (by omega) (by omega);have hx:=IQ i 1 ex (ints l) .i64 (by simpa[ints]using hi);have he:(ints l)[i]'(by simpa[ints]using hi)=[.int .i64 l[i]]:=(by simp[ints]);rw[he]at hx;have hd:=LL hi;by_cases h0:l[i]=0
    .exact .inl ⟨(),by simp[f217,hi',hx,h0,hw],by rw[hI,hd,if_pos h0]⟩
    .have hne:(l[i] != 0)=true:=(by simp[h0]);rw[if_neg h0]at hd;exact .inr ⟨_,_,by simp[f217,hi',hx,hne] <;> exact⟨rfl,rfl⟩,by simp,.inr (by rw[hI,hd])⟩) (fun b hI=>by
    refine⟨_,_,by simp[f217] <;> exact⟨rfl,rfl⟩,by simp,.inl ⟨rfl,?_⟩⟩;rw[hI,C3];rfl) () (by simp)
 simp[f217]at hlp;rcases hq with⟨hq,ha⟩ | hq <;> cases hq
 .simp[AJ,f217,ints,hlp,ha];simp only[ints]at hlp;simp[hlp]
 .simp[AJ,f217,ints];simp only[ints]at hlp;simp[hlp]
theorem c217(l:List Int)(ex:Bool)(hl:l.length<1048577)(h:AF):AI MX (AE MX) 217 [.sl 1 ex (ints l)] h=some (.ret (.int .i64 (A9 l)),h):=Af XK aA rfl rfl (t217 l ex hl []) h
@[simp] theorem c217_2(a b:Int)(ex:Bool)(h:AF):AI MX (AE MX) 217 [.sl 1 ex [[.int .i64 a],[.int .i64 b]]] h=some (.ret (.int .i64 (A9 [a,b])),h):=c217 [a,b] ex (by simp) h
def Ig(i:Nat)(n:Nat):Bool:=(decide (97<=n/\n<=122)||decide (65<=n/\n<=90))||(decide (i≠0)&&(decide (n=95)||decide (48<=n/\n<=57)))
def HO:Nat->Bytes->Bool
 | _,[]=>true
 | i,b::r=>Ig i b.toNat&&HO (i+1) r
def BL(s:Bytes):Bool:=decide (1<=s.length/\s.length<=16)&&HO 0 s
theorem Kc{s:Bytes}{i:Nat}(hi:i<s.length):HO i (s.drop i)=(Ig i s[i].toNat&&HO (i+1) (s.drop (i+1))):=by
 rw[De hi];rfl
theorem nine0(n:Nat):n<48\/(48<=n/\n<=57)\/(57<n/\n<65)\/(65<=n/\n<=90)\/(90<n/\n<95)\/n=95\/n=96\/(97<=n/\n<=122)\/122<n:=by omega
theorem nine(n:Nat):(¬ (97<=n)/\n<=122/\¬ (65<=n)/\n<=90/\¬ (n=95)/\n<48/\¬ (57<n))\/(¬ (97<=n)/\n<=122/\¬ (65<=n)/\n<=90/\¬ (n=95)/\¬ (n<48)/\¬ (57<n))\/(¬ (97<=n)/\n<=122/\¬ (65<=n)/\n<=90/\¬ (n=95)/\¬ (n<48)/\57<n)\/(¬ (97<=n)/\n<=122/\65<=n/\n<=90/\¬ (n=95)/\¬ (n<48)/\57<n)\/(¬ (97<=n)/\n<=122/\65<=n/\¬ (n<=90)/\¬ (n=95)/\¬ (n<48)/\57<n)\/(¬ (97<=n)/\n<=122/\65<=n/\¬ (n<=90)/\n=95/\¬ (n<48)/\57<n)\/(¬ (97<=n)/\n<=122/\65<=n/\¬ (n<=90)/\¬ (n=95)/\¬ (n<48)/\57<n)\/(97<=n/\n<=122/\65<=n/\¬ (n<=90)/\¬ (n=95)/\¬ (n<48)/\57<n)\/(97<=n/\¬ (n<=122)/\65<=n/\¬ (n<=90)/\¬ (n=95)/\¬ (n<48)/\57<n):=by
 rcases nine0 n with h | h | h | h | h | h | h | h | h
 .exact .inl (by and_intros <;> omega)
 .exact .inr (.inl (by and_intros <;> omega))
 .exact .inr (.inr (.inl (by and_intros <;> omega)))
 .exact .inr (.inr (.inr (.inl (by and_intros <;> omega))))
 .exact .inr (.inr (.inr (.inr (.inl (by and_intros <;> omega)))))
 .exact .inr (.inr (.inr (.inr (.inr (.inl (by and_intros <;> omega))))))
 .exact .inr (.inr (.inr (.inr (.inr (.inr (.inl (by and_intros <;> omega)))))))
 .exact .inr (.inr (.inr (.inr (.inr (.inr (.inr (.inl (by and_intros <;> omega))))))))
 .exact .inr (.inr (.inr (.inr (.inr (.inr (.inr (.inr ((by and_intros <;> omega)))))))))
theorem t157(s:Bytes)(hs:s.length<1048577)(h:AF):AJ MX 157 [.str s] h=some (.ret (.bool (BL s)),h):=by
 by_cases hl:1<=s.length/\s.length<=16
 .obtain⟨e,st,hlp,hq⟩:=AU (M:=MX) (fid:=157) (N:=55) (C:=AE MX) (c:=AL f157 0) (n:=s.length) (fun i (_:Unit)=>([(0,.str s),(3,.int .i64 i)],h)) (fun i _=>HO 0 s=HO i (s.drop i))
   (fun r=>(r=(.ext 0,([(0,.str s),(3,.int .i64 s.length),(17,.bool false)],h))/\HO 0 s=true)\/(r=(.ret,([(2,.bool false)],h))/\HO 0 s=false)) (fun i b hi hI=>by
   obtain⟨n,hn⟩:∃ n,n=s[i].toNat:=⟨_,rfl⟩;have hd:=Kc hi;rw[<- hn]at hd;have hw:wr .i64 ((i:Int)+1)=(i:Int)+1:=Cl (by omega) (by omega);have hi':((i:Int)<(s.length:Int)):=(by omega);have key:(Ig i n=true/\AO MX 157 55 (AE MX) (AL f157 0) ([(0,AV.str s),(3,AV.int .i64 i)],h)=some (.nrm,([(0,AV.str s),(3,AV.int .i64 ((i:Int)+1))],h)))\/(Ig i n=false/\AO MX 157 55 (AE MX) (AL f157 0) ([(0,AV.str s),(3,AV.int .i64 i)],h)=some (.ret,([(2,.bool false)],h))):=by
    have hc:∀ k:Nat,((k:Int)<=(n:Int)↔k<=n)/\((n:Int)<=(k:Int)↔n<=k)/\((n:Int)<(k:Int)↔n<k)/\((k:Int)<(n:Int)↔k<n)/\((n:Int)=(k:Int)↔n=k):=fun k=>by omega
    have c1:=(hc 97).1;have c2:=(hc 122).2.1;have c3:=(hc 65).1;have c4:=(hc 90).2.1;have c5:=(hc 95).2.2.2.2;have c6:=(hc 48).2.2.1;have c7:=(hc 57).2.2.2.1;simp only[Int.cast_ofNat_Int]at c1 c2 c3 c4 c5 c6 c7;have hc5:((n:Int) != 95)=decide (n≠95):=(by rw[Kt];simp[c5]);by_cases h0:i=0
    .have e0:((i:Int) == 0)=true:=(by simp[h0]);rcases nine n with⟨p0,p1,p2,p3,p4,p5,p6⟩ | ⟨p0,p1,p2,p3,p4,p5,p6⟩ | ⟨p0,p1,p2,p3,p4,p5,p6⟩ | ⟨p0,p1,p2,p3,p4,p5,p6⟩ | ⟨p0,p1,p2,p3,p4,p5,p6⟩ | ⟨p0,p1,p2,p3,p4,p5,p6⟩ | ⟨p0,p1,p2,p3,p4,p5,p6⟩ | ⟨p0,p1,p2,p3,p4,p5,p6⟩ | ⟨p0,p1,p2,p3,p4,p5,p6⟩ <;> first | (apply Or.inl;apply And.intro;(focus simp only[Ig,h0,p0,p1,p2,p3,p4];simp;try omega;done);(focus simp[f157,<- hn,hi',hc5,e0,c1,c2,c3,c4,c5,c6,c7,p0,p1,p2,p3,p4,p5,p6,hw,MU _ .i64 _ hi];done)) | (apply Or.inr;apply And.intro;(focus simp only[Ig,h0,p0,p1,p2,p3,p4];simp;try omega;done);(focus simp[f157,<- hn,hi',hc5,e0,c1,c2,c3,c4,c5,c6,c7,p0,p1,p2,p3,p4,p5,p6,hw,MU _ .i64 _ hi];done))
    .have e0:((i:Int) == 0)=false:=(by simp;omega);rcases nine n with⟨p0,p1,p2,p3,p4,p5,p6⟩ | ⟨p0,p1,p2,p3,p4,p5,p6⟩ | ⟨p0,p1,p2,p3,p4,p5,p6⟩ | ⟨p0,p1,p2,p3,p4,p5,p6⟩ | ⟨p0,p1,p2,p3,p4,p5,p6⟩ | ⟨p0,p1,p2,p3,p4,p5,p6⟩ | ⟨p0,p1,p2,p3,p4,p5,p6⟩ | ⟨p0,p1,p2,p3,p4,p5,p6⟩ | ⟨p0,p1,p2,p3,p4,p5,p6⟩ <;> first | (apply Or.inl;apply And.intro;(focus simp only[Ig,h0,p0,p1,p2,p3,p4];simp;try omega;done);(focus simp[f157,<- hn,hi',hc5,e0,c1,c2,c3,c4,c5,c6,c7,p0,p1,p2,p3,p4,p5,p6,hw,MU _ .i64 _ hi];done)) | (apply Or.inr;apply And.intro;(focus simp only[Ig,h0,p0,p1,p2,p3,p4];simp;try omega;done);(focus simp[f157,<- hn,hi',hc5,e0,c1,c2,c3,c4,c5,c6,c7,p0,p1,p2,p3,p4,p5,p6,hw,MU _ .i64 _ hi];done))
   rcases key with⟨h1,h2⟩ | ⟨h1,h2⟩
   .exact .inl ⟨(),h2,by rw[hI,hd,h1,IC]⟩
   .exact .inr ⟨_,_,h2,by simp,.inr ⟨rfl,by rw[hI,hd,h1,IY]⟩⟩) (fun b hI=>by
   refine⟨_,_,by simp[f157] <;> exact⟨rfl,rfl⟩,by simp,.inl ⟨rfl,?_⟩⟩;rw[hI,C3];rfl) () (by simp)
  have hl1:¬ ((s.length:Int)<1):=by omega
  have hl2:¬ (16<(s.length:Int)):=by omega
  simp[f157]at hlp;rcases hq with⟨hq,ha⟩ | ⟨hq,ha⟩ <;> cases hq <;> simp[AJ,f157,hlp,hl1,hl2,BL,ha,hl]
 .have hl':BL s=false:=by simp[BL];intro h1 h2;exact absurd ⟨h1,h2⟩ hl
  by_cases h1:s.length<1
  .have:((s.length:Int)<1):=(by omega);simp[AJ,f157,this,hl']
  .have h1':¬ ((s.length:Int)<1):=(by omega);have h2:(16<(s.length:Int)):=(by omega);simp[AJ,f157,h1',h2,hl']
@[simp] theorem Xp(s:Bytes)(hs:s.length<1048577)(h:AF):AI MX (AE MX) 157 [.str s] h=some (.ret (.bool (BL s)),h):=Af Wz Zp rfl rfl (t157 s hs []) h
theorem t180(s:Bytes)(hs:s.length<1048577):AJ MX 180 [.str s] []=some (.ret (.bool (BL s)),[.arr 1 false (DF s)]):=by
 obtain⟨e,st,hlp,hq⟩:=AU (M:=MX) (fid:=180) (N:=50) (C:=AE MX) (c:=AL f180 0) (n:=s.length) (fun i (_:Unit)=>([(0,.str s),(7,.hs 0 s.length 1 0 s.length false),(8,.int .i64 s.length),(9,.int .i64 i)],[.arr 1 false (DF s)])) (fun i _=>HO 0 s=HO i (s.drop i))
  (fun r=>(r=(.ext 0,([(0,.str s),(7,.hs 0 s.length 1 0 s.length false),(8,.int .i64 s.length),(9,.int .i64 s.length),(10,.bool false)],[.arr 1 false (DF s)]))/\HO 0 s=true)\/(r=(.ret,([(2,.bool false)],[.arr 1 false (DF s)]))/\HO 0 s=false)) (fun i b hi hI=>by
  obtain⟨n,hn⟩:∃ n,n=s[i].toNat:=⟨_,rfl⟩;have hd:=Kc hi;rw[<- hn]at hd;have hw:wr .i64 ((i:Int)+1)=(i:Int)+1:=Cl (by omega) (by omega);have hi':((i:Int)<(s.length:Int)):=by omega
  have key:(Ig i n=true/\AO MX 180 50 (AE MX) (AL f180 0) ([(0,AV.str s),(7,AV.hs 0 s.length 1 0 s.length false),(8,AV.int .i64 s.length),(9,AV.int .i64 i)],[.arr 1 false (DF s)])=some (.nrm,([(0,AV.str s),(7,AV.hs 0 s.length 1 0 s.length false),(8,AV.int .i64 s.length),(9,AV.int .i64 ((i:Int)+1))],[.arr 1 false (DF s)])))\/(Ig i n=false/\AO MX 180 50 (AE MX) (AL f180 0) ([(0,AV.str s),(7,AV.hs 0 s.length 1 0 s.length false),(8,AV.int .i64 s.length),(9,AV.int .i64 i)],[.arr 1 false (DF s)])=some (.ret,([(2,.bool false)],[.arr 1 false (DF s)]))):=by
   have hc:∀ k:Nat,((k:Int)<=(n:Int)↔k<=n)/\((n:Int)<=(k:Int)↔n<=k)/\((n:Int)<(k:Int)↔n<k)/\((k:Int)<(n:Int)↔k<n)/\((n:Int)=(k:Int)↔n=k):=fun k=>by omega
   have c1:=(hc 97).1;have c2:=(hc 122).2.1;have c3:=(hc 65).1;have c4:=(hc 90).2.1;have c5:=(hc 95).2.2.2.2;have c6:=(hc 48).2.2.1;have c7:=(hc 57).2.2.2.1;simp only[Int.cast_ofNat_Int]at c1 c2 c3 c4 c5 c6 c7;have hc5:((n:Int) != 95)=decide (n≠95):=(by rw[Kt];simp[c5]);by_cases h0:i=0
   .have e0:((i:Int) == 0)=true:=(by simp[h0]);rcases nine n with⟨p0,p1,p2,p3,p4,p5,p6⟩ | ⟨p0,p1,p2,p3,p4,p5,p6⟩ | ⟨p0,p1,p2,p3,p4,p5,p6⟩ | ⟨p0,p1,p2,p3,p4,p5,p6⟩ | ⟨p0,p1,p2,p3,p4,p5,p6⟩ | ⟨p0,p1,p2,p3,p4,p5,p6⟩ | ⟨p0,p1,p2,p3,p4,p5,p6⟩ | ⟨p0,p1,p2,p3,p4,p5,p6⟩ | ⟨p0,p1,p2,p3,p4,p5,p6⟩ <;> first | (apply Or.inl;apply And.intro;(focus simp only[Ig,h0,p0,p1,p2,p3,p4];simp;try omega;done);(focus simp[f180,<- hn,hi',hc5,e0,c1,c2,c3,c4,c5,c6,c7,p0,p1,p2,p3,p4,p5,p6,hw,EX i 0 0 s.length 1 s.length false .i64 hi,C0,Fo hi];done)) | (apply Or.inr;apply And.intro;(focus simp only[Ig,h0,p0,p1,p2,p3,p4];simp;try omega;done);(focus simp[f180,<- hn,hi',hc5,e0,c1,c2,c3,c4,c5,c6,c7,p0,p1,p2,p3,p4,p5,p6,hw,EX i 0 0 s.length 1 s.length false .i64 hi,C0,Fo hi];done))
   .have e0:((i:Int) == 0)=false:=(by simp;omega);rcases nine n with⟨p0,p1,p2,p3,p4,p5,p6⟩ | ⟨p0,p1,p2,p3,p4,p5,p6⟩ | ⟨p0,p1,p2,p3,p4,p5,p6⟩ | ⟨p0,p1,p2,p3,p4,p5,p6⟩ | ⟨p0,p1,p2,p3,p4,p5,p6⟩ | ⟨p0,p1,p2,p3,p4,p5,p6⟩ | ⟨p0,p1,p2,p3,p4,p5,p6⟩ | ⟨p0,p1,p2,p3,p4,p5,p6⟩ | ⟨p0,p1,p2,p3,p4,p5,p6⟩ <;> first | (apply Or.inl;apply And.intro;(focus simp only[Ig,h0,p0,p1,p2,p3,p4];simp;try omega;done);(focus simp[f180,<- hn,hi',hc5,e0,c1,c2,c3,c4,c5,c6,c7,p0,p1,p2,p3,p4,p5,p6,hw,EX i 0 0 s.length 1 s.length false .i64 hi,C0,Fo hi];done)) | (apply Or.inr;apply And.intro;(focus simp only[Ig,h0,p0,p1,p2,p3,p4];simp;try omega;done);(focus simp[f180,<- hn,hi',hc5,e0,c1,c2,c3,c4,c5,c6,c7,p0,p1,p2,p3,p4,p5,p6,hw,EX i 0 0 s.length 1 s.length false .i64 hi,C0,Fo hi];done))
  rcases key with⟨h1,h2⟩ | ⟨h1,h2⟩
  .exact .inl ⟨(),h2,by rw[hI,hd,h1,IC]⟩
  .exact .inr ⟨_,_,h2,by simp,.inr ⟨rfl,by rw[hI,hd,h1,IY]⟩⟩) (fun b hI=>by
  refine⟨_,_,by simp[f180] <;> exact⟨rfl,rfl⟩,by simp,.inl ⟨rfl,?_⟩⟩;rw[hI,C3];rfl) () (by simp)
 simp[f180]at hlp;have hlen:decide ((1:Int)<=s.length/\(s.length:Int)<=16)=decide (1<=s.length/\s.length<=16):=by rw[Kt];simp;omega
 rcases hq with⟨hq,ha⟩ | ⟨hq,ha⟩ <;> cases hq <;> simp[AJ,f180,hlp,cvB,A3,C0,c181,BL,ha,hlen]
theorem t268(s:Bytes)(hs:s.length<1048577):AJ MX 268 [.str s] []=some (.ret (.bool (BL s)),[.arr 1 false (DF s)]):=by
 obtain⟨e,st,hlp,hq⟩:=AU (M:=MX) (fid:=268) (N:=50) (C:=AE MX) (c:=AL f268 0) (n:=s.length) (fun i (_:Unit)=>([(0,.str s),(7,.hs 0 s.length 1 0 s.length false),(8,.int .i64 s.length),(9,.int .i64 i)],[.arr 1 false (DF s)])) (fun i _=>HO 0 s=HO i (s.drop i))
  (fun r=>(r=(.ext 0,([(0,.str s),(7,.hs 0 s.length 1 0 s.length false),(8,.int .i64 s.length),(9,.int .i64 s.length),(10,.bool false)],[.arr 1 false (DF s)]))/\HO 0 s=true)\/(r=(.ret,([(2,.bool false)],[.arr 1 false (DF s)]))/\HO 0 s=false)) (fun i b hi hI=>by
  obtain⟨n,hn⟩:∃ n,n=s[i].toNat:=⟨_,rfl⟩;have hd:=Kc hi;rw[<- hn]at hd;have hw:wr .i64 ((i:Int)+1)=(i:Int)+1:=Cl (by omega) (by omega);have hi':((i:Int)<(s.length:Int)):=by omega
  have key:(Ig i n=true/\AO MX 268 50 (AE MX) (AL f268 0) ([(0,AV.str s),(7,AV.hs 0 s.length 1 0 s.length false),(8,AV.int .i64 s.length),(9,AV.int .i64 i)],[.arr 1 false (DF s)])=some (.nrm,([(0,AV.str s),(7,AV.hs 0 s.length 1 0 s.length false),(8,AV.int .i64 s.length),(9,AV.int .i64 ((i:Int)+1))],[.arr 1 false (DF s)])))\/(Ig i n=false/\AO MX 268 50 (AE MX) (AL f268 0) ([(0,AV.str s),(7,AV.hs 0 s.length 1 0 s.length false),(8,AV.int .i64 s.length),(9,AV.int .i64 i)],[.arr 1 false (DF s)])=some (.ret,([(2,.bool false)],[.arr 1 false (DF s)]))):=by
   have hc:∀ k:Nat,((k:Int)<=(n:Int)↔k<=n)/\((n:Int)<=(k:Int)↔n<=k)/\((n:Int)<(k:Int)↔n<k)/\((k:Int)<(n:Int)↔k<n)/\((n:Int)=(k:Int)↔n=k):=fun k=>by omega
   have c1:=(hc 97).1;have c2:=(hc 122).2.1;have c3:=(hc 65).1;have c4:=(hc 90).2.1;have c5:=(hc 95).2.2.2.2;have c6:=(hc 48).2.2.1;have c7:=(hc 57).2.2.2.1;simp only[Int.cast_ofNat_Int]at c1 c2 c3 c4 c5 c6 c7;have hc5:((n:Int) != 95)=decide (n≠95):=(by rw[Kt];simp[c5]);by_cases h0:i=0
   .have e0:((i:Int) == 0)=true:=(by simp[h0]);rcases nine n with⟨p0,p1,p2,p3,p4,p5,p6⟩ | ⟨p0,p1,p2,p3,p4,p5,p6⟩ | ⟨p0,p1,p2,p3,p4,p5,p6⟩ | ⟨p0,p1,p2,p3,p4,p5,p6⟩ | ⟨p0,p1,p2,p3,p4,p5,p6⟩ | ⟨p0,p1,p2,p3,p4,p5,p6⟩ | ⟨p0,p1,p2,p3,p4,p5,p6⟩ | ⟨p0,p1,p2,p3,p4,p5,p6⟩ | ⟨p0,p1,p2,p3,p4,p5,p6⟩ <;> first | (apply Or.inl;apply And.intro;(focus simp only[Ig,h0,p0,p1,p2,p3,p4];simp;try omega;done);(focus simp[f268,<- hn,hi',hc5,e0,c1,c2,c3,c4,c5,c6,c7,p0,p1,p2,p3,p4,p5,p6,hw,EX i 0 0 s.length 1 s.length false .i64 hi,C0,Fo hi];done)) | (apply Or.inr;apply And.intro;(focus simp only[Ig,h0,p0,p1,p2,p3,p4];simp;try omega;done);(focus simp[f268,<- hn,hi',hc5,e0,c1,c2,c3,c4,c5,c6,c7,p0,p1,p2,p3,p4,p5,p6,hw,EX i 0 0 s.length 1 s.length false .i64 hi,C0,Fo hi];done))
   .have e0:((i:Int) == 0)=false:=(by simp;omega);rcases nine n with⟨p0,p1,p2,p3,p4,p5,p6⟩ | ⟨p0,p1,p2,p3,p4,p5,p6⟩ | ⟨p0,p1,p2,p3,p4,p5,p6⟩ | ⟨p0,p1,p2,p3,p4,p5,p6⟩ | ⟨p0,p1,p2,p3,p4,p5,p6⟩ | ⟨p0,p1,p2,p3,p4,p5,p6⟩ | ⟨p0,p1,p2,p3,p4,p5,p6⟩ | ⟨p0,p1,p2,p3,p4,p5,p6⟩ | ⟨p0,p1,p2,p3,p4,p5,p6⟩ <;> first | (apply Or.inl;apply And.intro;(focus simp only[Ig,h0,p0,p1,p2,p3,p4];simp;try omega;done);(focus simp[f268,<- hn,hi',hc5,e0,c1,c2,c3,c4,c5,c6,c7,p0,p1,p2,p3,p4,p5,p6,hw,EX i 0 0 s.length 1 s.length false .i64 hi,C0,Fo hi];done)) | (apply Or.inr;apply And.intro;(focus simp only[Ig,h0,p0,p1,p2,p3,p4];simp;try omega;done);(focus simp[f268,<- hn,hi',hc5,e0,c1,c2,c3,c4,c5,c6,c7,p0,p1,p2,p3,p4,p5,p6,hw,EX i 0 0 s.length 1 s.length false .i64 hi,C0,Fo hi];done))
  rcases key with⟨h1,h2⟩ | ⟨h1,h2⟩
  .exact .inl ⟨(),h2,by rw[hI,hd,h1,IC]⟩
  .exact .inr ⟨_,_,h2,by simp,.inr ⟨rfl,by rw[hI,hd,h1,IY]⟩⟩) (fun b hI=>by
  refine⟨_,_,by simp[f268] <;> exact⟨rfl,rfl⟩,by simp,.inl ⟨rfl,?_⟩⟩;rw[hI,C3];rfl) () (by simp)
 simp[f268]at hlp;have hlen:decide ((1:Int)<=s.length/\(s.length:Int)<=16)=decide (1<=s.length/\s.length<=16):=by rw[Kt];simp;omega
 rcases hq with⟨hq,ha⟩ | ⟨hq,ha⟩ <;> cases hq <;> simp[AJ,f268,hlp,cvB,A3,C0,Sa,BL,ha,hlen]
@[simp] theorem c180(s:Bytes)(hs:s.length<1048577)(h:AF):AI MX (AE MX) 180 [.str s] h=some (.ret (.bool (BL s)),h):=Af W5 Zv rfl rfl (t180 s hs) h
@[simp] theorem c268(s:Bytes)(hs:s.length<1048577)(h:AF):AI MX (AE MX) 268 [.str s] h=some (.ret (.bool (BL s)),h):=Af Xb aO rfl rfl (t268 s hs) h
theorem Fc{α:Type}{p:α->Bool}{l:List α}{i:Nat}(hi:i<l.length)(h:∀ j (hj:j<l.length),j<i->p l[j]=false)(hp:p l[i]=true):l.findIdx? p=some i:=by
 rw[I8];exact⟨hi,hp,fun j hj=>by simp[h j (by omega) hj]⟩
theorem Fe{α:Type}{p:α->Bool}{l:List α}(h:∀ j (hj:j<l.length),p l[j]=false):l.findIdx? p=none:=by
 rw[Rj];intro x hx;obtain⟨j,hj,rfl⟩:=I9 hx;exact h j hj
theorem Ff{α:Type}{p:α->Bool}{l:List α}{i:Nat}(hi:i<l.length)(h:∀ j (hj:j<l.length),j<i->p l[j]=false)(hp:p l[i]=false):∀ j (hj:j<l.length),j<i+1->p l[j]=false:=fun j hj h0=>by
 by_cases hji:j=i
 .subst hji;exact hp
 .exact h j hj (by omega)
def ixI:Option Nat->Int
 | some i=>i
 | none => -1
theorem Ac.dest{d:AK}{xs:List AV}(h:Ac d xs):∃ pv cv,xs=[.str d.nm,pv,cv]/\SlR Cv 1 d.params pv/\SlR EY 2 d.cons cv:=h
theorem EY.dest{c:CS}{xs:List AV}(h:EY c xs):∃ fv,xs=[.str c.nm,fv]/\SlR Bo 5 c.fields fv:=h
theorem AR.Ab{t:TyV}{xs:List AV}(h:AR t xs):∃ pv,xs=[.int .i64 t.k,.int .i64 t.v,.str t.nm,pv]/\SlR AR 4 t.ps pv:=by
 cases t with
 | mk k v nm ps=>exact h.dest
theorem Bo.dest{f:DA}{xs:List AV}(h:Bo f xs):∃ pv,xs=[.str f.nm,.int .i64 f.ty.k,.int .i64 f.ty.v,.str f.ty.nm,pv]/\SlR AR 4 f.ty.ps pv:=by
 obtain⟨tx,rfl,ht⟩:=h;obtain⟨pv,rfl,hp⟩:=ht.Ab;exact⟨pv,rfl,hp⟩
theorem AY{i n:Nat}(hi:i<n)(hn:n<1048577):wr .i64 ((i:Int)+1)=(i:Int)+1:=Cl (by omega) (by omega)
theorem AZ{i n:Nat}(hi:i<n):((i:Int)<(n:Int)):=by omega
theorem t89(l:List Bytes)(v:AV)(s:Bytes)(hv:SlR Cv 1 l v)(hl:l.length<1048577)(h:AF):AJ MX 89 [v,.str s] h=some (.ret (.bool (l.findIdx? (fun x:Bytes=>x == s)).isSome),h):=by
 obtain⟨e,st,hlp,hq⟩:=AU (M:=MX) (fid:=89) (N:=18) (C:=AE MX) (c:=AL f89 0) (n:=l.length) (fun i (_:Unit)=>([(0,v),(1,.str s),(5,.int .i64 i)],h)) (fun i _=>∀ j (hj:j<l.length),j<i->(fun x:Bytes=>x == s) l[j]=false)
  (fun r=>(r=(.ext 0,([(0,v),(1,.str s),(5,.int .i64 l.length),(9,.bool false)],h))/\l.findIdx? (fun x:Bytes=>x == s)=none)\/(∃ i:Nat,r=(.ret,([(4,.bool true)],h))/\l.findIdx? (fun x:Bytes=>x == s)=some i)) (fun i b hi hI=>by
    obtain⟨e,he,hR⟩:=hv.ix hi;have hi':=AZ hi;have hw:=AY hi hl;cases hR;cases hx:(l[i] == s)with
    | true=>exact .inr ⟨_,_,by simp only[beq_iff_eq]at hx;simp[f89,hv.len,hi',he,hx] <;> exact⟨rfl,rfl⟩,by simp,.inr ⟨i,rfl,Fc (p:=(fun x:Bytes=>x == s)) hi hI hx⟩⟩
    | false=>exact .inl ⟨(),by have hx':=hx;simp only[beq_eq_false_iff_ne,ne_eq]at hx';simp[f89,hv.len,hi',he,hx,hx',hw],Ff (p:=(fun x:Bytes=>x == s)) hi hI hx⟩) (fun b hI=>by
    exact⟨_,_,by simp[f89,hv.len] <;> exact⟨rfl,rfl⟩,by simp,.inl ⟨rfl,Fe (p:=(fun x:Bytes=>x == s)) fun j hj=>hI j hj hj⟩⟩) () (fun j _ h0=>by omega)
 simp[f89]at hlp;rcases hq with⟨hq,hs⟩ | ⟨i,hq,hs⟩ <;> cases hq <;> simp[AJ,f89,hlp,hs]
theorem c89{l:List Bytes}{v:AV}(s:Bytes)(hv:SlR Cv 1 l v)(hl:l.length<1048577)(h:AF):AI MX (AE MX) 89 [v,.str s] h=some (.ret (.bool (l.findIdx? (fun x:Bytes=>x == s)).isSome),h):=
 Af ZN dd (by simp[hv.AA,AV.AA]) rfl (t89 l v s hv hl []) h
theorem t118(l:List AK)(v:AV)(s:Bytes)(hv:SlR Ac 3 l v)(hl:l.length<1048577)(h:AF):AJ MX 118 [v,.str s] h=some (.ret (.int .i64 (ixI (l.findIdx? (fun x:AK=>x.nm == s)))),h):=by
 obtain⟨e,st,hlp,hq⟩:=AU (M:=MX) (fid:=118) (N:=20) (C:=AE MX) (c:=AL f118 0) (n:=l.length) (fun i (_:Unit)=>([(0,v),(1,.str s),(5,.int .i64 i)],h)) (fun i _=>∀ j (hj:j<l.length),j<i->(fun x:AK=>x.nm == s) l[j]=false)
  (fun r=>(r=(.ext 0,([(0,v),(1,.str s),(5,.int .i64 l.length),(9,.bool false)],h))/\l.findIdx? (fun x:AK=>x.nm == s)=none)\/(∃ i:Nat,r=(.ret,([(4,.int .i64 i)],h))/\l.findIdx? (fun x:AK=>x.nm == s)=some i)) (fun i b hi hI=>by
    obtain⟨e,he,hR⟩:=hv.ix hi;have hi':=AZ hi;have hw:=AY hi hl;obtain⟨pv,cv,rfl,hp,hc⟩:=hR.dest;cases hx:(l[i].nm == s)with
    | true=>exact .inr ⟨_,_,by simp only[beq_iff_eq]at hx;simp[f118,hv.len,hi',he,hx] <;> exact⟨rfl,rfl⟩,by simp,.inr ⟨i,rfl,Fc (p:=(fun x:AK=>x.nm == s)) hi hI hx⟩⟩
    | false=>exact .inl ⟨(),by have hx':=hx;simp only[beq_eq_false_iff_ne,ne_eq]at hx';simp[f118,hv.len,hi',he,hx,hx',hw],Ff (p:=(fun x:AK=>x.nm == s)) hi hI hx⟩) (fun b hI=>by
    exact⟨_,_,by simp[f118,hv.len] <;> exact⟨rfl,rfl⟩,by simp,.inl ⟨rfl,Fe (p:=(fun x:AK=>x.nm == s)) fun j hj=>hI j hj hj⟩⟩) () (fun j _ h0=>by omega)
 simp[f118]at hlp;rcases hq with⟨hq,hs⟩ | ⟨i,hq,hs⟩ <;> cases hq <;> simp[AJ,f118,hlp,hs,ixI]
theorem c118{l:List AK}{v:AV}(s:Bytes)(hv:SlR Ac 3 l v)(hl:l.length<1048577)(h:AF):AI MX (AE MX) 118 [v,.str s] h=some (.ret (.int .i64 (ixI (l.findIdx? (fun x:AK=>x.nm == s)))),h):=
 Af Wh ZT (by simp[hv.AA,AV.AA]) rfl (t118 l v s hv hl []) h
theorem t72(l:List CS)(v:AV)(s:Bytes)(hv:SlR EY 2 l v)(hl:l.length<1048577)(h:AF):AJ MX 72 [v,.str s] h=some (.ret (.int .i64 (ixI (l.findIdx? (fun x:CS=>x.nm == s)))),h):=by
 obtain⟨e,st,hlp,hq⟩:=AU (M:=MX) (fid:=72) (N:=20) (C:=AE MX) (c:=AL f72 0) (n:=l.length) (fun i (_:Unit)=>([(0,v),(1,.str s),(5,.int .i64 i)],h)) (fun i _=>∀ j (hj:j<l.length),j<i->(fun x:CS=>x.nm == s) l[j]=false)
  (fun r=>(r=(.ext 0,([(0,v),(1,.str s),(5,.int .i64 l.length),(9,.bool false)],h))/\l.findIdx? (fun x:CS=>x.nm == s)=none)\/(∃ i:Nat,r=(.ret,([(4,.int .i64 i)],h))/\l.findIdx? (fun x:CS=>x.nm == s)=some i)) (fun i b hi hI=>by
    obtain⟨e,he,hR⟩:=hv.ix hi;have hi':=AZ hi;have hw:=AY hi hl;obtain⟨fv,rfl,hf⟩:=hR.dest;cases hx:(l[i].nm == s)with
    | true=>exact .inr ⟨_,_,by simp only[beq_iff_eq]at hx;simp[f72,hv.len,hi',he,hx] <;> exact⟨rfl,rfl⟩,by simp,.inr ⟨i,rfl,Fc (p:=(fun x:CS=>x.nm == s)) hi hI hx⟩⟩
    | false=>exact .inl ⟨(),by have hx':=hx;simp only[beq_eq_false_iff_ne,ne_eq]at hx';simp[f72,hv.len,hi',he,hx,hx',hw],Ff (p:=(fun x:CS=>x.nm == s)) hi hI hx⟩) (fun b hI=>by
    exact⟨_,_,by simp[f72,hv.len] <;> exact⟨rfl,rfl⟩,by simp,.inl ⟨rfl,Fe (p:=(fun x:CS=>x.nm == s)) fun j hj=>hI j hj hj⟩⟩) () (fun j _ h0=>by omega)
 simp[f72]at hlp;rcases hq with⟨hq,hs⟩ | ⟨i,hq,hs⟩ <;> cases hq <;> simp[AJ,f72,hlp,hs,ixI]
theorem c72{l:List CS}{v:AV}(s:Bytes)(hv:SlR EY 2 l v)(hl:l.length<1048577)(h:AF):AI MX (AE MX) 72 [v,.str s] h=some (.ret (.int .i64 (ixI (l.findIdx? (fun x:CS=>x.nm == s)))),h):=
 Af ZF dW (by simp[hv.AA,AV.AA]) rfl (t72 l v s hv hl []) h
theorem t269(l:List Bytes)(v:AV)(s:Bytes)(hv:SlR Cv 1 l v)(hl:l.length<1048577)(h:AF):AJ MX 269 [v,.str s] h=some (.ret (.int .i64 (ixI (l.findIdx? (fun x:Bytes=>x == s)))),h):=by
 obtain⟨e,st,hlp,hq⟩:=AU (M:=MX) (fid:=269) (N:=19) (C:=AE MX) (c:=AL f269 0) (n:=l.length) (fun i (_:Unit)=>([(0,v),(1,.str s),(7,.int .i64 l.length),(8,.int .i64 i)],h)) (fun i _=>∀ j (hj:j<l.length),j<i->(fun x:Bytes=>x == s) l[j]=false)
  (fun r=>(r=(.ext 0,([(0,v),(1,.str s),(7,.int .i64 l.length),(8,.int .i64 l.length),(9,.bool false)],h))/\l.findIdx? (fun x:Bytes=>x == s)=none)\/(∃ i:Nat,r=(.ret,([(4,.int .i64 i)],h))/\l.findIdx? (fun x:Bytes=>x == s)=some i)) (fun i b hi hI=>by
    obtain⟨e,he,hR⟩:=hv.ix hi;have hi':=AZ hi;have hw:=AY hi hl;cases hR;cases hx:(l[i] == s)with
    | true=>exact .inr ⟨_,_,by simp only[beq_iff_eq]at hx;simp[f269,hv.len,hi',he,hx] <;> exact⟨rfl,rfl⟩,by simp,.inr ⟨i,rfl,Fc (p:=(fun x:Bytes=>x == s)) hi hI hx⟩⟩
    | false=>
     have hx':(s == l[i])=false:=(by simp only[beq_eq_false_iff_ne,ne_eq]at hx ⊢;exact fun e=>hx e.symm);exact .inl ⟨(),by simp[f269,hv.len,hi',he,hx',hw],Ff (p:=(fun x:Bytes=>x == s)) hi hI hx⟩) (fun b hI=>by
    exact⟨_,_,by simp[f269,hv.len] <;> exact⟨rfl,rfl⟩,by simp,.inl ⟨rfl,Fe (p:=(fun x:Bytes=>x == s)) fun j hj=>hI j hj hj⟩⟩) () (fun j _ h0=>by omega)
 simp[f269]at hlp;rcases hq with⟨hq,hs⟩ | ⟨i,hq,hs⟩ <;> cases hq <;> simp[AJ,f269,hlp,hs,ixI,hv.len]
theorem c269{l:List Bytes}{v:AV}(s:Bytes)(hv:SlR Cv 1 l v)(hl:l.length<1048577)(h:AF):AI MX (AE MX) 269 [v,.str s] h=some (.ret (.int .i64 (ixI (l.findIdx? (fun x:Bytes=>x == s)))),h):=
 Af Xc aP (by simp[hv.AA,AV.AA]) rfl (t269 l v s hv hl []) h
theorem Sb(o:Option Nat):decide (0<=ixI o)=o.isSome:=by
 cases o with
 | none=>rfl
 | some i=>simp[ixI]
theorem c260{l:List Bytes}{v:AV}(s:Bytes)(hv:SlR Cv 1 l v)(hl:l.length<1048577)(h:AF):AI MX (AE MX) 260 [v,.str s] h=some (.ret (.bool (l.findIdx? (fun x:Bytes=>x == s)).isSome),h):=
 Af XX aL (by simp[hv.AA,AV.AA]) rfl (hr:=[]) (by simp[AJ,f260,c269 s hv hl,Sb]) h
def DM:Bytes:=[66,105,116]
def CO:Bytes:=[66,111,111,108]
def Ek(t:TyV):Bool:=decide (t.k=1)&&(t.nm == DM)
theorem c66{t:TyV}{xs:List AV}(hx:AR t xs)(h:AF):AI MX (AE MX) 66 [.agg xs] h=some (.ret (.bool (Ek t)),h):=by
 have hn:([AV.agg xs]:List AV).all AV.AA=true:=by simp[AV.AA,hx.AG]
 obtain⟨pv,rfl,hp⟩:=hx.Ab;by_cases h1:t.k=1
 .exact Af TK WY hn rfl (hr:=[.var false [.int .i64 t.k,.int .i64 t.v,.str t.nm,pv]]) (by simp[AJ,f66,h1,Ek,DM]) h
 .have hb:(t.k == 1)=false:=by simp[h1]
  exact Af TK WY hn rfl (hr:=[.var false [.int .i64 t.k,.int .i64 t.v,.str t.nm,pv]]) (by simp[AJ,f66,h1,hb,Ek,DM]) h
mutual
def F3:TyV->Int->Int->Int
 | .mk _ _ _ ps,d,c=>if 40<d\/200<c+1\/200<(ps.length:Int)then 201 else Cw ps (d+1) (c+1)
def Cw:List TyV->Int->Int->Int
 | [],_,c=>c
 | p::r,d,c=>if c<=200 then Cw r d (F3 p d c)else c
end
theorem NV(t:TyV):∀ d c,0<=c->c<=201->0<=F3 t d c/\F3 t d c<=201:=by
 induction t using TyV.ind with
 | h k v nm ps ih=>
  intro d c h0 h1;have key:∀(l:List TyV),(∀ p∈l,p∈ps)->∀ d c,0<=c->c<=201->0<=Cw l d c/\Cw l d c<=201:=by
   intro l;induction l with
   | nil=>intro _ d c h0 h1;simp[Cw,h0,h1]
   | cons p r ihr=>
    intro hm d c h0 h1;simp only[Cw];split
    .obtain⟨a,b⟩:=ih p (hm p (by simp)) d c h0 h1;exact ihr (fun q hq=>hm q (by simp[hq])) d _ a b
    .exact⟨h0,h1⟩
  simp only[F3];split
  .omega
  .exact key ps (fun _ h=>h) _ _ (by omega) (by omega)
def Bp(t:TyV):Bool:=decide (F3 t 1 0<=200)
theorem c110(t:TyV):∀(xs:List AV) (d c:Int),AR t xs->Sm 1048577 t->0<=d->d<=41->0<=c->c<=201->∀ h,AI MX (AE MX) 110 [.agg xs,.int .i64 d,.int .i64 c] h=some (.ret (.int .i64 (F3 t d c)),h):=by
 induction t using TyV.ind with
 | h k v nm ps ih=>
  intro xs d c hx hs d0 d1 c0 c1 h;have hn:([AV.agg xs,.int .i64 d,.int .i64 c]:List AV).all AV.AA=true:=by simp[AV.AA,hx.AG]
  obtain⟨pv,rfl,hp⟩:=hx.dest;obtain⟨s1,s2,s3⟩:=hs.dest;have wc:wr .i64 (c+1)=c+1:=Cl (by omega) (by omega);have wd:wr .i64 (d+1)=d+1:=Cl (by omega) (by omega);refine Af We ZQ hn rfl (hr:=[.var false [.int .i64 k,.int .i64 v,.str nm,pv]]) ?_ h;by_cases h1:40<d
  .simp[AJ,f110,wc,h1,F3]
  .by_cases h2:200<c+1
   .simp[AJ,f110,wc,h1,h2,F3]
   .by_cases h3:200<(ps.length:Int)
    .simp[AJ,f110,wc,h1,h2,h3,hp.len,F3]
    .obtain⟨e,st,hlp,hq⟩:=AU (M:=MX) (fid:=110) (N:=43) (C:=AE MX) (c:=AL f110 0) (n:=ps.length) (fun i (b:Int)=>([(1,.int .i64 d),(2,.int .i64 b),(3,.hp 0 0),(7,.int .i64 i)],[.var false [.int .i64 k,.int .i64 v,.str nm,pv]]))
      (fun i b=>Cw ps (d+1) (c+1)=Cw (ps.drop i) (d+1) b/\0<=b/\b<=201)
      (fun r=>∃(i:Nat) (x:AV),r=(.ext 0,([(1,.int .i64 d),(2,.int .i64 (Cw ps (d+1) (c+1))),(3,.hp 0 0),(7,.int .i64 i),(30,x)],[.var false [.int .i64 k,.int .i64 v,.str nm,pv]]))) (fun i b hi hI=>by
        obtain⟨e,he,hR⟩:=hp.ix hi;have hi':=AZ hi;have hw:=AY hi s2;obtain⟨i1,i2,i3⟩:=hI;have hdr:ps.drop i=ps[i]::ps.drop (i+1):=De hi;rw[hdr]at i1;simp only[Cw]at i1;have hrec:=ih ps[i] (Ap hi) e (d+1) b hR (s3 _ (Ap hi)) (by omega) (by omega) i2 i3;obtain⟨q,hq,hq'⟩:=hR.Ab;subst hq;by_cases hb:b<=200
        .rw[if_pos hb]at i1;have hrange:=NV ps[i] (d+1) b i2 i3;exact .inl ⟨F3 ps[i] (d+1) b,by simp[f110,hp.len,hi',he,hb,hw,wd,hrec],i1,hrange⟩
        .rw[if_neg hb]at i1;exact .inr ⟨_,_,by simp[f110,hp.len,hi',hb] <;> exact⟨rfl,rfl⟩,by simp,i,_,by rw[i1]⟩) (fun b hI=>by
        obtain⟨i1,i2,i3⟩:=hI;rw[C3]at i1;simp only[Cw]at i1;exact⟨_,_,by simp[f110,hp.len] <;> exact⟨rfl,rfl⟩,by simp,ps.length,_,by rw[i1]⟩) (c+1) ⟨by simp,by omega,by omega⟩
     obtain⟨i,x,hq⟩:=hq;cases hq;simp[f110]at hlp;simp[AJ,f110,wc,h1,h2,h3,hp.len,hlp,F3]
theorem c156(t:TyV):∀(xs:List AV) (d c:Int),AR t xs->Sm 1048577 t->0<=d->d<=41->0<=c->c<=201->∀ h,AI MX (AE MX) 156 [.agg xs,.int .i64 d,.int .i64 c] h=some (.ret (.int .i64 (F3 t d c)),h):=by
 induction t using TyV.ind with
 | h k v nm ps ih=>
  intro xs d c hx hs d0 d1 c0 c1 h;have hn:([AV.agg xs,.int .i64 d,.int .i64 c]:List AV).all AV.AA=true:=by simp[AV.AA,hx.AG]
  obtain⟨pv,rfl,hp⟩:=hx.dest;obtain⟨s1,s2,s3⟩:=hs.dest;have wc:wr .i64 (c+1)=c+1:=Cl (by omega) (by omega);have wd:wr .i64 (d+1)=d+1:=Cl (by omega) (by omega);refine Af Wy Zo hn rfl (hr:=[.var false [.int .i64 k,.int .i64 v,.str nm,pv]]) ?_ h;by_cases h1:40<d
  .simp[AJ,f156,wc,h1,F3]
  .by_cases h2:200<c+1
   .simp[AJ,f156,wc,h1,h2,F3]
   .by_cases h3:200<(ps.length:Int)
    .simp[AJ,f156,wc,h1,h2,h3,hp.len,F3]
    .obtain⟨e,st,hlp,hq⟩:=AU (M:=MX) (fid:=156) (N:=43) (C:=AE MX) (c:=AL f156 0) (n:=ps.length) (fun i (b:Int)=>([(1,.int .i64 d),(2,.int .i64 b),(3,.hp 0 0),(7,.int .i64 i)],[.var false [.int .i64 k,.int .i64 v,.str nm,pv]]))
      (fun i b=>Cw ps (d+1) (c+1)=Cw (ps.drop i) (d+1) b/\0<=b/\b<=201)
      (fun r=>∃(i:Nat) (x:AV),r=(.ext 0,([(1,.int .i64 d),(2,.int .i64 (Cw ps (d+1) (c+1))),(3,.hp 0 0),(7,.int .i64 i),(30,x)],[.var false [.int .i64 k,.int .i64 v,.str nm,pv]]))) (fun i b hi hI=>by
        obtain⟨e,he,hR⟩:=hp.ix hi;have hi':=AZ hi;have hw:=AY hi s2;obtain⟨i1,i2,i3⟩:=hI;have hdr:ps.drop i=ps[i]::ps.drop (i+1):=De hi;rw[hdr]at i1;simp only[Cw]at i1;have hrec:=ih ps[i] (Ap hi) e (d+1) b hR (s3 _ (Ap hi)) (by omega) (by omega) i2 i3;obtain⟨q,hq,hq'⟩:=hR.Ab;subst hq;by_cases hb:b<=200
        .rw[if_pos hb]at i1;have hrange:=NV ps[i] (d+1) b i2 i3;exact .inl ⟨F3 ps[i] (d+1) b,by simp[f156,hp.len,hi',he,hb,hw,wd,hrec],i1,hrange⟩
        .rw[if_neg hb]at i1;exact .inr ⟨_,_,by simp[f156,hp.len,hi',hb] <;> exact⟨rfl,rfl⟩,by simp,i,_,by rw[i1]⟩) (fun b hI=>by
        obtain⟨i1,i2,i3⟩:=hI;rw[C3]at i1;simp only[Cw]at i1;exact⟨_,_,by simp[f156,hp.len] <;> exact⟨rfl,rfl⟩,by simp,ps.length,_,by rw[i1]⟩) (c+1) ⟨by simp,by omega,by omega⟩
     obtain⟨i,x,hq⟩:=hq;cases hq;simp[f156]at hlp;simp[AJ,f156,wc,h1,h2,h3,hp.len,hlp,F3]
theorem c59{t:TyV}{xs:List AV}(hx:AR t xs)(hs:Sm 1048577 t)(h:AF):AI MX (AE MX) 59 [.agg xs] h=some (.ret (.bool (Bp t)),h):=by
 have hn:([AV.agg xs]:List AV).all AV.AA=true:=by simp[AV.AA,hx.AG]
 have hc:=c110 t xs 1 0 hx hs (by omega) (by omega) (by omega) (by omega);obtain⟨pv,rfl,hp⟩:=hx.Ab;exact Af ZC dT hn rfl (hr:=[.var false [.int .i64 t.k,.int .i64 t.v,.str t.nm,pv]]) (by simp[AJ,f59,hc,Bp]) h
theorem c86{t:TyV}{xs:List AV}(hx:AR t xs)(hs:Sm 1048577 t)(h:AF):AI MX (AE MX) 86 [.agg xs] h=some (.ret (.bool (Bp t)),h):=by
 have hn:([AV.agg xs]:List AV).all AV.AA=true:=by simp[AV.AA,hx.AG]
 have hc:=c156 t xs 1 0 hx hs (by omega) (by omega) (by omega) (by omega);obtain⟨pv,rfl,hp⟩:=hx.Ab;exact Af ZL db hn rfl (hr:=[.var false [.int .i64 t.k,.int .i64 t.v,.str t.nm,pv]]) (by simp[AJ,f86,hc,Bp]) h
def EK(l:List AK)(k:Int)(nm:Bytes):Option Nat:=
 if k=1 then(if nm == DM then some 1 else if nm == CO then some 0 else(l.findIdx? (fun d=>d.nm == nm)).map (fun i=>(l.getD i default).params.length))else some 0
mutual
def Aj(l:List AK)(params:List Bytes):TyV->Int
 | .mk k v nm ps=>if ¬ (0<=k/\k<=2)then 15 else if k=0/\params.findIdx? (fun x=>x == nm)=none then 6 else match EK l k nm with
  | none=>6
  | some n=>if ps.length≠n then 10 else if k=2/\¬ (0<=v/\v<=1000000000)then 2 else CP l params ps
def CP(l:List AK)(params:List Bytes):List TyV->Int
 | []=>0
 | p::r=>if Aj l params p=0 then CP l params r else Aj l params p
end
theorem G8{α:Type}{p:α->Bool}{l:List α}{i:Nat}(h:l.findIdx? p=some i):i<l.length:=by
 rw[I8]at h;exact h.1
theorem c186{l:List AK}{lv:AV}(hl:SlR Ac 3 l lv)(hll:l.length<1048577){params:List Bytes}{pr:AV}(hpr:SlR Cv 1 params pr)(hpl:params.length<1048577)(hps:∀ d∈l,d.params.length<1048577)(t:TyV):∀(xs:List AV),AR t xs->Sm 1048577 t->∀ h,AI MX (AE MX) 186 [lv,pr,.agg xs] h=some (.ret (.int .i64 (Aj l params t)),h):=by
 induction t using TyV.ind with
 | h k v nm ps ih=>
  intro xs hx hs h;have hn:([lv,pr,AV.agg xs]:List AV).all AV.AA=true:=by simp[AV.AA,hx.AG,hl.AA,hpr.AA]
  obtain⟨pv,rfl,hp⟩:=hx.dest;obtain⟨s1,s2,s3⟩:=hs.dest;refine Af XA Z0 hn rfl (hr:=[.var false [.int .i64 k,.int .i64 v,.str nm,pv]]) ?_ h;have hP:=c89 nm hpr hpl;have hD:=c118 nm hl hll;have hlp:CP l params ps=CP l params ps:=rfl;obtain⟨e,st,hlp,hq⟩:=AU (M:=MX) (fid:=186) (N:=81) (C:=AE MX) (c:=AL f186 0) (n:=ps.length) (fun i (_:Unit)=>([(0,lv),(1,pr),(5,.hp 0 0),(9,.int .i64 i)],[.var false [.int .i64 k,.int .i64 v,.str nm,pv]]))
   (fun i _=>CP l params ps=CP l params (ps.drop i))
   (fun r=>(r=(.ext 1,([(0,lv),(1,pr),(5,.hp 0 0),(9,.int .i64 ps.length),(67,.bool false)],[.var false [.int .i64 k,.int .i64 v,.str nm,pv]]))/\CP l params ps=0)\/r=(.ret,([(6,.int .i64 (CP l params ps))],[.var false [.int .i64 k,.int .i64 v,.str nm,pv]]))) (fun i b hi hI=>by
     obtain⟨e,he,hR⟩:=hp.ix hi;have hi':=AZ hi;have hw:=AY hi s2;have hdr:ps.drop i=ps[i]::ps.drop (i+1):=De hi;rw[hdr]at hI;simp only[CP]at hI;have hrec:=ih ps[i] (Ap hi) e hR (s3 _ (Ap hi));obtain⟨q,hq,hq'⟩:=hR.Ab;subst hq;by_cases h0:Aj l params ps[i]=0
     .rw[if_pos h0]at hI;exact .inl ⟨(),by simp[f186,hp.len,hi',he,hw,hrec,h0],hI⟩
     .rw[if_neg h0]at hI;have hne:(Aj l params ps[i] != 0)=true:=(by simp[h0]);exact .inr ⟨_,_,by simp[f186,hp.len,hi',he,hw,hrec,hne] <;> exact⟨rfl,rfl⟩,by simp,.inr (by rw[hI])⟩) (fun b hI=>by
     rw[C3]at hI;exact⟨_,_,by simp[f186,hp.len] <;> exact⟨rfl,rfl⟩,by simp,.inl ⟨rfl,hI⟩⟩) () (by simp)
  simp[f186]at hlp;by_cases hk:0<=k/\k<=2
  .have tail:∀ n:Nat,(∀ x:Int,x=n->(ps.length≠n->((ps.length:Int) != x)=true)/\(ps.length=n->((ps.length:Int) != x)=false)):=fun n x hx=>by
    subst hx;constructor
    .intro h;simp;omega
    .intro h;simp;omega
   have fin:∀(n:Nat),EK l k nm=some n->(k=0->params.findIdx? (fun x=>x == nm)≠none)->Aj l params (.mk k v nm ps)=(if ps.length≠n then 10 else if k=2/\¬ (0<=v/\v<=1000000000)then 2 else CP l params ps):=fun n hc h0=>by
    simp only[Aj,hc];rw[if_neg (fun h=>h hk),if_neg (fun h=>h0 h.1 h.2)]
   have kk:k=0\/k=1\/k=2:=(by omega);rcases kk with rfl | rfl | rfl
   ·-- a variable
    cases hm:params.findIdx? (fun x=>x == nm)with
    | none=>simp[AJ,f186,hP,hm,Aj]
    | some j=>
     rw[fin 0 rfl (by simp[hm])];by_cases hL:ps.length=0
     .have:=(tail 0 0 rfl).2 hL;rcases hq with⟨hq,ha⟩ | hq <;> cases hq <;> simp[AJ,f186,hP,hm,hp.len,this,hL,hlp] <;> try exact ha.symm
     .have:=(tail 0 0 rfl).1 hL;simp[AJ,f186,hP,hm,hp.len,this,hL]
   .by_cases hb:nm=DM
    .rw[fin 1 (by simp[EK,hb]) (by simp)];have hb1:(nm == [66,105,116])=true:=(by simp[hb,DM]);by_cases hL:ps.length=1
     .have:=(tail 1 1 rfl).2 hL;rcases hq with⟨hq,ha⟩ | hq <;> cases hq <;> simp[AJ,f186,hD,hp.len,this,hL,hlp,hb1] <;> try exact ha.symm
     .have:=(tail 1 1 rfl).1 hL;simp[AJ,f186,hD,hp.len,this,hL,hb1]
    .have hb1:(nm == [66,105,116])=false:=(by simpa[DM]using hb);by_cases hb2:nm=CO
     .rw[fin 0 (by simp[EK,hb2,CO,DM]) (by simp)];have hb3:(nm == [66,111,111,108])=true:=(by simp[hb2,CO]);by_cases hL:ps.length=0
      .have:=(tail 0 0 rfl).2 hL;rcases hq with⟨hq,ha⟩ | hq <;> cases hq <;> simp[AJ,f186,hD,hp.len,this,hL,hlp,hb1,hb3] <;> try exact ha.symm
      .have:=(tail 0 0 rfl).1 hL;simp[AJ,f186,hD,hp.len,this,hL,hb1,hb3]
     .have hb3:(nm == [66,111,111,108])=false:=(by simpa[CO]using hb2);cases hf:l.findIdx? (fun d=>d.nm == nm)with
      | none=>
       have:Aj l params (.mk 1 v nm ps)=6:=by
        have hc:EK l 1 nm=none:=(by simp[EK,hb,hb2,hf]);simp[Aj,hc]
       rw[this];simp[AJ,f186,hD,hf,ixI,hb1,hb3]
      | some i=>
       have hi:=G8 hf;obtain⟨e,he,hR⟩:=hl.ix hi;obtain⟨pp,cc,rfl,hpp,hcc⟩:=hR.dest;rw[fin l[i].params.length (by simp[EK,hb,hb2,hf,hi]) (by simp)];by_cases hL:ps.length=l[i].params.length
       .have:=(tail _ (l[i].params.length:Int) rfl).2 hL;rcases hq with⟨hq,ha⟩ | hq <;> cases hq <;> simp[AJ,f186,hD,hf,ixI,hp.len,this,hlp,hb1,hb3,he,hpp.len,hL] <;> try exact ha.symm
       .have:=(tail _ (l[i].params.length:Int) rfl).1 hL;simp[AJ,f186,hD,hf,ixI,hp.len,this,hL,hb1,hb3,he,hpp.len]
   .rw[fin 0 rfl (by simp)];by_cases hL:ps.length=0
    .have:=(tail 0 0 rfl).2 hL;by_cases hv:0<=v/\v<=1000000000
     .rcases hq with⟨hq,ha⟩ | hq <;> cases hq <;> simp[AJ,f186,hp.len,this,hL,hlp,hv] <;> try exact ha.symm
     .simp[AJ,f186,hp.len,this,hL,hv]
    .have:=(tail 0 0 rfl).1 hL;simp[AJ,f186,hp.len,this,hL]
  .simp[AJ,f186,hk,Aj]
theorem Av{h:AF}{i:Nat}{b:Blk}(hb:h[i]? = some b)(l:AF):(h++l)[i]? = some b:=by
 rw[BA (Ae.1 hb).1];exact hb
theorem FJ(h:AF)(x y:Blk):(h++[x]).set h.length y=h++[y]:=by simp
theorem BR(h:AF)(x:Blk):(h++[x])[h.length]? = some x:=by simp
theorem _root_.Go.Am.SlR.slice{α:Type}{R:α->List AV->Prop}{sz:Nat}{l:List α}{v:AV}(hv:SlR R sz l v){i:Nat}(hi:i<=l.length):∃ w,slA sz v none (some (.int .i64 i)) none=some w/\SlR R sz (l.take i) w:=by
 rcases hv with⟨rfl,rfl⟩ | ⟨ex,es,rfl,hl,hr⟩
 .have:i=0:=by simpa using hi
  subst this;exact⟨.AH,rfl,.inl ⟨by simp,rfl⟩⟩
 .have h0:(0:Int)<=i/\(i:Int)<=es.length:=by omega
  have h1:F7 (i:Int) es.length=some i:=by simp[F7,h0]
  have h2:F7 0 i=some 0:=by simp[F7]
  refine⟨.sl sz (ex&&Nat.beq i es.length) (es.take i),by simp[slA,C9,Go.Am.intOf,h1,h2,A1,KX],.inr ⟨_,_,rfl,by simp[hl],fun j a e h3 h4 => ?_⟩⟩;rw[List.getElem?_take]at h3 h4;split at h3
  .rename_i hj;rw[if_pos hj]at h4;exact hr j a e h3 h4
  .cases h3
def Bx(l:List AK)(params:List Bytes)(t:TyV):Int:=if Bp t then Aj l params t else 8
theorem c153{l:List AK}{lv:AV}(hl:SlR Ac 3 l lv)(hll:l.length<1048577){params:List Bytes}{pr:AV}(hpr:SlR Cv 1 params pr)(hpl:params.length<1048577)(hps:∀ d∈l,d.params.length<1048577){t:TyV}{xs:List AV}(hx:AR t xs)(hs:Sm 1048577 t)(h:AF) :
 AI MX (AE MX) 153 [lv,pr,.agg xs] h=some (.ret (.int .i64 (Bx l params t)),h):=by
 have hn:([lv,pr,AV.agg xs]:List AV).all AV.AA=true:=by simp[AV.AA,hx.AG,hl.AA,hpr.AA]
 have h1:=c59 hx hs;have h2:=c186 hl hll hpr hpl hps t xs hx hs;obtain⟨pv,rfl,hp⟩:=hx.Ab;cases hb:Bp t with
 | true=>exact Af Qu Tb hn rfl (hr:=[.var false [.int .i64 t.k,.int .i64 t.v,.str t.nm,pv]]) (by simp[AJ,f153,h1,h2,hb,Bx]) h
 | false=>exact Af Qu Tb hn rfl (hr:=[.var false [.int .i64 t.k,.int .i64 t.v,.str t.nm,pv]]) (by simp[AJ,f153,h1,hb,Bx]) h
def Ht(d:AK)(s:Bytes):Bool:=(d.cons.findIdx? (fun c=>c.nm == s)).isSome
def Ih(l:List AK)(s:Bytes):Bool:=(l.findIdx? (fun d=>Ht d s)).isSome
theorem c212{l:List AK}{lv:AV}(s:Bytes)(hl:SlR Ac 3 l lv)(hll:l.length<1048577)(hcs:∀ d∈l,d.cons.length<1048577)(h:AF):AI MX (AE MX) 212 [lv,.str s] h=some (.ret (.bool (Ih l s)),h):=by
 refine Af XH Z7 (by simp[hl.AA,AV.AA]) rfl (hr:=[]) ?_ h;obtain⟨e,st,hlp,hq⟩:=AU (M:=MX) (fid:=212) (N:=34) (C:=AE MX) (c:=AL f212 0) (n:=l.length) (fun i (_:Unit)=>([(0,lv),(1,.str s),(5,.int .i64 i)],[])) (fun i _=>∀ j (hj:j<l.length),j<i->(fun d=>Ht d s) l[j]=false)
  (fun r=>(r=(.ext 0,([(0,lv),(1,.str s),(5,.int .i64 l.length),(10,.bool false)],[]))/\Ih l s=false)\/(r=(.ret,([(4,.bool true)],[]))/\Ih l s=true)) (fun i b hi hI=>by
    obtain⟨e,he,hR⟩:=hl.ix hi;have hi':=AZ hi;have hw:=AY hi hll;obtain⟨pv,cv,rfl,hp,hc⟩:=hR.dest;have hcl:=hcs _ (Ap hi);obtain⟨e2,st2,hlp2,hq2⟩:=AU (M:=MX) (fid:=212) (N:=34) (C:=AE MX) (c:=AL f212 1) (n:=l[i].cons.length) (fun k (_:Unit)=>([(0,lv),(1,.str s),(5,.int .i64 i),(6,.int .i64 k)],[])) (fun k _=>∀ j (hj:j<l[i].cons.length),j<k->(fun c:CS=>c.nm == s) l[i].cons[j]=false)
     (fun r=>(r=(.ext 2,([(0,lv),(1,.str s),(5,.int .i64 i),(6,.int .i64 l[i].cons.length),(20,.bool false)],[]))/\Ht l[i] s=false)\/(r=(.ret,([(4,.bool true)],[]))/\Ht l[i] s=true)) (fun k b hk hK=>by
       obtain⟨e',he',hR'⟩:=hc.ix hk;have hk':=AZ hk;have hwk:=AY hk hcl;obtain⟨fv,rfl,hf⟩:=hR'.dest;cases hx:(l[i].cons[k].nm == s)with
       | true=>exact .inr ⟨_,_,by simp only[beq_iff_eq]at hx;simp[f212,hc.len,hk',hi',he,he',hx] <;> first | exact⟨rfl,rfl⟩ | rfl,by simp,.inr ⟨rfl,by simp only[Ht];rw[Fc (p:=fun c:CS=>c.nm == s) hk hK hx];rfl⟩⟩
       | false=>exact .inl ⟨(),by have hx':=hx;simp only[beq_eq_false_iff_ne,ne_eq]at hx';simp[f212,hc.len,hk',hi',he,he',hx,hx',hwk],Ff (p:=fun c:CS=>c.nm == s) hk hK hx⟩) (fun b hK=>by
       exact⟨_,_,by simp[f212,hc.len,hi',he] <;> first | exact⟨rfl,rfl⟩ | rfl,by simp,.inl ⟨rfl,by simp only[Ht];rw[Fe (p:=fun c:CS=>c.nm == s) fun j hj=>hK j hj hj];rfl⟩⟩) () (fun j _ h0=>by omega)
    simp[f212]at hlp2;rcases hq2 with⟨hq2,hs2⟩ | ⟨hq2,hs2⟩ <;> cases hq2
    .exact .inl ⟨(),by simp[f212,hl.len,hi',hlp2,hw],Ff (p:=fun d=>Ht d s) hi hI hs2⟩
    .exact .inr ⟨_,_,by simp[f212,hl.len,hi',hlp2] <;> first | exact⟨rfl,rfl⟩ | rfl,by simp,.inr ⟨rfl,by simp only[Ih];rw[Fc (p:=fun d=>Ht d s) hi hI hs2];rfl⟩⟩) (fun b hI=>by
    exact⟨_,_,by simp[f212,hl.len] <;> first | exact⟨rfl,rfl⟩ | rfl,by simp,.inl ⟨rfl,by simp only[Ih];rw[Fe (p:=fun d=>Ht d s) fun j hj=>hI j hj hj];rfl⟩⟩) () (fun j _ h0=>by omega)
 simp[f212]at hlp;rcases hq with⟨hq,hs⟩ | ⟨hq,hs⟩ <;> cases hq <;> simp[AJ,f212,hlp,hs]
def E4(l:List AK)(params:List Bytes):List DA->List DA->Int
 | _,[]=>0
 | prev,f::r=>if BL f.nm=false then 4 else if(prev.findIdx? (fun g=>g.nm == f.nm)).isSome then 5 else if Bx l params f.ty=0 then E4 l params (prev++[f]) r else Bx l params f.ty
def DN(l:List AK)(params:List Bytes)(fs:List DA):Int:=if 8<fs.length then 8 else E4 l params [] fs
theorem c213{l:List AK}{lv:AV}(hl:SlR Ac 3 l lv)(hsl:SmL 1048577 l){d:AK}{dx:List AV}(hd:Ac d dx)(hsd:SmD 1048577 d){c:CS}{cx:List AV}(hc:EY c cx)(hsc:SmC 1048577 c)(h:AF) :
 AI MX (AE MX) 213 [.agg dx,.agg cx,lv] h=some (.ret (.int .i64 (DN l d.params c.fields)),h):=by
 obtain⟨pv,cv,rfl,hp,hcv⟩:=hd.dest;obtain⟨fv,rfl,hf⟩:=hc.dest;have hn:([AV.agg [.str d.nm,pv,cv],AV.agg [.str c.nm,fv],lv]:List AV).all AV.AA=true:=by simp[AV.AA,AG,hl.AA,hp.AA,hcv.AA,hf.AA]
 obtain⟨hr,hc'⟩:∃ hr,AJ MX 213 [.agg [.str d.nm,pv,cv],.agg [.str c.nm,fv],lv] []=some (.ret (.int .i64 (DN l d.params c.fields)),hr):=by
  by_cases h8:8<c.fields.length
  .have h8':(8<(c.fields.length:Int)):=(by omega);exact⟨_,by simp[AJ,f213,hf.len,h8',DN,h8] <;> rfl⟩
  .have h8':¬ (8<(c.fields.length:Int)):=(by omega);have hfl:c.fields.length<1048577:=(by omega);obtain⟨e,st,hlp,hq⟩:=AU (M:=MX) (fid:=213) (N:=54) (C:=AE MX) (c:=AL f213 0) (n:=c.fields.length) (fun i (b:AF)=>([(2,lv),(3,.hp 0 0),(4,.hp 1 0),(7,.int .i64 i)],Blk.var false [AV.str d.nm,pv,cv]::Blk.var false [AV.str c.nm,fv]::b))
    (fun i b=>E4 l d.params [] c.fields=E4 l d.params (c.fields.take i) (c.fields.drop i))
    (fun r=>∃ b:AF,(r=(.ext 0,([(2,lv),(3,.hp 0 0),(4,.hp 1 0),(7,.int .i64 c.fields.length),(19,.bool false)],b))/\E4 l d.params [] c.fields=0)\/r=(.ret,([(6,.int .i64 (E4 l d.params [] c.fields))],b))) (fun i b hi hI=>by
      have i2:=hI;obtain⟨e,he,hR⟩:=hf.ix hi;have hi':=AZ hi;have hw:=AY hi hfl;have hmem:=Ap hi;obtain⟨hnm,hsm⟩:=hsc.2.2 _ hmem;obtain⟨tx,hex,ht⟩:=hR;subst hex;have h153:=c153 hl hsl.1 hp hsd.2.1 (fun d hd=>(hsl.2 d hd).2.1) ht hsm;have hN:=Xp c.fields[i].nm hnm;obtain⟨qv,rfl,hqv⟩:=ht.Ab;have hdr:c.fields.drop i=c.fields[i]::c.fields.drop (i+1):=De hi;have htk:c.fields.take i++[c.fields[i]]=c.fields.take (i+1):=(by simp);rw[hdr]at i2;simp only[E4]at i2;rw[htk]at i2;cases hN0:BL c.fields[i].nm with
      | false=>
       rw[hN0]at i2;exact .inr ⟨_,_,by simp[f213,hf.len,hi',he,hN,hN0] <;> first | exact⟨rfl,rfl⟩ | rfl,by simp,_,.inr (by rw[i2];rfl)⟩
      | true=>
       rw[hN0]at i2;obtain⟨e2,st2,hlp2,hq2⟩:=AU (M:=MX) (fid:=213) (N:=54) (C:=AE MX) (c:=AL f213 1) (n:=i) (fun k (_:Unit)=>([(2,lv),(3,.hp 0 0),(4,.hp 1 0),(7,.int .i64 i),(8,.hp (b.length+1+1) 0),(9,.int .i64 k)],(Blk.var false [AV.str d.nm,pv,cv]::Blk.var false [AV.str c.nm,fv]::(b++[Blk.var false [AV.str c.fields[i].nm,AV.int IntKind.i64 c.fields[i].ty.k,AV.int IntKind.i64 c.fields[i].ty.v,AV.str c.fields[i].ty.nm,qv]]:AF))))
        (fun k _=>∀ j (hj:j<(c.fields.take i).length),j<k->(fun g:DA=>g.nm == c.fields[i].nm) (c.fields.take i)[j]=false)
        (fun r=>(r=(.ext 2,([(2,lv),(3,.hp 0 0),(4,.hp 1 0),(7,.int .i64 i),(8,.hp (b.length+1+1) 0),(9,.int .i64 i),(33,.bool false)],(Blk.var false [AV.str d.nm,pv,cv]::Blk.var false [AV.str c.nm,fv]::(b++[Blk.var false [AV.str c.fields[i].nm,AV.int IntKind.i64 c.fields[i].ty.k,AV.int IntKind.i64 c.fields[i].ty.v,AV.str c.fields[i].ty.nm,qv]]:AF))))/\((c.fields.take i).findIdx? (fun g=>g.nm == c.fields[i].nm)).isSome=false)\/(r=(.ret,([(6,.int .i64 5)],(Blk.var false [AV.str d.nm,pv,cv]::Blk.var false [AV.str c.nm,fv]::(b++[Blk.var false [AV.str c.fields[i].nm,AV.int IntKind.i64 c.fields[i].ty.k,AV.int IntKind.i64 c.fields[i].ty.v,AV.str c.fields[i].ty.nm,qv]]:AF))))/\((c.fields.take i).findIdx? (fun g=>g.nm == c.fields[i].nm)).isSome=true)) (fun k u hk hK=>by
          have hkl:k<c.fields.length:=(by omega);have hkt:k<(c.fields.take i).length:=(by simp;omega);have hke:(c.fields.take i)[k]=c.fields[k]:=(by simp);obtain⟨e',he',hR'⟩:=hf.ix hkl;have hk':=AZ hk;have hwk:=AY hk (by omega);obtain⟨qv',rfl,hqv'⟩:=hR'.dest;cases hx:(c.fields[k].nm == c.fields[i].nm)with
          | true=>exact .inr ⟨_,_,by simp[f213,hk',he',hx] <;> first | exact⟨rfl,rfl⟩ | rfl,by simp,.inr ⟨rfl,by rw[Fc (p:=fun g:DA=>g.nm == c.fields[i].nm) hkt hK (by rw[hke];exact hx)];rfl⟩⟩
          | false=>exact .inl ⟨(),by simp[f213,hk',he',hx,hwk],Ff (p:=fun g:DA=>g.nm == c.fields[i].nm) hkt hK (by rw[hke];exact hx)⟩) (fun u hK=>by
          exact⟨_,_,by simp[f213] <;> first | exact⟨rfl,rfl⟩ | rfl,by simp,.inl ⟨rfl,by rw[Fe (p:=fun g:DA=>g.nm == c.fields[i].nm) fun j hj=>hK j hj (by simp at hj;omega)];rfl⟩⟩) () (fun j _ h0=>by omega)
       simp[f213]at hlp2;rcases hq2 with⟨hq2,hs2⟩ | ⟨hq2,hs2⟩ <;> cases hq2
       .rw[hs2]at i2;by_cases h0:Bx l d.params c.fields[i].ty=0
        .rw[if_pos h0]at i2;exact .inl ⟨_,by simp[f213,hf.len,hi',he,hN,hN0,hlp2,h153,h0,hw,ht.AG,AG,AV.AA,hl.AA,hp.AA,hqv.AA] <;> rfl,by simpa using i2⟩
        .rw[if_neg h0]at i2;have hne:(Bx l d.params c.fields[i].ty != 0)=true:=(by simp[h0]);exact .inr ⟨_,_,by simp[f213,hf.len,hi',he,hN,hN0,hlp2,h153,hne,AG,AV.AA,hl.AA,hp.AA,hqv.AA] <;> first | exact⟨rfl,rfl⟩ | rfl,by simp,_,.inr (by rw[i2];rfl)⟩
       .rw[hs2]at i2;exact .inr ⟨_,_,by simp[f213,hf.len,hi',he,hN,hN0,hlp2] <;> first | exact⟨rfl,rfl⟩ | rfl,by simp,_,.inr (by rw[i2];rfl)⟩) (fun b hI=>by
      have i2:=hI;rw[C3]at i2;exact⟨_,_,by simp[f213,hf.len] <;> first | exact⟨rfl,rfl⟩ | rfl,by simp,_,.inl ⟨rfl,i2⟩⟩) ([]:AF) (by simp)
   simp[f213]at hlp;obtain⟨b,hq⟩:=hq;rcases hq with⟨hq,hs⟩ | hq <;> cases hq
   .exact⟨_,by simp[AJ,f213,hf.len,h8',hlp,DN,h8,hs] <;> rfl⟩
   .exact⟨_,by simp[AJ,f213,hf.len,h8',hlp,DN,h8] <;> rfl⟩
 exact Af XI Z8 hn rfl hc' h
def Cc:Bytes:=[70,97,108,115,101]
def EB:Bytes:=[84,114,117,101]
def EZ:Bytes:=[73,110,116,101,103,101,114]
def DP:List Bytes->List Bytes->Int
 | _,[]=>0
 | prev,p::r=>if BL p=false then 4 else if(prev.findIdx? (fun x=>x == p)).isSome then 5 else DP (prev++[p]) r
def Fz(l:List AK)(params:List Bytes):List CS->List CS->Int
 | _,[]=>0
 | prev,c::r=>if BL c.nm=false then 4 else if Ih l c.nm then 5 else if(prev.findIdx? (fun g=>g.nm == c.nm)).isSome then 5 else if c.nm == Cc then 5 else if c.nm == EB then 5 else
  if DN l params c.fields=0 then Fz l params (prev++[c]) r else DN l params c.fields
def Bq(d:AK)(l:List AK):Int:=
 if BL d.nm=false then 4 else if(l.findIdx? (fun x=>x.nm == d.nm)).isSome then 5 else if d.nm == DM then 5 else if d.nm == CO then 5 else if d.nm == EZ then 5 else
 if 4<d.params.length then 8 else if 16<d.cons.length then 8 else if d.cons.length=0 then 10 else
 if DP [] d.params=0 then Fz l d.params [] d.cons else DP [] d.params
theorem VV(c:List CS)(s:Bytes):Ih [⟨[],[],c⟩] s=(c.findIdx? (fun g=>g.nm == s)).isSome:=by
 simp only[Ih,Ht,List.findIdx?_cons];cases(c.findIdx? (fun g=>g.nm == s)).isSome <;> simp
theorem c185{l:List AK}{lv:AV}(hl:SlR Ac 3 l lv)(hsl:SmL 1048577 l){d:AK}{dx:List AV}(hd:Ac d dx)(hsd:SmD 1048577 d)(h:AF) :
 AI MX (AE MX) 185 [.agg dx,lv] h=some (.ret (.int .i64 (Bq d l)),h):=by
 have h213:=fun{c:CS} {cx:List AV} (hc:EY c cx) (hsc:SmC 1048577 c)=>c213 hl hsl hd hsd hc hsc
 obtain⟨s1,s2,s3,s4,s5⟩:=hsd;have hN:=Xp d.nm s1;have hD:=c118 d.nm hl hsl.1;obtain⟨pv,cv,rfl,hp,hcv⟩:=hd.dest;have hn:([AV.agg [.str d.nm,pv,cv],lv]:List AV).all AV.AA=true:=by simp[AV.AA,AG,hl.AA,hp.AA,hcv.AA]
 obtain⟨hr,hc'⟩:∃ hr,AJ MX 185 [.agg [.str d.nm,pv,cv],lv] []=some (.ret (.int .i64 (Bq d l)),hr):=by
  unfold Bq;cases hN0:BL d.nm with
  | false=>exact⟨_,by simp[AJ,f185,hN,hN0] <;> rfl⟩
  | true=>
  cases hD0:l.findIdx? (fun x=>x.nm == d.nm)with
  | some j=>
   exact⟨_,by simp[AJ,f185,hN,hN0,hD,hD0,ixI] <;> rfl⟩
  | none=>
  cases hb1:(d.nm == DM)with
  | true=>
   have hb1':(d.nm == [66,105,116])=true:=hb1;exact⟨_,by simp[AJ,f185,hN,hN0,hD,hD0,ixI,hb1'] <;> rfl⟩
  | false=>
  have hb1':(d.nm == [66,105,116])=false:=hb1;cases hb2:(d.nm == CO)with
  | true=>
   have hb2':(d.nm == [66,111,111,108])=true:=hb2;exact⟨_,by simp[AJ,f185,hN,hN0,hD,hD0,ixI,hb1',hb2'] <;> rfl⟩
  | false=>
  have hb2':(d.nm == [66,111,111,108])=false:=hb2;cases hb3:(d.nm == EZ)with
  | true=>
   have hb3':(d.nm == [73,110,116,101,103,101,114])=true:=hb3;exact⟨_,by simp[AJ,f185,hN,hN0,hD,hD0,ixI,hb1',hb2',hb3'] <;> rfl⟩
  | false=>
  have hb3':(d.nm == [73,110,116,101,103,101,114])=false:=hb3;by_cases h4:4<d.params.length
  .have h4':(4<(d.params.length:Int)):=(by omega);exact⟨_,by simp[AJ,f185,hN,hN0,hD,hD0,ixI,hb1',hb2',hb3',hp.len,h4',h4] <;> rfl⟩
  .have h4':¬ (4<(d.params.length:Int)):=(by omega);by_cases h16:16<d.cons.length
   .have h16':(16<(d.cons.length:Int)):=(by omega);exact⟨_,by simp[AJ,f185,hN,hN0,hD,hD0,ixI,hb1',hb2',hb3',hp.len,hcv.len,h4',h4,h16',h16] <;> rfl⟩
   .have h16':¬ (16<(d.cons.length:Int)):=(by omega);by_cases h0:d.cons.length=0
    .exact⟨_,by simp[AJ,f185,hN,hN0,hD,hD0,ixI,hb1',hb2',hb3',hp.len,hcv.len,h4',h4,h16',h16,h0] <;> rfl⟩
    .have h0':((d.cons.length:Int) == 0)=false:=(by rw[beq_eq_false_iff_ne];omega);obtain⟨e,st,hlp,hq⟩:=AU (M:=MX) (fid:=185) (N:=119) (C:=AE MX) (c:=AL f185 0) (n:=d.params.length) (fun i (_:Unit)=>([(1,lv),(2,.hp 0 0),(5,.int .i64 i)],[Blk.var false [AV.str d.nm,pv,cv]]))
      (fun i _=>DP [] d.params=DP (d.params.take i) (d.params.drop i))
      (fun r=>(r=(.ext 0,([(1,lv),(2,.hp 0 0),(5,.int .i64 d.params.length),(51,.bool false)],[Blk.var false [AV.str d.nm,pv,cv]]))/\DP [] d.params=0)\/(r=(.ret,([(4,.int .i64 (DP [] d.params))],[Blk.var false [AV.str d.nm,pv,cv]]))/\DP [] d.params≠0)) (fun i b hi hI=>by
        obtain⟨e,he,hR⟩:=hp.ix hi;have hi':=AZ hi;have hw:=AY hi s2;cases hR;have hNp:=Xp d.params[i] (s3 _ (Ap hi));obtain⟨w,hw1,hw2⟩:=hp.slice (KM hi);have hH:=c89 d.params[i] hw2 (by simp;omega);have hdr:d.params.drop i=d.params[i]::d.params.drop (i+1):=De hi;have htk:d.params.take i++[d.params[i]]=d.params.take (i+1):=(by simp);rw[hdr]at hI;simp only[DP]at hI;rw[htk]at hI;cases hNp0:BL d.params[i]with
        | false=>
         rw[hNp0]at hI;exact .inr ⟨_,_,by simp[f185,hp.len,hi',he,hNp,hNp0] <;> first | exact⟨rfl,rfl⟩ | rfl,by simp,.inr ⟨by rw[hI];rfl,by rw[hI];simp⟩⟩
        | true=>
         rw[hNp0]at hI;cases hH0:((d.params.take i).findIdx? (fun x=>x == d.params[i])).isSome with
         | true=>
          rw[hH0]at hI;simp only[hH0]at hH;exact .inr ⟨_,_,by simp[f185,hp.len,hi',he,hNp,hNp0,hw1,hw2.AA,hH,hH0,AV.AA] <;> first | exact⟨rfl,rfl⟩ | rfl,by simp,.inr ⟨by rw[hI];rfl,by rw[hI];simp⟩⟩
         | false=>
          rw[hH0]at hI;simp only[hH0]at hH;exact .inl ⟨(),by simp[f185,hp.len,hi',he,hNp,hNp0,hw1,hw2.AA,hH,hH0,AV.AA,hw],by simpa using hI⟩) (fun b hI=>by
        rw[C3]at hI;exact⟨_,_,by simp[f185,hp.len] <;> first | exact⟨rfl,rfl⟩ | rfl,by simp,.inl ⟨rfl,hI⟩⟩) () (by simp)
     simp[f185]at hlp;rcases hq with⟨hq,hP⟩ | ⟨hq,hP⟩ <;> cases hq
     ·-- the constructors
      obtain⟨e2,st2,hlp2,hq2⟩:=AU (M:=MX) (fid:=185) (N:=119) (C:=AE MX) (c:=AL f185 1) (n:=d.cons.length) (fun i (b:AF)=>([(1,lv),(2,.hp 0 0),(6,.int .i64 i)],Blk.var false [AV.str d.nm,pv,cv]::b))
       (fun i _=>Fz l d.params [] d.cons=Fz l d.params (d.cons.take i) (d.cons.drop i))
       (fun r=>∃ b:AF,(r=(.ext 2,([(1,lv),(2,.hp 0 0),(6,.int .i64 d.cons.length),(75,.bool false)],b))/\Fz l d.params [] d.cons=0)\/(r=(.ret,([(4,.int .i64 (Fz l d.params [] d.cons))],b)))) (fun i b hi hI=>by
         obtain⟨e,he,hR⟩:=hcv.ix hi;have hi':=AZ hi;have hw:=AY hi s4;have hmem:=Ap hi;have hsc:=s5 _ hmem;have hNc:=Xp d.cons[i].nm hsc.1;have h212:=c212 d.cons[i].nm hl hsl.1 (fun d hd=>(hsl.2 d hd).2.2.2.1);obtain⟨w,hw1,hw2⟩:=hcv.slice (KM hi);have hone:SlR Ac 3 [⟨[],[],d.cons.take i⟩] (.sl 3 true [[.str [],.AH,w]]):=.inr ⟨true,_,rfl,rfl,fun j a e h1 h2=>by
          cases j with
          | zero=>
           simp only[HJ,AN]at h1 h2;subst h1;subst h2;exact⟨.AH,w,rfl,.inl ⟨rfl,rfl⟩,hw2⟩
          | succ j=>simp at h1⟩
         have h212b:=c212 d.cons[i].nm hone (by simp) (fun d' hd'=>by simp at hd';subst hd';simp;omega);rw[VV]at h212b;have hdr:d.cons.drop i=d.cons[i]::d.cons.drop (i+1):=De hi;have htk:d.cons.take i++[d.cons[i]]=d.cons.take (i+1):=(by simp);have h3:=h213 hR hsc;obtain⟨fv,rfl,hf⟩:=hR.dest;rw[hdr]at hI;simp only[Fz]at hI;rw[htk]at hI;cases hNc0:BL d.cons[i].nm with
         | false=>
          rw[hNc0]at hI;exact .inr ⟨_,_,by simp[f185,hcv.len,hi',he,hNc,hNc0] <;> first | exact⟨rfl,rfl⟩ | rfl,by simp,_,.inr (by rw[hI];rfl)⟩
         | true=>
         rw[hNc0]at hI;cases hc1:Ih l d.cons[i].nm with
         | true=>
          rw[hc1]at hI;exact .inr ⟨_,_,by simp[f185,hcv.len,hi',he,hNc,hNc0,h212,hc1,hl.AA,AV.AA] <;> first | exact⟨rfl,rfl⟩ | rfl,by simp,_,.inr (by rw[hI];rfl)⟩
         | false=>
         rw[hc1]at hI;cases hc2:((d.cons.take i).findIdx? (fun g=>g.nm == d.cons[i].nm)).isSome with
         | true=>
          rw[hc2]at hI;simp only[hc2]at h212b;exact .inr ⟨_,_,by simp[f185,hcv.len,hi',he,hNc,hNc0,h212,hc1,hw1,bsA,Aq,List.replicate,AG,AV.AA,hw2.AA,hw2.cells,h212b,hc2,hl.AA] <;> first | exact⟨rfl,rfl⟩ | rfl,by simp,_,.inr (by rw[hI];rfl)⟩
         | false=>
         rw[hc2]at hI;simp only[hc2]at h212b;cases hc3:(d.cons[i].nm == Cc)with
         | true=>
          rw[hc3]at hI;have hc3':(d.cons[i].nm == [70,97,108,115,101])=true:=hc3;exact .inr ⟨_,_,by simp[f185,hcv.len,hi',he,hNc,hNc0,h212,hc1,hw1,bsA,Aq,List.replicate,AG,AV.AA,hw2.AA,hw2.cells,h212b,hc2,hl.AA,hc3'] <;> first | exact⟨rfl,rfl⟩ | rfl,by simp,_,.inr (by rw[hI];rfl)⟩
         | false=>
         rw[hc3]at hI;have hc3':(d.cons[i].nm == [70,97,108,115,101])=false:=hc3;cases hc4:(d.cons[i].nm == EB)with
         | true=>
          rw[hc4]at hI;have hc4':(d.cons[i].nm == [84,114,117,101])=true:=hc4;exact .inr ⟨_,_,by simp[f185,hcv.len,hi',he,hNc,hNc0,h212,hc1,hw1,bsA,Aq,List.replicate,AG,AV.AA,hw2.AA,hw2.cells,h212b,hc2,hl.AA,hc3',hc4'] <;> first | exact⟨rfl,rfl⟩ | rfl,by simp,_,.inr (by rw[hI];rfl)⟩
         | false=>
         rw[hc4]at hI;have hc4':(d.cons[i].nm == [84,114,117,101])=false:=hc4;by_cases hz:DN l d.params d.cons[i].fields=0
         .rw[if_pos hz]at hI;exact .inl ⟨_,by simp[f185,hcv.len,hi',he,hNc,hNc0,h212,hc1,hw1,bsA,Aq,List.replicate,AG,AV.AA,hw2.AA,hw2.cells,h212b,hc2,hl.AA,hp.AA,hcv.AA,hf.AA,hc3',hc4',h3,hz,hw] <;> rfl,by simpa using hI⟩
         .rw[if_neg hz]at hI;have hne:(DN l d.params d.cons[i].fields != 0)=true:=(by simp[hz]);exact .inr ⟨_,_,by simp[f185,hcv.len,hi',he,hNc,hNc0,h212,hc1,hw1,bsA,Aq,List.replicate,AG,AV.AA,hw2.AA,hw2.cells,h212b,hc2,hl.AA,hp.AA,hcv.AA,hf.AA,hc3',hc4',h3,hne] <;> first | exact⟨rfl,rfl⟩ | rfl,by simp,_,.inr (by rw[hI];rfl)⟩) (fun b hI=>by
         rw[C3]at hI;exact⟨_,_,by simp[f185,hcv.len] <;> first | exact⟨rfl,rfl⟩ | rfl,by simp,_,.inl ⟨rfl,hI⟩⟩) ([]:AF) (by simp)
      simp[f185]at hlp2;obtain⟨b,hq2⟩:=hq2;rcases hq2 with⟨hq2,hC⟩ | hq2 <;> cases hq2
      .exact⟨_,by simp[AJ,f185,hN,hN0,hD,hD0,ixI,hb1',hb2',hb3',hp.len,hcv.len,h4',h4,h16',h16,h0,h0',hlp,hP,hlp2,hC] <;> rfl⟩
      .exact⟨_,by simp[AJ,f185,hN,hN0,hD,hD0,ixI,hb1',hb2',hb3',hp.len,hcv.len,h4',h4,h16',h16,h0,h0',hlp,hP,hlp2] <;> rfl⟩
     .exact⟨_,by simp[AJ,f185,hN,hN0,hD,hD0,ixI,hb1',hb2',hb3',hp.len,hcv.len,h4',h4,h16',h16,h0,h0',hlp,hP] <;> rfl⟩
 exact Af W9 Zz hn rfl hc' h
def F4:List AK->List AK->Int×Int
 | _,[]=>(0,0)
 | prev,d::r=>if Bq d prev=0 then F4 (prev++[d]) r else(prev.length,Bq d prev)
def A5(l:List AK):Int×Int:=if 20<l.length then(0,8)else F4 [] l
theorem c152{l:List AK}{lv:AV}(hl:SlR Ac 3 l lv)(hsl:SmL 1048577 l)(h:AF) :
 AI MX (AE MX) 152 [lv] h=some (.ret (.tup [.int .i64 (A5 l).1,.int .i64 (A5 l).2]),h):=by
 refine Af Ww Zm (by simp[hl.AA]) rfl (hr:=[]) ?_ h;unfold A5;by_cases h20:20<l.length
 .have h20':(20<(l.length:Int)):=by omega
  simp[AJ,f152,hl.len,h20,h20']
 .have h20':¬ (20<(l.length:Int)):=by omega
  obtain⟨e,st,hlp,hq⟩:=AU (M:=MX) (fid:=152) (N:=27) (C:=AE MX) (c:=AL f152 0) (n:=l.length) (fun i (_:Unit)=>([(0,lv),(4,.int .i64 i)],[]))
   (fun i _=>F4 [] l=F4 (l.take i) (l.drop i))
   (fun r=>(r=(.ext 0,([(0,lv),(4,.int .i64 l.length),(12,.bool false)],[]))/\F4 [] l=(0,0))\/(r=(.ret,([(2,.int .i64 (F4 [] l).1),(3,.int .i64 (F4 [] l).2)],[])))) (fun i b hi hI=>by
     obtain⟨e,he,hR⟩:=hl.ix hi;have hi':=AZ hi;have hw:=AY hi hsl.1;have hmem:=Ap hi;obtain⟨w,hw1,hw2⟩:=hl.slice (KM hi);have h185:=c185 hw2 ⟨by simp;omega,fun d hd=>hsl.2 d (List.mem_of_mem_take hd)⟩ hR (hsl.2 _ hmem);have hdr:l.drop i=l[i]::l.drop (i+1):=De hi;have htk:l.take i++[l[i]]=l.take (i+1):=(by simp);have htl:(l.take i).length=i:=(by simp;omega);obtain⟨pv,cv,rfl,hp,hc⟩:=hR.dest;rw[hdr]at hI;simp only[F4]at hI;rw[htk,htl]at hI;by_cases h0:Bq l[i] (l.take i)=0
     .rw[if_pos h0]at hI;exact .inl ⟨(),by simp[f152,hl.len,hi',he,hw1,h185,h0,hw,AG,AV.AA,hw2.AA,hp.AA,hc.AA],hI⟩
     .rw[if_neg h0]at hI;have hne:(Bq l[i] (l.take i) != 0)=true:=(by simp[h0]);exact .inr ⟨_,_,by simp[f152,hl.len,hi',he,hw1,h185,hne,AG,AV.AA,hw2.AA,hp.AA,hc.AA] <;> first | exact⟨rfl,rfl⟩ | rfl,by simp,.inr (by rw[hI])⟩) (fun b hI=>by
     rw[C3]at hI;exact⟨_,_,by simp[f152,hl.len] <;> first | exact⟨rfl,rfl⟩ | rfl,by simp,.inl ⟨rfl,hI⟩⟩) () (by simp)
  simp[f152]at hlp;rcases hq with⟨hq,hs⟩ | hq <;> cases hq
  .simp[AJ,f152,hl.len,h20,h20',hlp,hs]
  .simp[AJ,f152,hl.len,h20,h20',hlp]
theorem c84{l:List AK}{lv:AV}(hl:SlR Ac 3 l lv)(hsl:SmL 1048577 l)(h:AF) :
 AI MX (AE MX) 84 [lv] h=some (.ret (.int .i64 (A5 l).2),h):=
 Af ZJ dZ (by simp[hl.AA]) rfl (hr:=[]) (by simp[AJ,f84,c152 hl hsl]) h
end
section
attribute [local simp] C7 Br EW DL CG Dd Du Eu BZ Ar Bg Al GV FF EF HE D4 Ax FB EG HF HG xUn E7 D5 FG BF DH BG D6 BH D7 Ce CX Bw BJ EH Ej
 ev evs C4 DE OR.ofV OR.Dz OR.ofC FP Tm.get Tm.init Tm.only A1 A8 CM finish CF DJ HR Dy D3 unA B7 Bb B8 Bc Co Cp Cq Bd Cr Cs Be Ct Cu Bf B9 AL CQ Ba Cm Cn B6 Ev Ew Ey Dv Dw Fl F8 F9 Fm stA Ay Db Bn FH DI E8 Gt Bs C6 CI FI Gu
theorem LM{α:Type}{R:α->List AV->Prop}{sz byt:Nat}{l:List α}{v:AV}(hv:SlR R sz l v)(h0:0<sz)(hb:byt<=1024)(hl:l.length<1048577)(h:AF) :
 ∃ es:List (List AV),es.length=l.length/\(∀(i:Nat) a e,l[i]? = some a->es[i]? = some e->R a e)/\((l=[]/\apA sz byt (.sl sz true []) v h=some (.sl sz true [],h))\/(l≠[]/\apA sz byt (.sl sz true []) v h=some (.hs h.length es.length sz 0 es.length false,h++[.arr sz false es]))):=by
 obtain⟨es,h1,h2,h3,h4⟩:=hv.rd h;refine⟨es,h3,h4,?_⟩;have hn:∀ b,v≠.str b:=fun b e=>by subst e;rcases hv with⟨_,e⟩ | ⟨_,_,e,_⟩ <;> cases e
 have hap:apA sz byt (.sl sz true []) v h=apX sz byt (.sl sz true []) es 0 h:=by
  unfold apA;rcases hv with⟨_,rfl⟩ | ⟨_,_,rfl,_⟩ <;> simp only[h1,h2,F6] <;> rfl
 rw[hap];have e1:CC sz (.sl sz true [])=true:=by simp[CC,BM]
 have hbb:(0+es.length) * byt<=17592186044416:=DD (Ku (show 0+es.length<=1048577 by omega) hb) (by decide);cases l with
 | nil=>
  have:es=[]:=E5 h3;subst this;exact .inl ⟨rfl,by simp[apX,e1,h0,FQ]⟩
 | cons x r=>
  refine .inr ⟨by simp,?_⟩;have hne:es≠[]:=fun e=>by rw[e]at h3;simp at h3
  obtain⟨y,ys,rfl⟩:∃ y ys,es=y::ys:=by cases es with | nil=>exact absurd rfl hne | cons y ys=>exact⟨y,ys,rfl⟩
  simp only[D8,D1]at hbb h3 hl;simp[apX,e1,h0,hbb,show ys.length<=17592186044415 by omega,A3]
theorem KQ(a:Bytes)(e:List AV)(h:Cv a e):AG e=true:=by cases h;rfl
theorem c80{l:List Bytes}{v:AV}(hv:SlR Cv 1 l v)(hl:l.length<1048577):∃ w,SlR Cv 1 l w/\∀ h,AI MX (AE MX) 80 [v] h=some (.ret w,h):=by
 obtain⟨es,h1,h2,h3⟩:=LM (byt:=16) hv (by decide) (by decide) hl [];rcases h3 with⟨hn,h3⟩ | ⟨hn,h3⟩
 .exact⟨.sl 1 true [],.inr ⟨true,[],rfl,by simp[hn],fun i a e h _=>by simp[hn]at h⟩,fun h=>Af TM Wa (by simp[hv.AA]) rfl (hr:=[]) (by simp[AJ,f80,bsA,Aq,h3]) h⟩
 .have hs:=C5 h1 h2 KQ;have hne:es≠[]:=fun e=>by rw[e]at h1;exact hn (E5 h1.symm)
  have hacc:Ai 1 ([]:AF).length [.arr 1 false es] (.hs 0 es.length 1 0 es.length false) es:=.inr ⟨0,hne,by simp,rfl⟩;exact⟨.sl 1 false es,Ai.rep h1 h2 _,fun h=>LK TM Wa (by simp[hv.AA]) rfl (hacc.snap (n:=9999999) hs hne) rfl (hr:=[.arr 1 false es]) (by simp[AJ,f80,bsA,Aq,h3]) h⟩
theorem c142(t:TyV):∀(xs:List AV),AR t xs->Sm 1048577 t->∃ ys,AR t ys/\∀ h,AI MX (AE MX) 142 [.agg xs] h=some (.ret (.agg ys),h):=by
 induction t using TyV.ind with
 | h k v nm ps ih=>
  intro xs hx hs;have hn:([AV.agg xs]:List AV).all AV.AA=true:=by simp[AV.AA,hx.AG]
  obtain⟨pv,rfl,hp⟩:=hx.dest;obtain⟨s1,s2,s3⟩:=hs.dest;have hb:=VA;simp[Aa,An,f142]at hb;obtain⟨e,st,hlp,hq⟩:=AU (M:=MX) (fid:=142) (N:=26) (C:=AE MX) (c:=AL f142 0) (n:=ps.length)
   (fun i (b:AV×AF×List (List AV))=>([(1,.hp 0 0),(2,.hp 1 0),(3,.hp 2 0),(4,.int .i64 i)],Blk.var false [AV.int .i64 k,AV.int .i64 v,AV.str nm,pv]::Blk.var false [AV.int .i64 0,AV.int .i64 0,AV.str [],AV.AH]::Blk.var false [AV.int .i64 k,AV.int .i64 v,AV.str nm,b.1]::b.2.1))
   (fun i b=>Ai 4 3 b.2.1 b.1 b.2.2/\b.2.2.length=(ps.take i).length/\∀(j:Nat) t e,(ps.take i)[j]? = some t->b.2.2[j]? = some e->AR t e)
   (fun r=>∃ b:AV×AF×List (List AV),r=(.ext 0,([(1,.hp 0 0),(2,.hp 1 0),(3,.hp 2 0),(4,.int .i64 ps.length),(11,.bool false)],Blk.var false [AV.int .i64 k,AV.int .i64 v,AV.str nm,pv]::Blk.var false [AV.int .i64 0,AV.int .i64 0,AV.str [],AV.AH]::Blk.var false [AV.int .i64 k,AV.int .i64 v,AV.str nm,b.1]::b.2.1)) /\
     Ai 4 3 b.2.1 b.1 b.2.2/\b.2.2.length=ps.length/\∀(j:Nat) t e,ps[j]? = some t->b.2.2[j]? = some e->AR t e) (fun i b hi hI=>by
     obtain⟨a,rest,es⟩:=b;obtain⟨i1,i2,i3⟩:=hI;simp only at i1 i2 i3;obtain⟨e,he,hR⟩:=hp.ix hi;have hi':=AZ hi;have hw:=AY hi s2;obtain⟨ys,hys,hcall⟩:=ih ps[i] (Ap hi) e hR (s3 _ (Ap hi));have htk:ps.take i++[ps[i]]=ps.take (i+1):=(by simp);obtain⟨j1,j2⟩:=E9 i2 i3 hys;rw[htk]at j1 j2;have hlen:es.length<16777215:=(by rw[i2];simp;omega);obtain⟨a',rest',hap,hacc⟩:=Ai.push (byt:=56) (P:=[Blk.var false [AV.int .i64 k,AV.int .i64 v,AV.str nm,pv],Blk.var false [AV.int .i64 0,AV.int .i64 0,AV.str [],AV.AH],Blk.var false [AV.int .i64 k,AV.int .i64 v,AV.str nm,a]]) ys true i1 (by decide) (by decide) hlen;simp only[Fk,FE]at hap;have hyn:=hys.AG;have hyl:=hys.len;obtain⟨qv,rfl,hqv⟩:=hR.Ab;exact .inl ⟨(a',rest',es++[ys]),by simp[f142,hp.len,hi',he,hcall,bsA,Aq,List.replicate,hyl,hyn,hap,hacc.cells,hw,hb,AG,AV.AA,hqv.AA],hacc,j1,j2⟩) (fun b hI=>by
     obtain⟨a,rest,es⟩:=b;obtain⟨i1,i2,i3⟩:=hI;rw[HL]at i2 i3;exact⟨_,_,by simp[f142,hp.len] <;> first | exact⟨rfl,rfl⟩ | rfl,by simp,(a,rest,es),rfl,i1,i2,i3⟩) (.AH,[],[]) ⟨.nil _ _ _,by simp,fun j t e h=>by simp at h⟩
  obtain⟨⟨a,rest,es⟩,hq,i1,i2,i3⟩:=hq;cases hq;simp[f142]at hlp;have hrun:AJ MX 142 [.agg [.int .i64 k,.int .i64 v,.str nm,pv]] []=some (.ret (.agg [.int .i64 k,.int .i64 v,.str nm,a]),[Blk.var false [AV.int .i64 k,AV.int .i64 v,AV.str nm,pv],Blk.var false [AV.int .i64 k,AV.int .i64 v,AV.str nm,a],Blk.var false [AV.int .i64 k,AV.int .i64 v,AV.str nm,a]]++rest):=by
   simp[AJ,f142,hlp,DJ]
  have hsn:=C5 i2 i3 (fun a e h=>h.AG);obtain⟨v',rest',hsa,hv'⟩:=Ai.Pj (P:=[Blk.var false [AV.int .i64 k,AV.int .i64 v,AV.str nm,pv],Blk.var false [AV.int .i64 k,AV.int .i64 v,AV.str nm,a],Blk.var false [AV.int .i64 k,AV.int .i64 v,AV.str nm,a]]) i1 hsn;have hrep:SlR AR 4 ps v':=by
   rcases hv' with⟨h1,rfl⟩ | rfl
   .exact .inl ⟨E5 (by rw[<- i2,h1];rfl),rfl⟩
   .exact Ai.rep i2 i3 false
  refine⟨_,AR.intro hrep,fun h => ?_⟩;cases hna:a.AA with
  | true=>
   have:a=v':=by
    have h1:=i1.AA;rw[hna]at h1;have h2:es=[]:=(by cases es with | nil=>rfl | cons=>cases h1);rcases i1 with⟨_,h3⟩ | ⟨_,h3,_⟩
    .rcases hv' with⟨_,h4⟩ | h4
     .rw[h4];exact h3
     .have:=hsa 0;simp only at h3;subst h3;cases this;rfl
    .exact absurd h2 h3
   subst this;exact Af Qq TW hn (by simp[AV.AA,AG,hna]) hrun h
  | false=>
   exact LK Qq TW hn (by simp[AV.AA,AG,hna]) ((BB.agg (by simp[AG,AV.AA,hna]) (.cons (.flat rfl _) (.cons (.flat rfl _) (.cons (.flat rfl _) (.cons hsa (.nil _)))))).at (by decide)) (by simp[AV.AA,AG,hrep.AA]) hrun h
theorem Hu{f:FuncId}{args:List AV}{v v':AV}{hr hr':AF}{K:Nat}(hm:MX.mode f = { fresh:=true })(he:MX.eff f=none)(ha:args.all AV.AA=true)(hs:BB K v hr v' hr')(hk:K<=Ds)(hv':v'.AA=true)(heq:v.AA=true->v=v')(hc:AJ MX f args []=some (.ret v,hr))(h:AF) :
 AI MX (AE MX) f args h=some (.ret v',h):=by
 cases hv:v.AA with
 | true=>have:=heq hv;subst this;exact Af hm he ha hv hc h
 | false=>exact LK hm he ha hv (hs.at hk) hv' hc h
theorem J6{α:Type}{R:α->List AV->Prop}{l:List α}{sz:Nat}{P rest:AF}{a:AV}{es:List (List AV)}(hR:∀ a e,R a e->AG e=true)(h:Ai sz P.length rest a es)(hl:es.length=l.length)(hr:∀(i:Nat) a e,l[i]? = some a->es[i]? = some e->R a e) :
 ∃ v' rest',BB 1 a (P++rest) v' (P++rest')/\SlR R sz l v'/\(a.AA=true->a=v'):=by
 have hn:=C5 hl hr hR;by_cases h0:es=[]
 .rcases h with⟨_,rfl⟩ | ⟨_,h1,_⟩
  .exact⟨.AH,rest,fun n=>rfl,.inl ⟨E5 (by rw[<- hl,h0];rfl),rfl⟩,fun _=>rfl⟩
  .exact absurd h0 h1
 .refine⟨_,_,fun n=>h.snap hn h0,Ai.rep hl hr false,fun hna => ?_⟩;rw[h.AA]at hna;cases es with
  | nil=>exact absurd rfl h0
  | cons=>cases hna
theorem FK(a:DA)(e:List AV)(h:Bo a e):AG e=true:=by
 obtain⟨pv,rfl,hp⟩:=h.dest;simp[AG,AV.AA,hp.AA]
theorem IT(a:CS)(e:List AV)(h:EY a e):AG e=true:=by
 obtain⟨pv,rfl,hp⟩:=h.dest;simp[AG,AV.AA,hp.AA]
theorem Cf{α:Type}{l:List α}{i:Nat}(hi:i<l.length):l.take i++[l[i]]=l.take (i+1):=by simp
theorem c81{l:List DA}{v:AV}(hv:SlR Bo 5 l v)(hl:l.length<1048577)(hs:∀ f∈l,Sm 1048577 f.ty):∃ w,SlR Bo 5 l w/\∀ h,AI MX (AE MX) 81 [v] h=some (.ret w,h):=by
 have hb:=Xi;simp[Aa,An,f81]at hb;obtain⟨e,st,hlp,hq⟩:=AU (M:=MX) (fid:=81) (N:=27) (C:=AE MX) (c:=AL f81 0) (n:=l.length)
  (fun i (b:AV×AF×List (List AV))=>([(0,v),(3,b.1),(4,.int .i64 i)],b.2.1))
  (fun i b=>Ai 5 0 b.2.1 b.1 b.2.2/\b.2.2.length=(l.take i).length/\∀(j:Nat) t e,(l.take i)[j]? = some t->b.2.2[j]? = some e->Bo t e)
  (fun r=>∃ b:AV×AF×List (List AV),r=(.ext 0,([(0,v),(3,b.1),(4,.int .i64 l.length),(8,.bool false)],b.2.1)) /\
    Ai 5 0 b.2.1 b.1 b.2.2/\b.2.2.length=l.length/\∀(j:Nat) t e,l[j]? = some t->b.2.2[j]? = some e->Bo t e) (fun i b hi hI=>by
    obtain⟨a,rest,es⟩:=b;obtain⟨i1,i2,i3⟩:=hI;simp only at i1 i2 i3;obtain⟨e,he,hR⟩:=hv.ix hi;have hi':=AZ hi;have hw:=AY hi hl;obtain⟨tx,rfl,ht⟩:=hR;obtain⟨ys,hys,hcall⟩:=c142 l[i].ty tx ht (hs _ (Ap hi));have hyf:Bo l[i] (.str l[i].nm::ys):=⟨ys,rfl,hys⟩;obtain⟨j1,j2⟩:=E9 i2 i3 hyf;rw[Cf hi]at j1 j2;have hlen:es.length<16777215:=(by rw[i2];simp;omega);obtain⟨a',rest',hap,hacc⟩:=Ai.push (byt:=72) (P:=[]) (.str l[i].nm::ys) true i1 (by decide) (by decide) hlen;simp only[FE]at hap;obtain⟨q,rfl,hq⟩:=hys.Ab;obtain⟨q',rfl,hq'⟩:=ht.Ab;exact .inl ⟨(a',rest',es++[.str l[i].nm::[.int .i64 l[i].ty.k,.int .i64 l[i].ty.v,.str l[i].ty.nm,q]]),by simp[f81,hv.len,hi',he,hcall,bsA,Aq,List.replicate,hap,hw,hb,AG,AV.AA,hq.AA,hq'.AA],hacc,j1,j2⟩) (fun b hI=>by
    obtain⟨a,rest,es⟩:=b;obtain⟨i1,i2,i3⟩:=hI;rw[HL]at i2 i3;exact⟨_,_,by simp[f81,hv.len] <;> first | exact⟨rfl,rfl⟩ | rfl,by simp,(a,rest,es),rfl,i1,i2,i3⟩) (.AH,[],[]) ⟨.nil _ _ _,by simp,fun j t e h=>by simp at h⟩
 obtain⟨⟨a,rest,es⟩,hq,i1,i2,i3⟩:=hq;cases hq;simp[f81]at hlp;obtain⟨v',rest',hsn,hrep,heq⟩:=J6 (P:=[]) FK i1 i2 i3;exact⟨v',hrep,fun h=>Hu ZI dY (by simp[hv.AA]) hsn (by decide) hrep.AA heq (by simp[AJ,f81,hlp]) h⟩
theorem Sc{sz byt:Nat}{rest:AF}{a:AV}{es xs:List (List AV)}{x:AV}(h:Ai sz 0 rest a es)(hx:A7 rest x=some xs)(hs:CC sz x=true)(hnx:∀ b,x≠.str b)(hxs:xs≠[])(h0:0<sz)(hb:byt<=1024)(hn:es.length+xs.length<16777216) :
 ∃ a' rest',apA sz byt a x rest=some (a',rest')/\Ai sz 0 rest' a' (es++xs)/\∀(id:Nat) (b:Blk),rest[id]? = some b->(∀ lk es,b≠Blk.arr sz lk es)->rest'[id]? = some b:=by
 have hbb:(es.length+xs.length) * byt<=17592186044416:=DD (Ku (KM hn) hb) (by decide);have hap:∀ n,F6 a=some n->apA sz byt a x rest=apX sz byt a xs n rest:=fun n hl=>by
  unfold apA;cases x with
  | str b=>exact absurd rfl (hnx b)
  | _=>first | simp only[hs,hx,hl] | (simp only[A7]at hx;cases hx)
 obtain⟨y,ys,rfl⟩:∃ y ys,xs=y::ys:=by cases xs with | nil=>exact absurd rfl hxs | cons y ys=>exact⟨y,ys,rfl⟩
 rcases h with⟨rfl,rfl⟩ | ⟨j,hne,rfl,h2⟩
 .refine⟨.hs rest.length (ys.length+1) sz 0 (ys.length+1) false,rest++[.arr sz false (y::ys)],?_,.inr ⟨rest.length,by simp,by simp,by simp⟩,fun id b hid _=>Av hid _⟩;rw[hap 0 rfl];have e1:CC sz AV.AH=true:=rfl;have h2:=hbb;simp only[IB,D1,D8]at h2 hn;simp[apX,e1,h0,h2,show ys.length<=17592186044415 by omega,A3]
 .have hj:=(Ae.1 h2).1;simp only[D1]at hap ⊢;refine⟨.hs j (es.length+(ys.length+1)) sz 0 (es.length+(ys.length+1)) false,rest.set j (.arr sz false (es++y::ys)),?_,.inr ⟨j,by simp,by simp,by simp[hj]⟩,fun id b hid hbn => ?_⟩
  .rw[hap es.length rfl];have e1:CC sz (.hs j es.length sz 0 es.length false)=true:=(by simp[CC,BM]);simp only[D8]at hbb hn;simp[apX,e1,h0,hbb,show es.length+(ys.length+1)<=17592186044416 by omega,h2]
  .by_cases hij:j=id
   .subst hij;rw[h2]at hid;simp only[AN]at hid;exact absurd hid.symm (hbn _ _)
   .rw[BT hij];exact hid
def Ke(sz:Nat)(H:AF)(a:AV)(es:List (List AV)):Prop:=(es=[]/\a=.AH)\/∃ id lk,es≠[]/\a=.hs id es.length sz 0 es.length false/\H[id]? = some (.arr sz lk es)
def Dg(H H':AF):Prop:=∀(id:Nat) sz lk (es:List (List AV)),H[id]? = some (.arr sz lk es)->es.all AG=true->∃ lk',H'[id]? = some (.arr sz lk' es)
def HP(H H':AF):Prop:=∀(id:Nat) sz lk (es:List (List AV)),H[id]? = some (.arr sz lk es)->∃ lk' es',H'[id]? = some (.arr sz lk' es')/\es'.length=es.length
theorem HP.refl(H:AF):HP H H:=fun _ _ lk es h=>⟨lk,es,h,rfl⟩
theorem HP.trans{A B C:AF}(h:HP A B)(k:HP B C):HP A C:=fun id sz lk es hh=>by
 obtain⟨lk',es',h1,h2⟩:=h id sz lk es hh;obtain⟨lk2,es2,h3,h4⟩:=k id sz lk' es' h1;exact⟨lk2,es2,h3,by rw[h4,h2]⟩
theorem Dg.refl(H:AF):Dg H H:=fun _ _ lk _ h _=>⟨lk,h⟩
theorem Dg.trans{A B C:AF}(h:Dg A B)(k:Dg B C):Dg A C:=fun id sz lk es hh hn=>by
 obtain⟨lk',h1⟩:=h id sz lk es hh hn;exact k id sz lk' es h1 hn
theorem Ke.keeps{sz:Nat}{H H':AF}{a:AV}{es:List (List AV)}(h:Ke sz H a es)(hn:es.all AG=true)(k:Dg H H'):Ke sz H' a es:=by
 rcases h with h | ⟨id,lk,h0,h1,h2⟩
 .exact .inl h
 .obtain⟨lk',h3⟩:=k id sz lk es h2 hn;exact .inr ⟨id,lk',h0,h1,h3⟩
theorem Ke.snap{α:Type}{R:α->List AV->Prop}{l:List α}{sz:Nat}{H:AF}{a:AV}{es:List (List AV)}(hR:∀ a e,R a e->AG e=true)(h:Ke sz H a es)(hl:es.length=l.length)(hr:∀(i:Nat) a e,l[i]? = some a->es[i]? = some e->R a e) :
 ∃ v' H',BB 1 a H v' H'/\SlR R sz l v'/\Dg H H'/\HP H H':=by
 have hn:=C5 hl hr hR;rcases h with⟨h0,rfl⟩ | ⟨id,lk,h0,rfl,h2⟩
 .exact⟨.AH,H,fun n=>rfl,.inl ⟨E5 (by rw[<- hl,h0];rfl),rfl⟩,Dg.refl H,HP.refl H⟩
 .refine⟨.sl sz false es,H.set id (.arr sz true es),fun n => ?_,Ai.rep hl hr false,fun id' sz' lk' es' h3 h4 => ?_,fun id' sz' lk' es' h3 => ?_⟩
  .have hb:(Nat.beq es.length es.length&&Nat.beq sz sz&&Nat.ble (0+es.length) es.length&&es.all AG)=true:=(by simp[A8,hn]);simp only[Am.snap,h2,hb];simp
  .by_cases hij:id=id'
   .subst hij;rw[h2]at h3;simp only[AN,Blk.arr.injEq]at h3;obtain⟨rfl,_,rfl⟩:=h3;exact⟨true,ER (Ae.1 h2).1⟩
   .exact⟨lk',by rw[BT hij];exact h3⟩
  .by_cases hij:id=id'
   .subst hij;rw[h2]at h3;simp only[AN,Blk.arr.injEq]at h3;obtain⟨rfl,_,rfl⟩:=h3;exact⟨true,es,ER (Ae.1 h2).1,rfl⟩
   .exact⟨lk',es',by rw[BT hij];exact h3,rfl⟩
def Fw(H:AF)(d:AK)(e:List AV):Prop:=∃ pw ca ces,e=[.str d.nm,pw,ca]/\SlR Cv 1 d.params pw/\Ke 2 H ca ces/\ces.length=d.cons.length/\∀(j:Nat) t e,d.cons[j]? = some t->ces[j]? = some e->EY t e
theorem Fw.keeps{H H':AF}{d:AK}{e:List AV}(h:Fw H d e)(k:Dg H H'):Fw H' d e:=by
 obtain⟨pw,ca,ces,h1,h2,h3,h4,h5⟩:=h;exact⟨pw,ca,ces,h1,h2,h3.keeps (C5 h4 h5 IT) k,h4,h5⟩
theorem Fw.snap{H:AF}{d:AK}{e:List AV}(h:Fw H d e):∃ e' H',B5 4 e H e' H'/\Ac d e'/\Dg H H'/\HP H H':=by
 obtain⟨pw,ca,ces,rfl,h2,h3,h4,h5⟩:=h;obtain⟨v',H',s1,s2,s3,s4⟩:=h3.snap IT h4 h5;have hpw:pw.flat=true:=by rcases h2 with⟨_,rfl⟩ | ⟨_,_,rfl,_⟩ <;> rfl
 exact⟨[.str d.nm,pw,v'],H',.cons (.flat rfl _) (.cons (.flat hpw _) (.cons s1 (.nil _))),⟨pw,v',rfl,h2,s2⟩,s3,s4⟩
theorem NW:∀{l:List AK} {es:List (List AV)} {H:AF},es.length=l.length->(∀(j:Nat) d e,l[j]? = some d->es[j]? = some e->Fw H d e) ->
 ∃ es' H',Df (5+l.length) es H es' H'/\es'.length=l.length/\(∀(j:Nat) d e,l[j]? = some d->es'[j]? = some e->Ac d e)/\Dg H H'/\HP H H'
 | [],[],H,_,_=>⟨[],H,(Df.nil H).mono (by decide),rfl,fun j d e h=>by simp at h,Dg.refl H,HP.refl H⟩
 | d::l,e::es,H,hl,hp=>by
  obtain⟨e',H1,s1,s2,s3,s4⟩:=(hp 0 d e rfl rfl).snap;obtain⟨es',H2,t1,t2,t3,t4,t5⟩:=NW (l:=l) (es:=es) (H:=H1) (by simpa using hl) (fun j d' e' h1 h2=>(hp (j+1) d' e' (by simpa using h1) (by simpa using h2)).keeps s3);refine⟨e'::es',H2,(Df.cons s1 t1).mono (by simp only[D8];omega),by simp[t2],fun j d' e'' h1 h2 => ?_,s3.trans t4,s4.trans t5⟩;cases j with
  | zero=>simp at h1 h2;exact h1 ▸ h2 ▸ s2
  | succ j=>exact t3 j d' e'' (by simpa using h1) (by simpa using h2)
 | [],_::_,_,hl,_=>by simp at hl
 | _::_,[],_,hl,_=>by simp at hl
theorem c31{l:List AK}{v:AV}(hv:SlR Ac 3 l v)(hsl:SmL 1048577 l):∃ w,SlR Ac 3 l w/\∀ h,AI MX (AE MX) 31 [v] h=some (.ret w,h):=by
 have hb5:=Xh;simp[Aa,An,f31]at hb5;have hb10:=Ug;simp[Aa,An,f31]at hb10;obtain⟨e,st,hlp,hq⟩:=AU (M:=MX) (fid:=31) (N:=60) (C:=AE MX) (c:=AL f31 0) (n:=l.length)
  (fun i (b:AV×AF×List (List AV))=>([(0,v),(3,b.1),(4,.int .i64 i)],b.2.1))
  (fun i b=>Ai 3 0 b.2.1 b.1 b.2.2/\b.2.2.length=(l.take i).length/\∀(j:Nat) t e,(l.take i)[j]? = some t->b.2.2[j]? = some e->Fw b.2.1 t e)
  (fun r=>∃ b:AV×AF×List (List AV),r=(.ext 0,([(0,v),(3,b.1),(4,.int .i64 l.length),(11,.bool false)],b.2.1)) /\
    Ai 3 0 b.2.1 b.1 b.2.2/\b.2.2.length=l.length/\∀(j:Nat) t e,l[j]? = some t->b.2.2[j]? = some e->Fw b.2.1 t e) (fun i b hi hI=>by
    obtain⟨a,pre,es⟩:=b;obtain⟨i1,i2,i3⟩:=hI;simp only at i1 i2 i3;obtain⟨e,he,hR⟩:=hv.ix hi;have hi':=AZ hi;have hw:=AY hi hsl.1;have hsd:=hsl.2 _ (Ap hi);obtain⟨s1,s2,s3,s4,s5⟩:=hsd;obtain⟨pv,cv,rfl,hp,hc⟩:=hR.dest;obtain⟨pw,hpw,h80⟩:=c80 hp s2;obtain⟨e2,st2,hlp2,hq2⟩:=AU (M:=MX) (fid:=31) (N:=60) (C:=AE MX) (c:=AL f31 1) (n:=l[i].cons.length)
     (fun k (b:AV×AF×List (List AV))=>([(0,v),(3,a),(4,.int .i64 i),(5,.hp pre.length 0),(6,.int .i64 k)],pre++Blk.var false [AV.str l[i].nm,pw,b.1]::b.2.1))
     (fun k b=>Ai 2 (pre.length+1) b.2.1 b.1 b.2.2/\b.2.2.length=(l[i].cons.take k).length/\∀(j:Nat) t e,(l[i].cons.take k)[j]? = some t->b.2.2[j]? = some e->EY t e)
     (fun r=>∃ b:AV×AF×List (List AV),r=(.ext 2,([(0,v),(3,a),(4,.int .i64 i),(5,.hp pre.length 0),(6,.int .i64 l[i].cons.length),(33,.bool false)],pre++Blk.var false [AV.str l[i].nm,pw,b.1]::b.2.1)) /\
       Ai 2 (pre.length+1) b.2.1 b.1 b.2.2/\b.2.2.length=l[i].cons.length/\∀(j:Nat) t e,l[i].cons[j]? = some t->b.2.2[j]? = some e->EY t e) (fun k b hk hK=>by
       obtain⟨ca,rest,ces⟩:=b;obtain⟨k1,k2,k3⟩:=hK;simp only at k1 k2 k3;obtain⟨e',he',hR'⟩:=hc.ix hk;have hk':=AZ hk;have hwk:=AY hk s4;have hsc:=s5 _ (Ap hk);obtain⟨fv,rfl,hf⟩:=hR'.dest;obtain⟨fw,hfw,h81⟩:=c81 hf hsc.2.1 (fun f hf=>(hsc.2.2 f hf).2);have hcr:EY l[i].cons[k] [.str l[i].cons[k].nm,fw]:=⟨fw,rfl,hfw⟩;obtain⟨j1,j2⟩:=E9 k2 k3 hcr;rw[Cf hk]at j1 j2;have hlen:ces.length<16777215:=(by rw[k2,GR];exact Hh (Mj _ _) (Hi s4 (by decide)));have k1':=k1.grow [Blk.var false [AV.str l[i].cons[k].nm,fv]];have hPl:(pre++[Blk.var false [AV.str l[i].nm,pw,ca]]).length=pre.length+1:=(by simp);obtain⟨ca',rest',hap,hacc⟩:=Ai.push (byt:=40) (P:=pre++[Blk.var false [AV.str l[i].nm,pw,ca]]) [.str l[i].cons[k].nm,fw] true (by rw[hPl];exact k1') (by decide) (by decide) hlen;rw[hPl]at hacc;simp only[EM,Fk,FE]at hap;exact .inl ⟨(ca',rest',ces++[[.str l[i].cons[k].nm,fw]]),by simp[f31,hv.len,hi',he,hc.len,hk',he',h81,bsA,Aq,List.replicate,hap,hwk,hb10,AG,AV.AA,hf.AA,hfw.AA,hfw.cells,hacc.cells],hacc,j1,j2⟩) (fun b hK=>by
       obtain⟨ca,rest,ces⟩:=b;obtain⟨k1,k2,k3⟩:=hK;rw[HL]at k2 k3;exact⟨_,_,by simp[f31,hi',he,hc.len] <;> first | exact⟨rfl,rfl⟩ | rfl,by simp,(ca,rest,ces),rfl,k1,k2,k3⟩) (.AH,[],[]) ⟨.nil _ _ _,by simp,fun j t e h=>by simp at h⟩
    obtain⟨⟨ca,rest,ces⟩,hq2,k1,k2,k3⟩:=hq2;cases hq2;simp[f31]at hlp2;have hpl:ces.length=l[i].cons.length:=k2;have hlen:es.length<16777215:=(by rw[i2];exact Hh (List.length_take_le _ _) (by have:=hsl.1;omega));have hca:Ke 2 (pre++Blk.var false [AV.str l[i].nm,pw,ca]::rest) ca ces:=by
     rcases k1 with h | ⟨j,h0,h1,h2⟩
     .exact .inl h
     .exact .inr ⟨pre.length+1+j,false,h0,h1,by rw[EL (by omega),show pre.length+1+j - pre.length=j+1 by omega];simpa using h2⟩
    have NX:∀(A L:AF),Dg A (A++L):=fun A L id sz lk es h _=>⟨lk,Av h L⟩
    have fin:∀(H:AF) (x:AV),Dg (pre++Blk.var false [AV.str l[i].nm,pw,ca]::rest) H->Ai 3 0 H a es->A7 H x=some [[AV.str l[i].nm,pw,ca]]->CC 3 x=true->(∀ b,x≠.str b) ->
     ∃ a' H',apA 3 64 a x H=some (a',H')/\Ai 3 0 H' a' (es++[[AV.str l[i].nm,pw,ca]])/\(es++[[AV.str l[i].nm,pw,ca]]).length=(l.take (i+1)).length/\∀(j:Nat) t e,(l.take (i+1))[j]? = some t->(es++[[AV.str l[i].nm,pw,ca]])[j]? = some e->Fw H' t e:=by
     intro H x hk hacc hrd hsz hst;obtain⟨a',H',h1,h2,h3⟩:=Sc (byt:=64) hacc hrd hsz hst (by simp) (by decide) (by decide) (by simp;omega);have e0:Fw (pre++Blk.var false [AV.str l[i].nm,pw,ca]::rest) l[i] [AV.str l[i].nm,pw,ca]:=⟨pw,ca,ces,rfl,hpw,hca,k2,k3⟩;obtain⟨j1,j2⟩:=E9 (R:=Fw (pre++Blk.var false [AV.str l[i].nm,pw,ca]::rest)) i2 (fun j t e g1 g2=>(i3 j t e g1 g2).keeps (NX _ _)) e0;rw[Cf hi]at j1 j2;have keepP:∀ t e,Fw H t e->Fw H' t e:=fun t e h=>by
      obtain⟨q1,q2,q3,q4,q5,q6,q7,q8⟩:=h;refine⟨q1,q2,q3,q4,q5,?_,q7,q8⟩;rcases q6 with h | ⟨id,lk,g0,g1,g2⟩
      .exact .inl h
      .exact .inr ⟨id,lk,g0,g1,h3 id _ g2 (fun lk' es' e=>by cases e)⟩
     exact⟨a',H',h1,h2,j1,fun j t e g1 g2=>keepP t e ((j2 j t e g1 g2).keeps hk)⟩
    have i1':=i1.grow (Blk.var false [AV.str l[i].nm,pw,ca]::rest);cases hna:ca.AA with
    | true=>
     obtain⟨a',H',f1,f2,f3,f4⟩:=fin _ (.sl 3 true [[AV.str l[i].nm,pw,ca]]) (Dg.refl _) i1' rfl (by simp[CC,BM]) (fun b h=>by cases h);exact .inl ⟨(a',H',es++[[AV.str l[i].nm,pw,ca]]),by simp[f31,hv.len,hi',he,h80,hpw.cells,hb5,AG,AV.AA,hp.AA,hpw.AA,hna,hlp2,bsA,Aq,List.replicate,f1,hw],f2,f3,f4⟩
    | false=>
     obtain⟨a',H',f1,f2,f3,f4⟩:=fin ((pre++Blk.var false [AV.str l[i].nm,pw,ca]::rest)++[Blk.arr 3 false [[AV.str l[i].nm,pw,ca]]]) (.hs (pre++Blk.var false [AV.str l[i].nm,pw,ca]::rest).length 1 3 0 1 false) (NX _ _) (by have:=i1.grow ((Blk.var false [AV.str l[i].nm,pw,ca]::rest)++[Blk.arr 3 false [[AV.str l[i].nm,pw,ca]]]);rwa [<- EM]at this)
      (by simp only[A7,BR];simp) (by simp[CC,BM]) (fun b h=>by cases h)
     simp at f1;exact .inl ⟨(a',H',es++[[AV.str l[i].nm,pw,ca]]),by simp[f31,hv.len,hi',he,h80,hpw.cells,hb5,AG,AV.AA,hp.AA,hpw.AA,hna,hlp2,bsA,Aq,List.replicate,A3,f1,hw],f2,f3,f4⟩) (fun b hI=>by
    obtain⟨a,rest,es⟩:=b;obtain⟨i1,i2,i3⟩:=hI;rw[HL]at i2 i3;exact⟨_,_,by simp[f31,hv.len] <;> first | exact⟨rfl,rfl⟩ | rfl,by simp,(a,rest,es),rfl,i1,i2,i3⟩) (.AH,[],[]) ⟨.nil _ _ _,by simp,fun j t e h=>by simp at h⟩
 obtain⟨⟨a,rest,es⟩,hq,i1,i2,i3⟩:=hq;cases hq;simp[f31]at hlp;have hrun:AJ MX 31 [v] []=some (.ret a,rest):=by simp[AJ,f31,hlp]
 simp only at i1 i2 i3;rcases i1 with⟨h0,rfl⟩ | ⟨j,h0,rfl,h2⟩
 .have:l=[]:=E5 (by rw[<- i2,h0];rfl);exact⟨.AH,.inl ⟨this,rfl⟩,fun h=>Af Pl SD (by simp[hv.AA]) rfl hrun h⟩
 .obtain⟨es',H',s1,s2,s3,s4,s5⟩:=NW i2 i3;simp only[D1]at hrun;have hjl:=(Ae.1 h2).1;by_cases hall:es.all AG=true
  .have hacc:Ai 3 ([]:AF).length rest (.hs j es.length 3 0 es.length false) es:=.inr ⟨j,h0,by simp,h2⟩;have hrep:∀(k:Nat) d e,l[k]? = some d->es[k]? = some e->Ac d e:=fun k d e g1 g2=>by
    obtain⟨pw,ca,ces,rfl,q1,q2,q3,q4⟩:=i3 k d e g1 g2;have hne:AG [AV.str d.nm,pw,ca]=true:=D0.1 hall _ (C2 g2);rcases q2 with⟨q5,rfl⟩ | ⟨_,_,_,rfl,_⟩
    .exact⟨pw,.AH,rfl,q1,.inl ⟨E5 (by rw[<- q3,q5];rfl),rfl⟩⟩
    .simp[AG,AV.AA]at hne
   exact⟨_,Ai.rep i2 hrep false,fun h=>LK Pl SD (by simp[hv.AA]) rfl (hacc.snap (n:=9999999) hall h0) rfl hrun h⟩
  .obtain⟨lk2,es2,hk2,hkl⟩:=s5 j 3 false es h2;refine⟨_,Ai.rep s2 s3 false,fun h=>LK Pl SD (by simp[hv.AA]) rfl (hr':=H'.set j (.arr 3 true es')) ?_ rfl hrun h⟩;have hse:GU (Ds - 1) es rest=some (es',H'):=by
    have h9:=(s1.mono (show 5+l.length<=Ds - 1 by have:=hsl.1;simp only[Ds];omega)) 0
    rwa [D1]at h9
   have ha:es.all AG=false:=(by simpa using hall);have hb1:(Nat.beq es.length es.length&&Nat.beq 3 3&&Nat.ble (0+es.length) es.length&&es.all AG)=false:=(by simp[A8,ha]);have hb2:(Nat.beq es.length es.length&&Nat.beq 3 3&&Nat.ble (0+es.length) es.length)=true:=(by simp[A8]);have hb3:(Nat.beq 3 3&&Nat.beq es2.length es.length)=true:=(by rw[hkl];simp);have hl':es'.length=es.length:=(by rw[s2,i2]);clear hb5 hb10 hlp;show snap ((Ds - 1)+1) _ _=_;simp only[snap,h2,hb1,hb2,hse,hk2,hb3];rw[<- hl'];simp[ha]
mutual
def CT(params:List Bytes)(args:List TyV):TyV->TyV
 | .mk k v nm ps=>match(if k=0 then params.findIdx? (fun x=>x == nm)else none)with
  | some i=>args.getD i default
  | none=> .mk k v nm (RI params args ps)
def RI(params:List Bytes)(args:List TyV):List TyV->List TyV
 | []=>[]
 | p::r=>CT params args p::RI params args r
end
theorem FM(params:List Bytes)(args:List TyV):∀ ps,RI params args ps=ps.map (CT params args)
 | []=>rfl
 | p::r=>by simp[RI,FM params args r]
theorem aX{b:Nat}{params:List Bytes}{args:List TyV}(ha:∀ a∈args,Sm b a)(h0:0<b)(t:TyV):Sm b t->Sm b (CT params args t):=by
 induction t using TyV.ind with
 | h k v nm ps ih=>
  intro hs;obtain⟨s1,s2,s3⟩:=hs.dest;simp only[CT];split
  .rename_i i _;rw[Ko];cases hi:args[i]? with
   | none=>exact .mk default default default default h0 h0 (fun p hp=>by cases hp)
   | some a=>exact ha a (C2 hi)
  .rw[FM];exact .mk k v nm _ s1 (by simpa using s2) (fun p hp=>by
    obtain⟨q,hq,rfl⟩:=F5.1 hp;exact ih q hq (s3 q hq))
theorem c119{params:List Bytes}{pr:AV}(hpr:SlR Cv 1 params pr)(hpl:params.length<1048577){args:List TyV}{av:AV}(har:SlR AR 4 args av)(has:∀ a∈args,Sm 1048577 a)(hpa:params.length<=args.length)(t:TyV) :
 ∀(xs:List AV),AR t xs->Sm 1048577 t->∃ ys,AR (CT params args t) ys/\∀ h,AI MX (AE MX) 119 [.agg xs,pr,av] h=some (.ret (.agg ys),h):=by
 induction t using TyV.ind with
 | h k v nm ps ih=>
  intro xs hx hs;have hn:([AV.agg xs,pr,av]:List AV).all AV.AA=true:=by simp[AV.AA,hx.AG,hpr.AA,har.AA]
  obtain⟨pv,rfl,hp⟩:=hx.dest;obtain⟨s1,s2,s3⟩:=hs.dest;have hb5:=Ur;simp[Aa,An,f119]at hb5;have hb:=SG;simp[Aa,An,f119]at hb;obtain⟨e,st,hlp,hq⟩:=AU (M:=MX) (fid:=119) (N:=54) (C:=AE MX) (c:=AL f119 1) (n:=ps.length)
   (fun i (b:AV×AF×List (List AV))=>([(1,pr),(2,av),(3,.hp 0 0),(6,.hp 1 0),(8,.hp 2 0),(9,.int .i64 i)],Blk.var false [AV.int .i64 k,AV.int .i64 v,AV.str nm,pv]::Blk.var false [AV.int .i64 0,AV.int .i64 0,AV.str [],AV.AH]::Blk.var false [AV.int .i64 k,AV.int .i64 v,AV.str nm,b.1]::b.2.1))
   (fun i b=>Ai 4 3 b.2.1 b.1 b.2.2/\b.2.2.length=((ps.map (CT params args)).take i).length/\∀(j:Nat) t e,((ps.map (CT params args)).take i)[j]? = some t->b.2.2[j]? = some e->AR t e)
   (fun r=>∃ b:AV×AF×List (List AV),r=(.ext 2,([(1,pr),(2,av),(3,.hp 0 0),(6,.hp 1 0),(8,.hp 2 0),(9,.int .i64 ps.length),(37,.bool false)],Blk.var false [AV.int .i64 k,AV.int .i64 v,AV.str nm,pv]::Blk.var false [AV.int .i64 0,AV.int .i64 0,AV.str [],AV.AH]::Blk.var false [AV.int .i64 k,AV.int .i64 v,AV.str nm,b.1]::b.2.1)) /\
     Ai 4 3 b.2.1 b.1 b.2.2/\b.2.2.length=(ps.map (CT params args)).length/\∀(j:Nat) t e,(ps.map (CT params args))[j]? = some t->b.2.2[j]? = some e->AR t e) (fun i b hi hI=>by
     obtain⟨a,rest,es⟩:=b;obtain⟨i1,i2,i3⟩:=hI;simp only at i1 i2 i3;obtain⟨e,he,hR⟩:=hp.ix hi;have hi':=AZ hi;have hw:=AY hi s2;have him:i<(ps.map (CT params args)).length:=(by simpa using hi);obtain⟨ys,hys,hcall⟩:=ih ps[i] (Ap hi) e hR (s3 _ (Ap hi));have hys':AR (ps.map (CT params args))[i] ys:=(by simpa using hys);obtain⟨j1,j2⟩:=E9 i2 i3 hys';rw[Cf him]at j1 j2;have hlen:es.length<16777215:=(by rw[i2,GR,Fa];exact Hh (Mj _ _) (Hi s2 (by decide)));obtain⟨a',rest',hap,hacc⟩:=Ai.push (byt:=56) (P:=[Blk.var false [AV.int .i64 k,AV.int .i64 v,AV.str nm,pv],Blk.var false [AV.int .i64 0,AV.int .i64 0,AV.str [],AV.AH],Blk.var false [AV.int .i64 k,AV.int .i64 v,AV.str nm,a]]) ys true i1 (by decide) (by decide) hlen;simp only[Fk,FE]at hap;have hyn:=hys.AG;have hyl:=hys.len;obtain⟨qv,rfl,hqv⟩:=hR.Ab;exact .inl ⟨(a',rest',es++[ys]),by simp[f119,hp.len,hi',he,hcall,bsA,Aq,List.replicate,hyl,hyn,hap,hacc.cells,hw,hb,AG,AV.AA,hqv.AA,hpr.AA,har.AA],hacc,j1,j2⟩) (fun b hI=>by
     obtain⟨a,rest,es⟩:=b;obtain⟨i1,i2,i3⟩:=hI;rw[DC (by simp)]at i2 i3;exact⟨_,_,by simp[f119,hp.len] <;> first | exact⟨rfl,rfl⟩ | rfl,by simp,(a,rest,es),rfl,i1,i2,i3⟩) (.AH,[],[]) ⟨.nil _ _ _,by simp,fun j t e h=>by simp at h⟩
  obtain⟨⟨a,rest,es⟩,hq,i1,i2,i3⟩:=hq;cases hq;simp[f119]at hlp;obtain⟨v',rest',hsn,hrep,heq⟩:=J6 (P:=[Blk.var false [AV.int .i64 k,AV.int .i64 v,AV.str nm,pv],Blk.var false [AV.int .i64 k,AV.int .i64 v,AV.str nm,a],Blk.var false [AV.int .i64 k,AV.int .i64 v,AV.str nm,a]]) (fun a e h=>AR.AG h) i1 i2 i3;have fin:∀(hrun:AJ MX 119 [.agg [.int .i64 k,.int .i64 v,.str nm,pv],pr,av] []=some (.ret (.agg [.int .i64 k,.int .i64 v,.str nm,a]),[Blk.var false [AV.int .i64 k,AV.int .i64 v,AV.str nm,pv],Blk.var false [AV.int .i64 k,AV.int .i64 v,AV.str nm,a],Blk.var false [AV.int .i64 k,AV.int .i64 v,AV.str nm,a]]++rest)) h,
   AI MX (AE MX) 119 [.agg [.int .i64 k,.int .i64 v,.str nm,pv],pr,av] h=some (.ret (.agg [.int .i64 k,.int .i64 v,.str nm,v']),h):=fun hrun h=>by
   cases hna:a.AA with
   | true=>
    have:=heq hna;subst this;exact Af NJ Po hn (by simp[AV.AA,AG,hna]) hrun h
   | false=>
    exact LK NJ Po hn (by simp[AV.AA,AG,hna]) ((BB.agg (by simp[AG,AV.AA,hna]) (.cons (.flat rfl _) (.cons (.flat rfl _) (.cons (.flat rfl _) (.cons hsn (.nil _)))))).at (by decide)) (by simp[AV.AA,AG,hrep.AA]) hrun h
  by_cases hk:k=0
  .subst hk;obtain⟨e2,st2,hlp2,hq2⟩:=AU (M:=MX) (fid:=119) (N:=54) (C:=AE MX) (c:=AL f119 0) (n:=params.length)
    (fun i (_:Unit)=>([(1,pr),(2,av),(3,.hp 0 0),(6,.hp 1 0),(7,.int .i64 i)],[Blk.var false [AV.int .i64 0,AV.int .i64 v,AV.str nm,pv],Blk.var false [AV.int .i64 0,AV.int .i64 0,AV.str [],AV.AH]]))
    (fun i _=>∀ j (hj:j<params.length),j<i->(fun x:Bytes=>x == nm) params[j]=false)
    (fun r=>(r=(.ext 0,([(1,pr),(2,av),(3,.hp 0 0),(6,.hp 1 0),(7,.int .i64 params.length),(16,.bool false)],[Blk.var false [AV.int .i64 0,AV.int .i64 v,AV.str nm,pv],Blk.var false [AV.int .i64 0,AV.int .i64 0,AV.str [],AV.AH]]))/\params.findIdx? (fun x=>x == nm)=none) \/
      ∃(i:Nat) (ys:List AV),r=(.ret,([(6,.hp 1 0)],[Blk.var false [AV.int .i64 0,AV.int .i64 v,AV.str nm,pv],Blk.var false ys]))/\params.findIdx? (fun x=>x == nm)=some i/\AR (args.getD i default) ys) (fun i b hi hI=>by
      obtain⟨e,he,hR⟩:=hpr.ix hi;have hi':=AZ hi;have hw:=AY hi hpl;cases hR;cases hx:(params[i] == nm)with
      | false=>exact .inl ⟨(),by simp[f119,hpr.len,hi',he,hx,hw],Ff (p:=fun x:Bytes=>x == nm) hi hI hx⟩
      | true=>
       have hia:i<args.length:=(by omega);obtain⟨e3,he3,hR3⟩:=har.ix hia;obtain⟨ys,hys,hcall⟩:=c142 args[i] e3 hR3 (has _ (Ap hia));obtain⟨qv,rfl,hqv⟩:=hR3.Ab;have hgd:AR (args.getD i default) ys:=(by simpa[hia]using hys);obtain⟨qy,rfl,hqy⟩:=hys.Ab;exact .inr ⟨_,_,by simp[f119,hpr.len,hi',he,hx,he3,hcall] <;> first | exact⟨rfl,rfl⟩ | rfl,by simp,.inr ⟨i,_,rfl,Fc (p:=fun x:Bytes=>x == nm) hi hI hx,hgd⟩⟩) (fun b hI=>by
      exact⟨_,_,by simp[f119,hpr.len] <;> first | exact⟨rfl,rfl⟩ | rfl,by simp,.inl ⟨rfl,Fe (p:=fun x:Bytes=>x == nm) fun j hj=>hI j hj hj⟩⟩) () (fun j _ h0=>by omega)
   simp[f119]at hlp2;rcases hq2 with⟨hq2,hf⟩ | ⟨i,ys,hq2,hf,hys⟩ <;> cases hq2
   .refine⟨_,?_,fin (by simp[AJ,f119,hlp2,hlp,DJ])⟩;simp only[CT,hf,if_true,FM];exact AR.intro hrep
   .refine⟨ys,by simpa[CT,hf]using hys,fun h => ?_⟩;obtain⟨qy,rfl,hqy⟩:=hys.Ab;exact Af NJ Po hn (by simp[AV.AA,AG,hqy.AA]) (hr:=[Blk.var false [AV.int .i64 0,AV.int .i64 v,AV.str nm,pv],Blk.var false [.int .i64 (args.getD i default).k,.int .i64 (args.getD i default).v,.str (args.getD i default).nm,qy]]) (by simp[AJ,f119,hlp2,DJ]) h
  .have hk':(k == 0)=false:=(by simp[hk]);refine⟨_,?_,fin (by simp[AJ,f119,hk',hk,hlp,DJ])⟩;simp only[CT,hk,if_false,FM];exact AR.intro hrep
theorem Oi{α:Type}{Pre:AF->α->List AV->Prop}{Rep:α->List AV->Prop}{K:Nat}(hs:∀ H d e,Pre H d e->∃ e' H',B5 K e H e' H'/\Rep d e'/\Dg H H'/\HP H H')(hk:∀ H H' d e,Pre H d e->Dg H H'->Pre H' d e) :
 ∀{l:List α} {es:List (List AV)} {H:AF},es.length=l.length->(∀(j:Nat) d e,l[j]? = some d->es[j]? = some e->Pre H d e) ->
 ∃ es' H',Df (K+1+l.length) es H es' H'/\es'.length=l.length/\(∀(j:Nat) d e,l[j]? = some d->es'[j]? = some e->Rep d e)/\Dg H H'/\HP H H'
 | [],[],H,_,_=>⟨[],H,(Df.nil H).mono (by omega),rfl,fun j d e h=>by simp at h,Dg.refl H,HP.refl H⟩
 | d::l,e::es,H,hl,hp=>by
  obtain⟨e',H1,s1,s2,s3,s4⟩:=hs _ _ _ (hp 0 d e rfl rfl);obtain⟨es',H2,t1,t2,t3,t4,t5⟩:=Oi hs hk (l:=l) (es:=es) (H:=H1) (by simpa using hl) (fun j d' e' h1 h2=>hk _ _ _ _ (hp (j+1) d' e' (by simpa using h1) (by simpa using h2)) s3);refine⟨e'::es',H2,(Df.cons s1 t1).mono (by simp only[D8];omega),by simp[t2],fun j d' e'' h1 h2 => ?_,s3.trans t4,s4.trans t5⟩;cases j with
  | zero=>simp at h1 h2;exact h1 ▸ h2 ▸ s2
  | succ j=>exact t3 j d' e'' (by simpa using h1) (by simpa using h2)
 | [],_::_,_,hl,_=>by simp at hl
 | _::_,[],_,hl,_=>by simp at hl
theorem Sd{α:Type}{Pre:AF->α->List AV->Prop}{Rep:α->List AV->Prop}{K sz:Nat}(hs:∀ H d e,Pre H d e->∃ e' H',B5 K e H e' H'/\Rep d e'/\Dg H H'/\HP H H')(hk:∀ H H' d e,Pre H d e->Dg H H'->Pre H' d e)(hnr:∀ H d e,Pre H d e->AG e=true->Rep d e)
 {l:List α} {es:List (List AV)} {H:AF} {a:AV} (h1:Ke sz H a es) (hl:es.length=l.length) (hp:∀(j:Nat) d e,l[j]? = some d->es[j]? = some e->Pre H d e) :
 ∃ v' H',BB (K+2+l.length) a H v' H'/\SlR Rep sz l v'/\(a.AA=true->a=v'):=by
 rcases h1 with⟨h0,rfl⟩ | ⟨j,lk,h0,rfl,h2⟩
 .exact⟨.AH,H,fun n=>by rw[show n+(K+2+l.length)=(n+(K+1+l.length))+1 by omega];rfl,.inl ⟨E5 (by rw[<- hl,h0];rfl),rfl⟩,fun _=>rfl⟩
 .by_cases hall:es.all AG=true
  .have hrep:∀(k:Nat) d e,l[k]? = some d->es[k]? = some e->Rep d e:=fun k d e g1 g2=>hnr _ _ _ (hp k d e g1 g2) (D0.1 hall _ (C2 g2))
   refine⟨.sl sz false es,H.set j (.arr sz true es),fun n => ?_,Ai.rep hl hrep false,fun hh=>by cases hh⟩;have hb:(Nat.beq es.length es.length&&Nat.beq sz sz&&Nat.ble (0+es.length) es.length&&es.all AG)=true:=(by simp[A8,hall]);rw[show n+(K+2+l.length)=(n+(K+1+l.length))+1 by omega];simp only[Am.snap,h2,hb];simp
  .obtain⟨es',H',s1,s2,s3,s4,s5⟩:=Oi hs hk hl hp;obtain⟨lk2,es2,hk2,hkl⟩:=s5 j sz lk es h2;refine⟨.sl sz false es',H'.set j (.arr sz true es'),fun n => ?_,Ai.rep s2 s3 false,fun hh=>by cases hh⟩;have hse:=s1 n;have ha:es.all AG=false:=(by simpa using hall);have hb1:(Nat.beq es.length es.length&&Nat.beq sz sz&&Nat.ble (0+es.length) es.length&&es.all AG)=false:=(by rw[ha,Bool.and_false]);have hb2:(Nat.beq es.length es.length&&Nat.beq sz sz&&Nat.ble (0+es.length) es.length)=true:=(by simp[A8]);have hb3:(Nat.beq sz sz&&Nat.beq es2.length es.length)=true:=(by rw[hkl,JM,JM];rfl);have hl':es'.length=es.length:=(by rw[s2,hl]);rw[show n+(K+2+l.length)=(n+(K+1+l.length))+1 by omega];simp only[snap,h2,hb1,hb2,hse,hk2,hb3];rw[<- hl'];simp[ha]
def Fp(H:AF)(c:CS)(e:List AV):Prop:=∃ fa fes,e=[.str c.nm,fa]/\Ke 5 H fa fes/\fes.length=c.fields.length/\∀(j:Nat) t e,c.fields[j]? = some t->fes[j]? = some e->Bo t e
theorem Fp.keeps{H H':AF}{d:CS}{e:List AV}(h:Fp H d e)(k:Dg H H'):Fp H' d e:=by
 obtain⟨ca,ces,h1,h3,h4,h5⟩:=h;exact⟨ca,ces,h1,h3.keeps (C5 h4 h5 FK) k,h4,h5⟩
theorem Fp.snap{H:AF}{d:CS}{e:List AV}(h:Fp H d e):∃ e' H',B5 3 e H e' H'/\EY d e'/\Dg H H'/\HP H H':=by
 obtain⟨ca,ces,rfl,h3,h4,h5⟩:=h;obtain⟨v',H',s1,s2,s3,s4⟩:=h3.snap FK h4 h5;exact⟨[.str d.nm,v'],H',.cons (.flat rfl _) (.cons s1 (.nil _)),⟨v',rfl,s2⟩,s3,s4⟩
theorem Fp.AA{H:AF}{d:CS}{e:List AV}(h:Fp H d e)(hn:AG e=true):EY d e:=by
 obtain⟨ca,ces,rfl,q2,q3,q4⟩:=h;rcases q2 with⟨q5,rfl⟩ | ⟨_,_,_,rfl,_⟩
 .exact⟨.AH,rfl,.inl ⟨E5 (by rw[<- q3,q5];rfl),rfl⟩⟩
 .simp[AG,AV.AA]at hn
theorem eN(n:Int)(h0:0<=n)(h1:n<=62)(h:AF):AJ MX 67 [.int .i64 n] h=some (.ret (.int .i64 ((2 ^ n.toNat:Nat):Int)),h):=by
 have hm:min n.toNat 64=n.toNat:=by omega
 have hp:(2:Nat) ^ n.toNat<=2 ^ 62:=OE (by decide) (by omega);have hp':(2:Nat) ^ n.toNat<9223372036854775808:=Hh hp (by decide);have hw:wr .i64 ((2 ^ n.toNat:Nat):Int)=((2 ^ n.toNat:Nat):Int):=Cl (Int.natCast_nonneg _) (Lj.2 hp');have hn:¬ n<0:=by omega
 have hs:Hl .shl .i64 1 n=some (.int .i64 ((2 ^ n.toNat:Nat):Int)):=by
  simp only[Hl,decide_eq_false hn,IntKind.bits,hm,Int.one_mul,hw]
 simp[AJ,f67,hs]
theorem c67(n:Int)(h0:0<=n)(h1:n<=62)(h:AF):AI MX (AE MX) 67 [.int .i64 n] h=some (.ret (.int .i64 ((2 ^ n.toNat:Nat):Int)),h):=Af ZE dV rfl rfl (eN n h0 h1 []) h
def F0(params:List Bytes)(args:List TyV)(c:CS):CS:=⟨c.nm,c.fields.map fun f=>⟨f.nm,CT params args f.ty⟩⟩
def AP(l:List AK)(t:TyV):List CS:=
 if t.nm == CO then [⟨Cc,[]⟩,⟨EB,[]⟩]else match l.findIdx? (fun d=>d.nm == t.nm)with
  | some i=>(l.getD i default).cons.map (F0 (l.getD i default).params t.ps)
  | none=>[]
def HasC(l:List AK)(t:TyV):Prop:=(t.nm == CO)=true\/∃ i,l.findIdx? (fun d=>d.nm == t.nm)=some i/\(l.getD i default).params.length<=t.ps.length
theorem Ai.toL{sz:Nat}{P rest:AF}{a:AV}{es:List (List AV)}(h:Ai sz P.length rest a es):Ke sz (P++rest) a es:=by
 rcases h with h | ⟨j,h0,h1,h2⟩
 .exact .inl h
 .exact .inr ⟨P.length+j,false,h0,h1,by rw[EL (by omega)];simpa using h2⟩
theorem NX(A L:AF):Dg A (A++L):=fun _ _ lk _ h _=>⟨lk,Av h L⟩
theorem c68{l:List AK}{lv:AV}(hl:SlR Ac 3 l lv)(hsl:SmL 1048577 l){t:TyV}{xs:List AV}(hx:AR t xs)(hst:Sm 1048577 t)(hc:HasC l t) :
 ∃ w,SlR EY 2 (AP l t) w/\∀ h,AI MX (AE MX) 68 [lv,.agg xs] h=some (.ret w,h):=by
 have hn:([lv,AV.agg xs]:List AV).all AV.AA=true:=by simp[AV.AA,hx.AG,hl.AA]
 have hps:∀ p∈t.ps,Sm 1048577 p:=by cases t;exact hst.dest.2.2
 obtain⟨pv,rfl,hp⟩:=hx.Ab;cases hb:(t.nm == CO)with
 | true=>
  have hb':(t.nm == [66,111,111,108])=true:=hb;refine⟨.sl 2 true [[.str Cc,.AH],[.str EB,.AH]],?_,fun h=>Af TL WZ hn rfl (hr:=[Blk.var false [AV.int .i64 t.k,AV.int .i64 t.v,AV.str t.nm,pv]]) (by simp[AJ,f68,hb',bsA,Aq,List.replicate,AG,AV.AA,Cc,EB]) h⟩;simp only[AP,hb,if_true];exact .inr ⟨true,_,rfl,rfl,fun i a e h1 h2=>by
   match i with
   | 0=>simp at h1 h2;subst h1;subst h2;exact⟨.AH,rfl,.inl ⟨rfl,rfl⟩⟩
   | 1=>simp at h1 h2;subst h1;subst h2;exact⟨.AH,rfl,.inl ⟨rfl,rfl⟩⟩
   | i+2=>simp at h1⟩
 | false=>
  have hb':(t.nm == [66,111,111,108])=false:=hb;rcases hc with hc | ⟨i,hf,hpa⟩
  .rw[hb]at hc;cases hc
  have hil:=G8 hf;have hD:=c118 t.nm hl hsl.1;have hgd:l.getD i default=l[i]:=by simp[hil]
  rw[hgd]at hpa;obtain⟨de,hde,hdR⟩:=hl.ix hil;obtain⟨s1,s2,s3,s4,s5⟩:=hsl.2 _ (Ap hil);obtain⟨qv,cv,rfl,hqp,hcv⟩:=hdR.dest;have hb13:=Uj;simp[Aa,An,f68]at hb13;let F:=F0 l[i].params t.ps;have hcons:AP l t=l[i].cons.map F:=by simp only[AP,hb,hf,hgd];rfl
  obtain⟨e,st,hlp,hq⟩:=AU (M:=MX) (fid:=68) (N:=78) (C:=AE MX) (c:=AL f68 0) (n:=l[i].cons.length)
   (fun k (b:AV×AF×List (List AV))=>([(3,.hp 0 0),(5,.hp 1 0),(6,b.1),(7,.int .i64 k)],Blk.var false [AV.int .i64 t.k,AV.int .i64 t.v,AV.str t.nm,pv]::Blk.var false [AV.str l[i].nm,qv,cv]::b.2.1))
   (fun k b=>Ai 2 0 (Blk.var false [AV.int .i64 t.k,AV.int .i64 t.v,AV.str t.nm,pv]::Blk.var false [AV.str l[i].nm,qv,cv]::b.2.1) b.1 b.2.2/\b.2.2.length=((l[i].cons.map F).take k).length/\∀(j:Nat) t' e,((l[i].cons.map F).take k)[j]? = some t'->b.2.2[j]? = some e->Fp (Blk.var false [AV.int .i64 t.k,AV.int .i64 t.v,AV.str t.nm,pv]::Blk.var false [AV.str l[i].nm,qv,cv]::b.2.1) t' e)
   (fun r=>∃ b:AV×AF×List (List AV),r=(.ext 0,([(3,.hp 0 0),(5,.hp 1 0),(6,b.1),(7,.int .i64 l[i].cons.length),(28,.bool false)],Blk.var false [AV.int .i64 t.k,AV.int .i64 t.v,AV.str t.nm,pv]::Blk.var false [AV.str l[i].nm,qv,cv]::b.2.1)) /\
     Ai 2 0 (Blk.var false [AV.int .i64 t.k,AV.int .i64 t.v,AV.str t.nm,pv]::Blk.var false [AV.str l[i].nm,qv,cv]::b.2.1) b.1 b.2.2/\b.2.2.length=(l[i].cons.map F).length/\∀(j:Nat) t' e,(l[i].cons.map F)[j]? = some t'->b.2.2[j]? = some e->Fp (Blk.var false [AV.int .i64 t.k,AV.int .i64 t.v,AV.str t.nm,pv]::Blk.var false [AV.str l[i].nm,qv,cv]::b.2.1) t' e) (fun k b hk hI=>by
     obtain⟨a,pre,es⟩:=b;obtain⟨i1,i2,i3⟩:=hI;simp only at i1 i2 i3;obtain⟨ce,hce,hcR⟩:=hcv.ix hk;have hk':=AZ hk;have hw:=AY hk s4;have hkm:k<(l[i].cons.map F).length:=(by simpa using hk);have hsc:=s5 _ (Ap hk);obtain⟨fv,rfl,hfv⟩:=hcR.dest;obtain⟨e2,st2,hlp2,hq2⟩:=AU (M:=MX) (fid:=68) (N:=78) (C:=AE MX) (c:=AL f68 1) (n:=l[i].cons[k].fields.length)
      (fun m (b:AV×AF×List (List AV))=>([(3,.hp 0 0),(5,.hp 1 0),(6,a),(7,.int .i64 k),(8,.hp (pre.length+1+1) 0),(9,.int .i64 m)],Blk.var false [AV.int .i64 t.k,AV.int .i64 t.v,AV.str t.nm,pv]::Blk.var false [AV.str l[i].nm,qv,cv]::(pre++Blk.var false [AV.str l[i].cons[k].nm,b.1]::b.2.1)))
      (fun m b=>Ai 5 (pre.length+3) b.2.1 b.1 b.2.2/\b.2.2.length=((F l[i].cons[k]).fields.take m).length/\∀(j:Nat) t e,((F l[i].cons[k]).fields.take m)[j]? = some t->b.2.2[j]? = some e->Bo t e)
      (fun r=>∃ b:AV×AF×List (List AV),r=(.ext 2,([(3,.hp 0 0),(5,.hp 1 0),(6,a),(7,.int .i64 k),(8,.hp (pre.length+1+1) 0),(9,.int .i64 l[i].cons[k].fields.length),(46,.bool false)],Blk.var false [AV.int .i64 t.k,AV.int .i64 t.v,AV.str t.nm,pv]::Blk.var false [AV.str l[i].nm,qv,cv]::(pre++Blk.var false [AV.str l[i].cons[k].nm,b.1]::b.2.1))) /\
        Ai 5 (pre.length+3) b.2.1 b.1 b.2.2/\b.2.2.length=(F l[i].cons[k]).fields.length/\∀(j:Nat) t e,(F l[i].cons[k]).fields[j]? = some t->b.2.2[j]? = some e->Bo t e) (fun m b hm hM=>by
        obtain⟨fa,rest,fes⟩:=b;obtain⟨k1,k2,k3⟩:=hM;simp only at k1 k2 k3;obtain⟨fe,hfe,hfR⟩:=hfv.ix hm;have hm':=AZ hm;have hwm:=AY hm hsc.2.1;have hmm:m<(F l[i].cons[k]).fields.length:=(by simpa[F,F0]using hm);have hsf:=hsc.2.2 _ (Ap hm);obtain⟨tx,rfl,htx⟩:=hfR;obtain⟨ys,hys,hcall⟩:=c119 hqp s2 hp hps hpa l[i].cons[k].fields[m].ty tx htx hsf.2;have hfr:Bo (F l[i].cons[k]).fields[m] (.str l[i].cons[k].fields[m].nm::ys):=⟨ys,by simp[F,F0],by simpa[F,F0]using hys⟩;obtain⟨j1,j2⟩:=E9 k2 k3 hfr;rw[Cf hmm]at j1 j2;have hlen:fes.length<16777215:=(by rw[k2,GR];exact Hh (Mj _ _) (by simp only[F,F0,Fa];exact Hi hsc.2.1 (by decide)));obtain⟨q,rfl,hq⟩:=hys.Ab;obtain⟨q',rfl,hq'⟩:=htx.Ab;have k1':=k1.grow [Blk.var false [AV.str l[i].cons[k].fields[m].nm,AV.int .i64 l[i].cons[k].fields[m].ty.k,AV.int .i64 l[i].cons[k].fields[m].ty.v,AV.str l[i].cons[k].fields[m].ty.nm,q']];have hPl:(Blk.var false [AV.int .i64 t.k,AV.int .i64 t.v,AV.str t.nm,pv]::Blk.var false [AV.str l[i].nm,qv,cv]::(pre++[Blk.var false [AV.str l[i].cons[k].nm,fa]])).length=pre.length+3:=(by simp);obtain⟨fa',rest',hap,hacc⟩:=Ai.push (byt:=72) (P:=Blk.var false [AV.int .i64 t.k,AV.int .i64 t.v,AV.str t.nm,pv]::Blk.var false [AV.str l[i].nm,qv,cv]::(pre++[Blk.var false [AV.str l[i].cons[k].nm,fa]]))
         (.str l[i].cons[k].fields[m].nm::[.int .i64 (CT l[i].params t.ps l[i].cons[k].fields[m].ty).k,.int .i64 (CT l[i].params t.ps l[i].cons[k].fields[m].ty).v,.str (CT l[i].params t.ps l[i].cons[k].fields[m].ty).nm,q]) true (by rw[hPl];exact k1') (by decide) (by decide) hlen
        rw[hPl]at hacc;simp only[EM,Fk,FE]at hap;exact .inl ⟨(fa',rest',_),by simp[f68,hcv.len,hk',hce,hfv.len,hm',hfe,hcall,bsA,Aq,List.replicate,hap,hwm,hb13,AG,AV.AA,hq.AA,hq'.AA,hqp.AA,hp.AA,hacc.cells],hacc,j1,j2⟩) (fun b hM=>by
        obtain⟨fa,rest,fes⟩:=b;obtain⟨k1,k2,k3⟩:=hM;rw[DC (by simp[F,F0])]at k2 k3;exact⟨_,_,by simp[f68,hcv.len,hk',hce,hfv.len] <;> first | exact⟨rfl,rfl⟩ | rfl,by simp,(fa,rest,fes),rfl,k1,k2,k3⟩) (.AH,[],[]) ⟨.nil _ _ _,by simp,fun j t e h=>by simp at h⟩
     obtain⟨⟨fa,rest,fes⟩,hq2,k1,k2,k3⟩:=hq2;cases hq2;simp[f68]at hlp2;have hlen:es.length<16777215:=(by rw[i2,GR,Fa];exact Hh (Mj _ _) (Hi s4 (by decide)));let B0:=Blk.var false [AV.int .i64 t.k,AV.int .i64 t.v,AV.str t.nm,pv];let B1:=Blk.var false [AV.str l[i].nm,qv,cv];let C:=Blk.var false [AV.str l[i].cons[k].nm,fa];have hfa:Ke 5 (B0::B1::(pre++C::rest)) fa fes:=by
      rcases k1 with h | ⟨j,h0,h1,h2⟩
      .exact .inl h
      .refine .inr ⟨pre.length+3+j,false,h0,h1,?_⟩;show(B0::B1::(pre++C::rest))[pre.length+3+j]? = _;rw[show pre.length+3+j=(pre.length+1+j)+1+1 by omega,Kq,Kq,EL (by omega),show pre.length+1+j - pre.length=j+1 by omega];simpa using h2
     have e0:Fp (B0::B1::(pre++C::rest)) (l[i].cons.map F)[k] [AV.str l[i].cons[k].nm,fa]:=⟨fa,fes,by simp[F,F0],hfa,by simpa[F]using k2,fun j t e h1 h2=>k3 j t e (by simpa[F]using h1) h2⟩;have fin:∀(H:AF) (x:AV),Dg (B0::B1::(pre++C::rest)) H->Ai 2 0 H a es->A7 H x=some [[AV.str l[i].cons[k].nm,fa]]->CC 2 x=true->(∀ b,x≠.str b)->H[0]? = some B0->H[1]? = some B1 ->
      ∃ a' T,apA 2 40 a x H=some (a',B0::B1::T)/\Ai 2 0 (B0::B1::T) a' (es++[[AV.str l[i].cons[k].nm,fa]])/\(es++[[AV.str l[i].cons[k].nm,fa]]).length=((l[i].cons.map F).take (k+1)).length/\∀(j:Nat) t' e,((l[i].cons.map F).take (k+1))[j]? = some t'->(es++[[AV.str l[i].cons[k].nm,fa]])[j]? = some e->Fp (B0::B1::T) t' e:=by
      intro H x hk hacc hrd hsz hst hh0 hh1;obtain⟨a',H',h1,h2,h3⟩:=Sc (byt:=40) hacc hrd hsz hst (by simp) (by decide) (by decide) (by simp;omega);have g0:=h3 0 _ hh0 (fun lk es e=>by simp[B0]at e);have g1:=h3 1 _ hh1 (fun lk es e=>by simp[B1]at e);obtain⟨T,rfl⟩:∃ T,H'=B0::B1::T:=by
       match H',g0,g1 with
       | x::y::T,g0,g1=>simp at g0 g1;exact⟨T,by rw[g0,g1]⟩
      obtain⟨j1,j2⟩:=E9 (R:=Fp (B0::B1::(pre++C::rest))) i2 (fun j t e g1 g2=>(i3 j t e g1 g2).keeps (NX (B0::B1::pre) (C::rest))) e0;rw[Cf hkm]at j1 j2;have keepP:∀ t e,Fp H t e->Fp (B0::B1::T) t e:=fun t e h=>by
       obtain⟨q3,q4,q5,q6,q7,q8⟩:=h;refine⟨q3,q4,q5,?_,q7,q8⟩;rcases q6 with h | ⟨id,lk,g0,g1,g2⟩
       .exact .inl h
       .exact .inr ⟨id,lk,g0,g1,h3 id _ g2 (fun lk' es' e=>by cases e)⟩
      exact⟨a',T,h1,h2,j1,fun j t e g1 g2=>keepP t e ((j2 j t e g1 g2).keeps hk)⟩
     have i1':Ai 2 0 (B0::B1::(pre++C::rest)) a es:=Ai.grow (rest:=B0::B1::pre) i1 (C::rest);cases hna:fa.AA with
     | true=>
      obtain⟨a',T,f1,f2,f3,f4⟩:=fin _ (.sl 2 true [[AV.str l[i].cons[k].nm,fa]]) (Dg.refl _) i1' rfl (by simp[CC,BM]) (fun b h=>by cases h) rfl rfl;simp only[B0,B1,C]at f1;exact .inl ⟨(a',T,es++[[AV.str l[i].cons[k].nm,fa]]),by simp[f68,hcv.len,hk',hce,hlp2,bsA,Aq,List.replicate,AG,AV.AA,hna,f1,hw],f2,f3,f4⟩
     | false=>
      obtain⟨a',T,f1,f2,f3,f4⟩:=fin ((B0::B1::(pre++C::rest))++[Blk.arr 2 false [[AV.str l[i].cons[k].nm,fa]]]) (.hs (B0::B1::(pre++C::rest)).length 1 2 0 1 false) (NX _ _) (i1'.grow _)
       (by simp only[A7,BR];simp) (by simp[CC,BM]) (fun b h=>by cases h) rfl rfl
      simp[B0,B1,C]at f1;exact .inl ⟨(a',T,es++[[AV.str l[i].cons[k].nm,fa]]),by simp[f68,hcv.len,hk',hce,hlp2,bsA,Aq,List.replicate,A3,AG,AV.AA,hna,f1,hw],f2,f3,f4⟩) (fun b hI=>by
     obtain⟨a,rest,es⟩:=b;obtain⟨i1,i2,i3⟩:=hI;rw[DC (by simp)]at i2 i3;exact⟨_,_,by simp[f68,hcv.len] <;> first | exact⟨rfl,rfl⟩ | rfl,by simp,(a,rest,es),rfl,i1,i2,i3⟩) (.AH,[],[]) ⟨.nil _ _ _,by simp,fun j t e h=>by simp at h⟩
  obtain⟨⟨a,rest,es⟩,hq,i1,i2,i3⟩:=hq;cases hq;simp[f68]at hlp;obtain⟨v',H',s6,s7,s8⟩:=Sd (K:=3) (fun H d e h=>Fp.snap h) (fun H H' d e h k=>Fp.keeps h k) (fun H d e h hn=>Fp.AA h hn) (Ai.toL (P:=[]) i1) i2 i3;rw[hcons];have hrun:AJ MX 68 [lv,.agg [.int .i64 t.k,.int .i64 t.v,.str t.nm,pv]] []=some (.ret a,Blk.var false [AV.int .i64 t.k,AV.int .i64 t.v,AV.str t.nm,pv]::Blk.var false [AV.str l[i].nm,qv,cv]::rest):=by
   simp[AJ,f68,hb',hD,hf,ixI,hde,hlp]
  exact⟨v',s7,fun h=>Hu TL WZ hn s6 (by simp only[Ds,Fa];omega) s7.AA s8 hrun h⟩
end
end Go.Proofs.Am12
namespace Go.Am
open Go
def Bi(L:List (List Nat)):List (Nat×Kd)->Bool
 | []=>true
 | (i,x)::r=>(r.all fun p => !(BN x p.2)||(L.getD p.1 []).elem i)&&Bi L r
theorem CJ{ops:Array Oper}{ks:List Kd}(h:Bi (A2 ops) (Bt 0 ks)=true):Hm ops ks=true:=by
 unfold Hm;have hb:∀ i j,((A2 ops).getD j []).elem i=true->((Region.before ops).getD j 0).testBit i=true:=by
  intro i j h;unfold A2 at h;rw[Ko,Fx]at h;cases hm:(Region.before ops).toList[j]? with
  | none=>rw[hm]at h;simp at h
  | some m=>
   rw[hm]at h;simp only[E0,GQ,List.elem_eq_mem,decide_eq_true_eq,JI]at h;have hm':(Region.before ops)[j]? = some m:=(by simpa using hm);rw[Gy,hm'];exact h.2
 have h2:∀(l:List (Nat×Kd)),Bi (A2 ops) l=true->GB (Region.before ops) l=true:=by
  intro l;induction l with
  | nil=>intro _;rfl
  | cons a r ih=>
   intro h;obtain⟨i,x⟩:=a;simp only[Bi,BU,D0]at h;simp only[GB,BU,D0];refine⟨fun p hp => ?_,ih h.2⟩;have:=h.1 p hp;simp only[L3]at this ⊢;rcases this with h3 | h3
   .exact .inl h3
   .exact .inr (hb _ _ h3)
 exact h2 _ h
end Go.Am
namespace Go.Am
open Go
mutual
theorem AV.Pv:∀ a:AV,AV.beq a a=true
 | .undef=>rfl
 | .bool b=>by simp[AV.beq]
 | .int k n=>by simp[AV.beq]
 | .str s=>by simp[AV.beq]
 | .ED=>rfl
 | .ro cs=>by simp only[AV.beq];exact G9 cs
 | .hp i o=>by simp[AV.beq]
 | .ep a b c d e=>by simp[AV.beq]
 | .AH=>rfl
 | .sl a b c=>by simp only[AV.beq,JM,beq_self_eq_true,IC];exact Lv c
 | .hs a b c d e f=>by simp[AV.beq]
 | .Ga=>rfl
 | .hm i=>by simp[AV.beq]
 | .fn f a c=>by simp only[AV.beq,JM,IC,G9 a,G9 c]
 | .Gc=>rfl
 | .iface t v=>by simp only[AV.beq,JM,IC];exact AV.Pv v
 | .I7=>rfl
 | .agg a=>by simp only[AV.beq];exact G9 a
 | .tup a=>by simp only[AV.beq];exact G9 a
theorem G9:∀ l:List AV,KG l l=true
 | []=>rfl
 | a::r=>by simp only[KG,AV.Pv a,G9 r,Bool.and_self]
theorem Lv:∀ l:List (List AV),Kw l l=true
 | []=>rfl
 | a::r=>by simp only[Kw,G9 a,Lv r,Bool.and_self]
end
theorem EN:∀ b:Blk,Blk.beq b b=true:=by
 intro b;have h1:(∀ v:AV,AV.beq v v=true)/\(∀ l:List AV,KG l l=true)/\(∀ l:List (List AV),Kw l l=true):=⟨AV.Pv,G9,Lv⟩;cases b with
 | var l a=>simp[Blk.beq,h1.2.1]
 | arr s l a=>simp[Blk.beq,h1.2.2]
 | mp a=>
  have:∀ a:List (AV×AV),L4 a a=true:=by
   intro a;induction a with
   | nil=>rfl
   | cons x r ih=>simp[L4,h1.1,ih]
  simp[Blk.beq,this]
 | hole=>rfl
theorem He:∀(k:Nat) (T:AF),Da k T T=[]
 | _,[]=>rfl
 | k,b::r=>by simp only[Da,EN b,He (k+1) r]
theorem Hv(k:Nat)(X Y:Blk)(T:AF)(x:Nat)(h:x∈Da k (X::T) (Y::T)):x=k:=by
 simp only[Da]at h;split at h
 .rw[He]at h;cases h
 .rw[He]at h;simpa using h
theorem DQ{X Y:Blk}{T:AF}{x:Nat}(hx:x≠0):(x∈Da 0 (X::T) (Y::T))=False:=by
 refine eq_false fun h=>hx ?_
 exact Hv _ X Y T x h
theorem DR{b0 X Y:Blk}{T:AF}{x:Nat}(hx:x≠1):(x∈Da 0 (b0::X::T) (b0::Y::T))=False:=by
 refine eq_false fun h=>hx ?_
 simp only[Da,EN]at h;exact Hv _ X Y T x h
theorem DS{b0 b1 X Y:Blk}{T:AF}{x:Nat}(hx:x≠2):(x∈Da 0 (b0::b1::X::T) (b0::b1::Y::T))=False:=by
 refine eq_false fun h=>hx ?_
 simp only[Da,EN]at h;exact Hv _ X Y T x h
theorem DT{b0 b1 b2 X Y:Blk}{T:AF}{x:Nat}(hx:x≠3):(x∈Da 0 (b0::b1::b2::X::T) (b0::b1::b2::Y::T))=False:=by
 refine eq_false fun h=>hx ?_
 simp only[Da,EN]at h;exact Hv _ X Y T x h
theorem DU{b0 b1 b2 b3 X Y:Blk}{T:AF}{x:Nat}(hx:x≠4):(x∈Da 0 (b0::b1::b2::b3::X::T) (b0::b1::b2::b3::Y::T))=False:=by
 refine eq_false fun h=>hx ?_
 simp only[Da,EN]at h;exact Hv _ X Y T x h
theorem DW{b0 b1 b2 b3 b4 X Y:Blk}{T:AF}{x:Nat}(hx:x≠5):(x∈Da 0 (b0::b1::b2::b3::b4::X::T) (b0::b1::b2::b3::b4::Y::T))=False:=by
 refine eq_false fun h=>hx ?_
 simp only[Da,EN]at h;exact Hv _ X Y T x h
theorem DX{b0 b1 b2 b3 b4 b5 X Y:Blk}{T:AF}{x:Nat}(hx:x≠6):(x∈Da 0 (b0::b1::b2::b3::b4::b5::X::T) (b0::b1::b2::b3::b4::b5::Y::T))=False:=by
 refine eq_false fun h=>hx ?_
 simp only[Da,EN]at h;exact Hv _ X Y T x h
end Go.Am
namespace Go.Am
open Go
def Ca(v:Option AV):Kd:=match v with
 | some (.hm id)=> .ld id
 | _=> .st
theorem SlR.Ca{α:Type}{R:α->List AV->Prop}{sz:Nat}{l:List α}{v:AV}(hv:SlR R sz l v):Ca (some v)=.st:=by
 rcases hv with⟨_,rfl⟩ | ⟨_,_,rfl,_⟩ <;> rfl
section
variable(M:Par)(t:Tm)(h h':AF)
theorem Ec(x):FH M t (.move x) h h'=.st:=rfl
theorem Cg(x):FH M t (.assign x) h h'=.st:=rfl
theorem Ed(a b c):FH M t (.pick a b c) h h'=.st:=rfl
theorem Dh(a b):FH M t (.build a b) h h'=.st:=rfl
theorem FR(a):FH M t (.nilCheck a) h h'=.st:=rfl
theorem FT(a b c d e):FH M t (.binOp a b c d e) h h'=.st:=rfl
theorem Gf(a b c):FH M t (.unOp a b c) h h'=.st:=rfl
theorem Di(a b):FH M t (.makeInterface a b) h h'=.st:=rfl
theorem Ee(a b c):FH M t (.makeFunc a b c) h h'=.st:=rfl
theorem Dj(a b c d e):FH M t (.slice a b c d e) h h'=.st:=rfl
theorem BO(a b c):FH M t (.fieldAddr a b c) h h'=.st:=rfl
theorem Dk(a b c):FH M t (.field a b c) h h'=.st:=rfl
theorem BP(a b c):FH M t (.indexAddr a b c) h h'=.st:=rfl
theorem Dl(a b c):FH M t (.index a b c) h h'=.st:=rfl
theorem CD(a b):FH M t (.extract a b) h h'=.st:=rfl
theorem Ef(a b):FH M t (.load a b) h h'=DI (ev t b):=rfl
theorem Ch(a b c d):FH M t (.lookup a b c d) h h'=DI (ev t b):=rfl
theorem FU(a b):FH M t (.call { callee:=.builtin .len,args:=a,argTypes:=b }) h h'=Ca ((a[0]?).bind (ev t)):=rfl
theorem FV(a b):FH M t (.call { callee:=.builtin .max,args:=a,argTypes:=b }) h h'=.st:=rfl
theorem FW(a b):FH M t (.call { callee:=.builtin .min,args:=a,argTypes:=b }) h h'=.st:=rfl
theorem Ci(a b):FH M t (.call { callee:=.builtin .append,args:=a,argTypes:=b }) h h'=.ch (Da 0 h h'):=rfl
theorem Dm(f a b):FH M t (.call { callee:=.value f,args:=a,argTypes:=b }) h h'=(match ev t f,evs t a.toList with
 | some (.fn g fs cap),some vs=>(match(M.prim g).isSome||((M.mode g).fresh && !(M.mode g).keepTop&&(fs++vs++cap).all AV.AA)with
  | true=> .st
  | false=> .ch (Da 0 h h'))
 | _,_=> .ch (Da 0 h h')):=rfl
theorem Dn(a):FH M t (.alloc a) h h'=.ch [h.length]:=rfl
theorem FX(a b):FH M t (.box a b) h h'=.ch [h.length]:=rfl
theorem Gg(a b c):FH M t (.buildSlice a b c) h h'=(match Nat.beq h.length h'.length with | true=> .st | false=> .ch [h.length]):=rfl
theorem FY(a b):FH M t (.makeMap a b) h h'=.ch [h.length]:=rfl
theorem Gh(a b c):FH M t (.makeSlice a b c) h h'=.ch [h.length]:=rfl
theorem Gi(a b c):FH M t (.convert a b c) h h'=(match Nat.beq h.length h'.length with | true=> .st | false=> .ch [h.length]):=rfl
theorem Dp(a b c):FH M t (.store a b c) h h'=.ch (Da 0 h h'):=rfl
theorem BQ(a b c d):FH M t (.mapUpdate a b c d) h h'=.ch (Da 0 h h'):=rfl
theorem Cj(a b c d):FH M t (.insert a b c d) h h'=.ch (Da 0 h h'):=rfl
end
theorem CE:Ca (some .AH)=.st:=rfl
theorem Dq(a b c):Ca (some (.sl a b c))=.st:=rfl
theorem Dr(a b c d e f):Ca (some (.hs a b c d e f))=.st:=rfl
theorem Ck(a):Ca (some (.str a))=.st:=rfl
end Go.Am
namespace Go.Proofs.Am12
open Go Go.Am Tryz
section
attribute [local simp] C7 Br EW DL CG Dd Du Eu BZ Ar Bg Al GV FF EF HE D4 Ax FB EG HF HG xUn E7 D5 FG BF DH BG D6 BH D7 Ce CX Bw BJ EH Ej
 ev evs C4 DE OR.ofV OR.Dz OR.ofC FP Tm.get Tm.init Tm.only A1 A8 CM finish CF DJ HR Dy D3 unA B7 Bb B8 Bc Co Cp Cq Bd Cr Cs Be Ct Cu Bf B9 AL CQ Ba Cm Cn B6 Ev Ew Ey Dv Dw Fl F8 F9 Fm stA Ay Db Bn FH DI E8 Gt Bs C6 CI FI Gu
attribute [local simp] CJ Bi Bt BN DQ DR DS DT DU DW DX
abbrev Rec:=TyV->Int->Int×Int
def eFs(rec:Rec):List DA->Int->Int×Int
 | [],c=>(c,0)
 | f::r,c=>if(rec f.ty c).2=0 then eFs rec r (rec f.ty c).1 else rec f.ty c
def eCs(rec:Rec):List CS->Int->Int×Int
 | [],c=>(c,0)
 | k::r,c=>if(eFs rec k.fields c).2=0 then eCs rec r (eFs rec k.fields c).1 else eFs rec k.fields c
def Bu(t:TyV):TyV:=t.ps.getD 0 default
def EO(l:List AK)(r:Option Rec)(t:TyV)(c:Int):Int×Int:=
 if Bp t=false then(c+1,8)else if t.k=2 then(c+1,26)else if Ek t=true/\(Bu t).k≠2 then(c+1,26)else if Ek t=true/\¬ (1<=(Bu t).v/\(Bu t).v<=16)then(c+1,25)else
 if 200<c+1 then(c+1,8)else match r with
  | none=>(c+1,8)
  | some rec=>if Ek t=true then(c+1,0)else eCs rec (AP l t) (c+1)
def Eg(l:List AK):Nat->Rec
 | 0=>EO l none
 | n+1=>EO l (some (Eg l n))
def VT(l:List AK)(t:TyV):Prop:=Aj l [] t=0
structure DOK(l:List AK):Prop where
 bit:∀ t,VT l t->Ek t=true->t.ps.length=1
 has:∀ t,VT l t->t.k≠2->Ek t=false->HasC l t
 fld:∀ t,VT l t->t.k≠2->Ek t=false->∀ c∈AP l t,∀ f∈c.fields,VT l f.ty
theorem Gv{b:Nat}{l:List AK}(hsl:SmL b l){t:TyV}(hst:Sm b t)(h8:5<b):(AP l t).length<b/\∀ c∈AP l t,SmC b c:=by
 have hps:∀ p∈t.ps,Sm b p:=by cases t;exact hst.dest.2.2
 unfold AP;split
 .exact⟨by simp;omega,fun c hc=>by
   simp only[Cd,JA,or_false]at hc;rcases hc with rfl | rfl
   .exact⟨by simp[Cc];omega,by simp;omega,fun f hf=>by cases hf⟩
   .exact⟨by simp[EB];omega,by simp;omega,fun f hf=>by cases hf⟩⟩
 .split
  .rename_i i hf;have hil:=G8 hf;have hgd:l.getD i default=l[i]:=(by simp[hil]);rw[hgd];obtain⟨s1,s2,s3,s4,s5⟩:=hsl.2 _ (Ap hil);refine⟨by simpa using s4,fun c hc => ?_⟩;obtain⟨c0,hc0,rfl⟩:=F5.1 hc;obtain⟨q1,q2,q3⟩:=s5 c0 hc0;refine⟨q1,by simpa[F0]using q2,fun f hf => ?_⟩;obtain⟨f0,hf0,rfl⟩:=F5.1 hf;obtain⟨r1,r2⟩:=q3 f0 hf0;exact⟨r1,aX hps (by omega) _ r2⟩
  .exact⟨by simp;omega,fun c hc=>by cases hc⟩
def Kf(rec:Rec):Prop:=∀ t c,0<=c->c<=200->0<=(rec t c).1/\(rec t c).1<=201/\((rec t c).2=0->(rec t c).1<=200)
theorem Oj{rec:Rec}(hr:Kf rec):∀(fs:List DA) c,0<=c->c<=200->0<=(eFs rec fs c).1/\(eFs rec fs c).1<=201/\((eFs rec fs c).2=0->(eFs rec fs c).1<=200)
 | [],c,h0,h1=>⟨h0,by simp[eFs];omega,fun _=>h1⟩
 | f::r,c,h0,h1=>by
  obtain⟨a,b,d⟩:=hr f.ty c h0 h1;simp only[eFs];split
  .rename_i hz;exact Oj hr r _ a (d hz)
  .exact⟨a,b,d⟩
theorem Ol{rec:Rec}(hr:Kf rec):∀(cs:List CS) c,0<=c->c<=200->0<=(eCs rec cs c).1/\(eCs rec cs c).1<=201/\((eCs rec cs c).2=0->(eCs rec cs c).1<=200)
 | [],c,h0,h1=>⟨h0,by simp[eCs];omega,fun _=>h1⟩
 | f::r,c,h0,h1=>by
  obtain⟨a,b,d⟩:=Oj hr f.fields c h0 h1;simp only[eCs];split
  .rename_i hz;exact Ol hr r _ a (d hz)
  .exact⟨a,b,d⟩
theorem ME{l:List AK}{r:Option Rec}(hr:∀ rec,r=some rec->Kf rec):Kf (EO l r):=by
 intro t c h0 h1;unfold EO;split
 .exact⟨by simp;omega,by simp;omega,fun h=>by cases h⟩
 split
 .exact⟨by simp;omega,by simp;omega,fun h=>by cases h⟩
 split
 .exact⟨by simp;omega,by simp;omega,fun h=>by cases h⟩
 split
 .exact⟨by simp;omega,by simp;omega,fun h=>by cases h⟩
 split
 .exact⟨by simp;omega,by simp;omega,fun h=>by cases h⟩
 split
 .exact⟨by simp;omega,by simp;omega,fun h=>by cases h⟩
 split
 .exact⟨by simp;omega,by simp;omega,fun _=>by simp;omega⟩
 .exact Ol (hr _ rfl) _ _ (by omega) (by omega)
theorem Kg(l:List AK):∀ n,Kf (Eg l n)
 | 0=>ME fun rec h=>by cases h
 | n+1=>ME fun rec h=>by cases h;exact Kg l n
theorem c154{l:List AK}{lv:AV}(hl:SlR Ac 3 l lv)(hsl:SmL 1048577 l)(hok:DOK l):∀(n:Nat),n<=40->∀(t:TyV) (xs:List AV) (c e0:Int),AR t xs->Sm 1048577 t->VT l t->0<=c->c<=200->∀ h,
 AI MX (AE MX) 154 [lv,.agg xs,.agg [.int .i64 c,.int .i64 e0,.int .i64 (40 - n)]] h=some (.ret (.agg [.int .i64 (Eg l n t c).1,.int .i64 (Eg l n t c).2,.int .i64 (40 - n)]),h):=by
 intro n;induction n with
 | zero=>
  intro _ t xs c e0 hx hst hv h0 h1 h;have hn:([lv,AV.agg xs,.agg [.int .i64 c,.int .i64 e0,.int .i64 (40 - (0:Nat))]]:List AV).all AV.AA=true:=by simp[AV.AA,hx.AG,hl.AA,AG]
  have wc:wr .i64 (c+1)=c+1:=Cl (by omega) (by omega);have hT:=c59 hx hst;have hB:=c66 hx;have hbit:=hok.bit t hv;obtain⟨D,hD⟩:∃ D:Int,D=40 - (0:Nat):=⟨_,rfl⟩;rw[<- hD]at hn ⊢;have hd:40<=D:=by omega
  obtain⟨pv,rfl,hp⟩:=hx.Ab;obtain⟨hr,hc⟩:∃ hr,AJ MX 154 [lv,.agg [.int .i64 t.k,.int .i64 t.v,.str t.nm,pv],.agg [.int .i64 c,.int .i64 e0,.int .i64 D]] []=some (.ret (.agg [.int .i64 (Eg l 0 t c).1,.int .i64 (Eg l 0 t c).2,.int .i64 D]),hr):=by
   simp only[Eg,EO];cases hT0:Bp t with
   | false=>exact⟨_,by simp[AJ,f154,wc,hT,hT0,DJ] <;> rfl⟩
   | true=>
   by_cases h2:t.k=2
   .have h2':(t.k == 2)=true:=(by simp[h2]);rw[if_neg (by simp),if_pos h2];exact⟨_,by simp[AJ,f154,wc,hT,hT0,h2',DJ] <;> rfl⟩
   .have h2':(t.k == 2)=false:=(by simp[h2]);cases hB0:Ek t with
    | false=>
     by_cases h200:200<c+1
     .exact⟨_,by simp[AJ,f154,wc,hT,hT0,h2,h2',hB,hB0,h200,hd,DJ] <;> rfl⟩
     .exact⟨_,by simp[AJ,f154,wc,hT,hT0,h2,h2',hB,hB0,h200,hd,DJ] <;> rfl⟩
    | true=>
     have hb:=hbit hB0;obtain⟨e,he,hR⟩:=hp.ix (i:=0) (by omega);have hag:Bu t=t.ps[0]'(by omega):=(by simp[Bu,hb]);rw[<- hag]at hR;obtain⟨qv,rfl,hq⟩:=hR.Ab;simp only[Int.natCast_zero]at he;by_cases hk:(Bu t).k=2
     .have hk':((Bu t).k != 2)=false:=(by simp[hk]);by_cases hw:1<=(Bu t).v/\(Bu t).v<=16
      .by_cases h200:200<c+1
       .exact⟨_,by simp[AJ,f154,wc,hT,hT0,h2,h2',hB,hB0,he,hk,hk',hw,h200,hd,DJ] <;> rfl⟩
       .exact⟨_,by simp[AJ,f154,wc,hT,hT0,h2,h2',hB,hB0,he,hk,hk',hw,h200,hd,DJ] <;> rfl⟩
      .exact⟨_,by simp[AJ,f154,wc,hT,hT0,h2,h2',hB,hB0,he,hk,hk',hw,DJ] <;> rfl⟩
     .have hk':((Bu t).k != 2)=true:=(by simp[hk]);exact⟨_,by simp[AJ,f154,wc,hT,hT0,h2,h2',hB,hB0,he,hk,hk',DJ] <;> rfl⟩
  exact Af Qv Tc hn (by simp[AV.AA,AG]) hc h
 | succ n ih=>
  intro hn40 t xs c e0 hx hst hv h0 h1 h;have hn:([lv,AV.agg xs,.agg [.int .i64 c,.int .i64 e0,.int .i64 (40 - (n+1:Nat))]]:List AV).all AV.AA=true:=by simp[AV.AA,hx.AG,hl.AA,AG]
  have wc:wr .i64 (c+1)=c+1:=Cl (by omega) (by omega);have hT:=c59 hx hst;have hB:=c66 hx;have hbit:=hok.bit t hv;have hd:¬ (40<=(40 - (n+1:Nat):Int)):=by omega
  have hd1:(40 - (n+1:Nat):Int)+1=40 - (n:Int):=by omega
  have wd:wr .i64 ((40 - (n+1:Nat):Int)+1)=40 - (n:Int):=by rw[hd1];exact Cl (by omega) (by omega)
  have h68:=c68 hl hsl hx hst;obtain⟨D,hD⟩:∃ D:Int,D=40 - (n+1:Nat):=⟨_,rfl⟩;rw[<- hD]at hd wd hn ⊢;have hcsm:=Gv hsl hst (by decide);obtain⟨pv,rfl,hp⟩:=hx.Ab;obtain⟨hr,hc⟩:∃ hr,AJ MX 154 [lv,.agg [.int .i64 t.k,.int .i64 t.v,.str t.nm,pv],.agg [.int .i64 c,.int .i64 e0,.int .i64 D]] []=some (.ret (.agg [.int .i64 (Eg l (n+1) t c).1,.int .i64 (Eg l (n+1) t c).2,.int .i64 D]),hr):=by
   simp only[Eg,EO];cases hT0:Bp t with
   | false=>exact⟨_,by simp[AJ,f154,wc,hT,hT0,DJ] <;> rfl⟩
   | true=>
   by_cases h2:t.k=2
   .have h2':(t.k == 2)=true:=(by simp[h2]);rw[if_neg (by simp),if_pos h2];exact⟨_,by simp[AJ,f154,wc,hT,hT0,h2',DJ] <;> rfl⟩
   .have h2':(t.k == 2)=false:=(by simp[h2]);cases hB0:Ek t with
    | true=>
     have hb:=hbit hB0;obtain⟨e,he,hR⟩:=hp.ix (i:=0) (by omega);have hag:Bu t=t.ps[0]'(by omega):=(by simp[Bu,hb]);rw[<- hag]at hR;obtain⟨qv,rfl,hq⟩:=hR.Ab;simp only[Int.natCast_zero]at he;by_cases hk:(Bu t).k=2
     .have hk':((Bu t).k != 2)=false:=(by simp[hk]);by_cases hw:1<=(Bu t).v/\(Bu t).v<=16
      .by_cases h200:200<c+1
       .exact⟨_,by simp[AJ,f154,wc,hT,hT0,h2,h2',hB,hB0,he,hk,hk',hw,h200,DJ] <;> rfl⟩
       .exact⟨_,by simp[AJ,f154,wc,hT,hT0,h2,h2',hB,hB0,he,hk,hk',hw,h200,hd,DJ] <;> rfl⟩
      .exact⟨_,by simp[AJ,f154,wc,hT,hT0,h2,h2',hB,hB0,he,hk,hk',hw,DJ] <;> rfl⟩
     .have hk':((Bu t).k != 2)=true:=(by simp[hk]);exact⟨_,by simp[AJ,f154,wc,hT,hT0,h2,h2',hB,hB0,he,hk,hk',DJ] <;> rfl⟩
    | false=>
     by_cases h200:200<c+1
     .exact⟨_,by simp[AJ,f154,wc,hT,hT0,h2,h2',hB,hB0,h200,DJ] <;> rfl⟩
     .obtain⟨w,hw,h68'⟩:=h68 (hok.has t hv h2 hB0);have hvf:=hok.fld t hv h2 hB0;have hR:=Kg l n;have hb23:=SQ;simp[Aa,An,f154]at hb23;have hb24:=SR;simp[Aa,An,f154]at hb24;obtain⟨e,st,hlp,hq⟩:=AU (M:=MX) (fid:=154) (N:=113) (C:=AE MX) (c:=AL f154 0) (n:=(AP l t).length)
       (fun i (b:Int×AF)=>([(0,lv),(6,.hp 2 0),(7,.hp 3 0),(8,w),(9,.int .i64 i)],Blk.var false [AV.int .i64 t.k,AV.int .i64 t.v,AV.str t.nm,pv]::Blk.var false [AV.int .i64 c,AV.int .i64 e0,AV.int .i64 D]::Blk.var false [AV.int .i64 0,AV.int .i64 0,AV.int .i64 0]::Blk.var false [AV.int .i64 b.1,AV.int .i64 0,AV.int .i64 D]::b.2))
       (fun i b=>0<=b.1/\b.1<=200/\eCs (Eg l n) (AP l t) (c+1)=eCs (Eg l n) ((AP l t).drop i) b.1)
       (fun r=>∃ b:Int×AF,(r=(.ext 0,([(0,lv),(6,.hp 2 0),(7,.hp 3 0),(8,w),(9,.int .i64 (AP l t).length),(72,.bool false)],Blk.var false [AV.int .i64 t.k,AV.int .i64 t.v,AV.str t.nm,pv]::Blk.var false [AV.int .i64 c,AV.int .i64 e0,AV.int .i64 D]::Blk.var false [AV.int .i64 0,AV.int .i64 0,AV.int .i64 0]::Blk.var false [AV.int .i64 b.1,AV.int .i64 0,AV.int .i64 D]::b.2))/\eCs (Eg l n) (AP l t) (c+1)=(b.1,0)) \/
         (r=(.ret,([(6,.hp 2 0)],Blk.var false [AV.int .i64 t.k,AV.int .i64 t.v,AV.str t.nm,pv]::Blk.var false [AV.int .i64 c,AV.int .i64 e0,AV.int .i64 D]::Blk.var false [AV.int .i64 (eCs (Eg l n) (AP l t) (c+1)).1,AV.int .i64 (eCs (Eg l n) (AP l t) (c+1)).2,AV.int .i64 D]::b.2)))) (fun i b hi hI=>by
         obtain⟨cc,G⟩:=b;obtain⟨i0,i1,i2⟩:=hI;simp only at i0 i1 i2;obtain⟨ce,hce,hcR⟩:=hw.ix hi;have hi':=AZ hi;have hwi:=AY hi hcsm.1;have hsc:=hcsm.2 _ (Ap hi);obtain⟨fv,rfl,hfv⟩:=hcR.dest;have hdr:(AP l t).drop i=(AP l t)[i]::(AP l t).drop (i+1):=De hi;rw[hdr]at i2;simp only[eCs]at i2;obtain⟨e2,st2,hlp2,hq2⟩:=AU (M:=MX) (fid:=154) (N:=113) (C:=AE MX) (c:=AL f154 1) (n:=(AP l t)[i].fields.length)
          (fun j (b:Int×AF)=>([(0,lv),(6,.hp 2 0),(7,.hp 3 0),(8,w),(9,.int .i64 i),(10,.int .i64 j)],Blk.var false [AV.int .i64 t.k,AV.int .i64 t.v,AV.str t.nm,pv]::Blk.var false [AV.int .i64 c,AV.int .i64 e0,AV.int .i64 D]::Blk.var false [AV.int .i64 0,AV.int .i64 0,AV.int .i64 0]::Blk.var false [AV.int .i64 b.1,AV.int .i64 0,AV.int .i64 D]::b.2))
          (fun j b=>0<=b.1/\b.1<=200/\eFs (Eg l n) (AP l t)[i].fields cc=eFs (Eg l n) ((AP l t)[i].fields.drop j) b.1)
          (fun r=>∃ b:Int×AF,(r=(.ext 2,([(0,lv),(6,.hp 2 0),(7,.hp 3 0),(8,w),(9,.int .i64 i),(10,.int .i64 (AP l t)[i].fields.length),(82,.bool false)],Blk.var false [AV.int .i64 t.k,AV.int .i64 t.v,AV.str t.nm,pv]::Blk.var false [AV.int .i64 c,AV.int .i64 e0,AV.int .i64 D]::Blk.var false [AV.int .i64 0,AV.int .i64 0,AV.int .i64 0]::Blk.var false [AV.int .i64 b.1,AV.int .i64 0,AV.int .i64 D]::b.2))/\eFs (Eg l n) (AP l t)[i].fields cc=(b.1,0)/\0<=b.1/\b.1<=200) \/
            (r=(.ret,([(6,.hp 2 0)],Blk.var false [AV.int .i64 t.k,AV.int .i64 t.v,AV.str t.nm,pv]::Blk.var false [AV.int .i64 c,AV.int .i64 e0,AV.int .i64 D]::Blk.var false [AV.int .i64 (eFs (Eg l n) (AP l t)[i].fields cc).1,AV.int .i64 (eFs (Eg l n) (AP l t)[i].fields cc).2,AV.int .i64 D]::b.2))/\(eFs (Eg l n) (AP l t)[i].fields cc).2≠0)) (fun j b hj hJ=>by
            obtain⟨cf,G'⟩:=b;obtain⟨j0,j1,j2⟩:=hJ;simp only at j0 j1 j2;obtain⟨fe,hfe,hfR⟩:=hfv.ix hj;have hj':=AZ hj;have hwj:=AY hj hsc.2.1;have hmf:=Ap hj;obtain⟨tx,rfl,htx⟩:=hfR;have hrec:=ih (by omega) (AP l t)[i].fields[j].ty tx cf 0 htx (hsc.2.2 _ hmf).2 (hvf _ (Ap hi) _ hmf) j0 j1;obtain⟨r1,r2,r3⟩:=hR (AP l t)[i].fields[j].ty cf j0 j1;obtain⟨qv,rfl,hqv⟩:=htx.Ab;have hdr2:(AP l t)[i].fields.drop j=(AP l t)[i].fields[j]::(AP l t)[i].fields.drop (j+1):=De hj;rw[hdr2]at j2;simp only[eFs]at j2;by_cases hz:(Eg l n (AP l t)[i].fields[j].ty cf).2=0
            .rw[if_pos hz]at j2;exact .inl ⟨((Eg l n (AP l t)[i].fields[j].ty cf).1,G'++[Blk.var false [AV.int .i64 (Eg l n (AP l t)[i].fields[j].ty cf).1,AV.int .i64 0,AV.int .i64 (40 - n)]]),by simp[f154,hw.len,hi',hce,hfv.len,hj',hfe,wd,hrec,hz,hwj,hb23,hb24,AG,AV.AA,hl.AA,hqv.AA],r1,r3 hz,j2⟩
            .rw[if_neg hz]at j2;have hne:((Eg l n (AP l t)[i].fields[j].ty cf).2 != 0)=true:=(by simp[hz]);exact .inr ⟨_,_,by simp[f154,hw.len,hi',hce,hfv.len,hj',hfe,wd,hrec,hne,hb23,hb24,AG,AV.AA,hl.AA,hqv.AA] <;> first | exact⟨rfl,rfl⟩ | rfl,by simp,(0,_),.inr ⟨by rw[j2],by rw[j2];exact hz⟩⟩) (fun b hJ=>by
            obtain⟨cf,G'⟩:=b;obtain⟨j0,j1,j2⟩:=hJ;rw[C3]at j2;exact⟨_,_,by simp[f154,hw.len,hi',hce,hfv.len] <;> first | exact⟨rfl,rfl⟩ | rfl,by simp,(cf,G'),.inl ⟨rfl,j2,j0,j1⟩⟩) (cc,G) ⟨i0,i1,by simp⟩
         simp[f154]at hlp2;obtain⟨⟨cf,G'⟩,hq2⟩:=hq2;rcases hq2 with⟨hq2,hF,f0,f1⟩ | ⟨hq2,hF⟩ <;> cases hq2
         .rw[hF]at i2;exact .inl ⟨(cf,G'),by simp[f154,hw.len,hi',hlp2,hwi],f0,f1,by simpa using i2⟩
         .rw[if_neg hF]at i2;exact .inr ⟨_,_,by simp[f154,hw.len,hi',hlp2] <;> first | exact⟨rfl,rfl⟩ | rfl,by simp,(0,_),.inr (by rw[i2])⟩) (fun b hI=>by
         obtain⟨cc,G⟩:=b;obtain⟨i0,i1,i2⟩:=hI;rw[C3]at i2;exact⟨_,_,by simp[f154,hw.len] <;> first | exact⟨rfl,rfl⟩ | rfl,by simp,(cc,G),.inl ⟨rfl,i2⟩⟩) (c+1,[]) ⟨by simp;omega,by simp;omega,by simp⟩
      simp[f154]at hlp;obtain⟨⟨cc,G⟩,hq⟩:=hq;rcases hq with⟨hq,hC⟩ | hq <;> cases hq
      .exact⟨_,by simp[AJ,f154,wc,hT,hT0,h2,h2',hB,hB0,h200,hd,h68',hlp,hC,DJ] <;> rfl⟩
      .exact⟨_,by simp[AJ,f154,wc,hT,hT0,h2,h2',hB,hB0,h200,hd,h68',hlp,DJ] <;> rfl⟩
  exact Af Qv Tc hn (by simp[AV.AA,AG]) hc h
inductive Sh where
 | bit (n:Int)
 | cons (ns:List Bytes) (ss:List (List Sh))
 deriving Inhabited
theorem Sh.ind{P:Sh->Prop}(hb:∀ n,P (.bit n))(hc:∀ ns ss,(∀ s∈ss,∀ x∈s,P x)->P (.cons ns ss))(s:Sh):P s:=
 Sh.rec (motive_1:=P) (motive_2:=fun ss=>∀ s∈ss,∀ x∈s,P x) (motive_3:=fun s=>∀ x∈s,P x) (fun n=>hb n) (fun ns ss ih=>hc ns ss ih)
  (fun s hs=>by cases hs) (fun a r ha hr s hs=>by
    rcases Cd.1 hs with rfl | hs
    .exact ha
    .exact hr s hs) (fun x hx=>by cases hx) (fun a r ha hr x hx=>by
    rcases Cd.1 hx with rfl | hx
    .exact ha
    .exact hr x hx) s
inductive Em(l:List AK):TyV->Sh->Prop where
 | bit (t:TyV) (hb:Ek t=true) (hw:1<=(Bu t).v/\(Bu t).v<=16) (h2:(Bu t).k=2):Em l t (.bit (Bu t).v)
 | cons (t:TyV) (ns:List Bytes) (ss:List (List Sh)) (hb:Ek t=false) (hk:t.k≠2) (hn:ns=(AP l t).map (·.nm)) (hl:ss.length=(AP l t).length)
  (hs:∀(i:Nat) c s,(AP l t)[i]? = some c->ss[i]? = some s->s.length=c.fields.length)
  (hf:∀(i:Nat) c s (j:Nat) f y,(AP l t)[i]? = some c->ss[i]? = some s->c.fields[j]? = some f->s[j]? = some y->Em l f.ty y):Em l t (.cons ns ss)
theorem Em.unique{l:List AK}{t:TyV}{s:Sh}(h:Em l t s):∀ s',Em l t s'->s=s':=by
 induction h with
 | bit t hb hw h2=>
  intro s' h';cases h' with
  | bit _ _ _ _=>rfl
  | cons _ _ _ hb'=>rw[hb]at hb';cases hb'
 | cons t ns ss hb hk hn hl hs hf ih=>
  intro s' h';cases h' with
  | bit _ hb' _=>rw[hb]at hb';cases hb'
  | cons _ ns' ss' hb' hk' hn' hl' hs' hf'=>
   have e1:ns=ns':=(by rw[hn,hn']);have e2:ss=ss':=by
    apply Li (by rw[hl,hl']);intro i h1 h2;have hc:(AP l t)[i]? = some ((AP l t)[i]'(by omega)):=AW _;have a1:=hs i _ _ hc (AW h1);have b1:=hs' i _ _ hc (AW h2);apply Li (by rw[a1,b1]);intro j g1 g2;exact ih i _ _ j _ _ hc (AW h1) (AW (by omega)) (AW g1) _ (hf' i _ _ j _ _ hc (AW h2) (AW (by omega)) (AW g2))
   rw[e1,e2]
theorem Xq{l:List AK}{rec:Rec}(hr:∀ t c,(rec t c).2=0->∃ s,Em l t s):∀(fs:List DA) c,(eFs rec fs c).2=0->∃ ss:List Sh,ss.length=fs.length/\∀(j:Nat) f y,fs[j]? = some f->ss[j]? = some y->Em l f.ty y
 | [],_,_=>⟨[],rfl,fun j f y h=>by simp at h⟩
 | f::r,c,h=>by
  simp only[eFs]at h;split at h
  .rename_i hz;obtain⟨s,hs⟩:=hr f.ty c hz;obtain⟨ss,h1,h2⟩:=Xq hr r _ h;refine⟨s::ss,by simp[h1],fun j f' y g1 g2 => ?_⟩;cases j with
   | zero=>simp at g1 g2;exact g1 ▸ g2 ▸ hs
   | succ j=>exact h2 j f' y (by simpa using g1) (by simpa using g2)
  .rename_i hz;exact absurd h hz
theorem Xr{l:List AK}{rec:Rec}(hr:∀ t c,(rec t c).2=0->∃ s,Em l t s):∀(cs:List CS) c,(eCs rec cs c).2=0->∃ ss:List (List Sh),ss.length=cs.length/\∀(i:Nat) k s,cs[i]? = some k->ss[i]? = some s->s.length=k.fields.length/\∀(j:Nat) f y,k.fields[j]? = some f->s[j]? = some y->Em l f.ty y
 | [],_,_=>⟨[],rfl,fun j f y h=>by simp at h⟩
 | k::r,c,h=>by
  simp only[eCs]at h;split at h
  .rename_i hz;obtain⟨s,hs1,hs2⟩:=Xq hr k.fields c hz;obtain⟨ss,h1,h2⟩:=Xr hr r _ h;refine⟨s::ss,by simp[h1],fun j f' y g1 g2 => ?_⟩;cases j with
   | zero=>simp at g1 g2;subst g1;subst g2;exact⟨hs1,hs2⟩
   | succ j=>exact h2 j f' y (by simpa using g1) (by simpa using g2)
  .rename_i hz;exact absurd h hz
theorem RJ{l:List AK}{r:Option Rec}(hr:∀ rec,r=some rec->∀ t c,(rec t c).2=0->∃ s,Em l t s)(t:TyV)(c:Int)(h:(EO l r t c).2=0):∃ s,Em l t s:=by
 unfold EO at h;split at h
 .cases h
 split at h
 .cases h
 rename_i h2;split at h
 .cases h
 rename_i h2';split at h
 .cases h
 rename_i h3';split at h
 .cases h
 split at h
 .cases h
 split at h
 .rename_i hb;exact⟨_,.bit t hb (by
   by_cases hw:1<=(Bu t).v/\(Bu t).v<=16
   .exact hw
   .exact absurd ⟨hb,hw⟩ h3') (Decidable.byContradiction fun h=>h2' ⟨hb,h⟩)⟩
 .rename_i hb;obtain⟨ss,h3,h4⟩:=Xr (hr _ rfl) _ _ h;exact⟨_,.cons t _ ss (by simpa using hb) h2 rfl h3 (fun i c s g1 g2=>(h4 i c s g1 g2).1) (fun i c s j f y g1 g2 g3 g4=>(h4 i c s g1 g2).2 j f y g3 g4)⟩
theorem J7(l:List AK):∀ n t c,(Eg l n t c).2=0->∃ s,Em l t s
 | 0=>RJ fun rec h=>by cases h
 | n+1=>RJ fun rec h=>by cases h;exact J7 l n
open Classical in
noncomputable def Eh(l:List AK)(t:TyV):Sh:=if h:∃ s,Em l t s then Classical.choose h else .bit 0
theorem I0{l:List AK}{t:TyV}{s:Sh}(h:Em l t s):Eh l t=s:=by
 have hx:∃ s,Em l t s:=⟨s,h⟩;unfold Eh;rw[dif_pos hx];exact(Classical.choose_spec hx).unique _ h
def RK(n:Nat):Int:=if n<=1 then 0 else if n<=2 then 1 else if n<=4 then 2 else if n<=8 then 3 else 4
theorem tags:(List.range 17).all (fun n=>match EA MX 20 73 [.int .i64 n] []with
 | some (.ret (.int .i64 m),[])=>decide (m=RK n)
 | _=>false)=true:=by kernel_rfl
theorem pureC{f:FuncId}{args:List AV}{v:AV}{hr:AF}(hm:MX.mode f = { fresh:=true })(ha:args.all AV.AA=true)(hv:v.AA=true)(hc:AE MX f args []=some (.ret v,hr))(h:AF) :
 AI MX (AE MX) f args h=some (.ret v,h):=by
 have hs:∀{l:List AV} {h:AF},l.all AV.AA=true->A4 l h=some (l,h):=by
  intro l;induction l with
  | nil=>intro h _;rfl
  | cons a r ih=>
   intro h hn;simp only[JL,BU]at hn;simp only[A4,hn.1,ih hn.2]
 unfold AI;simp only[hm,hs ha,ha,hc,DG,hv]
theorem c73(n:Nat)(hn:n<=16)(h:AF):AI MX (AE MX) 73 [.int .i64 n] h=some (.ret (.int .i64 (RK n)),h):=by
 have h1:=D0.1 tags n (by simp;omega);split at h1
 .rename_i m hm;have:=of_decide_eq_true h1;subst this;exact pureC ZG rfl rfl (Gr.2 ⟨20,hm⟩) h
 .cases h1
theorem NY(T:Ty)(ts:List TypeId)(k k':IntKind)(x y:Int)(h:AF):Ad T .max ts [.int k x,.int k' y] h=some (.val (.int k (if y > x then y else x)) h):=rfl
def N6(a b:Int):Int:=wr .i64 (a+b)
mutual
def shW:Sh->Int
 | .bit n=>n
 | .cons _ ss=>N6 (RK ss.length) (GF ss 0)
def GF:List (List Sh)->Int->Int
 | [],m=>m
 | s::r,m=>GF r (if H8 s 0 > m then H8 s 0 else m)
def H8:List Sh->Int->Int
 | [],a=>a
 | s::r,a=>H8 r (N6 a (shW s))
end
theorem Om{s:List Sh}{j:Nat}(hj:j<s.length)(a:Int):H8 (s.drop j) a=H8 (s.drop (j+1)) (N6 a (shW s[j])):=by
 rw[De hj];simp only[H8]
theorem MG{ss:List (List Sh)}{j:Nat}(hj:j<ss.length)(m:Int):GF (ss.drop j) m=GF (ss.drop (j+1)) (if H8 ss[j] 0 > m then H8 ss[j] 0 else m):=by
 rw[De hj];simp only[GF]
section
variable{l:List AK}{lv:AV}(hl:SlR Ac 3 l lv)(hsl:SmL 1048577 l)(hok:DOK l)(hlen:∀ t,VT l t->t.k≠2->Ek t=false->(AP l t).length<=16)
include hl hsl hok hlen
theorem c26(s:Sh):∀(t:TyV) (xs:List AV),AR t xs->Sm 1048577 t->VT l t->Em l t s->∀ h,AI MX (AE MX) 26 [lv,.agg xs] h=some (.ret (.int .i64 (shW s)),h):=by
 induction s using Sh.ind with
 | hb n=>
  intro t xs hx hst hv hs h;have hn:([lv,AV.agg xs]:List AV).all AV.AA=true:=by simp[AV.AA,hx.AG,hl.AA]
  have hB:=c66 hx;obtain⟨pv,rfl,hp⟩:=hx.Ab;cases hs with
  | bit _ hb _=>
   have hb1:=hok.bit t hv hb;obtain⟨e,he,hR⟩:=hp.ix (i:=0) (by omega);have hag:Bu t=t.ps[0]'(by omega):=(by simp[Bu,hb1]);rw[<- hag]at hR;obtain⟨qv,rfl,hq⟩:=hR.Ab;simp only[Int.natCast_zero]at he;exact Af Pk SB hn rfl (hr:=[Blk.var false [AV.int .i64 t.k,AV.int .i64 t.v,AV.str t.nm,pv]]) (by simp[AJ,f26,hB,hb,he,shW]) h
 | hc ns ss ih=>
  intro t xs hx hst hv hs h;cases hs with
  | cons _ _ _ hb hk hnn hll hs0 hf0=>
  have hn:([lv,AV.agg xs]:List AV).all AV.AA=true:=by simp[AV.AA,hx.AG,hl.AA]
  have hB:=c66 hx;obtain⟨w,hw,h68⟩:=c68 hl hsl hx hst (hok.has t hv hk hb);have hcsm:=Gv hsl hst (by decide);have hvf:=hok.fld t hv hk hb;have h16:=hlen t hv hk hb;have hT:=c73 (AP l t).length h16;have h122:∀(i:Nat) (hi:i<(AP l t).length) (hi2:i<ss.length) (cx:List AV),EY (AP l t)[i] cx->∀ h,AI MX (AE MX) 122 [lv,.agg cx] h=some (.ret (.int .i64 (H8 ss[i] 0)),h):=by
   intro i hi hi2 cx hcx h;have hn2:([lv,AV.agg cx]:List AV).all AV.AA=true:=(by simp[AV.AA,IT _ _ hcx,hl.AA]);obtain⟨fv,rfl,hfv⟩:=hcx.dest;have f1:=hs0 i _ _ (AW hi) (AW hi2);have f2:=fun j f y=>hf0 i _ _ j f y (AW hi) (AW hi2)
   have hsc:=hcsm.2 _ (Ap hi);obtain⟨e,st,hlp,hq⟩:=AU (M:=MX) (fid:=122) (N:=25) (C:=AE MX) (c:=AL f122 0) (n:=(AP l t)[i].fields.length)
    (fun j (b:Int)=>([(0,lv),(3,.hp 0 0),(5,.int .i64 b),(6,.int .i64 j)],[Blk.var false [AV.str (AP l t)[i].nm,fv]]))
    (fun j b=>H8 ss[i] 0=H8 (ss[i].drop j) b)
    (fun r=>r=(.ext 0,([(0,lv),(3,.hp 0 0),(5,.int .i64 (H8 ss[i] 0)),(6,.int .i64 (AP l t)[i].fields.length),(11,.bool false)],[Blk.var false [AV.str (AP l t)[i].nm,fv]]))) (fun j b hj hJ=>by
      obtain⟨fe,hfe,hfR⟩:=hfv.ix hj;have hj':=AZ hj;have hwj:=AY hj hsc.2.1;have hmf:=Ap hj;have hjs:j<ss[i].length:=(by omega);obtain⟨tx,rfl,htx⟩:=hfR;have hrec:=ih ss[i] (Ap hi2) ss[i][j] (Ap hjs) (AP l t)[i].fields[j].ty tx htx (hsc.2.2 _ hmf).2 (hvf _ (Ap hi) _ hmf) (f2 j _ _ (AW hj) (AW hjs));obtain⟨qv,rfl,hqv⟩:=htx.Ab;rw[Om hjs]at hJ;exact .inl ⟨N6 b (shW ss[i][j]),by simp[f122,hfv.len,hj',hfe,hrec,hwj,N6],hJ⟩) (fun b hJ=>by
      rw[KI (by omega)]at hJ;simp only[H8]at hJ;exact⟨_,_,by simp[f122,hfv.len] <;> first | exact⟨rfl,rfl⟩ | rfl,by simp,by rw[hJ]⟩) 0 (by simp)
   cases hq;simp[f122]at hlp;exact Af Wj ZV hn2 rfl (hr:=[Blk.var false [AV.str (AP l t)[i].nm,fv]]) (by simp[AJ,f122,hlp]) h
  obtain⟨pv,rfl,hp⟩:=hx.Ab;have h74:∀ h,AI MX (AE MX) 74 [lv,.agg [.int .i64 t.k,.int .i64 t.v,.str t.nm,pv]] h=some (.ret (.int .i64 (GF ss 0)),h):=by
   intro h;obtain⟨e,st,hlp,hq⟩:=AU (M:=MX) (fid:=74) (N:=26) (C:=AE MX) (c:=AL f74 0) (n:=(AP l t).length)
    (fun i (b:Int)=>([(0,lv),(5,w),(6,.int .i64 b),(7,.int .i64 i)],[Blk.var false [AV.int .i64 t.k,AV.int .i64 t.v,AV.str t.nm,pv]]))
    (fun i b=>GF ss 0=GF (ss.drop i) b)
    (fun r=>r=(.ext 0,([(0,lv),(5,w),(6,.int .i64 (GF ss 0)),(7,.int .i64 (AP l t).length),(14,.bool false)],[Blk.var false [AV.int .i64 t.k,AV.int .i64 t.v,AV.str t.nm,pv]]))) (fun i b hi hI=>by
      obtain⟨ce,hce,hcR⟩:=hw.ix hi;have hi':=AZ hi;have hwi:=AY hi hcsm.1;have hi2:i<ss.length:=(by omega);have hW:=h122 i hi hi2 ce hcR;obtain⟨fv,rfl,hfv⟩:=hcR.dest;rw[MG hi2]at hI;exact .inl ⟨if H8 ss[i] 0 > b then H8 ss[i] 0 else b,by simp[f74,hw.len,hi',hce,hW,hwi,NY],hI⟩) (fun b hI=>by
      rw[KI (by omega)]at hI;simp only[GF]at hI;exact⟨_,_,by simp[f74,hw.len] <;> first | exact⟨rfl,rfl⟩ | rfl,by simp,by rw[hI]⟩) 0 (by simp)
   cases hq;simp[f74]at hlp;exact Af ZH dX hn rfl (hr:=[Blk.var false [AV.int .i64 t.k,AV.int .i64 t.v,AV.str t.nm,pv]]) (by simp[AJ,f74,h68,hlp]) h
  have hw2:=hw;rcases hw2 with⟨he,rfl⟩ | ⟨ex,es,rfl,hes,_⟩
  .rw[he]at hT;have hs0:ss.length=0:=(by rw[hll,he];rfl);exact Af Pk SB hn rfl (hr:=[Blk.var false [AV.int .i64 t.k,AV.int .i64 t.v,AV.str t.nm,pv]]) (by simp at hT;simp[AJ,f26,hB,hb,h68,hT,h74,shW,N6,hs0,AG,AV.AA,hl.AA,hp.AA]) h
  .exact Af Pk SB hn rfl (hr:=[Blk.var false [AV.int .i64 t.k,AV.int .i64 t.v,AV.str t.nm,pv]]) (by simp[AJ,f26,hB,hb,h68,hes,hT,h74,shW,N6,hll,AG,AV.AA,hl.AA,hp.AA]) h
noncomputable def HA(l:List AK)(t:TyV):Int:=if Bx l [] t=0 then(if(Eg l 40 t 0).2=0 then(if 1<=shW (Eh l t)/\shW (Eh l t)<=16 then 0 else 25)else(Eg l 40 t 0).2)else Bx l [] t
theorem c85{t:TyV}{xs:List AV}(hx:AR t xs)(hst:Sm 1048577 t)(h:AF):AI MX (AE MX) 85 [lv,.agg xs] h=some (.ret (.int .i64 (HA l t)),h):=by
 have hn:([lv,AV.agg xs]:List AV).all AV.AA=true:=by simp[AV.AA,hx.AG,hl.AA]
 have h153:=c153 hl hsl.1 (params:=[]) (pr:=.AH) (.inl ⟨rfl,rfl⟩) (by decide) (fun d hd=>(hsl.2 d hd).2.1) hx hst;have h154:=fun hv=>c154 hl hsl hok 40 (by decide) t xs 0 0 hx hst hv (by decide) (by decide)
 have h26:=fun s=>c26 hl hsl hok hlen s t xs hx hst
 obtain⟨pv,rfl,hp⟩:=hx.Ab;obtain⟨hr,hc⟩:∃ hr,AJ MX 85 [lv,.agg [.int .i64 t.k,.int .i64 t.v,.str t.nm,pv]] []=some (.ret (.int .i64 (HA l t)),hr):=by
  unfold HA;by_cases h1:Bx l [] t=0
  .have hv:VT l t:=by
    unfold Bx at h1;split at h1
    .exact h1
    .cases h1
   have e154:=h154 hv;rw[show(40:Int) - ((40:Nat):Int)=0 by decide]at e154;by_cases h2:(Eg l 40 t 0).2=0
   .obtain⟨s,hs⟩:=J7 l 40 t 0 h2;have e26:=h26 s hv hs;rw[I0 hs];by_cases h3:1<=shW s/\shW s<=16
    .exact⟨_,by simp[AJ,f85,h153,h1,e154,h2,e26,h3] <;> rfl⟩
    .exact⟨_,by simp[AJ,f85,h153,h1,e154,h2,e26,h3] <;> rfl⟩
   .have h2':((Eg l 40 t 0).2 != 0)=true:=(by simp[h2]);exact⟨_,by simp[AJ,f85,h153,h1,e154,h2,h2'] <;> rfl⟩
  .have h1':(Bx l [] t != 0)=true:=(by simp[h1]);exact⟨_,by simp[AJ,f85,h153,h1,h1'] <;> rfl⟩
 exact Af ZK da hn rfl hc h
end
end
section
attribute [local simp] C7 Br EW DL CG Dd Du Eu BZ Ar Bg Al GV FF EF HE D4 Ax FB EG HF HG xUn E7 D5 FG BF DH BG D6 BH D7 Ce CX Bw BJ EH Ej
 ev evs C4 DE OR.ofV OR.Dz OR.ofC FP Tm.get Tm.init Tm.only A1 A8 CM finish CF DJ HR Dy D3 unA B7 Bb B8 Bc Co Cp Cq Bd Cr Cs Be Ct Cu Bf B9 AL CQ Ba Cm Cn B6 Ev Ew Ey Dv Dw Fl F8 F9 Fm stA Ay Db Bn DI E8 Gt Bs C6 CI FI Gu
attribute [local simp] CJ Bi Bt BN DQ DR DS DT DU DW DX Ec Cg Ed Dh FR FT Gf Di Ee Dj BO Dk BP Dl CD Ef Ch FU FV FW Ci Dm Dn FX Gg FY Gh Gi Dp BQ Cj CE Dq Dr Ck
mutual
def CA(s:Sh):TyV->Int
 | .mk k v nm ps=>
  if k=0 then(if 0<ps.length then 10 else 0)
  else if k=1 then(if 0<ps.length then 10 else if BL nm=false then 4 else 0)
  else if k=3 then(match s with
   | .bit n=>if 0<ps.length then 10 else if 0<=v/\v<=((2 ^ n.toNat:Nat):Int) - 1 then 0 else 2
   | .cons _ _=>26)
  else if k=2 then(match s with
   | .bit _=>6
   | .cons ns ss=>match ns.findIdx? (fun x=>x == nm)with
    | none=>6
    | some i=>if ps.length≠(ss.getD i []).length then 10 else FC (ss.getD i []) ps)
  else 15
def FC(ss:List Sh):List TyV->Int
 | []=>0
 | p::r=>if CA (ss.headD default) p=0 then FC ss.tail r else CA (ss.headD default) p
end
theorem NZ{ss:List Sh}{ps:List TyV}{j:Nat}(hj:j<ps.length)(hs:j<ss.length):FC (ss.drop j) (ps.drop j)=if CA ss[j] ps[j]=0 then FC (ss.drop (j+1)) (ps.drop (j+1))else CA ss[j] ps[j]:=by
 rw[De hj,De hs];simp only[FC,List.headD_cons,List.tail_cons]
 all_goals first | rfl | (split <;> rfl)
theorem c121(n w:Int)(h0:0<=w)(h1:w<=62)(h:AF):AI MX (AE MX) 121 [.int .i64 n,.int .i64 w] h=some (.ret (.bool (decide (0<=n/\n<=((2 ^ w.toNat:Nat):Int) - 1))),h):=by
 have hp:(2:Nat) ^ w.toNat<=2 ^ 62:=OE (by decide) (by omega);have hp':(2:Nat) ^ w.toNat<9223372036854775808:=Hh hp (by decide);have hpos:0<(2:Nat) ^ w.toNat:=Nat.pow_pos (by decide);have hc:=c67 w h0 h1;obtain⟨P,hP⟩:∃ P:Nat,P=2 ^ w.toNat:=⟨_,rfl⟩;rw[<- hP]at hp' hpos hc ⊢;have hw:wr .i64 ((P:Int) - 1)=(P:Int) - 1:=Cl (by omega) (by omega);exact Af Wi ZU rfl rfl (hr:=[]) (by simp[AJ,f121,hc,hw]) h
section
variable{l:List AK}{lv:AV}(hl:SlR Ac 3 l lv)(hsl:SmL 1048577 l)(hok:DOK l)
include hl hsl hok
theorem c87(p:TyV):∀(px:List AV),AR p px->Sm 1048577 p->∀(s:Sh) (t:TyV) (xs:List AV),AR t xs->Sm 1048577 t->VT l t->Em l t s->∀ h,AI MX (AE MX) 87 [lv,.agg xs,.agg px] h=some (.ret (.int .i64 (CA s p)),h):=by
 induction p using TyV.ind with
 | h k v nm ps ih=>
  intro px hpx hsp s t xs hx hst hv hs h;have hn:([lv,AV.agg xs,AV.agg px]:List AV).all AV.AA=true:=by simp[AV.AA,hx.AG,hl.AA,hpx.AG]
  obtain⟨s1,s2,s3⟩:=hsp.dest;have hB:=c66 hx;have hNm:=Xp nm s1;have h158:k=2->∀ h,AI MX (AE MX) 158 [lv,.agg xs,.agg px] h=some (.ret (.int .i64 (CA s (.mk 2 v nm ps))),h):=by
   rintro rfl;intro h;cases hs with
   | bit _ hb _=>
    obtain⟨qv,rfl,hq⟩:=hpx.dest;obtain⟨pv,rfl,hp⟩:=hx.Ab;exact Af Qw Td hn rfl (hr:=[Blk.var false [AV.int .i64 t.k,AV.int .i64 t.v,AV.str t.nm,pv],Blk.var false [AV.int .i64 2,AV.int .i64 v,AV.str nm,qv]]) (by simp[AJ,f158,hB,hb,CA]) h
   | cons _ ns ss hb hk hnn hll hs0 hf0=>
    obtain⟨w,hw,h68⟩:=c68 hl hsl hx hst (hok.has t hv hk hb);have hcsm:=Gv hsl hst (by decide);have hvf:=hok.fld t hv hk hb;have h72:=c72 nm hw hcsm.1;have hfi:ns.findIdx? (fun x=>x == nm)=(AP l t).findIdx? (fun x=>x.nm == nm):=(by rw[hnn,List.findIdx?_map];rfl);have hb7:=VD;simp[Aa,An,f158]at hb7;have hb12:=SS;simp[Aa,An,f158]at hb12;obtain⟨qv,rfl,hq⟩:=hpx.dest;obtain⟨pv,rfl,hp⟩:=hx.Ab;obtain⟨hr,hc⟩:∃ hr,AJ MX 158 [lv,.agg [.int .i64 t.k,.int .i64 t.v,.str t.nm,pv],.agg [.int .i64 2,.int .i64 v,.str nm,qv]] []=some (.ret (.int .i64 (CA (.cons ns ss) (.mk 2 v nm ps))),hr):=by
     cases hf:(AP l t).findIdx? (fun x=>x.nm == nm)with
     | none=>
      have hpe:CA (.cons ns ss) (.mk 2 v nm ps)=6:=(by simp[CA,hfi,hf]);rw[hpe];exact⟨_,by simp[AJ,f158,hB,hb,h68,h72,hf,ixI] <;> rfl⟩
     | some i=>
      have hi:=G8 hf;have hi0:¬ ((i:Int)<0):=(by omega);have hi2:i<ss.length:=(by omega);have hgd:ss.getD i []=ss[i]:=(by simp[hi2]);obtain⟨ce,hce,hcR⟩:=hw.ix hi;obtain⟨fv,rfl,hfv⟩:=hcR.dest;have hsc:=hcsm.2 _ (Ap hi);have hsl2:=hs0 i _ _ (AW hi) (AW hi2);have hpe:CA (.cons ns ss) (.mk 2 v nm ps)=if ps.length≠(AP l t)[i].fields.length then 10 else FC ss[i] ps:=by simp[CA,hfi,hf,hi2,hsl2]
      rw[hpe];by_cases hL:ps.length=(AP l t)[i].fields.length
      .have hL':((ps.length:Int) != ((AP l t)[i].fields.length:Int))=false:=(by simp[hL]);have hLs:ps.length=ss[i].length:=(by omega);obtain⟨e,st,hlp,hq0⟩:=AU (M:=MX) (fid:=158) (N:=58) (C:=AE MX) (c:=AL f158 0) (n:=ps.length)
        (fun j (_:Unit)=>([(0,lv),(5,.hp 1 0),(7,w),(8,.int .i64 i),(9,.int .i64 j)],[Blk.var false [AV.int .i64 t.k,AV.int .i64 t.v,AV.str t.nm,pv],Blk.var false [AV.int .i64 2,AV.int .i64 v,AV.str nm,qv]]))
        (fun j _=>FC ss[i] ps=FC (ss[i].drop j) (ps.drop j))
        (fun r=>(r=(.ext 0,([(0,lv),(5,.hp 1 0),(7,w),(8,.int .i64 i),(9,.int .i64 ps.length),(36,.bool false)],[Blk.var false [AV.int .i64 t.k,AV.int .i64 t.v,AV.str t.nm,pv],Blk.var false [AV.int .i64 2,AV.int .i64 v,AV.str nm,qv]]))/\FC ss[i] ps=0) \/
          (r=(.ret,([(6,.int .i64 (FC ss[i] ps))],[Blk.var false [AV.int .i64 t.k,AV.int .i64 t.v,AV.str t.nm,pv],Blk.var false [AV.int .i64 2,AV.int .i64 v,AV.str nm,qv]])))) (fun j b hj hJ=>by
          have hjf:j<(AP l t)[i].fields.length:=(by omega);have hjs:j<ss[i].length:=(by omega);obtain⟨fe,hfe,hfR⟩:=hfv.ix hjf;obtain⟨pe,hpe,hpR⟩:=hq.ix hj;have hj':=AZ hj;have hwj:=AY hj s2;have hmf:=Ap hjf;obtain⟨tx,rfl,htx⟩:=hfR;have hrec:=ih ps[j] (Ap hj) pe hpR (s3 _ (Ap hj)) ss[i][j] (AP l t)[i].fields[j].ty tx htx (hsc.2.2 _ hmf).2 (hvf _ (Ap hi) _ hmf) (hf0 i _ _ j _ _ (AW hi) (AW hi2) (AW hjf) (AW hjs));obtain⟨q1,rfl,hq1⟩:=htx.Ab;obtain⟨q2,rfl,hq2⟩:=hpR.Ab;rw[NZ hj hjs]at hJ;by_cases h0:CA ss[i][j] ps[j]=0
          .rw[if_pos h0]at hJ;exact .inl ⟨(),by simp[f158,hq.len,hj',hce,hfe,hpe,hrec,h0,hwj,hb12,AG,AV.AA,hl.AA,hq1.AA,hq2.AA],hJ⟩
          .rw[if_neg h0]at hJ;have hne:(CA ss[i][j] ps[j] != 0)=true:=(by simp[h0]);exact .inr ⟨_,_,by simp[f158,hq.len,hj',hce,hfe,hpe,hrec,hne,hb12,AG,AV.AA,hl.AA,hq1.AA,hq2.AA] <;> first | exact⟨rfl,rfl⟩ | rfl,by simp,.inr (by rw[hJ])⟩) (fun b hJ=>by
          rw[C3]at hJ;simp only[FC]at hJ;exact⟨_,_,by simp[f158,hq.len] <;> first | exact⟨rfl,rfl⟩ | rfl,by simp,.inl ⟨rfl,hJ⟩⟩) () (by simp)
       simp[f158]at hlp;rcases hq0 with⟨hq0,hz⟩ | hq0 <;> cases hq0
       .exact⟨_,by simp[AJ,f158,hB,hb,h68,h72,hf,ixI,hi0,hce,hq.len,hfv.len,hq.Ca,hfv.Ca,hb7,hL,hlp,hz] <;> rfl⟩
       .exact⟨_,by simp[AJ,f158,hB,hb,h68,h72,hf,ixI,hi0,hce,hq.len,hfv.len,hq.Ca,hfv.Ca,hb7,hL,hlp] <;> rfl⟩
      .have hL':((ps.length:Int) != ((AP l t)[i].fields.length:Int))=true:=(by simp;omega);exact⟨_,by simp[AJ,f158,hB,hb,h68,h72,hf,ixI,hi0,hce,hq.len,hfv.len,hq.Ca,hfv.Ca,hb7,hL',hL] <;> rfl⟩
    exact Af Qw Td hn rfl hc h
  have hb16:=Uq;simp[Aa,An,f87]at hb16;have htx:=hx;obtain⟨qv,rfl,hq⟩:=hpx.dest;obtain⟨pv,rfl,hp⟩:=hx.Ab;refine Af ZM dc hn rfl (hr:=[Blk.var false [AV.int .i64 t.k,AV.int .i64 t.v,AV.str t.nm,pv],Blk.var false [AV.int .i64 k,AV.int .i64 v,AV.str nm,qv]]) ?_ h;by_cases k2:k=2
  .subst k2;simp[AJ,f87,h158 rfl]
  simp only[CA];by_cases k0:k=0
  .subst k0;by_cases hL:0<ps.length
   .have hL':(0<(ps.length:Int)):=(by omega);simp[AJ,f87,hq.len,hL',hL]
   .have hL':¬ (0<(ps.length:Int)):=(by omega);simp[AJ,f87,hq.len,hL',hL]
  .have k0':(k == 0)=false:=(by simp[k0]);by_cases k1:k=1
   .subst k1;by_cases hL:0<ps.length
    .have hL':(0<(ps.length:Int)):=(by omega);simp[AJ,f87,hq.len,hL',hL]
    .have hL':¬ (0<(ps.length:Int)):=(by omega);cases hN0:BL nm <;> simp[AJ,f87,hq.len,hL',hL,hNm,hN0]
   .have k1':(k == 1)=false:=(by simp[k1]);by_cases k3:k=3
    .subst k3;cases hs with
     | cons _ ns ss hb _ _ _ _ _=>simp[AJ,f87,hB,hb]
     | bit _ hb hw=>
      have hb1:=hok.bit t hv hb;obtain⟨e,he,hR⟩:=hp.ix (i:=0) (by omega);have hag:Bu t=t.ps[0]'(by omega):=(by simp[Bu,hb1]);rw[<- hag]at hR;obtain⟨qv2,rfl,hq2⟩:=hR.Ab;simp only[Int.natCast_zero]at he;have hF:=c121 v (Bu t).v (by omega) (by omega);by_cases hL:0<ps.length
      .have hL':(0<(ps.length:Int)):=(by omega);simp[AJ,f87,hB,hb,hq.len,hL',hL]
      .have hL':¬ (0<(ps.length:Int)):=(by omega);have e:∀ x,(if(3:Int)=0 then(if 0<ps.length then 10 else 0)else if(3:Int)=1 then(if 0<ps.length then 10 else if BL nm=false then 4 else 0)else if(3:Int)=3 then(match Sh.bit (Bu t).v with
        | .bit n=>if 0<ps.length then 10 else if 0<=v/\v<=((2 ^ n.toNat:Nat):Int) - 1 then 0 else 2
        | .cons _ _=>26)else x)=if 0<=v/\v<=((2 ^ (Bu t).v.toNat:Nat):Int) - 1 then(0:Int)else 2:=fun x=>by
        rw[if_neg (by decide),if_neg (by decide),if_pos rfl];show(if 0<ps.length then(10:Int)else _)=_;rw[if_neg hL]
       have hgoal:∀ b:Bool,b=decide (0<=v/\v<=((2 ^ (Bu t).v.toNat:Nat):Int) - 1)->AJ MX 87 [lv,AV.agg [AV.int .i64 t.k,AV.int .i64 t.v,AV.str t.nm,pv],AV.agg [AV.int .i64 3,AV.int .i64 v,AV.str nm,qv]] []=some (.ret (.int .i64 (if b then 0 else 2)),[Blk.var false [AV.int .i64 t.k,AV.int .i64 t.v,AV.str t.nm,pv],Blk.var false [AV.int .i64 3,AV.int .i64 v,AV.str nm,qv]]):=fun b hb2=>by
        rw[<- hb2]at hF;cases b <;> simp[AJ,f87,hB,hb,hq.len,hL',hL,he,hF,hb16,AV.AA]
       have h5:=hgoal _ rfl;rw[h5];refine congrArg (fun z=>some (CR.ret (AV.int .i64 z),_)) ?_;by_cases hr:0<=v/\v<=((2 ^ (Bu t).v.toNat:Nat):Int) - 1
       .rw[decide_eq_true hr];exact((e _).trans (if_pos hr)).symm
       .rw[decide_eq_false hr];exact((e _).trans (if_neg hr)).symm
    .have k3':(k == 3)=false:=(by simp[k3]);have k2':(k == 2)=false:=(by simp[k2]);simp[AJ,f87,k0',k1',k2',k3',k0,k1,k2,k3]
end
mutual
def BS:TyV->List Bytes
 | .mk k _ nm ps=>if k=1 then [nm]else Bz ps
def Bz:List TyV->List Bytes
 | []=>[]
 | p::r=>BS p++Bz r
end
theorem HH:∀(a b:List TyV),Bz (a++b)=Bz a++Bz b
 | [],b=>rfl
 | p::r,b=>by simp[Bz,HH r b]
theorem IU{ps:List TyV}{i:Nat}(hi:i<ps.length):Bz (ps.take (i+1))=Bz (ps.take i)++BS ps[i]:=by
 rw[<- Cf hi,HH];simp[Bz]
theorem I1(ps:List TyV)(i:Nat):(Bz (ps.take i)).length<=(Bz ps).length:=by
 have:=congrArg List.length (HH (ps.take i) (ps.drop i));rw[List.take_append_drop]at this;simp at this;omega
theorem JE{ps:List TyV}{p:TyV}(hp:p∈ps):(BS p).length<=(Bz ps).length:=by
 obtain⟨i,hi,rfl⟩:=I9 hp;have:=I1 ps (i+1);rw[IU hi]at this;simp at this;omega
theorem VW{α:Type}{R:α->List AV->Prop}{l m:List α}{es xs:List (List AV)}(hl:es.length=l.length)(hr:∀(i:Nat) a e,l[i]? = some a->es[i]? = some e->R a e)(hl2:xs.length=m.length)(hr2:∀(i:Nat) a e,m[i]? = some a->xs[i]? = some e->R a e) :
 (es++xs).length=(l++m).length/\∀(i:Nat) a' e',(l++m)[i]? = some a'->(es++xs)[i]? = some e'->R a' e':=by
 refine⟨by simp[hl,hl2],fun i a' e' h1 h2 => ?_⟩;by_cases hi:i<l.length
 .rw[BA hi]at h1;rw[BA (by omega)]at h2;exact hr i a' e' h1 h2
 .rw[EL (by omega)]at h1;rw[EL (by omega)]at h2;rw[hl]at h2;exact hr2 _ a' e' h1 h2
theorem T3{sz byt:Nat}{P rest:AF}{a:AV}{es xs:List (List AV)}{x:AV}(h:Ai sz P.length rest a es)(hx:A7 (P++rest) x=some xs)(hs:CC sz x=true)(hnx:∀ b,x≠.str b)(h0:0<sz)(hb:byt<=1024)(hn:es.length+xs.length<16777216) :
 ∃ a' rest',apA sz byt a x (P++rest)=some (a',P++rest')/\Ai sz P.length rest' a' (es++xs):=by
 by_cases he:xs=[]
 .subst he;refine⟨a,rest,?_,by simpa using h⟩;have hbb:(es.length+0) * byt<=17592186044416:=DD (Ku (show es.length+0<=16777216 by simp at hn;omega) hb) (by decide);have hap:∀ n,F6 a=some n->apA sz byt a x (P++rest)=apX sz byt a [] n (P++rest):=fun n hl=>by
   unfold apA;cases x with
   | str b=>exact absurd rfl (hnx b)
   | _=>first | simp only[hs,hx,hl] | (simp only[A7]at hx;cases hx)
  rcases h with⟨rfl,rfl⟩ | ⟨j,hne,rfl,h2⟩
  .rw[hap 0 rfl];have e1:CC sz AV.AH=true:=rfl;simp[apX,e1,h0]
  .rw[hap es.length rfl];have e1:CC sz (.hs (P.length+j) es.length sz 0 es.length false)=true:=(by simp[CC,BM]);simp only[IZ]at hbb;simp only[IB,IZ]at hn;simp[apX,e1,h0,hbb,show es.length<=17592186044416 by omega]
 .exact h.cL hx hs hnx he h0 hb hn
theorem _root_.Go.Am.SlR.nstr{α:Type}{R:α->List AV->Prop}{sz:Nat}{l:List α}{v:AV}(hv:SlR R sz l v):∀ b,v≠.str b:=fun b e=>by subst e;rcases hv with⟨_,e⟩ | ⟨_,_,e,_⟩ <;> cases e
theorem c88(p:TyV):∀(px:List AV),AR p px->Sm 1048577 p->(BS p).length<1048577->∃ w,SlR Cv 1 (BS p) w/\∀ h,AI MX (AE MX) 88 [.agg px] h=some (.ret w,h):=by
 induction p using TyV.ind with
 | h k v nm ps ih=>
  intro px hpx hsp hlen;have hn:([AV.agg px]:List AV).all AV.AA=true:=by simp[AV.AA,hpx.AG]
  obtain⟨s1,s2,s3⟩:=hsp.dest;obtain⟨qv,rfl,hq⟩:=hpx.dest;by_cases k1:k=1
  .subst k1;refine⟨.sl 1 true [[.str nm]],?_,fun h=>Af TP Wc hn rfl (hr:=[Blk.var false [AV.int .i64 1,AV.int .i64 v,AV.str nm,qv]]) (by simp[AJ,f88,bsA,Aq,List.replicate,AG,AV.AA]) h⟩;simp only[BS,if_true];exact .inr ⟨true,_,rfl,rfl,fun i a e h1 h2=>by
    cases i with
    | zero=>simp at h1 h2;subst h1;subst h2;rfl
    | succ i=>simp at h1⟩
  .have k1':(k == 1)=false:=(by simp[k1]);have hnm:BS (.mk k v nm ps)=Bz ps:=(by simp[BS,k1]);rw[hnm]at hlen ⊢;obtain⟨e,st,hlp,hq0⟩:=AU (M:=MX) (fid:=88) (N:=27) (C:=AE MX) (c:=AL f88 0) (n:=ps.length)
    (fun i (b:AV×AF×List (List AV))=>([(1,.hp 0 0),(3,b.1),(4,.int .i64 i)],Blk.var false [AV.int .i64 k,AV.int .i64 v,AV.str nm,qv]::b.2.1))
    (fun i b=>Ai 1 1 b.2.1 b.1 b.2.2/\b.2.2.length=(Bz (ps.take i)).length/\∀(j:Nat) t e,(Bz (ps.take i))[j]? = some t->b.2.2[j]? = some e->Cv t e)
    (fun r=>∃ b:AV×AF×List (List AV),r=(.ext 0,([(1,.hp 0 0),(3,b.1),(4,.int .i64 ps.length),(15,.bool false)],Blk.var false [AV.int .i64 k,AV.int .i64 v,AV.str nm,qv]::b.2.1)) /\
      Ai 1 1 b.2.1 b.1 b.2.2/\b.2.2.length=(Bz ps).length/\∀(j:Nat) t e,(Bz ps)[j]? = some t->b.2.2[j]? = some e->Cv t e) (fun i b hi hI=>by
      obtain⟨a,rest,es⟩:=b;obtain⟨i1,i2,i3⟩:=hI;simp only at i1 i2 i3;obtain⟨e,he,hR⟩:=hq.ix hi;have hi':=AZ hi;have hw:=AY hi s2;have hml:=JE (Ap hi);obtain⟨w,hwr,hcall⟩:=ih ps[i] (Ap hi) e hR (s3 _ (Ap hi)) (by omega);obtain⟨xs,x1,x2,x3,x4⟩:=hwr.rd ([Blk.var false [AV.int .i64 k,AV.int .i64 v,AV.str nm,qv]]++rest);obtain⟨j1,j2⟩:=VW i2 i3 x3 x4;rw[<- IU hi]at j1 j2;have htl:=I1 ps i;obtain⟨a',rest',hap,hacc⟩:=T3 (byt:=16) (P:=[Blk.var false [AV.int .i64 k,AV.int .i64 v,AV.str nm,qv]]) i1 x1 x2 hwr.nstr (by decide) (by decide) (by omega);simp only[Fk,FE]at hap;obtain⟨q1,rfl,hq1⟩:=hR.Ab;exact .inl ⟨(a',rest',es++xs),by simp[f88,hq.len,hi',he,hcall,hap,hw],hacc,j1,j2⟩) (fun b hI=>by
      obtain⟨a,rest,es⟩:=b;obtain⟨i1,i2,i3⟩:=hI;rw[HL]at i2 i3;exact⟨_,_,by simp[f88,hq.len] <;> first | exact⟨rfl,rfl⟩ | rfl,by simp,(a,rest,es),rfl,i1,i2,i3⟩) (.AH,[],[]) ⟨.nil _ _ _,by simp[Bz],fun j t e h=>by simp[Bz]at h⟩
   obtain⟨⟨a,rest,es⟩,hq0,i1,i2,i3⟩:=hq0;cases hq0;simp[f88]at hlp;obtain⟨v',rest',hsn,hrep,heq⟩:=J6 (P:=[Blk.var false [AV.int .i64 k,AV.int .i64 v,AV.str nm,qv]]) KQ i1 i2 i3;exact⟨v',hrep,fun h=>Hu TP Wc hn hsn (by decide) hrep.AA heq (by simp[AJ,f88,k1',hlp]) h⟩
theorem Se(t:TyV):∀ d c,0<=c->F3 t d c<=200->c+(BS t).length<=F3 t d c:=by
 induction t using TyV.ind with
 | h k v nm ps ih=>
  intro d c h0 h;have key:∀(l:List TyV),(∀ p∈l,p∈ps)->∀ d c,0<=c->Cw l d c<=200->c+(Bz l).length<=Cw l d c:=by
   intro l;induction l with
   | nil=>intro _ d c h0 h;simp[Cw,Bz]
   | cons p r ihr=>
    intro hm d c h0 h;simp only[Cw,Bz,FZ]at h ⊢;split
    .rename_i hc;rw[if_pos hc]at h;have hp:=hm p (by simp);have hle:F3 p d c<=200:=by
      cases r with
      | nil=>simpa[Cw]using h
      | cons q r=>simp only[Cw]at h;split at h <;> omega
     have h1:=ih p hp d c h0 hle;have h2:=ihr (fun q hq=>hm q (by simp[hq])) d (F3 p d c) (by omega) h;omega
    .rename_i hc;rw[if_neg hc]at h;omega
  simp only[F3]at h ⊢;split
  .rename_i hc;rw[if_pos hc]at h;omega
  .rename_i hc;rw[if_neg hc]at h;have:=key ps (fun _ h=>h) (d+1) (c+1) (by omega) h;simp only[BS];split
   .have:∀(l:List TyV) d c,c<=Cw l d c\/200<Cw l d c:=by
     intro l;induction l with
     | nil=>intro d c;left;simp[Cw]
     | cons p r ihr=>
      intro d c;simp only[Cw];split
      .have hpm:∀(p:TyV) d c,c<=F3 p d c\/200<F3 p d c:=by
        intro p;induction p using TyV.ind with
        | h k v nm qs ihq=>
         intro d c;simp only[F3];split
         .right;omega
         .have key2:∀(l:List TyV),(∀ p∈l,p∈qs)->∀ d c,c<=Cw l d c\/200<Cw l d c:=by
           intro l;induction l with
           | nil=>intro _ d c;left;simp[Cw]
           | cons p r ihr2=>
            intro hm d c;simp only[Cw];split
            .rcases ihq p (hm p (by simp)) d c with h1 | h1 <;> rcases ihr2 (fun q hq=>hm q (by simp[hq])) d (F3 p d c)with h2 | h2 <;> omega
            .left;omega
          rcases key2 qs (fun _ h=>h) (d+1) (c+1)with h1 | h1 <;> omega
       rcases hpm p d c with h1 | h1 <;> rcases ihr d (F3 p d c)with h2 | h2 <;> omega
      .left;omega
    rcases this ps (d+1) (c+1)with h1 | h1
    .simp;omega
    .omega
   .omega
theorem LN{t:TyV}(h:Bp t=true):(BS t).length<=200:=by
 unfold Bp at h;have:=Se t 1 0 (by decide) (of_decide_eq_true h);have:=of_decide_eq_true h;omega
def LO:List Bytes->List Bytes->Bool
 | _,[]=>false
 | prev,x::r=>(prev.findIdx? (fun y=>y == x)).isSome||LO (prev++[x]) r
def GG(s:Sh)(p:TyV):Int:=if Bp p=false then 8 else if CA s p=0 then(if LO [] (BS p)then 23 else 0)else CA s p
section
variable{l:List AK}{lv:AV}(hl:SlR Ac 3 l lv)(hsl:SmL 1048577 l)(hok:DOK l)
include hl hsl hok
theorem c35{p:TyV}{px:List AV}(hpx:AR p px)(hsp:Sm 1048577 p){s:Sh}{t:TyV}{xs:List AV}(hx:AR t xs)(hst:Sm 1048577 t)(hv:VT l t)(hs:Em l t s)(h:AF) :
 AI MX (AE MX) 35 [lv,.agg xs,.agg px] h=some (.ret (.int .i64 (GG s p)),h):=by
 have hn:([lv,AV.agg xs,AV.agg px]:List AV).all AV.AA=true:=by simp[AV.AA,hx.AG,hl.AA,hpx.AG]
 have h86:=c86 hpx hsp;have h87:=c87 hl hsl hok p px hpx hsp s t xs hx hst hv hs;have h88:=c88 p px hpx hsp;have hb10:=Ui;simp[Aa,An,f35]at hb10;obtain⟨pv,rfl,hp⟩:=hx.Ab;obtain⟨qv,rfl,hq⟩:=hpx.Ab;obtain⟨hr,hc⟩:∃ hr,AJ MX 35 [lv,.agg [.int .i64 t.k,.int .i64 t.v,.str t.nm,pv],.agg [.int .i64 p.k,.int .i64 p.v,.str p.nm,qv]] []=some (.ret (.int .i64 (GG s p)),hr):=by
  unfold GG;cases hT:Bp p with
  | false=>exact⟨_,by simp[AJ,f35,h86,hT] <;> rfl⟩
  | true=>
   by_cases h0:CA s p=0
   .have hln:=LN hT;obtain⟨w,hw,hcall⟩:=h88 (by omega);obtain⟨e,st,hlp,hq0⟩:=AU (M:=MX) (fid:=35) (N:=36) (C:=AE MX) (c:=AL f35 0) (n:=(BS p).length)
     (fun i (_:Unit)=>([(8,w),(9,.int .i64 i)],[Blk.var false [AV.int .i64 t.k,AV.int .i64 t.v,AV.str t.nm,pv],Blk.var false [AV.int .i64 p.k,AV.int .i64 p.v,AV.str p.nm,qv]]))
     (fun i _=>LO [] (BS p)=LO ((BS p).take i) ((BS p).drop i))
     (fun r=>(r=(.ext 0,([(8,w),(9,.int .i64 (BS p).length),(25,.bool false)],[Blk.var false [AV.int .i64 t.k,AV.int .i64 t.v,AV.str t.nm,pv],Blk.var false [AV.int .i64 p.k,AV.int .i64 p.v,AV.str p.nm,qv]]))/\LO [] (BS p)=false) \/
       (r=(.ret,([(6,.int .i64 23)],[Blk.var false [AV.int .i64 t.k,AV.int .i64 t.v,AV.str t.nm,pv],Blk.var false [AV.int .i64 p.k,AV.int .i64 p.v,AV.str p.nm,qv]]))/\LO [] (BS p)=true)) (fun i b hi hI=>by
       obtain⟨e,he,hR⟩:=hw.ix hi;have hi':=AZ hi;have hwi:=AY hi (by omega);cases hR;obtain⟨w2,hw1,hw2⟩:=hw.slice (KM hi);have hH:=c89 (BS p)[i] hw2 (by simp;omega);have hdr:(BS p).drop i=(BS p)[i]::(BS p).drop (i+1):=De hi;rw[hdr]at hI;simp only[LO]at hI;rw[Cf hi]at hI;cases hH0:(((BS p).take i).findIdx? (fun x=>x == (BS p)[i])).isSome with
       | true=>
        rw[hH0]at hI;simp only[hH0]at hH;exact .inr ⟨_,_,by simp[f35,hw.len,hi',he,hw1,hw2.AA,hH,hb10,AV.AA] <;> first | exact⟨rfl,rfl⟩ | rfl,by simp,.inr ⟨rfl,by rw[hI];rfl⟩⟩
       | false=>
        rw[hH0]at hI;simp only[hH0]at hH;exact .inl ⟨(),by simp[f35,hw.len,hi',he,hw1,hw2.AA,hH,hb10,AV.AA,hwi],by simpa using hI⟩) (fun b hI=>by
       rw[C3]at hI;exact⟨_,_,by simp[f35,hw.len] <;> first | exact⟨rfl,rfl⟩ | rfl,by simp,.inl ⟨rfl,hI⟩⟩) () (by simp)
    simp[f35]at hlp;rcases hq0 with⟨hq0,hd⟩ | ⟨hq0,hd⟩ <;> cases hq0
    .exact⟨_,by simp[AJ,f35,h86,hT,h87,h0,hcall,hlp,hd] <;> rfl⟩
    .exact⟨_,by simp[AJ,f35,h86,hT,h87,h0,hcall,hlp,hd] <;> rfl⟩
   .have hne:(CA s p != 0)=true:=(by simp[h0]);exact⟨_,by simp[AJ,f35,h86,hT,h87,hne,h0] <;> rfl⟩
 exact Af ZB dR hn rfl hc h
end
def OKF(l:List AK):Prop:=(A5 l).2=0->DOK l/\∀ t,VT l t->t.k≠2->Ek t=false->(AP l t).length<=16
noncomputable def E2(l:List AK)(t:TyV):Int:=if(A5 l).2=0 then HA l t else(A5 l).2
theorem LP{l:List AK}{t:TyV}(h:E2 l t=0):(A5 l).2=0/\VT l t/\Em l t (Eh l t):=by
 unfold E2 at h;split at h
 .rename_i h1;unfold HA at h;split at h
  .rename_i h2;split at h
   .rename_i h3;obtain⟨s,hs⟩:=J7 l 40 t 0 h3;refine⟨h1,?_,by rw[I0 hs];exact hs⟩;unfold Bx at h2;split at h2
    .exact h2
    .cases h2
   .rename_i h3;exact absurd h h3
  .rename_i h2;exact absurd h h2
 .rename_i h1;exact absurd h h1
def HB(s:Sh):Nat->List TyV->Int×Int
 | _,[]=>(0,0)
 | i,p::r=>if GG s p=0 then HB s (i+1) r else(i,GG s p)
noncomputable def BW(l:List AK)(t:TyV)(arms:List TyV):Int×Int:=
 if E2 l t=0 then(if arms.length=0 then(0,10)else if 12<arms.length then(0,8)else HB (Eh l t) 0 arms)else(0,E2 l t)
theorem Fb.dest{k:GA}{xs:List AV}(h:Fb k xs):∃ dv pv av,xs=[dv,.int .i64 k.ty.k,.int .i64 k.ty.v,.str k.ty.nm,pv,av]/\SlR Ac 3 k.data dv/\SlR AR 4 k.ty.ps pv/\AR k.ty [.int .i64 k.ty.k,.int .i64 k.ty.v,.str k.ty.nm,pv]/\SlR AR 4 k.arms av:=by
 obtain⟨dv,tx,av,rfl,h1,h2,h3⟩:=h;have h2':=h2;obtain⟨pv,rfl,hp⟩:=h2.Ab;exact⟨dv,pv,av,rfl,h1,hp,h2',h3⟩
section
variable{l:List AK}{lv:AV}(hl:SlR Ac 3 l lv)(hsl:SmL 1048577 l)(hokf:OKF l)
include hl hsl hokf
theorem c34{t:TyV}{xs:List AV}(hx:AR t xs)(hst:Sm 1048577 t)(h:AF):AI MX (AE MX) 34 [lv,.agg xs] h=some (.ret (.int .i64 (E2 l t)),h):=by
 have hn:([lv,AV.agg xs]:List AV).all AV.AA=true:=by simp[AV.AA,hx.AG,hl.AA]
 have h84:=c84 hl hsl;have h85:=fun hok hlen=>c85 hl hsl hok hlen hx hst
 obtain⟨pv,rfl,hp⟩:=hx.Ab;refine Af ZA dQ hn rfl (hr:=[Blk.var false [AV.int .i64 t.k,AV.int .i64 t.v,AV.str t.nm,pv]]) ?_ h;unfold E2;by_cases h0:(A5 l).2=0
 .obtain⟨hok,hlen⟩:=hokf h0;simp[AJ,f34,h84,h0,h85 hok hlen]
 .have hne:((A5 l).2 != 0)=true:=by simp[h0]
  simp[AJ,f34,h84,h0,hne]
end
theorem c32{k:GA}{xs:List AV}(hx:Fb k xs)(hsk:SmT 1048577 k)(hokf:OKF k.data)(h:AF):AI MX (AE MX) 32 [.agg xs] h=some (.ret (.tup [.int .i64 (BW k.data k.ty k.arms).1,.int .i64 (BW k.data k.ty k.arms).2]),h):=by
 obtain⟨dv,pv,av,rfl,hd,hp,ht,ha⟩:=hx.dest;obtain⟨s1,s2,s3,s4⟩:=hsk;have hn:([AV.agg [dv,.int .i64 k.ty.k,.int .i64 k.ty.v,.str k.ty.nm,pv,av]]:List AV).all AV.AA=true:=by simp[AV.AA,AG,hd.AA,hp.AA,ha.AA]
 have h34:=c34 hd s1 hokf ht s2;have hb11:=Uh;simp[Aa,An,f32]at hb11;refine Af Y9 dP hn rfl (hr:=[Blk.var false [dv,.int .i64 k.ty.k,.int .i64 k.ty.v,.str k.ty.nm,pv,av]]) ?_ h;unfold BW;by_cases h0:E2 k.data k.ty=0
 .obtain⟨c1,c2,c3⟩:=LP h0;obtain⟨hok,hlen⟩:=hokf c1;by_cases ha0:k.arms.length=0
  .have ha0':((k.arms.length:Int) == 0)=true:=(by simp only[beq_iff_eq];omega);simp[AJ,f32,h34,h0,ha.len,ha0',ha0]
  .have ha0':((k.arms.length:Int) == 0)=false:=(by rw[beq_eq_false_iff_ne];omega);by_cases ha12:12<k.arms.length
   .have ha12':(12<(k.arms.length:Int)):=(by omega);simp[AJ,f32,h34,h0,ha.len,ha0',ha0,ha12,ha12']
   .have ha12':¬ (12<(k.arms.length:Int)):=(by omega);obtain⟨e,st,hlp,hq0⟩:=AU (M:=MX) (fid:=32) (N:=44) (C:=AE MX) (c:=AL f32 0) (n:=k.arms.length)
     (fun i (_:Unit)=>([(1,.hp 0 0),(5,.int .i64 i)],[Blk.var false [dv,.int .i64 k.ty.k,.int .i64 k.ty.v,.str k.ty.nm,pv,av]]))
     (fun i _=>HB (Eh k.data k.ty) 0 k.arms=HB (Eh k.data k.ty) i (k.arms.drop i))
     (fun r=>(r=(.ext 0,([(1,.hp 0 0),(5,.int .i64 k.arms.length),(27,.bool false)],[Blk.var false [dv,.int .i64 k.ty.k,.int .i64 k.ty.v,.str k.ty.nm,pv,av]]))/\HB (Eh k.data k.ty) 0 k.arms=(0,0)) \/
       (r=(.ret,([(2,.int .i64 (HB (Eh k.data k.ty) 0 k.arms).1),(3,.int .i64 (HB (Eh k.data k.ty) 0 k.arms).2)],[Blk.var false [dv,.int .i64 k.ty.k,.int .i64 k.ty.v,.str k.ty.nm,pv,av]])))) (fun i b hi hI=>by
       obtain⟨e,he,hR⟩:=ha.ix hi;have hi':=AZ hi;have hwi:=AY hi s3;have h35:=c35 hd s1 hok hR (s4 _ (Ap hi)) ht s2 c2 c3;obtain⟨qv,rfl,hq⟩:=hR.Ab;have hdr:k.arms.drop i=k.arms[i]::k.arms.drop (i+1):=De hi;rw[hdr]at hI;simp only[HB]at hI;by_cases hz:GG (Eh k.data k.ty) k.arms[i]=0
       .rw[if_pos hz]at hI;exact .inl ⟨(),by simp[f32,ha.len,hi',he,h35,hz,hwi,hb11,AG,AV.AA,hd.AA,hp.AA,hq.AA],hI⟩
       .rw[if_neg hz]at hI;have hne:(GG (Eh k.data k.ty) k.arms[i] != 0)=true:=(by simp[hz]);exact .inr ⟨_,_,by simp[f32,ha.len,hi',he,h35,hne,hb11,AG,AV.AA,hd.AA,hp.AA,hq.AA] <;> first | exact⟨rfl,rfl⟩ | rfl,by simp,.inr (by rw[hI])⟩) (fun b hI=>by
       rw[C3]at hI;exact⟨_,_,by simp[f32,ha.len] <;> first | exact⟨rfl,rfl⟩ | rfl,by simp,.inl ⟨rfl,hI⟩⟩) () (by simp)
    simp[f32]at hlp;rcases hq0 with⟨hq0,hz⟩ | hq0 <;> cases hq0
    .simp[AJ,f32,h34,h0,ha.len,ha0',ha0,ha12,ha12',hlp,hz]
    .simp[AJ,f32,h34,h0,ha.len,ha0',ha0,ha12,ha12',hlp]
 .have hne:(E2 k.data k.ty != 0)=true:=by simp[h0]
  simp[AJ,f32,h34,h0,hne]
def IV(c:CS):Bool:=decide (c.fields.length<=12)&&c.fields.all fun f=>Bp f.ty
def Hw(d:AK):Bool:=decide (d.cons.length<=20)&&decide (d.params.length<=12)&&d.cons.all IV
def Sf(k:GA):Bool:=decide (k.data.length<=24)&&decide (k.arms.length<=16)&&k.data.all Hw
theorem Na{α:Type}{p:α->Bool}{l:List α}{i:Nat}(hi:i<l.length):(l.drop i).all p=(p l[i]&&(l.drop (i+1)).all p):=by
 rw[De hi,JL]
theorem c11{k:GA}{xs:List AV}(hx:Fb k xs)(hsk:SmT 1048577 k)(h:AF):AI MX (AE MX) 11 [.agg xs] h=some (.ret (.bool (Sf k)),h):=by
 obtain⟨dv,pv,av,rfl,hd,hp,ht,ha⟩:=hx.dest;obtain⟨s1,s2,s3,s4⟩:=hsk;have hn:([AV.agg [dv,.int .i64 k.ty.k,.int .i64 k.ty.v,.str k.ty.nm,pv,av]]:List AV).all AV.AA=true:=by simp[AV.AA,AG,hd.AA,hp.AA,ha.AA]
 refine Af Y6 dL hn rfl (hr:=[Blk.var false [dv,.int .i64 k.ty.k,.int .i64 k.ty.v,.str k.ty.nm,pv,av]]) ?_ h;unfold Sf;by_cases h24:24<k.data.length
 .have h24':(24<(k.data.length:Int)):=by omega
  have:¬ (k.data.length<=24):=by omega
  simp[AJ,f11,hd.len,h24',this]
 .have h24':¬ (24<(k.data.length:Int)):=by omega
  have h24i:k.data.length<=24:=by omega
  by_cases h16:16<k.arms.length
  .have h16':(16<(k.arms.length:Int)):=(by omega);have:¬ (k.arms.length<=16):=(by omega);simp[AJ,f11,hd.len,ha.len,h24',h16',this]
  .have h16':¬ (16<(k.arms.length:Int)):=(by omega);have h16i:k.arms.length<=16:=(by omega);let B:=Blk.var false [dv,.int .i64 k.ty.k,.int .i64 k.ty.v,.str k.ty.nm,pv,av];obtain⟨e,st,hlp,hq0⟩:=AU (M:=MX) (fid:=11) (N:=79) (C:=AE MX) (c:=AL f11 0) (n:=k.data.length)
    (fun i (_:Unit)=>([(1,.hp 0 0),(3,.int .i64 i)],[Blk.var false [dv,.int .i64 k.ty.k,.int .i64 k.ty.v,.str k.ty.nm,pv,av]]))
    (fun i _=>k.data.all Hw=(k.data.drop i).all Hw)
    (fun r=>(r=(.ext 0,([(1,.hp 0 0),(3,.int .i64 k.data.length),(21,.bool false)],[Blk.var false [dv,.int .i64 k.ty.k,.int .i64 k.ty.v,.str k.ty.nm,pv,av]]))/\k.data.all Hw=true) \/
      (r=(.ret,([(2,.bool false)],[Blk.var false [dv,.int .i64 k.ty.k,.int .i64 k.ty.v,.str k.ty.nm,pv,av]]))/\k.data.all Hw=false)) (fun i b hi hI=>by
      obtain⟨e,he,hR⟩:=hd.ix hi;have hi':=AZ hi;have hwi:=AY hi s1.1;obtain⟨d1,d2,d3,d4,d5⟩:=s1.2 _ (Ap hi);obtain⟨qv,cv,rfl,hqp,hcv⟩:=hR.dest;rw[Na hi]at hI;by_cases h20:20<k.data[i].cons.length
      .have h20':(20<(k.data[i].cons.length:Int)):=(by omega);have hs:Hw k.data[i]=false:=(by simp[Hw];intro h;omega);rw[hs,IY]at hI;exact .inr ⟨_,_,by simp[f11,hd.len,hi',he,hcv.len,h20'] <;> first | exact⟨rfl,rfl⟩ | rfl,by simp,.inr ⟨rfl,hI⟩⟩
      .have h20':¬ (20<(k.data[i].cons.length:Int)):=(by omega);have h20i:k.data[i].cons.length<=20:=(by omega);by_cases h12:12<k.data[i].params.length
       .have h12':(12<(k.data[i].params.length:Int)):=(by omega);have hs:Hw k.data[i]=false:=(by simp[Hw];intro _ h;omega);rw[hs,IY]at hI;exact .inr ⟨_,_,by simp[f11,hd.len,hi',he,hcv.len,hqp.len,h20',h12'] <;> first | exact⟨rfl,rfl⟩ | rfl,by simp,.inr ⟨rfl,hI⟩⟩
       .have h12':¬ (12<(k.data[i].params.length:Int)):=(by omega);have h12i:k.data[i].params.length<=12:=(by omega);have hsD:Hw k.data[i]=k.data[i].cons.all IV:=(by simp[Hw,h20i,h12i]);rw[hsD]at hI;obtain⟨e2,st2,hlp2,hq2⟩:=AU (M:=MX) (fid:=11) (N:=79) (C:=AE MX) (c:=AL f11 1) (n:=k.data[i].cons.length)
         (fun j (_:Unit)=>([(1,.hp 0 0),(3,.int .i64 i),(4,.int .i64 j)],[Blk.var false [dv,.int .i64 k.ty.k,.int .i64 k.ty.v,.str k.ty.nm,pv,av]]))
         (fun j _=>k.data[i].cons.all IV=(k.data[i].cons.drop j).all IV)
         (fun r=>(r=(.ext 2,([(1,.hp 0 0),(3,.int .i64 i),(4,.int .i64 k.data[i].cons.length),(50,.bool false)],[Blk.var false [dv,.int .i64 k.ty.k,.int .i64 k.ty.v,.str k.ty.nm,pv,av]]))/\k.data[i].cons.all IV=true) \/
           (r=(.ret,([(2,.bool false)],[Blk.var false [dv,.int .i64 k.ty.k,.int .i64 k.ty.v,.str k.ty.nm,pv,av]]))/\k.data[i].cons.all IV=false)) (fun j b hj hJ=>by
           obtain⟨ce,hce,hcR⟩:=hcv.ix hj;have hj':=AZ hj;have hwj:=AY hj d4;obtain⟨c1,c2,c3⟩:=d5 _ (Ap hj);obtain⟨fv,rfl,hfv⟩:=hcR.dest;rw[Na hj]at hJ;by_cases f12:12<k.data[i].cons[j].fields.length
           .have f12':(12<(k.data[i].cons[j].fields.length:Int)):=(by omega);have hs:IV k.data[i].cons[j]=false:=(by simp[IV];intro h;omega);rw[hs,IY]at hJ;exact .inr ⟨_,_,by simp[f11,hi',he,hcv.len,hj',hce,hfv.len,f12'] <;> first | exact⟨rfl,rfl⟩ | rfl,by simp,.inr ⟨rfl,hJ⟩⟩
           .have f12':¬ (12<(k.data[i].cons[j].fields.length:Int)):=(by omega);have f12i:k.data[i].cons[j].fields.length<=12:=(by omega);have hsF:IV k.data[i].cons[j]=k.data[i].cons[j].fields.all fun f=>Bp f.ty:=by simp[IV,f12i]
            rw[hsF]at hJ;obtain⟨e3,st3,hlp3,hq3⟩:=AU (M:=MX) (fid:=11) (N:=79) (C:=AE MX) (c:=AL f11 2) (n:=k.data[i].cons[j].fields.length)
             (fun m (_:Unit)=>([(1,.hp 0 0),(3,.int .i64 i),(4,.int .i64 j),(5,fv),(6,.int .i64 m)],[Blk.var false [dv,.int .i64 k.ty.k,.int .i64 k.ty.v,.str k.ty.nm,pv,av]]))
             (fun m _=>(k.data[i].cons[j].fields.all fun f=>Bp f.ty)=(k.data[i].cons[j].fields.drop m).all fun f=>Bp f.ty)
             (fun r=>(r=(.ext 4,([(1,.hp 0 0),(3,.int .i64 i),(4,.int .i64 j),(5,fv),(6,.int .i64 k.data[i].cons[j].fields.length),(69,.bool false)],[Blk.var false [dv,.int .i64 k.ty.k,.int .i64 k.ty.v,.str k.ty.nm,pv,av]]))/\(k.data[i].cons[j].fields.all fun f=>Bp f.ty)=true) \/
               (r=(.ret,([(2,.bool false)],[Blk.var false [dv,.int .i64 k.ty.k,.int .i64 k.ty.v,.str k.ty.nm,pv,av]]))/\(k.data[i].cons[j].fields.all fun f=>Bp f.ty)=false)) (fun m b hm hM=>by
               obtain⟨fe,hfe,hfR⟩:=hfv.ix hm;have hm':=AZ hm;have hwm:=AY hm c2;obtain⟨f1,f2⟩:=c3 _ (Ap hm);obtain⟨tx,rfl,htx⟩:=hfR;have hT:=c59 htx f2;obtain⟨q1,rfl,hq1⟩:=htx.Ab;rw[Na hm]at hM;cases hT0:Bp k.data[i].cons[j].fields[m].ty with
               | false=>
                rw[hT0,IY]at hM;exact .inr ⟨_,_,by simp[f11,hfv.len,hm',hfe,hT,hT0] <;> first | exact⟨rfl,rfl⟩ | rfl,by simp,.inr ⟨rfl,hM⟩⟩
               | true=>
                rw[hT0,IC]at hM;exact .inl ⟨(),by simp[f11,hfv.len,hm',hfe,hT,hT0,hwm],hM⟩) (fun b hM=>by
               rw[C3]at hM;exact⟨_,_,by simp[f11,hfv.len] <;> first | exact⟨rfl,rfl⟩ | rfl,by simp,.inl ⟨rfl,by rw[hM];rfl⟩⟩) () (by simp)
            simp[f11]at hlp3;rcases hq3 with⟨hq3,hz⟩ | ⟨hq3,hz⟩ <;> cases hq3
            .rw[hz,IC]at hJ;exact .inl ⟨(),by simp[f11,hi',he,hcv.len,hj',hce,hfv.len,f12',hlp3,hwj],hJ⟩
            .rw[hz,IY]at hJ;exact .inr ⟨_,_,by simp[f11,hi',he,hcv.len,hj',hce,hfv.len,f12',hlp3] <;> first | exact⟨rfl,rfl⟩ | rfl,by simp,.inr ⟨rfl,hJ⟩⟩) (fun b hJ=>by
           rw[C3]at hJ;exact⟨_,_,by simp[f11,hi',he,hcv.len] <;> first | exact⟨rfl,rfl⟩ | rfl,by simp,.inl ⟨rfl,by rw[hJ];rfl⟩⟩) () (by simp)
        simp[f11]at hlp2;rcases hq2 with⟨hq2,hz⟩ | ⟨hq2,hz⟩ <;> cases hq2
        .rw[hz,IC]at hI;exact .inl ⟨(),by simp[f11,hd.len,hi',he,hcv.len,hqp.len,h20',h12',hlp2,hwi],hI⟩
        .rw[hz,IY]at hI;exact .inr ⟨_,_,by simp[f11,hd.len,hi',he,hcv.len,hqp.len,h20',h12',hlp2] <;> first | exact⟨rfl,rfl⟩ | rfl,by simp,.inr ⟨rfl,hI⟩⟩) (fun b hI=>by
      rw[C3]at hI;exact⟨_,_,by simp[f11,hd.len] <;> first | exact⟨rfl,rfl⟩ | rfl,by simp,.inl ⟨rfl,by rw[hI];rfl⟩⟩) () (by simp)
   simp[f11]at hlp;rcases hq0 with⟨hq0,hz⟩ | ⟨hq0,hz⟩ <;> cases hq0 <;> simp[AJ,f11,hd.len,ha.len,h24',h16',h24i,h16i,hlp] <;> simpa using hz
end
end Go.Proofs.Am12
