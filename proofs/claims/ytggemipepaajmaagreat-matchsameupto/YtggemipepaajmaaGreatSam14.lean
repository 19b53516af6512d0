/- Part 14. -/
import Derived.Test.YtggemipepaajmaaGreatSam13
import Derived.Test.YtggemipepaajmaaGreatRows
set_option linter.all false
set_option maxHeartbeats 1000000
namespace Go.Proofs.Am12
open Go Go.Am Go.Proofs.YtggemipepaajmaaGreat Tryz
abbrev Bytes:=List UInt8
abbrev lim:Nat:=1048577
inductive TyV where
 | mk (k v:Int) (nm:Bytes) (ps:List TyV)
 deriving Inhabited
def TyV.k:TyV->Int | .mk k _ _ _=>k
def TyV.v:TyV->Int | .mk _ v _ _=>v
def TyV.nm:TyV->Bytes | .mk _ _ n _=>n
def TyV.ps:TyV->List TyV | .mk _ _ _ p=>p
theorem TyV.ind{P:TyV->Prop}(h:∀ k v nm ps,(∀ p∈ps,P p)->P (.mk k v nm ps))(t:TyV):P t:=
 TyV.rec (motive_1:=P) (motive_2:=fun ps=>∀ p∈ps,P p) (fun k v nm ps ih=>h k v nm ps ih) (fun p hp=>by cases hp) (fun a r ha hr p hp=>by
  rcases CF.1 hp with rfl | hp
  .exact ha
  .exact hr p hp) t
inductive AU:TyV->List AV->Prop where
 | nil (k v:Int) (nm:Bytes):AU (.mk k v nm []) [.int .i64 k,.int .i64 v,.str nm,.AI]
 | sl (k v:Int) (nm:Bytes) (ps:List TyV) (ex:Bool) (es:List (List AV)) (hl:es.length=ps.length) (h:∀(i:Nat) t e,ps[i]? = some t->es[i]? = some e->AU t e) :
  AU (.mk k v nm ps) [.int .i64 k,.int .i64 v,.str nm,.sl 4 ex es]
theorem AU.dest{k v:Int}{nm:Bytes}{ps:List TyV}{xs:List AV}(h:AU (.mk k v nm ps) xs):∃ pv,xs=[.int .i64 k,.int .i64 v,.str nm,pv]/\SlR AU 4 ps pv:=by
 cases h with
 | nil=>exact⟨_,rfl,.inl ⟨rfl,rfl⟩⟩
 | sl _ _ _ _ ex es hl h=>exact⟨_,rfl,.inr ⟨ex,es,rfl,hl,h⟩⟩
theorem AU.intro{k v:Int}{nm:Bytes}{ps:List TyV}{pv:AV}(h:SlR AU 4 ps pv):AU (.mk k v nm ps) [.int .i64 k,.int .i64 v,.str nm,pv]:=by
 rcases h with⟨rfl,rfl⟩ | ⟨ex,es,rfl,hl,h⟩
 .exact .nil k v nm
 .exact .sl k v nm ps ex es hl h
theorem AU.AF{t:TyV}{xs:List AV}(h:AU t xs):AF xs=true:=by
 cases t with
 | mk k v nm ps=>
  obtain⟨pv,rfl,hp⟩:=h.dest;simp[Am.AF,AV.AA,hp.AA]
theorem AU.len{t:TyV}{xs:List AV}(h:AU t xs):xs.length=4:=by
 cases h <;> rfl
inductive Sm(b:Nat):TyV->Prop where
 | mk (k v:Int) (nm:Bytes) (ps:List TyV) (h1:nm.length<b) (h2:ps.length<b) (h3:∀ p∈ps,Sm b p):Sm b (.mk k v nm ps)
theorem Sm.dest{b:Nat}{k v:Int}{nm:Bytes}{ps:List TyV}(h:Sm b (.mk k v nm ps)):nm.length<b/\ps.length<b/\∀ p∈ps,Sm b p:=by
 cases h with
 | mk _ _ _ _ h1 h2 h3=>exact⟨h1,h2,h3⟩
def C2(n:Bytes)(xs:List AV):Prop:=xs=[.str n]
structure DB where
 nm:Bytes
 ty:TyV
 deriving Inhabited
def Bw(f:DB)(xs:List AV):Prop:=∃ tx,xs=.str f.nm::tx/\AU f.ty tx
structure CZ where
 nm:Bytes
 fields:List DB
 deriving Inhabited
def Ed(c:CZ)(xs:List AV):Prop:=∃ fv,xs=[.str c.nm,fv]/\SlR Bw 5 c.fields fv
structure AK where
 nm:Bytes
 params:List Bytes
 cons:List CZ
 deriving Inhabited
def Ah(d:AK)(xs:List AV):Prop:=∃ pv cv,xs=[.str d.nm,pv,cv]/\SlR C2 1 d.params pv/\SlR Ed 2 d.cons cv
structure EM where
 data:List AK
 ty:TyV
 arms:List TyV
def D5(t:EM)(xs:List AV):Prop:=∃ dv tx av,xs=dv::tx++[av]/\SlR Ah 3 t.data dv/\AU t.ty tx/\SlR AU 4 t.arms av
def SmF(b:Nat)(f:DB):Prop:=f.nm.length<b/\Sm b f.ty
def SmC(b:Nat)(c:CZ):Prop:=c.nm.length<b/\c.fields.length<b/\∀ f∈c.fields,SmF b f
def SmD(b:Nat)(d:AK):Prop:=d.nm.length<b/\d.params.length<b/\(∀ p∈d.params,p.length<b)/\d.cons.length<b/\∀ c∈d.cons,SmC b c
def SmL(b:Nat)(l:List AK):Prop:=l.length<b/\∀ d∈l,SmD b d
def SmT(b:Nat)(t:EM):Prop:=SmL b t.data/\Sm b t.ty/\t.arms.length<b/\∀ p∈t.arms,Sm b p
theorem KM{α β:Type}{R:α->β->Prop}{S:α->Prop}:∀(es:List β),(∀ e∈es,∃ a,R a e/\S a)->∃ xs:List α,es.length=xs.length/\(∀(i:Nat) a e,xs[i]? = some a->es[i]? = some e->R a e)/\∀ x∈xs,S x
 | [],_=>⟨[],rfl,fun i a e h=>by simp at h,fun x hx=>by cases hx⟩
 | e::r,h=>by
  obtain⟨a,ha,hs⟩:=h e (by simp);obtain⟨xs,h1,h2,h3⟩:=KM r (fun x hx=>h x (by simp[hx]));refine⟨a::xs,by simp[h1],fun i a' e' h3 h4 => ?_,fun x hx => ?_⟩
  .cases i with
   | zero=>simp at h3 h4;exact h3 ▸ h4 ▸ ha
   | succ i=>exact h2 i a' e' (by simpa using h3) (by simpa using h4)
  .rcases CF.1 hx with rfl | hx
   .exact hs
   .exact h3 x hx
theorem und25:und MX.ty 25=some (.struct #[{ name := "Kind",type:=3,offset:=0,embedded:=false,tag := "",pkgPath := "",byteOffset:=0 },{ name := "Value",type:=3,offset:=1,embedded:=false,tag := "",pkgPath := "",byteOffset:=8 },
 { name := "Name",type:=9,offset:=2,embedded:=false,tag := "",pkgPath := "",byteOffset:=16 },{ name := "Parts",type:=23,offset:=3,embedded:=false,tag := "",pkgPath := "",byteOffset:=32 }]):=by kernel_rfl
theorem und62:und MX.ty 62=some (.struct #[{ name := "Kind",type:=3,offset:=0,embedded:=false,tag := "",pkgPath := "",byteOffset:=0 },{ name := "Value",type:=3,offset:=1,embedded:=false,tag := "",pkgPath := "",byteOffset:=8 },
 { name := "Name",type:=9,offset:=2,embedded:=false,tag := "",pkgPath := "",byteOffset:=16 },{ name := "Parts",type:=26,offset:=3,embedded:=false,tag := "",pkgPath := "",byteOffset:=32 }]):=by kernel_rfl
theorem und23:und MX.ty 23=some (.slice 25):=by kernel_rfl
theorem gA:und MX.ty 26=some (.slice 62):=by kernel_rfl
theorem XC:und MX.ty 3=some (.int .i64):=by kernel_rfl
theorem Zy:und MX.ty 9=some .string:=by kernel_rfl
theorem siz25:siz MX.ty 25=4:=by kernel_rfl
theorem gB:siz MX.ty 62=4:=by kernel_rfl
theorem sizX9:siz MX.ty 9=1:=by kernel_rfl
theorem ij:siz MX.ty 103=3:=by kernel_rfl
theorem ik:siz MX.ty 106=2:=by kernel_rfl
theorem il:siz MX.ty 109=5:=by kernel_rfl
section
variable{H:Type}
theorem Vq{d:DataW H}{xs:List AV}(h:Shp MX 3 d xs):∃ n,xs=[.int .i64 n]/\(Lit.int .i64 n).wf=true:=by
 cases h with
 | int h n hw=>rw[XC]at h;cases h;exact⟨n,rfl,hw⟩
 | bool h=>rw[XC]at h;cases h
 | str h=>rw[XC]at h;cases h
 | nil h=>rw[XC]at h;cases h
 | sl h=>rw[XC]at h;cases h
 | struct h=>rw[XC]at h;cases h
theorem MC{d:DataW H}{xs:List AV}{b:Nat}(h:Shp MX 9 d xs)(hb:Rows.uptoBulk d<b):∃ s,xs=[.str s]/\s.length<b:=by
 cases h with
 | str h s=>exact⟨s,rfl,by simp only[Rows.uptoBulk]at hb;omega⟩
 | int h=>rw[Zy]at h;cases h
 | bool h=>rw[Zy]at h;cases h
 | nil h=>rw[Zy]at h;cases h
 | sl h=>rw[Zy]at h;cases h
 | struct h=>rw[Zy]at h;cases h
theorem one_le(d:DataW H):1<=Rows.uptoBulk d:=by
 cases d with
 | lit l=>cases l <;> simp[Rows.uptoBulk]
 | _=>simp[Rows.uptoBulk]
theorem Q1{d:DataW H}{l:List (DataW H)}(h:d∈l):Rows.uptoBulk d<=Rows.uptoBulkAll l:=by
 induction l with
 | nil=>cases h
 | cons x r ih=>
  simp only[Rows.uptoBulkAll];rcases CF.1 h with rfl | e
  .omega
  .have:=ih e;omega
theorem length_le(l:List (DataW H)):l.length<=Rows.uptoBulkAll l:=by
 induction l with
 | nil=>simp
 | cons x r ih=>have:=one_le x;simp only[Rows.uptoBulkAll,DC];omega
theorem KO{α:Type}{R:α->List AV->Prop}{S:α->Prop}{t e:TypeId}{d:DataW H}{xs:List AV}{b:Nat}(hu:und MX.ty t=some (.slice e))(hR:∀(d:DataW H) xs,Shp MX e d xs->Rows.uptoBulk d<b->∃ a,R a xs/\S a)(h:Shp MX t d xs)(hb:Rows.uptoBulk d<b) :
 ∃ l v,xs=[v]/\SlR R (siz MX.ty e) l v/\l.length<b/\∀ x∈l,S x:=by
 cases h with
 | nil h=>exact⟨[],_,rfl,.inl ⟨rfl,rfl⟩,by have:=one_le (DataW.nil:DataW H);simp;omega,fun x hx=>by cases hx⟩
 | sl h ds sp es hl hs=>
  rw[hu]at h;cases h;simp only[Rows.uptoBulk]at hb;obtain⟨l,h1,h2,h3⟩:=KM (R:=R) (S:=S) es (fun x hx=>by
   obtain⟨i,hi⟩:=Ni.1 hx;have hlt:i<ds.length:=(by rw[<- hl];exact(Ac.1 hi).1);exact hR _ _ (hs i ds[i] x (AO hlt) hi) (by have:=Q1 (An hlt);omega))
  have:=length_le ds;exact⟨l,_,rfl,.inr ⟨false,es,rfl,h1,h2⟩,by omega,h3⟩
 | bool h=>rw[hu]at h;cases h
 | int h=>rw[hu]at h;cases h
 | str h=>rw[hu]at h;cases h
 | struct h=>rw[hu]at h;cases h
theorem JP{t:TypeId}{fs:Array Field}{d:DataW H}{xs:List AV}{b:Nat}(hu:und MX.ty t=some (.struct fs))(h:Shp MX t d xs)(hb:Rows.uptoBulk d<b) :
 ∃(ds:List (DataW H)) (rows:List (List AV)),xs=rows.flatten/\rows.length=ds.length/\fs.size=ds.length/\(∀(i:Nat) f d a,fs[i]? = some f->ds[i]? = some d->rows[i]? = some a->Shp MX f.type d a)/\∀ d∈ds,Rows.uptoBulk d<b:=by
 cases h with
 | struct h ds rows hl hf hs=>
  rw[hu]at h;cases h;exact⟨ds,rows,rfl,hl,hf,hs,fun d hd=>by have:=Q1 hd;simp only[Rows.uptoBulk]at hb;omega⟩
 | nil h=>rw[hu]at h;cases h
 | sl h=>rw[hu]at h;cases h
 | bool h=>rw[hu]at h;cases h
 | int h=>rw[hu]at h;cases h
 | str h=>rw[hu]at h;cases h
theorem Vr{tT tS:TypeId}{n1 n2 n3 n4:String}{o1 o2 o3 o4:Nat}(hT:und MX.ty tT=some (.struct #[{ name:=n1,type:=3,offset:=0,embedded:=false,tag := "",pkgPath := "",byteOffset:=o1 },{ name:=n2,type:=3,offset:=1,embedded:=false,tag := "",pkgPath := "",byteOffset:=o2 },
 { name:=n3,type:=9,offset:=2,embedded:=false,tag := "",pkgPath := "",byteOffset:=o3 },{ name:=n4,type:=tS,offset:=3,embedded:=false,tag := "",pkgPath := "",byteOffset:=o4 }])) (hS:und MX.ty tS=some (.slice tT)) (hz:siz MX.ty tT=4) {t:TypeId} {d:DataW H} {xs:List AV} (h:Shp MX t d xs) {b:Nat} (hb:Rows.uptoBulk d<b) :
 (t=tT->∃ tv,AU tv xs/\Sm b tv)/\(t=tS->∃ l v,xs=[v]/\SlR AU 4 l v/\l.length<b/\∀ x∈l,Sm b x):=by
 induction h with
 | bool h b=>exact⟨fun e=>(by subst e;rw[hT]at h;cases h),fun e=>(by subst e;rw[hS]at h;cases h)⟩
 | int h n hw=>exact⟨fun e=>(by subst e;rw[hT]at h;cases h),fun e=>(by subst e;rw[hS]at h;cases h)⟩
 | str h bs=>exact⟨fun e=>(by subst e;rw[hT]at h;cases h),fun e=>(by subst e;rw[hS]at h;cases h)⟩
 | nil h=>exact⟨fun e=>(by subst e;rw[hT]at h;cases h),fun e=>⟨[],.AI,rfl,.inl ⟨rfl,rfl⟩,by have:=one_le (DataW.nil:DataW H);simp;omega,fun x hx=>by cases hx⟩⟩
 | sl h ds sp es hl hs ih=>
  refine⟨fun e=>(by subst e;rw[hT]at h;cases h),fun e => ?_⟩;subst e;rw[hS]at h;cases h;rw[hz];simp only[Rows.uptoBulk]at hb;obtain⟨l,h1,h2,h3⟩:=KM (R:=AU) (S:=Sm b) es (fun x hx=>by
   obtain⟨i,hi⟩:=Ni.1 hx;have hlt:i<ds.length:=(by rw[<- hl];exact(Ac.1 hi).1);exact(ih i ds[i] x (AO hlt) hi (by have:=Q1 (An hlt);omega)).1 rfl)
  have:=length_le ds;exact⟨l,_,rfl,.inr ⟨false,es,rfl,h1,h2⟩,by omega,h3⟩
 | struct h ds rows hl hf hs ih=>
  refine⟨fun e => ?_,fun e=>(by subst e;rw[hS]at h;cases h)⟩;subst e;rw[hT]at h;cases h;simp only[Mb,DC,Jd]at hf
  match ds,rows,hf,hl with
  | [d0,d1,d2,d3],[a0,a1,a2,a3],_,_=>
   simp only[Rows.uptoBulk,Rows.uptoBulkAll]at hb;obtain⟨k,rfl,_⟩:=Vq (hs 0 _ d0 a0 rfl rfl rfl);obtain⟨v,rfl,_⟩:=Vq (hs 1 _ d1 a1 rfl rfl rfl);obtain⟨nm,rfl,hnm⟩:=MC (b:=b) (hs 2 _ d2 a2 rfl rfl rfl) (by omega);obtain⟨l,pv,rfl,hp,hlb,hS⟩:=(ih 3 _ d3 a3 rfl rfl rfl (by omega)).2 rfl;exact⟨.mk k v nm l,AU.intro hp,.mk k v nm l hnm hlb hS⟩
theorem Zz{b:Nat}(d:DataW H)(xs:List AV)(h:Shp MX 25 d xs)(hb:Rows.uptoBulk d<b):∃ tv,AU tv xs/\Sm b tv:=(Vr und25 und23 siz25 h hb).1 rfl
theorem Vs{b:Nat}(d:DataW H)(xs:List AV)(h:Shp MX 62 d xs)(hb:Rows.uptoBulk d<b):∃ tv,AU tv xs/\Sm b tv:=(Vr und62 gA gB h hb).1 rfl
theorem im:und MX.ty 109=some (.struct #[{ name := "Name",type:=9,offset:=0,embedded:=false,tag := "",pkgPath := "",byteOffset:=0 },{ name := "Type",type:=25,offset:=1,embedded:=false,tag := "",pkgPath := "",byteOffset:=16 }]):=by kernel_rfl
theorem iq:und MX.ty 106=some (.struct #[{ name := "Name",type:=9,offset:=0,embedded:=false,tag := "",pkgPath := "",byteOffset:=0 },{ name := "Fields",type:=104,offset:=1,embedded:=false,tag := "",pkgPath := "",byteOffset:=16 }]):=by kernel_rfl
theorem ir:und MX.ty 103=some (.struct #[{ name := "Name",type:=9,offset:=0,embedded:=false,tag := "",pkgPath := "",byteOffset:=0 },{ name := "Params",type:=100,offset:=1,embedded:=false,tag := "",pkgPath := "",byteOffset:=16 },{ name := "Constructors",type:=101,offset:=2,embedded:=false,tag := "",pkgPath := "",byteOffset:=40 }]):=by kernel_rfl
theorem und28:und MX.ty 28=some (.struct #[{ name := "Data",type:=22,offset:=0,embedded:=false,tag := "",pkgPath := "",byteOffset:=0 },{ name := "Type",type:=25,offset:=1,embedded:=false,tag := "",pkgPath := "",byteOffset:=24 },{ name := "Arms",type:=26,offset:=5,embedded:=false,tag := "",pkgPath := "",byteOffset:=80 }]):=by kernel_rfl
theorem eB:und MX.ty 100=some (.slice 9):=by kernel_rfl
theorem iu:und MX.ty 101=some (.slice 106):=by kernel_rfl
theorem iv:und MX.ty 104=some (.slice 109):=by kernel_rfl
theorem und22:und MX.ty 22=some (.slice 103):=by kernel_rfl
theorem XD{b:Nat}(d:DataW H)(xs:List AV)(h:Shp MX 109 d xs)(hb:Rows.uptoBulk d<b):∃ f,Bw f xs/\SmF b f:=by
 obtain⟨ds,rows,rfl,hl,hf,hs,hbs⟩:=JP im h hb
 match ds,rows,hf,hl with
 | [d0,d1],[a0,a1],_,_=>
  obtain⟨nm,rfl,hn⟩:=MC (hs 0 _ d0 a0 rfl rfl rfl) (hbs d0 (by simp));obtain⟨tv,ht,hst⟩:=Zz _ _ (hs 1 _ d1 a1 rfl rfl rfl) (hbs d1 (by simp));exact⟨⟨nm,tv⟩,⟨a1,by simp,ht⟩,hn,hst⟩
theorem eC{b:Nat}(d:DataW H)(xs:List AV)(h:Shp MX 106 d xs)(hb:Rows.uptoBulk d<b):∃ c,Ed c xs/\SmC b c:=by
 obtain⟨ds,rows,rfl,hl,hf,hs,hbs⟩:=JP iq h hb
 match ds,rows,hf,hl with
 | [d0,d1],[a0,a1],_,_=>
  obtain⟨nm,rfl,hn⟩:=MC (hs 0 _ d0 a0 rfl rfl rfl) (hbs d0 (by simp));obtain⟨l,v,rfl,hv,hlb,hS⟩:=KO (R:=Bw) (S:=SmF b) iv (fun d xs=>XD d xs) (hs 1 _ d1 a1 rfl rfl rfl) (hbs d1 (by simp));rw[il]at hv;exact⟨⟨nm,l⟩,⟨v,by simp,hv⟩,hn,hlb,hS⟩
theorem Z0{b:Nat}(d:DataW H)(xs:List AV)(h:Shp MX 103 d xs)(hb:Rows.uptoBulk d<b):∃ c,Ah c xs/\SmD b c:=by
 obtain⟨ds,rows,rfl,hl,hf,hs,hbs⟩:=JP ir h hb
 match ds,rows,hf,hl with
 | [d0,d1,d2],[a0,a1,a2],_,_=>
  obtain⟨nm,rfl,hn⟩:=MC (hs 0 _ d0 a0 rfl rfl rfl) (hbs d0 (by simp));obtain⟨l,v,rfl,hv,hlb,hS⟩:=KO (R:=C2) (S:=fun s=>s.length<b) eB (fun d xs h hb=>MC h hb) (hs 1 _ d1 a1 rfl rfl rfl) (hbs d1 (by simp));obtain⟨m,w,rfl,hw,hmb,hM⟩:=KO (R:=Ed) (S:=SmC b) iu (fun d xs=>eC d xs) (hs 2 _ d2 a2 rfl rfl rfl) (hbs d2 (by simp));rw[sizX9]at hv;rw[ik]at hw;exact⟨⟨nm,l,m⟩,⟨v,w,by simp,hv,hw⟩,hn,hlb,hS,hmb,hM⟩
theorem Z1{b:Nat}(d:DataW H)(xs:List AV)(h:Shp MX 28 d xs)(hb:Rows.uptoBulk d<b):∃ c,D5 c xs/\SmT b c:=by
 obtain⟨ds,rows,rfl,hl,hf,hs,hbs⟩:=JP und28 h hb
 match ds,rows,hf,hl with
 | [d0,d1,d2],[a0,a1,a2],_,_=>
  obtain⟨l,v,rfl,hv,hlb,hS⟩:=KO (R:=Ah) (S:=SmD b) und22 (fun d xs=>Z0 d xs) (hs 0 _ d0 a0 rfl rfl rfl) (hbs d0 (by simp));obtain⟨tv,ht,hst⟩:=Zz _ _ (hs 1 _ d1 a1 rfl rfl rfl) (hbs d1 (by simp));obtain⟨m,w,rfl,hw,hmb,hM⟩:=KO (R:=AU) (S:=Sm b) gA (fun d xs=>Vs d xs) (hs 2 _ d2 a2 rfl rfl rfl) (hbs d2 (by simp));rw[ij]at hv;rw[gB]at hw;exact⟨⟨l,tv,m⟩,⟨v,a1,w,by simp,hv,ht,hw⟩,⟨hlb,hS⟩,hst,hmb,hM⟩
end
end Go.Proofs.Am12
namespace Go.Proofs.Am12
open Go Go.Am Tryz
section
attribute [local simp] Dc Bn Ec Dd CQ Dx Dy Ey BZ Ap Bh Av Gb FR EN HO D9 A5 FN EO HP HQ xUn FC EA FT BG DQ BH EB BI EC Ce Ca Bv BL EP Eo
 ev evs C4 DP OR.ofV OR.D4 OR.ofC Fg Tm.get Tm.init Tm.only Ay A6 Bt finish CK DS Hb D3 D7 unA Bz Bc B6 Bd Cp Cq Cr Be Cs Ct Bf Cu Cv Bg B7 AL CP Bb Cn Co Bx Ez E0 E1 Dz D0 Fo F7 F8 Fp stA BA DY Bo Ff DR FD Gp B8
theorem Ft{s:Bytes}{i:Nat}(hi:i<s.length):(DZ s)[i]? = some [.int .u8 s[i].toNat]:=by simp[DZ,hi]
theorem Ae{f:FuncId}{args:List AV}{v:AV}{hr:AE}(hm:MX.mode f = { fresh:=true })(he:MX.eff f=none)(ha:args.all AV.AA=true)(hv:v.AA=true)(hc:AJ MX f args []=some (.ret v,hr))(h:AE) :
 AH MX (AG MX) f args h=some (.ret v,h):=by
 have hs:∀{l:List AV} {h:AE},l.all AV.AA=true->Aq l h=some (l,h):=by
  intro l;induction l with
  | nil=>intro h _;rfl
  | cons a r ih=>
   intro h hn;simp only[Hk,Ba]at hn;simp only[Aq,hn.1,ih hn.2]
 unfold AH;simp only[hm,hs ha,ha,I0 he hc,Cm,hv]
theorem Jj{f:FuncId}{args:List AV}{v v':AV}{hr hr':AE}(hm:MX.mode f = { fresh:=true })(he:MX.eff f=none)(ha:args.all AV.AA=true)(hv:v.AA=false)(hsn:snap C0 v hr=some (v',hr'))(hv':v'.AA=true)(hc:AJ MX f args []=some (.ret v,hr))(h:AE) :
 AH MX (AG MX) f args h=some (.ret v',h):=by
 have hs:∀{l:List AV} {h:AE},l.all AV.AA=true->Aq l h=some (l,h):=by
  intro l;induction l with
  | nil=>intro h _;rfl
  | cons a r ih=>
   intro h hn;simp only[Hk,Ba]at hn;simp only[Aq,hn.1,ih hn.2]
 unfold AH;simp only[hm,hs ha,ha,I0 he hc,Cm,hv,hsn,hv']
theorem UL(n lo hi:Int)(h:AE):AJ MX 104 [.int .i64 n,.int .i64 lo,.int .i64 hi] h=some (.ret (.bool (decide (lo<=n/\n<=hi))),h):=by
 by_cases h1:lo<=n <;> by_cases h2:n<=hi <;> simp[AJ,f104,h1,h2]
theorem UM(n lo hi:Int)(h:AE):AJ MX 181 [.int .i64 n,.int .i64 lo,.int .i64 hi] h=some (.ret (.bool (decide (lo<=n/\n<=hi))),h):=by
 by_cases h1:lo<=n <;> by_cases h2:n<=hi <;> simp[AJ,f181,h1,h2]
theorem UN(n lo hi:Int)(h:AE):AJ MX 196 [.int .i64 n,.int .i64 lo,.int .i64 hi] h=some (.ret (.bool (decide (lo<=n/\n<=hi))),h):=by
 by_cases h1:lo<=n <;> by_cases h2:n<=hi <;> simp[AJ,f196,h1,h2]
@[simp] theorem c104(n lo hi:Int)(h:AE):AH MX (AG MX) 104 [.int .i64 n,.int .i64 lo,.int .i64 hi] h=some (.ret (.bool (decide (lo<=n/\n<=hi))),h):=Ae Yg cN rfl rfl (UL n lo hi []) h
@[simp] theorem c181(n lo hi:Int)(h:AE):AH MX (AG MX) 181 [.int .i64 n,.int .i64 lo,.int .i64 hi] h=some (.ret (.bool (decide (lo<=n/\n<=hi))),h):=Ae Y8 dE rfl rfl (UM n lo hi []) h
@[simp] theorem PJ(n lo hi:Int)(h:AE):AH MX (AG MX) 196 [.int .i64 n,.int .i64 lo,.int .i64 hi] h=some (.ret (.bool (decide (lo<=n/\n<=hi))),h):=Ae ZH dN rfl rfl (UN n lo hi []) h
theorem t111(b:Bool)(e:Int)(h:AE):AJ MX 111 [.bool b,.int .i64 e] h=some (.ret (.int .i64 (if b then 0 else e)),h):=by
 cases b <;> simp[AJ,f111]
theorem t215(b:Bool)(e:Int)(h:AE):AJ MX 215 [.bool b,.int .i64 e] h=some (.ret (.int .i64 (if b then 0 else e)),h):=by
 cases b <;> simp[AJ,Tryz.f215]
@[simp] theorem c111(b:Bool)(e:Int)(h:AE):AH MX (AG MX) 111 [.bool b,.int .i64 e] h=some (.ret (.int .i64 (if b then 0 else e)),h):=Ae Yi cP rfl rfl (t111 b e []) h
@[simp] theorem Mq(b:Bool)(e:Int)(h:AE):AH MX (AG MX) 215 [.bool b,.int .i64 e] h=some (.ret (.int .i64 (if b then 0 else e)),h):=Ae ZO dV rfl rfl (t215 b e []) h
theorem iw(n:Int)(h:AE):AJ MX 155 [.int .i64 n] h=some (.ret (.bool (decide (1<=n/\n<=16))),h):=by
 simp[AJ,f155]
@[simp] theorem c155(n:Int)(h:AE):AH MX (AG MX) 155 [.int .i64 n] h=some (.ret (.bool (decide (1<=n/\n<=16))),h):=Ae Yv cr rfl rfl (iw n []) h
def ints(l:List Int):List (List AV):=l.map fun e=>[AV.int .i64 e]
def Al:List Int->Int
 | []=>0
 | e::r=>if e=0 then Al r else e
theorem MD{l:List Int}{i:Nat}(hi:i<l.length):Al (l.drop i)=if l[i]=0 then Al (l.drop (i+1))else l[i]:=by
 rw[EJ hi];rfl
theorem t97(l:List Int)(ex:Bool)(hl:l.length<1048577)(h:AE):AJ MX 97 [.sl 1 ex (ints l)] h=some (.ret (.int .i64 (Al l)),h):=by
 obtain⟨e,st,hlp,hq⟩:=AQ (M:=MX) (fid:=97) (N:=15) (C:=AG MX) (c:=AL f97 0) (n:=l.length) (fun i (_:Unit)=>([(5,.sl 1 ex (ints l)),(6,.int .i64 l.length),(7,.int .i64 i)],h)) (fun i _=>Al l=Al (l.drop i))
  (fun r=>(r=(.ext 0,([(5,.sl 1 ex (ints l)),(6,.int .i64 l.length),(7,.int .i64 l.length),(8,.bool false)],h))/\Al l=0)\/(r=(.ret,([(2,.int .i64 (Al l))],h)))) (fun i b hi hI=>by
    have hi':((i:Int)<(l.length:Int)):=(by omega);have hw:wr .i64 ((i:Int)+1)=(i:Int)+1:=BU (by omega) (by omega);have hx:=ID i 1 ex (ints l) .i64 (by simpa[ints]using hi);have he:(ints l)[i]'(by simpa[ints]using hi)=[.int .i64 l[i]]:=(by simp[ints]);rw[he]at hx;have hd:=MD hi;by_cases h0:l[i]=0
    .exact .inl ⟨(),by simp[f97,hi',hx,h0,hw],by rw[hI,hd,if_pos h0]⟩
    .have hne:(l[i] != 0)=true:=(by simp[h0]);rw[if_neg h0]at hd;exact .inr ⟨_,_,by simp[f97,hi',hx,hne] <;> exact⟨rfl,rfl⟩,by simp,.inr (by rw[hI,hd])⟩) (fun b hI=>by
    refine⟨_,_,by simp[f97] <;> exact⟨rfl,rfl⟩,by simp,.inl ⟨rfl,?_⟩⟩;rw[hI,DD];rfl) () (by simp)
 simp[f97]at hlp;rcases hq with⟨hq,ha⟩ | hq <;> cases hq
 .simp[AJ,f97,ints,hlp,ha];simp only[ints]at hlp;simp[hlp]
 .simp[AJ,f97,ints];simp only[ints]at hlp;simp[hlp]
theorem c97(l:List Int)(ex:Bool)(hl:l.length<1048577)(h:AE):AH MX (AG MX) 97 [.sl 1 ex (ints l)] h=some (.ret (.int .i64 (Al l)),h):=Ae cJ iM rfl rfl (t97 l ex hl []) h
@[simp] theorem c97_2(a b:Int)(ex:Bool)(h:AE):AH MX (AG MX) 97 [.sl 1 ex [[.int .i64 a],[.int .i64 b]]] h=some (.ret (.int .i64 (Al [a,b])),h):=c97 [a,b] ex (by simp) h
@[simp] theorem c97_3(a b c:Int)(ex:Bool)(h:AE):AH MX (AG MX) 97 [.sl 1 ex [[.int .i64 a],[.int .i64 b],[.int .i64 c]]] h=some (.ret (.int .i64 (Al [a,b,c])),h):=c97 [a,b,c] ex (by simp) h
theorem t217(l:List Int)(ex:Bool)(hl:l.length<1048577)(h:AE):AJ MX 217 [.sl 1 ex (ints l)] h=some (.ret (.int .i64 (Al l)),h):=by
 obtain⟨e,st,hlp,hq⟩:=AQ (M:=MX) (fid:=217) (N:=15) (C:=AG MX) (c:=AL f217 0) (n:=l.length) (fun i (_:Unit)=>([(5,.sl 1 ex (ints l)),(6,.int .i64 l.length),(7,.int .i64 i)],h)) (fun i _=>Al l=Al (l.drop i))
  (fun r=>(r=(.ext 0,([(5,.sl 1 ex (ints l)),(6,.int .i64 l.length),(7,.int .i64 l.length),(8,.bool false)],h))/\Al l=0)\/(r=(.ret,([(2,.int .i64 (Al l))],h)))) (fun i b hi hI=>by
    have hi':((i:Int)<(l.length:Int)):=(by omega);have hw:wr .i64 ((i:Int)+1)=(i:Int)+1:=BU (by omega) (by omega);have hx:=ID i 1 ex (ints l) .i64 (by simpa[ints]using hi);have he:(ints l)[i]'(by simpa[ints]using hi)=[.int .i64 l[i]]:=(by simp[ints]);rw[he]at hx;have hd:=MD hi;by_cases h0:l[i]=0
    .exact .inl ⟨(),by simp[f217,hi',hx,h0,hw],by rw[hI,hd,if_pos h0]⟩
    .have hne:(l[i] != 0)=true:=(by simp[h0]);rw[if_neg h0]at hd;exact .inr ⟨_,_,by simp[f217,hi',hx,hne] <;> exact⟨rfl,rfl⟩,by simp,.inr (by rw[hI,hd])⟩) (fun b hI=>by
    refine⟨_,_,by simp[f217] <;> exact⟨rfl,rfl⟩,by simp,.inl ⟨rfl,?_⟩⟩;rw[hI,DD];rfl) () (by simp)
 simp[f217]at hlp;rcases hq with⟨hq,ha⟩ | hq <;> cases hq
 .simp[AJ,f217,ints,hlp,ha];simp only[ints]at hlp;simp[hlp]
 .simp[AJ,f217,ints];simp only[ints]at hlp;simp[hlp]
theorem c217(l:List Int)(ex:Bool)(hl:l.length<1048577)(h:AE):AH MX (AG MX) 217 [.sl 1 ex (ints l)] h=some (.ret (.int .i64 (Al l)),h):=Ae ZP dW rfl rfl (t217 l ex hl []) h
@[simp] theorem c217_2(a b:Int)(ex:Bool)(h:AE):AH MX (AG MX) 217 [.sl 1 ex [[.int .i64 a],[.int .i64 b]]] h=some (.ret (.int .i64 (Al [a,b])),h):=c217 [a,b] ex (by simp) h
def I1(i:Nat)(n:Nat):Bool:=(decide (97<=n/\n<=122)||decide (65<=n/\n<=90))||(decide (i≠0)&&(decide (n=95)||decide (48<=n/\n<=57)))
def Hl:Nat->Bytes->Bool
 | _,[]=>true
 | i,b::r=>I1 i b.toNat&&Hl (i+1) r
def BM(s:Bytes):Bool:=decide (1<=s.length/\s.length<=16)&&Hl 0 s
theorem LP{s:Bytes}{i:Nat}(hi:i<s.length):Hl i (s.drop i)=(I1 i s[i].toNat&&Hl (i+1) (s.drop (i+1))):=by
 rw[EJ hi];rfl
theorem nine0(n:Nat):n<48\/(48<=n/\n<=57)\/(57<n/\n<65)\/(65<=n/\n<=90)\/(90<n/\n<95)\/n=95\/n=96\/(97<=n/\n<=122)\/122<n:=by omega
theorem nine(n:Nat):(¬ (97<=n)/\n<=122/\¬ (65<=n)/\n<=90/\¬ (n=95)/\n<48/\¬ (57<n))\/(¬ (97<=n)/\n<=122/\¬ (65<=n)/\n<=90/\¬ (n=95)/\¬ (n<48)/\¬ (57<n))\/(¬ (97<=n)/\n<=122/\¬ (65<=n)/\n<=90/\¬ (n=95)/\¬ (n<48)/\57<n)\/(¬ (97<=n)/\n<=122/\65<=n/\n<=90/\¬ (n=95)/\¬ (n<48)/\57<n)\/(¬ (97<=n)/\n<=122/\65<=n/\¬ (n<=90)/\¬ (n=95)/\¬ (n<48)/\57<n)\/(¬ (97<=n)/\n<=122/\65<=n/\¬ (n<=90)/\n=95/\¬ (n<48)/\57<n)\/(¬ (97<=n)/\n<=122/\65<=n/\¬ (n<=90)/\¬ (n=95)/\¬ (n<48)/\57<n)\/(97<=n/\n<=122/\65<=n/\¬ (n<=90)/\¬ (n=95)/\¬ (n<48)/\57<n)\/(97<=n/\¬ (n<=122)/\65<=n/\¬ (n<=90)/\¬ (n=95)/\¬ (n<48)/\57<n):=by
 rcases nine0 n with h | h | h | h | h | h | h | h | h
 .exact .inl (by and_intros <;> omega)
 .exact .inr (.inl (by and_intros <;> omega))
 .exact .inr (.inr (.inl (by and_intros <;> omega)))
 .exact .inr (.inr (.inr (.inl (by and_intros <;> omega))))
 .exact .inr (.inr (.inr (.inr (.inl (by and_intros <;> omega)))))
 .exact .inr (.inr (.inr (.inr (.inr (.inl (by and_intros <;> omega))))))
 .exact .inr (.inr (.inr (.inr (.inr (.inr (.inl (by and_intros <;> omega)))))))
 .exact .inr (.inr (.inr (.inr (.inr (.inr (.inr (.inl (by and_intros <;> omega))))))))
 .exact .inr (.inr (.inr (.inr (.inr (.inr (.inr (.inr ((by and_intros <;> omega)))))))))
theorem t157(s:Bytes)(hs:s.length<1048577)(h:AE):AJ MX 157 [.str s] h=some (.ret (.bool (BM s)),h):=by
 by_cases hl:1<=s.length/\s.length<=16
 .obtain⟨e,st,hlp,hq⟩:=AQ (M:=MX) (fid:=157) (N:=55) (C:=AG MX) (c:=AL f157 0) (n:=s.length) (fun i (_:Unit)=>([(0,.str s),(3,.int .i64 i)],h)) (fun i _=>Hl 0 s=Hl i (s.drop i))
   (fun r=>(r=(.ext 0,([(0,.str s),(3,.int .i64 s.length),(17,.bool false)],h))/\Hl 0 s=true)\/(r=(.ret,([(2,.bool false)],h))/\Hl 0 s=false)) (fun i b hi hI=>by
   obtain⟨n,hn⟩:∃ n,n=s[i].toNat:=⟨_,rfl⟩;have hd:=LP hi;rw[<- hn]at hd;have hw:wr .i64 ((i:Int)+1)=(i:Int)+1:=BU (by omega) (by omega);have hi':((i:Int)<(s.length:Int)):=(by omega);have key:(I1 i n=true/\AX MX 157 55 (AG MX) (AL f157 0) ([(0,AV.str s),(3,AV.int .i64 i)],h)=some (.nrm,([(0,AV.str s),(3,AV.int .i64 ((i:Int)+1))],h)))\/(I1 i n=false/\AX MX 157 55 (AG MX) (AL f157 0) ([(0,AV.str s),(3,AV.int .i64 i)],h)=some (.ret,([(2,.bool false)],h))):=by
    have hc:∀ k:Nat,((k:Int)<=(n:Int)↔k<=n)/\((n:Int)<=(k:Int)↔n<=k)/\((n:Int)<(k:Int)↔n<k)/\((k:Int)<(n:Int)↔k<n)/\((n:Int)=(k:Int)↔n=k):=fun k=>by omega
    have c1:=(hc 97).1;have c2:=(hc 122).2.1;have c3:=(hc 65).1;have c4:=(hc 90).2.1;have c5:=(hc 95).2.2.2.2;have c6:=(hc 48).2.2.1;have c7:=(hc 57).2.2.2.1;simp only[Int.cast_ofNat_Int]at c1 c2 c3 c4 c5 c6 c7;have hc5:((n:Int) != 95)=decide (n≠95):=(by rw[Js];simp[c5]);by_cases h0:i=0
    .have e0:((i:Int) == 0)=true:=(by simp[h0]);rcases nine n with⟨p0,p1,p2,p3,p4,p5,p6⟩ | ⟨p0,p1,p2,p3,p4,p5,p6⟩ | ⟨p0,p1,p2,p3,p4,p5,p6⟩ | ⟨p0,p1,p2,p3,p4,p5,p6⟩ | ⟨p0,p1,p2,p3,p4,p5,p6⟩ | ⟨p0,p1,p2,p3,p4,p5,p6⟩ | ⟨p0,p1,p2,p3,p4,p5,p6⟩ | ⟨p0,p1,p2,p3,p4,p5,p6⟩ | ⟨p0,p1,p2,p3,p4,p5,p6⟩ <;> first | (apply Or.inl;apply And.intro;(focus simp only[I1,h0,p0,p1,p2,p3,p4];simp;try omega;done);(focus simp[f157,<- hn,hi',hc5,e0,c1,c2,c3,c4,c5,c6,c7,p0,p1,p2,p3,p4,p5,p6,hw,NT _ .i64 _ hi];done)) | (apply Or.inr;apply And.intro;(focus simp only[I1,h0,p0,p1,p2,p3,p4];simp;try omega;done);(focus simp[f157,<- hn,hi',hc5,e0,c1,c2,c3,c4,c5,c6,c7,p0,p1,p2,p3,p4,p5,p6,hw,NT _ .i64 _ hi];done))
    .have e0:((i:Int) == 0)=false:=(by simp;omega);rcases nine n with⟨p0,p1,p2,p3,p4,p5,p6⟩ | ⟨p0,p1,p2,p3,p4,p5,p6⟩ | ⟨p0,p1,p2,p3,p4,p5,p6⟩ | ⟨p0,p1,p2,p3,p4,p5,p6⟩ | ⟨p0,p1,p2,p3,p4,p5,p6⟩ | ⟨p0,p1,p2,p3,p4,p5,p6⟩ | ⟨p0,p1,p2,p3,p4,p5,p6⟩ | ⟨p0,p1,p2,p3,p4,p5,p6⟩ | ⟨p0,p1,p2,p3,p4,p5,p6⟩ <;> first | (apply Or.inl;apply And.intro;(focus simp only[I1,h0,p0,p1,p2,p3,p4];simp;try omega;done);(focus simp[f157,<- hn,hi',hc5,e0,c1,c2,c3,c4,c5,c6,c7,p0,p1,p2,p3,p4,p5,p6,hw,NT _ .i64 _ hi];done)) | (apply Or.inr;apply And.intro;(focus simp only[I1,h0,p0,p1,p2,p3,p4];simp;try omega;done);(focus simp[f157,<- hn,hi',hc5,e0,c1,c2,c3,c4,c5,c6,c7,p0,p1,p2,p3,p4,p5,p6,hw,NT _ .i64 _ hi];done))
   rcases key with⟨h1,h2⟩ | ⟨h1,h2⟩
   .exact .inl ⟨(),h2,by rw[hI,hd,h1,Jf]⟩
   .exact .inr ⟨_,_,h2,by simp,.inr ⟨rfl,by rw[hI,hd,h1,Ln]⟩⟩) (fun b hI=>by
   refine⟨_,_,by simp[f157] <;> exact⟨rfl,rfl⟩,by simp,.inl ⟨rfl,?_⟩⟩;rw[hI,DD];rfl) () (by simp)
  have hl1:¬ ((s.length:Int)<1):=by omega
  have hl2:¬ (16<(s.length:Int)):=by omega
  simp[f157]at hlp;rcases hq with⟨hq,ha⟩ | ⟨hq,ha⟩ <;> cases hq <;> simp[AJ,f157,hlp,hl1,hl2,BM,ha,hl]
 .have hl':BM s=false:=by simp[BM];intro h1 h2;exact absurd ⟨h1,h2⟩ hl
  by_cases h1:s.length<1
  .have:((s.length:Int)<1):=(by omega);simp[AJ,f157,this,hl']
  .have h1':¬ ((s.length:Int)<1):=(by omega);have h2:(16<(s.length:Int)):=(by omega);simp[AJ,f157,h1',h2,hl']
@[simp] theorem Z2(s:Bytes)(hs:s.length<1048577)(h:AE):AH MX (AG MX) 157 [.str s] h=some (.ret (.bool (BM s)),h):=Ae Yx cw rfl rfl (t157 s hs []) h
theorem t180(s:Bytes)(hs:s.length<1048577):AJ MX 180 [.str s] []=some (.ret (.bool (BM s)),[.arr 1 false (DZ s)]):=by
 obtain⟨e,st,hlp,hq⟩:=AQ (M:=MX) (fid:=180) (N:=50) (C:=AG MX) (c:=AL f180 0) (n:=s.length) (fun i (_:Unit)=>([(0,.str s),(7,.hs 0 s.length 1 0 s.length false),(8,.int .i64 s.length),(9,.int .i64 i)],[.arr 1 false (DZ s)])) (fun i _=>Hl 0 s=Hl i (s.drop i))
  (fun r=>(r=(.ext 0,([(0,.str s),(7,.hs 0 s.length 1 0 s.length false),(8,.int .i64 s.length),(9,.int .i64 s.length),(10,.bool false)],[.arr 1 false (DZ s)]))/\Hl 0 s=true)\/(r=(.ret,([(2,.bool false)],[.arr 1 false (DZ s)]))/\Hl 0 s=false)) (fun i b hi hI=>by
  obtain⟨n,hn⟩:∃ n,n=s[i].toNat:=⟨_,rfl⟩;have hd:=LP hi;rw[<- hn]at hd;have hw:wr .i64 ((i:Int)+1)=(i:Int)+1:=BU (by omega) (by omega);have hi':((i:Int)<(s.length:Int)):=by omega
  have key:(I1 i n=true/\AX MX 180 50 (AG MX) (AL f180 0) ([(0,AV.str s),(7,AV.hs 0 s.length 1 0 s.length false),(8,AV.int .i64 s.length),(9,AV.int .i64 i)],[.arr 1 false (DZ s)])=some (.nrm,([(0,AV.str s),(7,AV.hs 0 s.length 1 0 s.length false),(8,AV.int .i64 s.length),(9,AV.int .i64 ((i:Int)+1))],[.arr 1 false (DZ s)])))\/(I1 i n=false/\AX MX 180 50 (AG MX) (AL f180 0) ([(0,AV.str s),(7,AV.hs 0 s.length 1 0 s.length false),(8,AV.int .i64 s.length),(9,AV.int .i64 i)],[.arr 1 false (DZ s)])=some (.ret,([(2,.bool false)],[.arr 1 false (DZ s)]))):=by
   have hc:∀ k:Nat,((k:Int)<=(n:Int)↔k<=n)/\((n:Int)<=(k:Int)↔n<=k)/\((n:Int)<(k:Int)↔n<k)/\((k:Int)<(n:Int)↔k<n)/\((n:Int)=(k:Int)↔n=k):=fun k=>by omega
   have c1:=(hc 97).1;have c2:=(hc 122).2.1;have c3:=(hc 65).1;have c4:=(hc 90).2.1;have c5:=(hc 95).2.2.2.2;have c6:=(hc 48).2.2.1;have c7:=(hc 57).2.2.2.1;simp only[Int.cast_ofNat_Int]at c1 c2 c3 c4 c5 c6 c7;have hc5:((n:Int) != 95)=decide (n≠95):=(by rw[Js];simp[c5]);by_cases h0:i=0
   .have e0:((i:Int) == 0)=true:=(by simp[h0]);rcases nine n with⟨p0,p1,p2,p3,p4,p5,p6⟩ | ⟨p0,p1,p2,p3,p4,p5,p6⟩ | ⟨p0,p1,p2,p3,p4,p5,p6⟩ | ⟨p0,p1,p2,p3,p4,p5,p6⟩ | ⟨p0,p1,p2,p3,p4,p5,p6⟩ | ⟨p0,p1,p2,p3,p4,p5,p6⟩ | ⟨p0,p1,p2,p3,p4,p5,p6⟩ | ⟨p0,p1,p2,p3,p4,p5,p6⟩ | ⟨p0,p1,p2,p3,p4,p5,p6⟩ <;> first | (apply Or.inl;apply And.intro;(focus simp only[I1,h0,p0,p1,p2,p3,p4];simp;try omega;done);(focus simp[f180,<- hn,hi',hc5,e0,c1,c2,c3,c4,c5,c6,c7,p0,p1,p2,p3,p4,p5,p6,hw,ED i 0 0 s.length 1 s.length false .i64 hi,C9,Ft hi];done)) | (apply Or.inr;apply And.intro;(focus simp only[I1,h0,p0,p1,p2,p3,p4];simp;try omega;done);(focus simp[f180,<- hn,hi',hc5,e0,c1,c2,c3,c4,c5,c6,c7,p0,p1,p2,p3,p4,p5,p6,hw,ED i 0 0 s.length 1 s.length false .i64 hi,C9,Ft hi];done))
   .have e0:((i:Int) == 0)=false:=(by simp;omega);rcases nine n with⟨p0,p1,p2,p3,p4,p5,p6⟩ | ⟨p0,p1,p2,p3,p4,p5,p6⟩ | ⟨p0,p1,p2,p3,p4,p5,p6⟩ | ⟨p0,p1,p2,p3,p4,p5,p6⟩ | ⟨p0,p1,p2,p3,p4,p5,p6⟩ | ⟨p0,p1,p2,p3,p4,p5,p6⟩ | ⟨p0,p1,p2,p3,p4,p5,p6⟩ | ⟨p0,p1,p2,p3,p4,p5,p6⟩ | ⟨p0,p1,p2,p3,p4,p5,p6⟩ <;> first | (apply Or.inl;apply And.intro;(focus simp only[I1,h0,p0,p1,p2,p3,p4];simp;try omega;done);(focus simp[f180,<- hn,hi',hc5,e0,c1,c2,c3,c4,c5,c6,c7,p0,p1,p2,p3,p4,p5,p6,hw,ED i 0 0 s.length 1 s.length false .i64 hi,C9,Ft hi];done)) | (apply Or.inr;apply And.intro;(focus simp only[I1,h0,p0,p1,p2,p3,p4];simp;try omega;done);(focus simp[f180,<- hn,hi',hc5,e0,c1,c2,c3,c4,c5,c6,c7,p0,p1,p2,p3,p4,p5,p6,hw,ED i 0 0 s.length 1 s.length false .i64 hi,C9,Ft hi];done))
  rcases key with⟨h1,h2⟩ | ⟨h1,h2⟩
  .exact .inl ⟨(),h2,by rw[hI,hd,h1,Jf]⟩
  .exact .inr ⟨_,_,h2,by simp,.inr ⟨rfl,by rw[hI,hd,h1,Ln]⟩⟩) (fun b hI=>by
  refine⟨_,_,by simp[f180] <;> exact⟨rfl,rfl⟩,by simp,.inl ⟨rfl,?_⟩⟩;rw[hI,DD];rfl) () (by simp)
 simp[f180]at hlp;have hlen:decide ((1:Int)<=s.length/\(s.length:Int)<=16)=decide (1<=s.length/\s.length<=16):=by rw[Js];simp;omega
 rcases hq with⟨hq,ha⟩ | ⟨hq,ha⟩ <;> cases hq <;> simp[AJ,f180,hlp,cvB,Aw,C9,c181,BM,ha,hlen]
theorem t268(s:Bytes)(hs:s.length<1048577):AJ MX 268 [.str s] []=some (.ret (.bool (BM s)),[.arr 1 false (DZ s)]):=by
 obtain⟨e,st,hlp,hq⟩:=AQ (M:=MX) (fid:=268) (N:=50) (C:=AG MX) (c:=AL f268 0) (n:=s.length) (fun i (_:Unit)=>([(0,.str s),(7,.hs 0 s.length 1 0 s.length false),(8,.int .i64 s.length),(9,.int .i64 i)],[.arr 1 false (DZ s)])) (fun i _=>Hl 0 s=Hl i (s.drop i))
  (fun r=>(r=(.ext 0,([(0,.str s),(7,.hs 0 s.length 1 0 s.length false),(8,.int .i64 s.length),(9,.int .i64 s.length),(10,.bool false)],[.arr 1 false (DZ s)]))/\Hl 0 s=true)\/(r=(.ret,([(2,.bool false)],[.arr 1 false (DZ s)]))/\Hl 0 s=false)) (fun i b hi hI=>by
  obtain⟨n,hn⟩:∃ n,n=s[i].toNat:=⟨_,rfl⟩;have hd:=LP hi;rw[<- hn]at hd;have hw:wr .i64 ((i:Int)+1)=(i:Int)+1:=BU (by omega) (by omega);have hi':((i:Int)<(s.length:Int)):=by omega
  have key:(I1 i n=true/\AX MX 268 50 (AG MX) (AL f268 0) ([(0,AV.str s),(7,AV.hs 0 s.length 1 0 s.length false),(8,AV.int .i64 s.length),(9,AV.int .i64 i)],[.arr 1 false (DZ s)])=some (.nrm,([(0,AV.str s),(7,AV.hs 0 s.length 1 0 s.length false),(8,AV.int .i64 s.length),(9,AV.int .i64 ((i:Int)+1))],[.arr 1 false (DZ s)])))\/(I1 i n=false/\AX MX 268 50 (AG MX) (AL f268 0) ([(0,AV.str s),(7,AV.hs 0 s.length 1 0 s.length false),(8,AV.int .i64 s.length),(9,AV.int .i64 i)],[.arr 1 false (DZ s)])=some (.ret,([(2,.bool false)],[.arr 1 false (DZ s)]))):=by
   have hc:∀ k:Nat,((k:Int)<=(n:Int)↔k<=n)/\((n:Int)<=(k:Int)↔n<=k)/\((n:Int)<(k:Int)↔n<k)/\((k:Int)<(n:Int)↔k<n)/\((n:Int)=(k:Int)↔n=k):=fun k=>by omega
   have c1:=(hc 97).1;have c2:=(hc 122).2.1;have c3:=(hc 65).1;have c4:=(hc 90).2.1;have c5:=(hc 95).2.2.2.2;have c6:=(hc 48).2.2.1;have c7:=(hc 57).2.2.2.1;simp only[Int.cast_ofNat_Int]at c1 c2 c3 c4 c5 c6 c7;have hc5:((n:Int) != 95)=decide (n≠95):=(by rw[Js];simp[c5]);by_cases h0:i=0
   .have e0:((i:Int) == 0)=true:=(by simp[h0]);rcases nine n with⟨p0,p1,p2,p3,p4,p5,p6⟩ | ⟨p0,p1,p2,p3,p4,p5,p6⟩ | ⟨p0,p1,p2,p3,p4,p5,p6⟩ | ⟨p0,p1,p2,p3,p4,p5,p6⟩ | ⟨p0,p1,p2,p3,p4,p5,p6⟩ | ⟨p0,p1,p2,p3,p4,p5,p6⟩ | ⟨p0,p1,p2,p3,p4,p5,p6⟩ | ⟨p0,p1,p2,p3,p4,p5,p6⟩ | ⟨p0,p1,p2,p3,p4,p5,p6⟩ <;> first | (apply Or.inl;apply And.intro;(focus simp only[I1,h0,p0,p1,p2,p3,p4];simp;try omega;done);(focus simp[f268,<- hn,hi',hc5,e0,c1,c2,c3,c4,c5,c6,c7,p0,p1,p2,p3,p4,p5,p6,hw,ED i 0 0 s.length 1 s.length false .i64 hi,C9,Ft hi];done)) | (apply Or.inr;apply And.intro;(focus simp only[I1,h0,p0,p1,p2,p3,p4];simp;try omega;done);(focus simp[f268,<- hn,hi',hc5,e0,c1,c2,c3,c4,c5,c6,c7,p0,p1,p2,p3,p4,p5,p6,hw,ED i 0 0 s.length 1 s.length false .i64 hi,C9,Ft hi];done))
   .have e0:((i:Int) == 0)=false:=(by simp;omega);rcases nine n with⟨p0,p1,p2,p3,p4,p5,p6⟩ | ⟨p0,p1,p2,p3,p4,p5,p6⟩ | ⟨p0,p1,p2,p3,p4,p5,p6⟩ | ⟨p0,p1,p2,p3,p4,p5,p6⟩ | ⟨p0,p1,p2,p3,p4,p5,p6⟩ | ⟨p0,p1,p2,p3,p4,p5,p6⟩ | ⟨p0,p1,p2,p3,p4,p5,p6⟩ | ⟨p0,p1,p2,p3,p4,p5,p6⟩ | ⟨p0,p1,p2,p3,p4,p5,p6⟩ <;> first | (apply Or.inl;apply And.intro;(focus simp only[I1,h0,p0,p1,p2,p3,p4];simp;try omega;done);(focus simp[f268,<- hn,hi',hc5,e0,c1,c2,c3,c4,c5,c6,c7,p0,p1,p2,p3,p4,p5,p6,hw,ED i 0 0 s.length 1 s.length false .i64 hi,C9,Ft hi];done)) | (apply Or.inr;apply And.intro;(focus simp only[I1,h0,p0,p1,p2,p3,p4];simp;try omega;done);(focus simp[f268,<- hn,hi',hc5,e0,c1,c2,c3,c4,c5,c6,c7,p0,p1,p2,p3,p4,p5,p6,hw,ED i 0 0 s.length 1 s.length false .i64 hi,C9,Ft hi];done))
  rcases key with⟨h1,h2⟩ | ⟨h1,h2⟩
  .exact .inl ⟨(),h2,by rw[hI,hd,h1,Jf]⟩
  .exact .inr ⟨_,_,h2,by simp,.inr ⟨rfl,by rw[hI,hd,h1,Ln]⟩⟩) (fun b hI=>by
  refine⟨_,_,by simp[f268] <;> exact⟨rfl,rfl⟩,by simp,.inl ⟨rfl,?_⟩⟩;rw[hI,DD];rfl) () (by simp)
 simp[f268]at hlp;have hlen:decide ((1:Int)<=s.length/\(s.length:Int)<=16)=decide (1<=s.length/\s.length<=16):=by rw[Js];simp;omega
 rcases hq with⟨hq,ha⟩ | ⟨hq,ha⟩ <;> cases hq <;> simp[AJ,f268,hlp,cvB,Aw,C9,PJ,BM,ha,hlen]
@[simp] theorem c180(s:Bytes)(hs:s.length<1048577)(h:AE):AH MX (AG MX) 180 [.str s] h=some (.ret (.bool (BM s)),h):=Ae Y7 dD rfl rfl (t180 s hs) h
@[simp] theorem c268(s:Bytes)(hs:s.length<1048577)(h:AE):AH MX (AG MX) 268 [.str s] h=some (.ret (.bool (BM s)),h):=Ae Zl dw rfl rfl (t268 s hs) h
theorem FH{α:Type}{p:α->Bool}{l:List α}{i:Nat}(hi:i<l.length)(h:∀ j (hj:j<l.length),j<i->p l[j]=false)(hp:p l[i]=true):l.findIdx? p=some i:=by
 rw[Gr];exact⟨hi,hp,fun j hj=>by simp[h j (by omega) hj]⟩
theorem FI{α:Type}{p:α->Bool}{l:List α}(h:∀ j (hj:j<l.length),p l[j]=false):l.findIdx? p=none:=by
 rw[Nh];intro x hx;obtain⟨j,hj,rfl⟩:=Gt hx;exact h j hj
theorem FJ{α:Type}{p:α->Bool}{l:List α}{i:Nat}(hi:i<l.length)(h:∀ j (hj:j<l.length),j<i->p l[j]=false)(hp:p l[i]=false):∀ j (hj:j<l.length),j<i+1->p l[j]=false:=fun j hj h0=>by
 by_cases hji:j=i
 .subst hji;exact hp
 .exact h j hj (by omega)
def ixI:Option Nat->Int
 | some i=>i
 | none => -1
theorem Ah.dest{d:AK}{xs:List AV}(h:Ah d xs):∃ pv cv,xs=[.str d.nm,pv,cv]/\SlR C2 1 d.params pv/\SlR Ed 2 d.cons cv:=h
theorem Ed.dest{c:CZ}{xs:List AV}(h:Ed c xs):∃ fv,xs=[.str c.nm,fv]/\SlR Bw 5 c.fields fv:=h
theorem AU.AY{t:TyV}{xs:List AV}(h:AU t xs):∃ pv,xs=[.int .i64 t.k,.int .i64 t.v,.str t.nm,pv]/\SlR AU 4 t.ps pv:=by
 cases t with
 | mk k v nm ps=>exact h.dest
theorem Bw.dest{f:DB}{xs:List AV}(h:Bw f xs):∃ pv,xs=[.str f.nm,.int .i64 f.ty.k,.int .i64 f.ty.v,.str f.ty.nm,pv]/\SlR AU 4 f.ty.ps pv:=by
 obtain⟨tx,rfl,ht⟩:=h;obtain⟨pv,rfl,hp⟩:=ht.AY;exact⟨pv,rfl,hp⟩
theorem AZ{i n:Nat}(hi:i<n)(hn:n<1048577):wr .i64 ((i:Int)+1)=(i:Int)+1:=BU (by omega) (by omega)
theorem Aa{i n:Nat}(hi:i<n):((i:Int)<(n:Int)):=by omega
theorem t89(l:List Bytes)(v:AV)(s:Bytes)(hv:SlR C2 1 l v)(hl:l.length<1048577)(h:AE):AJ MX 89 [v,.str s] h=some (.ret (.bool (l.findIdx? (fun x:Bytes=>x == s)).isSome),h):=by
 obtain⟨e,st,hlp,hq⟩:=AQ (M:=MX) (fid:=89) (N:=18) (C:=AG MX) (c:=AL f89 0) (n:=l.length) (fun i (_:Unit)=>([(0,v),(1,.str s),(5,.int .i64 i)],h)) (fun i _=>∀ j (hj:j<l.length),j<i->(fun x:Bytes=>x == s) l[j]=false)
  (fun r=>(r=(.ext 0,([(0,v),(1,.str s),(5,.int .i64 l.length),(9,.bool false)],h))/\l.findIdx? (fun x:Bytes=>x == s)=none)\/(∃ i:Nat,r=(.ret,([(4,.bool true)],h))/\l.findIdx? (fun x:Bytes=>x == s)=some i)) (fun i b hi hI=>by
    obtain⟨e,he,hR⟩:=hv.ix hi;have hi':=Aa hi;have hw:=AZ hi hl;cases hR;cases hx:(l[i] == s)with
    | true=>exact .inr ⟨_,_,by simp only[beq_iff_eq]at hx;simp[f89,hv.len,hi',he,hx] <;> exact⟨rfl,rfl⟩,by simp,.inr ⟨i,rfl,FH (p:=(fun x:Bytes=>x == s)) hi hI hx⟩⟩
    | false=>exact .inl ⟨(),by have hx':=hx;simp only[beq_eq_false_iff_ne,ne_eq]at hx';simp[f89,hv.len,hi',he,hx,hx',hw],FJ (p:=(fun x:Bytes=>x == s)) hi hI hx⟩) (fun b hI=>by
    exact⟨_,_,by simp[f89,hv.len] <;> exact⟨rfl,rfl⟩,by simp,.inl ⟨rfl,FI (p:=(fun x:Bytes=>x == s)) fun j hj=>hI j hj hj⟩⟩) () (fun j _ h0=>by omega)
 simp[f89]at hlp;rcases hq with⟨hq,hs⟩ | ⟨i,hq,hs⟩ <;> cases hq <;> simp[AJ,f89,hlp,hs]
theorem c89{l:List Bytes}{v:AV}(s:Bytes)(hv:SlR C2 1 l v)(hl:l.length<1048577)(h:AE):AH MX (AG MX) 89 [v,.str s] h=some (.ret (.bool (l.findIdx? (fun x:Bytes=>x == s)).isSome),h):=
 Ae cG iJ (by simp[hv.AA,AV.AA]) rfl (t89 l v s hv hl []) h
theorem t118(l:List AK)(v:AV)(s:Bytes)(hv:SlR Ah 3 l v)(hl:l.length<1048577)(h:AE):AJ MX 118 [v,.str s] h=some (.ret (.int .i64 (ixI (l.findIdx? (fun x:AK=>x.nm == s)))),h):=by
 obtain⟨e,st,hlp,hq⟩:=AQ (M:=MX) (fid:=118) (N:=20) (C:=AG MX) (c:=AL f118 0) (n:=l.length) (fun i (_:Unit)=>([(0,v),(1,.str s),(5,.int .i64 i)],h)) (fun i _=>∀ j (hj:j<l.length),j<i->(fun x:AK=>x.nm == s) l[j]=false)
  (fun r=>(r=(.ext 0,([(0,v),(1,.str s),(5,.int .i64 l.length),(9,.bool false)],h))/\l.findIdx? (fun x:AK=>x.nm == s)=none)\/(∃ i:Nat,r=(.ret,([(4,.int .i64 i)],h))/\l.findIdx? (fun x:AK=>x.nm == s)=some i)) (fun i b hi hI=>by
    obtain⟨e,he,hR⟩:=hv.ix hi;have hi':=Aa hi;have hw:=AZ hi hl;obtain⟨pv,cv,rfl,hp,hc⟩:=hR.dest;cases hx:(l[i].nm == s)with
    | true=>exact .inr ⟨_,_,by simp only[beq_iff_eq]at hx;simp[f118,hv.len,hi',he,hx] <;> exact⟨rfl,rfl⟩,by simp,.inr ⟨i,rfl,FH (p:=(fun x:AK=>x.nm == s)) hi hI hx⟩⟩
    | false=>exact .inl ⟨(),by have hx':=hx;simp only[beq_eq_false_iff_ne,ne_eq]at hx';simp[f118,hv.len,hi',he,hx,hx',hw],FJ (p:=(fun x:AK=>x.nm == s)) hi hI hx⟩) (fun b hI=>by
    exact⟨_,_,by simp[f118,hv.len] <;> exact⟨rfl,rfl⟩,by simp,.inl ⟨rfl,FI (p:=(fun x:AK=>x.nm == s)) fun j hj=>hI j hj hj⟩⟩) () (fun j _ h0=>by omega)
 simp[f118]at hlp;rcases hq with⟨hq,hs⟩ | ⟨i,hq,hs⟩ <;> cases hq <;> simp[AJ,f118,hlp,hs,ixI]
theorem c118{l:List AK}{v:AV}(s:Bytes)(hv:SlR Ah 3 l v)(hl:l.length<1048577)(h:AE):AH MX (AG MX) 118 [v,.str s] h=some (.ret (.int .i64 (ixI (l.findIdx? (fun x:AK=>x.nm == s)))),h):=
 Ae Yk cR (by simp[hv.AA,AV.AA]) rfl (t118 l v s hv hl []) h
theorem t72(l:List CZ)(v:AV)(s:Bytes)(hv:SlR Ed 2 l v)(hl:l.length<1048577)(h:AE):AJ MX 72 [v,.str s] h=some (.ret (.int .i64 (ixI (l.findIdx? (fun x:CZ=>x.nm == s)))),h):=by
 obtain⟨e,st,hlp,hq⟩:=AQ (M:=MX) (fid:=72) (N:=20) (C:=AG MX) (c:=AL f72 0) (n:=l.length) (fun i (_:Unit)=>([(0,v),(1,.str s),(5,.int .i64 i)],h)) (fun i _=>∀ j (hj:j<l.length),j<i->(fun x:CZ=>x.nm == s) l[j]=false)
  (fun r=>(r=(.ext 0,([(0,v),(1,.str s),(5,.int .i64 l.length),(9,.bool false)],h))/\l.findIdx? (fun x:CZ=>x.nm == s)=none)\/(∃ i:Nat,r=(.ret,([(4,.int .i64 i)],h))/\l.findIdx? (fun x:CZ=>x.nm == s)=some i)) (fun i b hi hI=>by
    obtain⟨e,he,hR⟩:=hv.ix hi;have hi':=Aa hi;have hw:=AZ hi hl;obtain⟨fv,rfl,hf⟩:=hR.dest;cases hx:(l[i].nm == s)with
    | true=>exact .inr ⟨_,_,by simp only[beq_iff_eq]at hx;simp[f72,hv.len,hi',he,hx] <;> exact⟨rfl,rfl⟩,by simp,.inr ⟨i,rfl,FH (p:=(fun x:CZ=>x.nm == s)) hi hI hx⟩⟩
    | false=>exact .inl ⟨(),by have hx':=hx;simp only[beq_eq_false_iff_ne,ne_eq]at hx';simp[f72,hv.len,hi',he,hx,hx',hw],FJ (p:=(fun x:CZ=>x.nm == s)) hi hI hx⟩) (fun b hI=>by
    exact⟨_,_,by simp[f72,hv.len] <;> exact⟨rfl,rfl⟩,by simp,.inl ⟨rfl,FI (p:=(fun x:CZ=>x.nm == s)) fun j hj=>hI j hj hj⟩⟩) () (fun j _ h0=>by omega)
 simp[f72]at hlp;rcases hq with⟨hq,hs⟩ | ⟨i,hq,hs⟩ <;> cases hq <;> simp[AJ,f72,hlp,hs,ixI]
theorem c72{l:List CZ}{v:AV}(s:Bytes)(hv:SlR Ed 2 l v)(hl:l.length<1048577)(h:AE):AH MX (AG MX) 72 [v,.str s] h=some (.ret (.int .i64 (ixI (l.findIdx? (fun x:CZ=>x.nm == s)))),h):=
 Ae b8 iB (by simp[hv.AA,AV.AA]) rfl (t72 l v s hv hl []) h
theorem t269(l:List Bytes)(v:AV)(s:Bytes)(hv:SlR C2 1 l v)(hl:l.length<1048577)(h:AE):AJ MX 269 [v,.str s] h=some (.ret (.int .i64 (ixI (l.findIdx? (fun x:Bytes=>x == s)))),h):=by
 obtain⟨e,st,hlp,hq⟩:=AQ (M:=MX) (fid:=269) (N:=19) (C:=AG MX) (c:=AL f269 0) (n:=l.length) (fun i (_:Unit)=>([(0,v),(1,.str s),(7,.int .i64 l.length),(8,.int .i64 i)],h)) (fun i _=>∀ j (hj:j<l.length),j<i->(fun x:Bytes=>x == s) l[j]=false)
  (fun r=>(r=(.ext 0,([(0,v),(1,.str s),(7,.int .i64 l.length),(8,.int .i64 l.length),(9,.bool false)],h))/\l.findIdx? (fun x:Bytes=>x == s)=none)\/(∃ i:Nat,r=(.ret,([(4,.int .i64 i)],h))/\l.findIdx? (fun x:Bytes=>x == s)=some i)) (fun i b hi hI=>by
    obtain⟨e,he,hR⟩:=hv.ix hi;have hi':=Aa hi;have hw:=AZ hi hl;cases hR;cases hx:(l[i] == s)with
    | true=>exact .inr ⟨_,_,by simp only[beq_iff_eq]at hx;simp[f269,hv.len,hi',he,hx] <;> exact⟨rfl,rfl⟩,by simp,.inr ⟨i,rfl,FH (p:=(fun x:Bytes=>x == s)) hi hI hx⟩⟩
    | false=>
     have hx':(s == l[i])=false:=(by simp only[beq_eq_false_iff_ne,ne_eq]at hx ⊢;exact fun e=>hx e.symm);exact .inl ⟨(),by simp[f269,hv.len,hi',he,hx',hw],FJ (p:=(fun x:Bytes=>x == s)) hi hI hx⟩) (fun b hI=>by
    exact⟨_,_,by simp[f269,hv.len] <;> exact⟨rfl,rfl⟩,by simp,.inl ⟨rfl,FI (p:=(fun x:Bytes=>x == s)) fun j hj=>hI j hj hj⟩⟩) () (fun j _ h0=>by omega)
 simp[f269]at hlp;rcases hq with⟨hq,hs⟩ | ⟨i,hq,hs⟩ <;> cases hq <;> simp[AJ,f269,hlp,hs,ixI,hv.len]
theorem c269{l:List Bytes}{v:AV}(s:Bytes)(hv:SlR C2 1 l v)(hl:l.length<1048577)(h:AE):AH MX (AG MX) 269 [v,.str s] h=some (.ret (.int .i64 (ixI (l.findIdx? (fun x:Bytes=>x == s)))),h):=
 Ae Zm dy (by simp[hv.AA,AV.AA]) rfl (t269 l v s hv hl []) h
theorem UO(o:Option Nat):decide (0<=ixI o)=o.isSome:=by
 cases o with
 | none=>rfl
 | some i=>simp[ixI]
theorem c260{l:List Bytes}{v:AV}(s:Bytes)(hv:SlR C2 1 l v)(hl:l.length<1048577)(h:AE):AH MX (AG MX) 260 [v,.str s] h=some (.ret (.bool (l.findIdx? (fun x:Bytes=>x == s)).isSome),h):=
 Ae Zh dr (by simp[hv.AA,AV.AA]) rfl (hr:=[]) (by simp[AJ,f260,c269 s hv hl,UO]) h
def De:Bytes:=[66,105,116]
def CW:Bytes:=[66,111,111,108]
def EV(t:TyV):Bool:=decide (t.k=1)&&(t.nm == De)
theorem c66{t:TyV}{xs:List AV}(hx:AU t xs)(h:AE):AH MX (AG MX) 66 [.agg xs] h=some (.ret (.bool (EV t)),h):=by
 have hn:([AV.agg xs]:List AV).all AV.AA=true:=by simp[AV.AA,hx.AF]
 obtain⟨pv,rfl,hp⟩:=hx.AY;by_cases h1:t.k=1
 .exact Ae VA YY hn rfl (hr:=[.var false [.int .i64 t.k,.int .i64 t.v,.str t.nm,pv]]) (by simp[AJ,f66,h1,EV,De]) h
 .have hb:(t.k == 1)=false:=by simp[h1]
  exact Ae VA YY hn rfl (hr:=[.var false [.int .i64 t.k,.int .i64 t.v,.str t.nm,pv]]) (by simp[AJ,f66,h1,hb,EV,De]) h
mutual
def GC:TyV->Int->Int->Int
 | .mk _ _ _ ps,d,c=>if 40<d\/200<c+1\/200<(ps.length:Int)then 201 else C3 ps (d+1) (c+1)
def C3:List TyV->Int->Int->Int
 | [],_,c=>c
 | p::r,d,c=>if c<=200 then C3 r d (GC p d c)else c
end
theorem Oa(t:TyV):∀ d c,0<=c->c<=201->0<=GC t d c/\GC t d c<=201:=by
 induction t using TyV.ind with
 | h k v nm ps ih=>
  intro d c h0 h1;have key:∀(l:List TyV),(∀ p∈l,p∈ps)->∀ d c,0<=c->c<=201->0<=C3 l d c/\C3 l d c<=201:=by
   intro l;induction l with
   | nil=>intro _ d c h0 h1;simp[C3,h0,h1]
   | cons p r ihr=>
    intro hm d c h0 h1;simp only[C3];split
    .obtain⟨a,b⟩:=ih p (hm p (by simp)) d c h0 h1;exact ihr (fun q hq=>hm q (by simp[hq])) d _ a b
    .exact⟨h0,h1⟩
  simp only[GC];split
  .omega
  .exact key ps (fun _ h=>h) _ _ (by omega) (by omega)
def A7(t:TyV):Bool:=decide (GC t 1 0<=200)
theorem c110(t:TyV):∀(xs:List AV) (d c:Int),AU t xs->Sm 1048577 t->0<=d->d<=41->0<=c->c<=201->∀ h,AH MX (AG MX) 110 [.agg xs,.int .i64 d,.int .i64 c] h=some (.ret (.int .i64 (GC t d c)),h):=by
 induction t using TyV.ind with
 | h k v nm ps ih=>
  intro xs d c hx hs d0 d1 c0 c1 h;have hn:([AV.agg xs,.int .i64 d,.int .i64 c]:List AV).all AV.AA=true:=by simp[AV.AA,hx.AF]
  obtain⟨pv,rfl,hp⟩:=hx.dest;obtain⟨s1,s2,s3⟩:=hs.dest;have wc:wr .i64 (c+1)=c+1:=BU (by omega) (by omega);have wd:wr .i64 (d+1)=d+1:=BU (by omega) (by omega);refine Ae Yh cO hn rfl (hr:=[.var false [.int .i64 k,.int .i64 v,.str nm,pv]]) ?_ h;by_cases h1:40<d
  .simp[AJ,f110,wc,h1,GC]
  .by_cases h2:200<c+1
   .simp[AJ,f110,wc,h1,h2,GC]
   .by_cases h3:200<(ps.length:Int)
    .simp[AJ,f110,wc,h1,h2,h3,hp.len,GC]
    .obtain⟨e,st,hlp,hq⟩:=AQ (M:=MX) (fid:=110) (N:=43) (C:=AG MX) (c:=AL f110 0) (n:=ps.length) (fun i (b:Int)=>([(1,.int .i64 d),(2,.int .i64 b),(3,.hp 0 0),(7,.int .i64 i)],[.var false [.int .i64 k,.int .i64 v,.str nm,pv]]))
      (fun i b=>C3 ps (d+1) (c+1)=C3 (ps.drop i) (d+1) b/\0<=b/\b<=201)
      (fun r=>∃(i:Nat) (x:AV),r=(.ext 0,([(1,.int .i64 d),(2,.int .i64 (C3 ps (d+1) (c+1))),(3,.hp 0 0),(7,.int .i64 i),(30,x)],[.var false [.int .i64 k,.int .i64 v,.str nm,pv]]))) (fun i b hi hI=>by
        obtain⟨e,he,hR⟩:=hp.ix hi;have hi':=Aa hi;have hw:=AZ hi s2;obtain⟨i1,i2,i3⟩:=hI;have hdr:ps.drop i=ps[i]::ps.drop (i+1):=EJ hi;rw[hdr]at i1;simp only[C3]at i1;have hrec:=ih ps[i] (An hi) e (d+1) b hR (s3 _ (An hi)) (by omega) (by omega) i2 i3;obtain⟨q,hq,hq'⟩:=hR.AY;subst hq;by_cases hb:b<=200
        .rw[if_pos hb]at i1;have hrange:=Oa ps[i] (d+1) b i2 i3;exact .inl ⟨GC ps[i] (d+1) b,by simp[f110,hp.len,hi',he,hb,hw,wd,hrec],i1,hrange⟩
        .rw[if_neg hb]at i1;exact .inr ⟨_,_,by simp[f110,hp.len,hi',hb] <;> exact⟨rfl,rfl⟩,by simp,i,_,by rw[i1]⟩) (fun b hI=>by
        obtain⟨i1,i2,i3⟩:=hI;rw[DD]at i1;simp only[C3]at i1;exact⟨_,_,by simp[f110,hp.len] <;> exact⟨rfl,rfl⟩,by simp,ps.length,_,by rw[i1]⟩) (c+1) ⟨by simp,by omega,by omega⟩
     obtain⟨i,x,hq⟩:=hq;cases hq;simp[f110]at hlp;simp[AJ,f110,wc,h1,h2,h3,hp.len,hlp,GC]
theorem c156(t:TyV):∀(xs:List AV) (d c:Int),AU t xs->Sm 1048577 t->0<=d->d<=41->0<=c->c<=201->∀ h,AH MX (AG MX) 156 [.agg xs,.int .i64 d,.int .i64 c] h=some (.ret (.int .i64 (GC t d c)),h):=by
 induction t using TyV.ind with
 | h k v nm ps ih=>
  intro xs d c hx hs d0 d1 c0 c1 h;have hn:([AV.agg xs,.int .i64 d,.int .i64 c]:List AV).all AV.AA=true:=by simp[AV.AA,hx.AF]
  obtain⟨pv,rfl,hp⟩:=hx.dest;obtain⟨s1,s2,s3⟩:=hs.dest;have wc:wr .i64 (c+1)=c+1:=BU (by omega) (by omega);have wd:wr .i64 (d+1)=d+1:=BU (by omega) (by omega);refine Ae Yw cu hn rfl (hr:=[.var false [.int .i64 k,.int .i64 v,.str nm,pv]]) ?_ h;by_cases h1:40<d
  .simp[AJ,f156,wc,h1,GC]
  .by_cases h2:200<c+1
   .simp[AJ,f156,wc,h1,h2,GC]
   .by_cases h3:200<(ps.length:Int)
    .simp[AJ,f156,wc,h1,h2,h3,hp.len,GC]
    .obtain⟨e,st,hlp,hq⟩:=AQ (M:=MX) (fid:=156) (N:=43) (C:=AG MX) (c:=AL f156 0) (n:=ps.length) (fun i (b:Int)=>([(1,.int .i64 d),(2,.int .i64 b),(3,.hp 0 0),(7,.int .i64 i)],[.var false [.int .i64 k,.int .i64 v,.str nm,pv]]))
      (fun i b=>C3 ps (d+1) (c+1)=C3 (ps.drop i) (d+1) b/\0<=b/\b<=201)
      (fun r=>∃(i:Nat) (x:AV),r=(.ext 0,([(1,.int .i64 d),(2,.int .i64 (C3 ps (d+1) (c+1))),(3,.hp 0 0),(7,.int .i64 i),(30,x)],[.var false [.int .i64 k,.int .i64 v,.str nm,pv]]))) (fun i b hi hI=>by
        obtain⟨e,he,hR⟩:=hp.ix hi;have hi':=Aa hi;have hw:=AZ hi s2;obtain⟨i1,i2,i3⟩:=hI;have hdr:ps.drop i=ps[i]::ps.drop (i+1):=EJ hi;rw[hdr]at i1;simp only[C3]at i1;have hrec:=ih ps[i] (An hi) e (d+1) b hR (s3 _ (An hi)) (by omega) (by omega) i2 i3;obtain⟨q,hq,hq'⟩:=hR.AY;subst hq;by_cases hb:b<=200
        .rw[if_pos hb]at i1;have hrange:=Oa ps[i] (d+1) b i2 i3;exact .inl ⟨GC ps[i] (d+1) b,by simp[f156,hp.len,hi',he,hb,hw,wd,hrec],i1,hrange⟩
        .rw[if_neg hb]at i1;exact .inr ⟨_,_,by simp[f156,hp.len,hi',hb] <;> exact⟨rfl,rfl⟩,by simp,i,_,by rw[i1]⟩) (fun b hI=>by
        obtain⟨i1,i2,i3⟩:=hI;rw[DD]at i1;simp only[C3]at i1;exact⟨_,_,by simp[f156,hp.len] <;> exact⟨rfl,rfl⟩,by simp,ps.length,_,by rw[i1]⟩) (c+1) ⟨by simp,by omega,by omega⟩
     obtain⟨i,x,hq⟩:=hq;cases hq;simp[f156]at hlp;simp[AJ,f156,wc,h1,h2,h3,hp.len,hlp,GC]
theorem c59{t:TyV}{xs:List AV}(hx:AU t xs)(hs:Sm 1048577 t)(h:AE):AH MX (AG MX) 59 [.agg xs] h=some (.ret (.bool (A7 t)),h):=by
 have hn:([AV.agg xs]:List AV).all AV.AA=true:=by simp[AV.AA,hx.AF]
 have hc:=c110 t xs 1 0 hx hs (by omega) (by omega) (by omega) (by omega);obtain⟨pv,rfl,hp⟩:=hx.AY;exact Ae bw gw hn rfl (hr:=[.var false [.int .i64 t.k,.int .i64 t.v,.str t.nm,pv]]) (by simp[AJ,f59,hc,A7]) h
theorem c86{t:TyV}{xs:List AV}(hx:AU t xs)(hs:Sm 1048577 t)(h:AE):AH MX (AG MX) 86 [.agg xs] h=some (.ret (.bool (A7 t)),h):=by
 have hn:([AV.agg xs]:List AV).all AV.AA=true:=by simp[AV.AA,hx.AF]
 have hc:=c156 t xs 1 0 hx hs (by omega) (by omega) (by omega) (by omega);obtain⟨pv,rfl,hp⟩:=hx.AY;exact Ae cE iH hn rfl (hr:=[.var false [.int .i64 t.k,.int .i64 t.v,.str t.nm,pv]]) (by simp[AJ,f86,hc,A7]) h
def Ee(l:List AK)(k:Int)(nm:Bytes):Option Nat:=
 if k=1 then(if nm == De then some 1 else if nm == CW then some 0 else(l.findIdx? (fun d=>d.nm == nm)).map (fun i=>(l.getD i default).params.length))else some 0
mutual
def Au(l:List AK)(params:List Bytes):TyV->Int
 | .mk k v nm ps=>if ¬ (0<=k/\k<=2)then 15 else if k=0/\params.findIdx? (fun x=>x == nm)=none then 6 else match Ee l k nm with
  | none=>6
  | some n=>if ps.length≠n then 10 else if k=2/\¬ (0<=v/\v<=1000000000)then 2 else CX l params ps
def CX(l:List AK)(params:List Bytes):List TyV->Int
 | []=>0
 | p::r=>if Au l params p=0 then CX l params r else Au l params p
end
theorem Gh{α:Type}{p:α->Bool}{l:List α}{i:Nat}(h:l.findIdx? p=some i):i<l.length:=by
 rw[Gr]at h;exact h.1
theorem c186{l:List AK}{lv:AV}(hl:SlR Ah 3 l lv)(hll:l.length<1048577){params:List Bytes}{pr:AV}(hpr:SlR C2 1 params pr)(hpl:params.length<1048577)(hps:∀ d∈l,d.params.length<1048577)(t:TyV):∀(xs:List AV),AU t xs->Sm 1048577 t->∀ h,AH MX (AG MX) 186 [lv,pr,.agg xs] h=some (.ret (.int .i64 (Au l params t)),h):=by
 induction t using TyV.ind with
 | h k v nm ps ih=>
  intro xs hx hs h;have hn:([lv,pr,AV.agg xs]:List AV).all AV.AA=true:=by simp[AV.AA,hx.AF,hl.AA,hpr.AA]
  obtain⟨pv,rfl,hp⟩:=hx.dest;obtain⟨s1,s2,s3⟩:=hs.dest;refine Ae ZC dI hn rfl (hr:=[.var false [.int .i64 k,.int .i64 v,.str nm,pv]]) ?_ h;have hP:=c89 nm hpr hpl;have hD:=c118 nm hl hll;have hlp:CX l params ps=CX l params ps:=rfl;obtain⟨e,st,hlp,hq⟩:=AQ (M:=MX) (fid:=186) (N:=81) (C:=AG MX) (c:=AL f186 0) (n:=ps.length) (fun i (_:Unit)=>([(0,lv),(1,pr),(5,.hp 0 0),(9,.int .i64 i)],[.var false [.int .i64 k,.int .i64 v,.str nm,pv]]))
   (fun i _=>CX l params ps=CX l params (ps.drop i))
   (fun r=>(r=(.ext 1,([(0,lv),(1,pr),(5,.hp 0 0),(9,.int .i64 ps.length),(67,.bool false)],[.var false [.int .i64 k,.int .i64 v,.str nm,pv]]))/\CX l params ps=0)\/r=(.ret,([(6,.int .i64 (CX l params ps))],[.var false [.int .i64 k,.int .i64 v,.str nm,pv]]))) (fun i b hi hI=>by
     obtain⟨e,he,hR⟩:=hp.ix hi;have hi':=Aa hi;have hw:=AZ hi s2;have hdr:ps.drop i=ps[i]::ps.drop (i+1):=EJ hi;rw[hdr]at hI;simp only[CX]at hI;have hrec:=ih ps[i] (An hi) e hR (s3 _ (An hi));obtain⟨q,hq,hq'⟩:=hR.AY;subst hq;by_cases h0:Au l params ps[i]=0
     .rw[if_pos h0]at hI;exact .inl ⟨(),by simp[f186,hp.len,hi',he,hw,hrec,h0],hI⟩
     .rw[if_neg h0]at hI;have hne:(Au l params ps[i] != 0)=true:=(by simp[h0]);exact .inr ⟨_,_,by simp[f186,hp.len,hi',he,hw,hrec,hne] <;> exact⟨rfl,rfl⟩,by simp,.inr (by rw[hI])⟩) (fun b hI=>by
     rw[DD]at hI;exact⟨_,_,by simp[f186,hp.len] <;> exact⟨rfl,rfl⟩,by simp,.inl ⟨rfl,hI⟩⟩) () (by simp)
  simp[f186]at hlp;by_cases hk:0<=k/\k<=2
  .have tail:∀ n:Nat,(∀ x:Int,x=n->(ps.length≠n->((ps.length:Int) != x)=true)/\(ps.length=n->((ps.length:Int) != x)=false)):=fun n x hx=>by
    subst hx;constructor
    .intro h;simp;omega
    .intro h;simp;omega
   have fin:∀(n:Nat),Ee l k nm=some n->(k=0->params.findIdx? (fun x=>x == nm)≠none)->Au l params (.mk k v nm ps)=(if ps.length≠n then 10 else if k=2/\¬ (0<=v/\v<=1000000000)then 2 else CX l params ps):=fun n hc h0=>by
    simp only[Au,hc];rw[if_neg (fun h=>h hk),if_neg (fun h=>h0 h.1 h.2)]
   have kk:k=0\/k=1\/k=2:=(by omega);rcases kk with rfl | rfl | rfl
   ·-- a variable
    cases hm:params.findIdx? (fun x=>x == nm)with
    | none=>simp[AJ,f186,hP,hm,Au]
    | some j=>
     rw[fin 0 rfl (by simp[hm])];by_cases hL:ps.length=0
     .have:=(tail 0 0 rfl).2 hL;rcases hq with⟨hq,ha⟩ | hq <;> cases hq <;> simp[AJ,f186,hP,hm,hp.len,this,hL,hlp] <;> try exact ha.symm
     .have:=(tail 0 0 rfl).1 hL;simp[AJ,f186,hP,hm,hp.len,this,hL]
   .by_cases hb:nm=De
    .rw[fin 1 (by simp[Ee,hb]) (by simp)];have hb1:(nm == [66,105,116])=true:=(by simp[hb,De]);by_cases hL:ps.length=1
     .have:=(tail 1 1 rfl).2 hL;rcases hq with⟨hq,ha⟩ | hq <;> cases hq <;> simp[AJ,f186,hD,hp.len,this,hL,hlp,hb1] <;> try exact ha.symm
     .have:=(tail 1 1 rfl).1 hL;simp[AJ,f186,hD,hp.len,this,hL,hb1]
    .have hb1:(nm == [66,105,116])=false:=(by simpa[De]using hb);by_cases hb2:nm=CW
     .rw[fin 0 (by simp[Ee,hb2,CW,De]) (by simp)];have hb3:(nm == [66,111,111,108])=true:=(by simp[hb2,CW]);by_cases hL:ps.length=0
      .have:=(tail 0 0 rfl).2 hL;rcases hq with⟨hq,ha⟩ | hq <;> cases hq <;> simp[AJ,f186,hD,hp.len,this,hL,hlp,hb1,hb3] <;> try exact ha.symm
      .have:=(tail 0 0 rfl).1 hL;simp[AJ,f186,hD,hp.len,this,hL,hb1,hb3]
     .have hb3:(nm == [66,111,111,108])=false:=(by simpa[CW]using hb2);cases hf:l.findIdx? (fun d=>d.nm == nm)with
      | none=>
       have:Au l params (.mk 1 v nm ps)=6:=by
        have hc:Ee l 1 nm=none:=(by simp[Ee,hb,hb2,hf]);simp[Au,hc]
       rw[this];simp[AJ,f186,hD,hf,ixI,hb1,hb3]
      | some i=>
       have hi:=Gh hf;obtain⟨e,he,hR⟩:=hl.ix hi;obtain⟨pp,cc,rfl,hpp,hcc⟩:=hR.dest;rw[fin l[i].params.length (by simp[Ee,hb,hb2,hf,hi]) (by simp)];by_cases hL:ps.length=l[i].params.length
       .have:=(tail _ (l[i].params.length:Int) rfl).2 hL;rcases hq with⟨hq,ha⟩ | hq <;> cases hq <;> simp[AJ,f186,hD,hf,ixI,hp.len,this,hlp,hb1,hb3,he,hpp.len,hL] <;> try exact ha.symm
       .have:=(tail _ (l[i].params.length:Int) rfl).1 hL;simp[AJ,f186,hD,hf,ixI,hp.len,this,hL,hb1,hb3,he,hpp.len]
   .rw[fin 0 rfl (by simp)];by_cases hL:ps.length=0
    .have:=(tail 0 0 rfl).2 hL;by_cases hv:0<=v/\v<=1000000000
     .rcases hq with⟨hq,ha⟩ | hq <;> cases hq <;> simp[AJ,f186,hp.len,this,hL,hlp,hv] <;> try exact ha.symm
     .simp[AJ,f186,hp.len,this,hL,hv]
    .have:=(tail 0 0 rfl).1 hL;simp[AJ,f186,hp.len,this,hL]
  .simp[AJ,f186,hk,Au]
theorem Af{h:AE}{i:Nat}{b:Blk}(hb:h[i]? = some b)(l:AE):(h++l)[i]? = some b:=by
 rw[A9 (Ac.1 hb).1];exact hb
theorem Fu(h:AE)(x y:Blk):(h++[x]).set h.length y=h++[y]:=by simp
theorem BD(h:AE)(x:Blk):(h++[x])[h.length]? = some x:=by simp
theorem _root_.Go.Am.SlR.slice{α:Type}{R:α->List AV->Prop}{sz:Nat}{l:List α}{v:AV}(hv:SlR R sz l v){i:Nat}(hi:i<=l.length):∃ w,slA sz v none (some (.int .i64 i)) none=some w/\SlR R sz (l.take i) w:=by
 rcases hv with⟨rfl,rfl⟩ | ⟨ex,es,rfl,hl,hr⟩
 .have:i=0:=by simpa using hi
  subst this;exact⟨.AI,rfl,.inl ⟨by simp,rfl⟩⟩
 .have h0:(0:Int)<=i/\(i:Int)<=es.length:=by omega
  have h1:Fq (i:Int) es.length=some i:=by simp[Fq,h0]
  have h2:Fq 0 i=some 0:=by simp[Fq]
  refine⟨.sl sz (ex&&Nat.beq i es.length) (es.take i),by simp[slA,C8,Go.Am.intOf,h1,h2,Ay,K0],.inr ⟨_,_,rfl,by simp[hl],fun j a e h3 h4 => ?_⟩⟩;rw[List.getElem?_take]at h3 h4;split at h3
  .rename_i hj;rw[if_pos hj]at h4;exact hr j a e h3 h4
  .cases h3
def Bp(l:List AK)(params:List Bytes)(t:TyV):Int:=if A7 t then Au l params t else 8
theorem c153{l:List AK}{lv:AV}(hl:SlR Ah 3 l lv)(hll:l.length<1048577){params:List Bytes}{pr:AV}(hpr:SlR C2 1 params pr)(hpl:params.length<1048577)(hps:∀ d∈l,d.params.length<1048577){t:TyV}{xs:List AV}(hx:AU t xs)(hs:Sm 1048577 t)(h:AE) :
 AH MX (AG MX) 153 [lv,pr,.agg xs] h=some (.ret (.int .i64 (Bp l params t)),h):=by
 have hn:([lv,pr,AV.agg xs]:List AV).all AV.AA=true:=by simp[AV.AA,hx.AF,hl.AA,hpr.AA]
 have h1:=c59 hx hs;have h2:=c186 hl hll hpr hpl hps t xs hx hs;obtain⟨pv,rfl,hp⟩:=hx.AY;cases hb:A7 t with
 | true=>exact Ae SG VQ hn rfl (hr:=[.var false [.int .i64 t.k,.int .i64 t.v,.str t.nm,pv]]) (by simp[AJ,f153,h1,h2,hb,Bp]) h
 | false=>exact Ae SG VQ hn rfl (hr:=[.var false [.int .i64 t.k,.int .i64 t.v,.str t.nm,pv]]) (by simp[AJ,f153,h1,hb,Bp]) h
def II(d:AK)(s:Bytes):Bool:=(d.cons.findIdx? (fun c=>c.nm == s)).isSome
def I2(l:List AK)(s:Bytes):Bool:=(l.findIdx? (fun d=>II d s)).isSome
theorem c212{l:List AK}{lv:AV}(s:Bytes)(hl:SlR Ah 3 l lv)(hll:l.length<1048577)(hcs:∀ d∈l,d.cons.length<1048577)(h:AE):AH MX (AG MX) 212 [lv,.str s] h=some (.ret (.bool (I2 l s)),h):=by
 refine Ae ZL dS (by simp[hl.AA,AV.AA]) rfl (hr:=[]) ?_ h;obtain⟨e,st,hlp,hq⟩:=AQ (M:=MX) (fid:=212) (N:=34) (C:=AG MX) (c:=AL f212 0) (n:=l.length) (fun i (_:Unit)=>([(0,lv),(1,.str s),(5,.int .i64 i)],[])) (fun i _=>∀ j (hj:j<l.length),j<i->(fun d=>II d s) l[j]=false)
  (fun r=>(r=(.ext 0,([(0,lv),(1,.str s),(5,.int .i64 l.length),(10,.bool false)],[]))/\I2 l s=false)\/(r=(.ret,([(4,.bool true)],[]))/\I2 l s=true)) (fun i b hi hI=>by
    obtain⟨e,he,hR⟩:=hl.ix hi;have hi':=Aa hi;have hw:=AZ hi hll;obtain⟨pv,cv,rfl,hp,hc⟩:=hR.dest;have hcl:=hcs _ (An hi);obtain⟨e2,st2,hlp2,hq2⟩:=AQ (M:=MX) (fid:=212) (N:=34) (C:=AG MX) (c:=AL f212 1) (n:=l[i].cons.length) (fun k (_:Unit)=>([(0,lv),(1,.str s),(5,.int .i64 i),(6,.int .i64 k)],[])) (fun k _=>∀ j (hj:j<l[i].cons.length),j<k->(fun c:CZ=>c.nm == s) l[i].cons[j]=false)
     (fun r=>(r=(.ext 2,([(0,lv),(1,.str s),(5,.int .i64 i),(6,.int .i64 l[i].cons.length),(20,.bool false)],[]))/\II l[i] s=false)\/(r=(.ret,([(4,.bool true)],[]))/\II l[i] s=true)) (fun k b hk hK=>by
       obtain⟨e',he',hR'⟩:=hc.ix hk;have hk':=Aa hk;have hwk:=AZ hk hcl;obtain⟨fv,rfl,hf⟩:=hR'.dest;cases hx:(l[i].cons[k].nm == s)with
       | true=>exact .inr ⟨_,_,by simp only[beq_iff_eq]at hx;simp[f212,hc.len,hk',hi',he,he',hx] <;> first | exact⟨rfl,rfl⟩ | rfl,by simp,.inr ⟨rfl,by simp only[II];rw[FH (p:=fun c:CZ=>c.nm == s) hk hK hx];rfl⟩⟩
       | false=>exact .inl ⟨(),by have hx':=hx;simp only[beq_eq_false_iff_ne,ne_eq]at hx';simp[f212,hc.len,hk',hi',he,he',hx,hx',hwk],FJ (p:=fun c:CZ=>c.nm == s) hk hK hx⟩) (fun b hK=>by
       exact⟨_,_,by simp[f212,hc.len,hi',he] <;> first | exact⟨rfl,rfl⟩ | rfl,by simp,.inl ⟨rfl,by simp only[II];rw[FI (p:=fun c:CZ=>c.nm == s) fun j hj=>hK j hj hj];rfl⟩⟩) () (fun j _ h0=>by omega)
    simp[f212]at hlp2;rcases hq2 with⟨hq2,hs2⟩ | ⟨hq2,hs2⟩ <;> cases hq2
    .exact .inl ⟨(),by simp[f212,hl.len,hi',hlp2,hw],FJ (p:=fun d=>II d s) hi hI hs2⟩
    .exact .inr ⟨_,_,by simp[f212,hl.len,hi',hlp2] <;> first | exact⟨rfl,rfl⟩ | rfl,by simp,.inr ⟨rfl,by simp only[I2];rw[FH (p:=fun d=>II d s) hi hI hs2];rfl⟩⟩) (fun b hI=>by
    exact⟨_,_,by simp[f212,hl.len] <;> first | exact⟨rfl,rfl⟩ | rfl,by simp,.inl ⟨rfl,by simp only[I2];rw[FI (p:=fun d=>II d s) fun j hj=>hI j hj hj];rfl⟩⟩) () (fun j _ h0=>by omega)
 simp[f212]at hlp;rcases hq with⟨hq,hs⟩ | ⟨hq,hs⟩ <;> cases hq <;> simp[AJ,f212,hlp,hs]
def FK(l:List AK)(params:List Bytes):List DB->List DB->Int
 | _,[]=>0
 | prev,f::r=>if BM f.nm=false then 4 else if(prev.findIdx? (fun g=>g.nm == f.nm)).isSome then 5 else if Bp l params f.ty=0 then FK l params (prev++[f]) r else Bp l params f.ty
def Df(l:List AK)(params:List Bytes)(fs:List DB):Int:=if 8<fs.length then 8 else FK l params [] fs
theorem c213{l:List AK}{lv:AV}(hl:SlR Ah 3 l lv)(hsl:SmL 1048577 l){d:AK}{dx:List AV}(hd:Ah d dx)(hsd:SmD 1048577 d){c:CZ}{cx:List AV}(hc:Ed c cx)(hsc:SmC 1048577 c)(h:AE) :
 AH MX (AG MX) 213 [.agg dx,.agg cx,lv] h=some (.ret (.int .i64 (Df l d.params c.fields)),h):=by
 obtain⟨pv,cv,rfl,hp,hcv⟩:=hd.dest;obtain⟨fv,rfl,hf⟩:=hc.dest;have hn:([AV.agg [.str d.nm,pv,cv],AV.agg [.str c.nm,fv],lv]:List AV).all AV.AA=true:=by simp[AV.AA,AF,hl.AA,hp.AA,hcv.AA,hf.AA]
 obtain⟨hr,hc'⟩:∃ hr,AJ MX 213 [.agg [.str d.nm,pv,cv],.agg [.str c.nm,fv],lv] []=some (.ret (.int .i64 (Df l d.params c.fields)),hr):=by
  by_cases h8:8<c.fields.length
  .have h8':(8<(c.fields.length:Int)):=(by omega);exact⟨_,by simp[AJ,f213,hf.len,h8',Df,h8] <;> rfl⟩
  .have h8':¬ (8<(c.fields.length:Int)):=(by omega);have hfl:c.fields.length<1048577:=(by omega);obtain⟨e,st,hlp,hq⟩:=AQ (M:=MX) (fid:=213) (N:=54) (C:=AG MX) (c:=AL f213 0) (n:=c.fields.length) (fun i (b:AE)=>([(2,lv),(3,.hp 0 0),(4,.hp 1 0),(7,.int .i64 i)],Blk.var false [AV.str d.nm,pv,cv]::Blk.var false [AV.str c.nm,fv]::b))
    (fun i b=>FK l d.params [] c.fields=FK l d.params (c.fields.take i) (c.fields.drop i))
    (fun r=>∃ b:AE,(r=(.ext 0,([(2,lv),(3,.hp 0 0),(4,.hp 1 0),(7,.int .i64 c.fields.length),(19,.bool false)],b))/\FK l d.params [] c.fields=0)\/r=(.ret,([(6,.int .i64 (FK l d.params [] c.fields))],b))) (fun i b hi hI=>by
      have i2:=hI;obtain⟨e,he,hR⟩:=hf.ix hi;have hi':=Aa hi;have hw:=AZ hi hfl;have hmem:=An hi;obtain⟨hnm,hsm⟩:=hsc.2.2 _ hmem;obtain⟨tx,hex,ht⟩:=hR;subst hex;have h153:=c153 hl hsl.1 hp hsd.2.1 (fun d hd=>(hsl.2 d hd).2.1) ht hsm;have hN:=Z2 c.fields[i].nm hnm;obtain⟨qv,rfl,hqv⟩:=ht.AY;have hdr:c.fields.drop i=c.fields[i]::c.fields.drop (i+1):=EJ hi;have htk:c.fields.take i++[c.fields[i]]=c.fields.take (i+1):=(by simp);rw[hdr]at i2;simp only[FK]at i2;rw[htk]at i2;cases hN0:BM c.fields[i].nm with
      | false=>
       rw[hN0]at i2;exact .inr ⟨_,_,by simp[f213,hf.len,hi',he,hN,hN0] <;> first | exact⟨rfl,rfl⟩ | rfl,by simp,_,.inr (by rw[i2];rfl)⟩
      | true=>
       rw[hN0]at i2;obtain⟨e2,st2,hlp2,hq2⟩:=AQ (M:=MX) (fid:=213) (N:=54) (C:=AG MX) (c:=AL f213 1) (n:=i) (fun k (_:Unit)=>([(2,lv),(3,.hp 0 0),(4,.hp 1 0),(7,.int .i64 i),(8,.hp (b.length+1+1) 0),(9,.int .i64 k)],(Blk.var false [AV.str d.nm,pv,cv]::Blk.var false [AV.str c.nm,fv]::(b++[Blk.var false [AV.str c.fields[i].nm,AV.int IntKind.i64 c.fields[i].ty.k,AV.int IntKind.i64 c.fields[i].ty.v,AV.str c.fields[i].ty.nm,qv]]:AE))))
        (fun k _=>∀ j (hj:j<(c.fields.take i).length),j<k->(fun g:DB=>g.nm == c.fields[i].nm) (c.fields.take i)[j]=false)
        (fun r=>(r=(.ext 2,([(2,lv),(3,.hp 0 0),(4,.hp 1 0),(7,.int .i64 i),(8,.hp (b.length+1+1) 0),(9,.int .i64 i),(33,.bool false)],(Blk.var false [AV.str d.nm,pv,cv]::Blk.var false [AV.str c.nm,fv]::(b++[Blk.var false [AV.str c.fields[i].nm,AV.int IntKind.i64 c.fields[i].ty.k,AV.int IntKind.i64 c.fields[i].ty.v,AV.str c.fields[i].ty.nm,qv]]:AE))))/\((c.fields.take i).findIdx? (fun g=>g.nm == c.fields[i].nm)).isSome=false)\/(r=(.ret,([(6,.int .i64 5)],(Blk.var false [AV.str d.nm,pv,cv]::Blk.var false [AV.str c.nm,fv]::(b++[Blk.var false [AV.str c.fields[i].nm,AV.int IntKind.i64 c.fields[i].ty.k,AV.int IntKind.i64 c.fields[i].ty.v,AV.str c.fields[i].ty.nm,qv]]:AE))))/\((c.fields.take i).findIdx? (fun g=>g.nm == c.fields[i].nm)).isSome=true)) (fun k u hk hK=>by
          have hkl:k<c.fields.length:=(by omega);have hkt:k<(c.fields.take i).length:=(by simp;omega);have hke:(c.fields.take i)[k]=c.fields[k]:=(by simp);obtain⟨e',he',hR'⟩:=hf.ix hkl;have hk':=Aa hk;have hwk:=AZ hk (by omega);obtain⟨qv',rfl,hqv'⟩:=hR'.dest;cases hx:(c.fields[k].nm == c.fields[i].nm)with
          | true=>exact .inr ⟨_,_,by simp[f213,hk',he',hx] <;> first | exact⟨rfl,rfl⟩ | rfl,by simp,.inr ⟨rfl,by rw[FH (p:=fun g:DB=>g.nm == c.fields[i].nm) hkt hK (by rw[hke];exact hx)];rfl⟩⟩
          | false=>exact .inl ⟨(),by simp[f213,hk',he',hx,hwk],FJ (p:=fun g:DB=>g.nm == c.fields[i].nm) hkt hK (by rw[hke];exact hx)⟩) (fun u hK=>by
          exact⟨_,_,by simp[f213] <;> first | exact⟨rfl,rfl⟩ | rfl,by simp,.inl ⟨rfl,by rw[FI (p:=fun g:DB=>g.nm == c.fields[i].nm) fun j hj=>hK j hj (by simp at hj;omega)];rfl⟩⟩) () (fun j _ h0=>by omega)
       simp[f213]at hlp2;rcases hq2 with⟨hq2,hs2⟩ | ⟨hq2,hs2⟩ <;> cases hq2
       .rw[hs2]at i2;by_cases h0:Bp l d.params c.fields[i].ty=0
        .rw[if_pos h0]at i2;exact .inl ⟨_,by simp[f213,hf.len,hi',he,hN,hN0,hlp2,h153,h0,hw,ht.AF,AF,AV.AA,hl.AA,hp.AA,hqv.AA] <;> rfl,by simpa using i2⟩
        .rw[if_neg h0]at i2;have hne:(Bp l d.params c.fields[i].ty != 0)=true:=(by simp[h0]);exact .inr ⟨_,_,by simp[f213,hf.len,hi',he,hN,hN0,hlp2,h153,hne,AF,AV.AA,hl.AA,hp.AA,hqv.AA] <;> first | exact⟨rfl,rfl⟩ | rfl,by simp,_,.inr (by rw[i2];rfl)⟩
       .rw[hs2]at i2;exact .inr ⟨_,_,by simp[f213,hf.len,hi',he,hN,hN0,hlp2] <;> first | exact⟨rfl,rfl⟩ | rfl,by simp,_,.inr (by rw[i2];rfl)⟩) (fun b hI=>by
      have i2:=hI;rw[DD]at i2;exact⟨_,_,by simp[f213,hf.len] <;> first | exact⟨rfl,rfl⟩ | rfl,by simp,_,.inl ⟨rfl,i2⟩⟩) ([]:AE) (by simp)
   simp[f213]at hlp;obtain⟨b,hq⟩:=hq;rcases hq with⟨hq,hs⟩ | hq <;> cases hq
   .exact⟨_,by simp[AJ,f213,hf.len,h8',hlp,Df,h8,hs] <;> rfl⟩
   .exact⟨_,by simp[AJ,f213,hf.len,h8',hlp,Df,h8] <;> rfl⟩
 exact Ae ZM dT hn rfl hc' h
def Cy:Bytes:=[70,97,108,115,101]
def EW:Bytes:=[84,114,117,101]
def Er:Bytes:=[73,110,116,101,103,101,114]
def Dg:List Bytes->List Bytes->Int
 | _,[]=>0
 | prev,p::r=>if BM p=false then 4 else if(prev.findIdx? (fun x=>x == p)).isSome then 5 else Dg (prev++[p]) r
def Fh(l:List AK)(params:List Bytes):List CZ->List CZ->Int
 | _,[]=>0
 | prev,c::r=>if BM c.nm=false then 4 else if I2 l c.nm then 5 else if(prev.findIdx? (fun g=>g.nm == c.nm)).isSome then 5 else if c.nm == Cy then 5 else if c.nm == EW then 5 else
  if Df l params c.fields=0 then Fh l params (prev++[c]) r else Df l params c.fields
def Bj(d:AK)(l:List AK):Int:=
 if BM d.nm=false then 4 else if(l.findIdx? (fun x=>x.nm == d.nm)).isSome then 5 else if d.nm == De then 5 else if d.nm == CW then 5 else if d.nm == Er then 5 else
 if 4<d.params.length then 8 else if 16<d.cons.length then 8 else if d.cons.length=0 then 10 else
 if Dg [] d.params=0 then Fh l d.params [] d.cons else Dg [] d.params
theorem XE(c:List CZ)(s:Bytes):I2 [⟨[],[],c⟩] s=(c.findIdx? (fun g=>g.nm == s)).isSome:=by
 simp only[I2,II,List.findIdx?_cons];cases(c.findIdx? (fun g=>g.nm == s)).isSome <;> simp
theorem c185{l:List AK}{lv:AV}(hl:SlR Ah 3 l lv)(hsl:SmL 1048577 l){d:AK}{dx:List AV}(hd:Ah d dx)(hsd:SmD 1048577 d)(h:AE) :
 AH MX (AG MX) 185 [.agg dx,lv] h=some (.ret (.int .i64 (Bj d l)),h):=by
 have h213:=fun{c:CZ} {cx:List AV} (hc:Ed c cx) (hsc:SmC 1048577 c)=>c213 hl hsl hd hsd hc hsc
 obtain⟨s1,s2,s3,s4,s5⟩:=hsd;have hN:=Z2 d.nm s1;have hD:=c118 d.nm hl hsl.1;obtain⟨pv,cv,rfl,hp,hcv⟩:=hd.dest;have hn:([AV.agg [.str d.nm,pv,cv],lv]:List AV).all AV.AA=true:=by simp[AV.AA,AF,hl.AA,hp.AA,hcv.AA]
 obtain⟨hr,hc'⟩:∃ hr,AJ MX 185 [.agg [.str d.nm,pv,cv],lv] []=some (.ret (.int .i64 (Bj d l)),hr):=by
  unfold Bj;cases hN0:BM d.nm with
  | false=>exact⟨_,by simp[AJ,f185,hN,hN0] <;> rfl⟩
  | true=>
  cases hD0:l.findIdx? (fun x=>x.nm == d.nm)with
  | some j=>
   exact⟨_,by simp[AJ,f185,hN,hN0,hD,hD0,ixI] <;> rfl⟩
  | none=>
  cases hb1:(d.nm == De)with
  | true=>
   have hb1':(d.nm == [66,105,116])=true:=hb1;exact⟨_,by simp[AJ,f185,hN,hN0,hD,hD0,ixI,hb1'] <;> rfl⟩
  | false=>
  have hb1':(d.nm == [66,105,116])=false:=hb1;cases hb2:(d.nm == CW)with
  | true=>
   have hb2':(d.nm == [66,111,111,108])=true:=hb2;exact⟨_,by simp[AJ,f185,hN,hN0,hD,hD0,ixI,hb1',hb2'] <;> rfl⟩
  | false=>
  have hb2':(d.nm == [66,111,111,108])=false:=hb2;cases hb3:(d.nm == Er)with
  | true=>
   have hb3':(d.nm == [73,110,116,101,103,101,114])=true:=hb3;exact⟨_,by simp[AJ,f185,hN,hN0,hD,hD0,ixI,hb1',hb2',hb3'] <;> rfl⟩
  | false=>
  have hb3':(d.nm == [73,110,116,101,103,101,114])=false:=hb3;by_cases h4:4<d.params.length
  .have h4':(4<(d.params.length:Int)):=(by omega);exact⟨_,by simp[AJ,f185,hN,hN0,hD,hD0,ixI,hb1',hb2',hb3',hp.len,h4',h4] <;> rfl⟩
  .have h4':¬ (4<(d.params.length:Int)):=(by omega);by_cases h16:16<d.cons.length
   .have h16':(16<(d.cons.length:Int)):=(by omega);exact⟨_,by simp[AJ,f185,hN,hN0,hD,hD0,ixI,hb1',hb2',hb3',hp.len,hcv.len,h4',h4,h16',h16] <;> rfl⟩
   .have h16':¬ (16<(d.cons.length:Int)):=(by omega);by_cases h0:d.cons.length=0
    .exact⟨_,by simp[AJ,f185,hN,hN0,hD,hD0,ixI,hb1',hb2',hb3',hp.len,hcv.len,h4',h4,h16',h16,h0] <;> rfl⟩
    .have h0':((d.cons.length:Int) == 0)=false:=(by rw[beq_eq_false_iff_ne];omega);obtain⟨e,st,hlp,hq⟩:=AQ (M:=MX) (fid:=185) (N:=119) (C:=AG MX) (c:=AL f185 0) (n:=d.params.length) (fun i (_:Unit)=>([(1,lv),(2,.hp 0 0),(5,.int .i64 i)],[Blk.var false [AV.str d.nm,pv,cv]]))
      (fun i _=>Dg [] d.params=Dg (d.params.take i) (d.params.drop i))
      (fun r=>(r=(.ext 0,([(1,lv),(2,.hp 0 0),(5,.int .i64 d.params.length),(51,.bool false)],[Blk.var false [AV.str d.nm,pv,cv]]))/\Dg [] d.params=0)\/(r=(.ret,([(4,.int .i64 (Dg [] d.params))],[Blk.var false [AV.str d.nm,pv,cv]]))/\Dg [] d.params≠0)) (fun i b hi hI=>by
        obtain⟨e,he,hR⟩:=hp.ix hi;have hi':=Aa hi;have hw:=AZ hi s2;cases hR;have hNp:=Z2 d.params[i] (s3 _ (An hi));obtain⟨w,hw1,hw2⟩:=hp.slice (Jg hi);have hH:=c89 d.params[i] hw2 (by simp;omega);have hdr:d.params.drop i=d.params[i]::d.params.drop (i+1):=EJ hi;have htk:d.params.take i++[d.params[i]]=d.params.take (i+1):=(by simp);rw[hdr]at hI;simp only[Dg]at hI;rw[htk]at hI;cases hNp0:BM d.params[i]with
        | false=>
         rw[hNp0]at hI;exact .inr ⟨_,_,by simp[f185,hp.len,hi',he,hNp,hNp0] <;> first | exact⟨rfl,rfl⟩ | rfl,by simp,.inr ⟨by rw[hI];rfl,by rw[hI];simp⟩⟩
        | true=>
         rw[hNp0]at hI;cases hH0:((d.params.take i).findIdx? (fun x=>x == d.params[i])).isSome with
         | true=>
          rw[hH0]at hI;simp only[hH0]at hH;exact .inr ⟨_,_,by simp[f185,hp.len,hi',he,hNp,hNp0,hw1,hw2.AA,hH,hH0,AV.AA] <;> first | exact⟨rfl,rfl⟩ | rfl,by simp,.inr ⟨by rw[hI];rfl,by rw[hI];simp⟩⟩
         | false=>
          rw[hH0]at hI;simp only[hH0]at hH;exact .inl ⟨(),by simp[f185,hp.len,hi',he,hNp,hNp0,hw1,hw2.AA,hH,hH0,AV.AA,hw],by simpa using hI⟩) (fun b hI=>by
        rw[DD]at hI;exact⟨_,_,by simp[f185,hp.len] <;> first | exact⟨rfl,rfl⟩ | rfl,by simp,.inl ⟨rfl,hI⟩⟩) () (by simp)
     simp[f185]at hlp;rcases hq with⟨hq,hP⟩ | ⟨hq,hP⟩ <;> cases hq
     ·-- the constructors
      obtain⟨e2,st2,hlp2,hq2⟩:=AQ (M:=MX) (fid:=185) (N:=119) (C:=AG MX) (c:=AL f185 1) (n:=d.cons.length) (fun i (b:AE)=>([(1,lv),(2,.hp 0 0),(6,.int .i64 i)],Blk.var false [AV.str d.nm,pv,cv]::b))
       (fun i _=>Fh l d.params [] d.cons=Fh l d.params (d.cons.take i) (d.cons.drop i))
       (fun r=>∃ b:AE,(r=(.ext 2,([(1,lv),(2,.hp 0 0),(6,.int .i64 d.cons.length),(75,.bool false)],b))/\Fh l d.params [] d.cons=0)\/(r=(.ret,([(4,.int .i64 (Fh l d.params [] d.cons))],b)))) (fun i b hi hI=>by
         obtain⟨e,he,hR⟩:=hcv.ix hi;have hi':=Aa hi;have hw:=AZ hi s4;have hmem:=An hi;have hsc:=s5 _ hmem;have hNc:=Z2 d.cons[i].nm hsc.1;have h212:=c212 d.cons[i].nm hl hsl.1 (fun d hd=>(hsl.2 d hd).2.2.2.1);obtain⟨w,hw1,hw2⟩:=hcv.slice (Jg hi);have hone:SlR Ah 3 [⟨[],[],d.cons.take i⟩] (.sl 3 true [[.str [],.AI,w]]):=.inr ⟨true,_,rfl,rfl,fun j a e h1 h2=>by
          cases j with
          | zero=>
           simp only[Gs,AM]at h1 h2;subst h1;subst h2;exact⟨.AI,w,rfl,.inl ⟨rfl,rfl⟩,hw2⟩
          | succ j=>simp at h1⟩
         have h212b:=c212 d.cons[i].nm hone (by simp) (fun d' hd'=>by simp at hd';subst hd';simp;omega);rw[XE]at h212b;have hdr:d.cons.drop i=d.cons[i]::d.cons.drop (i+1):=EJ hi;have htk:d.cons.take i++[d.cons[i]]=d.cons.take (i+1):=(by simp);have h3:=h213 hR hsc;obtain⟨fv,rfl,hf⟩:=hR.dest;rw[hdr]at hI;simp only[Fh]at hI;rw[htk]at hI;cases hNc0:BM d.cons[i].nm with
         | false=>
          rw[hNc0]at hI;exact .inr ⟨_,_,by simp[f185,hcv.len,hi',he,hNc,hNc0] <;> first | exact⟨rfl,rfl⟩ | rfl,by simp,_,.inr (by rw[hI];rfl)⟩
         | true=>
         rw[hNc0]at hI;cases hc1:I2 l d.cons[i].nm with
         | true=>
          rw[hc1]at hI;exact .inr ⟨_,_,by simp[f185,hcv.len,hi',he,hNc,hNc0,h212,hc1,hl.AA,AV.AA] <;> first | exact⟨rfl,rfl⟩ | rfl,by simp,_,.inr (by rw[hI];rfl)⟩
         | false=>
         rw[hc1]at hI;cases hc2:((d.cons.take i).findIdx? (fun g=>g.nm == d.cons[i].nm)).isSome with
         | true=>
          rw[hc2]at hI;simp only[hc2]at h212b;exact .inr ⟨_,_,by simp[f185,hcv.len,hi',he,hNc,hNc0,h212,hc1,hw1,bsA,Ag,List.replicate,AF,AV.AA,hw2.AA,hw2.cells,h212b,hc2,hl.AA] <;> first | exact⟨rfl,rfl⟩ | rfl,by simp,_,.inr (by rw[hI];rfl)⟩
         | false=>
         rw[hc2]at hI;simp only[hc2]at h212b;cases hc3:(d.cons[i].nm == Cy)with
         | true=>
          rw[hc3]at hI;have hc3':(d.cons[i].nm == [70,97,108,115,101])=true:=hc3;exact .inr ⟨_,_,by simp[f185,hcv.len,hi',he,hNc,hNc0,h212,hc1,hw1,bsA,Ag,List.replicate,AF,AV.AA,hw2.AA,hw2.cells,h212b,hc2,hl.AA,hc3'] <;> first | exact⟨rfl,rfl⟩ | rfl,by simp,_,.inr (by rw[hI];rfl)⟩
         | false=>
         rw[hc3]at hI;have hc3':(d.cons[i].nm == [70,97,108,115,101])=false:=hc3;cases hc4:(d.cons[i].nm == EW)with
         | true=>
          rw[hc4]at hI;have hc4':(d.cons[i].nm == [84,114,117,101])=true:=hc4;exact .inr ⟨_,_,by simp[f185,hcv.len,hi',he,hNc,hNc0,h212,hc1,hw1,bsA,Ag,List.replicate,AF,AV.AA,hw2.AA,hw2.cells,h212b,hc2,hl.AA,hc3',hc4'] <;> first | exact⟨rfl,rfl⟩ | rfl,by simp,_,.inr (by rw[hI];rfl)⟩
         | false=>
         rw[hc4]at hI;have hc4':(d.cons[i].nm == [84,114,117,101])=false:=hc4;by_cases hz:Df l d.params d.cons[i].fields=0
         .rw[if_pos hz]at hI;exact .inl ⟨_,by simp[f185,hcv.len,hi',he,hNc,hNc0,h212,hc1,hw1,bsA,Ag,List.replicate,AF,AV.AA,hw2.AA,hw2.cells,h212b,hc2,hl.AA,hp.AA,hcv.AA,hf.AA,hc3',hc4',h3,hz,hw] <;> rfl,by simpa using hI⟩
         .rw[if_neg hz]at hI;have hne:(Df l d.params d.cons[i].fields != 0)=true:=(by simp[hz]);exact .inr ⟨_,_,by simp[f185,hcv.len,hi',he,hNc,hNc0,h212,hc1,hw1,bsA,Ag,List.replicate,AF,AV.AA,hw2.AA,hw2.cells,h212b,hc2,hl.AA,hp.AA,hcv.AA,hf.AA,hc3',hc4',h3,hne] <;> first | exact⟨rfl,rfl⟩ | rfl,by simp,_,.inr (by rw[hI];rfl)⟩) (fun b hI=>by
         rw[DD]at hI;exact⟨_,_,by simp[f185,hcv.len] <;> first | exact⟨rfl,rfl⟩ | rfl,by simp,_,.inl ⟨rfl,hI⟩⟩) ([]:AE) (by simp)
      simp[f185]at hlp2;obtain⟨b,hq2⟩:=hq2;rcases hq2 with⟨hq2,hC⟩ | hq2 <;> cases hq2
      .exact⟨_,by simp[AJ,f185,hN,hN0,hD,hD0,ixI,hb1',hb2',hb3',hp.len,hcv.len,h4',h4,h16',h16,h0,h0',hlp,hP,hlp2,hC] <;> rfl⟩
      .exact⟨_,by simp[AJ,f185,hN,hN0,hD,hD0,ixI,hb1',hb2',hb3',hp.len,hcv.len,h4',h4,h16',h16,h0,h0',hlp,hP,hlp2] <;> rfl⟩
     .exact⟨_,by simp[AJ,f185,hN,hN0,hD,hD0,ixI,hb1',hb2',hb3',hp.len,hcv.len,h4',h4,h16',h16,h0,h0',hlp,hP] <;> rfl⟩
 exact Ae ZB dH hn rfl hc' h
def GD:List AK->List AK->Int×Int
 | _,[]=>(0,0)
 | prev,d::r=>if Bj d prev=0 then GD (prev++[d]) r else(prev.length,Bj d prev)
def A0(l:List AK):Int×Int:=if 20<l.length then(0,8)else GD [] l
theorem c152{l:List AK}{lv:AV}(hl:SlR Ah 3 l lv)(hsl:SmL 1048577 l)(h:AE) :
 AH MX (AG MX) 152 [lv] h=some (.ret (.tup [.int .i64 (A0 l).1,.int .i64 (A0 l).2]),h):=by
 refine Ae Yu cq (by simp[hl.AA]) rfl (hr:=[]) ?_ h;unfold A0;by_cases h20:20<l.length
 .have h20':(20<(l.length:Int)):=by omega
  simp[AJ,f152,hl.len,h20,h20']
 .have h20':¬ (20<(l.length:Int)):=by omega
  obtain⟨e,st,hlp,hq⟩:=AQ (M:=MX) (fid:=152) (N:=27) (C:=AG MX) (c:=AL f152 0) (n:=l.length) (fun i (_:Unit)=>([(0,lv),(4,.int .i64 i)],[]))
   (fun i _=>GD [] l=GD (l.take i) (l.drop i))
   (fun r=>(r=(.ext 0,([(0,lv),(4,.int .i64 l.length),(12,.bool false)],[]))/\GD [] l=(0,0))\/(r=(.ret,([(2,.int .i64 (GD [] l).1),(3,.int .i64 (GD [] l).2)],[])))) (fun i b hi hI=>by
     obtain⟨e,he,hR⟩:=hl.ix hi;have hi':=Aa hi;have hw:=AZ hi hsl.1;have hmem:=An hi;obtain⟨w,hw1,hw2⟩:=hl.slice (Jg hi);have h185:=c185 hw2 ⟨by simp;omega,fun d hd=>hsl.2 d (List.mem_of_mem_take hd)⟩ hR (hsl.2 _ hmem);have hdr:l.drop i=l[i]::l.drop (i+1):=EJ hi;have htk:l.take i++[l[i]]=l.take (i+1):=(by simp);have htl:(l.take i).length=i:=(by simp;omega);obtain⟨pv,cv,rfl,hp,hc⟩:=hR.dest;rw[hdr]at hI;simp only[GD]at hI;rw[htk,htl]at hI;by_cases h0:Bj l[i] (l.take i)=0
     .rw[if_pos h0]at hI;exact .inl ⟨(),by simp[f152,hl.len,hi',he,hw1,h185,h0,hw,AF,AV.AA,hw2.AA,hp.AA,hc.AA],hI⟩
     .rw[if_neg h0]at hI;have hne:(Bj l[i] (l.take i) != 0)=true:=(by simp[h0]);exact .inr ⟨_,_,by simp[f152,hl.len,hi',he,hw1,h185,hne,AF,AV.AA,hw2.AA,hp.AA,hc.AA] <;> first | exact⟨rfl,rfl⟩ | rfl,by simp,.inr (by rw[hI])⟩) (fun b hI=>by
     rw[DD]at hI;exact⟨_,_,by simp[f152,hl.len] <;> first | exact⟨rfl,rfl⟩ | rfl,by simp,.inl ⟨rfl,hI⟩⟩) () (by simp)
  simp[f152]at hlp;rcases hq with⟨hq,hs⟩ | hq <;> cases hq
  .simp[AJ,f152,hl.len,h20,h20',hlp,hs]
  .simp[AJ,f152,hl.len,h20,h20',hlp]
theorem c84{l:List AK}{lv:AV}(hl:SlR Ah 3 l lv)(hsl:SmL 1048577 l)(h:AE) :
 AH MX (AG MX) 84 [lv] h=some (.ret (.int .i64 (A0 l).2),h):=
 Ae cC iE (by simp[hl.AA]) rfl (hr:=[]) (by simp[AJ,f84,c152 hl hsl]) h
end
section
attribute [local simp] Dc Bn Ec Dd CQ Dx Dy Ey BZ Ap Bh Av Gb FR EN HO D9 A5 FN EO HP HQ xUn FC EA FT BG DQ BH EB BI EC Ce Ca Bv BL EP Eo
 ev evs C4 DP OR.ofV OR.D4 OR.ofC Fg Tm.get Tm.init Tm.only Ay A6 Bt finish CK DS Hb D3 D7 unA Bz Bc B6 Bd Cp Cq Cr Be Cs Ct Bf Cu Cv Bg B7 AL CP Bb Cn Co Bx Ez E0 E1 Dz D0 Fo F7 F8 Fp stA BA DY Bo Ff DR FD Gp B8 C1 CI FU Gq
theorem KP{α:Type}{R:α->List AV->Prop}{sz byt:Nat}{l:List α}{v:AV}(hv:SlR R sz l v)(h0:0<sz)(hb:byt<=1024)(hl:l.length<1048577)(h:AE) :
 ∃ es:List (List AV),es.length=l.length/\(∀(i:Nat) a e,l[i]? = some a->es[i]? = some e->R a e)/\((l=[]/\apA sz byt (.sl sz true []) v h=some (.sl sz true [],h))\/(l≠[]/\apA sz byt (.sl sz true []) v h=some (.hs h.length es.length sz 0 es.length false,h++[.arr sz false es]))):=by
 obtain⟨es,h1,h2,h3,h4⟩:=hv.rd h;refine⟨es,h3,h4,?_⟩;have hn:∀ b,v≠.str b:=fun b e=>by subst e;rcases hv with⟨_,e⟩ | ⟨_,_,e,_⟩ <;> cases e
 have hap:apA sz byt (.sl sz true []) v h=apX sz byt (.sl sz true []) es 0 h:=by
  unfold apA;rcases hv with⟨_,rfl⟩ | ⟨_,_,rfl,_⟩ <;> simp only[h1,h2,Fs] <;> rfl
 rw[hap];have e1:Bu sz (.sl sz true [])=true:=by simp[Bu,BF]
 have hbb:(0+es.length) * byt<=17592186044416:=Cz (Lm (show 0+es.length<=1048577 by omega) hb) (by decide);cases l with
 | nil=>
  have:es=[]:=EH h3;subst this;exact .inl ⟨rfl,by simp[apX,e1,h0,GB]⟩
 | cons x r=>
  refine .inr ⟨by simp,?_⟩;have hne:es≠[]:=fun e=>by rw[e]at h3;simp at h3
  obtain⟨y,ys,rfl⟩:∃ y ys,es=y::ys:=by cases es with | nil=>exact absurd rfl hne | cons y ys=>exact⟨y,ys,rfl⟩
  simp only[DC,DW]at hbb h3 hl;simp[apX,e1,h0,hbb,show ys.length<=17592186044415 by omega,Aw]
theorem LA(a:Bytes)(e:List AV)(h:C2 a e):AF e=true:=by cases h;rfl
theorem c80{l:List Bytes}{v:AV}(hv:SlR C2 1 l v)(hl:l.length<1048577):∃ w,SlR C2 1 l w/\∀ h,AH MX (AG MX) 80 [v] h=some (.ret w,h):=by
 obtain⟨es,h1,h2,h3⟩:=KP (byt:=16) hv (by decide) (by decide) hl [];rcases h3 with⟨hn,h3⟩ | ⟨hn,h3⟩
 .exact⟨.sl 1 true [],.inr ⟨true,[],rfl,by simp[hn],fun i a e h _=>by simp[hn]at h⟩,fun h=>Ae VC Ya (by simp[hv.AA]) rfl (hr:=[]) (by simp[AJ,f80,bsA,Ag,h3]) h⟩
 .have hs:=BN h1 h2 LA;have hne:es≠[]:=fun e=>by rw[e]at h1;exact hn (EH h1.symm)
  have hacc:Ak 1 ([]:AE).length [.arr 1 false es] (.hs 0 es.length 1 0 es.length false) es:=.inr ⟨0,hne,by simp,rfl⟩;exact⟨.sl 1 false es,Ak.rep h1 h2 _,fun h=>Jj VC Ya (by simp[hv.AA]) rfl (hacc.snap (n:=9999999) hs hne) rfl (hr:=[.arr 1 false es]) (by simp[AJ,f80,bsA,Ag,h3]) h⟩
theorem c142(t:TyV):∀(xs:List AV),AU t xs->Sm 1048577 t->∃ ys,AU t ys/\∀ h,AH MX (AG MX) 142 [.agg xs] h=some (.ret (.agg ys),h):=by
 induction t using TyV.ind with
 | h k v nm ps ih=>
  intro xs hx hs;have hn:([AV.agg xs]:List AV).all AV.AA=true:=by simp[AV.AA,hx.AF]
  obtain⟨pv,rfl,hp⟩:=hx.dest;obtain⟨s1,s2,s3⟩:=hs.dest;have hb:=Wt;simp[Ab,Az,f142]at hb;obtain⟨e,st,hlp,hq⟩:=AQ (M:=MX) (fid:=142) (N:=26) (C:=AG MX) (c:=AL f142 0) (n:=ps.length)
   (fun i (b:AV×AE×List (List AV))=>([(1,.hp 0 0),(2,.hp 1 0),(3,.hp 2 0),(4,.int .i64 i)],Blk.var false [AV.int .i64 k,AV.int .i64 v,AV.str nm,pv]::Blk.var false [AV.int .i64 0,AV.int .i64 0,AV.str [],AV.AI]::Blk.var false [AV.int .i64 k,AV.int .i64 v,AV.str nm,b.1]::b.2.1))
   (fun i b=>Ak 4 3 b.2.1 b.1 b.2.2/\b.2.2.length=(ps.take i).length/\∀(j:Nat) t e,(ps.take i)[j]? = some t->b.2.2[j]? = some e->AU t e)
   (fun r=>∃ b:AV×AE×List (List AV),r=(.ext 0,([(1,.hp 0 0),(2,.hp 1 0),(3,.hp 2 0),(4,.int .i64 ps.length),(11,.bool false)],Blk.var false [AV.int .i64 k,AV.int .i64 v,AV.str nm,pv]::Blk.var false [AV.int .i64 0,AV.int .i64 0,AV.str [],AV.AI]::Blk.var false [AV.int .i64 k,AV.int .i64 v,AV.str nm,b.1]::b.2.1)) /\
     Ak 4 3 b.2.1 b.1 b.2.2/\b.2.2.length=ps.length/\∀(j:Nat) t e,ps[j]? = some t->b.2.2[j]? = some e->AU t e) (fun i b hi hI=>by
     obtain⟨a,rest,es⟩:=b;obtain⟨i1,i2,i3⟩:=hI;simp only at i1 i2 i3;obtain⟨e,he,hR⟩:=hp.ix hi;have hi':=Aa hi;have hw:=AZ hi s2;obtain⟨ys,hys,hcall⟩:=ih ps[i] (An hi) e hR (s3 _ (An hi));have htk:ps.take i++[ps[i]]=ps.take (i+1):=(by simp);obtain⟨j1,j2⟩:=EU i2 i3 hys;rw[htk]at j1 j2;have hlen:es.length<16777215:=(by rw[i2];simp;omega);obtain⟨a',rest',hap,hacc⟩:=Ak.push (byt:=56) (P:=[Blk.var false [AV.int .i64 k,AV.int .i64 v,AV.str nm,pv],Blk.var false [AV.int .i64 0,AV.int .i64 0,AV.str [],AV.AI],Blk.var false [AV.int .i64 k,AV.int .i64 v,AV.str nm,a]]) ys true i1 (by decide) (by decide) hlen;simp only[Ej,Ev]at hap;have hyn:=hys.AF;have hyl:=hys.len;obtain⟨qv,rfl,hqv⟩:=hR.AY;exact .inl ⟨(a',rest',es++[ys]),by simp[f142,hp.len,hi',he,hcall,bsA,Ag,List.replicate,hyl,hyn,hap,hacc.cells,hw,hb,AF,AV.AA,hqv.AA],hacc,j1,j2⟩) (fun b hI=>by
     obtain⟨a,rest,es⟩:=b;obtain⟨i1,i2,i3⟩:=hI;rw[Gu]at i2 i3;exact⟨_,_,by simp[f142,hp.len] <;> first | exact⟨rfl,rfl⟩ | rfl,by simp,(a,rest,es),rfl,i1,i2,i3⟩) (.AI,[],[]) ⟨.nil _ _ _,by simp,fun j t e h=>by simp at h⟩
  obtain⟨⟨a,rest,es⟩,hq,i1,i2,i3⟩:=hq;cases hq;simp[f142]at hlp;have hrun:AJ MX 142 [.agg [.int .i64 k,.int .i64 v,.str nm,pv]] []=some (.ret (.agg [.int .i64 k,.int .i64 v,.str nm,a]),[Blk.var false [AV.int .i64 k,AV.int .i64 v,AV.str nm,pv],Blk.var false [AV.int .i64 k,AV.int .i64 v,AV.str nm,a],Blk.var false [AV.int .i64 k,AV.int .i64 v,AV.str nm,a]]++rest):=by
   simp[AJ,f142,hlp,DS]
  have hsn:=BN i2 i3 (fun a e h=>h.AF);obtain⟨v',rest',hsa,hv'⟩:=Ak.OK (P:=[Blk.var false [AV.int .i64 k,AV.int .i64 v,AV.str nm,pv],Blk.var false [AV.int .i64 k,AV.int .i64 v,AV.str nm,a],Blk.var false [AV.int .i64 k,AV.int .i64 v,AV.str nm,a]]) i1 hsn;have hrep:SlR AU 4 ps v':=by
   rcases hv' with⟨h1,rfl⟩ | rfl
   .exact .inl ⟨EH (by rw[<- i2,h1];rfl),rfl⟩
   .exact Ak.rep i2 i3 false
  refine⟨_,AU.intro hrep,fun h => ?_⟩;cases hna:a.AA with
  | true=>
   have:a=v':=by
    have h1:=i1.AA;rw[hna]at h1;have h2:es=[]:=(by cases es with | nil=>rfl | cons=>cases h1);rcases i1 with⟨_,h3⟩ | ⟨_,h3,_⟩
    .rcases hv' with⟨_,h4⟩ | h4
     .rw[h4];exact h3
     .have:=hsa 0;simp only at h3;subst h3;cases this;rfl
    .exact absurd h2 h3
   subst this;exact Ae SC VL hn (by simp[AV.AA,AF,hna]) hrun h
  | false=>
   exact Jj SC VL hn (by simp[AV.AA,AF,hna]) ((BC.agg (by simp[AF,AV.AA,hna]) (.cons (.flat rfl _) (.cons (.flat rfl _) (.cons (.flat rfl _) (.cons hsa (.nil _)))))).at (by decide)) (by simp[AV.AA,AF,hrep.AA]) hrun h
theorem Jk{f:FuncId}{args:List AV}{v v':AV}{hr hr':AE}{K:Nat}(hm:MX.mode f = { fresh:=true })(he:MX.eff f=none)(ha:args.all AV.AA=true)(hs:BC K v hr v' hr')(hk:K<=C0)(hv':v'.AA=true)(heq:v.AA=true->v=v')(hc:AJ MX f args []=some (.ret v,hr))(h:AE) :
 AH MX (AG MX) f args h=some (.ret v',h):=by
 cases hv:v.AA with
 | true=>have:=heq hv;subst this;exact Ae hm he ha hv hc h
 | false=>exact Jj hm he ha hv (hs.at hk) hv' hc h
theorem JQ{α:Type}{R:α->List AV->Prop}{l:List α}{sz:Nat}{P rest:AE}{a:AV}{es:List (List AV)}(hR:∀ a e,R a e->AF e=true)(h:Ak sz P.length rest a es)(hl:es.length=l.length)(hr:∀(i:Nat) a e,l[i]? = some a->es[i]? = some e->R a e) :
 ∃ v' rest',BC 1 a (P++rest) v' (P++rest')/\SlR R sz l v'/\(a.AA=true->a=v'):=by
 have hn:=BN hl hr hR;by_cases h0:es=[]
 .rcases h with⟨_,rfl⟩ | ⟨_,h1,_⟩
  .exact⟨.AI,rest,fun n=>rfl,.inl ⟨EH (by rw[<- hl,h0];rfl),rfl⟩,fun _=>rfl⟩
  .exact absurd h0 h1
 .refine⟨_,_,fun n=>h.snap hn h0,Ak.rep hl hr false,fun hna => ?_⟩;rw[h.AA]at hna;cases es with
  | nil=>exact absurd rfl h0
  | cons=>cases hna
theorem Fi(a:DB)(e:List AV)(h:Bw a e):AF e=true:=by
 obtain⟨pv,rfl,hp⟩:=h.dest;simp[AF,AV.AA,hp.AA]
theorem HG(a:CZ)(e:List AV)(h:Ed a e):AF e=true:=by
 obtain⟨pv,rfl,hp⟩:=h.dest;simp[AF,AV.AA,hp.AA]
theorem Cf{α:Type}{l:List α}{i:Nat}(hi:i<l.length):l.take i++[l[i]]=l.take (i+1):=by simp
theorem c81{l:List DB}{v:AV}(hv:SlR Bw 5 l v)(hl:l.length<1048577)(hs:∀ f∈l,Sm 1048577 f.ty):∃ w,SlR Bw 5 l w/\∀ h,AH MX (AG MX) 81 [v] h=some (.ret w,h):=by
 have hb:=Zu;simp[Ab,Az,f81]at hb;obtain⟨e,st,hlp,hq⟩:=AQ (M:=MX) (fid:=81) (N:=27) (C:=AG MX) (c:=AL f81 0) (n:=l.length)
  (fun i (b:AV×AE×List (List AV))=>([(0,v),(3,b.1),(4,.int .i64 i)],b.2.1))
  (fun i b=>Ak 5 0 b.2.1 b.1 b.2.2/\b.2.2.length=(l.take i).length/\∀(j:Nat) t e,(l.take i)[j]? = some t->b.2.2[j]? = some e->Bw t e)
  (fun r=>∃ b:AV×AE×List (List AV),r=(.ext 0,([(0,v),(3,b.1),(4,.int .i64 l.length),(8,.bool false)],b.2.1)) /\
    Ak 5 0 b.2.1 b.1 b.2.2/\b.2.2.length=l.length/\∀(j:Nat) t e,l[j]? = some t->b.2.2[j]? = some e->Bw t e) (fun i b hi hI=>by
    obtain⟨a,rest,es⟩:=b;obtain⟨i1,i2,i3⟩:=hI;simp only at i1 i2 i3;obtain⟨e,he,hR⟩:=hv.ix hi;have hi':=Aa hi;have hw:=AZ hi hl;obtain⟨tx,rfl,ht⟩:=hR;obtain⟨ys,hys,hcall⟩:=c142 l[i].ty tx ht (hs _ (An hi));have hyf:Bw l[i] (.str l[i].nm::ys):=⟨ys,rfl,hys⟩;obtain⟨j1,j2⟩:=EU i2 i3 hyf;rw[Cf hi]at j1 j2;have hlen:es.length<16777215:=(by rw[i2];simp;omega);obtain⟨a',rest',hap,hacc⟩:=Ak.push (byt:=72) (P:=[]) (.str l[i].nm::ys) true i1 (by decide) (by decide) hlen;simp only[Ev]at hap;obtain⟨q,rfl,hq⟩:=hys.AY;obtain⟨q',rfl,hq'⟩:=ht.AY;exact .inl ⟨(a',rest',es++[.str l[i].nm::[.int .i64 l[i].ty.k,.int .i64 l[i].ty.v,.str l[i].ty.nm,q]]),by simp[f81,hv.len,hi',he,hcall,bsA,Ag,List.replicate,hap,hw,hb,AF,AV.AA,hq.AA,hq'.AA],hacc,j1,j2⟩) (fun b hI=>by
    obtain⟨a,rest,es⟩:=b;obtain⟨i1,i2,i3⟩:=hI;rw[Gu]at i2 i3;exact⟨_,_,by simp[f81,hv.len] <;> first | exact⟨rfl,rfl⟩ | rfl,by simp,(a,rest,es),rfl,i1,i2,i3⟩) (.AI,[],[]) ⟨.nil _ _ _,by simp,fun j t e h=>by simp at h⟩
 obtain⟨⟨a,rest,es⟩,hq,i1,i2,i3⟩:=hq;cases hq;simp[f81]at hlp;obtain⟨v',rest',hsn,hrep,heq⟩:=JQ (P:=[]) Fi i1 i2 i3;exact⟨v',hrep,fun h=>Jk cB iD (by simp[hv.AA]) hsn (by decide) hrep.AA heq (by simp[AJ,f81,hlp]) h⟩
theorem Q3{sz byt:Nat}{rest:AE}{a:AV}{es xs:List (List AV)}{x:AV}(h:Ak sz 0 rest a es)(hx:Ax rest x=some xs)(hs:Bu sz x=true)(hnx:∀ b,x≠.str b)(hxs:xs≠[])(h0:0<sz)(hb:byt<=1024)(hn:es.length+xs.length<16777216) :
 ∃ a' rest',apA sz byt a x rest=some (a',rest')/\Ak sz 0 rest' a' (es++xs)/\∀(id:Nat) (b:Blk),rest[id]? = some b->(∀ lk es,b≠Blk.arr sz lk es)->rest'[id]? = some b:=by
 have hbb:(es.length+xs.length) * byt<=17592186044416:=Cz (Lm (Jg hn) hb) (by decide);have hap:∀ n,Fs a=some n->apA sz byt a x rest=apX sz byt a xs n rest:=fun n hl=>by
  unfold apA;cases x with
  | str b=>exact absurd rfl (hnx b)
  | _=>first | simp only[hs,hx,hl] | (simp only[Ax]at hx;cases hx)
 obtain⟨y,ys,rfl⟩:∃ y ys,xs=y::ys:=by cases xs with | nil=>exact absurd rfl hxs | cons y ys=>exact⟨y,ys,rfl⟩
 rcases h with⟨rfl,rfl⟩ | ⟨j,hne,rfl,h2⟩
 .refine⟨.hs rest.length (ys.length+1) sz 0 (ys.length+1) false,rest++[.arr sz false (y::ys)],?_,.inr ⟨rest.length,by simp,by simp,by simp⟩,fun id b hid _=>Af hid _⟩;rw[hap 0 rfl];have e1:Bu sz AV.AI=true:=rfl;have h2:=hbb;simp only[Jd,DW,DC]at h2 hn;simp[apX,e1,h0,h2,show ys.length<=17592186044415 by omega,Aw]
 .have hj:=(Ac.1 h2).1;simp only[DW]at hap ⊢;refine⟨.hs j (es.length+(ys.length+1)) sz 0 (es.length+(ys.length+1)) false,rest.set j (.arr sz false (es++y::ys)),?_,.inr ⟨j,by simp,by simp,by simp[hj]⟩,fun id b hid hbn => ?_⟩
  .rw[hap es.length rfl];have e1:Bu sz (.hs j es.length sz 0 es.length false)=true:=(by simp[Bu,BF]);simp only[DC]at hbb hn;simp[apX,e1,h0,hbb,show es.length+(ys.length+1)<=17592186044416 by omega,h2]
  .by_cases hij:j=id
   .subst hij;rw[h2]at hid;simp only[AM]at hid;exact absurd hid.symm (hbn _ _)
   .rw[BP hij];exact hid
def K1(sz:Nat)(H:AE)(a:AV)(es:List (List AV)):Prop:=(es=[]/\a=.AI)\/∃ id lk,es≠[]/\a=.hs id es.length sz 0 es.length false/\H[id]? = some (.arr sz lk es)
def CY(H H':AE):Prop:=∀(id:Nat) sz lk (es:List (List AV)),H[id]? = some (.arr sz lk es)->es.all AF=true->∃ lk',H'[id]? = some (.arr sz lk' es)
def GJ(H H':AE):Prop:=∀(id:Nat) sz lk (es:List (List AV)),H[id]? = some (.arr sz lk es)->∃ lk' es',H'[id]? = some (.arr sz lk' es')/\es'.length=es.length
theorem GJ.refl(H:AE):GJ H H:=fun _ _ lk es h=>⟨lk,es,h,rfl⟩
theorem GJ.trans{A B C:AE}(h:GJ A B)(k:GJ B C):GJ A C:=fun id sz lk es hh=>by
 obtain⟨lk',es',h1,h2⟩:=h id sz lk es hh;obtain⟨lk2,es2,h3,h4⟩:=k id sz lk' es' h1;exact⟨lk2,es2,h3,by rw[h4,h2]⟩
theorem CY.refl(H:AE):CY H H:=fun _ _ lk _ h _=>⟨lk,h⟩
theorem CY.trans{A B C:AE}(h:CY A B)(k:CY B C):CY A C:=fun id sz lk es hh hn=>by
 obtain⟨lk',h1⟩:=h id sz lk es hh hn;exact k id sz lk' es h1 hn
theorem K1.keeps{sz:Nat}{H H':AE}{a:AV}{es:List (List AV)}(h:K1 sz H a es)(hn:es.all AF=true)(k:CY H H'):K1 sz H' a es:=by
 rcases h with h | ⟨id,lk,h0,h1,h2⟩
 .exact .inl h
 .obtain⟨lk',h3⟩:=k id sz lk es h2 hn;exact .inr ⟨id,lk',h0,h1,h3⟩
theorem K1.snap{α:Type}{R:α->List AV->Prop}{l:List α}{sz:Nat}{H:AE}{a:AV}{es:List (List AV)}(hR:∀ a e,R a e->AF e=true)(h:K1 sz H a es)(hl:es.length=l.length)(hr:∀(i:Nat) a e,l[i]? = some a->es[i]? = some e->R a e) :
 ∃ v' H',BC 1 a H v' H'/\SlR R sz l v'/\CY H H'/\GJ H H':=by
 have hn:=BN hl hr hR;rcases h with⟨h0,rfl⟩ | ⟨id,lk,h0,rfl,h2⟩
 .exact⟨.AI,H,fun n=>rfl,.inl ⟨EH (by rw[<- hl,h0];rfl),rfl⟩,CY.refl H,GJ.refl H⟩
 .refine⟨.sl sz false es,H.set id (.arr sz true es),fun n => ?_,Ak.rep hl hr false,fun id' sz' lk' es' h3 h4 => ?_,fun id' sz' lk' es' h3 => ?_⟩
  .have hb:(Nat.beq es.length es.length&&Nat.beq sz sz&&Nat.ble (0+es.length) es.length&&es.all AF)=true:=(by simp[A6,hn]);simp only[Am.snap,h2,hb];simp
  .by_cases hij:id=id'
   .subst hij;rw[h2]at h3;simp only[AM,Blk.arr.injEq]at h3;obtain⟨rfl,_,rfl⟩:=h3;exact⟨true,CM (Ac.1 h2).1⟩
   .exact⟨lk',by rw[BP hij];exact h3⟩
  .by_cases hij:id=id'
   .subst hij;rw[h2]at h3;simp only[AM,Blk.arr.injEq]at h3;obtain⟨rfl,_,rfl⟩:=h3;exact⟨true,es,CM (Ac.1 h2).1,rfl⟩
   .exact⟨lk',es',by rw[BP hij];exact h3,rfl⟩
def F2(H:AE)(d:AK)(e:List AV):Prop:=∃ pw ca ces,e=[.str d.nm,pw,ca]/\SlR C2 1 d.params pw/\K1 2 H ca ces/\ces.length=d.cons.length/\∀(j:Nat) t e,d.cons[j]? = some t->ces[j]? = some e->Ed t e
theorem F2.keeps{H H':AE}{d:AK}{e:List AV}(h:F2 H d e)(k:CY H H'):F2 H' d e:=by
 obtain⟨pw,ca,ces,h1,h2,h3,h4,h5⟩:=h;exact⟨pw,ca,ces,h1,h2,h3.keeps (BN h4 h5 HG) k,h4,h5⟩
theorem F2.snap{H:AE}{d:AK}{e:List AV}(h:F2 H d e):∃ e' H',BK 4 e H e' H'/\Ah d e'/\CY H H'/\GJ H H':=by
 obtain⟨pw,ca,ces,rfl,h2,h3,h4,h5⟩:=h;obtain⟨v',H',s1,s2,s3,s4⟩:=h3.snap HG h4 h5;have hpw:pw.flat=true:=by rcases h2 with⟨_,rfl⟩ | ⟨_,_,rfl,_⟩ <;> rfl
 exact⟨[.str d.nm,pw,v'],H',.cons (.flat rfl _) (.cons (.flat hpw _) (.cons s1 (.nil _))),⟨pw,v',rfl,h2,s2⟩,s3,s4⟩
theorem Ob:∀{l:List AK} {es:List (List AV)} {H:AE},es.length=l.length->(∀(j:Nat) d e,l[j]? = some d->es[j]? = some e->F2 H d e) ->
 ∃ es' H',CS (5+l.length) es H es' H'/\es'.length=l.length/\(∀(j:Nat) d e,l[j]? = some d->es'[j]? = some e->Ah d e)/\CY H H'/\GJ H H'
 | [],[],H,_,_=>⟨[],H,(CS.nil H).mono (by decide),rfl,fun j d e h=>by simp at h,CY.refl H,GJ.refl H⟩
 | d::l,e::es,H,hl,hp=>by
  obtain⟨e',H1,s1,s2,s3,s4⟩:=(hp 0 d e rfl rfl).snap;obtain⟨es',H2,t1,t2,t3,t4,t5⟩:=Ob (l:=l) (es:=es) (H:=H1) (by simpa using hl) (fun j d' e' h1 h2=>(hp (j+1) d' e' (by simpa using h1) (by simpa using h2)).keeps s3);refine⟨e'::es',H2,(CS.cons s1 t1).mono (by simp only[DC];omega),by simp[t2],fun j d' e'' h1 h2 => ?_,s3.trans t4,s4.trans t5⟩;cases j with
  | zero=>simp at h1 h2;exact h1 ▸ h2 ▸ s2
  | succ j=>exact t3 j d' e'' (by simpa using h1) (by simpa using h2)
 | [],_::_,_,hl,_=>by simp at hl
 | _::_,[],_,hl,_=>by simp at hl
theorem c31{l:List AK}{v:AV}(hv:SlR Ah 3 l v)(hsl:SmL 1048577 l):∃ w,SlR Ah 3 l w/\∀ h,AH MX (AG MX) 31 [v] h=some (.ret w,h):=by
 have hb5:=Zr;simp[Ab,Az,f31]at hb5;have hb10:=WZ;simp[Ab,Az,f31]at hb10;obtain⟨e,st,hlp,hq⟩:=AQ (M:=MX) (fid:=31) (N:=60) (C:=AG MX) (c:=AL f31 0) (n:=l.length)
  (fun i (b:AV×AE×List (List AV))=>([(0,v),(3,b.1),(4,.int .i64 i)],b.2.1))
  (fun i b=>Ak 3 0 b.2.1 b.1 b.2.2/\b.2.2.length=(l.take i).length/\∀(j:Nat) t e,(l.take i)[j]? = some t->b.2.2[j]? = some e->F2 b.2.1 t e)
  (fun r=>∃ b:AV×AE×List (List AV),r=(.ext 0,([(0,v),(3,b.1),(4,.int .i64 l.length),(11,.bool false)],b.2.1)) /\
    Ak 3 0 b.2.1 b.1 b.2.2/\b.2.2.length=l.length/\∀(j:Nat) t e,l[j]? = some t->b.2.2[j]? = some e->F2 b.2.1 t e) (fun i b hi hI=>by
    obtain⟨a,pre,es⟩:=b;obtain⟨i1,i2,i3⟩:=hI;simp only at i1 i2 i3;obtain⟨e,he,hR⟩:=hv.ix hi;have hi':=Aa hi;have hw:=AZ hi hsl.1;have hsd:=hsl.2 _ (An hi);obtain⟨s1,s2,s3,s4,s5⟩:=hsd;obtain⟨pv,cv,rfl,hp,hc⟩:=hR.dest;obtain⟨pw,hpw,h80⟩:=c80 hp s2;obtain⟨e2,st2,hlp2,hq2⟩:=AQ (M:=MX) (fid:=31) (N:=60) (C:=AG MX) (c:=AL f31 1) (n:=l[i].cons.length)
     (fun k (b:AV×AE×List (List AV))=>([(0,v),(3,a),(4,.int .i64 i),(5,.hp pre.length 0),(6,.int .i64 k)],pre++Blk.var false [AV.str l[i].nm,pw,b.1]::b.2.1))
     (fun k b=>Ak 2 (pre.length+1) b.2.1 b.1 b.2.2/\b.2.2.length=(l[i].cons.take k).length/\∀(j:Nat) t e,(l[i].cons.take k)[j]? = some t->b.2.2[j]? = some e->Ed t e)
     (fun r=>∃ b:AV×AE×List (List AV),r=(.ext 2,([(0,v),(3,a),(4,.int .i64 i),(5,.hp pre.length 0),(6,.int .i64 l[i].cons.length),(33,.bool false)],pre++Blk.var false [AV.str l[i].nm,pw,b.1]::b.2.1)) /\
       Ak 2 (pre.length+1) b.2.1 b.1 b.2.2/\b.2.2.length=l[i].cons.length/\∀(j:Nat) t e,l[i].cons[j]? = some t->b.2.2[j]? = some e->Ed t e) (fun k b hk hK=>by
       obtain⟨ca,rest,ces⟩:=b;obtain⟨k1,k2,k3⟩:=hK;simp only at k1 k2 k3;obtain⟨e',he',hR'⟩:=hc.ix hk;have hk':=Aa hk;have hwk:=AZ hk s4;have hsc:=s5 _ (An hk);obtain⟨fv,rfl,hf⟩:=hR'.dest;obtain⟨fw,hfw,h81⟩:=c81 hf hsc.2.1 (fun f hf=>(hsc.2.2 f hf).2);have hcr:Ed l[i].cons[k] [.str l[i].cons[k].nm,fw]:=⟨fw,rfl,hfw⟩;obtain⟨j1,j2⟩:=EU k2 k3 hcr;rw[Cf hk]at j1 j2;have hlen:ces.length<16777215:=(by rw[k2,GH];exact Hf (My _ _) (Jb s4 (by decide)));have k1':=k1.grow [Blk.var false [AV.str l[i].cons[k].nm,fv]];have hPl:(pre++[Blk.var false [AV.str l[i].nm,pw,ca]]).length=pre.length+1:=(by simp);obtain⟨ca',rest',hap,hacc⟩:=Ak.push (byt:=40) (P:=pre++[Blk.var false [AV.str l[i].nm,pw,ca]]) [.str l[i].cons[k].nm,fw] true (by rw[hPl];exact k1') (by decide) (by decide) hlen;rw[hPl]at hacc;simp only[CO,Ej,Ev]at hap;exact .inl ⟨(ca',rest',ces++[[.str l[i].cons[k].nm,fw]]),by simp[f31,hv.len,hi',he,hc.len,hk',he',h81,bsA,Ag,List.replicate,hap,hwk,hb10,AF,AV.AA,hf.AA,hfw.AA,hfw.cells,hacc.cells],hacc,j1,j2⟩) (fun b hK=>by
       obtain⟨ca,rest,ces⟩:=b;obtain⟨k1,k2,k3⟩:=hK;rw[Gu]at k2 k3;exact⟨_,_,by simp[f31,hi',he,hc.len] <;> first | exact⟨rfl,rfl⟩ | rfl,by simp,(ca,rest,ces),rfl,k1,k2,k3⟩) (.AI,[],[]) ⟨.nil _ _ _,by simp,fun j t e h=>by simp at h⟩
    obtain⟨⟨ca,rest,ces⟩,hq2,k1,k2,k3⟩:=hq2;cases hq2;simp[f31]at hlp2;have hpl:ces.length=l[i].cons.length:=k2;have hlen:es.length<16777215:=(by rw[i2];exact Hf (List.length_take_le _ _) (by have:=hsl.1;omega));have hca:K1 2 (pre++Blk.var false [AV.str l[i].nm,pw,ca]::rest) ca ces:=by
     rcases k1 with h | ⟨j,h0,h1,h2⟩
     .exact .inl h
     .exact .inr ⟨pre.length+1+j,false,h0,h1,by rw[En (by omega),show pre.length+1+j - pre.length=j+1 by omega];simpa using h2⟩
    have IJ:∀(A L:AE),CY A (A++L):=fun A L id sz lk es h _=>⟨lk,Af h L⟩
    have fin:∀(H:AE) (x:AV),CY (pre++Blk.var false [AV.str l[i].nm,pw,ca]::rest) H->Ak 3 0 H a es->Ax H x=some [[AV.str l[i].nm,pw,ca]]->Bu 3 x=true->(∀ b,x≠.str b) ->
     ∃ a' H',apA 3 64 a x H=some (a',H')/\Ak 3 0 H' a' (es++[[AV.str l[i].nm,pw,ca]])/\(es++[[AV.str l[i].nm,pw,ca]]).length=(l.take (i+1)).length/\∀(j:Nat) t e,(l.take (i+1))[j]? = some t->(es++[[AV.str l[i].nm,pw,ca]])[j]? = some e->F2 H' t e:=by
     intro H x hk hacc hrd hsz hst;obtain⟨a',H',h1,h2,h3⟩:=Q3 (byt:=64) hacc hrd hsz hst (by simp) (by decide) (by decide) (by simp;omega);have e0:F2 (pre++Blk.var false [AV.str l[i].nm,pw,ca]::rest) l[i] [AV.str l[i].nm,pw,ca]:=⟨pw,ca,ces,rfl,hpw,hca,k2,k3⟩;obtain⟨j1,j2⟩:=EU (R:=F2 (pre++Blk.var false [AV.str l[i].nm,pw,ca]::rest)) i2 (fun j t e g1 g2=>(i3 j t e g1 g2).keeps (IJ _ _)) e0;rw[Cf hi]at j1 j2;have keepP:∀ t e,F2 H t e->F2 H' t e:=fun t e h=>by
      obtain⟨q1,q2,q3,q4,q5,q6,q7,q8⟩:=h;refine⟨q1,q2,q3,q4,q5,?_,q7,q8⟩;rcases q6 with h | ⟨id,lk,g0,g1,g2⟩
      .exact .inl h
      .exact .inr ⟨id,lk,g0,g1,h3 id _ g2 (fun lk' es' e=>by cases e)⟩
     exact⟨a',H',h1,h2,j1,fun j t e g1 g2=>keepP t e ((j2 j t e g1 g2).keeps hk)⟩
    have i1':=i1.grow (Blk.var false [AV.str l[i].nm,pw,ca]::rest);cases hna:ca.AA with
    | true=>
     obtain⟨a',H',f1,f2,f3,f4⟩:=fin _ (.sl 3 true [[AV.str l[i].nm,pw,ca]]) (CY.refl _) i1' rfl (by simp[Bu,BF]) (fun b h=>by cases h);exact .inl ⟨(a',H',es++[[AV.str l[i].nm,pw,ca]]),by simp[f31,hv.len,hi',he,h80,hpw.cells,hb5,AF,AV.AA,hp.AA,hpw.AA,hna,hlp2,bsA,Ag,List.replicate,f1,hw],f2,f3,f4⟩
    | false=>
     obtain⟨a',H',f1,f2,f3,f4⟩:=fin ((pre++Blk.var false [AV.str l[i].nm,pw,ca]::rest)++[Blk.arr 3 false [[AV.str l[i].nm,pw,ca]]]) (.hs (pre++Blk.var false [AV.str l[i].nm,pw,ca]::rest).length 1 3 0 1 false) (IJ _ _) (by have:=i1.grow ((Blk.var false [AV.str l[i].nm,pw,ca]::rest)++[Blk.arr 3 false [[AV.str l[i].nm,pw,ca]]]);rwa [<- CO]at this)
      (by simp only[Ax,BD];simp) (by simp[Bu,BF]) (fun b h=>by cases h)
     simp at f1;exact .inl ⟨(a',H',es++[[AV.str l[i].nm,pw,ca]]),by simp[f31,hv.len,hi',he,h80,hpw.cells,hb5,AF,AV.AA,hp.AA,hpw.AA,hna,hlp2,bsA,Ag,List.replicate,Aw,f1,hw],f2,f3,f4⟩) (fun b hI=>by
    obtain⟨a,rest,es⟩:=b;obtain⟨i1,i2,i3⟩:=hI;rw[Gu]at i2 i3;exact⟨_,_,by simp[f31,hv.len] <;> first | exact⟨rfl,rfl⟩ | rfl,by simp,(a,rest,es),rfl,i1,i2,i3⟩) (.AI,[],[]) ⟨.nil _ _ _,by simp,fun j t e h=>by simp at h⟩
 obtain⟨⟨a,rest,es⟩,hq,i1,i2,i3⟩:=hq;cases hq;simp[f31]at hlp;have hrun:AJ MX 31 [v] []=some (.ret a,rest):=by simp[AJ,f31,hlp]
 simp only at i1 i2 i3;rcases i1 with⟨h0,rfl⟩ | ⟨j,h0,rfl,h2⟩
 .have:l=[]:=EH (by rw[<- i2,h0];rfl);exact⟨.AI,.inl ⟨this,rfl⟩,fun h=>Ae Qo T3 (by simp[hv.AA]) rfl hrun h⟩
 .obtain⟨es',H',s1,s2,s3,s4,s5⟩:=Ob i2 i3;simp only[DW]at hrun;have hjl:=(Ac.1 h2).1;by_cases hall:es.all AF=true
  .have hacc:Ak 3 ([]:AE).length rest (.hs j es.length 3 0 es.length false) es:=.inr ⟨j,h0,by simp,h2⟩;have hrep:∀(k:Nat) d e,l[k]? = some d->es[k]? = some e->Ah d e:=fun k d e g1 g2=>by
    obtain⟨pw,ca,ces,rfl,q1,q2,q3,q4⟩:=i3 k d e g1 g2;have hne:AF [AV.str d.nm,pw,ca]=true:=ER.1 hall _ (Bs g2);rcases q2 with⟨q5,rfl⟩ | ⟨_,_,_,rfl,_⟩
    .exact⟨pw,.AI,rfl,q1,.inl ⟨EH (by rw[<- q3,q5];rfl),rfl⟩⟩
    .simp[AF,AV.AA]at hne
   exact⟨_,Ak.rep i2 hrep false,fun h=>Jj Qo T3 (by simp[hv.AA]) rfl (hacc.snap (n:=9999999) hall h0) rfl hrun h⟩
  .obtain⟨lk2,es2,hk2,hkl⟩:=s5 j 3 false es h2;refine⟨_,Ak.rep s2 s3 false,fun h=>Jj Qo T3 (by simp[hv.AA]) rfl (hr':=H'.set j (.arr 3 true es')) ?_ rfl hrun h⟩;have hse:GS (C0 - 1) es rest=some (es',H'):=by
    have h9:=(s1.mono (show 5+l.length<=C0 - 1 by have:=hsl.1;simp only[C0];omega)) 0
    rwa [DW]at h9
   have ha:es.all AF=false:=(by simpa using hall);have hb1:(Nat.beq es.length es.length&&Nat.beq 3 3&&Nat.ble (0+es.length) es.length&&es.all AF)=false:=(by simp[A6,ha]);have hb2:(Nat.beq es.length es.length&&Nat.beq 3 3&&Nat.ble (0+es.length) es.length)=true:=(by simp[A6]);have hb3:(Nat.beq 3 3&&Nat.beq es2.length es.length)=true:=(by rw[hkl];simp);have hl':es'.length=es.length:=(by rw[s2,i2]);clear hb5 hb10 hlp;show snap ((C0 - 1)+1) _ _=_;simp only[snap,h2,hb1,hb2,hse,hk2,hb3];rw[<- hl'];simp[ha]
mutual
def Cc(params:List Bytes)(args:List TyV):TyV->TyV
 | .mk k v nm ps=>match(if k=0 then params.findIdx? (fun x=>x == nm)else none)with
  | some i=>args.getD i default
  | none=> .mk k v nm (Sg params args ps)
def Sg(params:List Bytes)(args:List TyV):List TyV->List TyV
 | []=>[]
 | p::r=>Cc params args p::Sg params args r
end
theorem Fk(params:List Bytes)(args:List TyV):∀ ps,Sg params args ps=ps.map (Cc params args)
 | []=>rfl
 | p::r=>by simp[Sg,Fk params args r]
theorem eD{b:Nat}{params:List Bytes}{args:List TyV}(ha:∀ a∈args,Sm b a)(h0:0<b)(t:TyV):Sm b t->Sm b (Cc params args t):=by
 induction t using TyV.ind with
 | h k v nm ps ih=>
  intro hs;obtain⟨s1,s2,s3⟩:=hs.dest;simp only[Cc];split
  .rename_i i _;rw[Lh];cases hi:args[i]? with
   | none=>exact .mk default default default default h0 h0 (fun p hp=>by cases hp)
   | some a=>exact ha a (Bs hi)
  .rw[Fk];exact .mk k v nm _ s1 (by simpa using s2) (fun p hp=>by
    obtain⟨q,hq,rfl⟩:=E3.1 hp;exact ih q hq (s3 q hq))
theorem c119{params:List Bytes}{pr:AV}(hpr:SlR C2 1 params pr)(hpl:params.length<1048577){args:List TyV}{av:AV}(har:SlR AU 4 args av)(has:∀ a∈args,Sm 1048577 a)(hpa:params.length<=args.length)(t:TyV) :
 ∀(xs:List AV),AU t xs->Sm 1048577 t->∃ ys,AU (Cc params args t) ys/\∀ h,AH MX (AG MX) 119 [.agg xs,pr,av] h=some (.ret (.agg ys),h):=by
 induction t using TyV.ind with
 | h k v nm ps ih=>
  intro xs hx hs;have hn:([AV.agg xs,pr,av]:List AV).all AV.AA=true:=by simp[AV.AA,hx.AF,hpr.AA,har.AA]
  obtain⟨pv,rfl,hp⟩:=hx.dest;obtain⟨s1,s2,s3⟩:=hs.dest;have hb5:=Wh;simp[Ab,Az,f119]at hb5;have hb:=T9;simp[Ab,Az,f119]at hb;obtain⟨e,st,hlp,hq⟩:=AQ (M:=MX) (fid:=119) (N:=54) (C:=AG MX) (c:=AL f119 1) (n:=ps.length)
   (fun i (b:AV×AE×List (List AV))=>([(1,pr),(2,av),(3,.hp 0 0),(6,.hp 1 0),(8,.hp 2 0),(9,.int .i64 i)],Blk.var false [AV.int .i64 k,AV.int .i64 v,AV.str nm,pv]::Blk.var false [AV.int .i64 0,AV.int .i64 0,AV.str [],AV.AI]::Blk.var false [AV.int .i64 k,AV.int .i64 v,AV.str nm,b.1]::b.2.1))
   (fun i b=>Ak 4 3 b.2.1 b.1 b.2.2/\b.2.2.length=((ps.map (Cc params args)).take i).length/\∀(j:Nat) t e,((ps.map (Cc params args)).take i)[j]? = some t->b.2.2[j]? = some e->AU t e)
   (fun r=>∃ b:AV×AE×List (List AV),r=(.ext 2,([(1,pr),(2,av),(3,.hp 0 0),(6,.hp 1 0),(8,.hp 2 0),(9,.int .i64 ps.length),(37,.bool false)],Blk.var false [AV.int .i64 k,AV.int .i64 v,AV.str nm,pv]::Blk.var false [AV.int .i64 0,AV.int .i64 0,AV.str [],AV.AI]::Blk.var false [AV.int .i64 k,AV.int .i64 v,AV.str nm,b.1]::b.2.1)) /\
     Ak 4 3 b.2.1 b.1 b.2.2/\b.2.2.length=(ps.map (Cc params args)).length/\∀(j:Nat) t e,(ps.map (Cc params args))[j]? = some t->b.2.2[j]? = some e->AU t e) (fun i b hi hI=>by
     obtain⟨a,rest,es⟩:=b;obtain⟨i1,i2,i3⟩:=hI;simp only at i1 i2 i3;obtain⟨e,he,hR⟩:=hp.ix hi;have hi':=Aa hi;have hw:=AZ hi s2;have him:i<(ps.map (Cc params args)).length:=(by simpa using hi);obtain⟨ys,hys,hcall⟩:=ih ps[i] (An hi) e hR (s3 _ (An hi));have hys':AU (ps.map (Cc params args))[i] ys:=(by simpa using hys);obtain⟨j1,j2⟩:=EU i2 i3 hys';rw[Cf him]at j1 j2;have hlen:es.length<16777215:=(by rw[i2,GH,FB];exact Hf (My _ _) (Jb s2 (by decide)));obtain⟨a',rest',hap,hacc⟩:=Ak.push (byt:=56) (P:=[Blk.var false [AV.int .i64 k,AV.int .i64 v,AV.str nm,pv],Blk.var false [AV.int .i64 0,AV.int .i64 0,AV.str [],AV.AI],Blk.var false [AV.int .i64 k,AV.int .i64 v,AV.str nm,a]]) ys true i1 (by decide) (by decide) hlen;simp only[Ej,Ev]at hap;have hyn:=hys.AF;have hyl:=hys.len;obtain⟨qv,rfl,hqv⟩:=hR.AY;exact .inl ⟨(a',rest',es++[ys]),by simp[f119,hp.len,hi',he,hcall,bsA,Ag,List.replicate,hyl,hyn,hap,hacc.cells,hw,hb,AF,AV.AA,hqv.AA,hpr.AA,har.AA],hacc,j1,j2⟩) (fun b hI=>by
     obtain⟨a,rest,es⟩:=b;obtain⟨i1,i2,i3⟩:=hI;rw[DU (by simp)]at i2 i3;exact⟨_,_,by simp[f119,hp.len] <;> first | exact⟨rfl,rfl⟩ | rfl,by simp,(a,rest,es),rfl,i1,i2,i3⟩) (.AI,[],[]) ⟨.nil _ _ _,by simp,fun j t e h=>by simp at h⟩
  obtain⟨⟨a,rest,es⟩,hq,i1,i2,i3⟩:=hq;cases hq;simp[f119]at hlp;obtain⟨v',rest',hsn,hrep,heq⟩:=JQ (P:=[Blk.var false [AV.int .i64 k,AV.int .i64 v,AV.str nm,pv],Blk.var false [AV.int .i64 k,AV.int .i64 v,AV.str nm,a],Blk.var false [AV.int .i64 k,AV.int .i64 v,AV.str nm,a]]) (fun a e h=>AU.AF h) i1 i2 i3;have fin:∀(hrun:AJ MX 119 [.agg [.int .i64 k,.int .i64 v,.str nm,pv],pr,av] []=some (.ret (.agg [.int .i64 k,.int .i64 v,.str nm,a]),[Blk.var false [AV.int .i64 k,AV.int .i64 v,AV.str nm,pv],Blk.var false [AV.int .i64 k,AV.int .i64 v,AV.str nm,a],Blk.var false [AV.int .i64 k,AV.int .i64 v,AV.str nm,a]]++rest)) h,
   AH MX (AG MX) 119 [.agg [.int .i64 k,.int .i64 v,.str nm,pv],pr,av] h=some (.ret (.agg [.int .i64 k,.int .i64 v,.str nm,v']),h):=fun hrun h=>by
   cases hna:a.AA with
   | true=>
    have:=heq hna;subst this;exact Ae OP Qt hn (by simp[AV.AA,AF,hna]) hrun h
   | false=>
    exact Jj OP Qt hn (by simp[AV.AA,AF,hna]) ((BC.agg (by simp[AF,AV.AA,hna]) (.cons (.flat rfl _) (.cons (.flat rfl _) (.cons (.flat rfl _) (.cons hsn (.nil _)))))).at (by decide)) (by simp[AV.AA,AF,hrep.AA]) hrun h
  by_cases hk:k=0
  .subst hk;obtain⟨e2,st2,hlp2,hq2⟩:=AQ (M:=MX) (fid:=119) (N:=54) (C:=AG MX) (c:=AL f119 0) (n:=params.length)
    (fun i (_:Unit)=>([(1,pr),(2,av),(3,.hp 0 0),(6,.hp 1 0),(7,.int .i64 i)],[Blk.var false [AV.int .i64 0,AV.int .i64 v,AV.str nm,pv],Blk.var false [AV.int .i64 0,AV.int .i64 0,AV.str [],AV.AI]]))
    (fun i _=>∀ j (hj:j<params.length),j<i->(fun x:Bytes=>x == nm) params[j]=false)
    (fun r=>(r=(.ext 0,([(1,pr),(2,av),(3,.hp 0 0),(6,.hp 1 0),(7,.int .i64 params.length),(16,.bool false)],[Blk.var false [AV.int .i64 0,AV.int .i64 v,AV.str nm,pv],Blk.var false [AV.int .i64 0,AV.int .i64 0,AV.str [],AV.AI]]))/\params.findIdx? (fun x=>x == nm)=none) \/
      ∃(i:Nat) (ys:List AV),r=(.ret,([(6,.hp 1 0)],[Blk.var false [AV.int .i64 0,AV.int .i64 v,AV.str nm,pv],Blk.var false ys]))/\params.findIdx? (fun x=>x == nm)=some i/\AU (args.getD i default) ys) (fun i b hi hI=>by
      obtain⟨e,he,hR⟩:=hpr.ix hi;have hi':=Aa hi;have hw:=AZ hi hpl;cases hR;cases hx:(params[i] == nm)with
      | false=>exact .inl ⟨(),by simp[f119,hpr.len,hi',he,hx,hw],FJ (p:=fun x:Bytes=>x == nm) hi hI hx⟩
      | true=>
       have hia:i<args.length:=(by omega);obtain⟨e3,he3,hR3⟩:=har.ix hia;obtain⟨ys,hys,hcall⟩:=c142 args[i] e3 hR3 (has _ (An hia));obtain⟨qv,rfl,hqv⟩:=hR3.AY;have hgd:AU (args.getD i default) ys:=(by simpa[hia]using hys);obtain⟨qy,rfl,hqy⟩:=hys.AY;exact .inr ⟨_,_,by simp[f119,hpr.len,hi',he,hx,he3,hcall] <;> first | exact⟨rfl,rfl⟩ | rfl,by simp,.inr ⟨i,_,rfl,FH (p:=fun x:Bytes=>x == nm) hi hI hx,hgd⟩⟩) (fun b hI=>by
      exact⟨_,_,by simp[f119,hpr.len] <;> first | exact⟨rfl,rfl⟩ | rfl,by simp,.inl ⟨rfl,FI (p:=fun x:Bytes=>x == nm) fun j hj=>hI j hj hj⟩⟩) () (fun j _ h0=>by omega)
   simp[f119]at hlp2;rcases hq2 with⟨hq2,hf⟩ | ⟨i,ys,hq2,hf,hys⟩ <;> cases hq2
   .refine⟨_,?_,fin (by simp[AJ,f119,hlp2,hlp,DS])⟩;simp only[Cc,hf,if_true,Fk];exact AU.intro hrep
   .refine⟨ys,by simpa[Cc,hf]using hys,fun h => ?_⟩;obtain⟨qy,rfl,hqy⟩:=hys.AY;exact Ae OP Qt hn (by simp[AV.AA,AF,hqy.AA]) (hr:=[Blk.var false [AV.int .i64 0,AV.int .i64 v,AV.str nm,pv],Blk.var false [.int .i64 (args.getD i default).k,.int .i64 (args.getD i default).v,.str (args.getD i default).nm,qy]]) (by simp[AJ,f119,hlp2,DS]) h
  .have hk':(k == 0)=false:=(by simp[hk]);refine⟨_,?_,fin (by simp[AJ,f119,hk',hk,hlp,DS])⟩;simp only[Cc,hk,if_false,Fk];exact AU.intro hrep
theorem Py{α:Type}{Pre:AE->α->List AV->Prop}{Rep:α->List AV->Prop}{K:Nat}(hs:∀ H d e,Pre H d e->∃ e' H',BK K e H e' H'/\Rep d e'/\CY H H'/\GJ H H')(hk:∀ H H' d e,Pre H d e->CY H H'->Pre H' d e) :
 ∀{l:List α} {es:List (List AV)} {H:AE},es.length=l.length->(∀(j:Nat) d e,l[j]? = some d->es[j]? = some e->Pre H d e) ->
 ∃ es' H',CS (K+1+l.length) es H es' H'/\es'.length=l.length/\(∀(j:Nat) d e,l[j]? = some d->es'[j]? = some e->Rep d e)/\CY H H'/\GJ H H'
 | [],[],H,_,_=>⟨[],H,(CS.nil H).mono (by omega),rfl,fun j d e h=>by simp at h,CY.refl H,GJ.refl H⟩
 | d::l,e::es,H,hl,hp=>by
  obtain⟨e',H1,s1,s2,s3,s4⟩:=hs _ _ _ (hp 0 d e rfl rfl);obtain⟨es',H2,t1,t2,t3,t4,t5⟩:=Py hs hk (l:=l) (es:=es) (H:=H1) (by simpa using hl) (fun j d' e' h1 h2=>hk _ _ _ _ (hp (j+1) d' e' (by simpa using h1) (by simpa using h2)) s3);refine⟨e'::es',H2,(CS.cons s1 t1).mono (by simp only[DC];omega),by simp[t2],fun j d' e'' h1 h2 => ?_,s3.trans t4,s4.trans t5⟩;cases j with
  | zero=>simp at h1 h2;exact h1 ▸ h2 ▸ s2
  | succ j=>exact t3 j d' e'' (by simpa using h1) (by simpa using h2)
 | [],_::_,_,hl,_=>by simp at hl
 | _::_,[],_,hl,_=>by simp at hl
theorem UP{α:Type}{Pre:AE->α->List AV->Prop}{Rep:α->List AV->Prop}{K sz:Nat}(hs:∀ H d e,Pre H d e->∃ e' H',BK K e H e' H'/\Rep d e'/\CY H H'/\GJ H H')(hk:∀ H H' d e,Pre H d e->CY H H'->Pre H' d e)(hnr:∀ H d e,Pre H d e->AF e=true->Rep d e)
 {l:List α} {es:List (List AV)} {H:AE} {a:AV} (h1:K1 sz H a es) (hl:es.length=l.length) (hp:∀(j:Nat) d e,l[j]? = some d->es[j]? = some e->Pre H d e) :
 ∃ v' H',BC (K+2+l.length) a H v' H'/\SlR Rep sz l v'/\(a.AA=true->a=v'):=by
 rcases h1 with⟨h0,rfl⟩ | ⟨j,lk,h0,rfl,h2⟩
 .exact⟨.AI,H,fun n=>by rw[show n+(K+2+l.length)=(n+(K+1+l.length))+1 by omega];rfl,.inl ⟨EH (by rw[<- hl,h0];rfl),rfl⟩,fun _=>rfl⟩
 .by_cases hall:es.all AF=true
  .have hrep:∀(k:Nat) d e,l[k]? = some d->es[k]? = some e->Rep d e:=fun k d e g1 g2=>hnr _ _ _ (hp k d e g1 g2) (ER.1 hall _ (Bs g2))
   refine⟨.sl sz false es,H.set j (.arr sz true es),fun n => ?_,Ak.rep hl hrep false,fun hh=>by cases hh⟩;have hb:(Nat.beq es.length es.length&&Nat.beq sz sz&&Nat.ble (0+es.length) es.length&&es.all AF)=true:=(by simp[A6,hall]);rw[show n+(K+2+l.length)=(n+(K+1+l.length))+1 by omega];simp only[Am.snap,h2,hb];simp
  .obtain⟨es',H',s1,s2,s3,s4,s5⟩:=Py hs hk hl hp;obtain⟨lk2,es2,hk2,hkl⟩:=s5 j sz lk es h2;refine⟨.sl sz false es',H'.set j (.arr sz true es'),fun n => ?_,Ak.rep s2 s3 false,fun hh=>by cases hh⟩;have hse:=s1 n;have ha:es.all AF=false:=(by simpa using hall);have hb1:(Nat.beq es.length es.length&&Nat.beq sz sz&&Nat.ble (0+es.length) es.length&&es.all AF)=false:=(by rw[ha,Bool.and_false]);have hb2:(Nat.beq es.length es.length&&Nat.beq sz sz&&Nat.ble (0+es.length) es.length)=true:=(by simp[A6]);have hb3:(Nat.beq sz sz&&Nat.beq es2.length es.length)=true:=(by rw[hkl,Jw,Jw];rfl);have hl':es'.length=es.length:=(by rw[s2,hl]);rw[show n+(K+2+l.length)=(n+(K+1+l.length))+1 by omega];simp only[snap,h2,hb1,hb2,hse,hk2,hb3];rw[<- hl'];simp[ha]
def Fv(H:AE)(c:CZ)(e:List AV):Prop:=∃ fa fes,e=[.str c.nm,fa]/\K1 5 H fa fes/\fes.length=c.fields.length/\∀(j:Nat) t e,c.fields[j]? = some t->fes[j]? = some e->Bw t e
theorem Fv.keeps{H H':AE}{d:CZ}{e:List AV}(h:Fv H d e)(k:CY H H'):Fv H' d e:=by
 obtain⟨ca,ces,h1,h3,h4,h5⟩:=h;exact⟨ca,ces,h1,h3.keeps (BN h4 h5 Fi) k,h4,h5⟩
theorem Fv.snap{H:AE}{d:CZ}{e:List AV}(h:Fv H d e):∃ e' H',BK 3 e H e' H'/\Ed d e'/\CY H H'/\GJ H H':=by
 obtain⟨ca,ces,rfl,h3,h4,h5⟩:=h;obtain⟨v',H',s1,s2,s3,s4⟩:=h3.snap Fi h4 h5;exact⟨[.str d.nm,v'],H',.cons (.flat rfl _) (.cons s1 (.nil _)),⟨v',rfl,s2⟩,s3,s4⟩
theorem Fv.AA{H:AE}{d:CZ}{e:List AV}(h:Fv H d e)(hn:AF e=true):Ed d e:=by
 obtain⟨ca,ces,rfl,q2,q3,q4⟩:=h;rcases q2 with⟨q5,rfl⟩ | ⟨_,_,_,rfl,_⟩
 .exact⟨.AI,rfl,.inl ⟨EH (by rw[<- q3,q5];rfl),rfl⟩⟩
 .simp[AF,AV.AA]at hn
theorem iy(n:Int)(h0:0<=n)(h1:n<=62)(h:AE):AJ MX 67 [.int .i64 n] h=some (.ret (.int .i64 ((2 ^ n.toNat:Nat):Int)),h):=by
 have hm:min n.toNat 64=n.toNat:=by omega
 have hp:(2:Nat) ^ n.toNat<=2 ^ 62:=Lj (by decide) (by omega);have hp':(2:Nat) ^ n.toNat<9223372036854775808:=Hf hp (by decide);have hw:wr .i64 ((2 ^ n.toNat:Nat):Int)=((2 ^ n.toNat:Nat):Int):=BU (Int.natCast_nonneg _) (Int.ofNat_lt.2 hp');have hn:¬ n<0:=by omega
 have hs:H8 .shl .i64 1 n=some (.int .i64 ((2 ^ n.toNat:Nat):Int)):=by
  simp only[H8,decide_eq_false hn,IntKind.bits,hm,Int.one_mul,hw]
 simp[AJ,f67,hs]
theorem c67(n:Int)(h0:0<=n)(h1:n<=62)(h:AE):AH MX (AG MX) 67 [.int .i64 n] h=some (.ret (.int .i64 ((2 ^ n.toNat:Nat):Int)),h):=Ae bz hZ rfl rfl (iy n h0 h1 []) h
def F9(params:List Bytes)(args:List TyV)(c:CZ):CZ:=⟨c.nm,c.fields.map fun f=>⟨f.nm,Cc params args f.ty⟩⟩
def AN(l:List AK)(t:TyV):List CZ:=
 if t.nm == CW then [⟨Cy,[]⟩,⟨EW,[]⟩]else match l.findIdx? (fun d=>d.nm == t.nm)with
  | some i=>(l.getD i default).cons.map (F9 (l.getD i default).params t.ps)
  | none=>[]
def HasC(l:List AK)(t:TyV):Prop:=(t.nm == CW)=true\/∃ i,l.findIdx? (fun d=>d.nm == t.nm)=some i/\(l.getD i default).params.length<=t.ps.length
theorem Ak.toL{sz:Nat}{P rest:AE}{a:AV}{es:List (List AV)}(h:Ak sz P.length rest a es):K1 sz (P++rest) a es:=by
 rcases h with h | ⟨j,h0,h1,h2⟩
 .exact .inl h
 .exact .inr ⟨P.length+j,false,h0,h1,by rw[En (by omega)];simpa using h2⟩
theorem IJ(A L:AE):CY A (A++L):=fun _ _ lk _ h _=>⟨lk,Af h L⟩
theorem c68{l:List AK}{lv:AV}(hl:SlR Ah 3 l lv)(hsl:SmL 1048577 l){t:TyV}{xs:List AV}(hx:AU t xs)(hst:Sm 1048577 t)(hc:HasC l t) :
 ∃ w,SlR Ed 2 (AN l t) w/\∀ h,AH MX (AG MX) 68 [lv,.agg xs] h=some (.ret w,h):=by
 have hn:([lv,AV.agg xs]:List AV).all AV.AA=true:=by simp[AV.AA,hx.AF,hl.AA]
 have hps:∀ p∈t.ps,Sm 1048577 p:=by cases t;exact hst.dest.2.2
 obtain⟨pv,rfl,hp⟩:=hx.AY;cases hb:(t.nm == CW)with
 | true=>
  have hb':(t.nm == [66,111,111,108])=true:=hb;refine⟨.sl 2 true [[.str Cy,.AI],[.str EW,.AI]],?_,fun h=>Ae VB YZ hn rfl (hr:=[Blk.var false [AV.int .i64 t.k,AV.int .i64 t.v,AV.str t.nm,pv]]) (by simp[AJ,f68,hb',bsA,Ag,List.replicate,AF,AV.AA,Cy,EW]) h⟩;simp only[AN,hb,if_true];exact .inr ⟨true,_,rfl,rfl,fun i a e h1 h2=>by
   match i with
   | 0=>simp at h1 h2;subst h1;subst h2;exact⟨.AI,rfl,.inl ⟨rfl,rfl⟩⟩
   | 1=>simp at h1 h2;subst h1;subst h2;exact⟨.AI,rfl,.inl ⟨rfl,rfl⟩⟩
   | i+2=>simp at h1⟩
 | false=>
  have hb':(t.nm == [66,111,111,108])=false:=hb;rcases hc with hc | ⟨i,hf,hpa⟩
  .rw[hb]at hc;cases hc
  have hil:=Gh hf;have hD:=c118 t.nm hl hsl.1;have hgd:l.getD i default=l[i]:=by simp[hil]
  rw[hgd]at hpa;obtain⟨de,hde,hdR⟩:=hl.ix hil;obtain⟨s1,s2,s3,s4,s5⟩:=hsl.2 _ (An hil);obtain⟨qv,cv,rfl,hqp,hcv⟩:=hdR.dest;have hb13:=Wc;simp[Ab,Az,f68]at hb13;let F:=F9 l[i].params t.ps;have hcons:AN l t=l[i].cons.map F:=by simp only[AN,hb,hf,hgd];rfl
  obtain⟨e,st,hlp,hq⟩:=AQ (M:=MX) (fid:=68) (N:=78) (C:=AG MX) (c:=AL f68 0) (n:=l[i].cons.length)
   (fun k (b:AV×AE×List (List AV))=>([(3,.hp 0 0),(5,.hp 1 0),(6,b.1),(7,.int .i64 k)],Blk.var false [AV.int .i64 t.k,AV.int .i64 t.v,AV.str t.nm,pv]::Blk.var false [AV.str l[i].nm,qv,cv]::b.2.1))
   (fun k b=>Ak 2 0 (Blk.var false [AV.int .i64 t.k,AV.int .i64 t.v,AV.str t.nm,pv]::Blk.var false [AV.str l[i].nm,qv,cv]::b.2.1) b.1 b.2.2/\b.2.2.length=((l[i].cons.map F).take k).length/\∀(j:Nat) t' e,((l[i].cons.map F).take k)[j]? = some t'->b.2.2[j]? = some e->Fv (Blk.var false [AV.int .i64 t.k,AV.int .i64 t.v,AV.str t.nm,pv]::Blk.var false [AV.str l[i].nm,qv,cv]::b.2.1) t' e)
   (fun r=>∃ b:AV×AE×List (List AV),r=(.ext 0,([(3,.hp 0 0),(5,.hp 1 0),(6,b.1),(7,.int .i64 l[i].cons.length),(28,.bool false)],Blk.var false [AV.int .i64 t.k,AV.int .i64 t.v,AV.str t.nm,pv]::Blk.var false [AV.str l[i].nm,qv,cv]::b.2.1)) /\
     Ak 2 0 (Blk.var false [AV.int .i64 t.k,AV.int .i64 t.v,AV.str t.nm,pv]::Blk.var false [AV.str l[i].nm,qv,cv]::b.2.1) b.1 b.2.2/\b.2.2.length=(l[i].cons.map F).length/\∀(j:Nat) t' e,(l[i].cons.map F)[j]? = some t'->b.2.2[j]? = some e->Fv (Blk.var false [AV.int .i64 t.k,AV.int .i64 t.v,AV.str t.nm,pv]::Blk.var false [AV.str l[i].nm,qv,cv]::b.2.1) t' e) (fun k b hk hI=>by
     obtain⟨a,pre,es⟩:=b;obtain⟨i1,i2,i3⟩:=hI;simp only at i1 i2 i3;obtain⟨ce,hce,hcR⟩:=hcv.ix hk;have hk':=Aa hk;have hw:=AZ hk s4;have hkm:k<(l[i].cons.map F).length:=(by simpa using hk);have hsc:=s5 _ (An hk);obtain⟨fv,rfl,hfv⟩:=hcR.dest;obtain⟨e2,st2,hlp2,hq2⟩:=AQ (M:=MX) (fid:=68) (N:=78) (C:=AG MX) (c:=AL f68 1) (n:=l[i].cons[k].fields.length)
      (fun m (b:AV×AE×List (List AV))=>([(3,.hp 0 0),(5,.hp 1 0),(6,a),(7,.int .i64 k),(8,.hp (pre.length+1+1) 0),(9,.int .i64 m)],Blk.var false [AV.int .i64 t.k,AV.int .i64 t.v,AV.str t.nm,pv]::Blk.var false [AV.str l[i].nm,qv,cv]::(pre++Blk.var false [AV.str l[i].cons[k].nm,b.1]::b.2.1)))
      (fun m b=>Ak 5 (pre.length+3) b.2.1 b.1 b.2.2/\b.2.2.length=((F l[i].cons[k]).fields.take m).length/\∀(j:Nat) t e,((F l[i].cons[k]).fields.take m)[j]? = some t->b.2.2[j]? = some e->Bw t e)
      (fun r=>∃ b:AV×AE×List (List AV),r=(.ext 2,([(3,.hp 0 0),(5,.hp 1 0),(6,a),(7,.int .i64 k),(8,.hp (pre.length+1+1) 0),(9,.int .i64 l[i].cons[k].fields.length),(46,.bool false)],Blk.var false [AV.int .i64 t.k,AV.int .i64 t.v,AV.str t.nm,pv]::Blk.var false [AV.str l[i].nm,qv,cv]::(pre++Blk.var false [AV.str l[i].cons[k].nm,b.1]::b.2.1))) /\
        Ak 5 (pre.length+3) b.2.1 b.1 b.2.2/\b.2.2.length=(F l[i].cons[k]).fields.length/\∀(j:Nat) t e,(F l[i].cons[k]).fields[j]? = some t->b.2.2[j]? = some e->Bw t e) (fun m b hm hM=>by
        obtain⟨fa,rest,fes⟩:=b;obtain⟨k1,k2,k3⟩:=hM;simp only at k1 k2 k3;obtain⟨fe,hfe,hfR⟩:=hfv.ix hm;have hm':=Aa hm;have hwm:=AZ hm hsc.2.1;have hmm:m<(F l[i].cons[k]).fields.length:=(by simpa[F,F9]using hm);have hsf:=hsc.2.2 _ (An hm);obtain⟨tx,rfl,htx⟩:=hfR;obtain⟨ys,hys,hcall⟩:=c119 hqp s2 hp hps hpa l[i].cons[k].fields[m].ty tx htx hsf.2;have hfr:Bw (F l[i].cons[k]).fields[m] (.str l[i].cons[k].fields[m].nm::ys):=⟨ys,by simp[F,F9],by simpa[F,F9]using hys⟩;obtain⟨j1,j2⟩:=EU k2 k3 hfr;rw[Cf hmm]at j1 j2;have hlen:fes.length<16777215:=(by rw[k2,GH];exact Hf (My _ _) (by simp only[F,F9,FB];exact Jb hsc.2.1 (by decide)));obtain⟨q,rfl,hq⟩:=hys.AY;obtain⟨q',rfl,hq'⟩:=htx.AY;have k1':=k1.grow [Blk.var false [AV.str l[i].cons[k].fields[m].nm,AV.int .i64 l[i].cons[k].fields[m].ty.k,AV.int .i64 l[i].cons[k].fields[m].ty.v,AV.str l[i].cons[k].fields[m].ty.nm,q']];have hPl:(Blk.var false [AV.int .i64 t.k,AV.int .i64 t.v,AV.str t.nm,pv]::Blk.var false [AV.str l[i].nm,qv,cv]::(pre++[Blk.var false [AV.str l[i].cons[k].nm,fa]])).length=pre.length+3:=(by simp);obtain⟨fa',rest',hap,hacc⟩:=Ak.push (byt:=72) (P:=Blk.var false [AV.int .i64 t.k,AV.int .i64 t.v,AV.str t.nm,pv]::Blk.var false [AV.str l[i].nm,qv,cv]::(pre++[Blk.var false [AV.str l[i].cons[k].nm,fa]]))
         (.str l[i].cons[k].fields[m].nm::[.int .i64 (Cc l[i].params t.ps l[i].cons[k].fields[m].ty).k,.int .i64 (Cc l[i].params t.ps l[i].cons[k].fields[m].ty).v,.str (Cc l[i].params t.ps l[i].cons[k].fields[m].ty).nm,q]) true (by rw[hPl];exact k1') (by decide) (by decide) hlen
        rw[hPl]at hacc;simp only[CO,Ej,Ev]at hap;exact .inl ⟨(fa',rest',_),by simp[f68,hcv.len,hk',hce,hfv.len,hm',hfe,hcall,bsA,Ag,List.replicate,hap,hwm,hb13,AF,AV.AA,hq.AA,hq'.AA,hqp.AA,hp.AA,hacc.cells],hacc,j1,j2⟩) (fun b hM=>by
        obtain⟨fa,rest,fes⟩:=b;obtain⟨k1,k2,k3⟩:=hM;rw[DU (by simp[F,F9])]at k2 k3;exact⟨_,_,by simp[f68,hcv.len,hk',hce,hfv.len] <;> first | exact⟨rfl,rfl⟩ | rfl,by simp,(fa,rest,fes),rfl,k1,k2,k3⟩) (.AI,[],[]) ⟨.nil _ _ _,by simp,fun j t e h=>by simp at h⟩
     obtain⟨⟨fa,rest,fes⟩,hq2,k1,k2,k3⟩:=hq2;cases hq2;simp[f68]at hlp2;have hlen:es.length<16777215:=(by rw[i2,GH,FB];exact Hf (My _ _) (Jb s4 (by decide)));let B0:=Blk.var false [AV.int .i64 t.k,AV.int .i64 t.v,AV.str t.nm,pv];let B1:=Blk.var false [AV.str l[i].nm,qv,cv];let C:=Blk.var false [AV.str l[i].cons[k].nm,fa];have hfa:K1 5 (B0::B1::(pre++C::rest)) fa fes:=by
      rcases k1 with h | ⟨j,h0,h1,h2⟩
      .exact .inl h
      .refine .inr ⟨pre.length+3+j,false,h0,h1,?_⟩;show(B0::B1::(pre++C::rest))[pre.length+3+j]? = _;rw[show pre.length+3+j=(pre.length+1+j)+1+1 by omega,Jq,Jq,En (by omega),show pre.length+1+j - pre.length=j+1 by omega];simpa using h2
     have e0:Fv (B0::B1::(pre++C::rest)) (l[i].cons.map F)[k] [AV.str l[i].cons[k].nm,fa]:=⟨fa,fes,by simp[F,F9],hfa,by simpa[F]using k2,fun j t e h1 h2=>k3 j t e (by simpa[F]using h1) h2⟩;have fin:∀(H:AE) (x:AV),CY (B0::B1::(pre++C::rest)) H->Ak 2 0 H a es->Ax H x=some [[AV.str l[i].cons[k].nm,fa]]->Bu 2 x=true->(∀ b,x≠.str b)->H[0]? = some B0->H[1]? = some B1 ->
      ∃ a' T,apA 2 40 a x H=some (a',B0::B1::T)/\Ak 2 0 (B0::B1::T) a' (es++[[AV.str l[i].cons[k].nm,fa]])/\(es++[[AV.str l[i].cons[k].nm,fa]]).length=((l[i].cons.map F).take (k+1)).length/\∀(j:Nat) t' e,((l[i].cons.map F).take (k+1))[j]? = some t'->(es++[[AV.str l[i].cons[k].nm,fa]])[j]? = some e->Fv (B0::B1::T) t' e:=by
      intro H x hk hacc hrd hsz hst hh0 hh1;obtain⟨a',H',h1,h2,h3⟩:=Q3 (byt:=40) hacc hrd hsz hst (by simp) (by decide) (by decide) (by simp;omega);have g0:=h3 0 _ hh0 (fun lk es e=>by simp[B0]at e);have g1:=h3 1 _ hh1 (fun lk es e=>by simp[B1]at e);obtain⟨T,rfl⟩:∃ T,H'=B0::B1::T:=by
       match H',g0,g1 with
       | x::y::T,g0,g1=>simp at g0 g1;exact⟨T,by rw[g0,g1]⟩
      obtain⟨j1,j2⟩:=EU (R:=Fv (B0::B1::(pre++C::rest))) i2 (fun j t e g1 g2=>(i3 j t e g1 g2).keeps (IJ (B0::B1::pre) (C::rest))) e0;rw[Cf hkm]at j1 j2;have keepP:∀ t e,Fv H t e->Fv (B0::B1::T) t e:=fun t e h=>by
       obtain⟨q3,q4,q5,q6,q7,q8⟩:=h;refine⟨q3,q4,q5,?_,q7,q8⟩;rcases q6 with h | ⟨id,lk,g0,g1,g2⟩
       .exact .inl h
       .exact .inr ⟨id,lk,g0,g1,h3 id _ g2 (fun lk' es' e=>by cases e)⟩
      exact⟨a',T,h1,h2,j1,fun j t e g1 g2=>keepP t e ((j2 j t e g1 g2).keeps hk)⟩
     have i1':Ak 2 0 (B0::B1::(pre++C::rest)) a es:=Ak.grow (rest:=B0::B1::pre) i1 (C::rest);cases hna:fa.AA with
     | true=>
      obtain⟨a',T,f1,f2,f3,f4⟩:=fin _ (.sl 2 true [[AV.str l[i].cons[k].nm,fa]]) (CY.refl _) i1' rfl (by simp[Bu,BF]) (fun b h=>by cases h) rfl rfl;simp only[B0,B1,C]at f1;exact .inl ⟨(a',T,es++[[AV.str l[i].cons[k].nm,fa]]),by simp[f68,hcv.len,hk',hce,hlp2,bsA,Ag,List.replicate,AF,AV.AA,hna,f1,hw],f2,f3,f4⟩
     | false=>
      obtain⟨a',T,f1,f2,f3,f4⟩:=fin ((B0::B1::(pre++C::rest))++[Blk.arr 2 false [[AV.str l[i].cons[k].nm,fa]]]) (.hs (B0::B1::(pre++C::rest)).length 1 2 0 1 false) (IJ _ _) (i1'.grow _)
       (by simp only[Ax,BD];simp) (by simp[Bu,BF]) (fun b h=>by cases h) rfl rfl
      simp[B0,B1,C]at f1;exact .inl ⟨(a',T,es++[[AV.str l[i].cons[k].nm,fa]]),by simp[f68,hcv.len,hk',hce,hlp2,bsA,Ag,List.replicate,Aw,AF,AV.AA,hna,f1,hw],f2,f3,f4⟩) (fun b hI=>by
     obtain⟨a,rest,es⟩:=b;obtain⟨i1,i2,i3⟩:=hI;rw[DU (by simp)]at i2 i3;exact⟨_,_,by simp[f68,hcv.len] <;> first | exact⟨rfl,rfl⟩ | rfl,by simp,(a,rest,es),rfl,i1,i2,i3⟩) (.AI,[],[]) ⟨.nil _ _ _,by simp,fun j t e h=>by simp at h⟩
  obtain⟨⟨a,rest,es⟩,hq,i1,i2,i3⟩:=hq;cases hq;simp[f68]at hlp;obtain⟨v',H',s6,s7,s8⟩:=UP (K:=3) (fun H d e h=>Fv.snap h) (fun H H' d e h k=>Fv.keeps h k) (fun H d e h hn=>Fv.AA h hn) (Ak.toL (P:=[]) i1) i2 i3;rw[hcons];have hrun:AJ MX 68 [lv,.agg [.int .i64 t.k,.int .i64 t.v,.str t.nm,pv]] []=some (.ret a,Blk.var false [AV.int .i64 t.k,AV.int .i64 t.v,AV.str t.nm,pv]::Blk.var false [AV.str l[i].nm,qv,cv]::rest):=by
   simp[AJ,f68,hb',hD,hf,ixI,hde,hlp]
  exact⟨v',s7,fun h=>Jk VB YZ hn s6 (by simp only[C0,FB];omega) s7.AA s8 hrun h⟩
end
end Go.Proofs.Am12
namespace Go.Am
open Go
def CT(L:List (List Nat)):List (Nat×Kd)->Bool
 | []=>true
 | (i,x)::r=>(r.all fun p => !(Bl x p.2)||(L.getD p.1 []).elem i)&&CT L r
theorem DE{ops:Array Oper}{ks:List Kd}(h:CT (BO ops) (Cb 0 ks)=true):Ip ops ks=true:=by
 unfold Ip;have hb:∀ i j,((BO ops).getD j []).elem i=true->((Region.before ops).getD j 0).testBit i=true:=by
  intro i j h;unfold BO at h;rw[Lh,Fe]at h;cases hm:(Region.before ops).toList[j]? with
  | none=>rw[hm]at h;simp at h
  | some m=>
   rw[hm]at h;simp only[FM,GG,List.elem_eq_mem,decide_eq_true_eq,Jt]at h;have hm':(Region.before ops)[j]? = some m:=(by simpa using hm);rw[HJ,hm'];exact h.2
 have h2:∀(l:List (Nat×Kd)),CT (BO ops) l=true->GP (Region.before ops) l=true:=by
  intro l;induction l with
  | nil=>intro _;rfl
  | cons a r ih=>
   intro h;obtain⟨i,x⟩:=a;simp only[CT,Ba,ER]at h;simp only[GP,Ba,ER];refine⟨fun p hp => ?_,ih h.2⟩;have:=h.1 p hp;simp only[Mz]at this ⊢;rcases this with h3 | h3
   .exact .inl h3
   .exact .inr (hb _ _ h3)
 exact h2 _ h
end Go.Am
namespace Go.Am
open Go
mutual
theorem AV.Q4:∀ a:AV,AV.beq a a=true
 | .undef=>rfl
 | .bool b=>by simp[AV.beq]
 | .int k n=>by simp[AV.beq]
 | .str s=>by simp[AV.beq]
 | .Ea=>rfl
 | .ro cs=>by simp only[AV.beq];exact HW cs
 | .hp i o=>by simp[AV.beq]
 | .ep a b c d e=>by simp[AV.beq]
 | .AI=>rfl
 | .sl a b c=>by simp only[AV.beq,Jw,beq_self_eq_true,Jf];exact Mr c
 | .hs a b c d e f=>by simp[AV.beq]
 | .Gm=>rfl
 | .hm i=>by simp[AV.beq]
 | .fn f a c=>by simp only[AV.beq,Jw,Jf,HW a,HW c]
 | .Gn=>rfl
 | .iface t v=>by simp only[AV.beq,Jw,Jf];exact AV.Q4 v
 | .Ja=>rfl
 | .agg a=>by simp only[AV.beq];exact HW a
 | .tup a=>by simp only[AV.beq];exact HW a
theorem HW:∀ l:List AV,Kz l l=true
 | []=>rfl
 | a::r=>by simp only[Kz,AV.Q4 a,HW r,Mf]
theorem Mr:∀ l:List (List AV),Lp l l=true
 | []=>rfl
 | a::r=>by simp only[Lp,HW a,Mr r,Mf]
end
theorem Ek:∀ b:Blk,Blk.beq b b=true:=by
 intro b;have h1:(∀ v:AV,AV.beq v v=true)/\(∀ l:List AV,Kz l l=true)/\(∀ l:List (List AV),Lp l l=true):=⟨AV.Q4,HW,Mr⟩;cases b with
 | var l a=>simp[Blk.beq,h1.2.1]
 | arr s l a=>simp[Blk.beq,h1.2.2]
 | mp a=>
  have:∀ a:List (AV×AV),M1 a a=true:=by
   intro a;induction a with
   | nil=>rfl
   | cons x r ih=>simp[M1,h1.1,ih]
  simp[Blk.beq,this]
 | hole=>rfl
theorem Hy:∀(k:Nat) (T:AE),Da k T T=[]
 | _,[]=>rfl
 | k,b::r=>by simp only[Da,Ek b,Hy (k+1) r]
theorem IK(k:Nat)(X Y:Blk)(T:AE)(x:Nat)(h:x∈Da k (X::T) (Y::T)):x=k:=by
 simp only[Da]at h;split at h
 .rw[Hy]at h;cases h
 .rw[Hy]at h;simpa using h
theorem DF{X Y:Blk}{T:AE}{x:Nat}(hx:x≠0):(x∈Da 0 (X::T) (Y::T))=False:=by
 refine eq_false fun h=>hx ?_
 exact IK _ X Y T x h
theorem DG{b0 X Y:Blk}{T:AE}{x:Nat}(hx:x≠1):(x∈Da 0 (b0::X::T) (b0::Y::T))=False:=by
 refine eq_false fun h=>hx ?_
 simp only[Da,Ek]at h;exact IK _ X Y T x h
theorem DH{b0 b1 X Y:Blk}{T:AE}{x:Nat}(hx:x≠2):(x∈Da 0 (b0::b1::X::T) (b0::b1::Y::T))=False:=by
 refine eq_false fun h=>hx ?_
 simp only[Da,Ek]at h;exact IK _ X Y T x h
theorem DI{b0 b1 b2 X Y:Blk}{T:AE}{x:Nat}(hx:x≠3):(x∈Da 0 (b0::b1::b2::X::T) (b0::b1::b2::Y::T))=False:=by
 refine eq_false fun h=>hx ?_
 simp only[Da,Ek]at h;exact IK _ X Y T x h
theorem DJ{b0 b1 b2 b3 X Y:Blk}{T:AE}{x:Nat}(hx:x≠4):(x∈Da 0 (b0::b1::b2::b3::X::T) (b0::b1::b2::b3::Y::T))=False:=by
 refine eq_false fun h=>hx ?_
 simp only[Da,Ek]at h;exact IK _ X Y T x h
theorem DK{b0 b1 b2 b3 b4 X Y:Blk}{T:AE}{x:Nat}(hx:x≠5):(x∈Da 0 (b0::b1::b2::b3::b4::X::T) (b0::b1::b2::b3::b4::Y::T))=False:=by
 refine eq_false fun h=>hx ?_
 simp only[Da,Ek]at h;exact IK _ X Y T x h
theorem DL{b0 b1 b2 b3 b4 b5 X Y:Blk}{T:AE}{x:Nat}(hx:x≠6):(x∈Da 0 (b0::b1::b2::b3::b4::b5::X::T) (b0::b1::b2::b3::b4::b5::Y::T))=False:=by
 refine eq_false fun h=>hx ?_
 simp only[Da,Ek]at h;exact IK _ X Y T x h
end Go.Am
namespace Go.Am
open Go
def C5(v:Option AV):Kd:=match v with
 | some (.hm id)=> .ld id
 | _=> .st
theorem SlR.C5{α:Type}{R:α->List AV->Prop}{sz:Nat}{l:List α}{v:AV}(hv:SlR R sz l v):C5 (some v)=.st:=by
 rcases hv with⟨_,rfl⟩ | ⟨_,_,rfl,_⟩ <;> rfl
section
variable(M:Par)(t:Tm)(h h':AE)
theorem Ef(x):Ff M t (.move x) h h'=.st:=rfl
theorem Cg(x):Ff M t (.assign x) h h'=.st:=rfl
theorem Eg(a b c):Ff M t (.pick a b c) h h'=.st:=rfl
theorem Dh(a b):Ff M t (.build a b) h h'=.st:=rfl
theorem FW(a):Ff M t (.nilCheck a) h h'=.st:=rfl
theorem FX(a b c d e):Ff M t (.binOp a b c d e) h h'=.st:=rfl
theorem Gi(a b c):Ff M t (.unOp a b c) h h'=.st:=rfl
theorem Di(a b):Ff M t (.makeInterface a b) h h'=.st:=rfl
theorem Eh(a b c):Ff M t (.makeFunc a b c) h h'=.st:=rfl
theorem Dj(a b c d e):Ff M t (.slice a b c d e) h h'=.st:=rfl
theorem BQ(a b c):Ff M t (.fieldAddr a b c) h h'=.st:=rfl
theorem Dk(a b c):Ff M t (.field a b c) h h'=.st:=rfl
theorem BR(a b c):Ff M t (.indexAddr a b c) h h'=.st:=rfl
theorem Dl(a b c):Ff M t (.index a b c) h h'=.st:=rfl
theorem B9(a b):Ff M t (.extract a b) h h'=.st:=rfl
theorem Ei(a b):Ff M t (.load a b) h h'=DR (ev t b):=rfl
theorem Ch(a b c d):Ff M t (.lookup a b c d) h h'=DR (ev t b):=rfl
theorem FY(a b):Ff M t (.call { callee:=.builtin .len,args:=a,argTypes:=b }) h h'=C5 ((a[0]?).bind (ev t)):=rfl
theorem FZ(a b):Ff M t (.call { callee:=.builtin .max,args:=a,argTypes:=b }) h h'=.st:=rfl
theorem Fa(a b):Ff M t (.call { callee:=.builtin .min,args:=a,argTypes:=b }) h h'=.st:=rfl
theorem Ci(a b):Ff M t (.call { callee:=.builtin .append,args:=a,argTypes:=b }) h h'=.ch (Da 0 h h'):=rfl
theorem Dm(f a b):Ff M t (.call { callee:=.value f,args:=a,argTypes:=b }) h h'=(match ev t f,evs t a.toList with
 | some (.fn g fs cap),some vs=>(match(M.prim g).isSome||((M.mode g).fresh && !(M.mode g).keepTop&&(fs++vs++cap).all AV.AA)with
  | true=> .st
  | false=> .ch (Da 0 h h'))
 | _,_=> .ch (Da 0 h h')):=rfl
theorem Dn(a):Ff M t (.alloc a) h h'=.ch [h.length]:=rfl
theorem Fb(a b):Ff M t (.box a b) h h'=.ch [h.length]:=rfl
theorem Gj(a b c):Ff M t (.buildSlice a b c) h h'=(match Nat.beq h.length h'.length with | true=> .st | false=> .ch [h.length]):=rfl
theorem Fc(a b):Ff M t (.makeMap a b) h h'=.ch [h.length]:=rfl
theorem Gk(a b c):Ff M t (.makeSlice a b c) h h'=.ch [h.length]:=rfl
theorem Gl(a b c):Ff M t (.convert a b c) h h'=(match Nat.beq h.length h'.length with | true=> .st | false=> .ch [h.length]):=rfl
theorem Dp(a b c):Ff M t (.store a b c) h h'=.ch (Da 0 h h'):=rfl
theorem BS(a b c d):Ff M t (.mapUpdate a b c d) h h'=.ch (Da 0 h h'):=rfl
theorem Cj(a b c d):Ff M t (.insert a b c d) h h'=.ch (Da 0 h h'):=rfl
end
theorem CA:C5 (some .AI)=.st:=rfl
theorem Dq(a b c):C5 (some (.sl a b c))=.st:=rfl
theorem Dr(a b c d e f):C5 (some (.hs a b c d e f))=.st:=rfl
theorem Ck(a):C5 (some (.str a))=.st:=rfl
end Go.Am
namespace Go.Proofs.Am12
open Go Go.Am Tryz
section
attribute [local simp] Dc Bn Ec Dd CQ Dx Dy Ey BZ Ap Bh Av Gb FR EN HO D9 A5 FN EO HP HQ xUn FC EA FT BG DQ BH EB BI EC Ce Ca Bv BL EP Eo
 ev evs C4 DP OR.ofV OR.D4 OR.ofC Fg Tm.get Tm.init Tm.only Ay A6 Bt finish CK DS Hb D3 D7 unA Bz Bc B6 Bd Cp Cq Cr Be Cs Ct Bf Cu Cv Bg B7 AL CP Bb Cn Co Bx Ez E0 E1 Dz D0 Fo F7 F8 Fp stA BA DY Bo Ff DR FD Gp B8 C1 CI FU Gq
attribute [local simp] DE CT Cb Bl DF DG DH DI DJ DK DL
abbrev Rec:=TyV->Int->Int×Int
def eFs(rec:Rec):List DB->Int->Int×Int
 | [],c=>(c,0)
 | f::r,c=>if(rec f.ty c).2=0 then eFs rec r (rec f.ty c).1 else rec f.ty c
def eCs(rec:Rec):List CZ->Int->Int×Int
 | [],c=>(c,0)
 | k::r,c=>if(eFs rec k.fields c).2=0 then eCs rec r (eFs rec k.fields c).1 else eFs rec k.fields c
def BX(t:TyV):TyV:=t.ps.getD 0 default
def EF(l:List AK)(r:Option Rec)(t:TyV)(c:Int):Int×Int:=
 if A7 t=false then(c+1,8)else if t.k=2 then(c+1,26)else if EV t=true/\(BX t).k≠2 then(c+1,26)else if EV t=true/\¬ (1<=(BX t).v/\(BX t).v<=16)then(c+1,25)else
 if 200<c+1 then(c+1,8)else match r with
  | none=>(c+1,8)
  | some rec=>if EV t=true then(c+1,0)else eCs rec (AN l t) (c+1)
def EX(l:List AK):Nat->Rec
 | 0=>EF l none
 | n+1=>EF l (some (EX l n))
def VT(l:List AK)(t:TyV):Prop:=Au l [] t=0
structure DOK(l:List AK):Prop where
 bit:∀ t,VT l t->EV t=true->t.ps.length=1
 has:∀ t,VT l t->t.k≠2->EV t=false->HasC l t
 fld:∀ t,VT l t->t.k≠2->EV t=false->∀ c∈AN l t,∀ f∈c.fields,VT l f.ty
theorem F3{b:Nat}{l:List AK}(hsl:SmL b l){t:TyV}(hst:Sm b t)(h8:5<b):(AN l t).length<b/\∀ c∈AN l t,SmC b c:=by
 have hps:∀ p∈t.ps,Sm b p:=by cases t;exact hst.dest.2.2
 unfold AN;split
 .exact⟨by simp;omega,fun c hc=>by
   simp only[CF,Jc,or_false]at hc;rcases hc with rfl | rfl
   .exact⟨by simp[Cy];omega,by simp;omega,fun f hf=>by cases hf⟩
   .exact⟨by simp[EW];omega,by simp;omega,fun f hf=>by cases hf⟩⟩
 .split
  .rename_i i hf;have hil:=Gh hf;have hgd:l.getD i default=l[i]:=(by simp[hil]);rw[hgd];obtain⟨s1,s2,s3,s4,s5⟩:=hsl.2 _ (An hil);refine⟨by simpa using s4,fun c hc => ?_⟩;obtain⟨c0,hc0,rfl⟩:=E3.1 hc;obtain⟨q1,q2,q3⟩:=s5 c0 hc0;refine⟨q1,by simpa[F9]using q2,fun f hf => ?_⟩;obtain⟨f0,hf0,rfl⟩:=E3.1 hf;obtain⟨r1,r2⟩:=q3 f0 hf0;exact⟨r1,eD hps (by omega) _ r2⟩
  .exact⟨by simp;omega,fun c hc=>by cases hc⟩
def LQ(rec:Rec):Prop:=∀ t c,0<=c->c<=200->0<=(rec t c).1/\(rec t c).1<=201/\((rec t c).2=0->(rec t c).1<=200)
theorem Pz{rec:Rec}(hr:LQ rec):∀(fs:List DB) c,0<=c->c<=200->0<=(eFs rec fs c).1/\(eFs rec fs c).1<=201/\((eFs rec fs c).2=0->(eFs rec fs c).1<=200)
 | [],c,h0,h1=>⟨h0,by simp[eFs];omega,fun _=>h1⟩
 | f::r,c,h0,h1=>by
  obtain⟨a,b,d⟩:=hr f.ty c h0 h1;simp only[eFs];split
  .rename_i hz;exact Pz hr r _ a (d hz)
  .exact⟨a,b,d⟩
theorem P0{rec:Rec}(hr:LQ rec):∀(cs:List CZ) c,0<=c->c<=200->0<=(eCs rec cs c).1/\(eCs rec cs c).1<=201/\((eCs rec cs c).2=0->(eCs rec cs c).1<=200)
 | [],c,h0,h1=>⟨h0,by simp[eCs];omega,fun _=>h1⟩
 | f::r,c,h0,h1=>by
  obtain⟨a,b,d⟩:=Pz hr f.fields c h0 h1;simp only[eCs];split
  .rename_i hz;exact P0 hr r _ a (d hz)
  .exact⟨a,b,d⟩
theorem NB{l:List AK}{r:Option Rec}(hr:∀ rec,r=some rec->LQ rec):LQ (EF l r):=by
 intro t c h0 h1;unfold EF;split
 .exact⟨by simp;omega,by simp;omega,fun h=>by cases h⟩
 split
 .exact⟨by simp;omega,by simp;omega,fun h=>by cases h⟩
 split
 .exact⟨by simp;omega,by simp;omega,fun h=>by cases h⟩
 split
 .exact⟨by simp;omega,by simp;omega,fun h=>by cases h⟩
 split
 .exact⟨by simp;omega,by simp;omega,fun h=>by cases h⟩
 split
 .exact⟨by simp;omega,by simp;omega,fun h=>by cases h⟩
 split
 .exact⟨by simp;omega,by simp;omega,fun _=>by simp;omega⟩
 .exact P0 (hr _ rfl) _ _ (by omega) (by omega)
theorem IL(l:List AK):∀ n,LQ (EX l n)
 | 0=>NB fun rec h=>by cases h
 | n+1=>NB fun rec h=>by cases h;exact IL l n
theorem c154{l:List AK}{lv:AV}(hl:SlR Ah 3 l lv)(hsl:SmL 1048577 l)(hok:DOK l):∀(n:Nat),n<=40->∀(t:TyV) (xs:List AV) (c e0:Int),AU t xs->Sm 1048577 t->VT l t->0<=c->c<=200->∀ h,
 AH MX (AG MX) 154 [lv,.agg xs,.agg [.int .i64 c,.int .i64 e0,.int .i64 (40 - n)]] h=some (.ret (.agg [.int .i64 (EX l n t c).1,.int .i64 (EX l n t c).2,.int .i64 (40 - n)]),h):=by
 intro n;induction n with
 | zero=>
  intro _ t xs c e0 hx hst hv h0 h1 h;have hn:([lv,AV.agg xs,.agg [.int .i64 c,.int .i64 e0,.int .i64 (40 - (0:Nat))]]:List AV).all AV.AA=true:=by simp[AV.AA,hx.AF,hl.AA,AF]
  have wc:wr .i64 (c+1)=c+1:=BU (by omega) (by omega);have hT:=c59 hx hst;have hB:=c66 hx;have hbit:=hok.bit t hv;obtain⟨D,hD⟩:∃ D:Int,D=40 - (0:Nat):=⟨_,rfl⟩;rw[<- hD]at hn ⊢;have hd:40<=D:=by omega
  obtain⟨pv,rfl,hp⟩:=hx.AY;obtain⟨hr,hc⟩:∃ hr,AJ MX 154 [lv,.agg [.int .i64 t.k,.int .i64 t.v,.str t.nm,pv],.agg [.int .i64 c,.int .i64 e0,.int .i64 D]] []=some (.ret (.agg [.int .i64 (EX l 0 t c).1,.int .i64 (EX l 0 t c).2,.int .i64 D]),hr):=by
   simp only[EX,EF];cases hT0:A7 t with
   | false=>exact⟨_,by simp[AJ,f154,wc,hT,hT0,DS] <;> rfl⟩
   | true=>
   by_cases h2:t.k=2
   .have h2':(t.k == 2)=true:=(by simp[h2]);rw[if_neg (by simp),if_pos h2];exact⟨_,by simp[AJ,f154,wc,hT,hT0,h2',DS] <;> rfl⟩
   .have h2':(t.k == 2)=false:=(by simp[h2]);cases hB0:EV t with
    | false=>
     by_cases h200:200<c+1
     .exact⟨_,by simp[AJ,f154,wc,hT,hT0,h2,h2',hB,hB0,h200,hd,DS] <;> rfl⟩
     .exact⟨_,by simp[AJ,f154,wc,hT,hT0,h2,h2',hB,hB0,h200,hd,DS] <;> rfl⟩
    | true=>
     have hb:=hbit hB0;obtain⟨e,he,hR⟩:=hp.ix (i:=0) (by omega);have hag:BX t=t.ps[0]'(by omega):=(by simp[BX,hb]);rw[<- hag]at hR;obtain⟨qv,rfl,hq⟩:=hR.AY;simp only[Nq]at he;by_cases hk:(BX t).k=2
     .have hk':((BX t).k != 2)=false:=(by simp[hk]);by_cases hw:1<=(BX t).v/\(BX t).v<=16
      .by_cases h200:200<c+1
       .exact⟨_,by simp[AJ,f154,wc,hT,hT0,h2,h2',hB,hB0,he,hk,hk',hw,h200,hd,DS] <;> rfl⟩
       .exact⟨_,by simp[AJ,f154,wc,hT,hT0,h2,h2',hB,hB0,he,hk,hk',hw,h200,hd,DS] <;> rfl⟩
      .exact⟨_,by simp[AJ,f154,wc,hT,hT0,h2,h2',hB,hB0,he,hk,hk',hw,DS] <;> rfl⟩
     .have hk':((BX t).k != 2)=true:=(by simp[hk]);exact⟨_,by simp[AJ,f154,wc,hT,hT0,h2,h2',hB,hB0,he,hk,hk',DS] <;> rfl⟩
  exact Ae SH VR hn (by simp[AV.AA,AF]) hc h
 | succ n ih=>
  intro hn40 t xs c e0 hx hst hv h0 h1 h;have hn:([lv,AV.agg xs,.agg [.int .i64 c,.int .i64 e0,.int .i64 (40 - (n+1:Nat))]]:List AV).all AV.AA=true:=by simp[AV.AA,hx.AF,hl.AA,AF]
  have wc:wr .i64 (c+1)=c+1:=BU (by omega) (by omega);have hT:=c59 hx hst;have hB:=c66 hx;have hbit:=hok.bit t hv;have hd:¬ (40<=(40 - (n+1:Nat):Int)):=by omega
  have hd1:(40 - (n+1:Nat):Int)+1=40 - (n:Int):=by omega
  have wd:wr .i64 ((40 - (n+1:Nat):Int)+1)=40 - (n:Int):=by rw[hd1];exact BU (by omega) (by omega)
  have h68:=c68 hl hsl hx hst;obtain⟨D,hD⟩:∃ D:Int,D=40 - (n+1:Nat):=⟨_,rfl⟩;rw[<- hD]at hd wd hn ⊢;have hcsm:=F3 hsl hst (by decide);obtain⟨pv,rfl,hp⟩:=hx.AY;obtain⟨hr,hc⟩:∃ hr,AJ MX 154 [lv,.agg [.int .i64 t.k,.int .i64 t.v,.str t.nm,pv],.agg [.int .i64 c,.int .i64 e0,.int .i64 D]] []=some (.ret (.agg [.int .i64 (EX l (n+1) t c).1,.int .i64 (EX l (n+1) t c).2,.int .i64 D]),hr):=by
   simp only[EX,EF];cases hT0:A7 t with
   | false=>exact⟨_,by simp[AJ,f154,wc,hT,hT0,DS] <;> rfl⟩
   | true=>
   by_cases h2:t.k=2
   .have h2':(t.k == 2)=true:=(by simp[h2]);rw[if_neg (by simp),if_pos h2];exact⟨_,by simp[AJ,f154,wc,hT,hT0,h2',DS] <;> rfl⟩
   .have h2':(t.k == 2)=false:=(by simp[h2]);cases hB0:EV t with
    | true=>
     have hb:=hbit hB0;obtain⟨e,he,hR⟩:=hp.ix (i:=0) (by omega);have hag:BX t=t.ps[0]'(by omega):=(by simp[BX,hb]);rw[<- hag]at hR;obtain⟨qv,rfl,hq⟩:=hR.AY;simp only[Nq]at he;by_cases hk:(BX t).k=2
     .have hk':((BX t).k != 2)=false:=(by simp[hk]);by_cases hw:1<=(BX t).v/\(BX t).v<=16
      .by_cases h200:200<c+1
       .exact⟨_,by simp[AJ,f154,wc,hT,hT0,h2,h2',hB,hB0,he,hk,hk',hw,h200,DS] <;> rfl⟩
       .exact⟨_,by simp[AJ,f154,wc,hT,hT0,h2,h2',hB,hB0,he,hk,hk',hw,h200,hd,DS] <;> rfl⟩
      .exact⟨_,by simp[AJ,f154,wc,hT,hT0,h2,h2',hB,hB0,he,hk,hk',hw,DS] <;> rfl⟩
     .have hk':((BX t).k != 2)=true:=(by simp[hk]);exact⟨_,by simp[AJ,f154,wc,hT,hT0,h2,h2',hB,hB0,he,hk,hk',DS] <;> rfl⟩
    | false=>
     by_cases h200:200<c+1
     .exact⟨_,by simp[AJ,f154,wc,hT,hT0,h2,h2',hB,hB0,h200,DS] <;> rfl⟩
     .obtain⟨w,hw,h68'⟩:=h68 (hok.has t hv h2 hB0);have hvf:=hok.fld t hv h2 hB0;have hR:=IL l n;have hb23:=UG;simp[Ab,Az,f154]at hb23;have hb24:=UH;simp[Ab,Az,f154]at hb24;obtain⟨e,st,hlp,hq⟩:=AQ (M:=MX) (fid:=154) (N:=113) (C:=AG MX) (c:=AL f154 0) (n:=(AN l t).length)
       (fun i (b:Int×AE)=>([(0,lv),(6,.hp 2 0),(7,.hp 3 0),(8,w),(9,.int .i64 i)],Blk.var false [AV.int .i64 t.k,AV.int .i64 t.v,AV.str t.nm,pv]::Blk.var false [AV.int .i64 c,AV.int .i64 e0,AV.int .i64 D]::Blk.var false [AV.int .i64 0,AV.int .i64 0,AV.int .i64 0]::Blk.var false [AV.int .i64 b.1,AV.int .i64 0,AV.int .i64 D]::b.2))
       (fun i b=>0<=b.1/\b.1<=200/\eCs (EX l n) (AN l t) (c+1)=eCs (EX l n) ((AN l t).drop i) b.1)
       (fun r=>∃ b:Int×AE,(r=(.ext 0,([(0,lv),(6,.hp 2 0),(7,.hp 3 0),(8,w),(9,.int .i64 (AN l t).length),(72,.bool false)],Blk.var false [AV.int .i64 t.k,AV.int .i64 t.v,AV.str t.nm,pv]::Blk.var false [AV.int .i64 c,AV.int .i64 e0,AV.int .i64 D]::Blk.var false [AV.int .i64 0,AV.int .i64 0,AV.int .i64 0]::Blk.var false [AV.int .i64 b.1,AV.int .i64 0,AV.int .i64 D]::b.2))/\eCs (EX l n) (AN l t) (c+1)=(b.1,0)) \/
         (r=(.ret,([(6,.hp 2 0)],Blk.var false [AV.int .i64 t.k,AV.int .i64 t.v,AV.str t.nm,pv]::Blk.var false [AV.int .i64 c,AV.int .i64 e0,AV.int .i64 D]::Blk.var false [AV.int .i64 (eCs (EX l n) (AN l t) (c+1)).1,AV.int .i64 (eCs (EX l n) (AN l t) (c+1)).2,AV.int .i64 D]::b.2)))) (fun i b hi hI=>by
         obtain⟨cc,G⟩:=b;obtain⟨i0,i1,i2⟩:=hI;simp only at i0 i1 i2;obtain⟨ce,hce,hcR⟩:=hw.ix hi;have hi':=Aa hi;have hwi:=AZ hi hcsm.1;have hsc:=hcsm.2 _ (An hi);obtain⟨fv,rfl,hfv⟩:=hcR.dest;have hdr:(AN l t).drop i=(AN l t)[i]::(AN l t).drop (i+1):=EJ hi;rw[hdr]at i2;simp only[eCs]at i2;obtain⟨e2,st2,hlp2,hq2⟩:=AQ (M:=MX) (fid:=154) (N:=113) (C:=AG MX) (c:=AL f154 1) (n:=(AN l t)[i].fields.length)
          (fun j (b:Int×AE)=>([(0,lv),(6,.hp 2 0),(7,.hp 3 0),(8,w),(9,.int .i64 i),(10,.int .i64 j)],Blk.var false [AV.int .i64 t.k,AV.int .i64 t.v,AV.str t.nm,pv]::Blk.var false [AV.int .i64 c,AV.int .i64 e0,AV.int .i64 D]::Blk.var false [AV.int .i64 0,AV.int .i64 0,AV.int .i64 0]::Blk.var false [AV.int .i64 b.1,AV.int .i64 0,AV.int .i64 D]::b.2))
          (fun j b=>0<=b.1/\b.1<=200/\eFs (EX l n) (AN l t)[i].fields cc=eFs (EX l n) ((AN l t)[i].fields.drop j) b.1)
          (fun r=>∃ b:Int×AE,(r=(.ext 2,([(0,lv),(6,.hp 2 0),(7,.hp 3 0),(8,w),(9,.int .i64 i),(10,.int .i64 (AN l t)[i].fields.length),(82,.bool false)],Blk.var false [AV.int .i64 t.k,AV.int .i64 t.v,AV.str t.nm,pv]::Blk.var false [AV.int .i64 c,AV.int .i64 e0,AV.int .i64 D]::Blk.var false [AV.int .i64 0,AV.int .i64 0,AV.int .i64 0]::Blk.var false [AV.int .i64 b.1,AV.int .i64 0,AV.int .i64 D]::b.2))/\eFs (EX l n) (AN l t)[i].fields cc=(b.1,0)/\0<=b.1/\b.1<=200) \/
            (r=(.ret,([(6,.hp 2 0)],Blk.var false [AV.int .i64 t.k,AV.int .i64 t.v,AV.str t.nm,pv]::Blk.var false [AV.int .i64 c,AV.int .i64 e0,AV.int .i64 D]::Blk.var false [AV.int .i64 (eFs (EX l n) (AN l t)[i].fields cc).1,AV.int .i64 (eFs (EX l n) (AN l t)[i].fields cc).2,AV.int .i64 D]::b.2))/\(eFs (EX l n) (AN l t)[i].fields cc).2≠0)) (fun j b hj hJ=>by
            obtain⟨cf,G'⟩:=b;obtain⟨j0,j1,j2⟩:=hJ;simp only at j0 j1 j2;obtain⟨fe,hfe,hfR⟩:=hfv.ix hj;have hj':=Aa hj;have hwj:=AZ hj hsc.2.1;have hmf:=An hj;obtain⟨tx,rfl,htx⟩:=hfR;have hrec:=ih (by omega) (AN l t)[i].fields[j].ty tx cf 0 htx (hsc.2.2 _ hmf).2 (hvf _ (An hi) _ hmf) j0 j1;obtain⟨r1,r2,r3⟩:=hR (AN l t)[i].fields[j].ty cf j0 j1;obtain⟨qv,rfl,hqv⟩:=htx.AY;have hdr2:(AN l t)[i].fields.drop j=(AN l t)[i].fields[j]::(AN l t)[i].fields.drop (j+1):=EJ hj;rw[hdr2]at j2;simp only[eFs]at j2;by_cases hz:(EX l n (AN l t)[i].fields[j].ty cf).2=0
            .rw[if_pos hz]at j2;exact .inl ⟨((EX l n (AN l t)[i].fields[j].ty cf).1,G'++[Blk.var false [AV.int .i64 (EX l n (AN l t)[i].fields[j].ty cf).1,AV.int .i64 0,AV.int .i64 (40 - n)]]),by simp[f154,hw.len,hi',hce,hfv.len,hj',hfe,wd,hrec,hz,hwj,hb23,hb24,AF,AV.AA,hl.AA,hqv.AA],r1,r3 hz,j2⟩
            .rw[if_neg hz]at j2;have hne:((EX l n (AN l t)[i].fields[j].ty cf).2 != 0)=true:=(by simp[hz]);exact .inr ⟨_,_,by simp[f154,hw.len,hi',hce,hfv.len,hj',hfe,wd,hrec,hne,hb23,hb24,AF,AV.AA,hl.AA,hqv.AA] <;> first | exact⟨rfl,rfl⟩ | rfl,by simp,(0,_),.inr ⟨by rw[j2],by rw[j2];exact hz⟩⟩) (fun b hJ=>by
            obtain⟨cf,G'⟩:=b;obtain⟨j0,j1,j2⟩:=hJ;rw[DD]at j2;exact⟨_,_,by simp[f154,hw.len,hi',hce,hfv.len] <;> first | exact⟨rfl,rfl⟩ | rfl,by simp,(cf,G'),.inl ⟨rfl,j2,j0,j1⟩⟩) (cc,G) ⟨i0,i1,by simp⟩
         simp[f154]at hlp2;obtain⟨⟨cf,G'⟩,hq2⟩:=hq2;rcases hq2 with⟨hq2,hF,f0,f1⟩ | ⟨hq2,hF⟩ <;> cases hq2
         .rw[hF]at i2;exact .inl ⟨(cf,G'),by simp[f154,hw.len,hi',hlp2,hwi],f0,f1,by simpa using i2⟩
         .rw[if_neg hF]at i2;exact .inr ⟨_,_,by simp[f154,hw.len,hi',hlp2] <;> first | exact⟨rfl,rfl⟩ | rfl,by simp,(0,_),.inr (by rw[i2])⟩) (fun b hI=>by
         obtain⟨cc,G⟩:=b;obtain⟨i0,i1,i2⟩:=hI;rw[DD]at i2;exact⟨_,_,by simp[f154,hw.len] <;> first | exact⟨rfl,rfl⟩ | rfl,by simp,(cc,G),.inl ⟨rfl,i2⟩⟩) (c+1,[]) ⟨by simp;omega,by simp;omega,by simp⟩
      simp[f154]at hlp;obtain⟨⟨cc,G⟩,hq⟩:=hq;rcases hq with⟨hq,hC⟩ | hq <;> cases hq
      .exact⟨_,by simp[AJ,f154,wc,hT,hT0,h2,h2',hB,hB0,h200,hd,h68',hlp,hC,DS] <;> rfl⟩
      .exact⟨_,by simp[AJ,f154,wc,hT,hT0,h2,h2',hB,hB0,h200,hd,h68',hlp,DS] <;> rfl⟩
  exact Ae SH VR hn (by simp[AV.AA,AF]) hc h
inductive Sh where
 | bit (n:Int)
 | cons (ns:List Bytes) (ss:List (List Sh))
 deriving Inhabited
theorem Sh.ind{P:Sh->Prop}(hb:∀ n,P (.bit n))(hc:∀ ns ss,(∀ s∈ss,∀ x∈s,P x)->P (.cons ns ss))(s:Sh):P s:=
 Sh.rec (motive_1:=P) (motive_2:=fun ss=>∀ s∈ss,∀ x∈s,P x) (motive_3:=fun s=>∀ x∈s,P x) (fun n=>hb n) (fun ns ss ih=>hc ns ss ih)
  (fun s hs=>by cases hs) (fun a r ha hr s hs=>by
    rcases CF.1 hs with rfl | hs
    .exact ha
    .exact hr s hs) (fun x hx=>by cases hx) (fun a r ha hr x hx=>by
    rcases CF.1 hx with rfl | hx
    .exact ha
    .exact hr x hx) s
inductive DT(l:List AK):TyV->Sh->Prop where
 | bit (t:TyV) (hb:EV t=true) (hw:1<=(BX t).v/\(BX t).v<=16) (h2:(BX t).k=2):DT l t (.bit (BX t).v)
 | cons (t:TyV) (ns:List Bytes) (ss:List (List Sh)) (hb:EV t=false) (hk:t.k≠2) (hn:ns=(AN l t).map (·.nm)) (hl:ss.length=(AN l t).length)
  (hs:∀(i:Nat) c s,(AN l t)[i]? = some c->ss[i]? = some s->s.length=c.fields.length)
  (hf:∀(i:Nat) c s (j:Nat) f y,(AN l t)[i]? = some c->ss[i]? = some s->c.fields[j]? = some f->s[j]? = some y->DT l f.ty y):DT l t (.cons ns ss)
theorem DT.unique{l:List AK}{t:TyV}{s:Sh}(h:DT l t s):∀ s',DT l t s'->s=s':=by
 induction h with
 | bit t hb hw h2=>
  intro s' h';cases h' with
  | bit _ _ _ _=>rfl
  | cons _ _ _ hb'=>rw[hb]at hb';cases hb'
 | cons t ns ss hb hk hn hl hs hf ih=>
  intro s' h';cases h' with
  | bit _ hb' _=>rw[hb]at hb';cases hb'
  | cons _ ns' ss' hb' hk' hn' hl' hs' hf'=>
   have e1:ns=ns':=(by rw[hn,hn']);have e2:ss=ss':=by
    apply Mc (by rw[hl,hl']);intro i h1 h2;have hc:(AN l t)[i]? = some ((AN l t)[i]'(by omega)):=AO _;have a1:=hs i _ _ hc (AO h1);have b1:=hs' i _ _ hc (AO h2);apply Mc (by rw[a1,b1]);intro j g1 g2;exact ih i _ _ j _ _ hc (AO h1) (AO (by omega)) (AO g1) _ (hf' i _ _ j _ _ hc (AO h2) (AO (by omega)) (AO g2))
   rw[e1,e2]
theorem Z3{l:List AK}{rec:Rec}(hr:∀ t c,(rec t c).2=0->∃ s,DT l t s):∀(fs:List DB) c,(eFs rec fs c).2=0->∃ ss:List Sh,ss.length=fs.length/\∀(j:Nat) f y,fs[j]? = some f->ss[j]? = some y->DT l f.ty y
 | [],_,_=>⟨[],rfl,fun j f y h=>by simp at h⟩
 | f::r,c,h=>by
  simp only[eFs]at h;split at h
  .rename_i hz;obtain⟨s,hs⟩:=hr f.ty c hz;obtain⟨ss,h1,h2⟩:=Z3 hr r _ h;refine⟨s::ss,by simp[h1],fun j f' y g1 g2 => ?_⟩;cases j with
   | zero=>simp at g1 g2;exact g1 ▸ g2 ▸ hs
   | succ j=>exact h2 j f' y (by simpa using g1) (by simpa using g2)
  .rename_i hz;exact absurd h hz
theorem Z4{l:List AK}{rec:Rec}(hr:∀ t c,(rec t c).2=0->∃ s,DT l t s):∀(cs:List CZ) c,(eCs rec cs c).2=0->∃ ss:List (List Sh),ss.length=cs.length/\∀(i:Nat) k s,cs[i]? = some k->ss[i]? = some s->s.length=k.fields.length/\∀(j:Nat) f y,k.fields[j]? = some f->s[j]? = some y->DT l f.ty y
 | [],_,_=>⟨[],rfl,fun j f y h=>by simp at h⟩
 | k::r,c,h=>by
  simp only[eCs]at h;split at h
  .rename_i hz;obtain⟨s,hs1,hs2⟩:=Z3 hr k.fields c hz;obtain⟨ss,h1,h2⟩:=Z4 hr r _ h;refine⟨s::ss,by simp[h1],fun j f' y g1 g2 => ?_⟩;cases j with
   | zero=>simp at g1 g2;subst g1;subst g2;exact⟨hs1,hs2⟩
   | succ j=>exact h2 j f' y (by simpa using g1) (by simpa using g2)
  .rename_i hz;exact absurd h hz
theorem Si{l:List AK}{r:Option Rec}(hr:∀ rec,r=some rec->∀ t c,(rec t c).2=0->∃ s,DT l t s)(t:TyV)(c:Int)(h:(EF l r t c).2=0):∃ s,DT l t s:=by
 unfold EF at h;split at h
 .cases h
 split at h
 .cases h
 rename_i h2;split at h
 .cases h
 rename_i h2';split at h
 .cases h
 rename_i h3';split at h
 .cases h
 split at h
 .cases h
 split at h
 .rename_i hb;exact⟨_,.bit t hb (by
   by_cases hw:1<=(BX t).v/\(BX t).v<=16
   .exact hw
   .exact absurd ⟨hb,hw⟩ h3') (Decidable.byContradiction fun h=>h2' ⟨hb,h⟩)⟩
 .rename_i hb;obtain⟨ss,h3,h4⟩:=Z4 (hr _ rfl) _ _ h;exact⟨_,.cons t _ ss (by simpa using hb) h2 rfl h3 (fun i c s g1 g2=>(h4 i c s g1 g2).1) (fun i c s j f y g1 g2 g3 g4=>(h4 i c s g1 g2).2 j f y g3 g4)⟩
theorem Ko(l:List AK):∀ n t c,(EX l n t c).2=0->∃ s,DT l t s
 | 0=>Si fun rec h=>by cases h
 | n+1=>Si fun rec h=>by cases h;exact Ko l n
open Classical in
noncomputable def CE(l:List AK)(t:TyV):Sh:=if h:∃ s,DT l t s then Classical.choose h else .bit 0
theorem JR{l:List AK}{t:TyV}{s:Sh}(h:DT l t s):CE l t=s:=by
 have hx:∃ s,DT l t s:=⟨s,h⟩;unfold CE;rw[dif_pos hx];exact(Classical.choose_spec hx).unique _ h
def ME(n:Nat):Int:=if n<=1 then 0 else if n<=2 then 1 else if n<=4 then 2 else if n<=8 then 3 else 4
theorem tags:(List.range 17).all (fun n=>match ES MX 20 73 [.int .i64 n] []with
 | some (.ret (.int .i64 m),[])=>decide (m=ME n)
 | _=>false)=true:=by kernel_rfl
theorem pureC{f:FuncId}{args:List AV}{v:AV}{hr:AE}(hm:MX.mode f = { fresh:=true })(ha:args.all AV.AA=true)(hv:v.AA=true)(hc:AG MX f args []=some (.ret v,hr))(h:AE) :
 AH MX (AG MX) f args h=some (.ret v,h):=by
 have hs:∀{l:List AV} {h:AE},l.all AV.AA=true->Aq l h=some (l,h):=by
  intro l;induction l with
  | nil=>intro h _;rfl
  | cons a r ih=>
   intro h hn;simp only[Hk,Ba]at hn;simp only[Aq,hn.1,ih hn.2]
 unfold AH;simp only[hm,hs ha,ha,hc,Cm,hv]
theorem c73(n:Nat)(hn:n<=16)(h:AE):AH MX (AG MX) 73 [.int .i64 n] h=some (.ret (.int .i64 (ME n)),h):=by
 have h1:=ER.1 tags n (by simp;omega);split at h1
 .rename_i m hm;have:=of_decide_eq_true h1;subst this;exact pureC b9 rfl rfl (G7.2 ⟨20,hm⟩) h
 .cases h1
theorem Oc(T:Ty)(ts:List TypeId)(k k':IntKind)(x y:Int)(h:AE):Ad T .max ts [.int k x,.int k' y] h=some (.val (.int k (if y > x then y else x)) h):=rfl
def NI(a b:Int):Int:=wr .i64 (a+b)
mutual
def shW:Sh->Int
 | .bit n=>n
 | .cons _ ss=>NI (ME ss.length) (Fl ss 0)
def Fl:List (List Sh)->Int->Int
 | [],m=>m
 | s::r,m=>Fl r (if G9 s 0 > m then G9 s 0 else m)
def G9:List Sh->Int->Int
 | [],a=>a
 | s::r,a=>G9 r (NI a (shW s))
end
theorem P2{s:List Sh}{j:Nat}(hj:j<s.length)(a:Int):G9 (s.drop j) a=G9 (s.drop (j+1)) (NI a (shW s[j])):=by
 rw[EJ hj];simp only[G9]
theorem NC{ss:List (List Sh)}{j:Nat}(hj:j<ss.length)(m:Int):Fl (ss.drop j) m=Fl (ss.drop (j+1)) (if G9 ss[j] 0 > m then G9 ss[j] 0 else m):=by
 rw[EJ hj];simp only[Fl]
section
variable{l:List AK}{lv:AV}(hl:SlR Ah 3 l lv)(hsl:SmL 1048577 l)(hok:DOK l)(hlen:∀ t,VT l t->t.k≠2->EV t=false->(AN l t).length<=16)
include hl hsl hok hlen
theorem c26(s:Sh):∀(t:TyV) (xs:List AV),AU t xs->Sm 1048577 t->VT l t->DT l t s->∀ h,AH MX (AG MX) 26 [lv,.agg xs] h=some (.ret (.int .i64 (shW s)),h):=by
 induction s using Sh.ind with
 | hb n=>
  intro t xs hx hst hv hs h;have hn:([lv,AV.agg xs]:List AV).all AV.AA=true:=by simp[AV.AA,hx.AF,hl.AA]
  have hB:=c66 hx;obtain⟨pv,rfl,hp⟩:=hx.AY;cases hs with
  | bit _ hb _=>
   have hb1:=hok.bit t hv hb;obtain⟨e,he,hR⟩:=hp.ix (i:=0) (by omega);have hag:BX t=t.ps[0]'(by omega):=(by simp[BX,hb1]);rw[<- hag]at hR;obtain⟨qv,rfl,hq⟩:=hR.AY;simp only[Nq]at he;exact Ae Qn T0 hn rfl (hr:=[Blk.var false [AV.int .i64 t.k,AV.int .i64 t.v,AV.str t.nm,pv]]) (by simp[AJ,f26,hB,hb,he,shW]) h
 | hc ns ss ih=>
  intro t xs hx hst hv hs h;cases hs with
  | cons _ _ _ hb hk hnn hll hs0 hf0=>
  have hn:([lv,AV.agg xs]:List AV).all AV.AA=true:=by simp[AV.AA,hx.AF,hl.AA]
  have hB:=c66 hx;obtain⟨w,hw,h68⟩:=c68 hl hsl hx hst (hok.has t hv hk hb);have hcsm:=F3 hsl hst (by decide);have hvf:=hok.fld t hv hk hb;have h16:=hlen t hv hk hb;have hT:=c73 (AN l t).length h16;have h122:∀(i:Nat) (hi:i<(AN l t).length) (hi2:i<ss.length) (cx:List AV),Ed (AN l t)[i] cx->∀ h,AH MX (AG MX) 122 [lv,.agg cx] h=some (.ret (.int .i64 (G9 ss[i] 0)),h):=by
   intro i hi hi2 cx hcx h;have hn2:([lv,AV.agg cx]:List AV).all AV.AA=true:=(by simp[AV.AA,HG _ _ hcx,hl.AA]);obtain⟨fv,rfl,hfv⟩:=hcx.dest;have f1:=hs0 i _ _ (AO hi) (AO hi2);have f2:=fun j f y=>hf0 i _ _ j f y (AO hi) (AO hi2)
   have hsc:=hcsm.2 _ (An hi);obtain⟨e,st,hlp,hq⟩:=AQ (M:=MX) (fid:=122) (N:=25) (C:=AG MX) (c:=AL f122 0) (n:=(AN l t)[i].fields.length)
    (fun j (b:Int)=>([(0,lv),(3,.hp 0 0),(5,.int .i64 b),(6,.int .i64 j)],[Blk.var false [AV.str (AN l t)[i].nm,fv]]))
    (fun j b=>G9 ss[i] 0=G9 (ss[i].drop j) b)
    (fun r=>r=(.ext 0,([(0,lv),(3,.hp 0 0),(5,.int .i64 (G9 ss[i] 0)),(6,.int .i64 (AN l t)[i].fields.length),(11,.bool false)],[Blk.var false [AV.str (AN l t)[i].nm,fv]]))) (fun j b hj hJ=>by
      obtain⟨fe,hfe,hfR⟩:=hfv.ix hj;have hj':=Aa hj;have hwj:=AZ hj hsc.2.1;have hmf:=An hj;have hjs:j<ss[i].length:=(by omega);obtain⟨tx,rfl,htx⟩:=hfR;have hrec:=ih ss[i] (An hi2) ss[i][j] (An hjs) (AN l t)[i].fields[j].ty tx htx (hsc.2.2 _ hmf).2 (hvf _ (An hi) _ hmf) (f2 j _ _ (AO hj) (AO hjs));obtain⟨qv,rfl,hqv⟩:=htx.AY;rw[P2 hjs]at hJ;exact .inl ⟨NI b (shW ss[i][j]),by simp[f122,hfv.len,hj',hfe,hrec,hwj,NI],hJ⟩) (fun b hJ=>by
      rw[Jr (by omega)]at hJ;simp only[G9]at hJ;exact⟨_,_,by simp[f122,hfv.len] <;> first | exact⟨rfl,rfl⟩ | rfl,by simp,by rw[hJ]⟩) 0 (by simp)
   cases hq;simp[f122]at hlp;exact Ae Ym cT hn2 rfl (hr:=[Blk.var false [AV.str (AN l t)[i].nm,fv]]) (by simp[AJ,f122,hlp]) h
  obtain⟨pv,rfl,hp⟩:=hx.AY;have h74:∀ h,AH MX (AG MX) 74 [lv,.agg [.int .i64 t.k,.int .i64 t.v,.str t.nm,pv]] h=some (.ret (.int .i64 (Fl ss 0)),h):=by
   intro h;obtain⟨e,st,hlp,hq⟩:=AQ (M:=MX) (fid:=74) (N:=26) (C:=AG MX) (c:=AL f74 0) (n:=(AN l t).length)
    (fun i (b:Int)=>([(0,lv),(5,w),(6,.int .i64 b),(7,.int .i64 i)],[Blk.var false [AV.int .i64 t.k,AV.int .i64 t.v,AV.str t.nm,pv]]))
    (fun i b=>Fl ss 0=Fl (ss.drop i) b)
    (fun r=>r=(.ext 0,([(0,lv),(5,w),(6,.int .i64 (Fl ss 0)),(7,.int .i64 (AN l t).length),(14,.bool false)],[Blk.var false [AV.int .i64 t.k,AV.int .i64 t.v,AV.str t.nm,pv]]))) (fun i b hi hI=>by
      obtain⟨ce,hce,hcR⟩:=hw.ix hi;have hi':=Aa hi;have hwi:=AZ hi hcsm.1;have hi2:i<ss.length:=(by omega);have hW:=h122 i hi hi2 ce hcR;obtain⟨fv,rfl,hfv⟩:=hcR.dest;rw[NC hi2]at hI;exact .inl ⟨if G9 ss[i] 0 > b then G9 ss[i] 0 else b,by simp[f74,hw.len,hi',hce,hW,hwi,Oc],hI⟩) (fun b hI=>by
      rw[Jr (by omega)]at hI;simp only[Fl]at hI;exact⟨_,_,by simp[f74,hw.len] <;> first | exact⟨rfl,rfl⟩ | rfl,by simp,by rw[hI]⟩) 0 (by simp)
   cases hq;simp[f74]at hlp;exact Ae cA iC hn rfl (hr:=[Blk.var false [AV.int .i64 t.k,AV.int .i64 t.v,AV.str t.nm,pv]]) (by simp[AJ,f74,h68,hlp]) h
  have hw2:=hw;rcases hw2 with⟨he,rfl⟩ | ⟨ex,es,rfl,hes,_⟩
  .rw[he]at hT;have hs0:ss.length=0:=(by rw[hll,he];rfl);exact Ae Qn T0 hn rfl (hr:=[Blk.var false [AV.int .i64 t.k,AV.int .i64 t.v,AV.str t.nm,pv]]) (by simp at hT;simp[AJ,f26,hB,hb,h68,hT,h74,shW,NI,hs0,AF,AV.AA,hl.AA,hp.AA]) h
  .exact Ae Qn T0 hn rfl (hr:=[Blk.var false [AV.int .i64 t.k,AV.int .i64 t.v,AV.str t.nm,pv]]) (by simp[AJ,f26,hB,hb,h68,hes,hT,h74,shW,NI,hll,AF,AV.AA,hl.AA,hp.AA]) h
noncomputable def Fw(l:List AK)(t:TyV):Int:=if Bp l [] t=0 then(if(EX l 40 t 0).2=0 then(if 1<=shW (CE l t)/\shW (CE l t)<=16 then 0 else 25)else(EX l 40 t 0).2)else Bp l [] t
theorem c85{t:TyV}{xs:List AV}(hx:AU t xs)(hst:Sm 1048577 t)(h:AE):AH MX (AG MX) 85 [lv,.agg xs] h=some (.ret (.int .i64 (Fw l t)),h):=by
 have hn:([lv,AV.agg xs]:List AV).all AV.AA=true:=by simp[AV.AA,hx.AF,hl.AA]
 have h153:=c153 hl hsl.1 (params:=[]) (pr:=.AI) (.inl ⟨rfl,rfl⟩) (by decide) (fun d hd=>(hsl.2 d hd).2.1) hx hst;have h154:=fun hv=>c154 hl hsl hok 40 (by decide) t xs 0 0 hx hst hv (by decide) (by decide)
 have h26:=fun s=>c26 hl hsl hok hlen s t xs hx hst
 obtain⟨pv,rfl,hp⟩:=hx.AY;obtain⟨hr,hc⟩:∃ hr,AJ MX 85 [lv,.agg [.int .i64 t.k,.int .i64 t.v,.str t.nm,pv]] []=some (.ret (.int .i64 (Fw l t)),hr):=by
  unfold Fw;by_cases h1:Bp l [] t=0
  .have hv:VT l t:=by
    unfold Bp at h1;split at h1
    .exact h1
    .cases h1
   have e154:=h154 hv;rw[show(40:Int) - ((40:Nat):Int)=0 by decide]at e154;by_cases h2:(EX l 40 t 0).2=0
   .obtain⟨s,hs⟩:=Ko l 40 t 0 h2;have e26:=h26 s hv hs;rw[JR hs];by_cases h3:1<=shW s/\shW s<=16
    .exact⟨_,by simp[AJ,f85,h153,h1,e154,h2,e26,h3] <;> rfl⟩
    .exact⟨_,by simp[AJ,f85,h153,h1,e154,h2,e26,h3] <;> rfl⟩
   .have h2':((EX l 40 t 0).2 != 0)=true:=(by simp[h2]);exact⟨_,by simp[AJ,f85,h153,h1,e154,h2,h2'] <;> rfl⟩
  .have h1':(Bp l [] t != 0)=true:=(by simp[h1]);exact⟨_,by simp[AJ,f85,h153,h1,h1'] <;> rfl⟩
 exact Ae cD iG hn rfl hc h
end
end
section
attribute [local simp] Dc Bn Ec Dd CQ Dx Dy Ey BZ Ap Bh Av Gb FR EN HO D9 A5 FN EO HP HQ xUn FC EA FT BG DQ BH EB BI EC Ce Ca Bv BL EP Eo
 ev evs C4 DP OR.ofV OR.D4 OR.ofC Fg Tm.get Tm.init Tm.only Ay A6 Bt finish CK DS Hb D3 D7 unA Bz Bc B6 Bd Cp Cq Cr Be Cs Ct Bf Cu Cv Bg B7 AL CP Bb Cn Co Bx Ez E0 E1 Dz D0 Fo F7 F8 Fp stA BA DY Bo DR FD Gp B8 C1 CI FU Gq
attribute [local simp] DE CT Cb Bl DF DG DH DI DJ DK DL Ef Cg Eg Dh FW FX Gi Di Eh Dj BQ Dk BR Dl B9 Ei Ch FY FZ Fa Ci Dm Dn Fb Gj Fc Gk Gl Dp BS Cj CA Dq Dr Ck
mutual
def CB(s:Sh):TyV->Int
 | .mk k v nm ps=>
  if k=0 then(if 0<ps.length then 10 else 0)
  else if k=1 then(if 0<ps.length then 10 else if BM nm=false then 4 else 0)
  else if k=3 then(match s with
   | .bit n=>if 0<ps.length then 10 else if 0<=v/\v<=((2 ^ n.toNat:Nat):Int) - 1 then 0 else 2
   | .cons _ _=>26)
  else if k=2 then(match s with
   | .bit _=>6
   | .cons ns ss=>match ns.findIdx? (fun x=>x == nm)with
    | none=>6
    | some i=>if ps.length≠(ss.getD i []).length then 10 else FV (ss.getD i []) ps)
  else 15
def FV(ss:List Sh):List TyV->Int
 | []=>0
 | p::r=>if CB (ss.headD default) p=0 then FV ss.tail r else CB (ss.headD default) p
end
theorem Od{ss:List Sh}{ps:List TyV}{j:Nat}(hj:j<ps.length)(hs:j<ss.length):FV (ss.drop j) (ps.drop j)=if CB ss[j] ps[j]=0 then FV (ss.drop (j+1)) (ps.drop (j+1))else CB ss[j] ps[j]:=by
 rw[EJ hj,EJ hs];simp only[FV,Ll,Lo]
 all_goals first | rfl | (split <;> rfl)
theorem c121(n w:Int)(h0:0<=w)(h1:w<=62)(h:AE):AH MX (AG MX) 121 [.int .i64 n,.int .i64 w] h=some (.ret (.bool (decide (0<=n/\n<=((2 ^ w.toNat:Nat):Int) - 1))),h):=by
 have hp:(2:Nat) ^ w.toNat<=2 ^ 62:=Lj (by decide) (by omega);have hp':(2:Nat) ^ w.toNat<9223372036854775808:=Hf hp (by decide);have hpos:0<(2:Nat) ^ w.toNat:=Nat.pow_pos (by decide);have hc:=c67 w h0 h1;obtain⟨P,hP⟩:∃ P:Nat,P=2 ^ w.toNat:=⟨_,rfl⟩;rw[<- hP]at hp' hpos hc ⊢;have hw:wr .i64 ((P:Int) - 1)=(P:Int) - 1:=BU (by omega) (by omega);exact Ae Yl cS rfl rfl (hr:=[]) (by simp[AJ,f121,hc,hw]) h
section
variable{l:List AK}{lv:AV}(hl:SlR Ah 3 l lv)(hsl:SmL 1048577 l)(hok:DOK l)
include hl hsl hok
theorem c87(p:TyV):∀(px:List AV),AU p px->Sm 1048577 p->∀(s:Sh) (t:TyV) (xs:List AV),AU t xs->Sm 1048577 t->VT l t->DT l t s->∀ h,AH MX (AG MX) 87 [lv,.agg xs,.agg px] h=some (.ret (.int .i64 (CB s p)),h):=by
 induction p using TyV.ind with
 | h k v nm ps ih=>
  intro px hpx hsp s t xs hx hst hv hs h;have hn:([lv,AV.agg xs,AV.agg px]:List AV).all AV.AA=true:=by simp[AV.AA,hx.AF,hl.AA,hpx.AF]
  obtain⟨s1,s2,s3⟩:=hsp.dest;have hB:=c66 hx;have hNm:=Z2 nm s1;have h158:k=2->∀ h,AH MX (AG MX) 158 [lv,.agg xs,.agg px] h=some (.ret (.int .i64 (CB s (.mk 2 v nm ps))),h):=by
   rintro rfl;intro h;cases hs with
   | bit _ hb _=>
    obtain⟨qv,rfl,hq⟩:=hpx.dest;obtain⟨pv,rfl,hp⟩:=hx.AY;exact Ae SJ VU hn rfl (hr:=[Blk.var false [AV.int .i64 t.k,AV.int .i64 t.v,AV.str t.nm,pv],Blk.var false [AV.int .i64 2,AV.int .i64 v,AV.str nm,qv]]) (by simp[AJ,f158,hB,hb,CB]) h
   | cons _ ns ss hb hk hnn hll hs0 hf0=>
    obtain⟨w,hw,h68⟩:=c68 hl hsl hx hst (hok.has t hv hk hb);have hcsm:=F3 hsl hst (by decide);have hvf:=hok.fld t hv hk hb;have h72:=c72 nm hw hcsm.1;have hfi:ns.findIdx? (fun x=>x == nm)=(AN l t).findIdx? (fun x=>x.nm == nm):=(by rw[hnn,List.findIdx?_map];rfl);have hb7:=Ww;simp[Ab,Az,f158]at hb7;have hb12:=UI;simp[Ab,Az,f158]at hb12;obtain⟨qv,rfl,hq⟩:=hpx.dest;obtain⟨pv,rfl,hp⟩:=hx.AY;obtain⟨hr,hc⟩:∃ hr,AJ MX 158 [lv,.agg [.int .i64 t.k,.int .i64 t.v,.str t.nm,pv],.agg [.int .i64 2,.int .i64 v,.str nm,qv]] []=some (.ret (.int .i64 (CB (.cons ns ss) (.mk 2 v nm ps))),hr):=by
     cases hf:(AN l t).findIdx? (fun x=>x.nm == nm)with
     | none=>
      have hpe:CB (.cons ns ss) (.mk 2 v nm ps)=6:=(by simp[CB,hfi,hf]);rw[hpe];exact⟨_,by simp[AJ,f158,hB,hb,h68,h72,hf,ixI] <;> rfl⟩
     | some i=>
      have hi:=Gh hf;have hi0:¬ ((i:Int)<0):=(by omega);have hi2:i<ss.length:=(by omega);have hgd:ss.getD i []=ss[i]:=(by simp[hi2]);obtain⟨ce,hce,hcR⟩:=hw.ix hi;obtain⟨fv,rfl,hfv⟩:=hcR.dest;have hsc:=hcsm.2 _ (An hi);have hsl2:=hs0 i _ _ (AO hi) (AO hi2);have hpe:CB (.cons ns ss) (.mk 2 v nm ps)=if ps.length≠(AN l t)[i].fields.length then 10 else FV ss[i] ps:=by simp[CB,hfi,hf,hi2,hsl2]
      rw[hpe];by_cases hL:ps.length=(AN l t)[i].fields.length
      .have hL':((ps.length:Int) != ((AN l t)[i].fields.length:Int))=false:=(by simp[hL]);have hLs:ps.length=ss[i].length:=(by omega);obtain⟨e,st,hlp,hq0⟩:=AQ (M:=MX) (fid:=158) (N:=58) (C:=AG MX) (c:=AL f158 0) (n:=ps.length)
        (fun j (_:Unit)=>([(0,lv),(5,.hp 1 0),(7,w),(8,.int .i64 i),(9,.int .i64 j)],[Blk.var false [AV.int .i64 t.k,AV.int .i64 t.v,AV.str t.nm,pv],Blk.var false [AV.int .i64 2,AV.int .i64 v,AV.str nm,qv]]))
        (fun j _=>FV ss[i] ps=FV (ss[i].drop j) (ps.drop j))
        (fun r=>(r=(.ext 0,([(0,lv),(5,.hp 1 0),(7,w),(8,.int .i64 i),(9,.int .i64 ps.length),(36,.bool false)],[Blk.var false [AV.int .i64 t.k,AV.int .i64 t.v,AV.str t.nm,pv],Blk.var false [AV.int .i64 2,AV.int .i64 v,AV.str nm,qv]]))/\FV ss[i] ps=0) \/
          (r=(.ret,([(6,.int .i64 (FV ss[i] ps))],[Blk.var false [AV.int .i64 t.k,AV.int .i64 t.v,AV.str t.nm,pv],Blk.var false [AV.int .i64 2,AV.int .i64 v,AV.str nm,qv]])))) (fun j b hj hJ=>by
          have hjf:j<(AN l t)[i].fields.length:=(by omega);have hjs:j<ss[i].length:=(by omega);obtain⟨fe,hfe,hfR⟩:=hfv.ix hjf;obtain⟨pe,hpe,hpR⟩:=hq.ix hj;have hj':=Aa hj;have hwj:=AZ hj s2;have hmf:=An hjf;obtain⟨tx,rfl,htx⟩:=hfR;have hrec:=ih ps[j] (An hj) pe hpR (s3 _ (An hj)) ss[i][j] (AN l t)[i].fields[j].ty tx htx (hsc.2.2 _ hmf).2 (hvf _ (An hi) _ hmf) (hf0 i _ _ j _ _ (AO hi) (AO hi2) (AO hjf) (AO hjs));obtain⟨q1,rfl,hq1⟩:=htx.AY;obtain⟨q2,rfl,hq2⟩:=hpR.AY;rw[Od hj hjs]at hJ;by_cases h0:CB ss[i][j] ps[j]=0
          .rw[if_pos h0]at hJ;exact .inl ⟨(),by simp[f158,hq.len,hj',hce,hfe,hpe,hrec,h0,hwj,hb12,AF,AV.AA,hl.AA,hq1.AA,hq2.AA],hJ⟩
          .rw[if_neg h0]at hJ;have hne:(CB ss[i][j] ps[j] != 0)=true:=(by simp[h0]);exact .inr ⟨_,_,by simp[f158,hq.len,hj',hce,hfe,hpe,hrec,hne,hb12,AF,AV.AA,hl.AA,hq1.AA,hq2.AA] <;> first | exact⟨rfl,rfl⟩ | rfl,by simp,.inr (by rw[hJ])⟩) (fun b hJ=>by
          rw[DD]at hJ;simp only[FV]at hJ;exact⟨_,_,by simp[f158,hq.len] <;> first | exact⟨rfl,rfl⟩ | rfl,by simp,.inl ⟨rfl,hJ⟩⟩) () (by simp)
       simp[f158]at hlp;rcases hq0 with⟨hq0,hz⟩ | hq0 <;> cases hq0
       .exact⟨_,by simp[AJ,f158,hB,hb,h68,h72,hf,ixI,hi0,hce,hq.len,hfv.len,hq.C5,hfv.C5,hb7,hL,hlp,hz] <;> rfl⟩
       .exact⟨_,by simp[AJ,f158,hB,hb,h68,h72,hf,ixI,hi0,hce,hq.len,hfv.len,hq.C5,hfv.C5,hb7,hL,hlp] <;> rfl⟩
      .have hL':((ps.length:Int) != ((AN l t)[i].fields.length:Int))=true:=(by simp;omega);exact⟨_,by simp[AJ,f158,hB,hb,h68,h72,hf,ixI,hi0,hce,hq.len,hfv.len,hq.C5,hfv.C5,hb7,hL',hL] <;> rfl⟩
    exact Ae SJ VU hn rfl hc h
  have hb16:=Wf;simp[Ab,Az,f87]at hb16;have htx:=hx;obtain⟨qv,rfl,hq⟩:=hpx.dest;obtain⟨pv,rfl,hp⟩:=hx.AY;refine Ae cF iI hn rfl (hr:=[Blk.var false [AV.int .i64 t.k,AV.int .i64 t.v,AV.str t.nm,pv],Blk.var false [AV.int .i64 k,AV.int .i64 v,AV.str nm,qv]]) ?_ h;by_cases k2:k=2
  .subst k2;simp[AJ,f87,h158 rfl]
  simp only[CB];by_cases k0:k=0
  .subst k0;by_cases hL:0<ps.length
   .have hL':(0<(ps.length:Int)):=(by omega);simp[AJ,f87,hq.len,hL',hL]
   .have hL':¬ (0<(ps.length:Int)):=(by omega);simp[AJ,f87,hq.len,hL',hL]
  .have k0':(k == 0)=false:=(by simp[k0]);by_cases k1:k=1
   .subst k1;by_cases hL:0<ps.length
    .have hL':(0<(ps.length:Int)):=(by omega);simp[AJ,f87,hq.len,hL',hL]
    .have hL':¬ (0<(ps.length:Int)):=(by omega);cases hN0:BM nm <;> simp[AJ,f87,hq.len,hL',hL,hNm,hN0]
   .have k1':(k == 1)=false:=(by simp[k1]);by_cases k3:k=3
    .subst k3;cases hs with
     | cons _ ns ss hb _ _ _ _ _=>simp[AJ,f87,hB,hb]
     | bit _ hb hw=>
      have hb1:=hok.bit t hv hb;obtain⟨e,he,hR⟩:=hp.ix (i:=0) (by omega);have hag:BX t=t.ps[0]'(by omega):=(by simp[BX,hb1]);rw[<- hag]at hR;obtain⟨qv2,rfl,hq2⟩:=hR.AY;simp only[Nq]at he;have hF:=c121 v (BX t).v (by omega) (by omega);by_cases hL:0<ps.length
      .have hL':(0<(ps.length:Int)):=(by omega);simp[AJ,f87,hB,hb,hq.len,hL',hL]
      .have hL':¬ (0<(ps.length:Int)):=(by omega);have e:∀ x,(if(3:Int)=0 then(if 0<ps.length then 10 else 0)else if(3:Int)=1 then(if 0<ps.length then 10 else if BM nm=false then 4 else 0)else if(3:Int)=3 then(match Sh.bit (BX t).v with
        | .bit n=>if 0<ps.length then 10 else if 0<=v/\v<=((2 ^ n.toNat:Nat):Int) - 1 then 0 else 2
        | .cons _ _=>26)else x)=if 0<=v/\v<=((2 ^ (BX t).v.toNat:Nat):Int) - 1 then(0:Int)else 2:=fun x=>by
        rw[if_neg (by decide),if_neg (by decide),if_pos rfl];show(if 0<ps.length then(10:Int)else _)=_;rw[if_neg hL]
       have hgoal:∀ b:Bool,b=decide (0<=v/\v<=((2 ^ (BX t).v.toNat:Nat):Int) - 1)->AJ MX 87 [lv,AV.agg [AV.int .i64 t.k,AV.int .i64 t.v,AV.str t.nm,pv],AV.agg [AV.int .i64 3,AV.int .i64 v,AV.str nm,qv]] []=some (.ret (.int .i64 (if b then 0 else 2)),[Blk.var false [AV.int .i64 t.k,AV.int .i64 t.v,AV.str t.nm,pv],Blk.var false [AV.int .i64 3,AV.int .i64 v,AV.str nm,qv]]):=fun b hb2=>by
        rw[<- hb2]at hF;cases b <;> simp[AJ,f87,hB,hb,hq.len,hL',hL,he,hF,hb16,AV.AA]
       have h5:=hgoal _ rfl;rw[h5];refine congrArg (fun z=>some (CR.ret (AV.int .i64 z),_)) ?_;by_cases hr:0<=v/\v<=((2 ^ (BX t).v.toNat:Nat):Int) - 1
       .rw[decide_eq_true hr];exact((e _).trans (if_pos hr)).symm
       .rw[decide_eq_false hr];exact((e _).trans (if_neg hr)).symm
    .have k3':(k == 3)=false:=(by simp[k3]);have k2':(k == 2)=false:=(by simp[k2]);simp[AJ,f87,k0',k1',k2',k3',k0,k1,k2,k3]
end
mutual
def BV:TyV->List Bytes
 | .mk k _ nm ps=>if k=1 then [nm]else CJ ps
def CJ:List TyV->List Bytes
 | []=>[]
 | p::r=>BV p++CJ r
end
theorem Hd:∀(a b:List TyV),CJ (a++b)=CJ a++CJ b
 | [],b=>rfl
 | p::r,b=>by simp[CJ,Hd r b]
theorem Iq{ps:List TyV}{i:Nat}(hi:i<ps.length):CJ (ps.take (i+1))=CJ (ps.take i)++BV ps[i]:=by
 rw[<- Cf hi,Hd];simp[CJ]
theorem JS(ps:List TyV)(i:Nat):(CJ (ps.take i)).length<=(CJ ps).length:=by
 have:=congrArg List.length (Hd (ps.take i) (ps.drop i));rw[QQ]at this;simp at this;omega
theorem Jl{ps:List TyV}{p:TyV}(hp:p∈ps):(BV p).length<=(CJ ps).length:=by
 obtain⟨i,hi,rfl⟩:=Gt hp;have:=JS ps (i+1);rw[Iq hi]at this;simp at this;omega
theorem XF{α:Type}{R:α->List AV->Prop}{l m:List α}{es xs:List (List AV)}(hl:es.length=l.length)(hr:∀(i:Nat) a e,l[i]? = some a->es[i]? = some e->R a e)(hl2:xs.length=m.length)(hr2:∀(i:Nat) a e,m[i]? = some a->xs[i]? = some e->R a e) :
 (es++xs).length=(l++m).length/\∀(i:Nat) a' e',(l++m)[i]? = some a'->(es++xs)[i]? = some e'->R a' e':=by
 refine⟨by simp[hl,hl2],fun i a' e' h1 h2 => ?_⟩;by_cases hi:i<l.length
 .rw[A9 hi]at h1;rw[A9 (by omega)]at h2;exact hr i a' e' h1 h2
 .rw[En (by omega)]at h1;rw[En (by omega)]at h2;rw[hl]at h2;exact hr2 _ a' e' h1 h2
theorem Vt{sz byt:Nat}{P rest:AE}{a:AV}{es xs:List (List AV)}{x:AV}(h:Ak sz P.length rest a es)(hx:Ax (P++rest) x=some xs)(hs:Bu sz x=true)(hnx:∀ b,x≠.str b)(h0:0<sz)(hb:byt<=1024)(hn:es.length+xs.length<16777216) :
 ∃ a' rest',apA sz byt a x (P++rest)=some (a',P++rest')/\Ak sz P.length rest' a' (es++xs):=by
 by_cases he:xs=[]
 .subst he;refine⟨a,rest,?_,by simpa using h⟩;have hbb:(es.length+0) * byt<=17592186044416:=Cz (Lm (show es.length+0<=16777216 by simp at hn;omega) hb) (by decide);have hap:∀ n,Fs a=some n->apA sz byt a x (P++rest)=apX sz byt a [] n (P++rest):=fun n hl=>by
   unfold apA;cases x with
   | str b=>exact absurd rfl (hnx b)
   | _=>first | simp only[hs,hx,hl] | (simp only[Ax]at hx;cases hx)
  rcases h with⟨rfl,rfl⟩ | ⟨j,hne,rfl,h2⟩
  .rw[hap 0 rfl];have e1:Bu sz AV.AI=true:=rfl;simp[apX,e1,h0]
  .rw[hap es.length rfl];have e1:Bu sz (.hs (P.length+j) es.length sz 0 es.length false)=true:=(by simp[Bu,BF]);simp only[HL]at hbb;simp only[Jd,HL]at hn;simp[apX,e1,h0,hbb,show es.length<=17592186044416 by omega]
 .exact h.ft hx hs hnx he h0 hb hn
theorem _root_.Go.Am.SlR.nstr{α:Type}{R:α->List AV->Prop}{sz:Nat}{l:List α}{v:AV}(hv:SlR R sz l v):∀ b,v≠.str b:=fun b e=>by subst e;rcases hv with⟨_,e⟩ | ⟨_,_,e,_⟩ <;> cases e
theorem c88(p:TyV):∀(px:List AV),AU p px->Sm 1048577 p->(BV p).length<1048577->∃ w,SlR C2 1 (BV p) w/\∀ h,AH MX (AG MX) 88 [.agg px] h=some (.ret w,h):=by
 induction p using TyV.ind with
 | h k v nm ps ih=>
  intro px hpx hsp hlen;have hn:([AV.agg px]:List AV).all AV.AA=true:=by simp[AV.AA,hpx.AF]
  obtain⟨s1,s2,s3⟩:=hsp.dest;obtain⟨qv,rfl,hq⟩:=hpx.dest;by_cases k1:k=1
  .subst k1;refine⟨.sl 1 true [[.str nm]],?_,fun h=>Ae VE Yc hn rfl (hr:=[Blk.var false [AV.int .i64 1,AV.int .i64 v,AV.str nm,qv]]) (by simp[AJ,f88,bsA,Ag,List.replicate,AF,AV.AA]) h⟩;simp only[BV,if_true];exact .inr ⟨true,_,rfl,rfl,fun i a e h1 h2=>by
    cases i with
    | zero=>simp at h1 h2;subst h1;subst h2;rfl
    | succ i=>simp at h1⟩
  .have k1':(k == 1)=false:=(by simp[k1]);have hnm:BV (.mk k v nm ps)=CJ ps:=(by simp[BV,k1]);rw[hnm]at hlen ⊢;obtain⟨e,st,hlp,hq0⟩:=AQ (M:=MX) (fid:=88) (N:=27) (C:=AG MX) (c:=AL f88 0) (n:=ps.length)
    (fun i (b:AV×AE×List (List AV))=>([(1,.hp 0 0),(3,b.1),(4,.int .i64 i)],Blk.var false [AV.int .i64 k,AV.int .i64 v,AV.str nm,qv]::b.2.1))
    (fun i b=>Ak 1 1 b.2.1 b.1 b.2.2/\b.2.2.length=(CJ (ps.take i)).length/\∀(j:Nat) t e,(CJ (ps.take i))[j]? = some t->b.2.2[j]? = some e->C2 t e)
    (fun r=>∃ b:AV×AE×List (List AV),r=(.ext 0,([(1,.hp 0 0),(3,b.1),(4,.int .i64 ps.length),(15,.bool false)],Blk.var false [AV.int .i64 k,AV.int .i64 v,AV.str nm,qv]::b.2.1)) /\
      Ak 1 1 b.2.1 b.1 b.2.2/\b.2.2.length=(CJ ps).length/\∀(j:Nat) t e,(CJ ps)[j]? = some t->b.2.2[j]? = some e->C2 t e) (fun i b hi hI=>by
      obtain⟨a,rest,es⟩:=b;obtain⟨i1,i2,i3⟩:=hI;simp only at i1 i2 i3;obtain⟨e,he,hR⟩:=hq.ix hi;have hi':=Aa hi;have hw:=AZ hi s2;have hml:=Jl (An hi);obtain⟨w,hwr,hcall⟩:=ih ps[i] (An hi) e hR (s3 _ (An hi)) (by omega);obtain⟨xs,x1,x2,x3,x4⟩:=hwr.rd ([Blk.var false [AV.int .i64 k,AV.int .i64 v,AV.str nm,qv]]++rest);obtain⟨j1,j2⟩:=XF i2 i3 x3 x4;rw[<- Iq hi]at j1 j2;have htl:=JS ps i;obtain⟨a',rest',hap,hacc⟩:=Vt (byt:=16) (P:=[Blk.var false [AV.int .i64 k,AV.int .i64 v,AV.str nm,qv]]) i1 x1 x2 hwr.nstr (by decide) (by decide) (by omega);simp only[Ej,Ev]at hap;obtain⟨q1,rfl,hq1⟩:=hR.AY;exact .inl ⟨(a',rest',es++xs),by simp[f88,hq.len,hi',he,hcall,hap,hw],hacc,j1,j2⟩) (fun b hI=>by
      obtain⟨a,rest,es⟩:=b;obtain⟨i1,i2,i3⟩:=hI;rw[Gu]at i2 i3;exact⟨_,_,by simp[f88,hq.len] <;> first | exact⟨rfl,rfl⟩ | rfl,by simp,(a,rest,es),rfl,i1,i2,i3⟩) (.AI,[],[]) ⟨.nil _ _ _,by simp[CJ],fun j t e h=>by simp[CJ]at h⟩
   obtain⟨⟨a,rest,es⟩,hq0,i1,i2,i3⟩:=hq0;cases hq0;simp[f88]at hlp;obtain⟨v',rest',hsn,hrep,heq⟩:=JQ (P:=[Blk.var false [AV.int .i64 k,AV.int .i64 v,AV.str nm,qv]]) LA i1 i2 i3;exact⟨v',hrep,fun h=>Jk VE Yc hn hsn (by decide) hrep.AA heq (by simp[AJ,f88,k1',hlp]) h⟩
theorem UQ(t:TyV):∀ d c,0<=c->GC t d c<=200->c+(BV t).length<=GC t d c:=by
 induction t using TyV.ind with
 | h k v nm ps ih=>
  intro d c h0 h;have key:∀(l:List TyV),(∀ p∈l,p∈ps)->∀ d c,0<=c->C3 l d c<=200->c+(CJ l).length<=C3 l d c:=by
   intro l;induction l with
   | nil=>intro _ d c h0 h;simp[C3,CJ]
   | cons p r ihr=>
    intro hm d c h0 h;simp only[C3,CJ,E2]at h ⊢;split
    .rename_i hc;rw[if_pos hc]at h;have hp:=hm p (by simp);have hle:GC p d c<=200:=by
      cases r with
      | nil=>simpa[C3]using h
      | cons q r=>simp only[C3]at h;split at h <;> omega
     have h1:=ih p hp d c h0 hle;have h2:=ihr (fun q hq=>hm q (by simp[hq])) d (GC p d c) (by omega) h;omega
    .rename_i hc;rw[if_neg hc]at h;omega
  simp only[GC]at h ⊢;split
  .rename_i hc;rw[if_pos hc]at h;omega
  .rename_i hc;rw[if_neg hc]at h;have:=key ps (fun _ h=>h) (d+1) (c+1) (by omega) h;simp only[BV];split
   .have:∀(l:List TyV) d c,c<=C3 l d c\/200<C3 l d c:=by
     intro l;induction l with
     | nil=>intro d c;left;simp[C3]
     | cons p r ihr=>
      intro d c;simp only[C3];split
      .have hpm:∀(p:TyV) d c,c<=GC p d c\/200<GC p d c:=by
        intro p;induction p using TyV.ind with
        | h k v nm qs ihq=>
         intro d c;simp only[GC];split
         .right;omega
         .have key2:∀(l:List TyV),(∀ p∈l,p∈qs)->∀ d c,c<=C3 l d c\/200<C3 l d c:=by
           intro l;induction l with
           | nil=>intro _ d c;left;simp[C3]
           | cons p r ihr2=>
            intro hm d c;simp only[C3];split
            .rcases ihq p (hm p (by simp)) d c with h1 | h1 <;> rcases ihr2 (fun q hq=>hm q (by simp[hq])) d (GC p d c)with h2 | h2 <;> omega
            .left;omega
          rcases key2 qs (fun _ h=>h) (d+1) (c+1)with h1 | h1 <;> omega
       rcases hpm p d c with h1 | h1 <;> rcases ihr d (GC p d c)with h2 | h2 <;> omega
      .left;omega
    rcases this ps (d+1) (c+1)with h1 | h1
    .simp;omega
    .omega
   .omega
theorem MG{t:TyV}(h:A7 t=true):(BV t).length<=200:=by
 unfold A7 at h;have:=UQ t 1 0 (by decide) (of_decide_eq_true h);have:=of_decide_eq_true h;omega
def K2:List Bytes->List Bytes->Bool
 | _,[]=>false
 | prev,x::r=>(prev.findIdx? (fun y=>y == x)).isSome||K2 (prev++[x]) r
def Fm(s:Sh)(p:TyV):Int:=if A7 p=false then 8 else if CB s p=0 then(if K2 [] (BV p)then 23 else 0)else CB s p
section
variable{l:List AK}{lv:AV}(hl:SlR Ah 3 l lv)(hsl:SmL 1048577 l)(hok:DOK l)
include hl hsl hok
theorem c35{p:TyV}{px:List AV}(hpx:AU p px)(hsp:Sm 1048577 p){s:Sh}{t:TyV}{xs:List AV}(hx:AU t xs)(hst:Sm 1048577 t)(hv:VT l t)(hs:DT l t s)(h:AE) :
 AH MX (AG MX) 35 [lv,.agg xs,.agg px] h=some (.ret (.int .i64 (Fm s p)),h):=by
 have hn:([lv,AV.agg xs,AV.agg px]:List AV).all AV.AA=true:=by simp[AV.AA,hx.AF,hl.AA,hpx.AF]
 have h86:=c86 hpx hsp;have h87:=c87 hl hsl hok p px hpx hsp s t xs hx hst hv hs;have h88:=c88 p px hpx hsp;have hb10:=Wb;simp[Ab,Az,f35]at hb10;obtain⟨pv,rfl,hp⟩:=hx.AY;obtain⟨qv,rfl,hq⟩:=hpx.AY;obtain⟨hr,hc⟩:∃ hr,AJ MX 35 [lv,.agg [.int .i64 t.k,.int .i64 t.v,.str t.nm,pv],.agg [.int .i64 p.k,.int .i64 p.v,.str p.nm,qv]] []=some (.ret (.int .i64 (Fm s p)),hr):=by
  unfold Fm;cases hT:A7 p with
  | false=>exact⟨_,by simp[AJ,f35,h86,hT] <;> rfl⟩
  | true=>
   by_cases h0:CB s p=0
   .have hln:=MG hT;obtain⟨w,hw,hcall⟩:=h88 (by omega);obtain⟨e,st,hlp,hq0⟩:=AQ (M:=MX) (fid:=35) (N:=36) (C:=AG MX) (c:=AL f35 0) (n:=(BV p).length)
     (fun i (_:Unit)=>([(8,w),(9,.int .i64 i)],[Blk.var false [AV.int .i64 t.k,AV.int .i64 t.v,AV.str t.nm,pv],Blk.var false [AV.int .i64 p.k,AV.int .i64 p.v,AV.str p.nm,qv]]))
     (fun i _=>K2 [] (BV p)=K2 ((BV p).take i) ((BV p).drop i))
     (fun r=>(r=(.ext 0,([(8,w),(9,.int .i64 (BV p).length),(25,.bool false)],[Blk.var false [AV.int .i64 t.k,AV.int .i64 t.v,AV.str t.nm,pv],Blk.var false [AV.int .i64 p.k,AV.int .i64 p.v,AV.str p.nm,qv]]))/\K2 [] (BV p)=false) \/
       (r=(.ret,([(6,.int .i64 23)],[Blk.var false [AV.int .i64 t.k,AV.int .i64 t.v,AV.str t.nm,pv],Blk.var false [AV.int .i64 p.k,AV.int .i64 p.v,AV.str p.nm,qv]]))/\K2 [] (BV p)=true)) (fun i b hi hI=>by
       obtain⟨e,he,hR⟩:=hw.ix hi;have hi':=Aa hi;have hwi:=AZ hi (by omega);cases hR;obtain⟨w2,hw1,hw2⟩:=hw.slice (Jg hi);have hH:=c89 (BV p)[i] hw2 (by simp;omega);have hdr:(BV p).drop i=(BV p)[i]::(BV p).drop (i+1):=EJ hi;rw[hdr]at hI;simp only[K2]at hI;rw[Cf hi]at hI;cases hH0:(((BV p).take i).findIdx? (fun x=>x == (BV p)[i])).isSome with
       | true=>
        rw[hH0]at hI;simp only[hH0]at hH;exact .inr ⟨_,_,by simp[f35,hw.len,hi',he,hw1,hw2.AA,hH,hb10,AV.AA] <;> first | exact⟨rfl,rfl⟩ | rfl,by simp,.inr ⟨rfl,by rw[hI];rfl⟩⟩
       | false=>
        rw[hH0]at hI;simp only[hH0]at hH;exact .inl ⟨(),by simp[f35,hw.len,hi',he,hw1,hw2.AA,hH,hb10,AV.AA,hwi],by simpa using hI⟩) (fun b hI=>by
       rw[DD]at hI;exact⟨_,_,by simp[f35,hw.len] <;> first | exact⟨rfl,rfl⟩ | rfl,by simp,.inl ⟨rfl,hI⟩⟩) () (by simp)
    simp[f35]at hlp;rcases hq0 with⟨hq0,hd⟩ | ⟨hq0,hd⟩ <;> cases hq0
    .exact⟨_,by simp[AJ,f35,h86,hT,h87,h0,hcall,hlp,hd] <;> rfl⟩
    .exact⟨_,by simp[AJ,f35,h86,hT,h87,h0,hcall,hlp,hd] <;> rfl⟩
   .have hne:(CB s p != 0)=true:=(by simp[h0]);exact⟨_,by simp[AJ,f35,h86,hT,h87,hne,h0] <;> rfl⟩
 exact Ae bt gr hn rfl hc h
end
def OKF(l:List AK):Prop:=(A0 l).2=0->DOK l/\∀ t,VT l t->t.k≠2->EV t=false->(AN l t).length<=16
noncomputable def DM(l:List AK)(t:TyV):Int:=if(A0 l).2=0 then Fw l t else(A0 l).2
theorem GK{l:List AK}{t:TyV}(h:DM l t=0):(A0 l).2=0/\VT l t/\DT l t (CE l t):=by
 unfold DM at h;split at h
 .rename_i h1;unfold Fw at h;split at h
  .rename_i h2;split at h
   .rename_i h3;obtain⟨s,hs⟩:=Ko l 40 t 0 h3;refine⟨h1,?_,by rw[JR hs];exact hs⟩;unfold Bp at h2;split at h2
    .exact h2
    .cases h2
   .rename_i h3;exact absurd h h3
  .rename_i h2;exact absurd h h2
 .rename_i h1;exact absurd h h1
def HX(s:Sh):Nat->List TyV->Int×Int
 | _,[]=>(0,0)
 | i,p::r=>if Fm s p=0 then HX s (i+1) r else(i,Fm s p)
noncomputable def A8(l:List AK)(t:TyV)(arms:List TyV):Int×Int:=
 if DM l t=0 then(if arms.length=0 then(0,10)else if 12<arms.length then(0,8)else HX (CE l t) 0 arms)else(0,DM l t)
theorem D5.dest{k:EM}{xs:List AV}(h:D5 k xs):∃ dv pv av,xs=[dv,.int .i64 k.ty.k,.int .i64 k.ty.v,.str k.ty.nm,pv,av]/\SlR Ah 3 k.data dv/\SlR AU 4 k.ty.ps pv/\AU k.ty [.int .i64 k.ty.k,.int .i64 k.ty.v,.str k.ty.nm,pv]/\SlR AU 4 k.arms av:=by
 obtain⟨dv,tx,av,rfl,h1,h2,h3⟩:=h;have h2':=h2;obtain⟨pv,rfl,hp⟩:=h2.AY;exact⟨dv,pv,av,rfl,h1,hp,h2',h3⟩
section
variable{l:List AK}{lv:AV}(hl:SlR Ah 3 l lv)(hsl:SmL 1048577 l)(hokf:OKF l)
include hl hsl hokf
theorem c34{t:TyV}{xs:List AV}(hx:AU t xs)(hst:Sm 1048577 t)(h:AE):AH MX (AG MX) 34 [lv,.agg xs] h=some (.ret (.int .i64 (DM l t)),h):=by
 have hn:([lv,AV.agg xs]:List AV).all AV.AA=true:=by simp[AV.AA,hx.AF,hl.AA]
 have h84:=c84 hl hsl;have h85:=fun hok hlen=>c85 hl hsl hok hlen hx hst
 obtain⟨pv,rfl,hp⟩:=hx.AY;refine Ae br gn hn rfl (hr:=[Blk.var false [AV.int .i64 t.k,AV.int .i64 t.v,AV.str t.nm,pv]]) ?_ h;unfold DM;by_cases h0:(A0 l).2=0
 .obtain⟨hok,hlen⟩:=hokf h0;simp[AJ,f34,h84,h0,h85 hok hlen]
 .have hne:((A0 l).2 != 0)=true:=by simp[h0]
  simp[AJ,f34,h84,h0,hne]
end
theorem c32{k:EM}{xs:List AV}(hx:D5 k xs)(hsk:SmT 1048577 k)(hokf:OKF k.data)(h:AE):AH MX (AG MX) 32 [.agg xs] h=some (.ret (.tup [.int .i64 (A8 k.data k.ty k.arms).1,.int .i64 (A8 k.data k.ty k.arms).2]),h):=by
 obtain⟨dv,pv,av,rfl,hd,hp,ht,ha⟩:=hx.dest;obtain⟨s1,s2,s3,s4⟩:=hsk;have hn:([AV.agg [dv,.int .i64 k.ty.k,.int .i64 k.ty.v,.str k.ty.nm,pv,av]]:List AV).all AV.AA=true:=by simp[AV.AA,AF,hd.AA,hp.AA,ha.AA]
 have h34:=c34 hd s1 hokf ht s2;have hb11:=Wa;simp[Ab,Az,f32]at hb11;refine Ae bp gm hn rfl (hr:=[Blk.var false [dv,.int .i64 k.ty.k,.int .i64 k.ty.v,.str k.ty.nm,pv,av]]) ?_ h;unfold A8;by_cases h0:DM k.data k.ty=0
 .obtain⟨c1,c2,c3⟩:=GK h0;obtain⟨hok,hlen⟩:=hokf c1;by_cases ha0:k.arms.length=0
  .have ha0':((k.arms.length:Int) == 0)=true:=(by simp only[beq_iff_eq];omega);simp[AJ,f32,h34,h0,ha.len,ha0',ha0]
  .have ha0':((k.arms.length:Int) == 0)=false:=(by rw[beq_eq_false_iff_ne];omega);by_cases ha12:12<k.arms.length
   .have ha12':(12<(k.arms.length:Int)):=(by omega);simp[AJ,f32,h34,h0,ha.len,ha0',ha0,ha12,ha12']
   .have ha12':¬ (12<(k.arms.length:Int)):=(by omega);obtain⟨e,st,hlp,hq0⟩:=AQ (M:=MX) (fid:=32) (N:=44) (C:=AG MX) (c:=AL f32 0) (n:=k.arms.length)
     (fun i (_:Unit)=>([(1,.hp 0 0),(5,.int .i64 i)],[Blk.var false [dv,.int .i64 k.ty.k,.int .i64 k.ty.v,.str k.ty.nm,pv,av]]))
     (fun i _=>HX (CE k.data k.ty) 0 k.arms=HX (CE k.data k.ty) i (k.arms.drop i))
     (fun r=>(r=(.ext 0,([(1,.hp 0 0),(5,.int .i64 k.arms.length),(27,.bool false)],[Blk.var false [dv,.int .i64 k.ty.k,.int .i64 k.ty.v,.str k.ty.nm,pv,av]]))/\HX (CE k.data k.ty) 0 k.arms=(0,0)) \/
       (r=(.ret,([(2,.int .i64 (HX (CE k.data k.ty) 0 k.arms).1),(3,.int .i64 (HX (CE k.data k.ty) 0 k.arms).2)],[Blk.var false [dv,.int .i64 k.ty.k,.int .i64 k.ty.v,.str k.ty.nm,pv,av]])))) (fun i b hi hI=>by
       obtain⟨e,he,hR⟩:=ha.ix hi;have hi':=Aa hi;have hwi:=AZ hi s3;have h35:=c35 hd s1 hok hR (s4 _ (An hi)) ht s2 c2 c3;obtain⟨qv,rfl,hq⟩:=hR.AY;have hdr:k.arms.drop i=k.arms[i]::k.arms.drop (i+1):=EJ hi;rw[hdr]at hI;simp only[HX]at hI;by_cases hz:Fm (CE k.data k.ty) k.arms[i]=0
       .rw[if_pos hz]at hI;exact .inl ⟨(),by simp[f32,ha.len,hi',he,h35,hz,hwi,hb11,AF,AV.AA,hd.AA,hp.AA,hq.AA],hI⟩
       .rw[if_neg hz]at hI;have hne:(Fm (CE k.data k.ty) k.arms[i] != 0)=true:=(by simp[hz]);exact .inr ⟨_,_,by simp[f32,ha.len,hi',he,h35,hne,hb11,AF,AV.AA,hd.AA,hp.AA,hq.AA] <;> first | exact⟨rfl,rfl⟩ | rfl,by simp,.inr (by rw[hI])⟩) (fun b hI=>by
       rw[DD]at hI;exact⟨_,_,by simp[f32,ha.len] <;> first | exact⟨rfl,rfl⟩ | rfl,by simp,.inl ⟨rfl,hI⟩⟩) () (by simp)
    simp[f32]at hlp;rcases hq0 with⟨hq0,hz⟩ | hq0 <;> cases hq0
    .simp[AJ,f32,h34,h0,ha.len,ha0',ha0,ha12,ha12',hlp,hz]
    .simp[AJ,f32,h34,h0,ha.len,ha0',ha0,ha12,ha12',hlp]
 .have hne:(DM k.data k.ty != 0)=true:=by simp[h0]
  simp[AJ,f32,h34,h0,hne]
def Ir(c:CZ):Bool:=decide (c.fields.length<=12)&&c.fields.all fun f=>A7 f.ty
def IM(d:AK):Bool:=decide (d.cons.length<=20)&&decide (d.params.length<=12)&&d.cons.all Ir
def UR(k:EM):Bool:=decide (k.data.length<=24)&&decide (k.arms.length<=16)&&k.data.all IM
theorem Oe{α:Type}{p:α->Bool}{l:List α}{i:Nat}(hi:i<l.length):(l.drop i).all p=(p l[i]&&(l.drop (i+1)).all p):=by
 rw[EJ hi,Hk]
theorem c11{k:EM}{xs:List AV}(hx:D5 k xs)(hsk:SmT 1048577 k)(h:AE):AH MX (AG MX) 11 [.agg xs] h=some (.ret (.bool (UR k)),h):=by
 obtain⟨dv,pv,av,rfl,hd,hp,ht,ha⟩:=hx.dest;obtain⟨s1,s2,s3,s4⟩:=hsk;have hn:([AV.agg [dv,.int .i64 k.ty.k,.int .i64 k.ty.v,.str k.ty.nm,pv,av]]:List AV).all AV.AA=true:=by simp[AV.AA,AF,hd.AA,hp.AA,ha.AA]
 refine Ae bm gj hn rfl (hr:=[Blk.var false [dv,.int .i64 k.ty.k,.int .i64 k.ty.v,.str k.ty.nm,pv,av]]) ?_ h;unfold UR;by_cases h24:24<k.data.length
 .have h24':(24<(k.data.length:Int)):=by omega
  have:¬ (k.data.length<=24):=by omega
  simp[AJ,f11,hd.len,h24',this]
 .have h24':¬ (24<(k.data.length:Int)):=by omega
  have h24i:k.data.length<=24:=by omega
  by_cases h16:16<k.arms.length
  .have h16':(16<(k.arms.length:Int)):=(by omega);have:¬ (k.arms.length<=16):=(by omega);simp[AJ,f11,hd.len,ha.len,h24',h16',this]
  .have h16':¬ (16<(k.arms.length:Int)):=(by omega);have h16i:k.arms.length<=16:=(by omega);let B:=Blk.var false [dv,.int .i64 k.ty.k,.int .i64 k.ty.v,.str k.ty.nm,pv,av];obtain⟨e,st,hlp,hq0⟩:=AQ (M:=MX) (fid:=11) (N:=79) (C:=AG MX) (c:=AL f11 0) (n:=k.data.length)
    (fun i (_:Unit)=>([(1,.hp 0 0),(3,.int .i64 i)],[Blk.var false [dv,.int .i64 k.ty.k,.int .i64 k.ty.v,.str k.ty.nm,pv,av]]))
    (fun i _=>k.data.all IM=(k.data.drop i).all IM)
    (fun r=>(r=(.ext 0,([(1,.hp 0 0),(3,.int .i64 k.data.length),(21,.bool false)],[Blk.var false [dv,.int .i64 k.ty.k,.int .i64 k.ty.v,.str k.ty.nm,pv,av]]))/\k.data.all IM=true) \/
      (r=(.ret,([(2,.bool false)],[Blk.var false [dv,.int .i64 k.ty.k,.int .i64 k.ty.v,.str k.ty.nm,pv,av]]))/\k.data.all IM=false)) (fun i b hi hI=>by
      obtain⟨e,he,hR⟩:=hd.ix hi;have hi':=Aa hi;have hwi:=AZ hi s1.1;obtain⟨d1,d2,d3,d4,d5⟩:=s1.2 _ (An hi);obtain⟨qv,cv,rfl,hqp,hcv⟩:=hR.dest;rw[Oe hi]at hI;by_cases h20:20<k.data[i].cons.length
      .have h20':(20<(k.data[i].cons.length:Int)):=(by omega);have hs:IM k.data[i]=false:=(by simp[IM];intro h;omega);rw[hs,Ln]at hI;exact .inr ⟨_,_,by simp[f11,hd.len,hi',he,hcv.len,h20'] <;> first | exact⟨rfl,rfl⟩ | rfl,by simp,.inr ⟨rfl,hI⟩⟩
      .have h20':¬ (20<(k.data[i].cons.length:Int)):=(by omega);have h20i:k.data[i].cons.length<=20:=(by omega);by_cases h12:12<k.data[i].params.length
       .have h12':(12<(k.data[i].params.length:Int)):=(by omega);have hs:IM k.data[i]=false:=(by simp[IM];intro _ h;omega);rw[hs,Ln]at hI;exact .inr ⟨_,_,by simp[f11,hd.len,hi',he,hcv.len,hqp.len,h20',h12'] <;> first | exact⟨rfl,rfl⟩ | rfl,by simp,.inr ⟨rfl,hI⟩⟩
       .have h12':¬ (12<(k.data[i].params.length:Int)):=(by omega);have h12i:k.data[i].params.length<=12:=(by omega);have hsD:IM k.data[i]=k.data[i].cons.all Ir:=(by simp[IM,h20i,h12i]);rw[hsD]at hI;obtain⟨e2,st2,hlp2,hq2⟩:=AQ (M:=MX) (fid:=11) (N:=79) (C:=AG MX) (c:=AL f11 1) (n:=k.data[i].cons.length)
         (fun j (_:Unit)=>([(1,.hp 0 0),(3,.int .i64 i),(4,.int .i64 j)],[Blk.var false [dv,.int .i64 k.ty.k,.int .i64 k.ty.v,.str k.ty.nm,pv,av]]))
         (fun j _=>k.data[i].cons.all Ir=(k.data[i].cons.drop j).all Ir)
         (fun r=>(r=(.ext 2,([(1,.hp 0 0),(3,.int .i64 i),(4,.int .i64 k.data[i].cons.length),(50,.bool false)],[Blk.var false [dv,.int .i64 k.ty.k,.int .i64 k.ty.v,.str k.ty.nm,pv,av]]))/\k.data[i].cons.all Ir=true) \/
           (r=(.ret,([(2,.bool false)],[Blk.var false [dv,.int .i64 k.ty.k,.int .i64 k.ty.v,.str k.ty.nm,pv,av]]))/\k.data[i].cons.all Ir=false)) (fun j b hj hJ=>by
           obtain⟨ce,hce,hcR⟩:=hcv.ix hj;have hj':=Aa hj;have hwj:=AZ hj d4;obtain⟨c1,c2,c3⟩:=d5 _ (An hj);obtain⟨fv,rfl,hfv⟩:=hcR.dest;rw[Oe hj]at hJ;by_cases f12:12<k.data[i].cons[j].fields.length
           .have f12':(12<(k.data[i].cons[j].fields.length:Int)):=(by omega);have hs:Ir k.data[i].cons[j]=false:=(by simp[Ir];intro h;omega);rw[hs,Ln]at hJ;exact .inr ⟨_,_,by simp[f11,hi',he,hcv.len,hj',hce,hfv.len,f12'] <;> first | exact⟨rfl,rfl⟩ | rfl,by simp,.inr ⟨rfl,hJ⟩⟩
           .have f12':¬ (12<(k.data[i].cons[j].fields.length:Int)):=(by omega);have f12i:k.data[i].cons[j].fields.length<=12:=(by omega);have hsF:Ir k.data[i].cons[j]=k.data[i].cons[j].fields.all fun f=>A7 f.ty:=by simp[Ir,f12i]
            rw[hsF]at hJ;obtain⟨e3,st3,hlp3,hq3⟩:=AQ (M:=MX) (fid:=11) (N:=79) (C:=AG MX) (c:=AL f11 2) (n:=k.data[i].cons[j].fields.length)
             (fun m (_:Unit)=>([(1,.hp 0 0),(3,.int .i64 i),(4,.int .i64 j),(5,fv),(6,.int .i64 m)],[Blk.var false [dv,.int .i64 k.ty.k,.int .i64 k.ty.v,.str k.ty.nm,pv,av]]))
             (fun m _=>(k.data[i].cons[j].fields.all fun f=>A7 f.ty)=(k.data[i].cons[j].fields.drop m).all fun f=>A7 f.ty)
             (fun r=>(r=(.ext 4,([(1,.hp 0 0),(3,.int .i64 i),(4,.int .i64 j),(5,fv),(6,.int .i64 k.data[i].cons[j].fields.length),(69,.bool false)],[Blk.var false [dv,.int .i64 k.ty.k,.int .i64 k.ty.v,.str k.ty.nm,pv,av]]))/\(k.data[i].cons[j].fields.all fun f=>A7 f.ty)=true) \/
               (r=(.ret,([(2,.bool false)],[Blk.var false [dv,.int .i64 k.ty.k,.int .i64 k.ty.v,.str k.ty.nm,pv,av]]))/\(k.data[i].cons[j].fields.all fun f=>A7 f.ty)=false)) (fun m b hm hM=>by
               obtain⟨fe,hfe,hfR⟩:=hfv.ix hm;have hm':=Aa hm;have hwm:=AZ hm c2;obtain⟨f1,f2⟩:=c3 _ (An hm);obtain⟨tx,rfl,htx⟩:=hfR;have hT:=c59 htx f2;obtain⟨q1,rfl,hq1⟩:=htx.AY;rw[Oe hm]at hM;cases hT0:A7 k.data[i].cons[j].fields[m].ty with
               | false=>
                rw[hT0,Ln]at hM;exact .inr ⟨_,_,by simp[f11,hfv.len,hm',hfe,hT,hT0] <;> first | exact⟨rfl,rfl⟩ | rfl,by simp,.inr ⟨rfl,hM⟩⟩
               | true=>
                rw[hT0,Jf]at hM;exact .inl ⟨(),by simp[f11,hfv.len,hm',hfe,hT,hT0,hwm],hM⟩) (fun b hM=>by
               rw[DD]at hM;exact⟨_,_,by simp[f11,hfv.len] <;> first | exact⟨rfl,rfl⟩ | rfl,by simp,.inl ⟨rfl,by rw[hM];rfl⟩⟩) () (by simp)
            simp[f11]at hlp3;rcases hq3 with⟨hq3,hz⟩ | ⟨hq3,hz⟩ <;> cases hq3
            .rw[hz,Jf]at hJ;exact .inl ⟨(),by simp[f11,hi',he,hcv.len,hj',hce,hfv.len,f12',hlp3,hwj],hJ⟩
            .rw[hz,Ln]at hJ;exact .inr ⟨_,_,by simp[f11,hi',he,hcv.len,hj',hce,hfv.len,f12',hlp3] <;> first | exact⟨rfl,rfl⟩ | rfl,by simp,.inr ⟨rfl,hJ⟩⟩) (fun b hJ=>by
           rw[DD]at hJ;exact⟨_,_,by simp[f11,hi',he,hcv.len] <;> first | exact⟨rfl,rfl⟩ | rfl,by simp,.inl ⟨rfl,by rw[hJ];rfl⟩⟩) () (by simp)
        simp[f11]at hlp2;rcases hq2 with⟨hq2,hz⟩ | ⟨hq2,hz⟩ <;> cases hq2
        .rw[hz,Jf]at hI;exact .inl ⟨(),by simp[f11,hd.len,hi',he,hcv.len,hqp.len,h20',h12',hlp2,hwi],hI⟩
        .rw[hz,Ln]at hI;exact .inr ⟨_,_,by simp[f11,hd.len,hi',he,hcv.len,hqp.len,h20',h12',hlp2] <;> first | exact⟨rfl,rfl⟩ | rfl,by simp,.inr ⟨rfl,hI⟩⟩) (fun b hI=>by
      rw[DD]at hI;exact⟨_,_,by simp[f11,hd.len] <;> first | exact⟨rfl,rfl⟩ | rfl,by simp,.inl ⟨rfl,by rw[hI];rfl⟩⟩) () (by simp)
   simp[f11]at hlp;rcases hq0 with⟨hq0,hz⟩ | ⟨hq0,hz⟩ <;> cases hq0 <;> simp[AJ,f11,hd.len,ha.len,h24',h16',h24i,h16i,hlp] <;> simpa using hz
end
end Go.Proofs.Am12
