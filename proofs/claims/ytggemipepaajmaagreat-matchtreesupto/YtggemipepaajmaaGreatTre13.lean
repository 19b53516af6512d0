/- Part 13. -/
import Derived.Test.YtggemipepaajmaaGreatTre12
import Derived.Below
import Derived.ChangeShapes
set_option linter.all false
namespace Go.Am
open Go Go.RowKit
def gOf(w:World):G:=⟨fun B o=>w.cell? ⟨B,o,none⟩,fun _ _=>none⟩
def frOf(w:World):Fr:=⟨fun B=>B<w.heap.size,w,(gOf w).mu⟩
theorem VQ(w:World):Sim (gOf w) [] (frOf w) w:=
 ⟨fun _ _ _ h=>h,fun id k hk=>by simp at hk,fun _ _ _=>rfl,(fun _ _ _ _ _ _ _ _ _ h=>by cases h),(fun _ _ _ _ h=>by cases h),fun B hB=>⟨hB,rfl,fun _=>rfl,(fun _ _ _ h=>by cases h)⟩,CZ _,rfl,rfl,rfl⟩
theorem VR{w w':World}{g:G}{h:AF}(s:Sim g h (frOf w) w'):Below w.heap.size w w':=
 ⟨s.os,s.tape,s.output,s.frS,fun k hk=>(s.frF k hk).2.1⟩
inductive Shp{H:Type}(M:Par):TypeId->DataW H->List AV->Prop where
 | bool {t:TypeId} (h:und M.ty t=some .bool) (b:Bool):Shp M t (.lit (.bool b)) [.bool b]
 | int {t:TypeId} {k:IntKind} (h:und M.ty t=some (.int k)) (n:Int) (hw:(Lit.int k n).wf=true):Shp M t (.lit (.int k n)) [.int k n]
 | str {t:TypeId} (h:und M.ty t=some .string) (bs:List UInt8):Shp M t (.lit (.string bs)) [.str bs]
 | nil {t e:TypeId} (h:und M.ty t=some (.slice e)):Shp M t .nil [.AH]
 | sl {t e:TypeId} (h:und M.ty t=some (.slice e)) (ds sp:List (DataW H)) (es:List (List AV)) (hl:es.length=ds.length) (hs:∀(i:Nat) d a,ds[i]? = some d->es[i]? = some a->Shp M e d a):Shp M t (.slice ds sp) [.sl (siz M.ty e) false es]
 | struct {t:TypeId} {fs:Array Field} (h:und M.ty t=some (.struct fs)) (ds:List (DataW H)) (als:List (List AV)) (hl:als.length=ds.length) (hf:fs.size=ds.length) (hs:∀(i:Nat) f d a,fs[i]? = some f->ds[i]? = some d->als[i]? = some a->Shp M f.type d a):Shp M t (.agg ds) als.flatten
def KP(T:Ty)(S:List TypeId):Nat->List Field->Option Nat
 | off,[]=>some off
 | off,f::r=>match Nat.beq f.offset off&&S.elem f.type with
  | true=>KP T S (off+siz T f.type) r
  | false=>none
def Xk(T:Ty)(S:List TypeId)(t:TypeId):Bool:=match und T t with
 | some .bool=>Nat.beq (siz T t) 1
 | some (.int _)=>Nat.beq (siz T t) 1
 | some .string=>Nat.beq (siz T t) 1
 | some (.slice e)=>Nat.beq (siz T t) 1&&S.elem e&&Nat.blt 0 (siz T e)
 | some (.struct fs)=>match KP T S 0 fs.toList with
  | some n=>Nat.beq n (siz T t)
  | none=>false
 | _=>false
section
variable{M:Par}{P:Program}
theorem Jh(F:Fits M P){t:TypeId}{d:TypeDesc}(h:und M.ty t=some d):P.cellsOf t=siz M.ty t:=by
 obtain⟨i,hi,_⟩:=JQ h;obtain⟨info,h1,_,h3,_⟩:=F.ty t i hi;simp[Program.cellsOf,h1,h3,siz,hi]
theorem Ji{α β:Type}{f:α->Option β}:∀{l:List α} {r:List β},l.mapM f=some r->r.length=l.length/\∀(i:Nat) a,l[i]? = some a->∃ b,r[i]? = some b/\f a=some b
 | [],r,h=>by
  simp at h;subst h;exact⟨rfl,fun i a h=>by simp at h⟩
 | x::l,r,h=>by
  simp only[List.mapM_cons,Option.bind_eq_bind,Option.pure_def]at h;cases hx:f x with
  | none=>simp[hx]at h
  | some b=>
   cases hl:l.mapM f with
   | none=>simp[hx,hl]at h
   | some bs=>
    simp[hx,hl]at h;subst h;obtain⟨h1,h2⟩:=Ji hl;refine⟨by simp[h1],fun i a ha => ?_⟩;cases i with
    | zero=>simp at ha;subst ha;exact⟨b,rfl,hx⟩
    | succ i=>exact h2 i a (by simpa using ha)
theorem Og{w:World}{a:Addr}{n:Nat}{cs:List Value}(h:w.cells? 0 a n=some cs):cs.length=n/\∀ k,k<n->∃ v,cs[k]? = some v/\w.cell? (a.add k)=some v:=by
 unfold World.cells? at h;rw[if_pos (HN _)]at h;obtain⟨h1,h2⟩:=Ji h;rw[List.length_range]at h1;refine⟨h1,fun k hk => ?_⟩;obtain⟨b,hb1,hb2⟩:=h2 k k (by simp[hk]);exact⟨b,hb1,hb2⟩
def Read{H:Type}(M:Par)(w:World)(t:TypeId)(cs:List Value)(d:DataW H):Prop:=
 ∃ als:List AV,Au (gOf w) false als cs.toArray/\(∀ v∈cs,one v=true)/\als.length=siz M.ty t/\Shp M t d als
theorem Oh{g:G}{b:Bool}:∀{als:List (List AV)} {vs:List (List Value)},als.length=vs.length->(∀(i:Nat) a v,als[i]? = some a->vs[i]? = some v->Au g b a v.toArray)->Au g b als.flatten vs.flatten.toArray
 | [],[],_,_=>Au.nil _ _
 | [],v::vs,h,_=>by simp at h
 | a::als,[],h,_=>by simp at h
 | a::als,v::vs,h,hh=>by
  have h1:=hh 0 a v rfl rfl;have h2:=Oh (als:=als) (vs:=vs) (by simpa using h) (fun i a v ha hv=>hh (i+1) a v (by simpa using ha) (by simpa using hv));have:=h1.append h2;simpa using this
variable{H:Type}{enc:TypeId×Value->H}{w:World}{S:List TypeId}
theorem LH(F:Fits M P):∀{fs:List Field} {off n:Nat} {cs:List Value},KP M.ty S off fs=some n->cs.length=n->off<=n->(∀ f∈fs,P.cellsOf f.type=siz M.ty f.type) ->
 cs.drop off=(fs.map fun f=>(cs.drop f.offset).take (P.cellsOf f.type)).flatten
 | [],off,n,cs,h,hl,_,_=>by
  simp only[KP,AN]at h;subst h;simp[KI (Nat.le_of_eq hl)]
 | f::r,off,n,cs,h,hl,hle,hc=>by
  simp only[KP]at h;split at h
  .rename_i hb;simp only[BU,Bl]at hb;have hle2:off+siz M.ty f.type<=n:=inRow_le h;have ih:=LH F h hl hle2 (fun g hg=>hc g (by simp[hg]));rw[Hk,L2,<- ih,hb.1,hc f (by simp),<- List.drop_drop];exact(List.take_append_drop _ _).symm
  .cases h
where
 inRow_le:∀{fs:List Field} {off n:Nat},KP M.ty S off fs=some n->off<=n
  | [],off,n,h=>by simp only[KP,AN]at h;omega
  | f::r,off,n,h=>by
   simp only[KP]at h;split at h
   .have:=inRow_le h;omega
   .cases h
theorem Lt:∀{fs:List Field} {off n:Nat},KP M.ty S off fs=some n->∀ f∈fs,f.type∈S
 | [],_,_,_,f,hf=>by cases hf
 | g::r,off,n,h,f,hf=>by
  simp only[KP]at h;split at h
  .rename_i hb;simp only[BU]at hb;rcases Cd.1 hf with rfl | hf
   .exact List.elem_iff.1 hb.2
   .exact Lt h f hf
  .cases h
theorem NU(F:Fits M P)(hS:S.all (Xk M.ty S)=true):∀(fuel:Nat) {t:TypeId} {cs:List Value} {d:DataW H} {ps:List MemPlace},t∈S->DataW.trod enc P w 0 (fun _=>true) true fuel t cs=some (d,ps)->Read M w t cs d
 | 0,t,cs,d,ps,_,h=>by simp[DataW.trod]at h
 | fuel+1,t,cs,d,ps,ht,h=>by
  have hok:=D0.1 hS t ht;have single:∀(v:Value) (a:AV),cs=[v]->one v=true->Rel (gOf w) false a v->siz M.ty t=1->Shp M t d [a]->Read M w t cs d:=fun v a hc h1 hr hz hs=>by
   subst hc;exact⟨[a],Au.cons hr (Au.nil _ _),fun u hu=>by simp at hu;exact hu ▸ h1,by simp[hz],hs⟩
  unfold Xk at hok;unfold DataW.trod at h;split at hok
  .rename_i hu;have hP:=JU F hu;simp only[hP]at h;split at h <;> first | (rename_i e _;cases e;done) | (rename_i e;cases e;done) | (cases h;done) | skip
   simp only[AN,Bk]at h;obtain⟨rfl,_⟩:=h;exact single _ (.bool _) rfl rfl (.bool _ _) (Bl.1 hok) (.bool hu _)
  .rename_i k hu;have hP:=JU F hu;simp only[hP]at h;split at h <;> first | (rename_i e _;cases e;done) | (rename_i e;cases e;done) | (cases h;done) | skip
   rename_i e;obtain rfl:=TypeDesc.int.inj (Option.some.inj e);split at h
   .rename_i hk;obtain⟨rfl,hw⟩:=hk;simp only[AN,Bk]at h;obtain⟨rfl,_⟩:=h;exact single _ (.int _ _) rfl rfl (.int _ _ _) (Bl.1 hok) (.int hu _ hw)
   .cases h
  .rename_i hu;have hP:=JU F hu;simp only[hP]at h;split at h <;> first | (rename_i e _;cases e;done) | (rename_i e;cases e;done) | (cases h;done) | skip
   split at h
   .rename_i str _ _;simp only[AN,Bk]at h;obtain⟨rfl,_⟩:=h;refine single _ (.str str.data.toList) rfl rfl ?_ (Bl.1 hok) (.str hu _);have:str=⟨str.data.toList.toArray⟩:=by cases str;simp
    conv=>rhs;rw[this]
    exact .str _ _
   .cases h
  .rename_i e hu;simp only[BU,Bl,FQ]at hok;obtain⟨⟨hz1,hes⟩,hp⟩:=hok;have hP:=JU F hu;simp only[hP]at h;split at h <;> first | (rename_i e _;cases e;done) | (rename_i e;cases e;done) | (cases h;done) | skip
   .simp only[AN,Bk]at h;obtain⟨rfl,_⟩:=h;exact single _ .AH rfl rfl (.AH _) hz1 (.nil hu)
   .rename_i e' ad len cap he';obtain rfl:=TypeDesc.slice.inj (Option.some.inj he');have hcz:P.cellsOf e=siz M.ty e:=by
     have hok2:=D0.1 hS _ (List.elem_iff.1 hes);cases hd:und M.ty e with
     | none=>simp[Xk,hd]at hok2
     | some d=>exact Jh F hd
    rw[hcz]at h;split at h
    .rename_i hlim;obtain⟨_,hlc,hcm⟩:=hlim;simp only[if_true,Gd,Dx,Bk]at h;obtain⟨elems,hel,rest,hrest,rfl,_⟩:=h;obtain⟨m1,m2⟩:=Ji hel;obtain⟨r1,r2⟩:=Ji hrest;rw[List.length_range]at m1 r1;have spot:∀ cs0,w.cells? 0 (ad.add (0 * siz M.ty e)) (siz M.ty e)=some cs0->ad=⟨ad.block,ad.off,none⟩:=fun cs0 h0=>by
      obtain⟨v,_,hv⟩:=(Og h0).2 0 hp;have ha0:((ad.add (0 * siz M.ty e)).add 0)=ad:=(by simp[Addr.add]);rw[ha0]at hv;unfold World.cell? at hv;have:ad.spot=none:=by
       split at hv
       .split at hv
        .cases hv
        .rename_i hs;simpa using hs
       .cases hv
      cases ad;simp_all
     have hsp:ad=⟨ad.block,ad.off,none⟩\/cap=0:=by
      rcases Nat.eq_zero_or_pos cap with h0 | h0
      .exact .inr h0
      .left
       by_cases hl:0<len
       .obtain⟨x,_,hx⟩:=m2 0 0 (by simp[hl]);rw[Gd]at hx;obtain⟨cs0,hc0,_⟩:=hx;exact spot cs0 hc0
       .obtain⟨x,_,hx⟩:=r2 0 0 (List.getElem?_range (by omega));rw[Gd]at hx;obtain⟨cs0,hc0,_⟩:=hx;rw[show len+0=0 by omega]at hc0;exact spot cs0 hc0
     let csOf:Nat->List Value:=fun i=>(w.cells? 0 (ad.add (i * siz M.ty e)) (siz M.ty e)).getD []
     have each:∀ i,i<len->∃ a:List AV,∃ x,elems[i]? = some x/\Au (gOf w) false a (csOf i).toArray/\(∀ v∈csOf i,one v=true)/\a.length=siz M.ty e/\Shp M e x.1 a/\∀ k,k<siz M.ty e->w.cell? ((ad.add (i * siz M.ty e)).add k)=(csOf i)[k]? := fun i hi=>by
      obtain⟨x,hx1,hx2⟩:=m2 i i (by simp[hi]);rw[Gd]at hx2;obtain⟨cs0,hc0,hx2⟩:=hx2;obtain⟨a,a1,a2,a3,a4⟩:=NU F hS fuel (List.elem_iff.1 hes) hx2;have hcs:csOf i=cs0:=(by show(w.cells? 0 (ad.add (i * siz M.ty e)) (siz M.ty e)).getD []=cs0;rw[hc0];rfl);refine⟨a,x,hx1,by rw[hcs];exact a1,by rw[hcs];exact a2,a3,a4,fun k hk => ?_⟩;obtain⟨v,v1,v2⟩:=(Og hc0).2 k hk;rw[hcs,v1,v2]
     obtain⟨es,e1,e2⟩:∃ es:List (List AV),es.length=len/\∀(i:Nat) a,es[i]? = some a->∃ x,elems[i]? = some x/\Au (gOf w) false a (csOf i).toArray/\(∀ v∈csOf i,one v=true)/\a.length=siz M.ty e/\Shp M e x.1 a /\
      ∀ k,k<siz M.ty e->w.cell? ((ad.add (i * siz M.ty e)).add k)=(csOf i)[k]? := by
      refine⟨List.ofFn fun i:Fin len=>Classical.choose (each i.1 i.2),by simp,fun i a ha => ?_⟩;have hi:i<len:=(by have:=(Ae.1 ha).1;simpa using this);rw[List.getElem?_ofFn,dif_pos hi]at ha;simp only[AN]at ha;rw[<- ha];exact Classical.choose_spec (each i hi)
     refine single _ (.sl (siz M.ty e) false es) rfl rfl ?_ hz1 (.sl hu _ _ es (by rw[e1,Fa,m1]) (fun i d a hd ha => ?_))
     .have hget:∀(i:Nat) (a:List AV),es[i]? = some a->∀(k:Nat) x,a[k]? = some x->∃ v,(csOf i)[k]? = some v/\(gOf w).mu ad.block (ad.off+i * siz M.ty e+k)=some v/\one v=true/\Rel (gOf w) false x v:=fun i a ha k x hx=>by
       obtain⟨y,_,q1,q2,q3,_,q5⟩:=e2 i a ha;have hk:k<siz M.ty e:=(by rw[<- q3];exact(Ae.1 hx).1);have hk2:k<(csOf i).length:=by
        have:=q1.1;rw[OH]at this;omega
       have hv:(csOf i)[k]? = some (csOf i)[k]:=AW hk2;have hi:=(Ae.1 ha).1;have had:=hsp.resolve_right (by omega);refine⟨_,hv,?_,q2 _ (Ap hk2),q1.2 k x _ hx (by simp)⟩;have:=q5 k hk;rw[had,add_plain,add_plain,hv]at this;exact this
      have hl:=Rel.sl (g:=gOf w) false (siz M.ty e) false es ad.block ad.off cap ad hsp (fun i k=>((csOf i)[k]?).getD undef) (by omega) (fun h=>by cases h)
       (fun i a ha=>by obtain⟨y,_,_,_,q3,_⟩:=e2 i a ha;exact q3)
       (fun i a ha k x hx=>by obtain⟨v,v1,v2,v3,v4⟩:=hget i a ha k x hx;rw[v1];exact v2)
       (fun i a ha k x hx=>by obtain⟨v,v1,v2,v3,v4⟩:=hget i a ha k x hx;rw[v1];exact v3)
       (fun i a ha k x hx=>by obtain⟨v,v1,v2,v3,v4⟩:=hget i a ha k x hx;rw[v1];exact v4)
      rw[e1]at hl;exact hl
     .obtain⟨y,y1,_,_,_,q4,_⟩:=e2 i a ha;rw[Fx,y1]at hd;simp only[E0,AN]at hd;exact hd ▸ q4
    .cases h
  .rename_i fs hu;split at hok
   .rename_i n hrow;have hn:=Bl.1 hok;subst hn;have hP:=JU F hu;simp only[hP]at h;split at h <;> first | (rename_i e _;cases e;done) | (rename_i e;cases e;done) | (cases h;done) | skip
    rename_i hlen;have hc:=Jh F hu;rw[hc]at hlen;simp only[Dx,Bk]at h;obtain⟨xs,hxs,rfl,_⟩:=h;obtain⟨m1,m2⟩:=Ji hxs;have hfs:∀ f∈fs.toList,P.cellsOf f.type=siz M.ty f.type:=fun f hf=>by
     have hok2:=D0.1 hS _ (Lt hrow f hf);cases hd:und M.ty f.type with
     | none=>simp[Xk,hd]at hok2
     | some d=>exact Jh F hd
    have hsplit:=LH F hrow hlen (HN _) hfs;rw[JB]at hsplit;have each:∀(i:Nat) f,fs.toList[i]? = some f->∃ x:DataW H×List MemPlace,xs[i]? = some x/\Read M w f.type ((cs.drop f.offset).take (P.cellsOf f.type)) x.1:=fun i f hf=>by
     obtain⟨x,hx1,hx2⟩:=m2 i f hf;exact⟨x,hx1,NU F hS fuel (Lt hrow f (C2 hf)) hx2⟩
    obtain⟨als,has1,has2⟩:∃ als:List (List AV),als.length=fs.toList.length/\∀(i:Nat) f,fs.toList[i]? = some f->∃ a x,als[i]? = some a/\xs[i]? = some x/\Au (gOf w) false a ((cs.drop f.offset).take (P.cellsOf f.type)).toArray /\
     (∀ v∈(cs.drop f.offset).take (P.cellsOf f.type),one v=true)/\Shp M f.type x.1 a:=by
     have hch:∀ i:Fin fs.toList.length,∃ a:List AV,∃ x,xs[i.1]? = some x/\Au (gOf w) false a ((cs.drop (fs.toList[i.1]).offset).take (P.cellsOf (fs.toList[i.1]).type)).toArray /\
      (∀ v∈(cs.drop (fs.toList[i.1]).offset).take (P.cellsOf (fs.toList[i.1]).type),one v=true)/\Shp M (fs.toList[i.1]).type x.1 a:=fun i=>by
      obtain⟨x,hx1,a,ha1,ha2,_,ha4⟩:=each i.1 _ (AW i.2);exact⟨a,x,hx1,ha1,ha2,ha4⟩
     refine⟨List.ofFn fun i=>Classical.choose (hch i),by simp,fun i f hf => ?_⟩;have hi:=(Ae.1 hf).1;have hfi:fs.toList[i]=f:=(Ae.1 hf).2;obtain⟨x,hx1,hx2,hx3,hx4⟩:=Classical.choose_spec (hch ⟨i,hi⟩);refine⟨_,x,by rw[List.getElem?_ofFn,dif_pos hi],hx1,?_,?_,?_⟩
     .rw[<- hfi];exact hx2
     .rw[<- hfi];exact hx3
     .rw[<- hfi];exact hx4
    have hrel:Au (gOf w) false als.flatten cs.toArray:=by
     rw[hsplit];refine Oh (by rw[has1];simp) fun i a v ha hv => ?_
     rw[Fx,Dx]at hv;obtain⟨f,hf,rfl⟩:=hv;obtain⟨a',x,e1,e2,e3,_⟩:=has2 i f hf;rw[ha]at e1;cases e1;exact e3
    refine⟨als.flatten,hrel,?_,by have:=hrel.1;rw[OH,hlen]at this;exact this.symm,.struct hu _ als ?_ ?_ ?_⟩
    .intro v hv;rw[hsplit]at hv;obtain⟨l,hl,hvl⟩:=List.mem_flatten.1 hv;obtain⟨f,hf,rfl⟩:=F5.1 hl;obtain⟨i,hi⟩:=Mg.1 hf;obtain⟨a',x,e1,e2,e3,e4,_⟩:=has2 i f hi;exact e4 v hvl
    .rw[has1,Fa,m1]
    .rw[Fa,m1,KJ]
    .intro i f d a hf hd ha;obtain⟨a',x,e1,e2,_,_,e5⟩:=has2 i f (by simpa using hf);rw[ha]at e1;cases e1;rw[Fx,e2]at hd;simp only[E0,AN]at hd;exact hd ▸ e5
   .cases hok
  .cases hok
end
end Go.Am
