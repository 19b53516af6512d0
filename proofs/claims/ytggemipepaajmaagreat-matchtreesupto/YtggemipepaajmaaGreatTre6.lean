/- Part 6. -/
import Derived.Test.YtggemipepaajmaaGreatTre5
import Derived.Laws.MakeOwn
set_option linter.all false
namespace Go.Am
open Go
section
variable{M:Par}{P:Program}(F:Fits M P)
include F in
theorem JU{t:TypeId}{d:TypeDesc}(h:und M.ty t=some d):P.underlying t=some d:=by
 obtain⟨i,h1,rfl⟩:=JQ h;obtain⟨info,_,h2,_⟩:=F.ty t i h1;exact h2
include F in
theorem ON{e:TypeId}{z:List AV}(h:Ei M.ty e=some z):∃ info zv,P.info? e=some info/\info.size=siz M.ty e/\info.bytes=byt M.ty e/\info.zero=some zv/\z.length=siz M.ty e /\
 ∀ g b,Au g b z zv.cells/\∀(i:Nat) y,zv.cells[i]? = some y->one y=true:=by
 unfold Ei at h;split at h
 .rename_i i hi;split at h
  .rename_i z' hz;split at h
   .rename_i hl;simp only[AN]at h;subst h;obtain⟨info,h1,_,h3,h4,h5⟩:=F.ty e i hi;obtain⟨zv,h6,h7,_⟩:=h5 _ hz;refine⟨info,zv,h1,by simp[siz,hi,h3],by simp[byt,hi,h4],h6,by simp[siz,hi,Bl.1 hl],fun g b => ?_⟩;cases ho:C4 zv with
    | none=>simp[ho]at h7
    | some a=>
     simp only[ho,KL]at h7;exact Ha (Jv g b ho) h7
   .cases h
  .cases h
 .cases h
theorem bh{w:World}{B o n:Nat}{g:G}{b:Bool}{cs:List AV}(hl:cs.length=n)(h:∀(i:Nat) c,cs[i]? = some c->∃ v,w.cell? ⟨B,o+i,none⟩=some v/\one v=true/\Rel g b c v) :
 ∃ us:Array Value,us.size=n/\Au g b cs us/\(∀(i:Nat) y,us[i]? = some y->one y=true)/\∀ w':World,w'.heap=w.heap->(loadCells ⟨B,o,none⟩ n).run P w'=.ok us w':=by
 let f:Nat->Value:=fun j=>(w.cell? ⟨B,o+j,none⟩).getD undef
 have hf:∀ j,j<n->∃ v c,w.cell? ⟨B,o+j,none⟩=some v/\one v=true/\cs[j]? = some c/\Rel g b c v:=fun j hj=>by
  have:j<cs.length:=by omega
  obtain⟨v,h1,h2,h3⟩:=h j cs[j] (AW this);exact⟨v,cs[j],h1,h2,AW this,h3⟩
 refine⟨((List.range n).map f).toArray,by simp,⟨by simp[hl],fun j c v hc hv => ?_⟩,fun j v hv => ?_,fun w' hw' => ?_⟩
 .have hj:j<n:=by
   have:=(Kn.1 hv).1;simpa using this
  simp[hj]at hv;obtain⟨v',c',h1,h2,h3,h4⟩:=hf j hj;simp only[f,h1,GQ]at hv;rw[h3]at hc;simp only[AN]at hc;exact hc ▸ hv ▸ h4
 .have hj:j<n:=by
   have:=(Kn.1 hv).1;simpa using this
  simp[hj]at hv;obtain⟨v',c',h1,h2,h3,h4⟩:=hf j hj;simp only[f,h1,GQ]at hv;exact hv ▸ h2
 .exact run_loadCells (P:=P) w' ⟨B,o,none⟩ n f (fun j hj=>by
   obtain⟨v,c,h1,_⟩:=hf j hj;have:w'.cell? ⟨B,o+j,none⟩=w.cell? ⟨B,o+j,none⟩:=(by unfold World.cell?;rw[hw']);rw[add_plain,this];simp[f,h1])
theorem Mx{sz:Nat}{es:List (List AV)}(hl:E3 sz es){j:Nat}{c:AV}(h:es.flatten[j]? = some c):∃ i k e,es[i]? = some e/\e[k]? = some c/\j=i * sz+k/\k<sz:=by
 have hj:=(Ae.1 h).1;rw[G6 hl]at hj;have hp:0<sz:=by
  rcases Nat.eq_zero_or_pos sz with h0 | h0
  .subst h0;simp at hj
  .exact h0
 have hq:j / sz<es.length:=by rw[Nat.div_lt_iff_lt_mul hp];exact hj
 have hdm:=Nat.div_add_mod j sz;have hm:=Nat.mod_lt j hp;have he:es[j / sz]? = some es[j / sz]:=AW hq;have hjj:j / sz * sz+j % sz=j:=by rw[Nat.mul_comm];exact hdm
 have hg:=JS hl he hm;rw[hjj,h]at hg;exact⟨j / sz,j % sz,_,he,hg.symm,hjj.symm,hm⟩
theorem Ln{g:G}{h:AF}{fr:Fr}{w:World}(s:Sim g h fr w){a:AV}{x:Value}(hx:Rel g true a x){es:List (List AV)}(hr:A7 h a=some es){sz:Nat}(hsz:CC sz a=true) :
 ∃ base c us,x=.slice base es.length c/\es.length<=c/\E3 sz es/\us.size=es.length * sz/\Au g true es.flatten us/\(∀(i:Nat) y,us[i]? = some y->one y=true)/\(base=none->c=0) /\
  ∀ w':World,w'.heap=w.heap->∀ l c',(Builtin.firstCells sz es.length (.slice base l c')).run P w'=.ok us w':=by
 cases hx with
 | AH=>
  simp only[A7,AN]at hr;subst hr;exact⟨none,0,#[],rfl,CZ _,fun e he=>by simp at he,by simp,Au.nil _ _,fun i y hy=>by simp at hy,fun _=>rfl,fun w' _ l c'=>by simp[Builtin.firstCells]⟩
 | sl _ sz' ex es' B o c ad ha vs h0 hxx hs h1 h2 h3=>
  simp only[A7,AN]at hr;subst hr;simp only[CC,BM,Bl]at hsz;subst hsz;have hl:E3 sz' es':=fun e he=>by
   obtain⟨i,hi⟩:=Mg.1 he;exact hs i e hi
  rcases ha with rfl | hc0
  rotate_left
  .have he:es'=[]:=E5 (by omega);subst he;exact⟨_,c,#[],rfl,h0,hl,by simp,Au.nil _ _,(fun i y hy=>by simp at hy),(fun h=>by cases h),fun w' hw l c'=>by simp[Builtin.firstCells,loadCells,loadCellsFrom]⟩
  obtain⟨us,k1,k2,k3,k4⟩:=bh (P:=P) (w:=w) (B:=B) (o:=o) (g:=g) (b:=true) (cs:=es'.flatten) (G6 hl) (fun j c hc=>by
   obtain⟨i,k,e,he,hk,hj,hlt⟩:=Mx hl hc;subst hj;exact⟨vs i k,by rw[<- Kv];exact s.mem _ _ _ (h1 i e he k c hk),h2 i e he k c hk,(h3 i e he k c hk).up⟩)
  exact⟨_,c,us,rfl,h0,hl,k1,k2,k3,(fun h=>by cases h),fun w' hw l c'=>by simp only[Builtin.firstCells];exact k4 w' hw⟩
 | hs id gen sz' off len ex B c o c' h h0 hc ho=>
  simp only[CC,BM,Bl]at hsz;subst hsz;simp only[A7]at hr;split at hr
  .rename_i sz'' lk es' hk;split at hr
   .rename_i hg;simp only[BU,Bl,Gb]at hg;obtain⟨⟨hgen,rfl⟩,hle⟩:=hg;simp only[AN]at hr;subst hr;obtain⟨B',c1,vs,T,fr',h1,h2,h3,h4,h5,h6,h7,h8,h9,h10⟩:=s.blk id _ hk;rw[hgen,h]at h1;simp only[AN,Bk]at h1;obtain⟨rfl,rfl⟩:=h1;have hlen:((es'.drop off).take len).length=len:=(by simp;omega);have hl':E3 sz'' es':=fun e he=>by
     obtain⟨i,hi⟩:=Mg.1 he;exact h6 i e hi
    have hl:E3 sz'' ((es'.drop off).take len):=(hl'.drop off).take len;obtain⟨us,k1,k2,k3,k4⟩:=bh (P:=P) (w:=w) (B:=B) (o:=o) (g:=g) (b:=true) (cs:=((es'.drop off).take len).flatten) (G6 hl) (fun j x hx=>by
     obtain⟨i,k,e,he,hk',hj,hlt⟩:=Mx hl hx;have hi:i<len:=(by have:=(Ae.1 he).1;omega);rw[Kp hi,H9]at he;have ho':o=off * sz'':=ho (by subst hc;split <;> omega);have hlt2:(off+i) * sz''+k<vs.size:=by
      rw[h3];have:=(Ae.1 he).1;have hm:(off+i+1) * sz''<=c * sz'':=GK _ (by omega);rw[Ge]at hm;omega
     have hv:vs[(off+i) * sz''+k]? = some vs[(off+i) * sz''+k]:=E6 hlt2;refine⟨_,?_,h7 _ _ hv,h8 (off+i) e he k x _ hk' hv⟩;rw[cell_of h2,hj,ho',<- Kv,<- KO];exact hv)
    rw[hlen]at k1 k4;refine⟨_,c',us,by rw[hlen],by rw[hlen];subst hc;split <;> omega,hl,by rw[hlen];exact k1,k2,k3,(fun h=>by cases h),fun w' hw l c'=>by simp only[Builtin.firstCells,hlen];exact k4 w' hw⟩
   .cases hr
  .cases hr
 | _=>simp[A7]at hr
section
variable{w:World}{e t ty:TypeId}{info:TypeInfo}{zv:Value}{ts:Array TypeId}{base:Option Addr}{sLen sCap n:Nat}{x:Value}{news:Array Value}
def Adds(P:Program)(w:World)(ts:Array TypeId)(info:TypeInfo)(zv:Value)(x:Value)(n:Nat)(news:Array Value):Prop:=
 ∃ u d,ts[1]? = some u/\P.underlying u=some d /\
  ((IP d=some false/\(Builtin.lenOf x).run P w=.ok n w/\∀ w':World,w'.heap=w.heap->(Builtin.firstCells info.size n x).run P w'=.ok news w') \/
   (IP d=some true/\(∃ k,x=.int k n)/\n<=17592186044416/\n * info.bytes<=281474976710656/\news=Builtin.zeroCells zv.cells n))
theorem L7(ht:P.underlying t=some (.slice e))(hi:P.info? e=some info)(hz:info.zero=some zv)(hts:ts[0]? = some t)(ha:Adds P w ts info zv x n news)(hroom:sLen+n<=sCap)(hzs:zv.cells.size=info.size)(hp:0<info.size) :
 (Builtin.append_ ts ty #[.slice base sLen sCap,x]).run P w=((match base with
   | some a=>storeCells (a.add (sLen * info.size)) news.toList
   | none=>pure ()).run P w).andThen fun _ w'=> .ok (.slice base (sLen+n) sCap) w':=by
 obtain⟨u,d,hu,hd,⟨hint,hlen,hnew⟩ | ⟨hint,⟨k,rfl⟩,hn,hb,rfl⟩⟩:=ha
 .cases d <;> simp only[IP,AN,Bool.true_eq_false,reduceCtorEq]at hint <;> cases base <;> simp[Builtin.append_,hts,hu,run_underlying ht,run_underlying hd,sizeOf,typeInfo,hi,  hlen,hroom,hnew w rfl]
 .cases d <;> simp only[IP,AN,ES,reduceCtorEq]at hint
  have hw:IntKind.i64.wrap (n:Int)=n:=by rw[IntKind.wrap_i64];omega
  have h0:¬ ((n:Int)<0):=by omega
  have h1:¬ (281474976710656<(n:Int) * (info.bytes:Int)):=by
   rw[<- Int.natCast_mul];omega
  by_cases hn0:n=0
  .subst hn0;have hw0:IntKind.i64.wrap 0=0:=(by decide);have hz0:Builtin.zeroCells zv.cells 0 = #[]:=(by simp[Builtin.zeroCells]);cases base <;> simp[Builtin.append_,hts,hu,run_underlying ht,run_underlying hd,sizeOf,typeInfo,zeroValue,hi,hz,  hw,h0,h1,asInt,asIntOf,hw0,hz0,show sLen<=sCap by omega]
  .have h2:¬ n * info.size=0:=Nat.mul_ne_zero hn0 (by omega);cases base <;> simp[Builtin.append_,hts,hu,run_underlying ht,run_underlying hd,sizeOf,typeInfo,zeroValue,hi,hz,  hw,h0,h1,asInt,asIntOf,hroom,hn0,h2]
theorem QJ(ht:P.underlying t=some (.slice e))(hi:P.info? e=some info)(hz:info.zero=some zv)(hts:ts[0]? = some t)(ha:Adds P w ts info zv x n news)(hroom:sCap<sLen+n)(hp:0<info.size)
 {olds:Array Value} (holds:∀ w':World,w'.heap=w.heap->(Builtin.firstCells info.size sLen (.slice base sLen sCap)).run P w'=.ok olds w') (h63:sLen+n<=17592186044416) (hb:(sLen+n) * info.bytes<=17592186044416) (hn1:n≠0) :
 ∃ cap,sLen+n<=cap/\(Builtin.append_ ts ty #[.slice base sLen sCap,x]).run P w=.ok (.slice (some ⟨w.heap.size,0,none⟩) (sLen+n) cap) (w.drew.alloc (.cells (olds++news++Builtin.zeroCells zv.cells (cap - (sLen+n))) e)):=by
 refine⟨grownCap w (sLen+n) sCap e,grownCap_ge _ _ _ _,?_⟩;have hn:¬ (sLen+n<=sCap):=by omega
 have h63':¬ (9223372036854775807<((sLen:Int)+(n:Int))):=by omega
 have h48':¬ (281474976710656<Builtin.nextslicecap (sLen+n) sCap * info.bytes):=by
  have:=growslice_fits (need:=sLen+n) (old:=sCap) (bytes:=info.bytes) hroom (by omega);omega
 have ho:=holds w.drew rfl;obtain⟨u,d,hu,hd,⟨hint,hlen,hnew⟩ | ⟨hint,⟨k,rfl⟩,hn',hb',rfl⟩⟩:=ha
 .cases d <;> simp only[IP,AN,Bool.true_eq_false,reduceCtorEq]at hint <;> simp[Builtin.append_,hts,hu,run_underlying ht,run_underlying hd,sizeOf,typeInfo,zeroValue,hi,hz,  hlen,hn,h63',h48',Question.forced,hnew w.drew rfl,ho,newRow,grownCap]
 .cases d <;> simp only[IP,AN,ES,reduceCtorEq]at hint
  have hw:IntKind.i64.wrap (n:Int)=n:=by rw[IntKind.wrap_i64];omega
  have h0:¬ ((n:Int)<0):=by omega
  have h1:¬ (281474976710656<(n:Int) * (info.bytes:Int)):=by
   rw[<- Int.natCast_mul];omega
  have h2:¬ n * info.size=0:=Nat.mul_ne_zero hn1 (by omega);simp[Builtin.append_,hts,hu,run_underlying ht,run_underlying hd,sizeOf,typeInfo,zeroValue,hi,hz,  hw,h0,h1,asInt,asIntOf,hn,h63',h48',Question.forced,ho,newRow,grownCap,hn1,h2]
end
end
section
variable{M:Par}{P:Program}(F:Fits M P)
theorem Vt{z:List AV}{zs:Array Value}(h:zs.size=z.length)(n:Nat):Builtin.zeroCells zs n=(Array.range (n * z.length)).map fun j=>zs[j % zs.size]! := by simp[Builtin.zeroCells,h]
theorem C0(b:List UInt8):(DF b).length=b.length:=by simp[DF]
theorem IE(b:List UInt8):E3 1 (DF b):=fun e he=>by
 simp only[DF,F5]at he;obtain⟨x,_,rfl⟩:=he;rfl
theorem QK(b:List UInt8):(DF b).flatten=b.map fun c=>AV.int .u8 c.toNat:=by
 induction b with
 | nil=>rfl
 | cons a r ih=>simp only[DF,Hk,L2]at ih ⊢;rw[ih];rfl
theorem OO{g:G}(bb:Bool)(b:List UInt8):Au g bb (DF b).flatten (b.toArray.map fun c=>Value.int .u8 c.toNat)/\∀(i:Nat) y,(b.toArray.map fun c=>Value.int .u8 c.toNat)[i]? = some y->one y=true:=by
 rw[QK];refine⟨⟨by simp,fun i c v hc hv => ?_⟩,fun i y hy => ?_⟩
 .simp only[Fx,PJ,List.getElem?_toArray,Dx]at hc hv;obtain⟨x,hx,rfl⟩:=hc;obtain⟨y,hy,rfl⟩:=hv;rw[hx]at hy;cases hy;exact .int _ _ _
 .simp only[PJ,List.getElem?_toArray,Dx]at hy;obtain⟨x,_,rfl⟩:=hy;rfl
theorem US{g:G}{h:AF}{fr:Fr}{w:World}(s:Sim g h fr w){a:AV}{x:Value}(hx:Rel g true a x){e u:TypeId}{d:TypeDesc}{zs:Bool}{xs:List (List AV)}{ts:Array TypeId}(hu:ts[1]? = some u)(hd:P.underlying u=some d)
 (hz:IP d=some zs) (hr:Mo M.ty e zs a h=some xs) {info:TypeInfo} {zv:Value} (hsize:info.size=siz M.ty e) (hb:(xs.length) * info.bytes<=17592186044416)
 {z:List AV} (hzc:Ei M.ty e=some z) (hzv:∀ g b,Au g b z zv.cells/\∀(i:Nat) y,zv.cells[i]? = some y->one y=true) (hp:0<siz M.ty e) :
 ∃ news,Adds P w ts info zv x xs.length news/\E3 (siz M.ty e) xs/\Au g true xs.flatten news/\(∀(i:Nat) y,news[i]? = some y->one y=true):=by
 unfold Mo at hr;split at hr
 .split at hr
  .rename_i k n z' hz';rw[hz']at hzc;simp only[AN]at hzc;subst hzc;split at hr
   .rename_i hc;simp only[BU,decide_eq_true_eq,Bl]at hc;obtain⟨⟨h0,h1⟩,hl⟩:=hc;simp only[AN]at hr;subst hr;cases hx;obtain⟨r1,r2⟩:=hzv g true;have hpz:0<z'.length:=(by omega);rw[PF]at hb;refine⟨Builtin.zeroCells zv.cells n.toNat,⟨u,d,hu,hd,.inr ⟨hz,⟨k,?_⟩,by simp only[PF];omega,by simp only[PF];omega,by simp⟩⟩,E3.replicate hl,?_,?_⟩
    .simp only[PF];rw[Int.toNat_of_nonneg h0]
    .rw[Vt r1.1];exact Lm r1 hpz _
    .rw[Vt r1.1];exact Jy r1.1 r2 hpz _
   .cases hr
  .cases hr
 .split at hr
  .rename_i b;split at hr
   .rename_i hs1;have hs1:=Bl.1 hs1;simp only[AN]at hr;subst hr;cases hx;obtain⟨r1,r2⟩:=OO (g:=g) true b;refine⟨_,⟨u,d,hu,hd,.inl ⟨hz,by simp[Builtin.lenOf,C0,ByteArray.size],fun w' _ => ?_⟩⟩,by rw[hs1];exact IE b,r1,r2⟩;have:((⟨b.toArray⟩:ByteArray).extract 0 b.length).data=b.toArray:=by
     rw[ByteArray.data_extract];simp
    simp only[Builtin.firstCells,C0,this,Sem.run_pure]
   .cases hr
  .split at hr
   .rename_i hsz;obtain⟨base,c,us,rfl,h1,h2,h3,h4,h5,h6,h7⟩:=Ln (P:=P) s hx hr hsz;exact⟨us,⟨u,d,hu,hd,.inl ⟨hz,by simp[Builtin.lenOf],fun w' hw=>by rw[hsize];exact h7 w' hw _ _⟩⟩,h2,h4,h5⟩
   .cases hr
theorem roomy{g:G}{sz c:Nat}{es:List (List AV)}{us zs:Array Value}{z:List AV}(hl:E3 sz es)(hr:Au g true es.flatten us)(h1:∀(i:Nat) y,us[i]? = some y->one y=true)(hc:es.length<=c)(hz:z.length=sz)(hp:0<sz)
 (hzr:Au g true z zs) (hz1:∀(i:Nat) y,zs[i]? = some y->one y=true) :
 (us++Builtin.zeroCells zs (c - es.length)).size=c * sz/\(∀(i:Nat) (e:List AV),es[i]? = some e->∀ k x v,e[k]? = some x->(us++Builtin.zeroCells zs (c - es.length))[i * sz+k]? = some v->Rel g true x v) /\
 (∀(i:Nat) y,(us++Builtin.zeroCells zs (c - es.length))[i]? = some y->one y=true):=by
 have hus:us.size=es.length * sz:=by rw[hr.1,G6 hl]
 refine⟨?_,fun i e he k x v hx hv => ?_,fun i y hy => ?_⟩
 .rw[Array.size_append,size_zeroCells,hzr.1,hz,hus,<- KO]
  congr 1;omega
 .have hk:k<sz:=by rw[<- hl.get he];exact(Ae.1 hx).1
  have hie:=(Ae.1 he).1;have hm:(i+1) * sz<=es.length * sz:=GK _ hie;rw[Ge]at hm;rw[Km (by omega)]at hv;exact JT hl hr he hx hv
 .by_cases hi:i<us.size
  .rw[Km hi]at hy;exact h1 i y hy
  .rw[S4 (by omega),Vt hzr.1]at hy;exact Jy hzr.1 hz1 (by omega) _ _ y hy
theorem Vu{g:G}{es xs:List (List AV)}{us vs:Array Value}(h:Au g true es.flatten us)(k:Au g true xs.flatten vs):Au g true (es++xs).flatten (us++vs):=by
 rw[List.flatten_append];exact h.append k
theorem Vv{us vs:Array Value}(h:∀(i:Nat) y,us[i]? = some y->one y=true)(k:∀(i:Nat) y,vs[i]? = some y->one y=true):∀(i:Nat) y,(us++vs)[i]? = some y->one y=true:=fun i y hy=>by
 by_cases hi:i<us.size
 .rw[Km hi]at hy;exact h i y hy
 .rw[S4 (by omega)]at hy;exact k _ y hy
theorem Yt{g:G}{h:AF}{fr:Fr}{w:World}(s:Sim g h fr w){id sz B c:Nat}{lk:Bool}{es xs:List (List AV)}(hk:h[id]? = some (.arr sz lk es))(hpl:g.pl id es.length=some (B,c)){p:Nat}(hp:p<=es.length)(hlk:lk=true->p=es.length)
 (hc:p+xs.length<=c) {news:Array Value} (hl:E3 sz xs) (hr:Au g true xs.flatten news) (h1:∀(i:Nat) y,news[i]? = some y->one y=true) :
 ∃ g' w',(storeCells ⟨B,p * sz,none⟩ news.toList).run P w=.ok () w'/\Le g g'/\Sim g' (h.set id (.arr sz lk (es.take p++xs++es.drop (p+xs.length)))) fr w'/\g'.pl id (es.take p++xs++es.drop (p+xs.length)).length=some (B,c):=by
 have hid:id<h.length:=(Ae.1 hk).1;obtain⟨B',c',vs,T,fz,q1,q2,q3,q4,q5,q6,q7,q8,q9,q10⟩:=s.blk id _ hk;rw[hpl]at q1;simp only[AN,Bk]at q1;obtain⟨rfl,rfl⟩:=q1;have hns:news.size=xs.length * sz:=by rw[hr.1,G6 hl]
 have hcm:(p+xs.length) * sz<=c * sz:=GK _ hc;rw[KO]at hcm;obtain⟨w',cs',k1,k2,k3,k4,k5,k6,k7,k8,k9⟩:=GW (P:=P) (w:=w) (o:=p * sz) news.toList 0 w vs q2 (fun u hu=>by
  obtain⟨i,hi⟩:=Mg.1 hu;exact h1 i u (by simpa using hi)) (by rw[KJ];omega) q5
 simp only[IZ,KJ]at k4;let es':=es.take p++xs++es.drop (p+xs.length);have hlen':es'.length=max es.length (p+xs.length):=by simp only[es',FZ,GR,List.length_drop];omega
 have get':∀ i e,es'[i]? = some e->(i<p/\es[i]? = some e)\/(p<=i/\i<p+xs.length/\xs[i - p]? = some e)\/(p+xs.length<=i/\es[i]? = some e):=fun i e he=>by
  simp only[es']at he;by_cases ha:i<p
  .left
   rw[EM,BA (by rw[GR];omega),Kp ha]at he;exact⟨ha,he⟩
  .by_cases hb:i<p+xs.length
   .right;left
    rw[EM,EL (by rw[GR];omega),GR,Nat.min_eq_left hp,BA (by omega)]at he;exact⟨by omega,hb,he⟩
   .right;right
    rw[EL (by rw[FZ,GR];omega),FZ,GR,Nat.min_eq_left hp,H9,show p+xs.length+(i - (p+xs.length))=i by omega]at he;exact⟨by omega,he⟩
 have hle0:es.length<=es'.length:=by rw[hlen'];omega
 let g':G:=⟨g.mu,fun id' gen=>if id'=id/\gen=es'.length then some (B,c)else g.pl id' gen⟩;have hgn:∀ id' gen,¬ (id'=id/\gen=es'.length)->g'.pl id' gen=g.pl id' gen:=fun id' gen hne=>by simp only[g'];rw[if_neg hne]
 have hgy:g'.pl id es'.length=some (B,c):=by simp[g']
 have hle:Le g g':=⟨fun _ _ _ h=>h,fun id' gen x hx=>by
  by_cases hh:id'=id/\gen=es'.length
  .obtain⟨rfl,rfl⟩:=hh;rw[hgy];by_cases he:es'.length=es.length
   .rw[he,hpl]at hx;exact hx
   .rw[q10 _ (by omega)]at hx;cases hx
  .rw[hgn _ _ hh];exact hx⟩
 refine⟨g',w',k1,hle,s.upd id _ hid g' rfl (fun id' hne gen=>hgn _ _ (fun hh=>hne hh.1)) hle (by omega) (fun b hb hne=>k5 b (fun e=>hne es.length c (by rw[e];exact hpl))) (fun b o u hm => ?_) (fun gen b c' hp' => ?_)
  ⟨B,c,cs',T,fz,hgy,k2,by rw[k3,q3],by show es'.length<=c;rw[hlen'];omega,by rw[k3];exact q5,fun i e he => ?_,fun j v hv => ?_,fun i e he k x v hx hv => ?_,fun o ho=>q9 o (fun hh=>DD (GK _ hle0) (ho hh)),fun gen hgen => ?_⟩ k7 k8 k9,hgy⟩
 .have hc0:=s.mem b o u hm;by_cases hb:b=B
  .subst hb;rw[cell_of q2]at hc0;rw[cell_of k2,k4 o,if_neg]
   .exact hc0
   .intro hh;have:=q9 o (fun hlk'=>by rw[<- hlk hlk'];exact hh.1);rw[hm]at this;cases this
  .unfold World.cell? at hc0 ⊢;rw[k5 b hb];exact hc0
 .by_cases hh:gen=es'.length
  .subst hh;rw[hgy]at hp';simp only[AN,Bk]at hp';exact .inl ⟨es.length,c,by rw[<- hp'.1];exact hpl⟩
  .rw[hgn _ _ (fun h=>hh h.2)]at hp';exact .inl ⟨gen,c',hp'⟩
 .rcases get' i e he with⟨_,h2⟩ | ⟨_,_,h2⟩ | ⟨_,h2⟩
  .exact q6 i e h2
  .exact hl.get h2
  .exact q6 i e h2
 .rw[k4 j]at hv;split at hv
  .exact h1 _ v (by simpa using hv)
  .exact q7 _ v hv
 .rw[k4]at hv;have hk:k<sz:=by
   rcases get' i e he with⟨_,h2⟩ | ⟨_,_,h2⟩ | ⟨_,h2⟩
   .rw[<- q6 i e h2];exact(Ae.1 hx).1
   .rw[<- hl.get h2];exact(Ae.1 hx).1
   .rw[<- q6 i e h2];exact(Ae.1 hx).1
  rcases get' i e he with⟨h2,h3⟩ | ⟨h2,h3,h4⟩ | ⟨h2,h3⟩
  .have hm:(i+1) * sz<=p * sz:=GK _ h2;rw[Ge]at hm;rw[if_neg (by omega)]at hv;exact(q8 i e h3 k x v hx hv).mono hle
  .have hm:p * sz<=i * sz:=GK _ h2;have hm2:(i+1) * sz<=(p+xs.length) * sz:=GK _ h3;rw[Ge,KO]at hm2;rw[if_pos ⟨by omega,by omega⟩]at hv;have he2:i * sz+k - p * sz=(i - p) * sz+k:=(by rw[Nat.sub_mul];omega);rw[he2]at hv;exact(JT hl hr h4 hx (by simpa using hv)).mono hle
  .have hm:(p+xs.length) * sz<=i * sz:=GK _ h2;rw[KO]at hm;rw[if_neg (by omega)]at hv;exact(q8 i e h3 k x v hx hv).mono hle
 .rw[hgn _ _ (fun hh=>by have:gen=es'.length:=hh.2;have hgen':es'.length<gen:=hgen;omega)];exact q10 gen (Hh hle0 hgen)
theorem moves{g:G}{h:AF}{fr:Fr}{w:World}(s:Sim g h fr w){id sz:Nat}{lk:Bool}{es es':List (List AV)}(hk:h[id]? = some (.arr sz lk es))(hlt:es.length<es'.length)(T:TypeId){c:Nat}{vs:Array Value}(hl:E3 sz es')(hsz:vs.size=c * sz)(hc:es'.length<=c)
 (hr:∀(i:Nat) (e:List AV),es'[i]? = some e->∀ k x v,e[k]? = some x->vs[i * sz+k]? = some v->Rel g true x v) (h1:∀(i:Nat) y,vs[i]? = some y->one y=true) :
 ∃ g',Le g g'/\Sim g' (h.set id (.arr sz lk es')) fr { w with heap:=w.heap.push (.cells vs T (0,0)) }/\g'.pl id es'.length=some (w.heap.size,c):=by
 have hid:id<h.length:=(Ae.1 hk).1;obtain⟨B',c',vs',T',fz,q1,q2,q3,q4,q5,q6,q7,q8,q9,q10⟩:=s.blk id _ hk;have hmu:∀ o,g.mu w.heap.size o=none:=fun o'=>by
  cases hm:g.mu w.heap.size o' with
  | none=>rfl
  | some v=>have:=s.Kz hm;omega
 let g':G:=⟨g.mu,fun id' gen=>if id'=id/\gen=es'.length then some (w.heap.size,c)else g.pl id' gen⟩;have hgn:∀ id' gen,¬ (id'=id/\gen=es'.length)->g'.pl id' gen=g.pl id' gen:=fun id' gen hne=>by simp only[g'];rw[if_neg hne]
 have hgy:g'.pl id es'.length=some (w.heap.size,c):=by simp[g']
 have hle:Le g g':=⟨fun _ _ _ h=>h,fun id' gen x hx=>by
  by_cases hh:id'=id/\gen=es'.length
  .obtain⟨rfl,rfl⟩:=hh;rw[q10 _ hlt]at hx;cases hx
  .rw[hgn _ _ hh];exact hx⟩
 refine⟨g',hle,s.upd id _ hid g' rfl (fun id' hne gen=>hgn _ _ (fun hh=>hne hh.1)) hle (by simp) (fun b hb hne=>QC hb) (fun b o u hm => ?_) (fun gen b c' hp' => ?_)
  ⟨w.heap.size,c,vs,T,(0,0),hgy,K0,hsz,hc,fun o _ hh=>by simp at hh,fun i e he=>hl.get he,h1,fun i e he k x v hx hv=>(hr i e he k x v hx hv).mono hle,fun o _=>hmu o,fun gen hgen => ?_⟩ rfl rfl rfl,hgy⟩
 .have hc0:=s.mem b o u hm;have hb:=s.Kz hm;unfold World.cell? at hc0 ⊢;rw[QC hb];exact hc0
 .by_cases hh:gen=es'.length
  .subst hh;rw[hgy]at hp';simp only[AN,Bk]at hp';exact .inr ⟨by omega,by simp;omega⟩
  .rw[hgn _ _ (fun h=>hh h.2)]at hp';exact .inl ⟨gen,c',hp'⟩
 .rw[hgn _ _ (fun hh=>by have:=hh.2;omega)];exact q10 gen (by omega)
include F in
theorem QL{g:G}{h h':AF}{fr:Fr}{w:World}(s:Sim g h fr w){t u ty:TypeId}{d:TypeDesc}{zs:Bool}{a b v:AV}{x y:Value}{ts:Array TypeId}(hts:ts[0]? = some t)(hu:ts[1]? = some u)(hd:und M.ty u=some d)(hz:IP d=some zs)
 (hx:Rel g true a x) (hy:Rel g true b y) (hf:MO M.ty t zs a b h=some (v,h')):G5 P (do pure (.value (<- Builtin.append_ ts ty #[x,y]))) g h' fr w v:=by
 unfold MO at hf;split at hf
 .rename_i e ht;have htP:=JU F ht;split at hf
  .rename_i xs n hxs hn;split at hf
   .cases hf
   .rename_i hsz;simp only[BU,FQ,Gb,P6]at hsz;obtain⟨⟨⟨⟨hsz,hp⟩,hby⟩,h63⟩,z,hzc⟩:=hsz;obtain⟨info,zv,i1,i2,i3,i4,i5,i6⟩:=ON F hzc;obtain⟨r1,r2⟩:=i6 g true;have hzs:zv.cells.size=info.size:=(by rw[r1.1,i5,i2]);have hpi:0<info.size:=(by omega);have hxb:xs.length * info.bytes<=17592186044416:=by
     rw[i3];exact DD (GK _ (Nat.le_add_left _ _)) hby
    obtain⟨news,ad,al,ar,a1⟩:=US (P:=P) s hy hu (JU F hd) hz hxs i2 hxb hzc i6 hp;have fresh:∀(base:Option Addr) (sLen sCap:Nat) (es:List (List AV)) (olds:Array Value),x=.slice base sLen sCap->sCap<sLen+xs.length->es.length=sLen->sLen=n->E3 (siz M.ty e) es->Au g true es.flatten olds ->
     (∀(i:Nat) y,olds[i]? = some y->one y=true)->(∀ w':World,w'.heap=w.heap->(Builtin.firstCells (siz M.ty e) sLen (.slice base sLen sCap)).run P w'=.ok olds w')->xs≠[] ->
     ∃ cap,sLen+xs.length<=cap/\(Builtin.append_ ts ty #[x,y]).run P w=.ok (.slice (some ⟨w.heap.size,0,none⟩) (es++xs).length cap) (w.drew.alloc (.cells (olds++news++Builtin.zeroCells zv.cells (cap - (es++xs).length)) e)) /\
      (olds++news++Builtin.zeroCells zv.cells (cap - (es++xs).length)).size=cap * siz M.ty e /\
      (∀(i:Nat) (l:List AV),(es++xs)[i]? = some l->∀ k x v,l[k]? = some x->(olds++news++Builtin.zeroCells zv.cells (cap - (es++xs).length))[i * siz M.ty e+k]? = some v->Rel g true x v) /\
      (∀(i:Nat) y,(olds++news++Builtin.zeroCells zv.cells (cap - (es++xs).length))[i]? = some y->one y=true):=by
     intro base sLen sCap es olds hx' hcap hes hn' hl hr h1 hld hne;subst hx';obtain⟨cap,c1,c2⟩:=QJ (ty:=ty) htP i1 i4 hts ad hcap hpi (by rw[i2];exact hld) (by omega) (by rw[i3,hn'];exact hby) (fun h0=>hne (E5 h0));have hlen:(es++xs).length=sLen+xs.length:=(by simp[hes]);obtain⟨q1,q2,q3⟩:=roomy (c:=cap) (hl.append al) (Vu hr ar) (Vv h1 a1) (by omega) i5 hp r1 r2;refine⟨cap,c1,by rw[hlen];exact c2,q1,q2,q3⟩
    have newrow:∀(base:Option Addr) (sLen sCap:Nat) (es:List (List AV)) (olds:Array Value),x=.slice base sLen sCap->sCap<sLen+xs.length->es.length=sLen->sLen=n->E3 (siz M.ty e) es->Au g true es.flatten olds ->
     (∀(i:Nat) y,olds[i]? = some y->one y=true)->(∀ w':World,w'.heap=w.heap->(Builtin.firstCells (siz M.ty e) sLen (.slice base sLen sCap)).run P w'=.ok olds w')->xs≠[] ->
     (v,h')=A3 h (siz M.ty e) (es++xs)->G5 P (do pure (.value (<- Builtin.append_ ts ty #[x,y]))) g h' fr w v:=by
     intro base sLen sCap es olds hx' hcap hes hn' hl hr h1 hld hne heq;obtain⟨cap,c1,c2,q1,q2,q3⟩:=fresh base sLen sCap es olds hx' hcap hes hn' hl hr h1 hld hne;obtain⟨g',k1,k2,k3⟩:=Jx (s.drew (w.drawn+1)) e (hl.append al) q1 (by simp[hes];omega) q2 q3 (0,0) (fun o _ hh=>by simp at hh);simp only[A3,Bk]at heq;obtain⟨rfl,rfl⟩:=heq;exact⟨_,_,g',.inl (by rw[Sem.run_bind,c2];rfl),k1,k2,k3⟩
    split at hf
    ·-- nothing is added
     have hsame:∀ base sLen sCap,x=.slice base sLen sCap->sLen<=sCap->(v,h')=(a,h)->G5 P (do pure (.value (<- Builtin.append_ ts ty #[x,y]))) g h' fr w v:=by
      rintro base sLen sCap rfl hle heq;cases heq;have hn0:news = #[]:=by
       have:=ar.1;simpa using this
      subst hn0;have hr:=L7 (ty:=ty) (base:=base) (sLen:=sLen) htP i1 i4 hts ad (by simpa using hle) hzs hpi;refine .val s _ ?_ hx;rw[Sem.run_bind,hr];cases base <;> simp[storeCells]
     split at hf
     .cases hx;simp only[AN]at hf;exact hsame _ _ _ rfl (CZ _) hf.symm
     .cases hx with
      | sl _ _ _ _ _ _ _ _ _ _ h0=>
       simp only[AN]at hf;exact hsame _ _ _ rfl h0 hf.symm
     .cases hx with
      | hs _ _ _ _ _ ex B c o c' hpl h0 hc ho=>
       simp only[AN]at hf;exact hsame _ _ _ rfl (by subst hc;split <;> omega) hf.symm
     .cases hf
    .rename_i x0 xr;have hne:x0::xr≠[]:=(by simp);split at hf
     .cases hx;simp only[F6,AN]at hn hf;exact newrow none 0 0 [] #[] rfl (by simp) rfl hn (fun e he=>by simp at he) (Au.nil _ _) (fun i y hy=>by simp at hy) (fun w' _=>by simp[Builtin.firstCells]) hne hf.symm
     .rename_i sz es;obtain⟨base,c,us,hx',c1,c2,c3,c4,c5,c6,c7⟩:=Ln (P:=P) s hx (es:=es) rfl hsz;cases hx with
      | sl _ _ _ _ B o c' _ _ vs h0 hxx=>
       simp only[Value.slice.injEq]at hx';obtain⟨rfl,_,rfl⟩:=hx';have hcl:=hxx rfl;simp only[F6,AN]at hn hf;exact newrow _ es.length c' es us rfl (by simp only[D8];omega) rfl hn c2 c4 c5 (fun w' hw=>c7 w' hw _ _) hne hf.symm
     .rename_i id gen sz off len ex;split at hf
      .rename_i sz' lk es hk;split at hf
       .cases hf
       .rename_i hg;simp only[CC,BM,Bl]at hsz;subst hsz;have hg':=hg;simp only[BU,Bl,Gb]at hg;obtain⟨⟨hgen,rfl⟩,hle⟩:=hg;obtain⟨base,c,us,hx',c1,c2,c3,c4,c5,c6,c7⟩:=Ln (P:=P) s hx (es:=(es.drop off).take len) (by simp only[A7,hk,hg']) (sz:=siz M.ty e) (by simp[CC,BM,Bl]);have hlen:((es.drop off).take len).length=len:=(by simp;omega);simp only[F6,AN]at hn;cases hx with
        | hs _ _ _ _ _ _ B c0 o c' hpl h0 hc ho=>
         rw[hlen]at hx' c7;simp only[Value.slice.injEq]at hx';obtain⟨rfl,_,rfl⟩:=hx';split at hf
         .simp only[if_true]at hc;simp only[AN]at hf;exact newrow _ len c' _ us rfl (by simp only[D8];omega) hlen hn c2 c4 c5 (fun w' hw=>c7 w' hw _ _) hne hf.symm
         .simp only[ES,if_false]at hc;have hoff:len≠0->o=off * siz M.ty e:=fun hl0=>ho (by omega)
          have hsl:Value.slice (some ⟨B,o,none⟩) len c'=.slice (some ⟨B,o,none⟩) len c':=rfl;obtain⟨B',c1',vs,T,fz,q1,q2,q3,q4,q5,q6,q7,q8,q9,q10⟩:=s.blk id _ hk;rw[hgen,hpl]at q1;simp only[AN,Bk]at q1;obtain⟨rfl,rfl⟩:=q1;have room:∀ lkp:(lk=true->off+len=es.length),len+(x0::xr).length<=c'->∃ g' w',(Builtin.append_ ts ty #[.slice (some ⟨B,o,none⟩) len c',y]).run P w=.ok (.slice (some ⟨B,o,none⟩) (len+(x0::xr).length) c') w'/\Le g g' /\
           Sim g' (h.set id (.arr (siz M.ty e) lk (es.take (off+len)++(x0::xr)++es.drop (off+len+(x0::xr).length)))) fr w'/\g'.pl id (es.take (off+len)++(x0::xr)++es.drop (off+len+(x0::xr).length)).length=some (B,c0):=by
           intro hlk hroom;have hoo:o=off * siz M.ty e:=ho (by simp only[D8]at hroom;omega);obtain⟨g',w',k1,k2,k3,k4⟩:=Yt (P:=P) s hk (by rw[hgen];exact hpl) hle hlk (by omega) al ar a1;have hr:=L7 (ty:=ty) (base:=some ⟨B,o,none⟩) (sLen:=len) htP i1 i4 hts ad hroom hzs hpi;refine⟨g',w',?_,k2,k3,k4⟩;rw[hr];simp only[i2,add_plain,hoo,<- KO,k1,Result.andThen_ok]
          split at hf
          .rename_i hov;simp only[BU,Bl,L3,IA,FQ]at hov;obtain⟨rfl,hov⟩:=hov;simp only[AN,Bk]at hf;obtain⟨rfl,rfl⟩:=hf;have hdrop:es.drop (0+len+(x0::xr).length)=[]:=by
            apply KI;rcases hov with h | h <;> omega
           have htl:(es.take len++(x0::xr)).length=len+(x0::xr).length:=(by simp only[FZ,GR];omega);by_cases hroom:len+(x0::xr).length<=c'
           .obtain⟨g',w',k1,k2,k3,k4⟩:=room (fun hl=>hov.elim (fun h=>by omega) (fun h=>by simp[hl]at h)) hroom;rw[hdrop,IX,D1]at k3 k4;rw[htl]at k4;refine⟨_,w',g',.inl (by rw[Sem.run_bind,k1];rfl),k2,k3,.hs _ _ _ _ _ _ B c0 o c' k4 (by omega) (by simpa using hc) (fun hc0=>ho hc0)⟩
           .have htk:(es.drop 0).take len=es.take len:=(by simp);rw[htk]at c2 c4 hlen;obtain⟨cap,e1,e2,e3,e4,e5⟩:=fresh _ len c' (es.take len) us rfl (by omega) hlen hn c2 c4 c5 (fun w' hw=>c7 w' hw _ _) hne;obtain⟨g',k1,k2,k3⟩:=moves (s.drew (w.drawn+1)) hk (es':=es.take len++(x0::xr)) (by rw[htl];exact hov.elim (fun h=>by simp only[D8];omega) (fun h=>h.2)) e (c2.append al) e3 (by omega) e4 e5;rw[htl]at k3;refine⟨_,_,g',.inl (by rw[Sem.run_bind,e2];rfl),k1,k2,?_⟩;rw[htl];exact .hs _ _ _ _ _ _ w.heap.size cap 0 cap k3 (by omega) (by simp) (by simp)
          .split at hf
           .rename_i hov;simp only[BU,IA,Gb]at hov;obtain⟨rfl,hov⟩:=hov;simp only[AN,Bk]at hf;obtain⟨rfl,rfl⟩:=hf;obtain⟨g',w',k1,k2,k3,k4⟩:=room (fun hl=>by cases hl) (by omega);have hl2:(es.take (off+len)++(x0::xr)++es.drop (off+len+(x0::xr).length)).length=gen:=by
             simp only[FZ,GR,List.length_drop];omega
            rw[hl2]at k4;exact⟨_,w',g',.inl (by rw[Sem.run_bind,k1];rfl),k2,k3,.hs _ _ _ _ _ _ B c0 o c' k4 (by omega) (by simpa using hc) (fun hc0=>ho hc0)⟩
           .cases hf
      .cases hf
     .cases hf
  .cases hf
 .cases hf
include F in
theorem My{g:G}{h h':AF}{fr:Fr}{w:World}(s:Sim g h fr w){t:TypeId}{a b v:AV}{x y:Value}(hx:Rel g true a x)(hy:Rel g true b y)(hf:Iq M.ty t a b h=some (v,h')) :
 G5 P (do pure (.value (<- Instr.makeSlice t x y))) g h' fr w v:=by
 unfold Iq at hf;split at hf
 .rename_i e l c ht hl hc;obtain⟨k1,rfl,rfl⟩:=Er hx hl;obtain⟨k2,rfl,rfl⟩:=Er hy hc;split at hf
  .rename_i z hcond hz;simp only[BU,decide_eq_true_eq,FQ]at hcond;obtain⟨⟨h0,rfl,h1,h2⟩,hp⟩:=hcond;split at hf
   .rename_i hzl;have hzl:=Bl.1 hzl;simp only[A3,AN,Bk]at hf;obtain⟨rfl,rfl⟩:=hf;obtain⟨info,zv,i1,i2,i3,i4,i5,i6⟩:=ON F hz;obtain⟨r1,r2⟩:=i6 g true;have hr:=run_make (P:=P) w t e info zv (JU F ht) i1 i4 k1 k2 l l h0 (Int.le_refl _) (by rw[i3];omega) (by omega);have hpz:0<z.length:=(by omega);have hcells:madeCells zv.cells (l.toNat * info.size)=(Array.range (l.toNat * z.length)).map fun j=>zv.cells[j % zv.cells.size]! := by rw[i2,<- i5];rfl
    have hlens:E3 (siz M.ty e) (List.replicate l.toNat z):=E3.replicate hzl;obtain⟨g',q1,q2,q3⟩:=Jx s e (c:=l.toNat) (vs:=madeCells zv.cells (l.toNat * info.size)) hlens (by rw[size_madeCells,i2]) (by simp) (fun i e he k x v hx hv=>JT hlens (by rw[hcells];exact Lm r1 hpz _) he hx hv)
     (by rw[hcells];exact Jy r1.1 r2 hpz _) (0,0) (fun o _ hh=>by simp at hh)
    refine⟨_,_,g',.inl (by rw[Sem.run_bind,hr];rfl),q1,q2,?_⟩;simpa using q3
   .cases hf
  .cases hf
 .cases hf
end
end Go.Am
