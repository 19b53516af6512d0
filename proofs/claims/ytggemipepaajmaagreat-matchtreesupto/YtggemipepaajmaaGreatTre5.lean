/- Part 5. -/
import Derived.Test.YtggemipepaajmaaGreatTre4
import Derived.Laws.Strings
set_option linter.all false
namespace Go.Am
open Go
theorem JD(k:IntKind)(n:Int):wr k n=k.wrap n:=by
 have key:∀(m h:Int) (s:Bool),(s=true->2 * h=m)->(s=false->h=m)->0<m->(if 0<=n/\n<h then n else if n % m<h then n % m else n % m - m)=(if(s&&decide (n % m ≥ h))=true then n % m - m else n % m):=by
  intro m h s h1 h2 hm;have h3:=Int.emod_nonneg n (show m≠0 by omega);have h4:=Int.emod_lt_of_pos n hm;cases s with
  | true=>
   have:=h1 rfl;by_cases ha:0<=n/\n<h
   .rw[if_pos ha,Int.emod_eq_of_lt ha.1 (by omega),if_neg (by simp;omega)]
   .rw[if_neg ha];by_cases hb:n % m<h
    .rw[if_pos hb,if_neg (by simp;omega)]
    .rw[if_neg hb,if_pos (by simp;omega)]
  | false=>
   have:=h2 rfl;by_cases ha:0<=n/\n<h
   .rw[if_pos ha,Int.emod_eq_of_lt ha.1 (by omega)];simp
   .rw[if_neg ha,if_pos (by omega)];simp
 have e:wr k n=if 0<=n/\n<Ia k then n else if n % Kx k<Ia k then n % Kx k else n % Kx k - Kx k:=by
  unfold wr;by_cases h:0<=n/\n<Ia k
  .simp[h]
  .simp only[h,decide_false,if_false];by_cases h':n % Kx k<Ia k
   .simp[h']
   .simp[h']
 rw[e,key (Kx k) (Ia k) k.signed (by cases k <;> simp[Kx,Ia,IntKind.signed]) (by cases k <;> simp[Kx,Ia,IntKind.signed]) (by cases k <;> simp[Kx])];cases k <;> simp[IntKind.wrap,IntKind.bits,IntKind.signed,Kx,Ia]
theorem GL{P:Program}(op:BinOp)(t:TypeId)(x y:Operand)(a b:Value)(w:World)(h1:a=.nilIface->b≠.nilIface)(h2:∀ cs ds,a=.agg cs->b≠.agg ds) :
 (eqGuard op t x y a b).run P w=.ok () w:=by
 cases op
 case eql => 
  simp only[eqGuard];cases a <;> first
   | rfl
   | (cases b <;> first | rfl | exact absurd rfl (h1 rfl) | exact absurd rfl (h2 _ _ rfl))
 case neq => 
  simp only[eqGuard];cases a <;> first
   | rfl
   | (cases b <;> first | rfl | exact absurd rfl (h1 rfl) | exact absurd rfl (h2 _ _ rfl))
 all_goals rfl
section
variable{M:Par}{P:Program}
theorem Vo{k:IntKind}{a b:Int}{op:BinOp}{v:AV}(h:Dy op k a b=some v)(t:TypeId)(w:World) :
 ∃ y,(binOp op t (.int k a) (.int k b)).run P w=.ok y w/\∀ g,Rel g true v y:=by
 cases op <;> simp only[Dy,AN,reduceCtorEq]at h
 case quo=>
  split at h
  .cases h
  .rename_i hd;simp only[decide_eq_false_iff_not]at hd;simp only[AN]at h;subst h;exact⟨.int k (k.wrap (a.tdiv b)),by simp[binOp,Op.intDiv,hd],fun g=>by rw[JD];exact .int _ _ _⟩
 case rem=>
  split at h
  .cases h
  .rename_i hd;simp only[decide_eq_false_iff_not]at hd;simp only[AN]at h;subst h;exact⟨.int k (a.tmod b),by simp[binOp,Op.intDiv,hd],fun g=> .int _ _ _⟩
 case add=>subst h;exact⟨.int k (k.wrap (a+b)),by simp[binOp,Op.intArith],fun g=>by rw[JD];exact .int _ _ _⟩
 case sub=>subst h;exact⟨.int k (k.wrap (a - b)),by simp[binOp,Op.intArith],fun g=>by rw[JD];exact .int _ _ _⟩
 case mul=>subst h;exact⟨.int k (k.wrap (a * b)),by simp[binOp,Op.intArith],fun g=>by rw[JD];exact .int _ _ _⟩
 case and=>subst h;exact⟨.int k (k.wrap ((BitVec.ofInt k.bits a) &&& (BitVec.ofInt k.bits b)).toNat),by simp[binOp,Op.intBits],fun g=>by rw[JD];exact .int _ _ _⟩
 case or=>subst h;exact⟨.int k (k.wrap ((BitVec.ofInt k.bits a) ||| (BitVec.ofInt k.bits b)).toNat),by simp[binOp,Op.intBits],fun g=>by rw[JD];exact .int _ _ _⟩
 case xor=>subst h;exact⟨.int k (k.wrap ((BitVec.ofInt k.bits a) ^^^ (BitVec.ofInt k.bits b)).toNat),by simp[binOp,Op.intBits],fun g=>by rw[JD];exact .int _ _ _⟩
 case andNot=>subst h;exact⟨.int k (k.wrap ((BitVec.ofInt k.bits a) &&& ~~~(BitVec.ofInt k.bits b)).toNat),by simp[binOp,Op.intBits],fun g=>by rw[JD];exact .int _ _ _⟩
 case eql=>subst h;exact⟨.bool (a == b),by simp[binOp,Op.intCmp],fun g=> .bool _ _⟩
 case neq=>subst h;exact⟨.bool (a != b),by simp[binOp,Op.intCmp],fun g=> .bool _ _⟩
 case lss=>subst h;exact⟨.bool (decide (a<b)),by simp[binOp,Op.intCmp],fun g=> .bool _ _⟩
 case leq=>subst h;exact⟨.bool (decide (a<=b)),by simp[binOp,Op.intCmp],fun g=> .bool _ _⟩
 case gtr=>subst h;exact⟨.bool (decide (a > b)),by simp[binOp,Op.intCmp],fun g=> .bool _ _⟩
 case geq=>subst h;exact⟨.bool (decide (a ≥ b)),by simp[binOp,Op.intCmp],fun g=> .bool _ _⟩
theorem Mt{k j:IntKind}{a b:Int}{op:BinOp}{v:AV}(h:Hl op k a b=some v)(w:World) :
 ∃ y,(Op.shift op k a j b).run P w=.ok y w/\∀ g,Rel g true v y:=by
 unfold Hl at h;split at h
 .cases h
 .rename_i hd;simp only[decide_eq_false_iff_not]at hd;split at h
  .simp only[AN]at h;subst h;exact⟨.int k (k.wrap (a * 2 ^ (min b.toNat k.bits))),by simp only[Op.shift,hd,if_false,Sem.run_pure],fun g=>by rw[JD];simp only[Int.natCast_pow];exact .int _ _ _⟩
  .simp only[AN]at h;subst h;exact⟨.int k (a.fdiv (2 ^ (min b.toNat k.bits))),by simp only[Op.shift,hd,if_false,Sem.run_pure],fun g=>by simp only[Int.natCast_pow];exact .int _ _ _⟩
  .cases h
theorem Hc(s:List UInt8):(⟨s.toArray⟩:ByteArray).toList=s:=by
 rw[ByteArray.toList_eq]
theorem Vp{a b:List UInt8}{op:BinOp}{v:AV}(h:D3 op a b=some v)(w:World) :
 ∃ y,(Op.stringOp op ⟨a.toArray⟩ ⟨b.toArray⟩).run P w=.ok y w/\∀ g,Rel g true v y:=by
 cases op <;> simp only[D3,AN,reduceCtorEq]at h
 case add=>
  split at h
  .rename_i hl;have hl:=Gb.1 hl;simp only[AN]at h;subst h;refine⟨.string (⟨a.toArray⟩++⟨b.toArray⟩),?_,fun g => ?_⟩
   .have e1:(⟨a.toArray⟩:ByteArray).size=a.length:=(by simp[ByteArray.size]);have e2:(⟨b.toArray⟩:ByteArray).size=b.length:=(by simp[ByteArray.size]);have e3:IntKind.i64.max=9223372036854775807:=(by decide);simp only[Op.stringOp,e1,e2,e3];rw[if_neg (by omega)];rfl
   .have:(⟨a.toArray⟩++⟨b.toArray⟩:ByteArray)=⟨(a++b).toArray⟩:=by
     apply ByteArray.ext;simp
    rw[this];exact .str _ _
  .cases h
 case eql=>subst h;exact⟨.bool (a == b),by simp only[Op.stringOp,Hc,Sem.run_pure],fun g=> .bool _ _⟩
 case neq=>subst h;exact⟨.bool !(a == b),by simp only[Op.stringOp,Hc,Sem.run_pure],fun g=> .bool _ _⟩
 case lss=>subst h;exact⟨.bool (Op.bytesLess a b),by simp only[Op.stringOp,Hc,Sem.run_pure],fun g=> .bool _ _⟩
 case leq=>subst h;exact⟨.bool (Op.bytesLess a b||a == b),by simp only[Op.stringOp,Hc,Sem.run_pure],fun g=> .bool _ _⟩
 case gtr=>subst h;exact⟨.bool !(Op.bytesLess a b||a == b),by simp only[Op.stringOp,Hc,Sem.run_pure],fun g=> .bool _ _⟩
 case geq=>subst h;exact⟨.bool !(Op.bytesLess a b),by simp only[Op.stringOp,Hc,Sem.run_pure],fun g=> .bool _ _⟩
end
section
variable{M:Par}{P:Program}(F:Fits M P)
include F in
theorem TB{g:G}{t:TypeId}{a b:AV}{r:Bool}{x y:Value}(hx:Rel g true a x)(hy:Rel g true b y)(h:eqA (und M.ty t) a b=some r)(w:World) :
 (Op.equal t x y).run P w=.ok r w/\(x=.nilIface->y≠.nilIface)/\(∀ cs ds,x=.agg cs->y≠.agg ds):=by
 have key:∀ d,(Op.equalIn (d+1) t x y).run P w=.ok r w/\(x=.nilIface->y≠.nilIface)/\(∀ cs ds,x=.agg cs->y≠.agg ds):=by
  intro d;unfold eqA at h;split at h <;> (try (cases h;done)) <;> (rename_i hu) <;> simp only[AN]at h <;> subst h <;> cases hx <;> cases hy <;>
   exact⟨by rw[Op.equalIn];simp only[Sem.run_bind,Ah F hu,Result.andThen_ok];rfl,by simp,by simp⟩
 exact key 9999
include F in
theorem Vq{g:G}{h:AF}{fr:Fr}{w:World}(s:Sim g h fr w){op:BinOp}{t:TypeId}{a b v:AV}{x y:Value}(xo yo:Operand)(hx:Rel g true a x)(hy:Rel g true b y)(hf:HR M.ty op t a b=some v) :
 G5 P (do pure (.value (<- (do eqGuard op t xo yo x y;binOp op t x y)))) g h fr w v:=by
 refine G5.of s ?_;unfold HR at hf;split at hf
 .cases hx;cases hy;obtain⟨z,h1,h2⟩:=Mt (P:=P) hf w;exact⟨z,by simp[GL,binOp];exact h1,h2 g⟩
 .cases hx;cases hy;obtain⟨z,h1,h2⟩:=Mt (P:=P) hf w;exact⟨z,by simp[GL,binOp];exact h1,h2 g⟩
 .cases hx;cases hy;split at hf
  .rename_i hk;simp only[decide_eq_true_eq]at hk;subst hk;obtain⟨z,h1,h2⟩:=Vo (P:=P) hf t w;exact⟨z,by simp[GL];exact h1,h2 g⟩
  .cases hf
 .cases hx;cases hy;obtain⟨z,h1,h2⟩:=Vp (P:=P) hf w;refine⟨z,?_,h2 g⟩;simp only[Sem.run_bind];rw[GL _ _ _ _ _ _ _ (by simp) (by simp)];simp only[Result.andThen_ok];cases op <;> first | exact h1 | (simp[D3]at hf)
 .rename_i hn1 hn2;cases he:eqA (und M.ty t) a b with
  | none=>simp[he]at hf
  | some r=>
   simp only[he,E0,AN]at hf;subst hf;obtain⟨h1,h2,h3⟩:=TB F hx hy he w;refine⟨.bool r,?_,.bool _ _⟩;simp only[Sem.run_bind];rw[GL _ _ _ _ _ _ _ h2 h3];simp only[Result.andThen_ok];have hb:binOp .eql t x y=(do pure (.bool (<- Op.equal t x y)):Sem Value):=by
    cases hx <;> cases hy <;> first | rfl | (simp[eqA]at he;done) | exact absurd rfl (hn2 _ _ _ _ rfl)
   rw[hb];simp[h1]
 .rename_i hn1 hn2;cases he:eqA (und M.ty t) a b with
  | none=>simp[he]at hf
  | some r=>
   simp only[he,E0,AN]at hf;subst hf;obtain⟨h1,h2,h3⟩:=TB F hx hy he w;refine⟨.bool !r,?_,.bool _ _⟩;simp only[Sem.run_bind];rw[GL _ _ _ _ _ _ _ h2 h3];simp only[Result.andThen_ok];have hb:binOp .neq t x y=(do pure (.bool (!(<- Op.equal t x y))):Sem Value):=by
    cases hx <;> cases hy <;> first | rfl | (simp[eqA]at he;done) | exact absurd rfl (hn2 _ _ _ _ rfl)
   rw[hb];simp[h1]
 .cases hf
include F in
theorem OK{g:G}{c:Bool}{t:TypeId}{a b:AV}{r:Bool}{x y:Value}(hx:Rel g c a x)(hy:Rel g c b y)(h:QB (und M.ty t) (some a) (some b)=some r)(d:Nat)(w:World):(Op.equalIn (d+1) t x y).run P w=.ok r w/\(isAgg t).run P w=.ok false w:=by
 unfold QB at h;split at h
 .rename_i hu e1 e2;cases e1;cases e2;cases hx;cases hy;split at h
  .rename_i hk;simp only[decide_eq_true_eq]at hk;subst hk;cases h;exact⟨by rw[Op.equalIn];simp[Sem.run_bind,Ah F hu],by simp[isAgg,Ah F hu]⟩
  .cases h
 .rename_i hu e1 e2;cases e1;cases e2;cases hx;cases hy;cases h;refine⟨?_,by simp[isAgg,Ah F hu]⟩;rw[Op.equalIn];simp[Sem.run_bind,Ah F hu];rename_i p q;show(p.toArray == q.toArray)=(p == q);simp
 .rename_i hu e1 e2;cases e1;cases e2;cases hx;cases hy;cases h;exact⟨by rw[Op.equalIn];simp[Sem.run_bind,Ah F hu],by simp[isAgg,Ah F hu]⟩
 .cases h
theorem Jw{t:TypeId}{cs:Array Value}{off:Nat}{v:Value}{w:World}(h:(isAgg t).run P w=.ok false w)(hv:cs[off]? = some v):(part t cs off).run P w=.ok v w:=by
 simp[part,h,hv]
theorem Mu{d:Option TypeDesc}{a b:Option AV}{r:Bool}(h:QB d a b=some r):∃ x y,a=some x/\b=some y:=by
 unfold QB at h;split at h
 .exact⟨_,_,rfl,rfl⟩
 .exact⟨_,_,rfl,rfl⟩
 .exact⟨_,_,rfl,rfl⟩
 .cases h
include F in
theorem QG{g:G}{xs ys:List AV}{us vs:Array Value}(hx:Rel g true (.agg xs) (.agg us))(hy:Rel g true (.agg ys) (.agg vs)){t:TypeId}{fs:Array Field}{r:Bool}(hu:und M.ty t=some (.struct fs))(hst:P.stoodInHeld t=false)(h:Vh M.ty xs ys fs.toList=some r)(w:World):(Op.equal t (.agg us) (.agg vs)).run P w=.ok r w:=by
 obtain⟨hs1,hs2⟩:Au g true xs us:=by cases hx with | agg _ _ _ s h1 h2=>exact⟨s,h2⟩
 obtain⟨ht1,ht2⟩:Au g true ys vs:=by cases hy with | agg _ _ _ s h1 h2=>exact⟨s,h2⟩
 have key:∀ d,(Op.equalIn (d+2) t (.agg us) (.agg vs)).run P w=.ok r w:=by
  intro d;rw[Op.equalIn];simp only[Sem.run_bind,Ah F hu,Result.andThen_ok];have loop:∀(l:List Field),Vh M.ty xs ys l=some r->Sem.run P (forIn l ((none:Option Bool),()) fun f __s=>
    if f.name = "_" then pure (ForInStep.yield (none,()))
    else do
     let __do_lift <- part f.type us f.offset;let __do_lift_1 <- part f.type vs f.offset;let __do_lift <- Op.equalIn (d+1) f.type __do_lift __do_lift_1
     if __do_lift=false then pure (ForInStep.done (some false,()))else pure (ForInStep.yield (none,()))) w=.ok (if r then(none,())else(some false,())) w:=by
   intro l;induction l with
   | nil=>
    intro h;cases h;rfl
   | cons f l ih=>
    intro h;rw[Vh]at h;split at h
    .cases h
    .rename_i hnm;have hnm':¬ f.name = "_" := by simpa using hnm
     rw[List.forIn_cons,if_neg hnm'];split at h
     .rename_i he;obtain⟨a,b,ha,hb⟩:=Mu he;have hua:us[f.offset]? = some (us[f.offset]'(by rw[hs1];exact(Ae.1 ha).1)):=E6 _;have hvb:vs[f.offset]? = some (vs[f.offset]'(by rw[ht1];exact(Ae.1 hb).1)):=E6 _;rw[ha,hb]at he;obtain⟨e1,e2⟩:=OK F (hs2 _ _ _ ha hua) (ht2 _ _ _ hb hvb) he d w;simp only[Sem.run_bind,Jw e2 hua,Jw e2 hvb,Result.andThen_ok,e1];exact ih h
     .rename_i he;cases h;obtain⟨a,b,ha,hb⟩:=Mu he;have hua:us[f.offset]? = some (us[f.offset]'(by rw[hs1];exact(Ae.1 ha).1)):=E6 _;have hvb:vs[f.offset]? = some (vs[f.offset]'(by rw[ht1];exact(Ae.1 hb).1)):=E6 _;rw[ha,hb]at he;obtain⟨e1,e2⟩:=OK F (hs2 _ _ _ ha hua) (ht2 _ _ _ hb hvb) he d w;simp only[Sem.run_bind,Jw e2 hua,Jw e2 hvb,Result.andThen_ok,e1];rfl
     .cases h
  have hl:=loop fs.toList h;rw[Array.forIn_toList]at hl;simp[hst,hl];cases r <;> rfl
 exact key 9998
include F in
theorem UQ{g:G}{h:AF}{fr:Fr}{w:World}(s:Sim g h fr w){op:BinOp}{t:TypeId}{a b v:AV}{x y:Value}(xo yo:Operand)(hx:Rel g true a x)(hy:Rel g true b y)(hf:binX M.ty M.eqs op t a b=some v) :
 G5 P (do pure (.value (<- (do eqGuard op t xo yo x y;binOp op t x y)))) g h fr w v:=by
 unfold binX at hf;split at hf
 .rename_i v' hv;cases hf;exact Vq F s xo yo hx hy hv
 .split at hf
  .cases he:eqS M.ty M.eqs t a b with
   | none=>rw[he]at hf;cases hf
   | some r=>
    rw[he]at hf;cases hf;refine G5.of s ?_;unfold eqS at he;split at he
    .rename_i hE hu _;obtain⟨q1,q2⟩:=F.eqs t hE;cases hx with
     | agg _ _ us s1 s2 s3=>
      cases hy with
      | agg _ _ vs r1 r2 r3=>
       have hrun:=QG F (.agg _ _ us s1 s2 s3) (.agg _ _ vs r1 r2 r3) hu q1 he w;refine⟨.bool r,?_,.bool _ _⟩;have hb:binOp .eql t (.agg us) (.agg vs)=(do pure (.bool (<- Op.equal t (.agg us) (.agg vs))):Sem Value):=rfl;rw[hb];simp[eqGuard,q2,hrun]
    .cases he
  .cases he:eqS M.ty M.eqs t a b with
   | none=>rw[he]at hf;cases hf
   | some r=>
    rw[he]at hf;cases hf;refine G5.of s ?_;unfold eqS at he;split at he
    .rename_i hE hu _;obtain⟨q1,q2⟩:=F.eqs t hE;cases hx with
     | agg _ _ us s1 s2 s3=>
      cases hy with
      | agg _ _ vs r1 r2 r3=>
       have hrun:=QG F (.agg _ _ us s1 s2 s3) (.agg _ _ vs r1 r2 r3) hu q1 he w;refine⟨.bool !r,?_,.bool _ _⟩;have hb:binOp .neq t (.agg us) (.agg vs)=(do pure (.bool (!(<- Op.equal t (.agg us) (.agg vs)))):Sem Value):=rfl;rw[hb];simp[eqGuard,q2,hrun]
    .cases he
  .cases hf
theorem Ys{g:G}{a v:AV}{x:Value}{op:UnOp}(hx:Rel g true a x)(hf:unA op a=some v)(w:World) :
 ∃ y,(Op.unary op x).run P w=.ok y w/\Rel g true v y:=by
 unfold unA at hf;split at hf
 .cases hx;simp only[AN]at hf;subst hf;exact⟨.bool _,by simp[Op.unary],.bool _ _⟩
 .cases hx;simp only[AN]at hf;subst hf;rename_i k n;exact⟨.int k (k.wrap (0 - n)),by simp[Op.unary,Op.intArith],by rw[JD];exact .int _ _ _⟩
 .cases hx;rename_i k n;simp only[Dy,AN]at hf;subst hf;exact⟨.int k (k.wrap (BitVec.ofInt k.bits (if k.signed then -1 else k.max) ^^^ BitVec.ofInt k.bits n).toNat),by simp[Op.unary,Op.intBits],by rw[JD];exact .int _ _ _⟩
 .cases hf
theorem KY{old new:List AV}{off:Nat}(h:off+new.length<=old.length)(i:Nat) :
 (Ay old off new)[i]? = if off<=i/\i<off+new.length then new[i - off]? else old[i]? := by
 unfold Ay;by_cases h1:i<off
 .rw[if_neg (by omega),EM,BA (by simp;omega),Kp h1]
 .by_cases h2:i<off+new.length
  .rw[if_pos ⟨by omega,h2⟩,BA (by simp;omega),EL (by simp;omega)]
   congr 1
   simp;omega
  .rw[if_neg (by omega),EL (by simp;omega),H9]
   congr 1
   simp;omega
theorem Hn{old new:List AV}{off:Nat}(h:off+new.length<=old.length):(Ay old off new).length=old.length:=by
 unfold Ay;simp;omega
theorem QH(off:Nat):∀(l:List Value) (k:Nat) (us:Array Value),
 ((l.zipIdx k).foldl (fun cs (x:Value×Nat)=>cs.setIfInBounds (off+x.2) x.1) us).size=us.size /\
 ∀ i,((l.zipIdx k).foldl (fun cs (x:Value×Nat)=>cs.setIfInBounds (off+x.2) x.1) us)[i]? = if off+k<=i/\i<off+k+l.length/\i<us.size then l[i - (off+k)]? else us[i]?
 | [],k,us=>⟨rfl,fun i=>by rw[if_neg (by simp;omega)];rfl⟩
 | v::l,k,us=>by
  obtain⟨h1,h2⟩:=QH off l (k+1) (us.setIfInBounds (off+k) v);simp only[List.zipIdx_cons,Mm];refine⟨by rw[h1];simp,fun i => ?_⟩;rw[h2 i,Array.size_setIfInBounds];by_cases ha:i=off+k
  .subst ha;rw[if_neg (by omega)];by_cases hb:off+k<us.size
   .rw[if_pos ⟨by omega,by simp,hb⟩,OB];simp[hb]
   .rw[if_neg (by omega),OB];simp[hb]
  .by_cases hb:off+(k+1)<=i/\i<off+(k+1)+l.length/\i<us.size
   .rw[if_pos hb,if_pos ⟨by omega,by simp;omega,hb.2.2⟩];rw[show i - (off+k)=(i - (off+(k+1)))+1 by omega];rfl
   .rw[if_neg hb,if_neg (by simp only[D8];omega),OA (Ne.symm ha)]
theorem Vr(off:Nat)(vs us:Array Value):vs.zipIdx.foldl (fun cs (c,j)=>cs.setIfInBounds (off+j) c) us=(vs.toList.zipIdx 0).foldl (fun cs (x:Value×Nat)=>cs.setIfInBounds (off+x.2) x.1) us:=by
 rw[<- Array.foldl_toList,Array.toList_zipIdx]
theorem Mv{g:G}{b:Bool}{cs ds:List AV}{us vs:Array Value}(hu:Au g b cs us)(hv:Au g b ds vs){off:Nat}(hl:off+ds.length<=cs.length)
 (h1:∀(i:Nat) y,us[i]? = some y->one y=true) (h2:∀(i:Nat) y,vs[i]? = some y->one y=true) :
 Au g b (Ay cs off ds) (vs.zipIdx.foldl (fun cs (c,j)=>cs.setIfInBounds (off+j) c) us) /\
  (∀(i:Nat) y,(vs.zipIdx.foldl (fun cs (c,j)=>cs.setIfInBounds (off+j) c) us)[i]? = some y->one y=true):=by
 rw[Vr];obtain⟨h3,h4⟩:=QH off vs.toList 0 us;simp only[IZ,KJ]at h4;have hs:=hu.1;have hs':=hv.1;refine⟨⟨by rw[h3,Hn hl,hs],fun i c v hc hv' => ?_⟩,fun i y hy => ?_⟩
 .rw[KY hl]at hc;rw[h4 i]at hv';by_cases hi:off<=i/\i<off+ds.length
  .rw[if_pos hi]at hc;rw[if_pos ⟨hi.1,by omega,by omega⟩]at hv';exact hv.2 _ c v hc (by simpa using hv')
  .rw[if_neg hi]at hc;rw[if_neg (by omega)]at hv';exact hu.2 _ c v hc hv'
 .rw[h4 i]at hy;split at hy
  .exact h2 _ y (by simpa using hy)
  .exact h1 _ y hy
def Ro(g:G)(b:Bool)(ps:List (Nat×AV))(qs:List (Nat×Value)):Prop:=ps.length=qs.length/\∀(i:Nat) p q,ps[i]? = some p->qs[i]? = some q->p.1=q.1/\Rel g b p.2 q.2
theorem Mw{g:G}{b:Bool}(place:Nat->Option (Nat×Nat)):∀{ps:List (Nat×AV)} {qs:List (Nat×Value)} {cs cs':List AV} {us:Array Value},Ro g b ps qs->Au g b cs us ->
 (∀(i:Nat) y,us[i]? = some y->one y=true)->JN place cs ps=some cs' ->
 ∃ us',Instr.fill place us qs=some us'/\Au g b cs' us'/\(∀(i:Nat) y,us'[i]? = some y->one y=true)/\cs'.length=cs.length
 | [],[],cs,cs',us,_,hu,h1,hf=>by
  simp only[JN,AN]at hf;subst hf;exact⟨us,rfl,hu,h1,rfl⟩
 | [],q::qs,_,_,_,hp,_,_,_=>by have:=hp.1;simp at this
 | p::ps,[],_,_,_,hp,_,_,_=>by have:=hp.1;simp at this
 | (i,v)::ps,(j,x)::qs,cs,cs',us,hp,hu,h1,hf=>by
  obtain⟨hij,hvx⟩:=hp.2 0 _ _ rfl rfl;simp only at hij hvx;subst hij;have hp':Ro g b ps qs:=⟨by have:=hp.1;simpa using this,fun i p q hpp hqq=>hp.2 (i+1) p q (by simpa using hpp) (by simpa using hqq)⟩;simp only[JN]at hf;split at hf
  .rename_i off size ds hpl hds;split at hf
   .rename_i hc;simp only[BU,Bl,Gb]at hc;obtain⟨hsz,hle⟩:=hc;obtain⟨hv,h2⟩:=Ha hvx hds;obtain⟨h3,h4⟩:=Mv hu hv hle h1 h2;obtain⟨us',h5,h6,h7,h8⟩:=Mw place hp' h3 h4 hf;have e1:=hv.1;have e2:=hu.1;refine⟨us',?_,h6,h7,by rw[h8,Hn hle]⟩;simp only[Instr.fill,hpl];rw[if_neg (by simp;omega)];exact h5
   .cases hf
  .cases hf
include F in
theorem Rp{fs:List Field}(h:∀ f∈fs,∃ i,M.ty f.type=some i)(w:World) :
 (fs.mapM fun f=>Prod.mk f.offset <$> sizeOf f.type).run P w=.ok (fs.map fun f=>(f.offset,siz M.ty f.type)) w:=by
 induction fs with
 | nil=>simp
 | cons f r ih=>
  simp[List.mapM_cons,S9 F (h f (by simp)),ih (fun g hg=>h g (by simp[hg]))]
include F in
theorem Rq{g:G}{t:TypeId}{ps:List (Nat×AV)}{qs:Array (Nat×Value)}{v:AV}(hp:Ro g true ps qs.toList)(hf:CW M.ty t ps=some v)(w:World) :
 ∃ y,(Instr.build t qs).run P w=.ok y w/\Rel g true v y:=by
 unfold CW at hf;split at hf
 .rename_i zero fs hz hu;obtain⟨i,zv,hi,hl,hzr,hrel⟩:=K1 F hz w;obtain⟨h1,h2⟩:=hrel g true;obtain⟨i',hi',hd⟩:=JQ hu;cases hfl:JN (fun i=>(fs[i]?).map fun f=>(f.offset,siz M.ty f.type)) zero ps with
  | none=>simp[hfl]at hf
  | some cs'=>
   simp only[hfl,E0,AN]at hf;subst hf;obtain⟨us',h3,h4,h5,h6⟩:=Mw _ hp h1 h2 hfl;refine⟨.agg us',?_,.agg true _ _ h4.1 h5 h4.2⟩;have hpl:=Rp F (fs:=fs.toList) (fun f hf=>F.fld t i' fs hi' hd f (by simpa using hf)) w;simp only[Instr.build,Sem.run_bind,hzr,Result.andThen_ok,Ah F hu,Array.mapM_eq_mapM_toList];simp[hpl];rw[h3];rfl
 .rename_i zero n e hz hu;obtain⟨i,zv,hi,hl,hzr,hrel⟩:=K1 F hz w;obtain⟨h1,h2⟩:=hrel g true;obtain⟨i',hi',hd⟩:=JQ hu;cases hfl:JN (fun i=>some (i * siz M.ty e,siz M.ty e)) zero ps with
  | none=>simp[hfl]at hf
  | some cs'=>
   simp only[hfl,E0,AN]at hf;subst hf;obtain⟨us',h3,h4,h5,h6⟩:=Mw _ hp h1 h2 hfl;refine⟨.agg us',?_,.agg true _ _ h4.1 h5 h4.2⟩;simp only[Instr.build,Sem.run_bind,hzr,Result.andThen_ok,Ah F hu,S9 F (F.elm t i' n e hi' hd),h3,Sem.run_pure]
 .cases hf
end
section
variable{M:Par}{P:Program}(F:Fits M P)
theorem OL{g:G}{h:AF}{fr:Fr}{w:World}(s:Sim g h fr w)(T:TypeId){cs:List AV}{vs:Array Value}(hr:Au g true cs vs)(h1:∀(i:Nat) y,vs[i]? = some y->one y=true) :
 ∃ g',Le g g'/\Sim g' (h++[.var false cs]) fr { w with heap:=w.heap.push (.cells vs T (0,0)) }/\Rel g' true (.hp h.length 0) (.pointer (some ⟨w.heap.size,0,none⟩)):=by
 obtain⟨g',h2,h3,h4⟩:=s.alloc (.cells vs T (0,0)) (.var false cs) 0 0 (fun g' hg hmu hn hp hq=>
  ⟨w.heap.size,0,vs,T,hp,K0,hr.mono hg,h1,fun _ o=>by rw[hmu];exact hn o,fun gen hgen=>hq gen (by omega)⟩)
 exact⟨g',h2,h3,.hp _ _ _ 0 h4⟩
theorem Vs{g:G}{h:AF}{fr:Fr}{w:World}(s:Sim g h fr w)(T:TypeId){a:AV}{x:Value}{cs:List AV}(hx:Rel g true a x)(hc:a.cells=some cs) :
 G5 P (do pure (.value (<- Instr.box T x))) g (h++[.var false cs]) fr w (.hp h.length 0):=by
 obtain⟨h1,h2⟩:=Ha hx hc;obtain⟨g',h3,h4,h5⟩:=OL s T h1 h2;exact⟨_,_,g',.inl (by simp[Instr.box,newVar,newRow]),h3,h4,h5⟩
include F in
theorem Rr{g:G}{h:AF}{fr:Fr}{w:World}(s:Sim g h fr w){T:TypeId}{cs:List AV}(hz:Ei M.ty T=some cs) :
 G5 P (do pure (.value (<- Instr.alloc T true (.tuple #[])))) g (h++[.var false cs]) fr w (.hp h.length 0):=by
 obtain⟨i,zv,hi,hl,hzr,hrel⟩:=K1 F hz w;obtain⟨h1,h2⟩:=hrel g true;obtain⟨g',h3,h4,h5⟩:=OL s T h1 h2;exact⟨_,_,g',.inl (by simp[Instr.alloc,newVar,newRow,hzr]),h3,h4,h5⟩
theorem PT{g:G}{h:AF}{fr:Fr}{w:World}(s:Sim g h fr w)(T:TypeId):G5 P (do pure (.value (<- Instr.makeMap T none))) g (h++[.mp []]) fr w (.hm h.length):=by
 obtain⟨g',h2,h3,h4⟩:=s.alloc (.map #[] 0) (.mp []) 0 0 (fun g' hg hmu hn hp hq=>
  ⟨w.heap.size,0,#[],0,hp,K0,rfl,fun i p m hp=>by simp at hp,fun gen hgen=>hq gen (by omega)⟩)
 exact⟨.map (some w.heap.size),_,g',.inl (by simp[Instr.makeMap]),h2,h3,.hm _ _ 0 h4⟩
theorem GW{w:World}{B o:Nat}{T:TypeId}{fr:Nat×Nat}:∀(vs:List Value) (i:Nat) (w:World) (cs:Array Value),w.heap[B]? = some (.cells cs T fr)->(∀ v∈vs,one v=true) ->
 o+i+vs.length<=cs.size->noneFrozen cs.size fr ->
 ∃ w' cs',(storeCells ⟨B,o,none⟩ vs i).run P w=.ok () w'/\w'.heap[B]? = some (.cells cs' T fr)/\cs'.size=cs.size/\(∀ j,cs'[j]? = if o+i<=j/\j<o+i+vs.length then vs[j - (o+i)]? else cs[j]?) /\
  (∀ b,b≠B->w'.heap[b]? = w.heap[b]?)/\w'.heap.size=w.heap.size/\w'.os=w.os/\w'.tape=w.tape/\w'.output=w.output
 | [],i,w,cs,hb,_,_,_=>⟨w,cs,rfl,hb,rfl,fun j=>by rw[if_neg (by simp)],fun _ _=>rfl,rfl,rfl,rfl,rfl⟩
 | v::vs,i,w,cs,hb,h1,hl,hf=>by
  simp only[D8]at hl;have hlt:o+i<cs.size:=by omega
  have hc:w.cell? ⟨B,o+i,none⟩=some cs[o+i]:=by rw[cell_of hb];exact E6 hlt
  have hfz:w.frozen? ⟨B,o+i,none⟩=false:=by
   unfold World.frozen?;simp only[hb];have:=hf (o+i) hlt;by_cases ha:fr.1<=o+i
   .simp[ha];omega
   .simp[ha]
  have hrun:(store (⟨B,o+i,none⟩:Addr) v).run P w=.ok () (w.setCell ⟨B,o+i,none⟩ v):=by
   rw[run_store _ _ _ _ _ (by rw[<- c8];exact h1 v (by simp)),hc];simp[hfz]
  have hb':(w.setCell ⟨B,o+i,none⟩ v).heap[B]? = some (.cells (cs.setIfInBounds (o+i) v) T fr):=by
   simp[World.setCell,OD,hb]
  obtain⟨w',cs',k1,k2,k3,k4,k5,k6,k7,k8,k9⟩:=GW (w:=w) (o:=o) vs (i+1) _ _ hb' (fun u hu=>h1 u (by simp[hu])) (by simp;omega) (by simpa using hf);refine⟨w',cs',?_,k2,by rw[k3];simp,fun j => ?_,fun b hb => ?_,by rw[k6];simp[World.setCell],by rw[k7];rfl,by rw[k8];rfl,by rw[k9];rfl⟩
  .simp only[storeCells,add_plain,Sem.run_bind,hrun,Result.andThen_ok,k1]
  .rw[k4 j];by_cases ha:j=o+i
   .subst ha;rw[if_neg (by omega),if_pos ⟨by omega,by simp⟩,OB];simp[hlt]
   .rw[OA (Ne.symm ha)];by_cases hd:o+(i+1)<=j/\j<o+(i+1)+vs.length
    .rw[if_pos hd,if_pos ⟨by omega,by simp only[D8];omega⟩,show j - (o+i)=(j - (o+(i+1)))+1 by omega];rfl
    .rw[if_neg hd,if_neg (by simp only[D8];omega)]
  .rw[k5 b hb];simp[World.setCell,OD,Ne.symm hb]
include F in
theorem Rs{g:G}{h h':AF}{fr:Fr}{w:World}(s:Sim g h fr w){t:TypeId}{p v:AV}{x y:Value}(hp:Rel g true p x)(hv:Rel g true v y)(hs:Cb M.ty h t p v=some h') :
 G5 P (do Instr.storeAt t x y;pure .skip) g h' fr w (.tup []):=by
 have fin:∀ w',(Instr.storeAt t x y).run P w=.ok () w'->Sim g h' fr w'->G5 P (do Instr.storeAt t x y;pure .skip) g h' fr w (.tup []):=fun w' hr hs'=>
  ⟨undef,w',g,.inr ⟨by simp[hr],rfl⟩,Le.refl g,hs',.tup true [] #[] rfl (fun i c v h=>by simp at h)⟩
 unfold Cb at hs;split at hs
 .rename_i ti cs hti hcs;obtain⟨hvr,hv1⟩:=Ha hv hcs;split at hs
  .rename_i hlen;have hlen:=Bl.1 hlen;have hsz:y.cells.size=ti.size:=(by rw[hvr.1,hlen]);have hv1':∀ u∈y.cells.toList,one u=true:=fun u hu=>by
    obtain⟨i,hi⟩:=Mg.1 hu;exact hv1 i u (by simpa using hi)
   split at hs
   .rename_i id off;cases hp with
    | hp _ _ B c hpl=>
     split at hs
     .rename_i old hk;split at hs
      .rename_i hle;have hle:=Gb.1 hle;simp only[AN]at hs;subst hs;obtain⟨B',c',vs,T,h1,h2,h3,h4,h5,h6⟩:=s.blk id _ hk;rw[hpl]at h1;simp only[AN,Bk]at h1;obtain⟨rfl,rfl⟩:=h1;have hid:id<h.length:=(Ae.1 hk).1;obtain⟨w',cs',k1,k2,k3,k4,k5,k6,k7,k8,k9⟩:=GW (P:=P) (w:=w) (o:=off) y.cells.toList 0 w vs h2 hv1' (by rw[h3.1,KJ,hvr.1];omega) (fun o ho hh=>by simp at hh);simp only[IZ,KJ]at k4;refine fin w' ?_ (s.upd id _ hid g rfl (fun _ _ _=>rfl) (Le.refl g) (by omega) (fun b hb hne=>k5 b (fun e=>hne 0 c (by rw[e];exact hpl))) (fun b o u hm => ?_) (fun gen b c hp=> .inl ⟨gen,c,hp⟩)
        ⟨B,c,cs',T,hpl,k2,⟨by rw[k3,Hn hle,h3.1],fun i c v hc hv => ?_⟩,fun i v hv => ?_,h5,h6⟩ k7 k8 k9)
       .simp only[Instr.storeAt,Instr.sureAddr,Sem.run_bind,Sem.run_pure,Result.andThen_ok,storeVar,G4 F hti];rw[if_neg (by omega)];exact k1
       .have hbB:b≠B:=fun e=>by have:=h5 rfl o;rw[<- e,hm]at this;cases this
        have:=s.mem b o u hm;unfold World.cell? at this ⊢;rw[k5 b hbB];exact this
       .rw[KY hle]at hc;rw[k4 i]at hv;have e1:=hvr.1;by_cases hi:off<=i/\i<off+cs.length
        .rw[if_pos hi]at hc;rw[if_pos ⟨hi.1,by omega⟩]at hv;exact hvr.2 _ c v hc (by simpa using hv)
        .rw[if_neg hi]at hc;rw[if_neg (by omega)]at hv;exact h3.2 _ c v hc hv
       .rw[k4 i]at hv;split at hv
        .exact hv1 _ v (by simpa using hv)
        .exact h4 _ v hv
      .cases hs
     .cases hs
   .rename_i id gen sz i k;cases hp with
    | ep _ _ _ _ _ B c hpl=>
     split at hs
     .rename_i sz' es hk;split at hs
      .rename_i e hg he;simp only[BU,Bl]at hg;obtain⟨hgen,rfl⟩:=hg;split at hs
       .rename_i hle;have hle:=Gb.1 hle;simp only[AN]at hs;subst hs;obtain⟨B',c',vs,T,fr',h1,h2,h3,h4,h5,h6,h7,h8,h9,h10⟩:=s.blk id _ hk;rw[hgen,hpl]at h1;simp only[AN,Bk]at h1;obtain⟨rfl,rfl⟩:=h1;have hid:id<h.length:=(Ae.1 hk).1;have hie:=(Ae.1 he).1;have hel:=h6 i e he;have hmul:(i+1) * sz'<=c * sz':=GK _ (by omega);rw[Ge]at hmul;have e1:=hvr.1;obtain⟨w',cs',k1,k2,k3,k4,k5,k6,k7,k8,k9⟩:=GW (P:=P) (w:=w) (o:=i * sz'+k) y.cells.toList 0 w vs h2 hv1' (by rw[h3,KJ];omega) h5;simp only[IZ,KJ]at k4;refine fin w' ?_ (s.upd id _ hid g rfl (fun _ _ _=>rfl) (Le.refl g) (by omega) (fun b hb hne=>k5 b (fun e=>hne gen c (by rw[e];exact hpl))) (fun b o u hm => ?_) (fun gen b c hp=> .inl ⟨gen,c,hp⟩)
         ⟨B,c,cs',T,fr',by rw[Fy,hgen];exact hpl,k2,by rw[k3,h3],by rw[Fy];exact h4,by rw[k3];exact h5,fun j e' he' => ?_,fun j v hv => ?_,fun j e' he' m z u hz hu => ?_,
          fun o _=>h9 o (fun hh=>by cases hh),fun gen' hg'=>h10 gen' (by rw[Fy]at hg';exact hg')⟩ k7 k8 k9)
        .simp only[Instr.storeAt,Instr.sureAddr,Sem.run_bind,Sem.run_pure,Result.andThen_ok,storeVar,G4 F hti];rw[if_neg (by omega)];exact k1
        .have hbB:b≠B:=fun e=>by have:=h9 o (fun hh=>by cases hh);rw[<- e,hm]at this;cases this
         have:=s.mem b o u hm;unfold World.cell? at this ⊢;rw[k5 b hbB];exact this
        .by_cases hj:i=j
         .subst hj;rw[ER hie]at he';simp only[AN]at he';subst he';rw[Hn hle];exact hel
         .rw[BT hj]at he';exact h6 j e' he'
        .rw[k4 j]at hv;split at hv
         .exact hv1 _ v (by simpa using hv)
         .exact h7 _ v hv
        .rw[k4]at hu;have hje:=(Ae.1 he').1;rw[Fy]at hje;have hlm:=(Ae.1 hz).1;by_cases hj:i=j
         .subst hj;rw[ER hie]at he';simp only[AN]at he';subst he';rw[Hn hle]at hlm;rw[KY hle]at hz;by_cases hm:k<=m/\m<k+cs.length
          .rw[if_pos hm]at hz;rw[if_pos ⟨by omega,by omega⟩,show i * sz'+m - (i * sz'+k)=m - k by omega]at hu;exact hvr.2 _ z u hz (by simpa using hu)
          .rw[if_neg hm]at hz;rw[if_neg (by omega)]at hu;exact h8 i e he _ _ _ hz hu
         .rw[BT hj]at he';have hel':=h6 j e' he';have hne:¬ (i * sz'+k<=j * sz'+m/\j * sz'+m<i * sz'+k+y.cells.size):=by
           rcases Nat.lt_or_gt_of_ne hj with hlt | hgt
           .have:(i+1) * sz'<=j * sz':=GK _ hlt;rw[Ge]at this;omega
           .have:(j+1) * sz'<=i * sz':=GK _ hgt;rw[Ge]at this;omega
          rw[if_neg hne]at hu;exact h8 j e' he' _ _ _ hz hu
       .cases hs
      .cases hs
     .cases hs
   .cases hs
  .cases hs
 .cases hs
end
def E3(sz:Nat)(es:List (List AV)):Prop:=∀ e∈es,e.length=sz
theorem E3.get{sz:Nat}{es:List (List AV)}(h:E3 sz es){i:Nat}{e:List AV}(he:es[i]? = some e):e.length=sz:=h e (C2 he)
theorem G6{sz:Nat}:∀{es:List (List AV)},E3 sz es->es.flatten.length=es.length * sz
 | [],_=>by simp
 | e::r,h=>by
  have h1:=h e (by simp);have h2:=G6 (es:=r) (fun x hx=>h x (by simp[hx]));rw[L2,FZ,h1,h2,D8,Ge,Nat.add_comm]
theorem JS{sz:Nat}:∀{es:List (List AV)} {i k:Nat} {e:List AV},E3 sz es->es[i]? = some e->k<sz->es.flatten[i * sz+k]? = e[k]?
 | [],i,k,e,_,h,_=>by simp at h
 | a::r,0,k,e,hl,h,hk=>by
  simp only[HJ,AN]at h;subst h;have h1:=hl a (by simp);rw[L2,Nat.zero_mul,D1,BA (by omega)]
 | a::r,i+1,k,e,hl,h,hk=>by
  have h1:=hl a (by simp);have h2:=JS (es:=r) (i:=i) (k:=k) (e:=e) (fun x hx=>hl x (by simp[hx])) (by simpa using h) hk;rw[L2,Ge,EL (by omega),h1,show i * sz+sz+k - sz=i * sz+k by omega,h2]
theorem PU{a l new:List AV}{off:Nat}(h:a.length<=off):Ay (a++l) off new=a++Ay l (off - a.length) new:=by
 unfold Ay;rw[List.take_append,DC h,List.drop_append,KI (by omega),FE,EM,EM,EM,
  show off+new.length - a.length=off - a.length+new.length by omega]
theorem QI{sz:Nat}{cs:List AV}(hc:cs.length=sz):∀{es:List (List AV)} {i:Nat},E3 sz es->i<es.length->(es.set i cs).flatten=Ay es.flatten (i * sz) cs
 | [],i,_,h=>by simp at h
 | a::r,0,hl,_=>by
  have h1:=hl a (by simp);simp only[List.set_cons_zero,L2,Ay,Nat.zero_mul,List.take_zero,FE,D1];rw[hc,<- h1,List.drop_left]
 | a::r,i+1,hl,h=>by
  have h1:=hl a (by simp);have h2:=QI hc (es:=r) (i:=i) (fun x hx=>hl x (by simp[hx])) (by simpa using h);rw[List.set_cons_succ,L2,L2,h2,PU (by rw[h1,Ge];omega),h1,Ge,Nat.add_sub_cancel]
theorem E3.set{sz:Nat}{es:List (List AV)}(h:E3 sz es){i:Nat}{cs:List AV}(hc:cs.length=sz):E3 sz (es.set i cs):=fun e he=>by
 rcases S5 he with h1 | h1
 .exact h e h1
 .exact h1 ▸ hc
theorem E3.append{sz:Nat}{es xs:List (List AV)}(h:E3 sz es)(k:E3 sz xs):E3 sz (es++xs):=fun e he=>by
 rcases Ks.1 he with h1 | h1
 .exact h e h1
 .exact k e h1
theorem E3.take{sz:Nat}{es:List (List AV)}(h:E3 sz es)(n:Nat):E3 sz (es.take n):=fun e he=>h e (List.mem_of_mem_take he)
theorem E3.drop{sz:Nat}{es:List (List AV)}(h:E3 sz es)(n:Nat):E3 sz (es.drop n):=fun e he=>h e (List.mem_of_mem_drop he)
theorem E3.replicate{sz n:Nat}{z:List AV}(h:z.length=sz):E3 sz (List.replicate n z):=fun e he=>by rw[(List.mem_replicate.1 he).2];exact h
theorem JT{g:G}{b:Bool}{sz:Nat}{es:List (List AV)}{us:Array Value}(hl:E3 sz es)(h:Au g b es.flatten us){i k:Nat}{e:List AV}{x:AV}{v:Value}(he:es[i]? = some e)(hx:e[k]? = some x)
 (hv:us[i * sz+k]? = some v):Rel g b x v:=by
 have hk:k<sz:=by rw[<- hl.get he];exact(Ae.1 hx).1
 exact h.2 _ x v (by rw[JS hl he hk];exact hx) hv
section
variable{M:Par}{P:Program}(F:Fits M P)
theorem Jx{g:G}{h:AF}{fr:Fr}{w:World}(s:Sim g h fr w)(T:TypeId){sz c:Nat}{es:List (List AV)}{vs:Array Value}(hl:E3 sz es)(hsz:vs.size=c * sz)(hc:es.length<=c)
 (hr:∀(i:Nat) (e:List AV),es[i]? = some e->∀ k x v,e[k]? = some x->vs[i * sz+k]? = some v->Rel g true x v) (h1:∀(i:Nat) y,vs[i]? = some y->one y=true) (fz:Nat×Nat) (hfz:noneFrozen vs.size fz) :
 ∃ g',Le g g'/\Sim g' (h++[.arr sz false es]) fr { w with heap:=w.heap.push (.cells vs T fz) } /\
  Rel g' true (.hs h.length es.length sz 0 es.length false) (.slice (some ⟨w.heap.size,0,none⟩) es.length c):=by
 obtain⟨g',h2,h3,h4⟩:=s.alloc (.cells vs T fz) (.arr sz false es) es.length c (fun g' hg hmu hn hp hq=>
  ⟨w.heap.size,c,vs,T,fz,hp,K0,hsz,hc,hfz,fun i e he=>hl.get he,h1,fun i e he k x v hx hv=>(hr i e he k x v hx hv).mono hg,
   fun o _=>by rw[hmu];exact hn o,fun gen hgen=>hq gen (by omega)⟩)
 exact⟨g',h2,h3,.hs _ _ _ _ _ _ _ c 0 c h4 (by omega) (by simp) (by simp)⟩
theorem UR{g:G}{h:AF}{fr:Fr}{w:World}(s:Sim g h fr w)(T:TypeId){sz:Nat}{es:List (List AV)}{vs:Array Value}(hl:E3 sz es)
 (hr:Au g true es.flatten vs) (h1:∀(i:Nat) y,vs[i]? = some y->one y=true) (hn:es.all AG=true) :
 ∃ g',Le g g'/\Sim g' h fr { w with heap:=w.heap.push (.cells vs T (0,0)) }/\Rel g' true (.sl sz true es) (.slice (some ⟨w.heap.size,0,none⟩) es.length es.length):=by
 obtain⟨g',h2,_,h4,h5⟩:=s.imm vs T;refine⟨g',h2,h4,.sl true sz true es _ 0 _ _ (.inl rfl) (fun i k=>vs.getD (i * sz+k) undef) (CZ _) (fun _=>rfl) (fun i e he=>hl.get he) (fun i e he k x hx => ?_) (fun i e he k x hx => ?_) (fun i e he k x hx => ?_)⟩
 all_goals
  have hk:k<sz:=by rw[<- hl.get he];exact(Ae.1 hx).1
  have hf:es.flatten[i * sz+k]? = some x:=by rw[JS hl he hk];exact hx
  have hlt:i * sz+k<vs.size:=by rw[hr.1];exact(Ae.1 hf).1
  have hv:vs[i * sz+k]? = some vs[i * sz+k]:=E6 hlt;have hd:vs.getD (i * sz+k) undef=vs[i * sz+k]:=by simp[hlt]
  rw[hd]
 .rw[D1];exact h5 _ _ hv
 .exact h1 _ _ hv
 .have hnr:x.AA=true:=GD (D0.1 hn e (C2 he)) hx;exact((hr.2 _ _ _ hf hv).mono h2).AA hnr
theorem Lm{g:G}{b:Bool}{z:List AV}{zs:Array Value}(hr:Au g b z zs)(hp:0<z.length)(n:Nat) :
 Au g b (List.replicate n z).flatten ((Array.range (n * z.length)).map fun j=>zs[j % zs.size]!):=by
 have hl:(List.replicate n z).flatten.length=n * z.length:=by simp
 refine⟨by simp,fun i c v hc hv => ?_⟩;have hi:i<n * z.length:=by rw[<- hl];exact(Ae.1 hc).1
 have hdm:=Nat.div_add_mod i z.length;have hmod:=Nat.mod_lt i hp;have hq:i / z.length<n:=by rw[Nat.div_lt_iff_lt_mul hp];exact hi
 have hrep:(List.replicate n z)[i / z.length]? = some z:=by simp[List.getElem?_replicate,hq]
 have:=JS (sz:=z.length) (E3.replicate (n:=n) rfl) hrep hmod;rw[show i / z.length * z.length+i % z.length=i by rw[Nat.mul_comm];exact hdm]at this;rw[this]at hc;have hzs:=hr.1;have hlt:i % zs.size<zs.size:=by rw[hzs];exact hmod
 simp only[PJ,Array.getElem?_range,hi,if_true,E0,AN]at hv;rw[getElem!_pos zs (i % zs.size) hlt]at hv;exact hr.2 (i % z.length) c v hc (by rw[<- hzs,E6 hlt,hv])
theorem Jy{z:List AV}{zs:Array Value}(hz:zs.size=z.length)(h1:∀(i:Nat) y,zs[i]? = some y->one y=true)(hp:0<z.length)(n:Nat) :
 ∀(i:Nat) y,((Array.range (n * z.length)).map fun j=>zs[j % zs.size]!)[i]? = some y->one y=true:=by
 intro i y hy;have hlt:i % zs.size<zs.size:=Nat.mod_lt _ (by omega);simp only[PJ]at hy;by_cases hi:i<n * z.length
 .simp only[Array.getElem?_range,hi,if_true,E0,AN]at hy;rw[getElem!_pos zs (i % zs.size) hlt]at hy;exact h1 _ y (by rw[E6 hlt,hy])
 .simp[hi]at hy
theorem OM{g:G}{b:Bool}{sz:Nat}:∀{ps:List (Nat×AV)} {qs:List (Nat×Value)} {es es':List (List AV)} {us:Array Value},Ro g b ps qs->E3 sz es->Au g b es.flatten us ->
 (∀(i:Nat) y,us[i]? = some y->one y=true)->Aq sz es ps=some es' ->
 ∃ us',Instr.fill (fun i=>some (i * sz,sz)) us qs=some us'/\E3 sz es'/\Au g b es'.flatten us'/\(∀(i:Nat) y,us'[i]? = some y->one y=true)/\es'.length=es.length
 | [],[],es,es',us,_,hl,hu,h1,hf=>by
  simp only[Aq,AN]at hf;subst hf;exact⟨us,rfl,hl,hu,h1,rfl⟩
 | [],q::qs,_,_,_,hp,_,_,_,_=>by have:=hp.1;simp at this
 | p::ps,[],_,_,_,hp,_,_,_,_=>by have:=hp.1;simp at this
 | (i,v)::ps,(j,x)::qs,es,es',us,hp,hl,hu,h1,hf=>by
  obtain⟨hij,hvx⟩:=hp.2 0 _ _ rfl rfl;simp only at hij hvx;subst hij;have hp':Ro g b ps qs:=⟨by have:=hp.1;simpa using this,fun i p q hpp hqq=>hp.2 (i+1) p q (by simpa using hpp) (by simpa using hqq)⟩;simp only[Aq]at hf;split at hf
  .rename_i ds hds;split at hf
   .rename_i hc;simp only[BU,Bl,FQ]at hc;obtain⟨hsz,hlt⟩:=hc;obtain⟨hv,h2⟩:=Ha hvx hds;have hmul:(i+1) * sz<=es.length * sz:=GK _ hlt;rw[Ge]at hmul;have hfl:=G6 hl;have hle:i * sz+ds.length<=es.flatten.length:=(by omega);obtain⟨h3,h4⟩:=Mv hu hv hle h1 h2;rw[<- QI hsz hl hlt]at h3;obtain⟨us',h5,h6,h7,h8,h9⟩:=OM hp' (hl.set hsz) h3 h4 hf;have e1:=hv.1;have e2:=hu.1;refine⟨us',?_,h6,h7,h8,by rw[h9,Fy]⟩;simp only[Instr.fill];rw[if_neg (by simp;omega)];exact h5
   .cases hf
  .cases hf
include F in
theorem ML{g:G}{h h':AF}{fr:Fr}{w:World}(s:Sim g h fr w){ml:Bool}{t:TypeId}{n:Nat}{ps:List (Nat×AV)}{qs:Array (Nat×Value)}{v:AV}(hp:Ro g true ps qs.toList)
 (hf:Ag M.ty ml t n ps h=some (v,h')):G5 P (do pure (.value (<- Instr.buildSlice t n qs))) g h' fr w v:=by
 unfold Ag at hf;split at hf
 .rename_i e hu;split at hf
  .rename_i zero hc hz;simp only[BU,FQ,Gb]at hc;obtain⟨hpos,hmax⟩:=hc;obtain⟨i,zv,hi,hl,hzr,hrel⟩:=K1 F hz w;obtain⟨h1,h2⟩:=hrel g true;split at hf
   .rename_i hzl;have hzl:=Bl.1 hzl;split at hf
    .rename_i es hfe;have hzp:0<zero.length:=(by omega);obtain⟨us',k1,k2,k3,k4,k5⟩:=OM hp (E3.replicate hzl) (Lm h1 hzp n) (Jy h1.1 h2 hzp n) hfe;rw[hzl]at k1;have hrun:(Instr.buildSlice t n qs).run P w=.ok (.slice (some ⟨w.heap.size,0,none⟩) n n) { w with heap:=w.heap.push (.cells us' e (0,0)) }:=by
      simp only[Instr.buildSlice,Sem.run_bind,Ah F hu,Result.andThen_ok,Es F hpos];rw[if_neg (by omega)];by_cases hn:n * siz M.ty e=0
      .have hn0:n=0:=by
        rcases Nat.mul_eq_zero.1 hn with h | h
        .exact h
        .omega
       subst hn0;simp only[Nat.zero_mul,if_true,Sem.run_pure,Result.andThen_ok]at k1 ⊢;have:((Array.range 0).map fun x=>(#[]:Array Value)[x % (#[]:Array Value).size]!)=(Array.range 0).map fun j=>zv.cells[j % zv.cells.size]! := by simp
       rw[Sem.run_bind,Sem.run_pure,Result.andThen_ok,this,k1];simp[newRow]
      .simp only[hn,if_false,Sem.run_bind,hzr,Result.andThen_ok,Sem.run_pure,k1];simp[newRow]
     have hlen:es.length=n:=(by rw[k5];simp);split at hf
     .rename_i hm;simp only[BU]at hm;simp only[AN,Bk]at hf;obtain⟨rfl,rfl⟩:=hf;obtain⟨g',q1,q2,q3⟩:=UR s e k2 k3 k4 hm.2;rw[hlen]at q3;exact⟨_,_,g',.inl (by simp[hrun]),q1,q2,q3⟩
     .simp only[A3,AN,Bk]at hf;obtain⟨rfl,rfl⟩:=hf;obtain⟨g',q1,q2,q3⟩:=Jx s e (c:=es.length) k2 (by rw[k3.1,G6 k2]) (CZ _) (fun i e he k x v hx hv=>JT k2 k3 he hx hv) k4 (0,0) (fun o _ hh=>by simp at hh);rw[hlen]at q3;simp only[hlen];exact⟨_,_,g',.inl (by simp[hrun]),q1,q2,q3⟩
    .cases hf
   .cases hf
  .cases hf
 .cases hf
end
end Go.Am
