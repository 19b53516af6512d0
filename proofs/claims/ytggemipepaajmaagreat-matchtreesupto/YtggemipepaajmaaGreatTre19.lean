/- Proved: the statement MatchTrees (Rows.MatchTreesUptoSaid): for every argument whose reading is of small bulk (at most 2^20) the law returns true. No other conditions. -/
import Derived.Test.YtggemipepaajmaaGreatTre18
import Derived.WalkKit
import Derived.ProofKit
import Derived.OpenShut
import Derived.ShutString
import Derived.JoinedCond
set_option linter.all false
namespace Go.Proofs.Am12.MatchTrees
open Go Go.Am Go.Proofs.YtggemipepaajmaaGreat Tryz
open Go.ChangeShapes Go.WideShapes Go.ChangeAt Go.RowKit
open Go.ChangeMaps (open_string shut_string)
def kinds:List TypeId:=[28,22,25,26,103,3,9,23,62,100,101,106,104,109]
theorem Yi:kinds.all (Xk MX.ty kinds)=true:=by kernel_rfl
theorem told{H:Type}{d:DataW H}{xs:List AV}(h:Shp MX 28 d xs)(hb:Rows.uptoBulk d<1048577):∃ n h',EA MX n 4 [.agg xs] []=some (.ret (.bool true),h'):=by
 obtain⟨k,hx,hs⟩:=Xo d xs h hb;obtain⟨hr,hrun⟩:=law4 hx hs;obtain⟨n,hn⟩:=Gr.1 (Ie eff_4 hrun);exact⟨n,hr,hn⟩
theorem own:ownKnob Tryz.prog.godebug=none:=by kernel_rfl
theorem laidOut:laidOutB Tryz.prog=true:=by kernel_rfl
theorem calls{H:Type}{enc:TypeId×Value->H}{W:World}{cs:Array Value}{d:DataW H}{ps:List MemPlace}{fuel:Nat}(h:DataW.trod enc Tryz.prog W 0 (fun _=>true) true fuel 28 cs.toList=some (d,ps))(hb:Rows.uptoBulk d<1048577) :
 Calls Tryz.prog 4 #[.agg cs] W fun e W'=>e=.returned (.bool true)/\Below W.heap.size W W':=by
 obtain⟨xs,a1,a2,a3,a4⟩:=NU cI Yi fuel (by decide) h;rw[HK]at a1;obtain⟨n,h',hc⟩:=told a4 hb;have hrel:Au (gOf W) true [.agg xs] #[.agg cs]:=by
  refine⟨rfl,fun i c v hc hv => ?_⟩;cases i with
  | zero=>
   simp at hc hv;subst hc;subst hv;exact .agg true xs cs a1.1 (fun i v hv=>a2 v (by simpa using Array.mem_of_getElem? hv)) (fun i c v hc hv=>(a1.2 i c v hc hv).up)
  | succ i=>simp at hc
 refine((JZ cI primX dK n 4 _ _ _ _ hc).2 (gOf W) (frOf W) W _ (VQ W) hrel).mono fun e w' he => ?_
 obtain⟨g',b1,b2,b3⟩:=he;cases e with
 | returned x=>
  refine⟨?_,VR b2⟩;cases b3;rfl
 | panicked=>exact b3.elim
 | outgrown=>exact b3.elim
set_option maxRecDepth 100000 in
theorem lifted(os:Os)(started:os.Started)(H:Type)(enc:TypeId×Value->H)(F:Stop.Interp) :
 ReturnsInHanded {} Tryz.checked os 4 .any ((Rows.OpenSpec.upto Rows.matchTreesSpec).pre6 enc Tryz.prog Tryz.f4 Rows.matchTreesUptoRow.domain false) (((Rows.OpenSpec.upto Rows.matchTreesSpec).at F).post enc Tryz.prog Tryz.f4 false true false false):=by
 refine returnsInHanded_of_cond (C:=Tryz.checked) (s:=Rows.OpenSpec.upto Rows.matchTreesSpec) (k:=Rows.uptoSmall) rfl own started (by kernel_rfl) func4
  (OpenSpec.witness (enc:=enc) (C:=Tryz.checked) (s:=Rows.OpenSpec.upto Rows.matchTreesSpec) (k:=Rows.uptoSmall) rfl false ⟨#[],#[.agg #[.slice none 0 0,.int .i64 0,.int .i64 0,.string ByteArray.empty,.slice none 0 0,.slice none 0 0]],[]⟩ 8 (by kernel_rfl) (by kernel_rfl) (by kernel_rfl)
    (x:=([.agg [.nil,.agg [.lit (.int .i64 0),.lit (.int .i64 0),.lit (.string []),.nil],.nil]],[],[])) (by kernel_rfl) rfl (by kernel_rfl)) ?_
 intro W base args ds gs before hval0 hW _ hk _;have hval:∀(j:Nat) t v,Tryz.f4.params[j]? = some t->args[j]? = some v->Value.okWide Tryz.prog W .any base t v:=hval0;have hW':=hW;obtain⟨p,q,hA0,hV,rfl,hfz,hnd⟩:=hW;have hA:DataW.TrodAll enc Tryz.prog W 0 (fun _=>true) true Tryz.f4.params.toList args.toList ds p:=hA0;rw[Tryz.params4]at hA hval;obtain⟨v0,vs0,d0,ds0,p0,q0,hargs,rfl,rfl,h0,r0⟩:=trodAll_cons hA;obtain⟨rfl,rfl,rfl⟩:=trodAll_nil r0;obtain rfl:args = #[v0]:=by cases args;simp_all
 obtain⟨rfl,rfl⟩:=trodVars_none hV;have k0:=h0;have lt0:∀ x∈p0,x.block<W.heap.size:=by obtain⟨m,hm⟩:=k0;exact DataW.trod_lt m _ _ _ hm
 have hv0:=hval 0 28 v0 rfl rfl;unfold Value.okWide at hv0;rw[underlying28]at hv0;obtain⟨cs,rfl,_,_⟩:=hv0;obtain⟨fuel,hf⟩:=h0;have hb:Rows.uptoBulk d0<1048577:=by
  have h:Rows.uptoBulkAll [d0]<=1048576:=of_decide_eq_true hk;simp only[Rows.uptoBulkAll]at h;omega
 clear hA0 hval0;refine(calls hf hb).mono fun e W' ⟨he,bel⟩ => ?_
 subst he;exact⟨_,rfl,_,_,_,[],_,[],hW',trodAll_mk1 (shut_bool underlying4 _),(trodAll_cons_mk (Below.trod laidOut (by kernel_rfl) (of_decide_eq_true (by kernel_rfl)) k0 bel lt0) trodAll_mk0),rfl,bel.frame _,fun h=>by cases h⟩
theorem proved:Rows.MatchTreesUptoSaid:=
 OpenClaim.holds_of_cond 4 Tryz.f4 rfl rfl rfl rfl rfl rfl rfl ⟨rfl,rfl,rfl,rfl,rfl⟩ rfl rfl rfl rfl rfl (by kernel_rfl) func4 (by kernel_rfl)
  (of_decide_eq_true (by kernel_rfl)) (by unfold Func.isWrapper;first | (rw[if_pos (by decide +kernel)];kernel_rfl) | (rw[if_neg (by decide +kernel)];exact⟨rfl,rfl⟩))
  (fun os started H enc _ F=>lifted os started H enc F)
end Go.Proofs.Am12.MatchTrees
namespace Go.Proofs.YtggemipepaajmaaGreat.lawMatchTrees
open Go.Proofs.YtggemipepaajmaaGreat
theorem proved:Rows.MatchTreesUptoSaid:=Go.Proofs.Am12.MatchTrees.proved
end Go.Proofs.YtggemipepaajmaaGreat.lawMatchTrees
