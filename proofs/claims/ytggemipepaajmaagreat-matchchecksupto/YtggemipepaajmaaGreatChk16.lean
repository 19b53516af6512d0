/- The abstract machine of this claim, part 16. -/
import Derived.Test.YtggemipepaajmaaGreatChk15
set_option linter.unusedSimpArgs false
set_option linter.unusedVariables false
set_option linter.unusedSectionVars false
set_option linter.unnecessarySimpa false
namespace Go.Proofs.Am12
open Go Go.Am
mutual
def shN:Sh→Nat
 | .bit _=>1
 | .cons _ ss=>1+Ih ss
def Ih:List (List Sh)→Nat
 | []=>0
 | s::r=>Iz s+Ih r
def Iz:List Sh→Nat
 | []=>0
 | x::r=>shN x+Iz r
end
mutual
def shX:Sh→Nat
 | .bit n=>n.toNat
 | .cons _ ss=>(JO ss.length).toNat+HL ss
def HL:List (List Sh)→Nat
 | []=>0
 | s::r=>max (IY s) (HL r)
def IY:List Sh→Nat
 | []=>0
 | x::r=>shX x+IY r
end
theorem XR {l:List AO} {rec:Rec} (hr:∀ t c s,Cw l t s→(rec t c).2=0→(rec t c).1=c+shN s):∀ (fs:List CO) (ss:List Sh) c,ss.length=fs.length→(∀ (j:Nat) f y,fs[j]? = some f→ss[j]? = some y→Cw l f.ty y)→(eFs rec fs c).2=0→(eFs rec fs c).1=c+Iz ss
 | [],[],c,_,_,_=>by simp [eFs,Iz]
 | f::r,x::ss,c,hl,hs,h=>by
  simp only [eFs] at h ⊢
  split at h
  ·rename_i hz
   rw [if_pos hz]
   have h1:=hr f.ty c x (hs 0 _ _ rfl rfl) hz
   rw [XR hr r ss _ (by simpa using hl) (fun j f y a b=>hs (j+1) f y (by simpa using a) (by simpa using b)) h,h1]
   simp only [Iz]
   omega
  ·rename_i hz;exact absurd h hz
 | [],_::_,_,h,_,_=>by simp at h
 | _::_,[],_,h,_,_=>by simp at h
theorem XS {l:List AO} {rec:Rec} (hr:∀ t c s,Cw l t s→(rec t c).2=0→(rec t c).1=c+shN s):∀ (cs:List Bm) (ss:List (List Sh)) c,ss.length=cs.length→(∀ (i:Nat) k s,cs[i]? = some k→ss[i]? = some s→s.length=k.fields.length∧∀ (j:Nat) f y,k.fields[j]? = some f→s[j]? = some y→Cw l f.ty y)→(eCs rec cs c).2=0→(eCs rec cs c).1=c+Ih ss
 | [],[],c,_,_,_=>by simp [eCs,Ih]
 | k::r,s::ss,c,hl,hs,h=>by
  simp only [eCs] at h ⊢
  split at h
  ·rename_i hz
   rw [if_pos hz]
   obtain ⟨a1,a2⟩:=hs 0 _ _ rfl rfl
   have h1:=XR hr k.fields s c a1 a2 hz
   rw [XS hr r ss _ (by simpa using hl) (fun i k s a b=>hs (i+1) k s (by simpa using a) (by simpa using b)) h,h1]
   simp only [Ih]
   omega
  ·rename_i hz;exact absurd h hz
 | [],_::_,_,h,_,_=>by simp at h
 | _::_,[],_,h,_,_=>by simp at h
theorem QQ {l:List AO} {r:Option Rec} (hr:∀ rec,r=some rec→∀ t c s,Cw l t s→(rec t c).2=0→(rec t c).1=c+shN s) (t:TyV) (c:Int) (s:Sh) (hs:Cw l t s) (h:(DB l r t c).2=0):(DB l r t c).1=c+shN s:=by
 unfold DB at h ⊢
 split at h
 ·cases h
 rename_i g1
 rw [if_neg g1]
 split at h
 ·cases h
 rename_i g2
 rw [if_neg g2]
 split at h
 ·cases h
 rename_i g3
 rw [if_neg g3]
 split at h
 ·cases h
 rename_i g4
 rw [if_neg g4]
 split at h
 ·cases h
 rename_i g5
 rw [if_neg g5]
 cases r with
 | none=>cases h
 | some rec=>
  simp only at h ⊢
  cases hs with
  | bit _ hb hw h2=>rw [if_pos hb];simp [shN]
  | cons _ ns ss hb hk hn hl h3 hf=>
   have hbn:¬ (DF t=true):=by rw [hb];decide
   rw [if_neg hbn] at h ⊢
   rw [XS (hr rec rfl) _ ss _ hl (fun i k s a b=>⟨h3 i k s a b,fun j f y d e=>hf i k s j f y a b d e⟩) h]
   simp only [shN]
   omega
theorem PS (l:List AO):∀ n t c s,Cw l t s→(DZ l n t c).2=0→(DZ l n t c).1=c+shN s
 | 0=>fun t c s hs h=>QQ (fun rec h=>by cases h) t c s hs h
 | n+1=>fun t c s hs h=>QQ (fun rec h=>by cases h;exact PS l n) t c s hs h
theorem QR (n:Nat):0≤JO n∧JO n≤4:=by
 unfold JO
 repeat (split;first | exact ⟨by decide,by decide⟩ | skip)
 exact ⟨by decide,by decide⟩
theorem QS:∀ (ss:List Sh) (a:Int),0≤a→(∀ x∈ss,shW x=shX x)→a+IY ss<9223372036854775808→Fq ss a=a+IY ss
 | [],a,_,_,_=>by simp [Fq,IY]
 | x::r,a,h0,hs,hb=>by
  simp only [IY] at hb ⊢
  have hx:=hs x (by simp)
  have hw:J1 a (shW x)=a+shX x:=by
   rw [hx];exact BD (by omega) (by omega)
  simp only [Fq,hw]
  rw [QS r _ (by omega) (fun y hy=>hs y (by simp [hy])) (by omega)]
  omega
theorem N9:∀ (ss:List (List Sh)) (m:Int),0≤m→(∀ s∈ss,Fq s 0=IY s)→Ei ss m=max m (HL ss)
 | [],m,h0,_=>by simp only [Ei,HL];omega
 | s::r,m,h0,hs=>by
  have hx:=hs s (by simp)
  simp only [Ei,HL,hx]
  rw [N9 r _ (by split <;> omega) (fun y hy=>hs y (by simp [hy]))]
  split <;> omega
theorem OA {x:Sh}:∀ {r:List Sh},x∈r→shN x≤Iz r
 | y::r,h=>by
  simp only [Iz]
  rcases List.mem_cons.1 h with rfl | h
  ·omega
  ·have:=OA h;omega
theorem Jj {s:List Sh}:∀ {r:List (List Sh)},s∈r→Iz s≤Ih r
 | y::r,h=>by
  simp only [Ih]
  rcases List.mem_cons.1 h with rfl | h
  ·omega
  ·have:=Jj h;omega
theorem KG:∀ {r:List Sh},(∀ x∈r,shX x≤16 * shN x)→IY r≤16 * Iz r
 | [],_=>by simp [IY,Iz]
 | y::r,h=>by
  simp only [IY,Iz]
  have h1:=h y (by simp)
  have h2:=KG (r:=r) (fun x hx=>h x (by simp [hx]))
  omega
theorem LC:∀ {r:List (List Sh)},(∀ s∈r,IY s≤16 * Iz s)→HL r≤16 * Ih r
 | [],_=>by simp [HL,Ih]
 | y::r,h=>by
  simp only [HL,Ih]
  have h1:=h y (by simp)
  have h2:=LC (r:=r) (fun x hx=>h x (by simp [hx]))
  omega
theorem UB {s:Sh} (h:ShW s):shX s≤16 * shN s:=by
 induction h with
 | bit m h0 h1=>simp only [shX,shN];omega
 | cons ns ss h1 h2 h3 h4 h5 h6 h7 ih=>
  simp only [shX,shN]
  have:=QR ss.length
  have:=LC (r:=ss) fun s hs=>KG fun x hx=>ih s hs x hx
  omega
theorem Ym {s:Sh} (h:ShW s) (hb:shN s≤1000):shW s=shX s:=by
 induction h with
 | bit m h0 h1=>simp only [shW,shX];omega
 | cons ns ss h1 h2 h3 h4 h5 h6 h7 ih=>
  simp only [shN] at hb
  have hs:∀ s∈ss,Fq s 0=IY s:=fun s hs=>by
   have hl:=Jj hs
   rw [QS s 0 (by decide) (fun x hx=>ih s hs x hx (by have:=OA hx;omega)) (by have:=KG (r:=s) fun x hx=>UB (h5 s hs x hx);omega)]
   omega
  have hr:=N9 ss 0 (by decide) hs
  have hx:=LC (r:=ss) fun s hs=>KG fun x hx=>UB (h5 s hs x hx)
  have ht:=QR ss.length
  simp only [shW,shX,hr]
  have:max (0:Int) (HL ss)=HL ss:=by omega
  rw [this]
  unfold J1
  rw [BD (by omega) (by omega)]
  omega
theorem Ew (x:Sh) (r:List Sh):(BN (x::r)).length=(Cx x).length * (BN r).length:=by
 simp only [BN,List.length_flatMap,List.length_map]
 induction Cx x with
 | nil=>simp
 | cons a t ih=>simp only [List.map_cons,List.sum_cons,List.length_cons,ih,Nat.succ_mul];omega
theorem Ha (ns:List Bytes) (s:List Sh) (r:List (List Sh)):(CK ns (s::r)).length=(BN s).length+(CK ns.tail r).length:=by
 simp [CK]
theorem LD (m:Int):(Cx (.bit m)).length=2 ^ m.toNat:=by simp [Cx]
theorem OB:∀ (ps:List Sh),(∀ x∈ps,(Cx x).length≤2 ^ shX x)→(BN ps).length≤2 ^ IY ps
 | [],_=>by simp [BN,IY]
 | x::r,h=>by
  rw [Ew]
  simp only [IY,Nat.pow_add]
  exact Nat.mul_le_mul (h x (by simp)) (OB r fun y hy=>h y (by simp [hy]))
theorem OC:∀ (ss:List (List Sh)) (ns:List Bytes) (m:Nat),(∀ s∈ss,(BN s).length≤2 ^ m)→(CK ns ss).length≤ss.length * 2 ^ m
 | [],ns,m,_=>by simp [CK]
 | s::r,ns,m,h=>by
  rw [Ha]
  have h1:=h s (by simp)
  have h2:=OC r ns.tail m fun y hy=>h y (by simp [hy])
  simp only [List.length_cons,Nat.succ_mul]
  omega
theorem L4 {s:List Sh}:∀ {r:List (List Sh)},s∈r→IY s≤HL r
 | y::r,h=>by
  simp only [HL]
  rcases List.mem_cons.1 h with rfl | h
  ·omega
  ·have:=L4 h;omega
theorem Wd (n:Nat) (h:n≤16):n≤2 ^ (JO n).toNat:=by
 have:∀ m:Fin 17,m.1≤2 ^ (JO m.1).toNat:=by decide
 exact this ⟨n,by omega⟩
inductive UC:Sh→Prop
 | bit (m:Int):UC (.bit m)
 | cons (ns:List Bytes) (ss:List (List Sh)) (h1:ss.length≤16) (h2:∀ s∈ss,∀ x∈s,UC x):UC (.cons ns ss)
theorem We {s:Sh} (h:UC s):(Cx s).length≤2 ^ shX s:=by
 induction h with
 | bit m=>rw [LD];exact Nat.le_refl _
 | cons ns ss h1 h2 ih=>
  have h3:=OC ss ns (HL ss) fun s hs=>Nat.le_trans (OB s fun x hx=>ih s hs x hx) (Nat.pow_le_pow_right (by decide) (L4 hs))
  simp only [Cx,shX,Nat.pow_add]
  exact Nat.le_trans h3 (Nat.mul_le_mul_right _ (Wd _ h1))
theorem Wf {l:List AO} (hd:DV l) {t:TyV} {s:Sh} (hs:Cw l t s):VT l t→UC s:=by
 induction hs with
 | bit t hb hw h2=>exact fun _=> .bit _
 | cons t ns ss hb hk hn hl hsp hf ih=>
  intro hv
  obtain ⟨c1,c2,c3⟩:=hd.con t hv hk hb
  refine .cons _ _ (by omega) fun s hs x hx => ?_
  obtain ⟨i,hi,rfl⟩:=List.getElem_of_mem hs
  obtain ⟨j,hj,rfl⟩:=List.getElem_of_mem hx
  have hci:=List.getElem?_eq_getElem (l:=AQ l t) (i:=i) (by omega)
  have hfl:=hsp i _ _ hci (List.getElem?_eq_getElem hi)
  have hfj:=List.getElem?_eq_getElem (l:=((AQ l t)[i]'(by omega)).fields) (i:=j) (by omega)
  exact ih i _ _ j _ _ hci (List.getElem?_eq_getElem hi) hfj (List.getElem?_eq_getElem hj) (hd.dok.fld t hv hk hb _ (List.getElem_mem _) _ (List.mem_of_getElem? hfj))
theorem IP {l:List AO} {t:TyV} (hsl:SmL 1048577 l) (hst:Sm 1048577 t) (h:DD l t=0):(Cx (CY l t)).length≤65536:=by
 obtain ⟨a,b,c⟩:=Gf h
 have hw:=PR a hsl c b hst
 have h16:=Wf (HX a) c b
 unfold DD at h
 rw [if_pos a] at h
 unfold FU at h
 split at h
 ·split at h
  ·rename_i hz
   split at h
   ·rename_i hr
    have hN:=PS l 40 t 0 _ c hz
    have hR:=(Ge l 40 t 0 (by decide) (by decide)).2.2 hz
    have hX:=Ym hw (by omega)
    have hle:=We h16
    refine Nat.le_trans hle ?_
    exact Nat.le_trans (Nat.pow_le_pow_right (by decide) (show shX (CY l t)≤16 by omega)) (by decide)
   ·cases h
  ·rename_i hz;exact absurd h hz
 ·rename_i hz;exact absurd h hz
end Go.Proofs.Am12
namespace Go.Proofs.Am12
open Go Go.Am
attribute [local simp] Dq B8 EL Dr CS Ds Dt Ee BT BP Bb Ap Fy Ez D9 Gn D1 A4 El EA Gp Gq xUn Ej D2 E0 BF C7 BG D3 BH D4 Cb CV Bx BE EB EK
 ev evs C3 C4 OR.ofV OR.DQ OR.ofC E6 Tm.get Tm.init Tm.only A2 A7 CF finish B6 Cm Gm Db D0 unA CA Bg CB Bh Cp Cq Cr Bi Cs Ct Bj Cu Cv Bk CC AP CJ Bf Cn Co B9 Ef Eg Eh Du Dv FM Fa Fb FN stA A3 DE B7 C8 Ek GH CD DA CG E1 GI
set_option maxHeartbeats 1000000
attribute [local simp] DH CU CM Bl DI DJ DK DL DM DN DP ES Cy ET Df FC FD Ga Dg EU Dh BU Di BV Dj CP EV Cz FE FF FG C0 Dk Dl FH Gb FI Gc Gd Dm BW C1 CQ Dn Dp C2
theorem QT (n:Int):wr .i64 n=n.bmod 18446744073709551616:=by
 rw [Int.bmod_def]
 have e:(((18446744073709551616:Nat):Int)+1) / 2=9223372036854775808:=by decide
 have e2:((18446744073709551616:Nat):Int)=18446744073709551616:=rfl
 rw [e,e2]
 show (match decide (0≤n∧n<9223372036854775808) with
  | true=>n
  | false=>match decide (n % 18446744073709551616<9223372036854775808) with
   | true=>n % 18446744073709551616
   | false=>n % 18446744073709551616 - 18446744073709551616)=_
 by_cases h:0≤n∧n<9223372036854775808
 ·rw [decide_eq_true h]
  have:n % 18446744073709551616=n:=Int.emod_eq_of_lt h.1 (by omega)
  rw [this,if_pos h.2]
 ·rw [decide_eq_false h]
  by_cases h2:n % 18446744073709551616<9223372036854775808
  ·rw [decide_eq_true h2,if_pos h2]
  ·rw [decide_eq_false h2,if_neg h2]
theorem Wg (p q:Nat):wr .i64 (wr .i64 (p:Int) * wr .i64 (q:Int))=wr .i64 ((p * q:Nat):Int):=by
 simp only [QT,Int.bmod_mul_bmod,Int.mul_bmod_bmod,Int.natCast_mul]
theorem Wh (p q:Nat):wr .i64 (wr .i64 (p:Int)+wr .i64 (q:Int))=wr .i64 ((p+q:Nat):Int):=by
 simp only [QT,Int.bmod_add_bmod,Int.add_bmod_bmod,Int.natCast_add]
theorem Gk {n:Nat} (h:n<9223372036854775808):wr .i64 (n:Int)=n:=BD (by omega) (by omega)
abbrev cn (s:Sh):Nat:=(Cx s).length
abbrev cnP (ps:List Sh):Nat:=(BN ps).length
def cnC:List (List Sh)→Nat
 | []=>0
 | s::r=>cnP s+cnC r
theorem Mn:∀ (ss:List (List Sh)) (ns:List Bytes),(CK ns ss).length=cnC ss
 | [],ns=>by simp [CK,cnC]
 | s::r,ns=>by rw [Ha,Mn r];rfl
theorem UD {s:List Sh} {j:Nat} (hj:j<s.length):cnP (s.drop j)=cn s[j] * cnP (s.drop (j+1)):=by
 rw [List.drop_eq_getElem_cons hj];exact Ew _ _
theorem OD {ss:List (List Sh)} {j:Nat} (hj:j<ss.length):cnC (ss.drop j)=cnP ss[j]+cnC (ss.drop (j+1)):=by
 rw [List.drop_eq_getElem_cons hj];rfl
section
variable {l:List AO} {lv:AV} (hl:SlR Ac 3 l lv) (hsl:SmL 1048577 l) (hok:DOK l)
include hl hsl hok
theorem c69 {t:TyV} {ns:List Bytes} {ss:List (List Sh)} (hst:Sm 1048577 t) (hv:VT l t) (hs:Cw l t (.cons ns ss)) (ih:∀ s∈ss,∀ x∈s,∀ (t:TyV) (xs:List AV),AU t xs→Sm 1048577 t→VT l t→Cw l t x→∀ h,AK MX (AH MX) 21 [lv,.agg xs] h=some (.ret (.int .i64 (wr .i64 (cn x))),h))
  {i:Nat} (hi:i<(AQ l t).length) (hi2:i<ss.length) {cx:List AV} (hcx:DR (AQ l t)[i] cx) (h:AE):AK MX (AH MX) 69 [lv,.agg cx] h=some (.ret (.int .i64 (wr .i64 (cnP ss[i]))),h):=by
 cases hs with
 | cons _ _ _ hb hk hnn hll hs0 hf0=>
 have hn2:([lv,AV.agg cx]:List AV).all AV.AD=true:=by simp [AV.AD,Fv _ _ hcx,hl.AD]
 have hcsm:=Ev hsl hst (by decide)
 have hvf:=hok.fld t hv hk hb
 obtain ⟨fv,rfl,hfv⟩:=hcx.dest
 have f1:=hs0 i _ _ (List.getElem?_eq_getElem hi) (List.getElem?_eq_getElem hi2)
 have f2:=fun j f y=>hf0 i _ _ j f y (List.getElem?_eq_getElem hi) (List.getElem?_eq_getElem hi2)
 have hsc:=hcsm.2 _ (List.getElem_mem hi)
 obtain ⟨e,st,hlp,hq⟩:=AR (M:=MX) (fid:=69) (N:=25) (C:=AH MX) (c:=AP Tryz.f69 0) (n:=(AQ l t)[i].fields.length)
  (fun j (p:Nat)=>([(0,lv),(3,.hp 0 0),(5,.int .i64 (wr .i64 p)),(6,.int .i64 j)],[Blk.var false [AV.str (AQ l t)[i].nm,fv]]))
  (fun j p=>cnP ss[i]=p * cnP (ss[i].drop j))
  (fun r=>r=(.ext 0,([(0,lv),(3,.hp 0 0),(5,.int .i64 (wr .i64 (cnP ss[i]))),(6,.int .i64 (AQ l t)[i].fields.length),(11,.bool false)],[Blk.var false [AV.str (AQ l t)[i].nm,fv]]))) (fun j p hj hJ=>by
    obtain ⟨fe,hfe,hfR⟩:=hfv.ix hj
    have hj':=Aa hj
    have hwj:=AZ hj hsc.2.1
    have hmf:=List.getElem_mem hj
    have hjs:j<ss[i].length:=by omega
    obtain ⟨tx,rfl,htx⟩:=hfR
    have hrec:=ih ss[i] (List.getElem_mem hi2) ss[i][j] (List.getElem_mem hjs) (AQ l t)[i].fields[j].ty tx htx (hsc.2.2 _ hmf).2 (hvf _ (List.getElem_mem hi) _ hmf) (f2 j _ _ (List.getElem?_eq_getElem hj) (List.getElem?_eq_getElem hjs))
    obtain ⟨qv,rfl,hqv⟩:=htx.AY
    rw [UD hjs] at hJ
    have hm:=Wg p (cn ss[i][j])
    exact .inl ⟨p * cn ss[i][j],by simp only [cn] at hrec hm ⊢;simp [Tryz.f69,hfv.len,hj',hfe,hrec,hwj];simpa using hm,by rw [hJ,Nat.mul_assoc]⟩) (fun p hJ=>by
    rw [List.drop_of_length_le (by omega)] at hJ
    simp only [cnP,BN,List.length_singleton,Nat.mul_one] at hJ
    exact ⟨_,_,by simp [Tryz.f69,hfv.len] <;> first | exact ⟨rfl,rfl⟩ | rfl,by simp,by simp only [cnP];rw [hJ]⟩) 1 (by simp)
 cases hq
 simp [Tryz.f69] at hlp
 rw [show wr .i64 1=1 from rfl] at hlp
 exact Ae U6 Xz hn2 rfl (hr:=[Blk.var false [AV.str (AQ l t)[i].nm,fv]]) (by simp [AN,Tryz.f69,hlp]) h
theorem c21 (s:Sh):∀ (t:TyV) (xs:List AV),AU t xs→Sm 1048577 t→VT l t→Cw l t s→∀ h,AK MX (AH MX) 21 [lv,.agg xs] h=some (.ret (.int .i64 (wr .i64 (cn s))),h):=by
 induction s using Sh.ind with
 | hb n=>
  intro t xs hx hst hv hs h
  have hn:([lv,AV.agg xs]:List AV).all AV.AD=true:=by simp [AV.AD,hx.AG,hl.AD]
  have hB:=c66 hx
  obtain ⟨pv,rfl,hp⟩:=hx.AY
  cases hs with
  | bit _ hb hw=>
   have hb1:=hok.bit t hv hb
   obtain ⟨e,he,hR⟩:=hp.ix (i:=0) (by omega)
   have hag:BM t=t.ps[0]'(by omega):=by simp [BM,hb1]
   rw [← hag] at hR
   obtain ⟨qv,rfl,hq⟩:=hR.AY
   have h67:=c67 (BM t).v (by omega) (by omega)
   have hle:(2:Nat) ^ (BM t).v.toNat≤65536:=Nat.le_trans (Nat.pow_le_pow_right (by decide) (show (BM t).v.toNat≤16 by omega)) (by decide)
   have hcn:wr .i64 ((cn (.bit (BM t).v):Nat):Int)=((2 ^ (BM t).v.toNat:Nat):Int):=by
    rw [cn,LD];exact Gk (by omega)
   rw [hcn]
   simp only [Int.natCast_zero] at he
   exact Ae Pf SK hn rfl (hr:=[Blk.var false [AV.int .i64 t.k,AV.int .i64 t.v,AV.str t.nm,pv]]) (by simp at h67;simp [AN,Tryz.f21,hB,hb,he,h67]) h
 | hc ns ss ih=>
  intro t xs hx hst hv hs h
  have h69:=fun i hi hi2 cx hcx=>c69 hl hsl hok hst hv hs ih (i:=i) hi hi2 (cx:=cx) hcx
  cases hs with
  | cons _ _ _ hb hk hnn hll hs0 hf0=>
  have hn:([lv,AV.agg xs]:List AV).all AV.AD=true:=by simp [AV.AD,hx.AG,hl.AD]
  have hB:=c66 hx
  obtain ⟨w,hw,h68⟩:=c68 hl hsl hx hst (hok.has t hv hk hb)
  have hcsm:=Ev hsl hst (by decide)
  obtain ⟨pv,rfl,hp⟩:=hx.AY
  obtain ⟨e,st,hlp,hq⟩:=AR (M:=MX) (fid:=21) (N:=34) (C:=AH MX) (c:=AP Tryz.f21 0) (n:=(AQ l t).length)
   (fun i (p:Nat)=>([(0,lv),(5,w),(6,.int .i64 (wr .i64 p)),(7,.int .i64 i)],[Blk.var false [AV.int .i64 t.k,AV.int .i64 t.v,AV.str t.nm,pv]]))
   (fun i p=>cnC ss=p+cnC (ss.drop i))
   (fun r=>r=(.ext 0,([(0,lv),(5,w),(6,.int .i64 (wr .i64 (cnC ss))),(7,.int .i64 (AQ l t).length),(22,.bool false)],[Blk.var false [AV.int .i64 t.k,AV.int .i64 t.v,AV.str t.nm,pv]]))) (fun i p hi hI=>by
     obtain ⟨ce,hce,hcR⟩:=hw.ix hi
     have hi':=Aa hi
     have hwi:=AZ hi hcsm.1
     have hi2:i<ss.length:=by omega
     have hW:=h69 i hi hi2 ce hcR
     obtain ⟨fv,rfl,hfv⟩:=hcR.dest
     rw [OD hi2] at hI
     have hm:=Wh p (cnP ss[i])
     exact .inl ⟨p+cnP ss[i],by simp only [cnP] at hW hm ⊢;simp [Tryz.f21,hw.len,hi',hce,hW,hwi];simpa using hm,by rw [hI,Nat.add_assoc]⟩) (fun p hI=>by
     rw [List.drop_of_length_le (by omega)] at hI
     simp only [cnC,Nat.add_zero] at hI
     exact ⟨_,_,by simp [Tryz.f21,hw.len] <;> first | exact ⟨rfl,rfl⟩ | rfl,by simp,by rw [hI]⟩) 0 (by simp)
  cases hq
  simp [Tryz.f21] at hlp
  rw [show wr .i64 0=0 from rfl] at hlp
  have hcn:cn (.cons ns ss)=cnC ss:=by simp only [cn,Cx,Mn]
  rw [hcn]
  exact Ae Pf SK hn rfl (hr:=[Blk.var false [AV.int .i64 t.k,AV.int .i64 t.v,AV.str t.nm,pv]]) (by simp [AN,Tryz.f21,hB,hb,h68,hlp]) h
end
theorem c13 {k:Dx} {xs:List AV} (hx:DS k xs) (hsk:SmT 1048577 k) (hE:(Aq k.data k.ty k.arms).2=0) (h:AE):AK MX (AH MX) 13 [.agg xs] h=some (.ret (.bool (decide (cn (CY k.data k.ty)≤300))),h):=by
 have h1:DD k.data k.ty=0:=(JW hE).1
 obtain ⟨a,b,c⟩:=Gf h1
 have hle:=IP hsk.1 hsk.2.1 h1
 have hxn:AG xs=true:=by obtain ⟨dv,pv,av,rfl,hd,hp,ht,ha⟩:=hx.dest;simp [AV.AD,AG,hd.AD,hp.AD,ha.AD]
 obtain ⟨dv,pv,av,rfl,hd,hp,ht,ha⟩:=hx.dest
 have h21:=c21 hd hsk.1 (HX a).dok _ k.ty _ ht hsk.2.1 b c
 rw [Gk (show cn (CY k.data k.ty)<9223372036854775808 by simp only [cn];omega)] at h21
 have hdec:decide (((cn (CY k.data k.ty):Nat):Int)≤300)=decide (cn (CY k.data k.ty)≤300):=by
  rw [decide_eq_decide];omega
 rw [← hdec]
 exact Ae Uw Xo (by simp [AV.AD,hxn]) rfl (hr:=_) (by simp [AN,Tryz.f13,h21] <;> rfl) h
theorem ms_32 (n:Nat) (hn:n<1048577) (h:AE):Ff MX.ty 32 (.int .i64 n) (.int .i64 n) h=some (Av h 3 (List.replicate n [.str [],.int .i64 0,.AI])):=by
 have e1:und MX.ty 32=some (.slice 34):=by kernel_rfl
 have e2:siz MX.ty 34=3:=by kernel_rfl
 have e3:byt MX.ty 34=48:=by kernel_rfl
 have e4:DU MX.ty 34=some [.str [],.int .i64 0,.AI]:=by kernel_rfl
 have h1:(n:Int)<17592186044416:=by omega
 have h2:48 * (n:Int)≤17592186044416:=by omega
 unfold Ff
 simp only [e1,Am.intOf,e2,e3,e4]
 simp [Av,h1,h2]
theorem ShW.pos {s:Sh} (h:ShW s):0<cn s:=by
 induction h with
 | bit m h0 h1=>rw [cn,LD];exact Nat.pow_pos (by decide)
 | cons ns ss h1 h2 h3 h4 h5 h6 h7 ih=>
  have hp:∀ (r:List Sh),(∀ x∈r,0<cn x)→0<cnP r:=by
   intro r
   induction r with
   | nil=>intro _;simp [cnP,BN]
   | cons x r ihr=>
    intro hr
    rw [cnP,Ew]
    exact Nat.mul_pos (hr x (by simp)) (ihr fun y hy=>hr y (by simp [hy]))
  cases ss with
  | nil=>exact absurd (List.eq_nil_of_length_eq_zero (by simpa using h1.symm)) h2
  | cons s r=>
   have h8:cn (.cons ns (s::r))=cnP s+(CK ns.tail r).length:=by simp only [cn,Cx,Ha]
   rw [h8]
   have:=hp s fun x hx=>ih s (by simp) x hx
   omega
theorem QU {r:List Sh} (h:∀ x∈r,ShW x):0<cnP r:=by
 induction r with
 | nil=>simp [cnP,BN]
 | cons x r ih=>
  rw [cnP,Ew]
  exact Nat.mul_pos (h x (by simp)).pos (ih fun y hy=>h y (by simp [hy]))
theorem Mo {s:List Sh}:∀ {r:List (List Sh)},s∈r→cnP s≤cnC r
 | y::r,h=>by
  simp only [cnC]
  rcases List.mem_cons.1 h with rfl | h
  ·omega
  ·have:=Mo h;omega
theorem Mp {x:Sh}:∀ {r:List Sh},(∀ y∈r,ShW y)→x∈r→cn x≤cnP r
 | y::r,hw,h=>by
  rw [cnP,Ew]
  rcases List.mem_cons.1 h with rfl | h
  ·exact Nat.le_mul_of_pos_right _ (QU fun y hy=>hw y (by simp [hy]))
  ·exact Nat.le_trans (Mp (fun y hy=>hw y (by simp [hy])) h) (Nat.le_mul_of_pos_left _ (hw y (by simp)).pos)
theorem RT (x:Sh) (r:List Sh) (m:Nat) (h:m<cn x * cnP r):∃ (h1:m / cnP r<cn x) (h2:m % cnP r<cnP r),(BN (x::r))[m]? = some ((Cx x)[m / cnP r]::(BN r)[m % cnP r]):=by
 have hp:0<cnP r:=by
  rcases Nat.eq_zero_or_pos (cnP r) with h0 | h0
  ·rw [h0,Nat.mul_zero] at h;omega
  ·exact h0
 have h1:m / cnP r<cn x:=Nat.div_lt_of_lt_mul (by rw [Nat.mul_comm];exact h)
 have h2:=Nat.mod_lt m hp
 refine ⟨h1,h2,?_⟩
 have key:∀ (L:List TyV) (m:Nat) (h:m<L.length * cnP r) (h1:m / cnP r<L.length),(L.flatMap fun v=>(BN r).map fun ps=>v::ps)[m]? = some (L[m / cnP r]::(BN r)[m % cnP r]'(Nat.mod_lt m hp)):=by
  intro L
  induction L with
  | nil=>intro m h;simp at h
  | cons v L ih=>
   intro m h h1
   rw [List.flatMap_cons]
   by_cases hm:m<cnP r
   ·rw [List.getElem?_append_left (by simpa using hm)]
    have e1:m / cnP r=0:=Nat.div_eq_of_lt hm
    have e2:m % cnP r=m:=Nat.mod_eq_of_lt hm
    simp only [e1,e2,List.getElem_cons_zero,List.getElem?_map,List.getElem?_eq_getElem hm,Option.map_some]
   ·have hm:cnP r≤m:=by omega
    rw [List.getElem?_append_right (by simpa using hm)]
    have hl:((BN r).map fun ps=>v::ps).length=cnP r:=by simp
    rw [hl]
    have hlt:m - cnP r<L.length * cnP r:=by
     rw [List.length_cons,Nat.succ_mul] at h;omega
    have e1:(m - cnP r) / cnP r=m / cnP r - 1:=by rw [Nat.div_eq_sub_div hp hm,Nat.add_sub_cancel]
    have e2:(m - cnP r) % cnP r=m % cnP r:=(Nat.mod_eq_sub_mod hm).symm
    have hd:0<m / cnP r:=Nat.div_pos hm hp
    have hlt2:(m - cnP r) / cnP r<L.length:=by rw [e1];rw [List.length_cons] at h1;omega
    rw [ih (m - cnP r) hlt hlt2]
    simp only [e1,e2]
    congr 2
    rw [List.getElem_cons,dif_neg (by omega)]
 simp only [BN]
 exact key _ m h h1
theorem JY (x:Sh) (r:List Sh):cnP (x::r)=cn x * cnP r:=Ew x r
def dn (n i:Nat):Int:=(n:Int) - 1 - i
theorem Wi {ns:List Bytes} {ss:List (List Sh)} (hl:ss.length=ns.length) {i:Nat} (h1:i<ns.length) (h2:i<ss.length) {m:Nat} (h:m<cnP ss[i]):(CK (ns.drop i) (ss.drop i))[m]? = some (.mk 0 0 ns[i] ((BN ss[i])[m]'h)):=by
 have e1:ns.drop i=ns[i]::ns.drop (i+1):=List.drop_eq_getElem_cons h1
 have e2:ss.drop i=ss[i]::ss.drop (i+1):=List.drop_eq_getElem_cons h2
 rw [e1,e2]
 simp only [CK,List.headD_cons,List.tail_cons]
 rw [List.getElem?_append_left (by simpa using h)]
 simp
theorem UE {ns:List Bytes} {ss:List (List Sh)} (hl:ss.length=ns.length) {i:Nat} (h1:i<ns.length) (h2:i<ss.length) {m:Nat} (h:cnP ss[i]≤m):(CK (ns.drop i) (ss.drop i))[m]? = (CK (ns.drop (i+1)) (ss.drop (i+1)))[m - cnP ss[i]]? := by
 have e1:ns.drop i=ns[i]::ns.drop (i+1):=List.drop_eq_getElem_cons h1
 have e2:ss.drop i=ss[i]::ss.drop (i+1):=List.drop_eq_getElem_cons h2
 rw [e1,e2]
 simp only [CK,List.headD_cons,List.tail_cons]
 rw [List.getElem?_append_right (by simpa using h)]
 simp
structure AtI (ps:List Sh) (m:Nat) (es:List (List AV)) (j:Nat):Prop where
 len:es.length=ps.length
 le:j≤ps.length
 r3:∀ e∈es,e.length=3
 rep:∀ (q:List TyV),(BN (ps.drop j))[m % cnP (ps.drop j)]? = some q→∀ (i:Nat) p e,q[i]? = some p→es[j+i]? = some e→Ay p e
theorem AtI.next {ps:List Sh} (hw:∀ x∈ps,ShW x) {m:Nat} {es:List (List AV)} {j:Nat} (h:AtI ps m es (j+1)) {hj:j<ps.length} {row:List AV} {hlt:m / cnP (ps.drop (j+1)) % cn ps[j]<cn ps[j]} (hr:Ay ((Cx ps[j])[m / cnP (ps.drop (j+1)) % cn ps[j]]'hlt) row):AtI ps m (es.set j row) j:=by
 obtain ⟨h1,h2,h4,h3⟩:=h
 refine ⟨by simp [h1],by omega,fun e he=>by
  rcases List.mem_or_eq_of_mem_set he with he | rfl
  ·exact h4 e he
  ·obtain ⟨v,rfl,_⟩:=hr.AY;rfl,fun q hq i p e hp he => ?_⟩
 have e1:ps.drop j=ps[j]::ps.drop (j+1):=List.drop_eq_getElem_cons hj
 have hwd:∀ x∈ps.drop (j+1),ShW x:=fun x hx=>hw x (List.mem_of_mem_drop hx)
 have hP:=QU hwd
 have hc:=(hw _ (List.getElem_mem hj)).pos
 rw [e1] at hq
 have hm:m % cnP (ps[j]::ps.drop (j+1))<cn ps[j] * cnP (ps.drop (j+1)):=by
  rw [JY];exact Nat.mod_lt _ (Nat.mul_pos hc hP)
 obtain ⟨g1,g2,g3⟩:=RT ps[j] (ps.drop (j+1)) _ hm
 rw [g3] at hq
 simp only [Option.some.injEq] at hq
 subst hq
 have d1:m % cnP (ps[j]::ps.drop (j+1)) / cnP (ps.drop (j+1))=m / cnP (ps.drop (j+1)) % cn ps[j]:=by
  rw [JY,Nat.mul_comm,Nat.mod_mul_right_div_self]
 have d2:m % cnP (ps[j]::ps.drop (j+1)) % cnP (ps.drop (j+1))=m % cnP (ps.drop (j+1)):=by
  rw [JY,Nat.mod_mul_left_mod]
 cases i with
 | zero=>
  simp only [List.getElem?_cons_zero,Option.some.injEq] at hp
  rw [Nat.add_zero,List.getElem?_set_self (by omega)] at he
  simp only [Option.some.injEq] at he
  subst he
  subst hp
  simp only [d1]
  exact hr
 | succ i=>
  simp only [List.getElem?_cons_succ] at hp
  rw [List.getElem?_set_ne (by omega)] at he
  refine h3 _ ?_ i p e hp (by rw [← he];congr 1;omega)
  rw [← d2]
  exact List.getElem?_eq_getElem _
theorem AtI.div {ps:List Sh} {m j:Nat} (hj:j<ps.length):m / cnP (ps.drop (j+1)) / cn ps[j]=m / cnP (ps.drop j):=by
 rw [Nat.div_div_eq_div_mul,List.drop_eq_getElem_cons hj,JY,Nat.mul_comm]
theorem Yn (a b:Nat) (hb:0<b) (ha:a<9223372036854775808):wr .i64 ((a:Int).tdiv b)=((a / b:Nat):Int):=by
 rw [show (a:Int).tdiv b=((a / b:Nat):Int) from rfl]
 exact Gk (Nat.lt_of_le_of_lt (Nat.div_le_self a b) ha)
theorem Yo (a b:Nat):((a:Int).tmod b)=((a % b:Nat):Int):=rfl
theorem Yp {a b:Nat} (h:b≤a) (ha:a<9223372036854775808):wr .i64 ((a:Int) - (b:Int))=((a - b:Nat):Int):=by
 rw [show (a:Int) - (b:Int)=((a - b:Nat):Int) by omega]
 exact Gk (by omega)
section
variable {l:List AO} {lv:AV} (hl:SlR Ac 3 l lv) (hsl:SmL 1048577 l) (hok:DOK l)
include hl hsl hok
def At25 (l:List AO) (lv:AV) (x:Sh):Prop:=∀ (t:TyV) (xs:List AV) (n:Nat) (hn:n<cn x),AU t xs→Sm 1048577 t→VT l t→Cw l t x→∃ ys,Ay ((Cx x)[n]'hn) ys∧∀ h,AK MX (AH MX) 25 [lv,.agg xs,.int .i64 n] h=some (.ret (.agg ys),h)
theorem Wj {t:TyV} {xs:List AV} (hx:AU t xs) (hst:Sm 1048577 t) (hv:VT l t) {ns:List Bytes} {ss:List (List Sh)} (hs:Cw l t (.cons ns ss)) (hw:ShW (.cons ns ss)) (hb:cn (.cons ns ss)≤65536) {w:AV} (hwr:SlR DR 2 (AQ l t) w) {n:Nat} (hn:n<cn (.cons ns ss)) (T:AE) :
  ∃ (i m:Nat) (h1:i<ns.length) (h2:i<ss.length) (h3:m<cnP ss[i]),(Cx (.cons ns ss))[n]=.mk 0 0 ns[i] ((BN ss[i])[m]'h3)∧cnP ss[i]≤65536 ∧
   Em MX 25 83 (AH MX) (AP Tryz.f25 0) ([(0,lv),(2,.int .i64 n),(6,.hp 1 0),(7,w),(8,.int .i64 (0:Nat))],T)=some (.ext 0,([(0,lv),(2,.int .i64 m),(6,.hp 1 0),(7,w),(8,.int .i64 i),(27,.bool false)],T)):=by
 have h69:=fun i hi hi2 cx hcx=>c69 hl hsl hok hst hv hs (fun s _ x _=>c21 hl hsl hok x) (i:=i) hi hi2 (cx:=cx) hcx
 have hcn:cn (.cons ns ss)=cnC ss:=by simp only [cn,Cx,Mn]
 cases hw with
 | cons _ _ w1 w2 w3 w4 w5 w6 w7=>
 cases hs with
 | cons _ _ _ hb' hk hnn hll hs0 hf0=>
 have hcsm:=Ev hsl hst (by decide)
 have hle:∀ i (hi:i<ss.length),cnP ss[i]≤65536:=fun i hi=>by
  have:=Mo (List.getElem_mem hi);omega
 obtain ⟨e,st,hlp,hq⟩:=AR (M:=MX) (fid:=25) (N:=83) (C:=AH MX) (c:=AP Tryz.f25 0) (n:=ss.length)
  (fun i (m:Nat)=>([(0,lv),(2,.int .i64 m),(6,.hp 1 0),(7,w),(8,.int .i64 i)],T))
  (fun i m=>m<cnC (ss.drop i)∧m≤n∧(CK ns ss)[n]? = (CK (ns.drop i) (ss.drop i))[m]?)
  (fun r=>∃ (i m:Nat) (h1:i<ns.length) (h2:i<ss.length) (h3:m<cnP ss[i]),(CK ns ss)[n]? = some (.mk 0 0 ns[i] ((BN ss[i])[m]'h3))∧r=(.ext 0,([(0,lv),(2,.int .i64 m),(6,.hp 1 0),(7,w),(8,.int .i64 i),(27,.bool false)],T))) (fun i m hi hI=>by
    obtain ⟨j1,j0,j2⟩:=hI
    have hin:i<ns.length:=by omega
    have hic:i<(AQ l t).length:=by omega
    obtain ⟨ce,hce,hcR⟩:=hwr.ix hic
    have hwi:=AZ (show i<ns.length by omega) w3
    have hW:=h69 i hic hi ce hcR
    have hli:=hle i hi
    rw [Gk (show cnP ss[i]<9223372036854775808 by omega)] at hW
    obtain ⟨fv,rfl,hfv⟩:=hcR.dest
    by_cases hge:cnP ss[i]≤m
    ·have hgi:((m:Int) ≥ (cnP ss[i]:Int)):=by omega
     have hsub:=Yp hge (show m<9223372036854775808 by omega)
     refine .inl ⟨m - cnP ss[i],by simp only [cnP] at hW hgi hsub ⊢;simp [Tryz.f25,hce,hW,hgi,hsub,hwi],?_,by omega,by rw [j2,UE w1 hin hi hge]⟩
     rw [OD hi] at j1
     omega
    ·have hgi:¬ ((m:Int) ≥ (cnP ss[i]:Int)):=by omega
     refine .inr ⟨_,_,by simp only [cnP] at hW hgi ⊢;simp [Tryz.f25,hce,hW,hgi] <;> first | exact ⟨rfl,rfl⟩ | rfl,by simp,i,m,hin,hi,by omega,by rw [j2,Wi w1 hin hi (by omega)],rfl⟩) (fun m hI=>by
    obtain ⟨j1,_,_⟩:=hI
    rw [List.drop_of_length_le (Nat.le_refl _)] at j1
    simp [cnC] at j1) n ⟨by rw [List.drop_zero,← hcn];exact hn,Nat.le_refl _,rfl⟩
 obtain ⟨i,m,h1,h2,h3,h4,h5⟩:=hq
 cases h5
 refine ⟨i,m,h1,h2,h3,?_,hle i h2,hlp⟩
 have hl':n<(CK ns ss).length:=hn
 rw [List.getElem?_eq_getElem hl'] at h4
 simp only [Option.some.injEq] at h4
 simpa [Cx] using h4
end
theorem QV {n i:Nat} (hi:i<n):dn n i=((n - 1 - i:Nat):Int)∧(dn n i ≥ 0):=by
 unfold dn;constructor <;> omega
section
variable {l:List AO} {lv:AV} (hl:SlR Ac 3 l lv) (hsl:SmL 1048577 l) (hok:DOK l)
include hl hsl hok
theorem Wl {t:TyV} (hst:Sm 1048577 t) (hv:VT l t) {ns:List Bytes} {ss:List (List Sh)} (hs:Cw l t (.cons ns ss)) (hw:ShW (.cons ns ss)) (ih:∀ s∈ss,∀ x∈s,At25 l lv x) {w:AV} (hwr:SlR DR 2 (AQ l t) w) {i:Nat} (h2:i<ss.length) (hbd:cnP ss[i]≤65536) {m:Nat} (hm:m<cnP ss[i]) (B0 B1:Blk) :
  ∃ (es:List (List AV)) (T:AE) (z:Int),AtI ss[i] m es 0∧Em MX 25 83 (AH MX) (AP Tryz.f25 1) ([(0,lv),(2,.int .i64 m),(6,.hp 1 0),(7,w),(8,.int .i64 i),(9,.hs 2 ss[i].length 3 0 ss[i].length false),(10,.int .i64 (dn ss[i].length 0))],B0::B1::.arr 3 false (List.replicate ss[i].length [.str [],.int .i64 0,.AI])::[])=some (.ext 2,([(0,lv),(2,.int .i64 z),(6,.hp 1 0),(7,w),(8,.int .i64 i),(9,.hs 2 ss[i].length 3 0 ss[i].length false),(10,.int .i64 (-1)),(49,.bool false)],B0::B1::.arr 3 false es::T)):=by
 have hbf:=Qk
 simp [BK,Be,Tryz.f25] at hbf
 cases hw with
 | cons _ _ w1 w2 w3 w4 w5 w6 w7=>
 cases hs with
 | cons _ _ _ hb' hk hnn hll hs0 hf0=>
 have hcsm:=Ev hsl hst (by decide)
 have hic:i<(AQ l t).length:=by omega
 obtain ⟨ce,hce,hcR⟩:=hwr.ix hic
 obtain ⟨fv,rfl,hfv⟩:=hcR.dest
 have hvf:=hok.fld t hv hk hb'
 have hsc:=hcsm.2 _ (List.getElem_mem hic)
 have f1:=hs0 i _ _ (List.getElem?_eq_getElem hic) (List.getElem?_eq_getElem h2)
 have f2:=fun j f y=>hf0 i _ _ j f y (List.getElem?_eq_getElem hic) (List.getElem?_eq_getElem h2)
 have hmem:=List.getElem_mem h2
 obtain ⟨P,hP⟩:∃ P,P=ss[i]:=⟨_,rfl⟩
 rw [← hP] at f1 f2 hm hbd hmem ⊢
 have hwP:=w5 P hmem
 have hPl:=w4 P hmem
 obtain ⟨e,st,hlp,hq⟩:=AR (M:=MX) (fid:=25) (N:=83) (C:=AH MX) (c:=AP Tryz.f25 1) (n:=P.length)
  (fun q (b:List (List AV)×AE)=>([(0,lv),(2,.int .i64 ((m / cnP (P.drop (P.length - q)):Nat):Int)),(6,.hp 1 0),(7,w),(8,.int .i64 i),(9,.hs 2 P.length 3 0 P.length false),(10,.int .i64 (dn P.length q))],B0::B1::.arr 3 false b.1::b.2))
  (fun q b=>q≤P.length∧AtI P m b.1 (P.length - q))
  (fun r=>∃ (b:List (List AV)×AE) (z:Int),AtI P m b.1 0∧r=(.ext 2,([(0,lv),(2,.int .i64 z),(6,.hp 1 0),(7,w),(8,.int .i64 i),(9,.hs 2 P.length 3 0 P.length false),(10,.int .i64 (-1)),(49,.bool false)],B0::B1::.arr 3 false b.1::b.2))) (fun q b hq hI=>by
    obtain ⟨es,T⟩:=b
    obtain ⟨j0,j1⟩:=hI
    simp only at j1
    obtain ⟨d1,d2⟩:=QV hq
    obtain ⟨j,hj⟩:∃ j,j=P.length - 1 - q:=⟨_,rfl⟩
    rw [← hj] at d1
    have e1:P.length - q=j+1:=by omega
    have e2:P.length - (q+1)=j:=by omega
    have hjP:j<P.length:=by omega
    rw [e1] at j1
    simp only [e1,e2]
    have hjf:j<(AQ l t)[i].fields.length:=by omega
    obtain ⟨fe,hfe,hfR⟩:=hfv.ix hjf
    obtain ⟨tx,rfl,htx⟩:=hfR
    have hmf:=List.getElem_mem hjf
    have hsh:=f2 j _ _ (List.getElem?_eq_getElem hjf) (List.getElem?_eq_getElem hjP)
    have hvt:=hvf _ (List.getElem_mem hic) _ hmf
    have hsf:=(hsc.2.2 _ hmf).2
    have hpos:=(hwP _ (List.getElem_mem hjP)).pos
    have hcle:cn P[j]≤65536:=Nat.le_trans (Mp hwP (List.getElem_mem hjP)) hbd
    have h21:=c21 hl hsl hok P[j] _ tx htx hsf hvt hsh
    rw [Gk (show cn P[j]<9223372036854775808 by omega)] at h21
    have hlt:m / cnP (P.drop (j+1)) % cn P[j]<cn P[j]:=Nat.mod_lt _ hpos
    obtain ⟨ys,hys,h25⟩:=ih P hmem P[j] (List.getElem_mem hjP) _ tx _ hlt htx hsf hvt hsh
    have hnx:=AtI.next hwP j1 (hj:=hjP) hys
    obtain ⟨u,hu⟩:∃ u,u=(Cx P[j])[m / cnP (P.drop (j+1)) % cn P[j]]'hlt:=⟨_,rfl⟩
    rw [← hu] at hys
    obtain ⟨yv,rfl,hyv⟩:=hys.AY
    have hmle:m / cnP (P.drop (j+1))≤m:=Nat.div_le_self _ _
    have hdv:=Yn (m / cnP (P.drop (j+1))) (cn P[j]) hpos (by omega)
    rw [AtI.div hjP] at hdv
    have hmd:=Yo (m / cnP (P.drop (j+1))) (cn P[j])
    have hne:¬ (cn P[j]=0):=by omega
    obtain ⟨c,hc⟩:∃ c,c=cn P[j]:=⟨_,rfl⟩
    obtain ⟨D,hD⟩:∃ D,D=m / cnP (P.drop (j+1)):=⟨_,rfl⟩
    obtain ⟨D',hD'⟩:∃ D',D'=m / cnP (P.drop j):=⟨_,rfl⟩
    rw [← hc] at hne hmd hdv h21 h25
    rw [← hD] at hmd hdv h25 ⊢
    rw [← hD'] at hdv ⊢
    simp only [Int.natCast_emod] at h25
    simp at hdv
    have hix:ixA 3 (.hs 2 P.length 3 0 P.length false) (.int .i64 (j:Int))=some (.ep 2 P.length 3 j 0):=by
     rw [A8 (kd:=.i64) (hi:=hjP),Nat.zero_add]
    have hel:es.length=P.length:=j1.len
    have hej:∃ r,es[j]? = some r∧r.length=3:=⟨_,List.getElem?_eq_getElem (show j<es.length by omega),j1.r3 _ (List.getElem_mem _)⟩
    obtain ⟨r,her,hrl⟩:=hej
    obtain ⟨a1,a2,a3,rfl⟩:∃ a1 a2 a3,r=[a1,a2,a3]:=by
     match r,hrl with
     | [a1,a2,a3],_=>exact ⟨a1,a2,a3,rfl⟩
    have hwd:wr .i64 ((j:Int) - 1)=dn P.length (q+1):=by
     rw [show (j:Int) - 1=dn P.length (q+1) by unfold dn;omega]
     by_cases h0:0≤dn P.length (q+1)
     ·exact BD h0 (by unfold dn;omega)
     ·have:dn P.length (q+1) = -1:=by unfold dn at h0 ⊢;omega
      rw [this];decide
    obtain ⟨qv,rfl,hqv⟩:=htx.AY
    refine .inl ⟨(es.set j [.str u.nm,.int .i64 u.v,yv],T++[.var false [.int .i64 (AQ l t)[i].fields[j].ty.k,.int .i64 (AQ l t)[i].fields[j].ty.v,.str (AQ l t)[i].fields[j].ty.nm,qv]]),?_,by omega,hnx⟩
    simp [Tryz.f25,d1,hce,hfe,h21,hmd,hne,h25,hdv,hix,hel,her,hwd,hbf,hl.AD,hqv.AD,AG,AV.AD])
    (fun b hI=>by
    obtain ⟨es,T⟩:=b
    obtain ⟨_,j1⟩:=hI
    have hd:dn P.length P.length = -1:=by unfold dn;omega
    exact ⟨_,_,by simp [Tryz.f25,hd] <;> first | exact ⟨rfl,rfl⟩ | rfl,by simp,(es,T),_,by simpa using j1,rfl⟩) (List.replicate P.length [.str [],.int .i64 0,.AI],[]) ⟨by omega,by simp,by omega,fun e he=>by rw [(List.mem_replicate.1 he).2];rfl,fun q hq i p e hp he=>by
     simp only [Nat.sub_zero,List.drop_length] at hq
     have hq':q∈BN []:=List.mem_of_getElem? hq
     simp [BN] at hq'
     subst hq'
     simp at hp⟩
 obtain ⟨⟨es,T⟩,z,q1,q2⟩:=hq
 simp only [Prod.mk.injEq] at q1 q2
 obtain ⟨rfl,rfl⟩:=q2
 refine ⟨es,T,z,q1,?_⟩
 have e0:m / cnP (P.drop (P.length - 0))=m:=by simp [cnP,BN]
 simp only [e0] at hlp
 exact hlp
end
section
variable {l:List AO} {lv:AV} (hl:SlR Ac 3 l lv) (hsl:SmL 1048577 l) (hok:DOK l)
include hl hsl hok
theorem c25 (s:Sh):ShW s→cn s≤65536→At25 l lv s:=by
 intro hw
 induction hw with
 | bit n h0 h1=>
  intro hb t xs m hm hx hst hv hs
  have hn:([lv,AV.agg xs,.int .i64 m]:List AV).all AV.AD=true:=by simp [AV.AD,hx.AG,hl.AD]
  have hB:=c66 hx
  obtain ⟨pv,rfl,hp⟩:=hx.AY
  have hib:DF t=true:=by cases hs;assumption
  refine ⟨[.str [],.int .i64 m,.AI],?_,fun h=>Ae Pg SL hn rfl (hr:=_) (by simp [AN,Tryz.f25,hB,hib] <;> rfl) h⟩
  have:(Cx (.bit n))[m]=.mk 0 m [] []:=by simp [Cx]
  rw [this]
  exact Ay.intro (.inl ⟨rfl,rfl⟩)
 | cons ns ss w1 w2 w3 w4 w5 w6 w7 ih=>
  intro hb t xs m hm hx hst hv hs
  have hW:ShW (.cons ns ss):=.cons ns ss w1 w2 w3 w4 w5 w6 w7
  have hn:([lv,AV.agg xs,.int .i64 m]:List AV).all AV.AD=true:=by simp [AV.AD,hx.AG,hl.AD]
  have hB:=c66 hx
  have hcn:cn (.cons ns ss)=cnC ss:=by simp only [cn,Cx,Mn]
  have hib:DF t=false:=by cases hs;assumption
  have hk:t.k≠2:=by cases hs;assumption
  obtain ⟨w,hwr,h68⟩:=c68 hl hsl hx hst (hok.has t hv hk hib)
  have hih:∀ s∈ss,∀ x∈s,At25 l lv x:=fun s hs' x hx'=>ih s hs' x hx' (by
   have h1:=Mp (w5 s hs') hx'
   have h2:=Mo hs'
   omega)
  obtain ⟨pv,rfl,hp⟩:=hx.AY
  obtain ⟨i,q,h1,h2,h3,h4,h5,hl1⟩:=Wj hl hsl hok hx hst hv hs hW hb hwr hm [Blk.var false [.int .i64 t.k,.int .i64 t.v,.str t.nm,pv],Blk.var false [.str [],.int .i64 0,.AI]]
  obtain ⟨es,T,z,g1,hl2⟩:=Wl hl hsl hok hst hv hs hW hih hwr h2 h5 h3 (Blk.var false [.int .i64 t.k,.int .i64 t.v,.str t.nm,pv]) (Blk.var false [.str [],.int .i64 0,.AI])
  have hms:=ms_32 ss[i].length (w4 _ (List.getElem_mem h2))
  have hic:i<(AQ l t).length:=by
   cases hs with
   | cons _ _ _ _ _ hnn hll _ _=>omega
  have hnm:(AQ l t)[i].nm=ns[i]∧(AQ l t)[i].fields.length=ss[i].length:=by
   cases hs with
   | cons _ _ _ _ _ hnn hll hs0 _=>
    refine ⟨?_,(hs0 i _ _ (List.getElem?_eq_getElem hic) (List.getElem?_eq_getElem h2)).symm⟩
    simp [hnn]
  obtain ⟨n1,n2⟩:=hnm
  obtain ⟨ce,hce,hcR⟩:=hwr.ix hic
  obtain ⟨fv,rfl,hfv⟩:=hcR.dest
  rw [n1] at hce
  have hfl:=hfv.len
  rw [n2] at hfl
  simp [Tryz.f25] at hl1 hl2
  have hdn:dn ss[i].length 0=(ss[i].length:Int) - 1:=by unfold dn;omega
  rw [hdn] at hl2
  have hwd:wr .i64 ((ss[i].length:Int) - 1)=(ss[i].length:Int) - 1:=by
   by_cases h0:0≤(ss[i].length:Int) - 1
   ·exact BD h0 (by have:=w4 _ (List.getElem_mem h2);omega)
   ·have:(ss[i].length:Int) - 1 = -1:=by omega
    rw [this];decide
  obtain ⟨g2,g3,g4,g5⟩:=g1
  have hq:(BN (ss[i].drop 0))[q % cnP (ss[i].drop 0)]? = some (BN ss[i])[q]:=by
   rw [List.drop_zero,Nat.mod_eq_of_lt h3];exact List.getElem?_eq_getElem h3
  have hpl:=(IM _ _ (List.getElem_mem h3)).1
  have hrep:∀ (j:Nat) p e,((BN ss[i])[q])[j]? = some p→es[j]? = some e→Ay p e:=fun j p e a b=>g5 _ hq j p e a (by rw [Nat.zero_add];exact b)
  have hnr:es.all AG=true:=BR (by rw [g2,hpl]) hrep (fun a e h=>h.AG)
  have hsn:BC 9 (.agg [.str ns[i],.int .i64 0,.hs 2 ss[i].length 3 0 ss[i].length false]) (Blk.var false [.int .i64 t.k,.int .i64 t.v,.str t.nm,pv]::Blk.var false [.str ns[i],.int .i64 0,.hs 2 ss[i].length 3 0 ss[i].length false]::.arr 3 false es::T) (.agg [.str ns[i],.int .i64 0,.sl 3 false es]) (Blk.var false [.int .i64 t.k,.int .i64 t.v,.str t.nm,pv]::Blk.var false [.str ns[i],.int .i64 0,.hs 2 ss[i].length 3 0 ss[i].length false]::.arr 3 true es::T):=by
   refine (BC.agg rfl (A9.cons (BC.flat (c:=.str ns[i]) rfl _) (A9.cons (BC.flat (c:=.int .i64 0) rfl _) (A9.cons (K:=1) (fun n => ?_) (A9.nil _))))).mono (by decide)
   have hb:(Nat.beq es.length ss[i].length&&Nat.beq 3 3&&Nat.ble (0+ss[i].length) es.length&&es.all AG)=true:=by
    rw [hnr,g2];simp [A2,A7]
   simp [Am.snap,hb,← g2,hnr]
  refine ⟨[.str ns[i],.int .i64 0,.sl 3 false es],?_,fun h=>Hy Pg SL hn rfl (hsn.at (by decide)) (by simp [AV.AD,AG] <;> exact List.all_eq_true.1 hnr) (hr:=_) (by
   simp [AN,Tryz.f25,hB,hib,h68,hl1,hce,hfl,hms,Av,hwd,hl2] <;> rfl) h⟩
  rw [h4]
  exact Ay.intro (.inr ⟨false,es,rfl,by rw [g2,hpl],hrep⟩)
end
section
variable {k:Dx} {xs:List AV} (hx:DS k xs) (hsk:SmT 1048577 k)
include hx hsk
theorem c38 (hE:(Aq k.data k.ty k.arms).2=0):∃ w,SlR Ay 3 (Cx (CY k.data k.ty)) w∧∀ h,AK MX (AH MX) 38 [.agg xs] h=some (.ret w,h):=by
 have h1:DD k.data k.ty=0:=(JW hE).1
 obtain ⟨a,b,c⟩:=Gf h1
 have hle:=IP hsk.1 hsk.2.1 h1
 obtain ⟨hw,_,_,_⟩:=LB hsk hE
 have hxn:AG xs=true:=by obtain ⟨dv,pv,av,rfl,hd,hp,ht,ha⟩:=hx.dest;simp [AV.AD,AG,hd.AD,hp.AD,ha.AD]
 obtain ⟨dv,pv,av,rfl,hd,hp,ht,ha⟩:=hx.dest
 have h21:=c21 hd hsk.1 (HX a).dok _ k.ty _ ht hsk.2.1 b c
 rw [Gk (show cn (CY k.data k.ty)<9223372036854775808 by simp only [cn];omega)] at h21
 have h25:=c25 hd hsk.1 (HX a).dok _ hw hle
 obtain ⟨L,hL⟩:∃ L,L=Cx (CY k.data k.ty):=⟨_,rfl⟩
 have hcn:cn (CY k.data k.ty)=L.length:=by rw [hL]
 rw [hcn] at h21
 have h25':∀ (n:Nat) (hn:n<L.length),∃ ys,Ay L[n] ys∧∀ h,AK MX (AH MX) 25 [dv,.agg [.int .i64 k.ty.k,.int .i64 k.ty.v,.str k.ty.nm,pv],.int .i64 n] h=some (.ret (.agg ys),h):=fun n hn=>by
  subst hL
  exact h25 k.ty _ n hn ht hsk.2.1 b c
 rw [← hL] at hle ⊢
 obtain ⟨e,st,hlp,hq⟩:=AR (M:=MX) (fid:=38) (N:=26) (C:=AH MX) (c:=AP Tryz.f38 0) (n:=L.length)
  (fun i (b:AV×AE×List (List AV))=>([(1,.hp 0 0),(3,b.1),(4,.int .i64 L.length),(5,.int .i64 i)],Blk.var false (tcs k dv pv av)::b.2.1))
  (fun i b=>Af 3 1 b.2.1 b.1 b.2.2∧b.2.2.length=(L.take i).length∧∀ (j:Nat) t e,(L.take i)[j]? = some t→b.2.2[j]? = some e→Ay t e)
  (fun r=>∃ b:AV×AE×List (List AV),r=(.ext 0,([(1,.hp 0 0),(3,b.1),(4,.int .i64 L.length),(5,.int .i64 L.length),(13,.bool false)],Blk.var false (tcs k dv pv av)::b.2.1))∧Af 3 1 b.2.1 b.1 b.2.2∧b.2.2.length=L.length∧∀ (j:Nat) t e,L[j]? = some t→b.2.2[j]? = some e→Ay t e) (fun i b hi hI=>by
    obtain ⟨a,rest,es⟩:=b
    obtain ⟨i1,i2,i3⟩:=hI
    simp only at i1 i2 i3
    have hi':=Aa hi
    have hwr:=AZ hi (show L.length<1048577 by omega)
    obtain ⟨ys,hys,hc25⟩:=h25' i hi
    have hyn:=hys.AG
    obtain ⟨j1,j2⟩:=EY i2 i3 hys
    rw [Cj hi] at j1 j2
    obtain ⟨yv,rfl,hyv⟩:=hys.AY
    obtain ⟨a',rest',hap,hacc⟩:=Af.push (byt:=48) (P:=[Blk.var false (tcs k dv pv av)]) [.str L[i].nm,.int .i64 L[i].v,yv] true i1 (by decide) (by decide) (by rw [i2,List.length_take];omega)
    simp only [List.cons_append,List.nil_append] at hap
    exact .inl ⟨(a',rest',es++[[.str L[i].nm,.int .i64 L[i].v,yv]]),by simp [Tryz.f38,hi',hc25,hwr,hap,bsA,Ak,List.replicate,AG,AV.AD,hyv.AD],hacc,j1,j2⟩) (fun b hI=>by
    obtain ⟨a,rest,es⟩:=b
    obtain ⟨i1,i2,i3⟩:=hI
    rw [List.take_length] at i2 i3
    exact ⟨_,_,by simp [Tryz.f38] <;> first | exact ⟨rfl,rfl⟩ | rfl,by simp,(a,rest,es),rfl,i1,i2,i3⟩) (.AI,[],[]) ⟨Af.nil _ _ _,by simp,fun j t e h=>by simp at h⟩
 obtain ⟨⟨a,rest,es⟩,hq,q1,q2,q3⟩:=hq
 simp only at q1 q2 q3 hq
 cases hq
 simp [Tryz.f38] at hlp
 obtain ⟨v',rest',hsn,hrep,heq⟩:=JN (P:=[Blk.var false (tcs k dv pv av)]) (fun a e h=>h.AG) q1 q2 q3
 exact ⟨v',hrep,fun h=>QG U1 Xt (by simp [AV.AD,hxn]) hsn (by decide) hrep.AD heq (by simp [AN,Tryz.f38,h21,hlp]) h⟩
end
end Go.Proofs.Am12
namespace Go.Proofs.Am12
open Go Go.Am
end Go.Proofs.Am12
namespace Go.Proofs.Am12
open Go Go.Am
attribute [local simp] Dq B8 EL Dr CS Ds Dt Ee BT BP Bb Ap Fy Ez D9 Gn D1 A4 El EA Gp Gq xUn Ej D2 E0 BF C7 BG D3 BH D4 Cb CV Bx BE EB EK
 ev evs C3 C4 OR.ofV OR.DQ OR.ofC E6 Tm.get Tm.init Tm.only A2 A7 CF finish B6 Cm Gm Db D0 unA CA Bg CB Bh Cp Cq Cr Bi Cs Ct Bj Cu Cv Bk CC AP CJ Bf Cn Co B9 Ef Eg Eh Du Dv FM Fa Fb FN stA A3 DE B7 C8 Ek GH CD DA CG E1 GI
set_option maxHeartbeats 1000000
attribute [local simp] DH CU CM Bl DI DJ DK DL DM DN DP ES Cy ET Df FC FD Ga Dg EU Dh BU Di BV Dj CP EV Cz FE FF FG C0 Dk Dl FH Gb FI Gc Gd Dm BW C1 CQ Dn Dp C2
theorem RU {l:List AO} {w:AV} (hw:SlR Ac 3 l w) {ps:List TyV} {pv:AV} (hp:SlR AU 4 ps pv) {es:List (List AV)} (hnr:es.all AG=true) {id m:Nat} (hm:m≤es.length) {lk:Bool} {H:AE} (hH:H[id]? = some (.arr 4 lk es)) {kk vv:Int} {nm:Bytes} :
  Ax [.agg [w,.int .i64 kk,.int .i64 vv,.str nm,pv,.hs id es.length 4 0 m false]] H=some ([.agg [w,.int .i64 kk,.int .i64 vv,.str nm,pv,.sl 4 false (es.take m)]],H.set id (.arr 4 true es)):=by
 have h6:BC 1 (.hs id es.length 4 0 m false) H (.sl 4 false (es.take m)) (H.set id (.arr 4 true es)):=fun n=>by
  have hb:(Nat.beq es.length es.length&&Nat.beq 4 4&&Nat.ble (0+m) es.length&&es.all AG)=true:=by
   rw [hnr];simp [A2,A7,hm]
  simp only [Am.snap,hH,hb]
  simp
 have hn:AG [w,.int .i64 kk,.int .i64 vv,.str nm,pv,.hs id es.length 4 0 m false]=false:=by simp [AG,AV.AD,hw.AD,hp.AD]
 have hs:=(BC.agg hn (A9.cons (SlR.Kh hw H) (A9.cons (BC.flat (c:=.int .i64 kk) rfl H) (A9.cons (BC.flat (c:=.int .i64 vv) rfl H) (A9.cons (BC.flat (c:=.str nm) rfl H) (A9.cons (SlR.Kh hp H) (A9.cons h6 (A9.nil _)))))))).at (by decide)
 have hn':AV.AD (.agg [w,.int .i64 kk,.int .i64 vv,.str nm,pv,.hs id es.length 4 0 m false])=false:=hn
 simp only [Ax,hn',hs]
theorem UF:MX.prim 10=some (Gv [([],.bool true)]):=rfl
section
variable {dv pv av:AV} {kk kv:Int} {knm:Bytes} {R:AE}
variable {d e:Int} {O ys:List AV} {Y Y':AE}
end
section
variable {dv pv av:AV} {kk kv:Int} {knm:Bytes} {R:AE}
variable {d e f:Int} {b:Bool} {p:Nat} {w:AV}
end
section
variable {dv pv av:AV} {kk kv:Int} {knm:Bytes} {R:AE}
variable {f:Int} {b c:Bool} {p n:Nat} {w:AV}
variable {w0 pv':AV} {es:List (List AV)} {m:Nat}
end
section
variable {dv pv av:AV} {kk kv:Int} {knm:Bytes} {R:AE}
variable {f:Int} {b c:Bool} {p n:Nat} {w:AV} {w0 pv':AV} {es:List (List AV)} {m:Nat}
end
end Go.Proofs.Am12
namespace Go.Proofs.Am12
open Go Go.Am
theorem XT {l:List AO} {rec:Rec} {D:Nat} (hr:∀ t c s,Cw l t s→(rec t c).2=0→shD s≤D):∀ (fs:List CO) (ss:List Sh) c,ss.length=fs.length→(∀ (j:Nat) f y,fs[j]? = some f→ss[j]? = some y→Cw l f.ty y)→(eFs rec fs c).2=0→K2 ss≤D
 | [],[],c,_,_,_=>by simp [K2]
 | f::r,x::ss,c,hl,hs,h=>by
  simp only [eFs] at h
  split at h
  ·rename_i hz
   have h1:=hr f.ty c x (hs 0 _ _ rfl rfl) hz
   have h2:=XT hr r ss _ (by simpa using hl) (fun j f y a b=>hs (j+1) f y (by simpa using a) (by simpa using b)) h
   simp only [K2]
   omega
  ·rename_i hz;exact absurd h hz
 | [],_::_,_,h,_,_=>by simp at h
 | _::_,[],_,h,_,_=>by simp at h
theorem XU {l:List AO} {rec:Rec} {D:Nat} (hr:∀ t c s,Cw l t s→(rec t c).2=0→shD s≤D):∀ (cs:List Bm) (ss:List (List Sh)) c,ss.length=cs.length→(∀ (i:Nat) k s,cs[i]? = some k→ss[i]? = some s→s.length=k.fields.length∧∀ (j:Nat) f y,k.fields[j]? = some f→s[j]? = some y→Cw l f.ty y)→(eCs rec cs c).2=0→Ig ss≤D
 | [],[],c,_,_,_=>by simp [Ig]
 | k::r,s::ss,c,hl,hs,h=>by
  simp only [eCs] at h
  split at h
  ·rename_i hz
   obtain ⟨a1,a2⟩:=hs 0 _ _ rfl rfl
   have h1:=XT hr k.fields s c a1 a2 hz
   have h2:=XU hr r ss _ (by simpa using hl) (fun i k s a b=>hs (i+1) k s (by simpa using a) (by simpa using b)) h
   simp only [Ig]
   omega
  ·rename_i hz;exact absurd h hz
 | [],_::_,_,h,_,_=>by simp at h
 | _::_,[],_,h,_,_=>by simp at h
theorem QW {l:List AO} {r:Option Rec} {D:Nat} (hr:∀ rec,r=some rec→∀ t c s,Cw l t s→(rec t c).2=0→shD s≤D) (t:TyV) (c:Int) (s:Sh) (hs:Cw l t s) (h:(DB l r t c).2=0):r≠none∧shD s≤D+1:=by
 unfold DB at h
 split at h
 ·cases h
 split at h
 ·cases h
 split at h
 ·cases h
 split at h
 ·cases h
 split at h
 ·cases h
 cases r with
 | none=>cases h
 | some rec=>
  refine ⟨by simp,?_⟩
  simp only at h
  cases hs with
  | bit _ hb hw h2=>simp [shD]
  | cons _ ns ss hb hk hn hl h3 hf=>
   have hbn:¬ (DF t=true):=by rw [hb];decide
   rw [if_neg hbn] at h
   have:=XU (hr rec rfl) _ ss _ hl (fun i k s a b=>⟨h3 i k s a b,fun j f y d e=>hf i k s j f y a b d e⟩) h
   simp only [shD]
   omega
theorem UG (l:List AO):∀ n t c s,Cw l t s→(DZ l n t c).2=0→shD s≤n
 | 0=>fun t c s hs h=>absurd rfl (QW (D:=0) (r:=none) (fun rec h=>by cases h) t c s hs h).1
 | n+1=>fun t c s hs h=>(QW (D:=n) (fun rec h=>by cases h;exact UG l n) t c s hs h).2
theorem QX:∀ {ps:List TyV} {xs:List Sh},ps.length=xs.length→(∀ (j:Nat) x p,xs[j]? = some x→ps[j]? = some p→cnt p≤shN x∧dp p≤shD x)→IW ps≤Iz xs∧dps ps≤K2 xs
 | [],[],_,_=>by simp [IW,Iz,dps,K2]
 | p::ps,x::xs,hl,h=>by
  obtain ⟨h1,h2⟩:=h 0 x p rfl rfl
  obtain ⟨h3,h4⟩:=QX (ps:=ps) (xs:=xs) (by simpa using hl) fun j x p a b=>h (j+1) x p (by simpa using a) (by simpa using b)
  simp only [IW,Iz,dps,K2]
  omega
 | [],_::_,h,_=>by simp at h
 | _::_,[],h,_=>by simp at h
theorem UH {s:Sh} (h:ShW s):∀ u∈Cx s,cnt u≤shN s∧dp u≤shD s:=by
 induction h with
 | bit m h0 h1=>
  intro u hu
  simp only [Cx,List.mem_map,List.mem_range] at hu
  obtain ⟨i,hi,rfl⟩:=hu
  simp [cnt,IW,dp,dps,shN,shD]
 | cons ns ss h1 h2 h3 h4 h5 h6 h7 ih=>
  intro u hu
  obtain ⟨i,g1,g2,ps,hps,rfl⟩:=Ji ns ss u h1 hu
  obtain ⟨p1,p2⟩:=IM _ _ hps
  have hm:=List.getElem_mem g2
  obtain ⟨q1,q2⟩:=QX p1 fun j x p a b=>ih _ hm x (List.mem_of_getElem? a) p (p2 j x p a b)
  have a1:=Jj hm
  have a2:∀ {s:List Sh} {r:List (List Sh)},s∈r→K2 s≤Ig r:=by
   intro s r
   induction r with
   | nil=>intro h;cases h
   | cons y r ih=>
    intro h
    simp only [Ig]
    rcases List.mem_cons.1 h with rfl | h
    ·omega
    ·have:=ih h;omega
  have a3:=a2 hm
  simp only [cnt,dp,shN,shD]
  omega
theorem OE {l:List AO} {t:TyV} (hsl:SmL 1048577 l) (hst:Sm 1048577 t) (h:DD l t=0):∀ u∈Cx (CY l t),PM (CY l t) u=0:=by
 obtain ⟨a,b,c⟩:=Gf h
 have hw:=PR a hsl c b hst
 unfold DD at h
 rw [if_pos a] at h
 unfold FU at h
 split at h
 ·split at h
  ·rename_i hz
   intro u hu
   have hN:=PS l 40 t 0 _ c hz
   have hR:=(Ge l 40 t 0 (by decide) (by decide)).2.2 hz
   have hD:=UG l 40 t 0 _ c hz
   obtain ⟨c1,c2⟩:=UH hw u hu
   have ht:=(Nx u 1 0 (by decide) (by decide)).1 ⟨by omega,by omega⟩
   have hT:A1 u=true:=by
    unfold A1
    rw [ht,decide_eq_true_iff]
    omega
   unfold PM
   rw [if_pos hT]
   exact (Mm hw u hu).1
  ·rename_i hz;exact absurd h hz
 ·rename_i hz;exact absurd h hz
end Go.Proofs.Am12
namespace Go.Proofs.Am12
open Go Go.Am
attribute [local simp] Dq B8 EL Dr CS Ds Dt Ee BT BP Bb Ap Fy Ez D9 Gn D1 A4 El EA Gp Gq xUn Ej D2 E0 BF C7 BG D3 BH D4 Cb CV Bx BE EB EK
 ev evs C3 C4 OR.ofV OR.DQ OR.ofC E6 Tm.get Tm.init Tm.only A2 A7 CF finish B6 Cm Gm Db D0 unA CA Bg CB Bh Cp Cq Cr Bi Cs Ct Bj Cu Cv Bk CC AP CJ Bf Cn Co B9 Ef Eg Eh Du Dv FM Fa Fb FN stA A3 DE B7 C8 Ek GH CD DA CG E1 GI
set_option maxHeartbeats 1000000
attribute [local simp] DH CU CM Bl DI DJ DK DL DM DN DP ES Cy ET Df FC FD Ga Dg EU Dh BU Di BV Dj CP EV Cz FE FF FG C0 Dk Dl FH Gb FI Gc Gd Dm BW C1 CQ Dn Dp C2
section
variable {l:List AO} {lv:AV} (hl:SlR Ac 3 l lv) (hsl:SmL 1048577 l) (hok:DOK l)
include hl hsl hok
end
section
variable {l:List AO} {lv:AV} (hl:SlR Ac 3 l lv) (hsl:SmL 1048577 l) (hok:DOK l)
include hl hsl hok
end
section
variable {N i:Nat} {w:AV} {B:Blk} {T:AE} {v:AV}
end
section
variable {k:Dx} {xs:List AV} (hx:DS k xs) (hsk:SmT 1048577 k)
include hx hsk
end
section
variable {dv pv av:AV} {kk kv:Int} {knm:Bytes} {R:AE}
variable {d e f g:Int} {O ys:List AV} {Y Y':AE} {p:Nat} {u n w:AV}
end
section
variable {dv pv av:AV} {kk kv:Int} {knm:Bytes} {R:AE}
variable {d e f g s:Int} {p:Nat} {u n w a a1 a2 a3:AV} {H H':AE}
end
end Go.Proofs.Am12
namespace Go.Proofs.Am12
open Go Go.Am
section
variable {k:Dx} (hlen:(Cx (CY k.data k.ty)).length≤65536)
include hlen
end
end Go.Proofs.Am12
namespace Go.Proofs.Am12
open Go Go.Am
attribute [local simp] Dq B8 EL Dr CS Ds Dt Ee BT BP Bb Ap Fy Ez D9 Gn D1 A4 El EA Gp Gq xUn Ej D2 E0 BF C7 BG D3 BH D4 Cb CV Bx BE EB EK
 ev evs C3 C4 OR.ofV OR.DQ OR.ofC E6 Tm.get Tm.init Tm.only A2 A7 CF finish B6 Cm Gm Db D0 unA CA Bg CB Bh Cp Cq Cr Bi Cs Ct Bj Cu Cv Bk CC AP CJ Bf Cn Co B9 Ef Eg Eh Du Dv FM Fa Fb FN stA A3 DE B7 C8 Ek GH CD DA CG E1 GI
set_option maxHeartbeats 1000000
attribute [local simp] DH CU CM Bl DI DJ DK DL DM DN DP ES Cy ET Df FC FD Ga Dg EU Dh BU Di BV Dj CP EV Cz FE FF FG C0 Dk Dl FH Gb FI Gc Gd Dm BW C1 CQ Dn Dp C2
end Go.Proofs.Am12
namespace Go.Proofs.Am12
open Go Go.Am
attribute [local simp] Dq B8 EL Dr CS Ds Dt Ee BT BP Bb Ap Fy Ez D9 Gn D1 A4 El EA Gp Gq xUn Ej D2 E0 BF C7 BG D3 BH D4 Cb CV Bx BE EB EK
 ev evs C3 C4 OR.ofV OR.DQ OR.ofC E6 Tm.get Tm.init Tm.only A2 A7 CF finish B6 Cm Gm Db D0 unA CA Bg CB Bh Cp Cq Cr Bi Cs Ct Bj Cu Cv Bk CC AP CJ Bf Cn Co B9 Ef Eg Eh Du Dv FM Fa Fb FN stA A3 DE B7 C8 Ek GH CD DA CG E1 GI
set_option maxHeartbeats 1000000
attribute [local simp] DH CU CM Bl DI DJ DK DL DM DN DP ES Cy ET Df FC FD Ga Dg EU Dh BU Di BV Dj CP EV Cz FE FF FG C0 Dk Dl FH Gb FI Gc Gd Dm BW C1 CQ Dn Dp C2
namespace Lg
theorem Iw {H:AE} {id m n:Nat} {es:List (List AV)} {row:List AV} (h:H[id]? = some (.arr 4 false es)) (hn:H[n]? = some (.arr 4 false [row])) (hm:m≤es.length) (hm0:es≠[]) (hl:m<4294967296) :
  ∃ es3,apA 4 56 (.hs id es.length 4 0 m false) (.hs n 1 4 0 1 false) H=some (.hs id es3.length 4 0 (m+1) false,H.set id (.arr 4 false es3))∧m+1≤es3.length∧es3.length≤max es.length (m+1)∧(∀ j,j<m→es3[j]? = es[j]?)∧es3[m]? = some row:=by
 have hrd:Az H (.hs n 1 4 0 1 false)=some [row]:=by simp [Az,hn,A2,A7]
 have e2:(m+1) * 56≤17592186044416:=by omega
 have e3:m+1≤17592186044416:=by omega
 by_cases hme:m=es.length
 ·subst hme
  refine ⟨es++[row],?_,by simp,by simp,fun j hj=>List.getElem?_append_left hj,by simp⟩
  simp [apA,apX,hrd,CE,BO,FQ,Av,A2,A7,CF,e2,e3,h]
 ·have hml:m<es.length:=by omega
  have hlen:(es.take m++[row]++es.drop (m+1)).length=es.length:=by simp;omega
  refine ⟨es.take m++[row]++es.drop (m+1),?_,by rw [hlen];omega,by rw [hlen];omega,fun j hj => ?_,?_⟩
  ·rw [hlen]
   have b1:Nat.beq m es.length=false:=by rw [Bool.eq_false_iff];simp [Bs];omega
   have b2:decide (es.length<m+1)=false:=by simp;omega
   have b3:decide (m+1≤es.length)=true:=by simp;omega
   simp [apA,apX,hrd,CE,BO,FQ,Av,A2,A7,CF,e2,e3,h,hme,Nat.le_of_lt hml,b2,b3,show ¬ es.length<m+1 by omega,show m+1≤es.length by omega]
  ·rw [List.append_assoc,List.getElem?_append_left (by simp;omega),List.getElem?_take_of_lt hj]
  ·rw [List.append_assoc,List.getElem?_append_right (by simp;omega)]
   simp [Nat.min_eq_left (Nat.le_of_lt hml)]
def Fs (st:List (TyV×Int)) (es:List (List AV)):Prop:=st.length≤es.length∧∀ (i:Nat) q e,st[i]? = some q→es[i]? = some e→∃ xs,Ay q.1 xs∧e=xs++[.int .i64 q.2]
theorem c103 {p:TyV} {pv:AV} (H:AE):AK MX (AH MX) 103 [.agg [.str p.nm,.int .i64 p.v,pv]] H=some (.ret pv,H++[.var false [.str p.nm,.int .i64 p.v,pv]]):=by
 exact BI SU VL (by simp [AN,Tryz.f103])
theorem UI {H0:AE} {p:TyV} {pv:AV} (hp:SlR Ay 3 p.ps pv) (hpl:p.ps.length<1048577) {d:Int} (hd0:0≤d) (hd1:d≤40) {k:Nat} {st:List (TyV×Int)} {x0:AV} {L:Nat} {B0:Blk} {es:List (List AV)} {rest:AE} (hL:(B0::.arr 4 false es::rest)[L]? = some (.var false [.str p.nm,.int .i64 p.v,x0,.int .i64 d])) (hrep:Fs st es) (hne:es≠[]) (hL2:2≤L) (hsz:es.length≤1+k * 1048577) (hst:st.length≤1+k * 1048577) (hk:k≤200) :
  ∃ (es':List (List AV)) (rest':AE),Em MX 102 54 (AH MX) (AP Tryz.f102 1) ([(1,.fn 103 [] []),(5,.int .i64 (k+1:Nat)),(6,.hs 1 es.length 4 0 st.length false),(7,.hp L 0),(39,pv),(40,.int .i64 p.ps.length),(41,.int .i64 (0:Nat))],B0::.arr 4 false es::rest) =
   some (.ext 2,([(1,.fn 103 [] []),(5,.int .i64 (k+1:Nat)),(6,.hs 1 es'.length 4 0 (st.length+p.ps.length) false),(7,.hp L 0),(39,pv),(40,.int .i64 p.ps.length),(41,.int .i64 p.ps.length),(42,.bool false)],B0::.arr 4 false es'::rest')) ∧
   Fs (st++p.ps.map fun y=>(y,d+1)) es'∧es'≠[]∧es'.length≤1+(k+1) * 1048577:=by
 have wD:wr .i64 (d+1)=d+1:=BD (by omega) (by omega)
 obtain ⟨e,s,hlp,hq⟩:=AR (M:=MX) (fid:=102) (N:=54) (C:=AH MX) (c:=AP Tryz.f102 1) (n:=p.ps.length)
  (fun j (b:List (List AV)×AE)=>([(1,.fn 103 [] []),(5,.int .i64 (k+1:Nat)),(6,.hs 1 b.1.length 4 0 (st.length+j) false),(7,.hp L 0),(39,pv),(40,.int .i64 p.ps.length),(41,.int .i64 j)],B0::.arr 4 false b.1::b.2))
  (fun j b=>(B0::.arr 4 false b.1::b.2)[L]? = some (.var false [.str p.nm,.int .i64 p.v,x0,.int .i64 d])∧Fs (st++(p.ps.take j).map fun y=>(y,d+1)) b.1∧b.1≠[]∧b.1.length≤1+k * 1048577+j)
  (fun r=>∃ b:List (List AV)×AE,r=(.ext 2,([(1,.fn 103 [] []),(5,.int .i64 (k+1:Nat)),(6,.hs 1 b.1.length 4 0 (st.length+p.ps.length) false),(7,.hp L 0),(39,pv),(40,.int .i64 p.ps.length),(41,.int .i64 p.ps.length),(42,.bool false)],B0::.arr 4 false b.1::b.2)) ∧
    Fs (st++p.ps.map fun y=>(y,d+1)) b.1∧b.1≠[]∧b.1.length≤1+(k+1) * 1048577) (fun j b hj hI=>by
    obtain ⟨es1,r1⟩:=b
    obtain ⟨i1,i2,i3,i4⟩:=hI
    simp only at i1 i2 i3 i4
    have hj':=Aa hj
    have hw:=AZ hj hpl
    obtain ⟨fe,hfe,hR⟩:=hp.ix hj
    obtain ⟨qv,rfl,hqv⟩:=hR.AY
    let H1:=B0::.arr 4 false es1::(r1++[Blk.var false [.str p.ps[j].nm,.int .i64 p.ps[j].v,qv],.arr 4 false [[.str p.ps[j].nm,.int .i64 p.ps[j].v,qv,.int .i64 (d+1)]]])
    have hlen:(st++(p.ps.take j).map fun y=>(y,d+1)).length=st.length+j:=by simp;omega
    have i2a:=i2.1
    rw [hlen] at i2a
    obtain ⟨es3,a1,a2,a3,a4,a5⟩:=Iw (H:=H1) (id:=1) (n:=r1.length+3) (row:=[.str p.ps[j].nm,.int .i64 p.ps[j].v,qv,.int .i64 (d+1)]) rfl (by simp [H1]) i2a i3 (by omega)
    have hset:H1.set 1 (.arr 4 false es3)=B0::.arr 4 false es3::(r1++[Blk.var false [.str p.ps[j].nm,.int .i64 p.ps[j].v,qv],.arr 4 false [[.str p.ps[j].nm,.int .i64 p.ps[j].v,qv,.int .i64 (d+1)]]]):=rfl
    rw [hset] at a1
    simp only [H1] at a1
    have hLl:=(List.getElem?_eq_some_iff.1 i1).1
    simp only [List.length_cons] at hLl
    obtain ⟨L',rfl⟩:∃ L',L=L'+2:=⟨L - 2,by omega⟩
    have i1':r1[L']? = some (.var false [.str p.nm,.int .i64 p.v,x0,.int .i64 d]):=by simpa using i1
    have hL':∀ T:AE,(B0::.arr 4 false es1::(r1++T))[L'+2]? = some (.var false [.str p.nm,.int .i64 p.v,x0,.int .i64 d]):=fun T=>by
     show (r1++T)[L']? = _
     rw [List.getElem?_append_left (by omega)];exact i1'
    have hL'':∀ T:AE,(r1++T)[L']? = some (.var false [.str p.nm,.int .i64 p.v,x0,.int .i64 d]):=fun T=>by
     rw [List.getElem?_append_left (by omega)];exact i1'
    refine .inl ⟨(es3,r1++[Blk.var false [.str p.ps[j].nm,.int .i64 p.ps[j].v,qv],.arr 4 false [[.str p.ps[j].nm,.int .i64 p.ps[j].v,qv,.int .i64 (d+1)]]]),?_,hL'' _,⟨?_,?_⟩,fun h => ?_,?_⟩
    ·simp [Tryz.f102,hj',hfe,hw,wD,hL'',hqv.cells,Av,bsA,Ak,List.replicate,AG,AV.AD,hqv.AD,a1,Nat.add_assoc]
    ·simp;omega
    ·intro i q e' h1 h2
     rw [← Cj (by omega),List.map_append,← List.append_assoc] at h1
     by_cases hi:i<st.length+j
     ·rw [List.getElem?_append_left (by rw [hlen];exact hi)] at h1
      rw [a4 i hi] at h2
      exact i2.2 i q e' h1 h2
     ·have:i=st.length+j:=by
       have:=(List.getElem?_eq_some_iff.1 h1).1
       simp at this
       omega
      subst this
      rw [List.getElem?_append_right (by rw [hlen];omega),hlen] at h1
      simp at h1
      rw [a5] at h2
      cases h2
      subst h1
      exact ⟨_,hR,rfl⟩
    ·have h:es3=[]:=h
     rw [h] at a2;simp at a2
    ·simp only;omega) (fun b hI=>by
    obtain ⟨es1,r1⟩:=b
    obtain ⟨i1,i2,i3,i4⟩:=hI
    rw [List.take_length] at i2
    simp only at i1 i2 i3 i4
    exact ⟨_,_,by simp [Tryz.f102] <;> first | exact ⟨rfl,rfl⟩ | rfl,by simp,(es1,r1),rfl,i2,i3,by simp only;omega⟩) (es,rest) ⟨hL,by simpa using hrep,hne,by simpa using hsz⟩
 obtain ⟨⟨es',r'⟩,rfl',g1,g2,g3⟩:=hq
 cases rfl'
 exact ⟨es',r',hlp,g1,g2,g3⟩
structure Wk (p:TyV) (k:Nat) (st:List (TyV×Int)) (es:List (List AV)):Prop where
 rep:Fs st es
 ne:es≠[]
 le:es.length≤1+k * 1048577
 sl:st.length≤1+k * 1048577
 k2:k≤200
 sm:∀ q∈st,Sm 1048577 q.1∧0≤q.2∧q.2≤41
 ok:A1 p=true↔okS k st
theorem wk0 {p:TyV} {pv:AV} (hx:Ay p [.str p.nm,.int .i64 p.v,pv]) (hs:Sm 1048577 p):Wk p 0 [(p,1)] [[.str p.nm,.int .i64 p.v,pv,.int .i64 1]] where
 rep:=⟨by simp,fun i q e h1 h2=>by
  match i with
  | 0=>simp at h1 h2;subst h1;subst h2;exact ⟨_,hx,rfl⟩
  | i+1=>simp at h1⟩
 ne:=List.cons_ne_nil _ _
 le:=by rw [List.length_singleton];omega
 sl:=by rw [List.length_singleton];omega
 k2:=Nat.zero_le _
 sm:=fun q hq=>by simp at hq;subst hq;exact ⟨hs,by simp,by simp⟩
 ok:=by
  rw [K1]
  simp only [okS,Gr,List.forall_mem_cons]
  constructor
  ·rintro ⟨h1,h2⟩;exact ⟨by omega,by omega,fun q hq=>by cases hq⟩
  ·rintro ⟨h1,h2,_⟩;omega
section
variable {B0:Blk} {k m:Nat} {es:List (List AV)} {rest:AE} {junk:List (Nat×AV)} {x:TyV} {qv:AV} {d:Int}
theorem Yq (hm:m<4294967296):slA 4 (.hs 1 es.length 4 0 (m+1) false) none (some (.int .i64 m)) none=some (.hs 1 es.length 4 0 m false):=by
 have u1:FA (m:Int) (m+1)=some m:=by
  have:decide ((0:Int)≤m∧(m:Int)≤((m+1:Nat):Int))=true:=by simp;omega
  simp only [FA,this,Int.toNat_natCast]
 have u2:FA (0:Int) m=some 0:=by
  have:decide ((0:Int)≤0∧(0:Int)≤(m:Int))=true:=by simp
  simp only [FA,this,Int.toNat_zero]
 simp [slA,Ca,Go.Am.intOf,u1,u2,A2,I2]
theorem Ny (hm:m<4294967296) {T:AE}:AW MX 102 54 (AH MX) (sub (AP Tryz.f102 0) [0]) ((1,.fn 103 [] [])::(5,.int .i64 k)::(6,.hs 1 es.length 4 0 (m+1) false)::junk,T)=some (.nrm,([(1,.fn 103 [] []),(5,.int .i64 k),(6,.hs 1 es.length 4 0 (m+1) false),(15,.bool true)],T)):=by
 have hgt:(0:Int)<(m:Int)+1:=by omega
 simp [Tryz.f102,sub,hgt]
theorem Nz (hm:m<4294967296) (hq:SlR Ay 3 x.ps qv) (hei:es[m]? = some [.str x.nm,.int .i64 x.v,qv,.int .i64 d]):AW MX 102 54 (AH MX) (sub (AP Tryz.f102 0) [1,0,0]) ([(1,.fn 103 [] []),(5,.int .i64 k),(6,.hs 1 es.length 4 0 (m+1) false),(15,.bool true)],B0::.arr 4 false es::rest)=some (.nrm,([(1,.fn 103 [] []),(5,.int .i64 k),(6,.hs 1 es.length 4 0 (m+1) false),(7,.hp (rest.length+2) 0)],B0::.arr 4 false es::(rest++[Blk.var false [.str x.nm,.int .i64 x.v,qv,.int .i64 d]]))):=by
 have w1:wr .i64 ((m:Int)+1 - 1)=m:=by rw [Int.add_sub_cancel];exact BD (by omega) (by omega)
 have w1':wr .i64 (m:Int)=m:=BD (by omega) (by omega)
 have hix:ixA 4 (.hs 1 es.length 4 0 (m+1) false) (.int .i64 m)=some (.ep 1 es.length 4 m 0):=by
  rw [A8 (kd:=.i64) (hi:=Nat.lt_succ_self _),Nat.zero_add]
 simp [Tryz.f102,sub,w1,w1',hix,hei]
theorem N0 (hm:m<4294967296) {q:AV} {T:AE}:AW MX 102 54 (AH MX) (sub (AP Tryz.f102 0) [1,0,1,0]) ([(1,.fn 103 [] []),(5,.int .i64 k),(6,.hs 1 es.length 4 0 (m+1) false),(7,q)],T)=some (.nrm,([(1,.fn 103 [] []),(5,.int .i64 k),(6,.hs 1 es.length 4 0 m false),(7,q)],T)):=by
 have w1:wr .i64 ((m:Int)+1 - 1)=m:=by rw [Int.add_sub_cancel];exact BD (by omega) (by omega)
 have w1':wr .i64 (m:Int)=m:=BD (by omega) (by omega)
 have hsl:=Yq (es:=es) hm
 simp [Tryz.f102,sub,w1,w1',hsl]
theorem N1 (hk:k≤200) {v q:AV} {T:AE}:AW MX 102 54 (AH MX) (sub (AP Tryz.f102 0) [1,0,1,1,0]) ([(1,.fn 103 [] []),(5,.int .i64 k),(6,v),(7,q)],T)=some (.nrm,([(1,.fn 103 [] []),(5,.int .i64 (k+1:Nat)),(6,v),(7,q)],T)):=by
 have w2:wr .i64 ((k:Int)+1)=(k:Int)+1:=BD (by omega) (by omega)
 simp [Tryz.f102,sub,w2]
theorem QY:AP Tryz.f102 0=.seq (sub (AP Tryz.f102 0) [0]) (.block 1 (.seq (sub (AP Tryz.f102 0) [1,0,0]) (.seq (sub (AP Tryz.f102 0) [1,0,1,0]) (.seq (sub (AP Tryz.f102 0) [1,0,1,1,0]) (sub (AP Tryz.f102 0) [1,0,1,1,1]))))):=rfl
theorem Tq (hk:k+1≤200) (hd0:0≤d) (hd:d≤40) (hq:SlR Ay 3 x.ps qv) {v:AV} {r:Ex×St}
  (f1:Em MX 102 54 (AH MX) (AP Tryz.f102 1) ([(1,.fn 103 [] []),(5,.int .i64 (k+1:Nat)),(6,v),(7,.hp (rest.length+2) 0),(39,qv),(40,.int .i64 x.ps.length),(41,.int .i64 (0:Nat))],B0::.arr 4 false es::(rest++[Blk.var false [.str x.nm,.int .i64 x.v,qv,.int .i64 d],.var false [.str x.nm,.int .i64 x.v,qv]]))=some r) {s:St} (hr:r=(.ext 2,s)) :
  AW MX 102 54 (AH MX) (sub (AP Tryz.f102 0) [1,0,1,1,1]) ([(1,.fn 103 [] []),(5,.int .i64 (k+1:Nat)),(6,v),(7,.hp (rest.length+2) 0)],B0::.arr 4 false es::(rest++[Blk.var false [.str x.nm,.int .i64 x.v,qv,.int .i64 d]]))=some (.nrm,s):=by
 subst hr
 have hk2:¬ (200:Int)<(k:Int)+1:=by omega
 have hd2:¬ (40:Int)<d:=by omega
 have h103:=fun H=>c103 (p:=x) (pv:=qv) H
 simp [Tryz.f102] at f1
 simp [Tryz.f102,sub,hk2,hd2,h103,hq.len,f1]
theorem Tr (hd0:0≤d) (hov:¬ (k+1≤200∧d≤40)) {v:AV} :
  AW MX 102 54 (AH MX) (sub (AP Tryz.f102 0) [1,0,1,1,1]) ([(1,.fn 103 [] []),(5,.int .i64 (k+1:Nat)),(6,v),(7,.hp (rest.length+2) 0)],B0::.arr 4 false es::(rest++[Blk.var false [.str x.nm,.int .i64 x.v,qv,.int .i64 d]]))=some (.ret,([(4,.int .i64 8)],B0::.arr 4 false es::(rest++[Blk.var false [.str x.nm,.int .i64 x.v,qv,.int .i64 d]]))):=by
 by_cases hk:k+1≤200
 ·have hk2:¬ (200:Int)<(k:Int)+1:=by omega
  have hd2:(40:Int)<d:=by omega
  simp [Tryz.f102,sub,hk2,hd2]
 ·have hk2:(200:Int)<(k:Int)+1:=by omega
  simp [Tryz.f102,sub,hk2]
theorem UJ (hm:m<4294967296) (hk:k+1≤200) (hd0:0≤d) (hd:d≤40) (hq:SlR Ay 3 x.ps qv) (hei:es[m]? = some [.str x.nm,.int .i64 x.v,qv,.int .i64 d]) {r:Ex×St}
  (f1:Em MX 102 54 (AH MX) (AP Tryz.f102 1) ([(1,.fn 103 [] []),(5,.int .i64 (k+1:Nat)),(6,.hs 1 es.length 4 0 m false),(7,.hp (rest.length+2) 0),(39,qv),(40,.int .i64 x.ps.length),(41,.int .i64 (0:Nat))],B0::.arr 4 false es::(rest++[Blk.var false [.str x.nm,.int .i64 x.v,qv,.int .i64 d],.var false [.str x.nm,.int .i64 x.v,qv]]))=some r) {s:St} (hr:r=(.ext 2,s)) :
  AW MX 102 54 (AH MX) (AP Tryz.f102 0) ((1,.fn 103 [] [])::(5,.int .i64 k)::(6,.hs 1 es.length 4 0 (m+1) false)::junk,B0::.arr 4 false es::rest)=some (.nrm,s):=by
 rw [QY]
 exact Ai (Ny hm) (Ft (Ai (Nz hm hq hei) (Ai (N0 hm) (Ai (N1 (Nat.le_of_succ_le hk)) (Tq hk hd0 hd hq f1 hr)))))
theorem Wm (hm:m<4294967296) (hk0:k≤200) (hd0:0≤d) (hq:SlR Ay 3 x.ps qv) (hei:es[m]? = some [.str x.nm,.int .i64 x.v,qv,.int .i64 d]) (hov:¬ (k+1≤200∧d≤40)) :
  ∃ T,AW MX 102 54 (AH MX) (AP Tryz.f102 0) ((1,.fn 103 [] [])::(5,.int .i64 k)::(6,.hs 1 es.length 4 0 (m+1) false)::junk,B0::.arr 4 false es::rest)=some (.ret,([(4,.int .i64 8)],T)):=by
 rw [QY]
 exact ⟨_,Ai (Ny hm) (Da (Ai (Nz hm hq hei) (Ai (N0 hm) (Ai (N1 hk0) (Tr hd0 hov)))))⟩
theorem Yr {w:AV} (hw:∀ h,Bu w h=some (.val (.int .i64 0) h)) {T:AE}:AW MX 102 54 (AH MX) (AP Tryz.f102 0) ((1,.fn 103 [] [])::(5,.int .i64 k)::(6,w)::junk,T)=some (.ext 0,([(1,.fn 103 [] []),(5,.int .i64 k),(6,w),(15,.bool false)],T)):=by
 simp [Tryz.f102,hw]
end
theorem c102 {p:TyV} {px:List AV} (hx:Ay p px) (hs:Sm 1048577 p) (h:AE):AK MX (AH MX) 102 [.agg px,.fn 103 [] []] h=some (.ret (.int .i64 (if A1 p=true then 0 else 8)),h):=by
 have hn:([AV.agg px,.fn 103 [] []]:List AV).all AV.AD=true:=by simp [AV.AD,hx.AG,AG]
 have hx0:=hx
 obtain ⟨pv,rfl,hp⟩:=hx.AY
 obtain ⟨B0,hB0⟩:∃ B0,B0=Blk.var false [AV.str p.nm,AV.int .i64 p.v,pv]:=⟨_,rfl⟩
 obtain ⟨e,s,hlp,hq⟩:=II (M:=MX) (fid:=102) (N:=54) (C:=AH MX) (c:=AP Tryz.f102 0)
  (fun (b:Nat×List (TyV×Int)×List (List AV)×AE×List (Nat×AV))=>((1,.fn 103 [] [])::(5,.int .i64 b.1)::(6,.hs 1 b.2.2.1.length 4 0 b.2.1.length false)::b.2.2.2.2,B0::.arr 4 false b.2.2.1::b.2.2.2.1))
  (fun b=>Wk p b.1 b.2.1 b.2.2.1)
  (fun b=>Gr b.2.1)
  (fun r=>(∃ (k:Nat) (w:AV) (T:AE),r=(.ext 0,([(1,.fn 103 [] []),(5,.int .i64 k),(6,w),(15,.bool false)],T))∧A1 p=true)∨∃ T,r=(.ret,([(4,.int .i64 8)],T))∧A1 p=false) (fun b hI=>by
    obtain ⟨k,st,es,rest,junk⟩:=b
    have hI':Wk p k st es:=hI
    obtain ⟨i1,i2,i3,i4,i5,i6,i7⟩:=hI'
    clear hI
    rcases List.eq_nil_or_concat st with rfl | ⟨st',⟨x,d⟩,rfl⟩
    ·exact .inr ⟨_,_,Yr (fun h=>rfl),by simp,.inl ⟨k,_,_,rfl,i7.2 ⟨by simp [Gr];omega,fun q hq=>by cases hq⟩⟩⟩
    ·rw [List.concat_eq_append] at *
     have hll:(st'++[(x,d)]).length=st'.length+1:=by simp
     have i1a:=i1.1
     rw [hll] at i4 i1a
     have hie:st'.length<es.length:=by omega
     obtain ⟨xs,hxr,hrow⟩:=i1.2 st'.length (x,d) es[st'.length] (by simp) (List.getElem?_eq_getElem hie)
     obtain ⟨qv,rfl,hq⟩:=hxr.AY
     have hei:es[st'.length]? = some [.str x.nm,.int .i64 x.v,qv,.int .i64 d]:=by rw [List.getElem?_eq_getElem hie,hrow];rfl
     obtain ⟨hsx,hd0,hd1⟩:=i6 (x,d) (by simp)
     have hd0:0≤d:=hd0
     have hd1:d≤41:=hd1
     have hsx:Sm 1048577 x:=hsx
     by_cases hov:k+1≤200∧d≤40
     ·obtain ⟨hk,hd⟩:=hov
      have hps:=hsx.parts
      have hL:(B0::.arr 4 false es::(rest++[Blk.var false [.str x.nm,.int .i64 x.v,qv,.int .i64 d],.var false [.str x.nm,.int .i64 x.v,qv]]))[rest.length+2]? = some (.var false [.str x.nm,.int .i64 x.v,qv,.int .i64 d]):=by simp
      have hrep':Fs st' es:=⟨by omega,fun i q e h1 h2=>i1.2 i q e (by rw [List.getElem?_append_left (List.getElem?_eq_some_iff.1 h1).1];exact h1) h2⟩
      obtain ⟨es',rest',f1,f2,f3,f4⟩:=UI (H0:=[]) hq hps.1 hd0 hd (k:=k) hL hrep' i2 (by omega) i3 (by omega) (by omega)
      have hwk:Wk p (k+1) (st'++x.ps.map fun y=>(y,d+1)) es':=by
       refine ⟨f2,f3,f4,?_,by omega,fun q hq' => ?_,?_⟩
       ·rw [List.length_append,List.length_map];omega
       ·rcases List.mem_append.1 hq' with h | h
        ·exact i6 q (by simp [h])
        ·obtain ⟨y,hy,rfl⟩:=List.mem_map.1 h
         exact ⟨hps.2 y hy,by show 0≤d+1;omega,by show d+1≤41;omega⟩
       ·rw [i7,JU]
        exact ⟨fun h=>h.2.2,fun h=>⟨hk,hd,h⟩⟩
      have hround:=UJ (junk:=junk) (by omega) hk hd0 hd hq hei f1 rfl
      refine .inl ⟨(k+1,st'++x.ps.map fun y=>(y,d+1),es',rest',[(7,.hp (rest.length+2) 0),(39,qv),(40,.int .i64 x.ps.length),(41,.int .i64 x.ps.length),(42,.bool false)]),?_,hwk,?_⟩
      ·simp only [hll,List.length_append,List.length_map]
       exact hround
      ·show Gr (st'++x.ps.map fun y=>(y,d+1))<Gr (st'++[(x,d)])
       rw [HG,HG,JT]
       cases x
       simp [Gr,cnt,TyV.ps]
     ·have hT:A1 p=false:=by
       rw [Bool.eq_false_iff]
       intro h
       have:=JU.1 (i7.1 h)
       exact hov ⟨this.1,this.2.1⟩
      obtain ⟨T,hover⟩:=Wm (B0:=B0) (rest:=rest) (junk:=junk) (k:=k) (by omega) i5 hd0 hq hei hov
      refine .inr ⟨_,_,?_,by simp,.inr ⟨T,rfl,hT⟩⟩
      simp only [hll]
      exact hover) (0,[(p,1)],[[.str p.nm,.int .i64 p.v,pv,.int .i64 1]],[],[]) (wk0 hx0 hs)
 rw [hB0] at hlp
 simp [Tryz.f102] at hlp
 suffices hh:∃ hr,AN MX 102 [.agg [.str p.nm,.int .i64 p.v,pv],.fn 103 [] []] []=some (.ret (.int .i64 (if A1 p=true then 0 else 8)),hr) by
  obtain ⟨hr,hh⟩:=hh
  exact Ae SS VK hn rfl hh h
 rcases hq with ⟨k,w,T,hq,hT⟩ | ⟨T,hq,hT⟩
 ·cases hq
  exact ⟨T,by simp [AN,Tryz.f102,bsA,Ak,List.replicate,Av,AG,AV.AD,hlp,hT]⟩
 ·cases hq
  exact ⟨T,by simp [AN,Tryz.f102,bsA,Ak,List.replicate,Av,AG,AV.AD,hlp,hT]⟩
end Lg
end Go.Proofs.Am12
namespace Go.Proofs.Am12
open Go Go.Am
attribute [local simp] Dq B8 EL Dr CS Ds Dt Ee BT BP Bb Ap Fy Ez D9 Gn D1 A4 El EA Gp Gq xUn Ej D2 E0 BF C7 BG D3 BH D4 Cb CV Bx BE EB EK
 ev evs C3 C4 OR.ofV OR.DQ OR.ofC E6 Tm.get Tm.init Tm.only A2 A7 CF finish B6 Cm Gm Db D0 unA CA Bg CB Bh Cp Cq Cr Bi Cs Ct Bj Cu Cv Bk CC AP CJ Bf Cn Co B9 Ef Eg Eh Du Dv FM Fa Fb FN stA A3 DE B7 C8 Ek GH CD DA CG E1 GI
set_option maxHeartbeats 1000000
attribute [local simp] DH CU CM Bl DI DJ DK DL DM DN DP ES Cy ET Df FC FD Ga Dg EU Dh BU Di BV Dj CP EV Cz FE FF FG C0 Dk Dl FH Gb FI Gc Gd Dm BW C1 CQ Dn Dp C2
structure Gl where
 nm:Bytes
 num:Int
 nx:Int
 deriving Inhabited
def GL (c:Gl) (xs:List AV):Prop:=xs=[.str c.nm,.int .i64 c.num,.int .i64 c.nx]
structure Dz where
 arm:Int
 path:List Int
 cases:List Gl
 other:Int
 deriving Inhabited
def EJ (v:Dz) (xs:List AV):Prop:=∃ pv cv,xs=[.int .i64 v.arm,pv,cv,.int .i64 v.other]∧SlR HZ 1 v.path pv∧SlR GL 3 v.cases cv
def SmN (v:Dz):Prop:=v.path.length<1048577∧v.cases.length<1048577
theorem LF (c:Gl) (xs:List AV) (h:GL c xs):AG xs=true:=by subst h;rfl
theorem c98 {t:List Dz} {tv:AV} (ht:SlR EJ 4 t tv) (h:AE):AK MX (AH MX) 98 [tv] h=some (.ret (.int .i64 (if t.length=0 then 10 else if 400<t.length then 8 else 0)),h):=by
 by_cases h0:t.length=0
 ·have g0:¬ (0<t.length):=by omega
  rw [if_pos h0]
  exact Ae MY On (by simp [ht.AD]) rfl (hr:=[]) (by simp [AN,Tryz.f98,ht.len,h0,bsA,Ak,List.replicate,AG,AV.AD,An]) h
 ·have g0:0<t.length:=by omega
  rw [if_neg h0]
  by_cases h4:400<t.length
  ·have g1:¬ ((t.length:Int)≤400):=by omega
   have g2:¬ (t.length≤400):=by omega
   rw [if_pos h4]
   exact Ae MY On (by simp [ht.AD]) rfl (hr:=[]) (by simp [AN,Tryz.f98,ht.len,g0,g1,g2,bsA,Ak,List.replicate,AG,AV.AD,An]) h
  ·have g1:((t.length:Int)≤400):=by omega
   have g2:t.length≤400:=by omega
   rw [if_neg h4]
   exact Ae MY On (by simp [ht.AD]) rfl (hr:=[]) (by simp [AN,Tryz.f98,ht.len,g0,g1,g2,bsA,Ak,List.replicate,AG,AV.AD,An]) h
theorem c101 {l:List Int} {v:AV} (hv:SlR HZ 1 l v) (hl:l.length<1048577):∃ w,SlR HZ 1 l w∧∀ h,AK MX (AH MX) 101 [v] h=some (.ret w,h):=by
 obtain ⟨es,h1,h2,h3⟩:=Kr (byt:=8) hv (by decide) (by decide) hl []
 rcases h3 with ⟨hn,h3⟩ | ⟨hn,h3⟩
 ·exact ⟨.sl 1 true [],.inr ⟨true,[],rfl,by simp [hn],fun i a e h _=>by simp [hn] at h⟩,fun h=>Ae NM Pp (by simp [hv.AD]) rfl (hr:=[]) (by simp [AN,Tryz.f101,bsA,Ak,h3]) h⟩
 ·have hs:=BR h1 h2 RS
  have hne:es≠[]:=fun e=>by rw [e] at h1;exact hn (List.eq_nil_of_length_eq_zero h1.symm)
  have hacc:Af 1 ([]:AE).length [.arr 1 false es] (.hs 0 es.length 1 0 es.length false) es:=.inr ⟨0,hne,by simp,rfl⟩
  exact ⟨.sl 1 false es,Af.rep h1 h2 _,fun h=>Hy NM Pp (by simp [hv.AD]) rfl (hacc.snap (n:=9999999) hs hne) rfl (hr:=[.arr 1 false es]) (by simp [AN,Tryz.f101,bsA,Ak,h3]) h⟩
def CasL (H:AE) (a:AV) (es:List (List AV)):Prop:=(es=[]∧a=.sl 3 true [])∨∃ id lk,es≠[]∧a=.hs id es.length 3 0 es.length false∧H[id]? = some (.arr 3 lk es)
def Ey (H:AE) (v:Dz) (e:List AV):Prop:=∃ pw ca ces,e=[.int .i64 v.arm,pw,ca,.int .i64 v.other]∧SlR HZ 1 v.path pw∧CasL H ca ces∧ces.length=v.cases.length∧∀ (j:Nat) t e,v.cases[j]? = some t→ces[j]? = some e→GL t e
theorem Ey.keeps {H H':AE} {v:Dz} {e:List AV} (h:Ey H v e) (k:Bv H H'):Ey H' v e:=by
 obtain ⟨pw,ca,ces,h1,h2,h3,h4,h5⟩:=h
 refine ⟨pw,ca,ces,h1,h2,?_,h4,h5⟩
 rcases h3 with h | ⟨id,lk,g0,g1,g2⟩
 ·exact .inl h
 ·obtain ⟨lk',g3⟩:=k id 3 lk ces g2 (BR h4 h5 LF)
  exact .inr ⟨id,lk',g0,g1,g3⟩
theorem Ey.snap {H:AE} {v:Dz} {e:List AV} (h:Ey H v e):∃ e' H',A9 5 e H e' H'∧EJ v e'∧Bv H H'∧FO H H':=by
 obtain ⟨pw,ca,ces,rfl,h2,h3,h4,h5⟩:=h
 have hpw:pw.flat=true:=by rcases h2 with ⟨_,rfl⟩ | ⟨_,_,rfl,_⟩ <;> rfl
 rcases h3 with ⟨h0,rfl⟩ | ⟨id,lk,g0,g1,g2⟩
 ·have hc:v.cases=[]:=List.eq_nil_of_length_eq_zero (by rw [← h4,h0];rfl)
  exact ⟨_,H,.cons (.flat rfl _) (.cons (.flat hpw _) (.cons (.flat (c:=.sl 3 true []) rfl _) (.cons (.flat (c:=.int .i64 v.other) rfl _) (.nil _)))),⟨pw,_,rfl,h2,.inr ⟨true,[],rfl,by rw [hc];rfl,fun i a e h=>by rw [hc] at h;simp at h⟩⟩,Bv.refl H,FO.refl H⟩
 ·obtain ⟨v',H',s1,s2,s3,s4⟩:=IU.snap (H:=H) (a:=ca) (es:=ces) LF (.inr ⟨id,lk,g0,g1,g2⟩) h4 h5
  exact ⟨[.int .i64 v.arm,pw,v',.int .i64 v.other],H',.cons (.flat rfl _) (.cons (.flat hpw _) (.cons s1 (.cons (.flat (c:=.int .i64 v.other) rfl _) (.nil _)))),⟨pw,v',rfl,h2,s2⟩,s3,s4⟩
theorem LG:∀ {l:List Dz} {es:List (List AV)} {H:AE},es.length=l.length→(∀ (j:Nat) d e,l[j]? = some d→es[j]? = some e→Ey H d e) →
  ∃ es' H',Bq (6+l.length) es H es' H'∧es'.length=l.length∧(∀ (j:Nat) d e,l[j]? = some d→es'[j]? = some e→EJ d e)∧Bv H H'∧FO H H'
 | [],[],H,_,_=>⟨[],H,(Bq.nil H).mono (by decide),rfl,fun j d e h=>by simp at h,Bv.refl H,FO.refl H⟩
 | d::l,e::es,H,hl,hp=>by
  obtain ⟨e',H1,s1,s2,s3,s4⟩:=(hp 0 d e rfl rfl).snap
  obtain ⟨es',H2,t1,t2,t3,t4,t5⟩:=LG (l:=l) (es:=es) (H:=H1) (by simpa using hl) (fun j d' e' h1 h2=>(hp (j+1) d' e' (by simpa using h1) (by simpa using h2)).keeps s3)
  refine ⟨e'::es',H2,(Bq.cons s1 t1).mono (by simp only [List.length_cons];omega),by simp [t2],fun j d' e'' h1 h2 => ?_,s3.trans t4,s4.trans t5⟩
  cases j with
  | zero=>simp at h1 h2;exact h1 ▸ h2 ▸ s2
  | succ j=>exact t3 j d' e'' (by simpa using h1) (by simpa using h2)
 | [],_::_,_,hl,_=>by simp at hl
 | _::_,[],_,hl,_=>by simp at hl
theorem c51 {l:List Dz} {v:AV} (hv:SlR EJ 4 l v) (hll:l.length<1048577) (hsl:∀ d∈l,SmN d):∃ w,SlR EJ 4 l w∧∀ h,AK MX (AH MX) 51 [v] h=some (.ret w,h):=by
 obtain ⟨e,st,hlp,hq⟩:=AR (M:=MX) (fid:=51) (N:=36) (C:=AH MX) (c:=AP Tryz.f51 0) (n:=l.length)
  (fun i (b:AV×AE×List (List AV))=>([(0,v),(3,b.1),(4,.int .i64 i)],b.2.1))
  (fun i b=>Af 4 0 b.2.1 b.1 b.2.2∧b.2.2.length=(l.take i).length∧∀ (j:Nat) t e,(l.take i)[j]? = some t→b.2.2[j]? = some e→Ey b.2.1 t e)
  (fun r=>∃ b:AV×AE×List (List AV),r=(.ext 0,([(0,v),(3,b.1),(4,.int .i64 l.length),(9,.bool false)],b.2.1)) ∧
    Af 4 0 b.2.1 b.1 b.2.2∧b.2.2.length=l.length∧∀ (j:Nat) t e,l[j]? = some t→b.2.2[j]? = some e→Ey b.2.1 t e) (fun i b hi hI=>by
    obtain ⟨a,pre,es⟩:=b
    obtain ⟨i1,i2,i3⟩:=hI
    simp only at i1 i2 i3
    obtain ⟨e,he,hR⟩:=hv.ix hi
    have hi':=Aa hi
    have hw:=AZ hi hll
    obtain ⟨s1,s2⟩:=hsl _ (List.getElem_mem hi)
    obtain ⟨pv,cv,rfl,hp,hc⟩:=hR
    obtain ⟨pw,hpw,h101⟩:=c101 hp s1
    have hpc:=hp.cells
    have hcc:=hc.cells
    have hlen:es.length<16777215:=by rw [i2];exact Nat.lt_of_le_of_lt (List.length_take_le _ _) (by omega)
    have Hz:∀ (A L:AE),Bv A (A++L):=fun A L id sz lk es h _=>⟨lk,Al h L⟩
    obtain ⟨ces,q1,q2,q3⟩:=Kr (byt:=32) hc (by decide) (by decide) s2 (pre++[Blk.var false [AV.int .i64 l[i].arm,pw,cv,.int .i64 l[i].other]])
    have fin:∀ (ca:AV) (G H:AE) (x:AV),CasL G ca ces→Bv pre G→Bv G H→Af 4 0 H a es→Az H x=some [[AV.int .i64 l[i].arm,pw,ca,.int .i64 l[i].other]]→CE 4 x=true→(∀ b,x≠.str b) →
      ∃ a' H',apA 4 64 a x H=some (a',H')∧Af 4 0 H' a' (es++[[AV.int .i64 l[i].arm,pw,ca,.int .i64 l[i].other]])∧(es++[[AV.int .i64 l[i].arm,pw,ca,.int .i64 l[i].other]]).length=(l.take (i+1)).length∧∀ (j:Nat) t e,(l.take (i+1))[j]? = some t→(es++[[AV.int .i64 l[i].arm,pw,ca,.int .i64 l[i].other]])[j]? = some e→Ey H' t e:=by
     intro ca G H x hca hk0 hk hacc hrd hsz hst
     obtain ⟨a',H',h1,h2,h3⟩:=Me (byt:=64) hacc hrd hsz hst (by simp) (by decide) (by decide) (by simp;omega)
     have e0:Ey G l[i] [AV.int .i64 l[i].arm,pw,ca,.int .i64 l[i].other]:=⟨pw,ca,ces,rfl,hpw,hca,q1,q2⟩
     obtain ⟨j1,j2⟩:=EY (R:=Ey G) i2 (fun j t e g1 g2=>(i3 j t e g1 g2).keeps hk0) e0
     rw [Cj hi] at j1 j2
     have keepP:∀ t e,Ey H t e→Ey H' t e:=fun t e h=>by
      obtain ⟨q1,q2,q3,q4,q5,q6,q7,q8⟩:=h
      refine ⟨q1,q2,q3,q4,q5,?_,q7,q8⟩
      rcases q6 with h | ⟨id,lk,g0,g1,g2⟩
      ·exact .inl h
      ·exact .inr ⟨id,lk,g0,g1,h3 id _ g2 (fun lk' es' e=>by cases e)⟩
     exact ⟨a',H',h1,h2,j1,fun j t e g1 g2=>keepP t e ((j2 j t e g1 g2).keeps hk)⟩
    rcases q3 with ⟨hn,q3⟩ | ⟨hn,q3⟩
    ·have hce:ces=[]:=List.eq_nil_of_length_eq_zero (by rw [q1,hn];rfl)
     obtain ⟨a',H',f1,f2,f3,f4⟩:=fin (.sl 3 true []) (pre++[Blk.var false [AV.int .i64 l[i].arm,pw,.sl 3 true [],.int .i64 l[i].other]]) (pre++[Blk.var false [AV.int .i64 l[i].arm,pw,.sl 3 true [],.int .i64 l[i].other]]) (.sl 4 true [[AV.int .i64 l[i].arm,pw,.sl 3 true [],.int .i64 l[i].other]]) (.inl ⟨hce,rfl⟩) (Hz _ _) (Bv.refl _) (i1.grow _) rfl (by simp [CE,BO]) (fun b h=>by cases h)
     exact .inl ⟨(a',H',es++[[AV.int .i64 l[i].arm,pw,.sl 3 true [],.int .i64 l[i].other]]),by simp [Tryz.f51,hv.len,hi',he,h101,hpc,hcc,hpw.cells,q3,bsA,Ak,List.replicate,AG,AV.AD,hpw.AD,f1,hw],f2,f3,f4⟩
    ·have hne:ces≠[]:=fun e=>by rw [e] at q1;exact hn (List.eq_nil_of_length_eq_zero q1.symm)
     have hpl:(pre++[Blk.var false [AV.int .i64 l[i].arm,pw,cv,.int .i64 l[i].other]]).length=pre.length+1:=by simp
     rw [hpl] at q3
     let ca:=AV.hs (pre.length+1) ces.length 3 0 ces.length false
     let G:AE:=pre++[Blk.var false [AV.int .i64 l[i].arm,pw,ca,.int .i64 l[i].other],.arr 3 false ces]
     have hgl:G.length=pre.length+2:=by simp [G]
     obtain ⟨a',H',f1,f2,f3,f4⟩:=fin ca G (G++[.arr 4 false [[AV.int .i64 l[i].arm,pw,ca,.int .i64 l[i].other]]]) (.hs G.length 1 4 0 1 false) (.inr ⟨pre.length+1,false,hne,rfl,by simp only [G];exact gb7⟩) (Hz _ _) (Hz _ _) (by simp only [G,List.append_assoc];exact i1.grow _) (by simp only [Az,Ce];simp) (by simp [CE,BO]) (fun b h=>by cases h)
     rw [hgl] at f1
     simp only [G,ca,List.append_assoc,List.cons_append,List.nil_append] at f1 q3
     exact .inl ⟨(a',H',es++[[AV.int .i64 l[i].arm,pw,ca,.int .i64 l[i].other]]),by simp [Tryz.f51,hv.len,hi',he,h101,hpc,hcc,hpw.cells,q3,bsA,Ak,List.replicate,Av,AG,AV.AD,hpw.AD,f1,hw],f2,f3,f4⟩) (fun b hI=>by
    obtain ⟨a,rest,es⟩:=b
    obtain ⟨i1,i2,i3⟩:=hI
    rw [List.take_length] at i2 i3
    exact ⟨_,_,by simp [Tryz.f51,hv.len] <;> first | exact ⟨rfl,rfl⟩ | rfl,by simp,(a,rest,es),rfl,i1,i2,i3⟩) (.AI,[],[]) ⟨.nil _ _ _,by simp,fun j t e h=>by simp at h⟩
 obtain ⟨⟨a,rest,es⟩,hq,i1,i2,i3⟩:=hq
 cases hq
 simp [Tryz.f51] at hlp
 have hrun:AN MX 51 [v] []=some (.ret a,rest):=by simp [AN,Tryz.f51,hlp]
 simp only at i1 i2 i3
 rcases i1 with ⟨h0,rfl⟩ | ⟨j,h0,rfl,h2⟩
 ·have:l=[]:=List.eq_nil_of_length_eq_zero (by rw [← i2,h0];rfl)
  exact ⟨.AI,.inl ⟨this,rfl⟩,fun h=>Ae MT Om (by simp [hv.AD]) rfl hrun h⟩
 ·obtain ⟨es',H',s1,s2,s3,s4,s5⟩:=LG i2 i3
  simp only [Nat.zero_add] at hrun
  by_cases hall:es.all AG=true
  ·have hacc:Af 4 ([]:AE).length rest (.hs j es.length 4 0 es.length false) es:=.inr ⟨j,h0,by simp,h2⟩
   have hrep:∀ (k:Nat) d e,l[k]? = some d→es[k]? = some e→EJ d e:=fun k d e g1 g2=>by
    obtain ⟨pw,ca,ces,rfl,q1,q2,q3,q4⟩:=i3 k d e g1 g2
    have hne:AG [AV.int .i64 d.arm,pw,ca,.int .i64 d.other]=true:=List.all_eq_true.1 hall _ (List.mem_of_getElem? g2)
    rcases q2 with ⟨q5,rfl⟩ | ⟨_,_,_,rfl,_⟩
    ·have hc:d.cases=[]:=List.eq_nil_of_length_eq_zero (by rw [← q3,q5];rfl)
     exact ⟨pw,_,rfl,q1,.inr ⟨true,[],rfl,by rw [hc];rfl,fun i a e h=>by rw [hc] at h;simp at h⟩⟩
    ·simp [AG,AV.AD] at hne
   exact ⟨_,Af.rep i2 hrep false,fun h=>Hy MT Om (by simp [hv.AD]) rfl (hacc.snap (n:=9999999) hall h0) rfl hrun h⟩
  ·obtain ⟨lk2,es2,hk2,hkl⟩:=s5 j 4 false es h2
   refine ⟨_,Af.rep s2 s3 false,fun h=>Hy MT Om (by simp [hv.AD]) rfl (hr':=H'.set j (.arr 4 true es')) ?_ rfl hrun h⟩
   have hse:Fe (CX - 1) es rest=some (es',H'):=by
    have h9:=(s1.mono (show 6+l.length≤CX - 1 by simp only [CX];omega)) 0
    rwa [Nat.zero_add] at h9
   have ha:es.all AG=false:=by simpa using hall
   have hb1:(Nat.beq es.length es.length&&Nat.beq 4 4&&Nat.ble (0+es.length) es.length&&es.all AG)=false:=by simp [A7,ha]
   have hb2:(Nat.beq es.length es.length&&Nat.beq 4 4&&Nat.ble (0+es.length) es.length)=true:=by simp [A7]
   have hb3:(Nat.beq 4 4&&Nat.beq es2.length es.length)=true:=by rw [hkl];simp
   have hl':es'.length=es.length:=by rw [s2,i2]
   clear hlp
   show Am.snap ((CX - 1)+1) _ _=_
   simp only [Am.snap,h2,hb1,hb2,hse,hk2,hb3]
   rw [← hl']
   simp [ha]
def Fc:TyV→List Int→Option TyV
 | u,[]=>some u
 | u,i::r=>if 0≤i∧i≤(u.ps.length:Int) - 1 then Fc (u.ps.getD i.toNat default) r else none
def FX (u:TyV) (c:Gl):Bool:=(c.nm == u.nm)&&(c.nm != []||c.num == u.v)
def goV (t:List Dz) (at':Nat) (nx:Int):(Int×Int) ⊕ Nat:=if nx≤at' then .inl (0,9) else if (t.length:Int)≤nx then .inl (0,6) else .inr nx.toNat
def Ii (t:List Dz) (u:TyV) (at':Nat):(Int×Int) ⊕ Nat:=
 if (t.getD at' default).cases.length=0 then .inl ((t.getD at' default).arm,0) else match Fc u (t.getD at' default).path with
  | none=> .inl (0,14)
  | some w=>match (t.getD at' default).cases.findIdx? (FX w) with
   | some i=>goV t at' ((t.getD at' default).cases.getD i default).nx
   | none=>if (t.getD at' default).other = -1 then .inl (0,12) else goV t at' (t.getD at' default).other
inductive ByR (t:List Dz) (u:TyV):Nat→Int×Int→Prop
 | done {a:Nat} {r:Int×Int} (h:Ii t u a=.inl r):ByR t u a r
 | step {a b:Nat} {r:Int×Int} (h:Ii t u a=.inr b) (hr:ByR t u b r):ByR t u a r
theorem ByR.unique {t:List Dz} {u:TyV} {a:Nat} {r s:Int×Int} (h:ByR t u a r):ByR t u a s→r=s:=by
 induction h with
 | done h=>
  intro h2
  cases h2 with
  | done h3=>rw [h] at h3;simpa using h3
  | step h3 _=>rw [h] at h3;cases h3
 | step h _ ih=>
  intro h2
  cases h2 with
  | done h3=>rw [h] at h3;cases h3
  | step h3 h4=>rw [h] at h3;simp only [Sum.inr.injEq] at h3;subst h3;exact ih h4
open Classical in
noncomputable def byV (t:List Dz) (u:TyV):Int×Int:=if h:∃ r,ByR t u 0 r then Classical.choose h else (0,0)
theorem UK {t:List Dz} {u:TyV} {r:Int×Int} (h:ByR t u 0 r):byV t u=r:=by
 have hx:∃ r,ByR t u 0 r:=⟨r,h⟩
 unfold byV
 rw [dif_pos hx]
 exact (Classical.choose_spec hx).unique h
theorem IQ {t:List Dz} {a b:Nat} {nx:Int} (h:goV t a nx=.inr b):a<b∧b<t.length∧nx=b:=by
 unfold goV at h
 split at h
 ·cases h
 ·split at h
  ·cases h
  ·simp only [Sum.inr.injEq] at h
   omega
theorem L5 {t:List Dz} {u:TyV} {a b:Nat} (h:Ii t u a=.inr b):a<b∧b<t.length:=by
 unfold Ii at h
 split at h
 ·cases h
 ·split at h
  ·cases h
  ·split at h
   ·exact ⟨(IQ h).1,(IQ h).2.1⟩
   ·split at h
    ·cases h
    ·exact ⟨(IQ h).1,(IQ h).2.1⟩
theorem c160 {u:TyV} {ys:List AV} (hu:Ay u ys) (hsu:Sm 1048577 u) {l:List Int} {pv:AV} (hp:SlR HZ 1 l pv) (hl:l.length<1048577):∃ zs,(∀ w,Fc u l=some w→Ay w zs)∧(∃ w0,Ay w0 zs)∧∀ h,AK MX (AH MX) 160 [.agg ys,pv] h=some (.ret (.tup [.agg zs,.bool (Fc u l).isSome]),h):=by
 have hn:([.agg ys,pv]:List AV).all AV.AD=true:=by simp [AV.AD,hu.AG,hp.AD]
 obtain ⟨e,st,hlp,hq⟩:=AR (M:=MX) (fid:=160) (N:=29) (C:=AH MX) (c:=AP Tryz.f160 0) (n:=l.length)
  (fun i (b:TyV×AV)=>([(2,.hp 0 0),(4,.hp 1 0),(8,pv),(9,.int .i64 l.length),(10,.int .i64 i)],[Blk.var false [.str b.1.nm,.int .i64 b.1.v,b.2],.var false [.str [],.int .i64 0,.AI]]))
  (fun i b=>Ay b.1 [.str b.1.nm,.int .i64 b.1.v,b.2]∧Sm 1048577 b.1∧Fc u l=Fc b.1 (l.drop i))
  (fun r=>∃ (b:TyV×AV),Ay b.1 [.str b.1.nm,.int .i64 b.1.v,b.2]∧((r=(.ext 0,([(2,.hp 0 0),(4,.hp 1 0),(8,pv),(9,.int .i64 l.length),(10,.int .i64 l.length),(11,.bool false)],[Blk.var false [.str b.1.nm,.int .i64 b.1.v,b.2],.var false [.str [],.int .i64 0,.AI]]))∧Fc u l=some b.1)∨(r=(.ret,([(4,.hp 1 0),(5,.bool false)],[Blk.var false [.str b.1.nm,.int .i64 b.1.v,b.2],.var false [.str b.1.nm,.int .i64 b.1.v,b.2]]))∧Fc u l=none))) (fun i b hi hI=>by
    obtain ⟨w,q⟩:=b
    obtain ⟨i1,i2,i3⟩:=hI
    simp only at i1 i2 i3
    have hi':=Aa hi
    have hwr:=AZ hi hl
    obtain ⟨e,he,hR⟩:=hp.ix hi
    subst hR
    obtain ⟨z,hz⟩:∃ z,z=l[i]:=⟨_,rfl⟩
    rw [List.drop_eq_getElem_cons hi,← hz] at i3
    rw [← hz] at he
    obtain ⟨q2,e2,hq⟩:=i1.AY
    simp only [List.cons.injEq,true_and,and_true] at e2
    subst e2
    have hlq:=hq.len
    obtain ⟨m,hm⟩:∃ m:Int,m=(w.ps.length:Int):=⟨_,rfl⟩
    rw [← hm] at hlq
    have hps:=i2.parts
    have hsub:wr .i64 (m - 1)=m - 1:=by
     by_cases h0:0≤m - 1
     ·exact BD h0 (by omega)
     ·have:m - 1 = -1:=by omega
      rw [this];decide
    simp only [Fc] at i3
    by_cases hc:0≤z∧z≤m - 1
    ·rw [if_pos (by rw [← hm];exact hc)] at i3
     obtain ⟨j,hj⟩:∃ j:Nat,z=j:=⟨z.toNat,by omega⟩
     have hjl:j<w.ps.length:=by omega
     obtain ⟨e3,he3,hR3⟩:=hq.ix hjl
     have hd:decide (0≤z∧z≤m - 1)=true:=decide_eq_true hc
     have hg:w.ps.getD z.toNat default=w.ps[j]:=by rw [hj];simp [hjl]
     rw [hg] at i3
     obtain ⟨q3,rfl,hq3⟩:=hR3.AY
     rw [← hj] at he3
     have hqc:=hq3.cells
     exact .inl ⟨(w.ps[j],q3),by simp [Tryz.f160,hi',he,hlq,hsub,hc,he3,hqc,hwr],hR3,hps.2 _ (List.getElem_mem hjl),i3⟩
    ·rw [if_neg (by rw [← hm];exact hc)] at i3
     have hqc:=hq.cells
     refine .inr ⟨_,_,by simp [Tryz.f160,hi',he,hlq,hsub,hc,hqc] <;> first | exact ⟨rfl,rfl⟩ | rfl,by simp,(w,q),i1,.inr ⟨rfl,i3⟩⟩) (fun b hI=>by
    obtain ⟨w,q⟩:=b
    obtain ⟨i1,i2,i3⟩:=hI
    rw [List.drop_length] at i3
    exact ⟨_,_,by simp [Tryz.f160] <;> first | exact ⟨rfl,rfl⟩ | rfl,by simp,(w,q),i1,.inl ⟨rfl,i3⟩⟩) (u,ys.getD 2 .AI) (by
    obtain ⟨q,rfl,hq⟩:=hu.AY
    exact ⟨hu,hsu,rfl⟩)
 obtain ⟨q0,rfl,hq0⟩:=hu.AY
 obtain ⟨⟨w,q⟩,b1,hq⟩:=hq
 simp only [List.getD_cons_succ,List.getD_cons_zero] at hlp
 simp [Tryz.f160] at hlp
 have hbn:=b1.AG
 obtain ⟨q2,e2,hq2⟩:=b1.AY
 simp only [List.cons.injEq,true_and,and_true] at e2
 subst e2
 have hqc:=hq2.cells
 rcases hq with ⟨hq,hr⟩ | ⟨hq,hr⟩ <;> cases hq
 ·refine ⟨[.str w.nm,.int .i64 w.v,q],fun w' h' => ?_,⟨w,b1⟩,fun h => ?_⟩
  ·rw [hr] at h';cases h';exact b1
  ·rw [hr]
   exact Ae NW Pz hn (by simp [AV.AD,AG,hq2.AD]) (hr:=_) (by simp [AN,Tryz.f160,hp.len,hlp,hqc] <;> rfl) h
 ·refine ⟨[.str w.nm,.int .i64 w.v,q],fun w' h' => ?_,⟨w,b1⟩,fun h => ?_⟩
  ·rw [hr] at h';cases h'
  ·rw [hr]
   exact Ae NW Pz hn (by simp [AV.AD,AG,hq2.AD]) (hr:=_) (by simp [AN,Tryz.f160,hp.len,hlp] <;> rfl) h
theorem c162 {u:TyV} {q:AV} {c:Gl} (H:AE):∃ B,AK MX (AH MX) 162 [.agg [.str c.nm,.int .i64 c.num,.int .i64 c.nx],.ro [.str u.nm,.int .i64 u.v,q]] H=some (.ret (.bool (FX u c)),H++[B]):=by
 refine ⟨.var false [.str c.nm,.int .i64 c.num,.int .i64 c.nx],BI Sn Vg ?_⟩
 have hf:FX u c=((c.nm == u.nm)&&(!c.nm.isEmpty||c.num == u.v)):=by
  unfold FX
  cases c.nm <;> rfl
 rw [hf]
 cases h1:c.nm == u.nm <;> cases h2:c.nm.isEmpty <;> cases h3:c.num == u.v <;> simp [AN,Tryz.f162,h1,h2,h3]
theorem c161 {cs:List Gl} {cv:AV} (hc:SlR GL 3 cs cv) (hl:cs.length<1048577) {u:TyV} {q:AV} (hq:SlR Ay 3 u.ps q) {id:Nat} {H:AE} (hb:H[id]? = some (.var false [.str u.nm,.int .i64 u.v,q])) :
  AK MX (AH MX) 161 [cv,.fn 162 [] [.hp id 0]] H=some (.ret (.int .i64 (ixI (cs.findIdx? (FX u)))),H.set id (.var true [.str u.nm,.int .i64 u.v,q])):=by
 obtain ⟨F,hF⟩:∃ F,F=AV.fn 162 [] [.ro [.str u.nm,.int .i64 u.v,q]]:=⟨_,rfl⟩
 obtain ⟨G,hG⟩:∃ G,AN MX 161 [cv,.fn 162 [] [.ro [.str u.nm,.int .i64 u.v,q]]] []=some (.ret (.int .i64 (ixI (cs.findIdx? (FX u)))),G):=by
  rw [← hF]
  obtain ⟨e,st,hlp,hq⟩:=AR (M:=MX) (fid:=161) (N:=19) (C:=AH MX) (c:=AP Tryz.f161 0) (n:=cs.length) (fun i (b:AE)=>([(0,cv),(1,F),(7,.int .i64 cs.length),(8,.int .i64 i)],b)) (fun i _=>∀ j (hj:j<cs.length),j<i→(FX u) cs[j]=false)
   (fun r=>∃ b:AE,(r=(.ext 0,([(0,cv),(1,F),(7,.int .i64 cs.length),(8,.int .i64 cs.length),(9,.bool false)],b))∧cs.findIdx? (FX u)=none)∨(∃ i:Nat,r=(.ret,([(4,.int .i64 i)],b))∧cs.findIdx? (FX u)=some i)) (fun i b hi hI=>by
     obtain ⟨e,he,hR⟩:=hc.ix hi
     subst hR
     have hi':=Aa hi
     have hw:=AZ hi hl
     obtain ⟨B,hcall⟩:=c162 (u:=u) (q:=q) (c:=cs[i]) b
     cases hx:FX u cs[i] with
     | true=>rw [hx] at hcall;exact .inr ⟨_,_,by simp [Tryz.f161,hi',he,hcall,hF] <;> exact ⟨rfl,rfl⟩,by simp,b++[B],.inr ⟨i,rfl,EN (p:=FX u) hi hI hx⟩⟩
     | false=>rw [hx] at hcall;exact .inl ⟨b++[B],by simp [Tryz.f161,hi',he,hcall,hw,hF],EP (p:=FX u) hi hI hx⟩) (fun b hI=>by
     exact ⟨_,_,by simp [Tryz.f161] <;> exact ⟨rfl,rfl⟩,by simp,b,.inl ⟨rfl,EO (p:=FX u) fun j hj=>hI j hj hj⟩⟩) [] (fun j _ h0=>by omega)
  simp [Tryz.f161] at hlp
  obtain ⟨b,hq⟩:=hq
  rcases hq with ⟨hq,hs⟩ | ⟨i,hq,hs⟩ <;> cases hq <;> exact ⟨b,by simp [AN,Tryz.f161,hc.len,hlp,hs,ixI]⟩
 have hsn:=N5 (f:=162) (id:=id) (b:=false) (h:=H) hq hb
 exact Eo (by simp [NX]) (args':=[cv,.fn 162 [] [.ro [.str u.nm,.int .i64 u.v,q]]]) (by simp [Ax,hc.AD,hsn,AV.AD,AG]) (by simp [hc.AD,AV.AD,AG,hq.AD]) (Ae NX Vf (by simp [hc.AD,AV.AD,AG,hq.AD]) rfl hG _)
theorem Wn:AP Tryz.f100 0=.block 1 (.seq (sub (AP Tryz.f100 0) [0,0]) (.seq (sub (AP Tryz.f100 0) [0,1,0]) (.seq (sub (AP Tryz.f100 0) [0,1,1,0]) (.seq (sub (AP Tryz.f100 0) [0,1,1,1,0]) (.seq (sub (AP Tryz.f100 0) [0,1,1,1,1,0]) (.seq (sub (AP Tryz.f100 0) [0,1,1,1,1,1,0]) (.seq (sub (AP Tryz.f100 0) [0,1,1,1,1,1,1,0]) (sub (AP Tryz.f100 0) [0,1,1,1,1,1,1,1])))))))):=rfl
section
variable {tv:AV} {B:Blk} {T:AE} {a m:Nat} {arm other:Int} {pv cv:AV}
theorem Ys (hix:∀ kd,ixA 4 tv (.int kd (a:Int))=some (.ro [.int .i64 arm,pv,cv,.int .i64 other])) (hpc:pv.cells=some [pv]) (hcc:cv.cells=some [cv]) :
  AW MX 100 63 (AH MX) (sub (AP Tryz.f100 0) [0,0]) ([(0,tv),(3,.hp 0 0),(6,.int .i64 a)],B::T)=some (.nrm,([(0,tv),(3,.hp 0 0),(6,.int .i64 a),(7,.hp (T.length+1) 0)],B::(T++[.var false [.int .i64 arm,pv,cv,.int .i64 other]]))):=by
 simp [Tryz.f100,sub,hix,hpc,hcc]
theorem Wo (hcl:∀ h,Bu cv h=some (.val (.int .i64 0) h)):AW MX 100 63 (AH MX) (sub (AP Tryz.f100 0) [0,1,0]) ([(0,tv),(3,.hp 0 0),(6,.int .i64 a),(7,.hp (T.length+1) 0)],B::(T++[(Blk.var false [AV.int IntKind.i64 arm,pv,cv,AV.int IntKind.i64 other])]))=some (.ret,([(4,.int .i64 arm),(5,.int .i64 0)],B::(T++[(Blk.var false [AV.int IntKind.i64 arm,pv,cv,AV.int IntKind.i64 other])]))):=by
 simp [Tryz.f100,sub,hcl]
theorem Yt {z:Int} (hz:z≠0) (hcl:∀ h,Bu cv h=some (.val (.int .i64 z) h)):AW MX 100 63 (AH MX) (sub (AP Tryz.f100 0) [0,1,0]) ([(0,tv),(3,.hp 0 0),(6,.int .i64 a),(7,.hp (T.length+1) 0)],B::(T++[(Blk.var false [AV.int IntKind.i64 arm,pv,cv,AV.int IntKind.i64 other])]))=some (.nrm,([(0,tv),(3,.hp 0 0),(6,.int .i64 a),(7,.hp (T.length+1) 0),(20,.bool false)],B::(T++[(Blk.var false [AV.int IntKind.i64 arm,pv,cv,AV.int IntKind.i64 other])]))):=by
 have hzb:(z == 0)=false:=by simp [hz]
 simp [Tryz.f100,sub,hcl,hzb]
theorem Yu {y1 y2 y3 z1 z2 z3:AV} {ok:Bool} (hc3:z3.cells=some [z3]) (hc1:z1.cells=some [z1]) (hc2:z2.cells=some [z2]) (h160:∀ h,AK MX (AH MX) 160 [.agg [y1,y2,y3],pv] h=some (.ret (.tup [.agg [z1,z2,z3],.bool ok]),h)) :
  AW MX 100 63 (AH MX) (sub (AP Tryz.f100 0) [0,1,1,0]) ([(0,tv),(3,.hp 0 0),(6,.int .i64 a),(7,.hp (T.length+1) 0),(20,.bool false)],Blk.var false [y1,y2,y3]::(T++[(Blk.var false [AV.int IntKind.i64 arm,pv,cv,AV.int IntKind.i64 other])]))=some (.nrm,([(0,tv),(3,.hp 0 0),(6,.int .i64 a),(7,.hp (T.length+1) 0),(8,.hp (T.length+2) 0),(9,.bool ok)],Blk.var false [y1,y2,y3]::(T++[(Blk.var false [AV.int IntKind.i64 arm,pv,cv,AV.int IntKind.i64 other]),.var false [z1,z2,z3]]))):=by
 simp [Tryz.f100,sub,h160,AV.cells,hc1,hc2,hc3]
theorem UL {ok:Bool} {H:AE}:AW MX 100 63 (AH MX) (sub (AP Tryz.f100 0) [0,1,1,1,0]) ([(0,tv),(3,.hp 0 0),(6,.int .i64 a),(7,.hp (T.length+1) 0),(8,.hp (T.length+2) 0),(9,.bool ok)],H)=some (match ok with
  | false=>(.ret,([(4,.int .i64 0),(5,.int .i64 14)],H))
  | true=>(.nrm,([(0,tv),(3,.hp 0 0),(6,.int .i64 a),(7,.hp (T.length+1) 0),(8,.hp (T.length+2) 0),(31,.bool false)],H))):=by
 cases ok <;> simp [Tryz.f100,sub]
theorem Yv {P:Blk}:AW MX 100 63 (AH MX) (sub (AP Tryz.f100 0) [0,1,1,1,1,0]) ([(0,tv),(3,.hp 0 0),(6,.int .i64 a),(7,.hp (T.length+1) 0),(8,.hp (T.length+2) 0),(31,.bool false)],B::(T++[(Blk.var false [AV.int IntKind.i64 arm,pv,cv,AV.int IntKind.i64 other]),P]))=some (.nrm,([(0,tv),(3,.hp 0 0),(6,.int .i64 a),(7,.hp (T.length+1) 0),(8,.hp (T.length+2) 0),(10,.int .i64 other)],B::(T++[(Blk.var false [AV.int IntKind.i64 arm,pv,cv,AV.int IntKind.i64 other]),P]))):=by
 simp [Tryz.f100,sub]
theorem Yw {P P':Blk} {o:Option Nat} {c1 c2:Nat→AV} {nx:Nat→Int} (h161:AK MX (AH MX) 161 [cv,.fn 162 [] [.hp (T.length+2) 0]] (B::(T++[(Blk.var false [AV.int IntKind.i64 arm,pv,cv,AV.int IntKind.i64 other]),P]))=some (.ret (.int .i64 (ixI o)),B::(T++[(Blk.var false [AV.int IntKind.i64 arm,pv,cv,AV.int IntKind.i64 other]),P']))) (hix:∀ i,o=some i→∀ kd,ixA 3 cv (.int kd (i:Int))=some (.ro [c1 i,c2 i,.int .i64 (nx i)])) :
  ∃ junk,AW MX 100 63 (AH MX) (sub (AP Tryz.f100 0) [0,1,1,1,1,1,0]) ([(0,tv),(3,.hp 0 0),(6,.int .i64 a),(7,.hp (T.length+1) 0),(8,.hp (T.length+2) 0),(10,.int .i64 other)],B::(T++[(Blk.var false [AV.int IntKind.i64 arm,pv,cv,AV.int IntKind.i64 other]),P]))=some (match o with
   | some i=>(.nrm,((0,tv)::(3,.hp 0 0)::(6,.int .i64 a)::(10,.int .i64 (nx i))::junk,B::(T++[(Blk.var false [AV.int IntKind.i64 arm,pv,cv,AV.int IntKind.i64 other]),P'])))
   | none=>if other = -1 then (.ret,([(4,.int .i64 0),(5,.int .i64 12)],B::(T++[(Blk.var false [AV.int IntKind.i64 arm,pv,cv,AV.int IntKind.i64 other]),P']))) else (.nrm,((0,tv)::(3,.hp 0 0)::(6,.int .i64 a)::(10,.int .i64 other)::junk,B::(T++[(Blk.var false [AV.int IntKind.i64 arm,pv,cv,AV.int IntKind.i64 other]),P'])))):=by
 cases o with
 | some i=>
  have hix:=hix i rfl
  have hi:((i:Int) ≥ 0):=by omega
  exact ⟨[],by simp [Tryz.f100,sub,h161,ixI,hix,hi]⟩
 | none=>
  by_cases ho:other = -1
  ·subst ho
   exact ⟨[],by simp [Tryz.f100,sub,h161,ixI]⟩
  ·have hob:(other == -1)=false:=by simp [ho]
   exact ⟨[(47,.bool false)],by simp [Tryz.f100,sub,h161,ixI,ho,hob]⟩
theorem Yx {t:List Dz} {nx:Int} {junk:List (Nat×AV)} {H:AE} (htl:∀ h,Bu tv h=some (.val (.int .i64 t.length) h)) :
  AW MX 100 63 (AH MX) (sub (AP Tryz.f100 0) [0,1,1,1,1,1,1,0]) ((0,tv)::(3,.hp 0 0)::(6,.int .i64 a)::(10,.int .i64 nx)::junk,H)=some (match goV t a nx with
   | .inl r=>(.ret,([(4,.int .i64 0),(5,.int .i64 r.2)],H))
   | .inr b=>(.nrm,([(0,tv),(3,.hp 0 0),(10,.int .i64 nx),(12,.int .i64 0),(60,.bool false)],H))):=by
 unfold goV
 by_cases h1:nx≤a
 ·have g1:¬ (nx > (a:Int)):=by omega
  rw [if_pos h1]
  simp [Tryz.f100,sub,htl,g1,h1,bsA,Ak,List.replicate,AG,AV.AD,An]
 ·have g1:(nx > (a:Int)):=by omega
  rw [if_neg h1]
  by_cases h2:(t.length:Int)≤nx
  ·have g2:¬ (nx<(t.length:Int)):=by omega
   rw [if_pos h2]
   simp [Tryz.f100,sub,htl,g1,g2,h1,bsA,Ak,List.replicate,AG,AV.AD,An]
  ·have g2:(nx<(t.length:Int)):=by omega
   rw [if_neg h2]
   simp [Tryz.f100,sub,htl,g1,g2,bsA,Ak,List.replicate,AG,AV.AD,An]
theorem Yy {nx:Int} {H:AE}:AW MX 100 63 (AH MX) (sub (AP Tryz.f100 0) [0,1,1,1,1,1,1,1]) ([(0,tv),(3,.hp 0 0),(10,.int .i64 nx),(12,.int .i64 0),(60,.bool false)],H)=some (.nrm,([(0,tv),(3,.hp 0 0),(6,.int .i64 nx)],H)):=by
 simp [Tryz.f100,sub]
end
theorem Wp {t:List Dz} {a:Nat} {nx:Int} {r:Int×Int} (h:goV t a nx=.inl r):r.1=0:=by
 unfold goV at h
 split at h
 ·cases h;rfl
 ·split at h
  ·cases h;rfl
  ·cases h
section
variable {t:List Dz} {tv:AV} (ht:SlR EJ 4 t tv) (hst:∀ n∈t,SmN n) {u:TyV} {q:AV} (hu:Ay u [.str u.nm,.int .i64 u.v,q]) (hsu:Sm 1048577 u)
include ht hst hu hsu
theorem UM {a:Nat} (ha:a<t.length) (T:AE):∃ T',AW MX 100 63 (AH MX) (AP Tryz.f100 0) ([(0,tv),(3,.hp 0 0),(6,.int .i64 a)],Blk.var false [.str u.nm,.int .i64 u.v,q]::T)=some (match Ii t u a with
  | .inl r=>(.ret,([(4,.int .i64 r.1),(5,.int .i64 r.2)],Blk.var false [.str u.nm,.int .i64 u.v,q]::T'))
  | .inr b=>(.nrm,([(0,tv),(3,.hp 0 0),(6,.int .i64 b)],Blk.var false [.str u.nm,.int .i64 u.v,q]::T'))):=by
 rw [Wn]
 obtain ⟨e,he,pv,cv,rfl,hp,hc⟩:=ht.ix ha
 have hg:t.getD a default=t[a]:=by simp [ha]
 obtain ⟨l1,l2⟩:=hst _ (List.getElem_mem ha)
 have kA:=Ys (T:=T) (B:=Blk.var false [.str u.nm,.int .i64 u.v,q]) he hp.cells hc.cells
 unfold Ii
 rw [hg]
 by_cases h0:t[a].cases.length=0
 ·rw [if_pos h0]
  have hcl:=hc.len
  rw [h0] at hcl
  exact ⟨_,Da (Ai kA (FV (Wo hcl)))⟩
 ·rw [if_neg h0]
  have kB:=Yt (tv:=tv) (B:=Blk.var false [.str u.nm,.int .i64 u.v,q]) (T:=T) (a:=a) (arm:=t[a].arm) (other:=t[a].other) (pv:=pv) (z:=(t[a].cases.length:Int)) (by omega) hc.len
  obtain ⟨zs,z1,⟨w0,z2⟩,h160⟩:=c160 hu hsu hp l1
  obtain ⟨y3,rfl,hy3⟩:=z2.AY
  obtain ⟨y1,hy1⟩:∃ y1,y1=AV.str w0.nm:=⟨_,rfl⟩
  obtain ⟨y2,hy2⟩:∃ y2,y2=AV.int .i64 w0.v:=⟨_,rfl⟩
  rw [← hy1,← hy2] at h160 z1
  have kC0:=fun (ok:Bool) (h160:∀ h,AK MX (AH MX) 160 [.agg [.str u.nm,.int .i64 u.v,q],pv] h=some (.ret (.tup [.agg [y1,y2,y3],.bool ok]),h))=>Yu (tv:=tv) (T:=T) (a:=a) (arm:=t[a].arm) (other:=t[a].other) (pv:=pv) (cv:=cv) hy3.cells (by rw [hy1];rfl) (by rw [hy2];rfl) h160
  cases hw:Fc u t[a].path with
  | none=>
   rw [hw] at h160
   exact ⟨_,Da (Ai kA (Ai kB (Ai (kC0 false h160) (FV UL))))⟩
  | some w=>
   rw [hw] at h160
   have hwR:=z1 w hw
   obtain ⟨qw,e2,hqw⟩:=hwR.AY
   simp only [List.cons.injEq,and_true] at e2
   have kC:=kC0 true h160
   obtain ⟨e21,e22,e23⟩:=e2
   rw [e21,e22,e23] at kC
   have kD:=UL (tv:=tv) (T:=T) (a:=a) (ok:=true) (H:=Blk.var false [.str u.nm,.int .i64 u.v,q]::(T++[Blk.var false [.int .i64 t[a].arm,pv,cv,.int .i64 t[a].other],.var false [.str w.nm,.int .i64 w.v,qw]]))
   have kE:=Yv (tv:=tv) (B:=Blk.var false [.str u.nm,.int .i64 u.v,q]) (T:=T) (a:=a) (arm:=t[a].arm) (other:=t[a].other) (pv:=pv) (cv:=cv) (P:=.var false [.str w.nm,.int .i64 w.v,qw])
   have h161:=c161 hc l2 hqw (id:=T.length+2) (H:=Blk.var false [.str u.nm,.int .i64 u.v,q]::(T++[Blk.var false [.int .i64 t[a].arm,pv,cv,.int .i64 t[a].other],.var false [.str w.nm,.int .i64 w.v,qw]])) (by simp)
   have hset:(Blk.var false [.str u.nm,.int .i64 u.v,q]::(T++[Blk.var false [.int .i64 t[a].arm,pv,cv,.int .i64 t[a].other],.var false [.str w.nm,.int .i64 w.v,qw]])).set (T.length+2) (.var true [.str w.nm,.int .i64 w.v,qw])=Blk.var false [.str u.nm,.int .i64 u.v,q]::(T++[Blk.var false [.int .i64 t[a].arm,pv,cv,.int .i64 t[a].other],.var true [.str w.nm,.int .i64 w.v,qw]]):=by simp
   rw [hset] at h161
   obtain ⟨junk,kF⟩:=Yw (tv:=tv) (a:=a) (c1:=fun i=> .str (t[a].cases.getD i default).nm) (c2:=fun i=> .int .i64 (t[a].cases.getD i default).num) (nx:=fun i=>(t[a].cases.getD i default).nx) h161 (fun i hi=>by
    obtain ⟨hlt,_⟩:=List.findIdx?_eq_some_iff_getElem.1 hi
    obtain ⟨e,he,hR⟩:=hc.ix hlt
    have hg2:t[a].cases.getD i default=t[a].cases[i]:=by simp [hlt]
    simp only [hg2]
    rw [GL] at hR
    rw [← hR]
    exact he)
   simp only
   have fin:∀ (nx:Int) (junk:List (Nat×AV)) (H:AE),AW MX 100 63 (AH MX) (.seq (sub (AP Tryz.f100 0) [0,1,1,1,1,1,1,0]) (sub (AP Tryz.f100 0) [0,1,1,1,1,1,1,1])) ((0,tv)::(3,.hp 0 0)::(6,.int .i64 a)::(10,.int .i64 nx)::junk,H)=some (match goV t a nx with
     | .inl r=>(.ret,([(4,.int .i64 r.1),(5,.int .i64 r.2)],H))
     | .inr b=>(.nrm,([(0,tv),(3,.hp 0 0),(6,.int .i64 b)],H))):=fun nx junk H=>by
    have kG:=Yx (a:=a) (nx:=nx) (junk:=junk) (H:=H) ht.len
    cases hgo:goV t a nx with
    | inl r=>
     rw [hgo] at kG
     simp only at kG ⊢
     rw [Wp hgo]
     exact FV kG
    | inr b=>
     rw [hgo] at kG
     simp only at kG ⊢
     rw [← (IQ hgo).2.2]
     exact Ai kG Yy
   cases hf:t[a].cases.findIdx? (FX w) with
   | some i=>
    rw [hf] at kF
    simp only at kF ⊢
    have k1:=fin (t[a].cases.getD i default).nx junk (Blk.var false [.str u.nm,.int .i64 u.v,q]::(T++[Blk.var false [.int .i64 t[a].arm,pv,cv,.int .i64 t[a].other],.var true [.str w.nm,.int .i64 w.v,qw]]))
    refine ⟨T++[Blk.var false [.int .i64 t[a].arm,pv,cv,.int .i64 t[a].other],.var true [.str w.nm,.int .i64 w.v,qw]],?_⟩
    have k2:=Ai kA (Ai kB (Ai kC (Ai kD (Ai kE (Ai kF k1)))))
    cases hgo:goV t a (t[a].cases.getD i default).nx with
    | inl r=>rw [hgo] at k2;exact Da k2
    | inr b=>rw [hgo] at k2;exact Ft k2
   | none=>
    rw [hf] at kF
    simp only at kF ⊢
    by_cases ho:t[a].other = -1
    ·rw [if_pos ho] at kF ⊢
     exact ⟨_,Da (Ai kA (Ai kB (Ai kC (Ai kD (Ai kE (FV kF))))))⟩
    ·rw [if_neg ho] at kF ⊢
     have k1:=fin t[a].other junk (Blk.var false [.str u.nm,.int .i64 u.v,q]::(T++[Blk.var false [.int .i64 t[a].arm,pv,cv,.int .i64 t[a].other],.var true [.str w.nm,.int .i64 w.v,qw]]))
     refine ⟨T++[Blk.var false [.int .i64 t[a].arm,pv,cv,.int .i64 t[a].other],.var true [.str w.nm,.int .i64 w.v,qw]],?_⟩
     have k2:=Ai kA (Ai kB (Ai kC (Ai kD (Ai kE (Ai kF k1)))))
     cases hgo:goV t a t[a].other with
     | inl r=>rw [hgo] at k2;exact Da k2
     | inr b=>rw [hgo] at k2;exact Ft k2
theorem c100 (h0:0<t.length):(∃ r,ByR t u 0 r)∧∀ h,AK MX (AH MX) 100 [tv,.agg [.str u.nm,.int .i64 u.v,q]] h=some (.ret (.tup [.int .i64 (byV t u).1,.int .i64 (byV t u).2]),h):=by
 have hn:([tv,.agg [.str u.nm,.int .i64 u.v,q]]:List AV).all AV.AD=true:=by
  have:=hu.AG
  simp only [List.all_cons,List.all_nil,AV.AD,ht.AD,this,Bool.and_self]
 obtain ⟨e,st,hlp,hq⟩:=II (M:=MX) (fid:=100) (N:=63) (C:=AH MX) (c:=AP Tryz.f100 0)
  (fun (b:Nat×AE)=>([(0,tv),(3,.hp 0 0),(6,.int .i64 b.1)],Blk.var false [.str u.nm,.int .i64 u.v,q]::b.2))
  (fun b=>b.1<t.length∧∀ r,ByR t u b.1 r→ByR t u 0 r)
  (fun b=>t.length - b.1)
  (fun r=>∃ (z:Int×Int) (T:AE),ByR t u 0 z∧r=(.ret,([(4,.int .i64 z.1),(5,.int .i64 z.2)],Blk.var false [.str u.nm,.int .i64 u.v,q]::T))) (fun b hI=>by
    obtain ⟨a,T⟩:=b
    obtain ⟨i1,i2⟩:=hI
    simp only at i1 i2
    obtain ⟨T',hr⟩:=UM ht hst hu hsu i1 T
    cases hx:Ii t u a with
    | inl r=>
     rw [hx] at hr
     exact .inr ⟨_,_,hr,by simp,r,T',i2 r (.done hx),rfl⟩
    | inr b=>
     rw [hx] at hr
     obtain ⟨g1,g2⟩:=L5 hx
     exact .inl ⟨(b,T'),hr,⟨g2,fun r h=>i2 r (.step hx h)⟩,by show t.length - b<t.length - a;omega⟩) (0,[]) ⟨h0,fun r h=>h⟩
 obtain ⟨z,T,hz,hq⟩:=hq
 cases hq
 simp [Tryz.f100] at hlp
 refine ⟨⟨z,hz⟩,fun h => ?_⟩
 rw [UK hz]
 exact Ae NL VJ hn rfl (hr:=_) (by simp [AN,Tryz.f100,hlp] <;> rfl) h
noncomputable def rBy (t:List Dz) (u:TyV):Int×Int:=if t.length=0 then (0,10) else if 400<t.length then (0,8) else if A1 u=true then byV t u else (0,8)
theorem c52 (h:AE):AK MX (AH MX) 52 [tv,.agg [.str u.nm,.int .i64 u.v,q]] h=some (.ret (.tup [.int .i64 (rBy t u).1,.int .i64 (rBy t u).2]),h):=by
 have hb:=TW
 simp [BK,Be,Tryz.f52] at hb
 have hun:=hu.AG
 have hn:([tv,.agg [.str u.nm,.int .i64 u.v,q]]:List AV).all AV.AD=true:=by
  simp only [List.all_cons,List.all_nil,AV.AD,ht.AD,hun,Bool.and_self]
 have h98:=c98 ht
 have h102:=Lg.c102 hu hsu
 have hqn:q.AD=true:=by simpa [AG,AV.AD] using hun
 unfold rBy
 by_cases h0:t.length=0
 ·simp only [if_pos h0] at h98 ⊢
  cases hT:A1 u <;> rw [hT] at h102 <;> simp at h102 <;> exact Ae J8 MU hn rfl (hr:=_) (by simp [AN,Tryz.f52,h98,h102,hb,bsA,Ak,List.replicate,AG,AV.AD,An,ht.AD,hqn] <;> rfl) h
 ·simp only [if_neg h0] at h98 ⊢
  by_cases h4:400<t.length
  ·simp only [if_pos h4] at h98 ⊢
   cases hT:A1 u <;> rw [hT] at h102 <;> simp at h102 <;> exact Ae J8 MU hn rfl (hr:=_) (by simp [AN,Tryz.f52,h98,h102,hb,bsA,Ak,List.replicate,AG,AV.AD,An,ht.AD,hqn] <;> rfl) h
  ·simp only [if_neg h4] at h98 ⊢
   have h100:=(c100 ht hst hu hsu (by omega)).2
   cases hT:A1 u with
   | true=>
    rw [hT] at h102
    simp at h102
    rw [if_pos rfl]
    exact Ae J8 MU hn rfl (hr:=_) (by simp [AN,Tryz.f52,h98,h102,h100,hb,bsA,Ak,List.replicate,AG,AV.AD,An,ht.AD,hqn] <;> rfl) h
   | false=>
    rw [hT] at h102
    simp at h102
    rw [if_neg (by decide)]
    exact Ae J8 MU hn rfl (hr:=_) (by simp [AN,Tryz.f52,h98,h102,hb,bsA,Ak,List.replicate,AG,AV.AD,An,ht.AD,hqn] <;> rfl) h
end
noncomputable def EF (t:List Dz) (k:Dx) (u:TyV):Bool:=decide ((byV t u).2=0)&&((byV t u).1 == ixI (UA k u))
noncomputable abbrev stepG (t:List Dz) (k:Dx):Int→TyV→Int×Bool:=fun b u=>match EF t k u with
 | true=>(wr .i64 (b+1),true)
 | false=>(b,false)
theorem XV (t:List Dz) (k:Dx):∀ (l:List TyV) (b:Int),0≤b→b+l.length<1000000000→walk (stepG t k) b l=match l.findIdx? (fun u => !EF t k u) with
  | none=>(b+l.length,true)
  | some j=>(b+j,false)
 | [],b,_,_=>by simp [walk]
 | u::l,b,h0,h1=>by
  simp only [walk,List.findIdx?_cons]
  simp only [List.length_cons] at h1 ⊢
  cases hg:EF t k u with
  | true=>
   have:stepG t k b u=(b+1,true):=by simp only [stepG,hg];rw [BD (by omega) (by omega)]
   rw [this]
   simp only [andThen]
   rw [XV t k l (b+1) (by omega) (by omega)]
   cases hf:l.findIdx? (fun u => !EF t k u) with
   | none=>simp;omega
   | some j=>simp;omega
  | false=>
   have:stepG t k b u=(b,false):=by simp only [stepG,hg]
   rw [this]
   simp [andThen]
section
variable {t:List Dz} {tv:AV} (ht:SlR EJ 4 t tv) (hst:∀ n∈t,SmN n) (ht0:0<t.length)
variable {k:Dx} {dv pv av:AV} (ha:SlR AU 4 k.arms av) (hal:k.arms.length<1048577) (has:∀ p∈k.arms,Sm 1048577 p) {s:Sh} (hpe:∀ p∈k.arms,Ch s p=0)
include ht hst ht0 ha hal has hpe
theorem con99 {tb kb o:Nat} (n1:tb≠o) (n2:kb≠o) :
  Con 99 [.hp tb 0,.hp kb 0,.hp o 0] (fun x=>x=o) (fun (b:Int) H=>H[tb]? = some (.var false [tv])∧H[kb]? = some (.var false (tcs k dv pv av))∧H[o]? = some (.var false [.int .i64 b])) (stepG t k) (VS s):=by
 refine ⟨rfl,KA,fun b H u row hP hr hv => ?_,fun b H H' hP x => ?_⟩
 ·obtain ⟨p1,p2,p3⟩:=hP
  obtain ⟨rv,rfl,hrc⟩:=row3 hr
  have htn:=ht.AD
  have htc:=ht.cells
  have hX:Ext NoM H (H++[.var false [.str u.nm,.int .i64 u.v,rv]]):=Ext.app _ _
  have e1:=Al p1 [.var false [.str u.nm,.int .i64 u.v,rv]]
  have e2:=Al p2 [.var false [.str u.nm,.int .i64 u.v,rv]]
  obtain ⟨row',H',b1,b2,b3,b4⟩:=T9 (hr.ext hX)
  have b10:=b1
  obtain ⟨q',e',hq'⟩:=b10.AY
  subst e'
  have h100:=b4 100 [tv] _ (by simp [NL]) (by simp [htn]) ((c100 ht hst b1 hv.2.1 ht0).2 H')
  simp at h100
  have f2:=b2.var e2 (fun h=>h)
  have fx:=b2.var (Ce H (.var false [.str u.nm,.int .i64 u.v,rv])) (fun h=>h)
  have f3:=(hX.trans b2).var p3 (fun h=>h)
  have f1:=b2.var e1 (fun h=>h)
  obtain ⟨z,hz⟩:∃ z,z=byV t u:=⟨_,rfl⟩
  rw [← hz] at h100
  by_cases hz2:z.2=0
  ·rw [hz2] at h100
   obtain ⟨row2,H2,d1,d2,d3,d4⟩:=T9 ((hr.ext hX).ext b2)
   have h62:=d4 62 [av] _ (by simp [Ph]) (by simp [ha.AD]) (c62 ha hal has d1 hpe hv.1 H2)
   simp at h62
   have g1:=d2.var f1 (fun h=>h)
   have g2:=d2.var f2 (fun h=>h)
   have g3:=d2.var f3 (fun h=>h)
   have hlo:=(List.getElem?_eq_some_iff.1 g3).1
   obtain ⟨x,hx⟩:∃ x,x=ixI (UA k u):=⟨_,rfl⟩
   have h62:AK MX (AH MX) 62 [av,.agg [.str u.nm,.int .i64 u.v,rv]] H'=some (.ret (.int .i64 x),H2):=by rw [hx];exact h62
   cases hg:z.1 == x with
   | true=>
    have hgv:EF t k u=true:=by unfold EF;rw [← hz,← hx,hz2,hg];rfl
    have hgn:(z.1 != x)=false:=by simp [bne,hg]
    have hs:Ext (fun y=>y=o) H2 (H2.set o (.var false [.int .i64 (wr .i64 (b+1))])):=Ext.set (M:=fun y=>y=o) g3 rfl (fun _ _ e=>by cases e) (fun _ _ e=>by cases e)
    refine ⟨H2.set o (.var false [.int .i64 (wr .i64 (b+1))]),Dy KA Oo ?_,?_,(hX.trans (b2.trans d2)).any.trans hs⟩
    ·simp [AN,Tryz.f99,hrc,e1,htc,h100,f2,fx,Ag fx,h62,hgn,g3,Ag g3,hlo,stepG,hgv]
    ·simp only [stepG,hgv]
     exact ⟨hs.var g1 n1,hs.var g2 n2,List.getElem?_set_self hlo⟩
   | false=>
    have hgv:EF t k u=false:=by unfold EF;rw [← hz,← hx,hg];simp
    have hgn:(z.1 != x)=true:=by simp [bne,hg]
    refine ⟨H2,Dy KA Oo ?_,?_,(hX.trans (b2.trans d2)).any⟩
    ·simp [AN,Tryz.f99,hrc,e1,htc,h100,f2,fx,Ag fx,h62,hgn,stepG,hgv]
    ·simp only [stepG,hgv]
     exact ⟨g1,g2,g3⟩
  ·have hzb:(z.2 != 0)=true:=by simp [hz2]
   have hgv:EF t k u=false:=by unfold EF;rw [← hz,decide_eq_false hz2];rfl
   refine ⟨H',Dy KA Oo ?_,?_,(hX.trans b2).any⟩
   ·simp [AN,Tryz.f99,hrc,e1,htc,h100,hzb,stepG,hgv]
   ·simp only [stepG,hgv]
    exact ⟨f1,f2,f3⟩
 ·obtain ⟨p1,p2,p3⟩:=hP
  exact ⟨x.var p1 (fun h=>h),x.var p2 (fun h=>h),x.var p3 (fun h=>h)⟩
end
noncomputable def FP (k:Dx) (t:List Dz):Int:=if (Aq k.data k.ty k.arms).2=0 then (if t.length=0 then 10 else if 400<t.length then 8 else 0) else (Aq k.data k.ty k.arms).2
section
variable {k:Dx} {xs:List AV} (hx:DS k xs) (hsk:SmT 1048577 k) {t:List Dz} {tv:AV} (ht:SlR EJ 4 t tv) (hst:∀ n∈t,SmN n)
include hx hsk ht hst
theorem c50 (h:AE):AK MX (AH MX) 50 [.agg xs,tv] h=some (.ret (.tup [.int .i64 (if FP k t=0 then (match (Cx (CY k.data k.ty)).findIdx? (fun u => !EF t k u) with | none=>0 | some j=>(j:Int)) else 0),.int .i64 (if FP k t=0 then (match (Cx (CY k.data k.ty)).findIdx? (fun u => !EF t k u) with | none=>0 | some _=>19) else FP k t)]),h):=by
 have hx0:=hx
 have hxn:AG xs=true:=by obtain ⟨dv,pv,av,rfl,hd,hp,ht,ha⟩:=hx.dest;simp [AV.AD,AG,hd.AD,hp.AD,ha.AD]
 have hn:([.agg xs,tv]:List AV).all AV.AD=true:=by simp [AV.AD,hxn,ht.AD]
 obtain ⟨dv,pv,av,rfl,hd,hp,hty,ha⟩:=hx.dest
 have hsk0:=hsk
 obtain ⟨s1,s2,s3,s4⟩:=hsk
 have h98:=c98 ht
 have htc:=ht.cells
 obtain ⟨v,H1,h63,hold,hok⟩:=c63 hx0 hsk0 [.var false (tcs k dv pv av),.var false [tv]]
 have b0:H1[0]? = some (.var false (tcs k dv pv av)):=hold 0 (by simp)
 have b1:H1[1]? = some (.var false [tv]):=hold 1 (by simp)
 have l1:=(List.getElem?_eq_some_iff.1 b1).1
 have h98':∀ h,AK MX (AH MX) 98 [tv] h=some (.ret (.int .i64 (if t.length=0 then 10 else if 400<t.length then 8 else 0)),h):=h98
 obtain ⟨te,hte⟩:∃ te:Int,te=(if t.length=0 then 10 else if 400<t.length then 8 else 0):=⟨_,rfl⟩
 rw [← hte] at h98'
 have hrT:FP k t=An [(Aq k.data k.ty k.arms).2,te]:=by
  unfold FP
  rw [← hte]
  by_cases hE:(Aq k.data k.ty k.arms).2=0
  ·rw [if_pos hE,hE]
   by_cases h2:te=0 <;> simp [An,h2]
  ·rw [if_neg hE];simp [An,hE]
 by_cases hz:FP k t=0
 ·simp only [if_pos hz]
  have hE:(Aq k.data k.ty k.arms).2=0:=by
   unfold FP at hz
   split at hz
   ·rename_i h;exact h
   ·exact hz
  have ht0:0<t.length:=by
   unfold FP at hz
   rw [if_pos hE] at hz
   split at hz
   ·cases hz
   ·omega
  have hfo:=hrT.symm.trans hz
  rw [hE] at h63 hfo
  obtain ⟨m,S,hS,hs⟩:=hok hE
  obtain ⟨hw,hsh,hvt,hcd⟩:=LB hsk0 hE
  have hlen:=IP s1 s2 (JW hE).1
  have hX:Ext NoM H1 (H1++[.var false [.int .i64 0]]):=Ext.app _ _
  have hcon:=con99 (dv:=dv) (pv:=pv) ht hst ht0 ha s3 s4 (RR hx0 hsk0 hE) (tb:=1) (kb:=0) (o:=H1.length) (by omega) (by omega)
  obtain ⟨H2,c1,c2,c3⟩:=c64 hw Int 99 _ (fun x=>x=H1.length) _ _ _ hcon m S (H1++[.var false [.int .i64 0]]) v 0 (BA.ext m hs hX (fun x _ h=>h)) (fun x hx h=>by have:=hS x hx;omega) (fun x hx=>by simp;omega) (fun u hu=>Mm hw u hu) ⟨Al b1 _,Al b0 _,Ce _ _⟩
  rw [XV t k _ 0 (by omega) (by omega)] at c1 c2
  obtain ⟨_,_,c2⟩:=c2
  cases hf:(Cx (CY k.data k.ty)).findIdx? (fun u => !EF t k u) with
  | none=>
   rw [hf] at c1
   simp at c1
   exact Ae J7 Ol hn rfl (hr:=_) (by simp [AN,Tryz.f50,hd.cells,hp.cells,ha.cells,htc,h63,b1,h98',hfo,bsA,Ak,List.replicate,AG,AV.AD,c1] <;> rfl) h
  | some j=>
   rw [hf] at c1 c2
   simp at c1 c2
   exact Ae J7 Ol hn rfl (hr:=_) (by simp [AN,Tryz.f50,hd.cells,hp.cells,ha.cells,htc,h63,b1,h98',hfo,bsA,Ak,List.replicate,AG,AV.AD,c1,c2,Ag c2] <;> rfl) h
 ·simp only [if_neg hz]
  have hzb:(FP k t != 0)=true:=by simp [hz]
  rw [hrT] at hzb ⊢
  exact Ae J7 Ol hn rfl (hr:=_) (by simp [AN,Tryz.f50,hd.cells,hp.cells,ha.cells,htc,h63,b1,h98',hzb,bsA,Ak,List.replicate,AG,AV.AD] <;> rfl) h
end
theorem Yz:AP Tryz.f53 0=.block 1 (.seq (sub (AP Tryz.f53 0) [0,0]) (.seq (sub (AP Tryz.f53 0) [0,1,0]) (.seq (sub (AP Tryz.f53 0) [0,1,1,0]) (.seq (sub (AP Tryz.f53 0) [0,1,1,1,0]) (.seq (sub (AP Tryz.f53 0) [0,1,1,1,1,0]) (.seq (sub (AP Tryz.f53 0) [0,1,1,1,1,1,0]) (.seq (sub (AP Tryz.f53 0) [0,1,1,1,1,1,1,0]) (.seq (sub (AP Tryz.f53 0) [0,1,1,1,1,1,1,1,0]) (.seq (sub (AP Tryz.f53 0) [0,1,1,1,1,1,1,1,1,0]) (sub (AP Tryz.f53 0) [0,1,1,1,1,1,1,1,1,1])))))))))):=rfl
section
variable {tv:AV} {B:Blk} {T:AE} {a m:Nat} {arm other:Int} {pv cv:AV}
theorem st53A (hix:∀ kd,ixA 4 tv (.int kd (a:Int))=some (.ro [.int .i64 arm,pv,cv,.int .i64 other])) (hpc:pv.cells=some [pv]) (hcc:cv.cells=some [cv]) :
  AW MX 53 111 (AH MX) (sub (AP Tryz.f53 0) [0,0]) ([(0,tv),(3,.hp 0 0),(6,.int .i64 a)],B::T)=some (.nrm,([(0,tv),(3,.hp 0 0),(6,.int .i64 a),(7,.hp (T.length+1) 0)],B::(T++[.var false [.int .i64 arm,pv,cv,.int .i64 other]]))):=by
 simp [Tryz.f53,sub,hix,hpc,hcc]
theorem Y0 (hcl:∀ h,Bu cv h=some (.val (.int .i64 0) h)):AW MX 53 111 (AH MX) (sub (AP Tryz.f53 0) [0,1,0]) ([(0,tv),(3,.hp 0 0),(6,.int .i64 a),(7,.hp (T.length+1) 0)],B::(T++[(Blk.var false [AV.int IntKind.i64 arm,pv,cv,AV.int IntKind.i64 other])]))=some (.ret,([(4,.int .i64 arm),(5,.int .i64 0)],B::(T++[(Blk.var false [AV.int IntKind.i64 arm,pv,cv,AV.int IntKind.i64 other])]))):=by
 simp [Tryz.f53,sub,hcl]
theorem st53B {z:Int} (hz:z≠0) (hcl:∀ h,Bu cv h=some (.val (.int .i64 z) h)):AW MX 53 111 (AH MX) (sub (AP Tryz.f53 0) [0,1,0]) ([(0,tv),(3,.hp 0 0),(6,.int .i64 a),(7,.hp (T.length+1) 0)],B::(T++[(Blk.var false [AV.int IntKind.i64 arm,pv,cv,AV.int IntKind.i64 other])]))=some (.nrm,([(0,tv),(3,.hp 0 0),(6,.int .i64 a),(7,.hp (T.length+1) 0),(32,.bool false)],B::(T++[(Blk.var false [AV.int IntKind.i64 arm,pv,cv,AV.int IntKind.i64 other])]))):=by
 have hzb:(z == 0)=false:=by simp [hz]
 simp [Tryz.f53,sub,hcl,hzb]
theorem st53C {y1 y2 y3:AV} (hc1:y1.cells=some [y1]) (hc2:y2.cells=some [y2]) (hc3:y3.cells=some [y3]) :
  AW MX 53 111 (AH MX) (sub (AP Tryz.f53 0) [0,1,1,0]) ([(0,tv),(3,.hp 0 0),(6,.int .i64 a),(7,.hp (T.length+1) 0),(32,.bool false)],Blk.var false [y1,y2,y3]::(T++[(Blk.var false [AV.int IntKind.i64 arm,pv,cv,AV.int IntKind.i64 other])]))=some (.nrm,([(0,tv),(3,.hp 0 0),(6,.int .i64 a),(7,.hp (T.length+1) 0),(8,.hp (T.length+2) 0)],Blk.var false [y1,y2,y3]::(T++[(Blk.var false [AV.int IntKind.i64 arm,pv,cv,AV.int IntKind.i64 other]),.var false [y1,y2,y3]]))):=by
 simp [Tryz.f53,sub,AV.cells,hc1,hc2,hc3]
theorem st53D {u:TyV} {q:AV} (hu:Ay u [.str u.nm,.int .i64 u.v,q]) (hsu:Sm 1048577 u) {l:List Int} (hp:SlR HZ 1 l pv) (hl:l.length<1048577):∃ junk s,AW MX 53 111 (AH MX) (sub (AP Tryz.f53 0) [0,1,1,1,0]) ([(0,tv),(3,.hp 0 0),(6,.int .i64 a),(7,.hp (T.length+1) 0),(8,.hp (T.length+2) 0)],B::(T++[(Blk.var false [AV.int IntKind.i64 arm,pv,cv,AV.int IntKind.i64 other]),.var false [.str u.nm,.int .i64 u.v,q]]))=some (match Fc u l with
  | none=>(.ret,([(4,.int .i64 0),(5,.int .i64 14)],B::s))
  | some w=>(.nrm,((0,tv)::(3,.hp 0 0)::(6,.int .i64 a)::(7,.hp (T.length+1) 0)::(8,.hp (T.length+2) 0)::junk,B::s)))∧∀ w,Fc u l=some w→∃ qw,Ay w [.str w.nm,.int .i64 w.v,qw]∧s=T++[(Blk.var false [AV.int IntKind.i64 arm,pv,cv,AV.int IntKind.i64 other]),.var false [.str w.nm,.int .i64 w.v,qw]]:=by
 have hb1:=Qp
 simp [BK,Be,Tryz.f53] at hb1
 have hb2:=Qq
 simp [BK,Be,Tryz.f53] at hb2
 obtain ⟨e,st,hlp,hq⟩:=AR (M:=MX) (fid:=53) (N:=111) (C:=AH MX) (c:=AP Tryz.f53 1) (n:=l.length)
  (fun i (b:TyV×AV)=>([(0,tv),(3,.hp 0 0),(6,.int .i64 a),(7,.hp (T.length+1) 0),(8,.hp (T.length+2) 0),(9,.int .i64 i)],B::(T++[(Blk.var false [AV.int IntKind.i64 arm,pv,cv,AV.int IntKind.i64 other]),.var false [.str b.1.nm,.int .i64 b.1.v,b.2]])))
  (fun i b=>Ay b.1 [.str b.1.nm,.int .i64 b.1.v,b.2]∧Sm 1048577 b.1∧Fc u l=Fc b.1 (l.drop i))
  (fun r=>∃ (b:TyV×AV),Ay b.1 [.str b.1.nm,.int .i64 b.1.v,b.2]∧((r=(.ext 2,([(0,tv),(3,.hp 0 0),(6,.int .i64 a),(7,.hp (T.length+1) 0),(8,.hp (T.length+2) 0),(9,.int .i64 l.length),(40,.bool false)],B::(T++[(Blk.var false [AV.int IntKind.i64 arm,pv,cv,AV.int IntKind.i64 other]),.var false [.str b.1.nm,.int .i64 b.1.v,b.2]])))∧Fc u l=some b.1)∨(r=(.ret,([(4,.int .i64 0),(5,.int .i64 14)],B::(T++[(Blk.var false [AV.int IntKind.i64 arm,pv,cv,AV.int IntKind.i64 other]),.var false [.str b.1.nm,.int .i64 b.1.v,b.2]])))∧Fc u l=none))) (fun i b hi hI=>by
    obtain ⟨w,q⟩:=b
    obtain ⟨i1,i2,i3⟩:=hI
    simp only at i1 i2 i3
    have hi':=Aa hi
    have hwr:=AZ hi hl
    obtain ⟨e,he,hR⟩:=hp.ix hi
    subst hR
    obtain ⟨z,hz⟩:∃ z,z=l[i]:=⟨_,rfl⟩
    rw [List.drop_eq_getElem_cons hi,← hz] at i3
    rw [← hz] at he
    obtain ⟨q2,e2,hq⟩:=i1.AY
    simp only [List.cons.injEq,true_and,and_true] at e2
    subst e2
    have hlq:=hq.len
    have hkd:=hq.E3
    obtain ⟨m,hm⟩:∃ m:Int,m=(w.ps.length:Int):=⟨_,rfl⟩
    rw [← hm] at hlq
    have hps:=i2.parts
    have hsub:wr .i64 (m - 1)=m - 1:=by
     by_cases h0:0≤m - 1
     ·exact BD h0 (by omega)
     ·have:m - 1 = -1:=by omega
      rw [this];decide
    simp only [Fc] at i3
    by_cases hc:0≤z∧z≤m - 1
    ·rw [if_pos (by rw [← hm];exact hc)] at i3
     obtain ⟨j,hj⟩:∃ j:Nat,z=j:=⟨z.toNat,by omega⟩
     have hjl:j<w.ps.length:=by omega
     obtain ⟨e3,he3,hR3⟩:=hq.ix hjl
     have hg:w.ps.getD z.toNat default=w.ps[j]:=by rw [hj];simp [hjl]
     rw [hg] at i3
     obtain ⟨q3,rfl,hq3⟩:=hR3.AY
     rw [← hj] at he3
     have hqc:=hq3.cells
     exact .inl ⟨(w.ps[j],q3),by simp [Tryz.f53,hp.len,hi',he,hlq,hkd,hsub,hc,he3,hqc,hwr,hb1,hb2,AG,AV.AD],hR3,hps.2 _ (List.getElem_mem hjl),i3⟩
    ·rw [if_neg (by rw [← hm];exact hc)] at i3
     refine .inr ⟨_,_,by simp [Tryz.f53,hp.len,hi',he,hlq,hkd,hsub,hc,hb1,AG,AV.AD] <;> first | exact ⟨rfl,rfl⟩ | rfl,by simp,(w,q),i1,.inr ⟨rfl,i3⟩⟩) (fun b hI=>by
    obtain ⟨w,q⟩:=b
    obtain ⟨i1,i2,i3⟩:=hI
    rw [List.drop_length] at i3
    exact ⟨_,_,by simp [Tryz.f53,hp.len] <;> first | exact ⟨rfl,rfl⟩ | rfl,by simp,(w,q),i1,.inl ⟨rfl,i3⟩⟩) (u,q) ⟨hu,hsu,rfl⟩
 obtain ⟨⟨w,q'⟩,b1,hq⟩:=hq
 simp only at hlp b1
 simp [Tryz.f53] at hlp
 rcases hq with ⟨hq,hr⟩ | ⟨hq,hr⟩ <;> cases hq <;> rw [hr]
 ·exact ⟨[(9,.int .i64 l.length),(40,.bool false)],_,by simp [Tryz.f53,sub,hlp] <;> rfl,fun w' h'=>by cases h';exact ⟨q',b1,rfl⟩⟩
 ·exact ⟨[],_,by simp [Tryz.f53,sub,hlp] <;> rfl,fun w' h'=>by cases h'⟩
end
section
variable {tv:AV} {B:Blk} {T:AE} {a m:Nat} {arm other:Int} {pv cv:AV}
theorem st53E {P:Blk} {junk:List (Nat×AV)}:AW MX 53 111 (AH MX) (sub (AP Tryz.f53 0) [0,1,1,1,1,0]) ((0,tv)::(3,.hp 0 0)::(6,.int .i64 a)::(7,.hp (T.length+1) 0)::(8,.hp (T.length+2) 0)::junk,B::(T++[(Blk.var false [AV.int IntKind.i64 arm,pv,cv,AV.int IntKind.i64 other]),P]))=some (.nrm,([(0,tv),(3,.hp 0 0),(6,.int .i64 a),(7,.hp (T.length+1) 0),(8,.hp (T.length+2) 0),(10,.int .i64 other),(11,.bool false)],B::(T++[(Blk.var false [AV.int IntKind.i64 arm,pv,cv,AV.int IntKind.i64 other]),P]))):=by
 simp [Tryz.f53,sub]
def nxO (other:Int):Option Gl→Int
 | none=>other
 | some c=>c.nx
theorem RV {cs:List Gl} {q:Gl→Bool} {j:Nat} (hj:j<cs.length):(cs.drop j).find? q=if q cs[j]=true then some cs[j] else (cs.drop (j+1)).find? q:=by
 rw [List.drop_eq_getElem_cons hj,List.find?_cons]
 cases q cs[j] <;> rfl
theorem LH (w:TyV) (c:Gl):FX w c=((c.nm == w.nm)&&(!c.nm.isEmpty||c.num == w.v)):=by
 unfold FX
 cases c.nm <;> rfl
theorem st53F {w:TyV} {qw:AV} {cs:List Gl} (hc:SlR GL 3 cs cv) (hl:cs.length<1048577):∃ junk X,AW MX 53 111 (AH MX) (sub (AP Tryz.f53 0) [0,1,1,1,1,1,0]) ([(0,tv),(3,.hp 0 0),(6,.int .i64 a),(7,.hp (T.length+1) 0),(8,.hp (T.length+2) 0),(10,.int .i64 other),(11,.bool false)],B::(T++[(Blk.var false [AV.int IntKind.i64 arm,pv,cv,AV.int IntKind.i64 other]),.var false [.str w.nm,.int .i64 w.v,qw]]))=some (.nrm,((0,tv)::(3,.hp 0 0)::(6,.int .i64 a)::(7,.hp (T.length+1) 0)::(8,.hp (T.length+2) 0)::(10,.int .i64 (nxO other (cs.find? (FX w))))::(11,.bool (cs.find? (FX w)).isSome)::junk,B::X)):=by
 obtain ⟨e,st,hlp,hq⟩:=AR (M:=MX) (fid:=53) (N:=111) (C:=AH MX) (c:=AP Tryz.f53 2) (n:=cs.length)
  (fun i (b:Option Gl×AE)=>([(0,tv),(3,.hp 0 0),(6,.int .i64 a),(7,.hp (T.length+1) 0),(8,.hp (T.length+2) 0),(10,.int .i64 (nxO other b.1)),(11,.bool b.1.isSome),(12,.int .i64 (dn cs.length i))],B::(T++(Blk.var false [AV.int IntKind.i64 arm,pv,cv,AV.int IntKind.i64 other])::.var false [.str w.nm,.int .i64 w.v,qw]::b.2)))
  (fun i b=>b.1=(cs.drop (cs.length - i)).find? (FX w))
  (fun r=>∃ (b:Option Gl×AE),b.1=cs.find? (FX w)∧r=(.ext 4,([(0,tv),(3,.hp 0 0),(6,.int .i64 a),(7,.hp (T.length+1) 0),(8,.hp (T.length+2) 0),(10,.int .i64 (nxO other b.1)),(11,.bool b.1.isSome),(12,.int .i64 (-1)),(70,.bool false)],B::(T++(Blk.var false [AV.int IntKind.i64 arm,pv,cv,AV.int IntKind.i64 other])::.var false [.str w.nm,.int .i64 w.v,qw]::b.2)))) (fun i b hi hI=>by
    obtain ⟨o,X⟩:=b
    simp only at hI
    obtain ⟨d1,d2⟩:=QV hi
    obtain ⟨j,hj⟩:∃ j,j=cs.length - 1 - i:=⟨_,rfl⟩
    rw [← hj] at d1
    have hjl:j<cs.length:=by omega
    have e1:cs.length - i=j+1:=by omega
    have e2:cs.length - (i+1)=j:=by omega
    rw [e1] at hI
    obtain ⟨e,he,hR⟩:=hc.ix hjl
    subst hR
    have hfd:=RV (q:=FX w) hjl
    rw [← hI] at hfd
    have hwd:wr .i64 ((j:Int) - 1)=dn cs.length (i+1):=by
     rw [show (j:Int) - 1=dn cs.length (i+1) by unfold dn;omega]
     by_cases h0:0≤dn cs.length (i+1)
     ·exact BD h0 (by unfold dn;omega)
     ·have:dn cs.length (i+1) = -1:=by unfold dn at h0 ⊢;omega
      rw [this];decide
    obtain ⟨z,hz⟩:∃ z:Int,z=(j:Int):=⟨_,rfl⟩
    have hge:z ≥ 0:=by omega
    rw [← hz] at d1 hwd he
    have g8:∀ X:AE,(B::(T++(Blk.var false [AV.int IntKind.i64 arm,pv,cv,AV.int IntKind.i64 other])::.var false [.str w.nm,.int .i64 w.v,qw]::X))[T.length+2]? = some (.var false [.str w.nm,.int .i64 w.v,qw]):=fun X=>by
     show (T++(Blk.var false [AV.int IntKind.i64 arm,pv,cv,AV.int IntKind.i64 other])::.var false [.str w.nm,.int .i64 w.v,qw]::X)[T.length+1]? = _
     exact gb7
    have g7:∀ X:AE,(B::(T++(Blk.var false [AV.int IntKind.i64 arm,pv,cv,AV.int IntKind.i64 other])::.var false [.str w.nm,.int .i64 w.v,qw]::X))[T.length+1]? = some (Blk.var false [AV.int IntKind.i64 arm,pv,cv,AV.int IntKind.i64 other]):=fun X=>by
     show (T++(Blk.var false [AV.int IntKind.i64 arm,pv,cv,AV.int IntKind.i64 other])::.var false [.str w.nm,.int .i64 w.v,qw]::X)[T.length]? = _
     exact ga7
    cases hf:FX w cs[j] with
    | true=>
     rw [if_pos hf] at hfd
     rw [LH] at hf
     refine .inl ⟨(some cs[j],X++[.var false [.str cs[j].nm,.int .i64 cs[j].num,.int .i64 cs[j].nx]]),?_,by rw [e2,hfd]⟩
     cases h1:cs[j].nm == w.nm <;> cases h2:cs[j].nm.isEmpty <;> cases h3:cs[j].num == w.v <;> rw [h1,h2,h3] at hf <;> first | (cases hf;done) | simp [Tryz.f53,d1,hge,he,g7,gb7,ga7,h1,h2,h3,hwd,nxO]
    | false=>
     rw [if_neg (by rw [hf];decide)] at hfd
     rw [LH] at hf
     refine .inl ⟨(o,X++[.var false [.str cs[j].nm,.int .i64 cs[j].num,.int .i64 cs[j].nx]]),?_,by rw [e2,hfd]⟩
     cases h1:cs[j].nm == w.nm <;> cases h2:cs[j].nm.isEmpty <;> cases h3:cs[j].num == w.v <;> rw [h1,h2,h3] at hf <;> first | (cases hf;done) | simp [Tryz.f53,d1,hge,he,g7,gb7,ga7,h1,h2,h3,hwd]) (fun b hI=>by
    obtain ⟨o,X⟩:=b
    simp only at hI
    rw [Nat.sub_self,List.drop_zero] at hI
    have hd:dn cs.length cs.length = -1:=by unfold dn;omega
    exact ⟨_,_,by simp [Tryz.f53,hd] <;> first | exact ⟨rfl,rfl⟩ | rfl,by simp,(o,X),hI,rfl⟩) (none,[]) (by simp)
 obtain ⟨⟨o,X⟩,hI,hq⟩:=hq
 simp only at hI hq
 subst hI
 simp only [Prod.mk.injEq] at hq
 obtain ⟨rfl,rfl⟩:=hq
 obtain ⟨z,hz⟩:∃ z:Int,z=(cs.length:Int):=⟨_,rfl⟩
 have hcl:=hc.len
 rw [← hz] at hcl
 have hdn:dn cs.length 0=z - 1:=by unfold dn;omega
 have hsub:wr .i64 (z - 1)=z - 1:=by
  by_cases h0:0≤z - 1
  ·exact BD h0 (by omega)
  ·have:z - 1 = -1:=by omega
   rw [this];decide
 rw [hdn] at hlp
 have hn0:nxO other none=other:=rfl
 simp [Tryz.f53,hn0] at hlp
 exact ⟨[(12,.int .i64 (-1)),(70,.bool false)],T++(Blk.var false [AV.int IntKind.i64 arm,pv,cv,AV.int IntKind.i64 other])::.var false [.str w.nm,.int .i64 w.v,qw]::X,by simp [Tryz.f53,sub,hcl,hsub,hlp]⟩
theorem st53G {nx:Int} {is:Bool} {junk:List (Nat×AV)} {H:AE} {x7 x8:AV} :
  AW MX 53 111 (AH MX) (sub (AP Tryz.f53 0) [0,1,1,1,1,1,1,0]) ((0,tv)::(3,.hp 0 0)::(6,.int .i64 a)::(7,x7)::(8,x8)::(10,.int .i64 nx)::(11,.bool is)::junk,H)=some (if is=false∧nx = -1 then (.ret,([(4,.int .i64 0),(5,.int .i64 12)],H)) else (.nrm,([(0,tv),(3,.hp 0 0),(6,.int .i64 a),(10,.int .i64 nx),(102,.bool false)],H))):=by
 cases is with
 | true=>simp [Tryz.f53,sub]
 | false=>
  by_cases h:nx = -1
  ·subst h;simp [Tryz.f53,sub]
  ·have hb:(nx == -1)=false:=by simp [h]
   simp [Tryz.f53,sub,h,hb]
theorem st53H {nx:Int} {H:AE}:AW MX 53 111 (AH MX) (sub (AP Tryz.f53 0) [0,1,1,1,1,1,1,1,0]) ([(0,tv),(3,.hp 0 0),(6,.int .i64 a),(10,.int .i64 nx),(102,.bool false)],H)=some (if nx≤a then (.ret,([(4,.int .i64 0),(5,.int .i64 9)],H)) else (.nrm,([(0,tv),(3,.hp 0 0),(10,.int .i64 nx),(105,.bool false)],H))):=by
 by_cases h:nx≤a <;> simp [Tryz.f53,sub,h]
theorem st53I {nx z:Int} {H:AE} (htl:∀ h,Bu tv h=some (.val (.int .i64 z) h)):AW MX 53 111 (AH MX) (sub (AP Tryz.f53 0) [0,1,1,1,1,1,1,1,1,0]) ([(0,tv),(3,.hp 0 0),(10,.int .i64 nx),(105,.bool false)],H)=some (if z≤nx then (.ret,([(4,.int .i64 0),(5,.int .i64 6)],H)) else (.nrm,([(0,tv),(3,.hp 0 0),(10,.int .i64 nx),(109,.bool false)],H))):=by
 by_cases h:z≤nx
 ·have:nx ≥ z:=h
  simp [Tryz.f53,sub,htl,h,this]
 ·have:¬ (nx ≥ z):=h
  simp [Tryz.f53,sub,htl,h,this]
theorem st53J {nx:Int} {H:AE}:AW MX 53 111 (AH MX) (sub (AP Tryz.f53 0) [0,1,1,1,1,1,1,1,1,1]) ([(0,tv),(3,.hp 0 0),(10,.int .i64 nx),(109,.bool false)],H)=some (.nrm,([(0,tv),(3,.hp 0 0),(6,.int .i64 nx)],H)):=by
 simp [Tryz.f53,sub]
end
theorem OG {q:Gl→Bool}:∀ (L:List Gl),(match L.findIdx? q with
  | none=>L.find? q=none
  | some j=>L.find? q=some (L.getD j default))
 | []=>by simp
 | u::L=>by
  have ih:=OG (q:=q) L
  rw [List.findIdx?_cons,List.find?_cons]
  cases hq:q u with
  | true=>simp
  | false=>
   cases hf:L.findIdx? q with
   | none=>rw [hf] at ih;simpa using ih
   | some j=>
    rw [hf] at ih
    simp only [Option.map_some,Bool.false_eq_true,if_false]
    simpa using ih
section
variable {t:List Dz} {tv:AV} (ht:SlR EJ 4 t tv) (hst:∀ n∈t,SmN n) {u:TyV} {q:AV} (hu:Ay u [.str u.nm,.int .i64 u.v,q]) (hsu:Sm 1048577 u)
include ht hst hu hsu
theorem Wq {a:Nat} (ha:a<t.length) (T:AE):∃ T',AW MX 53 111 (AH MX) (AP Tryz.f53 0) ([(0,tv),(3,.hp 0 0),(6,.int .i64 a)],Blk.var false [.str u.nm,.int .i64 u.v,q]::T)=some (match Ii t u a with
  | .inl r=>(.ret,([(4,.int .i64 r.1),(5,.int .i64 r.2)],Blk.var false [.str u.nm,.int .i64 u.v,q]::T'))
  | .inr b=>(.nrm,([(0,tv),(3,.hp 0 0),(6,.int .i64 b)],Blk.var false [.str u.nm,.int .i64 u.v,q]::T'))):=by
 rw [Yz]
 obtain ⟨e,he,pv,cv,rfl,hp,hc⟩:=ht.ix ha
 have hg:t.getD a default=t[a]:=by simp [ha]
 obtain ⟨l1,l2⟩:=hst _ (List.getElem_mem ha)
 have kA:=st53A (T:=T) (B:=Blk.var false [.str u.nm,.int .i64 u.v,q]) he hp.cells hc.cells
 unfold Ii
 rw [hg]
 by_cases h0:t[a].cases.length=0
 ·rw [if_pos h0]
  have hcl:=hc.len
  rw [h0] at hcl
  exact ⟨_,Da (Ai kA (FV (Y0 hcl)))⟩
 ·rw [if_neg h0]
  have kB:=st53B (tv:=tv) (B:=Blk.var false [.str u.nm,.int .i64 u.v,q]) (T:=T) (a:=a) (arm:=t[a].arm) (other:=t[a].other) (pv:=pv) (z:=(t[a].cases.length:Int)) (by omega) hc.len
  have hqc:q.cells=some [q]:=by
   obtain ⟨q2,e2,hq⟩:=hu.AY
   simp only [List.cons.injEq,true_and,and_true] at e2
   subst e2
   exact hq.cells
  have kC:=st53C (tv:=tv) (T:=T) (a:=a) (arm:=t[a].arm) (other:=t[a].other) (pv:=pv) (cv:=cv) (y1:=.str u.nm) (y2:=.int .i64 u.v) (y3:=q) rfl rfl hqc
  obtain ⟨junk,s,kD,hD⟩:=st53D (tv:=tv) (B:=Blk.var false [.str u.nm,.int .i64 u.v,q]) (T:=T) (a:=a) (arm:=t[a].arm) (other:=t[a].other) (cv:=cv) hu hsu hp l1
  cases hw:Fc u t[a].path with
  | none=>
   rw [hw] at kD
   exact ⟨_,Da (Ai kA (Ai kB (Ai kC (FV kD))))⟩
  | some w=>
   rw [hw] at kD
   obtain ⟨qw,_,rfl⟩:=hD w hw
   have kE:=st53E (tv:=tv) (B:=Blk.var false [.str u.nm,.int .i64 u.v,q]) (T:=T) (a:=a) (arm:=t[a].arm) (other:=t[a].other) (pv:=pv) (cv:=cv) (P:=.var false [.str w.nm,.int .i64 w.v,qw]) (junk:=junk)
   obtain ⟨junk2,X,kF⟩:=st53F (tv:=tv) (B:=Blk.var false [.str u.nm,.int .i64 u.v,q]) (T:=T) (a:=a) (arm:=t[a].arm) (other:=t[a].other) (pv:=pv) (w:=w) (qw:=qw) hc l2
   obtain ⟨H,hH⟩:∃ H,H=Blk.var false [.str u.nm,.int .i64 u.v,q]::X:=⟨_,rfl⟩
   rw [← hH] at kF
   have kG:=st53G (tv:=tv) (a:=a) (nx:=nxO t[a].other (t[a].cases.find? (FX w))) (is:=(t[a].cases.find? (FX w)).isSome) (junk:=junk2) (H:=H) (x7:=.hp (T.length+1) 0) (x8:=.hp (T.length+2) 0)
   have fin:∀ (nx:Int),AW MX 53 111 (AH MX) (.seq (sub (AP Tryz.f53 0) [0,1,1,1,1,1,1,1,0]) (.seq (sub (AP Tryz.f53 0) [0,1,1,1,1,1,1,1,1,0]) (sub (AP Tryz.f53 0) [0,1,1,1,1,1,1,1,1,1]))) ([(0,tv),(3,.hp 0 0),(6,.int .i64 a),(10,.int .i64 nx),(102,.bool false)],H)=some (match goV t a nx with
     | .inl r=>(.ret,([(4,.int .i64 r.1),(5,.int .i64 r.2)],H))
     | .inr b=>(.nrm,([(0,tv),(3,.hp 0 0),(6,.int .i64 b)],H))):=fun nx=>by
    have kH:=st53H (tv:=tv) (a:=a) (nx:=nx) (H:=H)
    have kI:=st53I (nx:=nx) (H:=H) ht.len
    cases hgo:goV t a nx with
    | inl r=>
     unfold goV at hgo
     by_cases h1:nx≤a
     ·rw [if_pos h1] at hgo kH
      cases hgo
      exact FV kH
     ·rw [if_neg h1] at hgo kH
      by_cases h2:(t.length:Int)≤nx
      ·rw [if_pos h2] at hgo kI
       cases hgo
       exact Ai kH (FV kI)
      ·rw [if_neg h2] at hgo;cases hgo
    | inr b=>
     obtain ⟨g1,g2,g3⟩:=IQ hgo
     have h1:¬ (nx≤a):=by omega
     have h2:¬ ((t.length:Int)≤nx):=by omega
     rw [if_neg h1] at kH
     rw [if_neg h2] at kI
     simp only
     rw [← g3]
     exact Ai kH (Ai kI st53J)
   have hfi:=OG (q:=FX w) t[a].cases
   have pre:∀ {r:Option (Ex×St)},AW MX 53 111 (AH MX) (.seq (sub (AP Tryz.f53 0) [0,1,1,1,1,1,1,0]) (.seq (sub (AP Tryz.f53 0) [0,1,1,1,1,1,1,1,0]) (.seq (sub (AP Tryz.f53 0) [0,1,1,1,1,1,1,1,1,0]) (sub (AP Tryz.f53 0) [0,1,1,1,1,1,1,1,1,1])))) _=r→_:=fun h=>Ai kA (Ai kB (Ai kC (Ai kD (Ai kE (Ai kF h)))))
   simp only
   cases hf:t[a].cases.findIdx? (FX w) with
   | some i=>
    rw [hf] at hfi
    have hfi:t[a].cases.find? (FX w)=some (t[a].cases.getD i default):=hfi
    rw [hfi] at kG pre
    rw [if_neg (by simp)] at kG
    simp only [nxO] at kG pre
    have k2:=pre (Ai kG (fin _))
    simp only
    refine ⟨X,?_⟩
    rw [hH] at k2
    cases hgo:goV t a (t[a].cases.getD i default).nx with
    | inl r=>rw [hgo] at k2;exact Da k2
    | inr b=>rw [hgo] at k2;exact Ft k2
   | none=>
    rw [hf] at hfi
    have hfi:t[a].cases.find? (FX w)=none:=hfi
    rw [hfi] at kG pre
    simp only [nxO,Option.isSome_none,true_and] at kG pre
    simp only
    refine ⟨X,?_⟩
    by_cases ho:t[a].other = -1
    ·rw [if_pos ho] at kG ⊢
     have k2:=pre (FV kG)
     rw [hH] at k2
     exact Da k2
    ·rw [if_neg ho] at kG ⊢
     have k2:=pre (Ai kG (fin _))
     rw [hH] at k2
     cases hgo:goV t a t[a].other with
     | inl r=>rw [hgo] at k2;exact Da k2
     | inr b=>rw [hgo] at k2;exact Ft k2
theorem c53 (h:AE):AK MX (AH MX) 53 [tv,.agg [.str u.nm,.int .i64 u.v,q]] h=some (.ret (.tup [.int .i64 (rBy t u).1,.int .i64 (rBy t u).2]),h):=by
 have hun:=hu.AG
 have hn:([tv,.agg [.str u.nm,.int .i64 u.v,q]]:List AV).all AV.AD=true:=by
  simp only [List.all_cons,List.all_nil,AV.AD,ht.AD,hun,Bool.and_self]
 have h70:=c70 hu hsu
 have hqn:q.AD=true:=by simpa [AG,AV.AD] using hun
 unfold rBy
 by_cases h0:t.length=0
 ·rw [if_pos h0]
  exact Ae J9 MV hn rfl (hr:=_) (by simp [AN,Tryz.f53,ht.len,h0] <;> rfl) h
 ·rw [if_neg h0]
  have htl:=ht.len
  obtain ⟨z,hz⟩:∃ z:Int,z=(t.length:Int):=⟨_,rfl⟩
  rw [← hz] at htl
  have hzb:(z == 0)=false:=by rw [beq_eq_false_iff_ne];omega
  by_cases h4:400<t.length
  ·have g4:z > 400:=by omega
   rw [if_pos h4]
   exact Ae J9 MV hn rfl (hr:=_) (by simp [AN,Tryz.f53,htl,hzb,g4] <;> rfl) h
  ·have g4:¬ (z > 400):=by omega
   rw [if_neg h4]
   cases hT:A1 u with
   | false=>
    rw [hT] at h70
    rw [if_neg (by decide)]
    exact Ae J9 MV hn rfl (hr:=_) (by simp [AN,Tryz.f53,htl,hzb,g4,h70,hqn] <;> rfl) h
   | true=>
    rw [hT] at h70
    rw [if_pos rfl]
    obtain ⟨e,st,hlp,hq⟩:=II (M:=MX) (fid:=53) (N:=111) (C:=AH MX) (c:=AP Tryz.f53 0)
     (fun (b:Nat×AE)=>([(0,tv),(3,.hp 0 0),(6,.int .i64 b.1)],Blk.var false [.str u.nm,.int .i64 u.v,q]::b.2))
     (fun b=>b.1<t.length∧∀ r,ByR t u b.1 r→ByR t u 0 r)
     (fun b=>t.length - b.1)
     (fun r=>∃ (z:Int×Int) (T:AE),ByR t u 0 z∧r=(.ret,([(4,.int .i64 z.1),(5,.int .i64 z.2)],Blk.var false [.str u.nm,.int .i64 u.v,q]::T))) (fun b hI=>by
       obtain ⟨a,T⟩:=b
       obtain ⟨i1,i2⟩:=hI
       simp only at i1 i2
       obtain ⟨T',hr⟩:=Wq ht hst hu hsu i1 T
       cases hx:Ii t u a with
       | inl r=>
        rw [hx] at hr
        exact .inr ⟨_,_,hr,by simp,r,T',i2 r (.done hx),rfl⟩
       | inr b=>
        rw [hx] at hr
        obtain ⟨g1,g2⟩:=L5 hx
        exact .inl ⟨(b,T'),hr,⟨g2,fun r h=>i2 r (.step hx h)⟩,by show t.length - b<t.length - a;omega⟩) (0,[]) ⟨by omega,fun r h=>h⟩
    obtain ⟨z',T,hz',hq⟩:=hq
    cases hq
    simp [Tryz.f53] at hlp
    rw [UK hz']
    exact Ae J9 MV hn rfl (hr:=_) (by simp [AN,Tryz.f53,htl,hzb,g4,h70,hqn,hlp] <;> rfl) h
end
theorem RX {l:List AO} {w:AV} (hw:SlR Ac 3 l w) {ps:List TyV} {pv:AV} (hp:SlR AU 4 ps pv) {es:List (List AV)} (hnr:es.all AG=true) {id:Nat} {lk:Bool} {H:AE} (hH:H[id]? = some (.arr 4 lk es)) {kk vv:Int} {nm:Bytes} {y:AV} (hy:y.AD=true) :
  Ax [.agg [w,.int .i64 kk,.int .i64 vv,.str nm,pv,.hs id es.length 4 0 es.length false],y] H=some ([.agg [w,.int .i64 kk,.int .i64 vv,.str nm,pv,.sl 4 false es],y],H.set id (.arr 4 true es)):=by
 have h:=RU hw hp hnr (m:=es.length) (Nat.le_refl _) hH (kk:=kk) (vv:=vv) (nm:=nm)
 rw [List.take_length] at h
 have hn:AV.AD (.agg [w,.int .i64 kk,.int .i64 vv,.str nm,pv,.hs id es.length 4 0 es.length false])=false:=by simp [AG,AV.AD,hw.AD,hp.AD]
 simp only [Ax,hn] at h ⊢
 cases hs:snap CX (.agg [w,.int .i64 kk,.int .i64 vv,.str nm,pv,.hs id es.length 4 0 es.length false]) H with
 | none=>rw [hs] at h;simp at h
 | some x=>
  rw [hs] at h
  simp only [Option.some.injEq,Prod.mk.injEq,List.cons.injEq,and_true] at h
  simp only [hy,h.1,h.2]
theorem own2 {k:Dx} {xs:List AV} (hx:DS k xs) (hsk:SmT 1048577 k) {y:AV} (hy:y.AD=true):∃ xs',DS k xs'∧∀ R:AE,∃ O Y Y',AK MX (AH MX) 15 [.agg xs] R=some (.ret (.agg O),R++Y)∧∀ (F:FuncId) (r:AV),(MX.mode F).fresh=true→(∀ h,AK MX (AH MX) F [.agg xs',y] h=some (.ret r,h))→AK MX (AH MX) F [.agg O,y] (R++Y)=some (.ret r,R++Y'):=by
 obtain ⟨w0,pv,es,hw0,hpv,ht,hel,her,hc⟩:=c15 hx hsk
 rcases hc with ⟨h0,h15⟩ | ⟨h0,h15⟩
 ·exact ⟨_,⟨w0,_,.sl 4 true [],rfl,hw0,ht,.inr ⟨true,[],rfl,by rw [h0];rfl,fun i a e h=>by rw [h0] at h;simp at h⟩⟩,fun R=>⟨_,[],[],by rw [List.append_nil];exact h15 R,fun F r _ h=>by rw [List.append_nil];exact h R⟩⟩
 ·have hnr:es.all AG=true:=BR hel her (fun a e h=>h.AG)
  refine ⟨_,⟨w0,_,.sl 4 false es,rfl,hw0,ht,.inr ⟨false,es,rfl,hel,her⟩⟩,fun R=>⟨_,_,[.arr 4 true es],h15 R,fun F r hm h => ?_⟩⟩
  have hs:=RX hw0 hpv hnr (id:=R.length) (lk:=false) (H:=R++[.arr 4 false es]) (by simp) (kk:=k.ty.k) (vv:=k.ty.v) (nm:=k.ty.nm) hy
  have hset:(R++[Blk.arr 4 false es]).set R.length (.arr 4 true es)=R++[.arr 4 true es]:=by simp
  rw [hset] at hs
  rw [← hel]
  refine Eo hm hs ?_ (h _)
  simp [AV.AD,AG,hw0.AD,hpv.AD,hy]
noncomputable def DY:Code:=Tryz.f9.body.getD .skip
noncomputable def hd9 (n:Nat):Code:=sub DY (List.replicate n 1++[0])
theorem UN:DY=.seq (hd9 0) (.seq (hd9 1) (.seq (hd9 2) (.seq (hd9 3) (.seq (hd9 4) (.seq (hd9 5) (.seq (hd9 6) (.seq (hd9 7) (.seq (hd9 8) (.seq (hd9 9) (.seq (hd9 10) (.seq (hd9 11) (.seq (hd9 12) (.seq (hd9 13) (.seq (hd9 14) (sub DY (List.replicate 15 1)))))))))))))))):=rfl
theorem run9 {a b c:AV} {H:AE} (h:AW MX 9 155 (AH MX) DY (Tm.init 0 [a,b,c],[])=some (.ret,([(6,.bool true)],H))):AN MX 9 [a,b,c] []=some (.ret (.bool true),H):=by
 have hb:Tryz.f9.body=some DY:=rfl
 have hn:Tryz.f9.ntmps=155:=rfl
 have hr:Tryz.f9.results = #[.tmp 6]:=rfl
 simp only [AN,fn_9,hb,hn,h]
 simp [hr]
section
variable {dv pv av:AV} {kk kv:Int} {knm:Bytes} {v1 v2 v3:AV} {R:AE} {tv:AV}
theorem s9_0 (h1:v1.cells=some [v1]):AW MX 9 155 (AH MX) (hd9 0) (Tm.init 0 [(AV.agg [dv,AV.int IntKind.i64 kk,AV.int IntKind.i64 kv,AV.str knm,pv,av]),tv,(AV.agg [v1,v2,v3])],[])=some (.nrm,([(1,tv),(3,.hp 0 0),(5,.hp 1 0)],[(Blk.var false [dv,AV.int IntKind.i64 kk,AV.int IntKind.i64 kv,AV.str knm,pv,av]),(Blk.var false [v1,v2,v3])])):=by
 simp [Tryz.f9,hd9,DY,sub,List.replicate]
theorem s9_1 {H:AE}:AW MX 9 155 (AH MX) (hd9 1) ([(1,tv),(3,.hp 0 0),(5,.hp 1 0)],H)=some (.nrm,([(1,tv),(3,.hp 0 0),(5,.hp 1 0),(20,.bool false)],H)):=by
 simp [Tryz.f9,hd9,DY,sub,List.replicate,UF,Gv,IT]
theorem s9_2 {b:Bool} {z:Int} (h11:∀ h,AK MX (AH MX) 11 [(AV.agg [dv,AV.int IntKind.i64 kk,AV.int IntKind.i64 kv,AV.str knm,pv,av])] h=some (.ret (.bool b),h)) (htl:∀ h,Bu tv h=some (.val (.int .i64 z) h)):AW MX 9 155 (AH MX) (hd9 2) ([(1,tv),(3,.hp 0 0),(5,.hp 1 0),(20,.bool false)],(Blk.var false [dv,AV.int IntKind.i64 kk,AV.int IntKind.i64 kv,AV.str knm,pv,av])::R)=some (if b=false∨z > 410 then (.ret,([(6,.bool true)],(Blk.var false [dv,AV.int IntKind.i64 kk,AV.int IntKind.i64 kv,AV.str knm,pv,av])::R)) else (.nrm,([(1,tv),(3,.hp 0 0),(5,.hp 1 0),(28,.bool false)],(Blk.var false [dv,AV.int IntKind.i64 kk,AV.int IntKind.i64 kv,AV.str knm,pv,av])::R))):=by
 cases b with
 | false=>simp [Tryz.f9,hd9,DY,sub,List.replicate,h11]
 | true=>by_cases hz:z > 410 <;> simp [Tryz.f9,hd9,DY,sub,List.replicate,h11,htl,hz]
theorem s9_3 {t:List Dz} (ht:SlR EJ 4 t tv) (hl:t.length<1048577) {H:AE}:AW MX 9 155 (AH MX) (hd9 3) ([(1,tv),(3,.hp 0 0),(5,.hp 1 0),(28,.bool false)],H)=some (.ret,([(6,.bool true)],H))∨AW MX 9 155 (AH MX) (hd9 3) ([(1,tv),(3,.hp 0 0),(5,.hp 1 0),(28,.bool false)],H)=some (.nrm,([(1,tv),(3,.hp 0 0),(5,.hp 1 0),(7,.int .i64 t.length),(32,.bool false)],H)):=by
 obtain ⟨e,st,hlp,hq⟩:=AR (M:=MX) (fid:=9) (N:=155) (C:=AH MX) (c:=AP Tryz.f9 0) (n:=t.length)
  (fun i (_:Unit)=>([(1,tv),(3,.hp 0 0),(5,.hp 1 0),(7,.int .i64 i)],H))
  (fun i _=>True)
  (fun r=>r=(.ext 0,([(1,tv),(3,.hp 0 0),(5,.hp 1 0),(7,.int .i64 t.length),(32,.bool false)],H))∨r=(.ret,([(6,.bool true)],H))) (fun i b hi hI=>by
    have hi':=Aa hi
    have hwr:=AZ hi hl
    obtain ⟨e,he,p,c,rfl,hp,hc⟩:=ht.ix hi
    have hpl:=hp.len
    have hcl:=hc.len
    obtain ⟨x,hx⟩:∃ x:Int,x=(t[i].path.length:Int):=⟨_,rfl⟩
    obtain ⟨y,hy⟩:∃ y:Int,y=(t[i].cases.length:Int):=⟨_,rfl⟩
    rw [← hx] at hpl
    rw [← hy] at hcl
    by_cases h1:x > 50
    ·exact .inr ⟨_,_,by simp [Tryz.f9,ht.len,hi',he,hpl,h1] <;> first | exact ⟨rfl,rfl⟩ | rfl,by simp,.inr rfl⟩
    ·by_cases h2:y > 50
     ·exact .inr ⟨_,_,by simp [Tryz.f9,ht.len,hi',he,hpl,hcl,h1,h2] <;> first | exact ⟨rfl,rfl⟩ | rfl,by simp,.inr rfl⟩
     ·exact .inl ⟨(),by simp [Tryz.f9,ht.len,hi',he,hpl,hcl,h1,h2,hwr],trivial⟩) (fun b hI=>by
    exact ⟨_,_,by simp [Tryz.f9,ht.len] <;> first | exact ⟨rfl,rfl⟩ | rfl,by simp,.inl rfl⟩) () trivial
 simp [Tryz.f9] at hlp
 rcases hq with hq | hq <;> cases hq
 ·right
  simp [Tryz.f9,hd9,DY,sub,List.replicate,hlp]
 ·left
  simp [Tryz.f9,hd9,DY,sub,List.replicate,hlp]
theorem s9_4 {w:AV} {x:Nat×AV} {y:Nat×AV} {a e:Int} (hwn:w.AD=true) (htn:tv.AD=true) (hn1:v1.AD=true) (hn2:v2.AD=true) (hn3:v3.AD=true) (h51:∀ h,AK MX (AH MX) 51 [tv] h=some (.ret w,h)) (h52:∀ h,AK MX (AH MX) 52 [w,(AV.agg [v1,v2,v3])] h=some (.ret (.tup [.int .i64 a,.int .i64 e]),h)) {m:Nat} :
  AW MX 9 155 (AH MX) (hd9 4) ([(1,tv),(3,.hp 0 0),(5,.hp 1 0),(7,.int .i64 m),(32,.bool false)],(Blk.var false [dv,AV.int IntKind.i64 kk,AV.int IntKind.i64 kv,AV.str knm,pv,av])::(Blk.var false [v1,v2,v3])::R)=some (.nrm,([(1,tv),(3,.hp 0 0),(5,.hp 1 0),(8,.int .i64 a),(9,.int .i64 e)],(Blk.var false [dv,AV.int IntKind.i64 kk,AV.int IntKind.i64 kv,AV.str knm,pv,av])::(Blk.var false [v1,v2,v3])::R)):=by
 have hb:=TR
 simp [BK,Be,Tryz.f9] at hb
 simp [Tryz.f9,hd9,DY,sub,List.replicate,h51,h52,hb,AG,AV.AD,hwn,htn,hn1,hn2,hn3]
theorem s9_5 {a e:Int} (h53:∀ h,AK MX (AH MX) 53 [tv,(AV.agg [v1,v2,v3])] h=some (.ret (.tup [.int .i64 a,.int .i64 e]),h)) :
  AW MX 9 155 (AH MX) (hd9 5) ([(1,tv),(3,.hp 0 0),(5,.hp 1 0),(8,.int .i64 a),(9,.int .i64 e)],(Blk.var false [dv,AV.int IntKind.i64 kk,AV.int IntKind.i64 kv,AV.str knm,pv,av])::(Blk.var false [v1,v2,v3])::R)=some (.nrm,([(1,tv),(3,.hp 0 0),(8,.int .i64 a),(9,.int .i64 e),(10,.int .i64 a),(11,.int .i64 e)],(Blk.var false [dv,AV.int IntKind.i64 kk,AV.int IntKind.i64 kv,AV.str knm,pv,av])::(Blk.var false [v1,v2,v3])::R)):=by
 simp [Tryz.f9,hd9,DY,sub,List.replicate,h53]
theorem s9_6 {a e:Int} {H:AE}:AW MX 9 155 (AH MX) (hd9 6) ([(1,tv),(3,.hp 0 0),(8,.int .i64 a),(9,.int .i64 e),(10,.int .i64 a),(11,.int .i64 e)],H)=some (.nrm,([(1,tv),(3,.hp 0 0),(71,.bool false)],H)):=by
 simp [Tryz.f9,hd9,DY,sub,List.replicate]
variable {d i f:Int}
theorem s9_7 (h12:∀ h,AK MX (AH MX) 12 [(AV.agg [dv,AV.int IntKind.i64 kk,AV.int IntKind.i64 kv,AV.str knm,pv,av])] h=some (.ret (.int .i64 d),h)):AW MX 9 155 (AH MX) (hd9 7) ([(1,tv),(3,.hp 0 0),(71,.bool false)],(Blk.var false [dv,AV.int IntKind.i64 kk,AV.int IntKind.i64 kv,AV.str knm,pv,av])::R)=some (.nrm,([(1,tv),(3,.hp 0 0),(12,.int .i64 d)],(Blk.var false [dv,AV.int IntKind.i64 kk,AV.int IntKind.i64 kv,AV.str knm,pv,av])::R)):=by
 simp [Tryz.f9,hd9,DY,sub,List.replicate,h12]
theorem s9_8 {b:Bool} (h13:d=0→∀ h,AK MX (AH MX) 13 [(AV.agg [dv,AV.int IntKind.i64 kk,AV.int IntKind.i64 kv,AV.str knm,pv,av])] h=some (.ret (.bool b),h)):AW MX 9 155 (AH MX) (hd9 8) ([(1,tv),(3,.hp 0 0),(12,.int .i64 d)],(Blk.var false [dv,AV.int IntKind.i64 kk,AV.int IntKind.i64 kv,AV.str knm,pv,av])::R)=some (if d=0∧b=false then (.ret,([(6,.bool true)],(Blk.var false [dv,AV.int IntKind.i64 kk,AV.int IntKind.i64 kv,AV.str knm,pv,av])::R)) else (.nrm,([(1,tv),(3,.hp 0 0),(12,.int .i64 d),(80,.bool false)],(Blk.var false [dv,AV.int IntKind.i64 kk,AV.int IntKind.i64 kv,AV.str knm,pv,av])::R))):=by
 by_cases hd:d=0
 ·subst hd
  have h13:=h13 rfl
  cases b <;> simp [Tryz.f9,hd9,DY,sub,List.replicate,h13]
 ·have hdb:(d == 0)=false:=by simp [hd]
  rw [if_neg (fun h=>hd h.1)]
  simp [Tryz.f9,hd9,DY,sub,List.replicate,hdb]
theorem s9_9 {w:AV} {O:List AV} {Y Y':AE} (h15:AK MX (AH MX) 15 [(AV.agg [dv,AV.int IntKind.i64 kk,AV.int IntKind.i64 kv,AV.str knm,pv,av])] ((Blk.var false [dv,AV.int IntKind.i64 kk,AV.int IntKind.i64 kv,AV.str knm,pv,av])::R)=some (.ret (.agg O),(Blk.var false [dv,AV.int IntKind.i64 kk,AV.int IntKind.i64 kv,AV.str knm,pv,av])::R++Y)) (h51:∀ h,AK MX (AH MX) 51 [tv] h=some (.ret w,h)) (h50:AK MX (AH MX) 50 [.agg O,w] ((Blk.var false [dv,AV.int IntKind.i64 kk,AV.int IntKind.i64 kv,AV.str knm,pv,av])::R++Y)=some (.ret (.tup [.int .i64 i,.int .i64 f]),(Blk.var false [dv,AV.int IntKind.i64 kk,AV.int IntKind.i64 kv,AV.str knm,pv,av])::R++Y')) :
  AW MX 9 155 (AH MX) (hd9 9) ([(1,tv),(3,.hp 0 0),(12,.int .i64 d),(80,.bool false)],(Blk.var false [dv,AV.int IntKind.i64 kk,AV.int IntKind.i64 kv,AV.str knm,pv,av])::R)=some (.nrm,([(1,tv),(3,.hp 0 0),(12,.int .i64 d),(13,.int .i64 i),(14,.int .i64 f)],(Blk.var false [dv,AV.int IntKind.i64 kk,AV.int IntKind.i64 kv,AV.str knm,pv,av])::(R++Y'))):=by
 simp only [List.cons_append] at h15 h50
 simp [Tryz.f9,hd9,DY,sub,List.replicate,h15,h51,h50]
theorem s9_10 {z:Int} {H:AE} (htl:∀ h,Bu tv h=some (.val (.int .i64 z) h)):∃ junk,AW MX 9 155 (AH MX) (hd9 10) ([(1,tv),(3,.hp 0 0),(12,.int .i64 d),(13,.int .i64 i),(14,.int .i64 f)],H)=some (.nrm,((1,tv)::(3,.hp 0 0)::(12,.int .i64 (if d=0∧z=0 then 10 else d))::(13,.int .i64 i)::(14,.int .i64 f)::junk,H)):=by
 by_cases hd:d=0
 ·subst hd
  by_cases hz:z=0
  ·subst hz
   exact ⟨[],by simp [Tryz.f9,hd9,DY,sub,List.replicate,htl]⟩
  ·have hzb:(z == 0)=false:=by simp [hz]
   exact ⟨[(95,.bool false)],by simp [Tryz.f9,hd9,DY,sub,List.replicate,htl,hz,hzb]⟩
 ·have hdb:(d == 0)=false:=by simp [hd]
  exact ⟨[(95,.bool false)],by simp [Tryz.f9,hd9,DY,sub,List.replicate,hd,hdb]⟩
theorem s9_11 {z:Int} {H:AE} {junk0:List (Nat×AV)} (htl:∀ h,Bu tv h=some (.val (.int .i64 z) h)):∃ junk,AW MX 9 155 (AH MX) (hd9 11) ((1,tv)::(3,.hp 0 0)::(12,.int .i64 d)::(13,.int .i64 i)::(14,.int .i64 f)::junk0,H)=some (.nrm,((1,tv)::(3,.hp 0 0)::(12,.int .i64 (if d=0∧z > 400 then 8 else d))::(13,.int .i64 i)::(14,.int .i64 f)::junk,H)):=by
 by_cases hd:d=0
 ·subst hd
  by_cases hz:z > 400
  ·have hz':400<z:=hz
   exact ⟨[],by simp [Tryz.f9,hd9,DY,sub,List.replicate,htl,hz,hz']⟩
  ·have hz':¬ 400<z:=hz
   exact ⟨[(102,.bool false)],by simp [Tryz.f9,hd9,DY,sub,List.replicate,htl,hz,hz']⟩
 ·have hdb:(d == 0)=false:=by simp [hd]
  exact ⟨[(102,.bool false)],by simp [Tryz.f9,hd9,DY,sub,List.replicate,hd,hdb]⟩
theorem Y1 {H:AE} {junk:List (Nat×AV)} (hd:d≠0):AW MX 9 155 (AH MX) (hd9 12) ((1,tv)::(3,.hp 0 0)::(12,.int .i64 d)::(13,.int .i64 0)::(14,.int .i64 d)::junk,H)=some (.ret,([(6,.bool true)],H)):=by
 have hdb:(d != 0)=true:=by simp [hd]
 simp [Tryz.f9,hd9,DY,sub,List.replicate,hdb]
theorem Y2 {H:AE} {junk:List (Nat×AV)}:AW MX 9 155 (AH MX) (hd9 12) ((1,tv)::(3,.hp 0 0)::(12,.int .i64 0)::(13,.int .i64 i)::(14,.int .i64 f)::junk,H)=some (.nrm,([(1,tv),(3,.hp 0 0),(12,.int .i64 0),(13,.int .i64 i),(14,.int .i64 f),(104,.bool false)],H)):=by
 simp [Tryz.f9,hd9,DY,sub,List.replicate]
theorem s9_13 {w:AV} (h38:∀ h,AK MX (AH MX) 38 [(AV.agg [dv,AV.int IntKind.i64 kk,AV.int IntKind.i64 kv,AV.str knm,pv,av])] h=some (.ret w,h)):AW MX 9 155 (AH MX) (hd9 13) ([(1,tv),(3,.hp 0 0),(12,.int .i64 0),(13,.int .i64 i),(14,.int .i64 f),(104,.bool false)],(Blk.var false [dv,AV.int IntKind.i64 kk,AV.int IntKind.i64 kv,AV.str knm,pv,av])::R)=some (.nrm,([(1,tv),(3,.hp 0 0),(13,.int .i64 i),(14,.int .i64 f),(15,w)],(Blk.var false [dv,AV.int IntKind.i64 kk,AV.int IntKind.i64 kv,AV.str knm,pv,av])::R)):=by
 simp [Tryz.f9,hd9,DY,sub,List.replicate,h38]
end
section
variable {dv pv av:AV} {kk kv:Int} {knm:Bytes} {R:AE} {tv:AV}
variable {i f:Int}
theorem XW:AP Tryz.f9 1=.seq (sub (AP Tryz.f9 1) [0]) (.seq (.block 3 (.seq (sub (AP Tryz.f9 1) [1,0,0,0]) (sub (AP Tryz.f9 1) [1,0,0,1]))) (sub (AP Tryz.f9 1) [1,1])):=rfl
theorem st9A {w:AV} {j n:Nat} {H:AE} (hwl:∀ h,Bu w h=some (.val (.int .i64 n) h)) (hj:j<n):AW MX 9 155 (AH MX) (sub (AP Tryz.f9 1) [0]) ([(1,tv),(3,.hp 0 0),(13,.int .i64 i),(14,.int .i64 f),(15,w),(16,.int .i64 j)],H)=some (.nrm,([(1,tv),(3,.hp 0 0),(13,.int .i64 i),(14,.int .i64 f),(15,w),(16,.int .i64 j),(117,.bool true)],H)):=by
 have hlt:=Aa hj
 simp [Tryz.f9,sub,hwl,hlt]
theorem st9B {w e1 e2 e3:AV} {j:Int} {a e:Int} (he:ixA 3 w (.int .i64 j)=some (.ro [e1,e2,e3])) (htn:tv.AD=true) (hn1:e1.AD=true) (hn2:e2.AD=true) (hn3:e3.AD=true) (h53:∀ h,AK MX (AH MX) 53 [tv,.agg [e1,e2,e3]] h=some (.ret (.tup [.int .i64 a,.int .i64 e]),h)) {H:AE}:AW MX 9 155 (AH MX) (sub (AP Tryz.f9 1) [1,0,0,0]) ([(1,tv),(3,.hp 0 0),(13,.int .i64 i),(14,.int .i64 f),(15,w),(16,.int .i64 j),(117,.bool true)],H)=some (.nrm,([(1,tv),(3,.hp 0 0),(13,.int .i64 i),(14,.int .i64 f),(15,w),(16,.int .i64 j),(17,.int .i64 a),(18,.int .i64 e)],H)):=by
 simp [Tryz.f9,sub,he,h53,AG,AV.AD,htn,hn1,hn2,hn3]
theorem st9C {w e1 e2 e3:AV} {j:Int} {a e x:Int} (he:ixA 3 w (.int .i64 j)=some (.ro [e1,e2,e3])) (han:av.AD=true) (hn1:e1.AD=true) (hn2:e2.AD=true) (hn3:e3.AD=true) (h23:∀ h,AK MX (AH MX) 23 [av,.agg [e1,e2,e3]] h=some (.ret (.int .i64 x),h)) :
  AW MX 9 155 (AH MX) (sub (AP Tryz.f9 1) [1,0,0,1]) ([(1,tv),(3,.hp 0 0),(13,.int .i64 i),(14,.int .i64 f),(15,w),(16,.int .i64 j),(17,.int .i64 a),(18,.int .i64 e)],(Blk.var false [dv,AV.int IntKind.i64 kk,AV.int IntKind.i64 kv,AV.str knm,pv,av])::R)=some (if e=0∧a=x then (.nrm,([(1,tv),(3,.hp 0 0),(13,.int .i64 i),(14,.int .i64 f),(15,w),(16,.int .i64 j),(141,.bool false)],(Blk.var false [dv,AV.int IntKind.i64 kk,AV.int IntKind.i64 kv,AV.str knm,pv,av])::R)) else (.ret,([(6,.bool ((f == 19)&&(i == j)))],(Blk.var false [dv,AV.int IntKind.i64 kk,AV.int IntKind.i64 kv,AV.str knm,pv,av])::R))):=by
 have hb:=TS
 simp [BK,Be,Tryz.f9] at hb
 by_cases h1:e=0
 ·by_cases h2:a=x
  ·have h2b:(a != x)=false:=by simp [h2]
   rw [if_pos ⟨h1,h2⟩]
   subst h1
   simp [Tryz.f9,sub,he,h23,hb,h2b,AG,AV.AD,han,hn1,hn2,hn3]
  ·have h2b:(a != x)=true:=by simp [h2]
   rw [if_neg (fun h=>h2 h.2)]
   subst h1
   cases hf:f == 19 <;> cases hi:i == j <;> simp [Tryz.f9,sub,he,h23,hb,h2b,hf,hi,AG,AV.AD,han,hn1,hn2,hn3]
 ·have h1b:(e != 0)=true:=by simp [h1]
  rw [if_neg (fun h=>h1 h.1)]
  cases hf:f == 19 <;> cases hi:i == j <;> simp [Tryz.f9,sub,hb,h1b,hf,hi,AG,AV.AD]
theorem st9D {w:AV} {j n:Nat} {x:Nat×AV} {H:AE} (hj:j<n) (hn:n<1048577):AW MX 9 155 (AH MX) (sub (AP Tryz.f9 1) [1,1]) ([(1,tv),(3,.hp 0 0),(13,.int .i64 i),(14,.int .i64 f),(15,w),(16,.int .i64 j),(141,.bool false)],H)=some (.nrm,([(1,tv),(3,.hp 0 0),(13,.int .i64 i),(14,.int .i64 f),(15,w),(16,.int .i64 ((j+1:Nat):Int))],H)):=by
 have hwr:=AZ hj hn
 simp [Tryz.f9,sub,hwr]
theorem st9E {w:AV} {n:Nat} {H:AE} (hwl:∀ h,Bu w h=some (.val (.int .i64 n) h)):AW MX 9 155 (AH MX) (AP Tryz.f9 1) ([(1,tv),(3,.hp 0 0),(13,.int .i64 i),(14,.int .i64 f),(15,w),(16,.int .i64 n)],H)=some (.ext 2,([(1,tv),(3,.hp 0 0),(13,.int .i64 i),(14,.int .i64 f),(15,w),(16,.int .i64 n),(117,.bool false)],H)):=by
 simp [Tryz.f9,hwl]
theorem s9_14 {t:List Dz} (ht:SlR EJ 4 t tv) (hst:∀ n∈t,SmN n) (ht0:0<t.length) (ht4:¬ 400<t.length) {k:Dx} (ha:SlR AU 4 k.arms av) (hal:k.arms.length<1048577) (has:∀ p∈k.arms,Sm 1048577 p) {L:List TyV} {w:AV} (hw:SlR Ay 3 L w) (hL:L.length<1048577) (hsm:∀ u∈L,Sm 1048577 u∧A1 u=true) :
  match L.findIdx? (fun u => !EF t k u) with
  | none=>AW MX 9 155 (AH MX) (hd9 14) ([(1,tv),(3,.hp 0 0),(13,.int .i64 i),(14,.int .i64 f),(15,w)],(Blk.var false [dv,AV.int IntKind.i64 kk,AV.int IntKind.i64 kv,AV.str knm,pv,av])::R)=some (.nrm,([(1,tv),(3,.hp 0 0),(13,.int .i64 i),(14,.int .i64 f),(15,w),(16,.int .i64 L.length),(117,.bool false)],(Blk.var false [dv,AV.int IntKind.i64 kk,AV.int IntKind.i64 kv,AV.str knm,pv,av])::R))
  | some j=>AW MX 9 155 (AH MX) (hd9 14) ([(1,tv),(3,.hp 0 0),(13,.int .i64 i),(14,.int .i64 f),(15,w)],(Blk.var false [dv,AV.int IntKind.i64 kk,AV.int IntKind.i64 kv,AV.str knm,pv,av])::R)=some (.ret,([(6,.bool ((f == 19)&&(i == (j:Int))))],(Blk.var false [dv,AV.int IntKind.i64 kk,AV.int IntKind.i64 kv,AV.str knm,pv,av])::R)):=by
 obtain ⟨e,st,hlp,hq⟩:=AR (M:=MX) (fid:=9) (N:=155) (C:=AH MX) (c:=AP Tryz.f9 1) (n:=L.length)
  (fun j (_:Unit)=>([(1,tv),(3,.hp 0 0),(13,.int .i64 i),(14,.int .i64 f),(15,w),(16,.int .i64 j)],(Blk.var false [dv,AV.int IntKind.i64 kk,AV.int IntKind.i64 kv,AV.str knm,pv,av])::R))
  (fun j _=>∀ q (hq:q<L.length),q<j→(fun u => !EF t k u) L[q]=false)
  (fun r=>(r=(.ext 2,([(1,tv),(3,.hp 0 0),(13,.int .i64 i),(14,.int .i64 f),(15,w),(16,.int .i64 L.length),(117,.bool false)],(Blk.var false [dv,AV.int IntKind.i64 kk,AV.int IntKind.i64 kv,AV.str knm,pv,av])::R))∧L.findIdx? (fun u => !EF t k u)=none)∨∃ j:Nat,r=(.ret,([(6,.bool ((f == 19)&&(i == (j:Int))))],(Blk.var false [dv,AV.int IntKind.i64 kk,AV.int IntKind.i64 kv,AV.str knm,pv,av])::R))∧L.findIdx? (fun u => !EF t k u)=some j) (fun j b hj hI=>by
    obtain ⟨e,he,hR⟩:=hw.ix hj
    obtain ⟨m1,m2⟩:=hsm _ (List.getElem_mem hj)
    have hR0:=hR
    obtain ⟨q,rfl,hq⟩:=hR.AY
    have h53:=c53 ht hst hR0 m1
    have hrb:rBy t L[j]=byV t L[j]:=by
     unfold rBy
     rw [if_neg (by omega),if_neg ht4,if_pos m2]
    rw [hrb] at h53
    have h23:=c23 ha hal has hR0
    have kA:=st9A (tv:=tv) (i:=i) (f:=f) (H:=(Blk.var false [dv,AV.int IntKind.i64 kk,AV.int IntKind.i64 kv,AV.str knm,pv,av])::R) hw.len hj
    have kB:=st9B (i:=i) (f:=f) (he .i64) ht.AD rfl rfl hq.AD h53 (H:=(Blk.var false [dv,AV.int IntKind.i64 kk,AV.int IntKind.i64 kv,AV.str knm,pv,av])::R)
    have kC:=st9C (dv:=dv) (pv:=pv) (kk:=kk) (kv:=kv) (knm:=knm) (R:=R) (tv:=tv) (i:=i) (f:=f) (a:=(byV t L[j]).1) (e:=(byV t L[j]).2) (he .i64) ha.AD rfl rfl hq.AD h23
    have kD:=st9D (tv:=tv) (i:=i) (f:=f) (w:=w) (H:=(Blk.var false [dv,AV.int IntKind.i64 kk,AV.int IntKind.i64 kv,AV.str knm,pv,av])::R) (x:=(0,.undef)) hj hL
    have hgv:EF t k L[j]=true↔((byV t L[j]).2=0∧(byV t L[j]).1=ixI (k.arms.findIdx? fun p=>DX p L[j])):=by
     unfold EF
     simp [UA]
    by_cases hg:(byV t L[j]).2=0∧(byV t L[j]).1=ixI (k.arms.findIdx? fun p=>DX p L[j])
    ·rw [if_pos hg] at kC
     refine .inl ⟨(),by rw [XW];exact Ai kA (Ai (Ft (Ai kB kC)) kD),EP (p:=fun u => !EF t k u) hj hI (by simp [hgv.2 hg])⟩
    ·rw [if_neg hg] at kC
     have hgf:EF t k L[j]=false:=by rw [Bool.eq_false_iff];exact fun h=>hg (hgv.1 h)
     refine .inr ⟨_,_,by rw [XW];exact Ai kA (FV (Da (Ai kB kC))),by simp,.inr ⟨j,rfl,EN (p:=fun u => !EF t k u) hj hI (by simp [hgf])⟩⟩) (fun b hI=>by
    exact ⟨_,_,st9E hw.len,by simp,.inl ⟨rfl,EO (p:=fun u => !EF t k u) fun j hj=>hI j hj hj⟩⟩) () (fun q _ h=>by omega)
 simp [Tryz.f9] at hlp
 rcases hq with ⟨hq,hr⟩ | ⟨j,hq,hr⟩ <;> cases hq <;> rw [hr] <;> simp only
 ·simp [Tryz.f9,hd9,DY,sub,List.replicate,hlp]
 ·simp [Tryz.f9,hd9,DY,sub,List.replicate,hlp]
theorem s9_15 {x1 x2 x3 x4 x5:Nat×AV} {H:AE}:AW MX 9 155 (AH MX) (sub DY (List.replicate 15 1)) ([(1,tv),(3,.hp 0 0),(13,.int .i64 0),(14,.int .i64 0),x1,x2,x3],H)=some (.ret,([(6,.bool true)],H)):=by
 simp [Tryz.f9,DY,sub,List.replicate]
end
theorem EW {a b:Code} {s s':St} {l:List (Nat×AV)} (h:AW MX 9 155 (AH MX) a s=some (.nrm,s')) (h2:∃ T,AW MX 9 155 (AH MX) b s'=some (.ret,(l,T))):∃ T,AW MX 9 155 (AH MX) (.seq a b) s=some (.ret,(l,T)):=by
 obtain ⟨T,h2⟩:=h2
 exact ⟨T,Ai h h2⟩
theorem JZ {a b:Code} {s:St} {l:List (Nat×AV)} {T:AE} (h:AW MX 9 155 (AH MX) a s=some (.ret,(l,T))):∃ T,AW MX 9 155 (AH MX) (.seq a b) s=some (.ret,(l,T)):=⟨T,FV h⟩
theorem law9 {k:Dx} {xs:List AV} (hx:DS k xs) (hsk:SmT 1048577 k) {t:List Dz} {tv:AV} (ht:SlR EJ 4 t tv) (htl:t.length<1048577) (hst:∀ n∈t,SmN n) {u:TyV} {ys:List AV} (hu:Ay u ys) (hsu:Sm 1048577 u):∃ hr,AN MX 9 [.agg xs,tv,.agg ys] []=some (.ret (.bool true),hr):=by
 have h11:=c11 hx hsk
 have h12:=c12 hx hsk
 have h13:=c13 hx hsk
 have h38:=c38 hx hsk
 obtain ⟨w,hw,h51⟩:=c51 ht htl hst
 obtain ⟨xs',hx',hown⟩:=own2 hx hsk hw.AD
 have h50:=c50 hx' hsk hw hst
 obtain ⟨dv,pv,av,rfl,hd,hp,hty,ha⟩:=hx.dest
 have hu0:=hu
 obtain ⟨q,rfl,hq⟩:=hu.AY
 have h52:=c52 hw hst hu0 hsu
 have h53:=c53 ht hst hu0 hsu
 have hsk0:=hsk
 obtain ⟨s1,s2,s3,s4⟩:=hsk
 have htln:=ht.len
 obtain ⟨z,hz⟩:∃ z:Int,z=(t.length:Int):=⟨_,rfl⟩
 rw [← hz] at htln
 have hend:∃ T,AW MX 9 155 (AH MX) DY (Tm.init 0 [.agg [dv,.int .i64 k.ty.k,.int .i64 k.ty.v,.str k.ty.nm,pv,av],tv,.agg [.str u.nm,.int .i64 u.v,q]],[])=some (.ret,([(6,.bool true)],T)):=by
  rw [UN]
  refine EW (s9_0 rfl) (EW s9_1 ?_)
  have g2:=s9_2 (R:=[Blk.var false [.str u.nm,.int .i64 u.v,q]]) h11 htln
  by_cases hS:PB k=false∨z > 410
  ·rw [if_pos hS] at g2
   exact JZ g2
  ·rw [if_neg hS] at g2
   refine EW g2 ?_
   rcases s9_3 ht htl (H:=Blk.var false [dv,.int .i64 k.ty.k,.int .i64 k.ty.v,.str k.ty.nm,pv,av]::[Blk.var false [.str u.nm,.int .i64 u.v,q]]) with g3 | g3
   ·exact JZ g3
   ·refine EW g3 (EW (s9_4 (x:=(0,.undef)) (y:=(0,.undef)) hw.AD ht.AD rfl rfl hq.AD h51 h52) (EW (s9_5 h53) (EW s9_6 (EW (s9_7 h12) ?_))))
    have g8:=s9_8 (tv:=tv) (R:=[Blk.var false [.str u.nm,.int .i64 u.v,q]]) h13
    by_cases hL:(Aq k.data k.ty k.arms).2=0∧decide (cn (CY k.data k.ty)≤300)=false
    ·rw [if_pos hL] at g8
     exact JZ g8
    ·rw [if_neg hL] at g8
     refine EW g8 ?_
     obtain ⟨O,Y,Y',o1,f1⟩:=hown (Blk.var false [dv,.int .i64 k.ty.k,.int .i64 k.ty.v,.str k.ty.nm,pv,av]::[Blk.var false [.str u.nm,.int .i64 u.v,q]])
     have e50:=f1 50 _ (by simp [J7]) h50
     refine EW (s9_9 o1 h51 e50) ?_
     obtain ⟨R,hR⟩:∃ R,R=[Blk.var false [AV.str u.nm,.int .i64 u.v,q]]++Y':=⟨_,rfl⟩
     rw [← hR]
     obtain ⟨j1,g10⟩:=s9_10 (tv:=tv) (d:=(Aq k.data k.ty k.arms).2) (i:=if FP k t=0 then (match (Cx (CY k.data k.ty)).findIdx? (fun u => !EF t k u) with | none=>0 | some j=>(j:Int)) else 0) (f:=if FP k t=0 then (match (Cx (CY k.data k.ty)).findIdx? (fun u => !EF t k u) with | none=>0 | some _=>19) else FP k t) (H:=Blk.var false [dv,.int .i64 k.ty.k,.int .i64 k.ty.v,.str k.ty.nm,pv,av]::R) htln
     refine EW g10 ?_
     obtain ⟨j2,g11⟩:=s9_11 (tv:=tv) (d:=if (Aq k.data k.ty k.arms).2=0∧z=0 then 10 else (Aq k.data k.ty k.arms).2) (junk0:=j1) (i:=if FP k t=0 then (match (Cx (CY k.data k.ty)).findIdx? (fun u => !EF t k u) with | none=>0 | some j=>(j:Int)) else 0) (f:=if FP k t=0 then (match (Cx (CY k.data k.ty)).findIdx? (fun u => !EF t k u) with | none=>0 | some _=>19) else FP k t) (H:=Blk.var false [dv,.int .i64 k.ty.k,.int .i64 k.ty.v,.str k.ty.nm,pv,av]::R) htln
     refine EW g11 ?_
     have hrt:(if (if (Aq k.data k.ty k.arms).2=0∧z=0 then 10 else (Aq k.data k.ty k.arms).2)=0∧z > 400 then 8 else (if (Aq k.data k.ty k.arms).2=0∧z=0 then 10 else (Aq k.data k.ty k.arms).2))=FP k t:=by
      unfold FP
      by_cases h1:(Aq k.data k.ty k.arms).2=0
      ·by_cases h2:t.length=0
       ·have:z=0:=by omega
        simp [h1,h2,this]
       ·have h3:¬ z=0:=by omega
        by_cases h4:400<t.length
        ·have:z > 400:=by omega
         simp [h1,h2,h3,h4,this]
        ·have:¬ z > 400:=by omega
         simp [h1,h2,h3,h4,this]
      ·simp [h1]
     rw [hrt]
     by_cases hz0:FP k t=0
     ·simp only [if_pos hz0,hz0]
      have hE:(Aq k.data k.ty k.arms).2=0:=by
       unfold FP at hz0
       split at hz0
       ·rename_i h;exact h
       ·exact hz0
      have ht0:0<t.length∧¬ 400<t.length:=by
       unfold FP at hz0
       rw [if_pos hE] at hz0
       split at hz0
       ·cases hz0
       ·split at hz0
        ·cases hz0
        ·exact ⟨by omega,by assumption⟩
      obtain ⟨vw,hvw,h38⟩:=h38 hE
      have hbt:DD k.data k.ty=0:=(JW hE).1
      have hlen:=IP s1 s2 hbt
      obtain ⟨hsw,_,_,_⟩:=LB hsk0 hE
      refine EW Y2 (EW (s9_13 h38) ?_)
      have hsm:∀ u∈Cx (CY k.data k.ty),Sm 1048577 u∧A1 u=true:=fun u hu=>by
       refine ⟨(Mm hsw u hu).2.1,?_⟩
       have:=OE s1 s2 hbt u hu
       unfold PM at this
       split at this
       ·rename_i h;exact h
       ·cases this
      have g14:=fun i f=>s9_14 (dv:=dv) (pv:=pv) (kk:=k.ty.k) (kv:=k.ty.v) (knm:=k.ty.nm) (R:=R) (i:=i) (f:=f) ht hst ht0.1 ht0.2 ha s3 s4 hvw (by omega) hsm
      cases hf:(Cx (CY k.data k.ty)).findIdx? (fun u => !EF t k u) with
      | none=>
       simp only [hf] at g14 ⊢
       exact EW (g14 0 0) ⟨_,s9_15 (x4:=(0,.undef)) (x5:=(0,.undef))⟩
      | some j=>
       simp only [hf] at g14 ⊢
       have g:=g14 (j:Int) 19
       simp only [beq_self_eq_true,Bool.and_self] at g
       exact JZ g
     ·simp only [if_neg hz0]
      exact JZ (Y1 hz0)
 obtain ⟨T,hend⟩:=hend
 exact ⟨T,run9 hend⟩
end Go.Proofs.Am12
namespace Go.Proofs.Am12
open Go Go.Am
open Go.Proofs.YtggemipepaajmaaGreat
theorem und49:und MX.ty 49=some (.slice 90):=by kernel_rfl
theorem Y3:und MX.ty 39=some (.slice 3):=by kernel_rfl
theorem und88:und MX.ty 88=some (.slice 99):=by kernel_rfl
theorem und90:und MX.ty 90=some (.struct #[{ name := "Arm",type:=3,offset:=0,embedded:=false,tag := "",pkgPath := "",byteOffset:=0 },{ name := "Path",type:=39,offset:=1,embedded:=false,tag := "",pkgPath := "",byteOffset:=8 },{ name := "Cases",type:=88,offset:=2,embedded:=false,tag := "",pkgPath := "",byteOffset:=32 },{ name := "Other",type:=3,offset:=3,embedded:=false,tag := "",pkgPath := "",byteOffset:=56 }]):=by kernel_rfl
theorem und99:und MX.ty 99=some (.struct #[{ name := "Name",type:=9,offset:=0,embedded:=false,tag := "",pkgPath := "",byteOffset:=0 },{ name := "Number",type:=3,offset:=1,embedded:=false,tag := "",pkgPath := "",byteOffset:=16 },{ name := "Next",type:=3,offset:=2,embedded:=false,tag := "",pkgPath := "",byteOffset:=24 }]):=by kernel_rfl
theorem siz90:siz MX.ty 90=4:=by kernel_rfl
theorem siz99:siz MX.ty 99=3:=by kernel_rfl
theorem sizX3:siz MX.ty 3=1:=by kernel_rfl
section
variable {H:Type}
theorem Wr {b:Nat} (d:DataW H) (xs:List AV) (h:Shp MX 3 d xs) (hb:Rows.uptoBulk d<b):∃ n,HZ n xs∧True:=by
 obtain ⟨n,rfl,_⟩:=Gy h
 exact ⟨n,rfl,trivial⟩
theorem UO {b:Nat} (d:DataW H) (xs:List AV) (h:Shp MX 99 d xs) (hb:Rows.uptoBulk d<b):∃ c,GL c xs∧True:=by
 obtain ⟨ds,rows,rfl,hl,hf,hs,hbs⟩:=Fp und99 h hb
 match ds,rows,hf,hl with
 | [d0,d1,d2],[a0,a1,a2],_,_=>
  obtain ⟨nm,rfl,hn⟩:=HU (hs 0 _ d0 a0 rfl rfl rfl) (hbs d0 (by simp))
  obtain ⟨n1,rfl,_⟩:=Gy (hs 1 _ d1 a1 rfl rfl rfl)
  obtain ⟨n2,rfl,_⟩:=Gy (hs 2 _ d2 a2 rfl rfl rfl)
  exact ⟨⟨nm,n1,n2⟩,by simp [GL],trivial⟩
theorem UP {b:Nat} (d:DataW H) (xs:List AV) (h:Shp MX 90 d xs) (hb:Rows.uptoBulk d<b):∃ v,EJ v xs∧(v.path.length<b∧v.cases.length<b):=by
 obtain ⟨ds,rows,rfl,hl,hf,hs,hbs⟩:=Fp und90 h hb
 match ds,rows,hf,hl with
 | [d0,d1,d2,d3],[a0,a1,a2,a3],_,_=>
  obtain ⟨n0,rfl,_⟩:=Gy (hs 0 _ d0 a0 rfl rfl rfl)
  obtain ⟨n3,rfl,_⟩:=Gy (hs 3 _ d3 a3 rfl rfl rfl)
  obtain ⟨l,v,rfl,hv,hlb,_⟩:=F2 (R:=HZ) (S:=fun _=>True) Y3 (fun d xs=>Wr d xs) (hs 1 _ d1 a1 rfl rfl rfl) (hbs d1 (by simp))
  obtain ⟨m,w,rfl,hw,hmb,_⟩:=F2 (R:=GL) (S:=fun _=>True) und88 (fun d xs=>UO d xs) (hs 2 _ d2 a2 rfl rfl rfl) (hbs d2 (by simp))
  rw [sizX3] at hv
  rw [siz99] at hw
  exact ⟨⟨n0,l,m,n3⟩,⟨v,w,by simp,hv,hw⟩,hlb,hmb⟩
theorem UQ {b:Nat} (d:DataW H) (xs:List AV) (h:Shp MX 49 d xs) (hb:Rows.uptoBulk d<b):∃ t v,xs=[v]∧SlR EJ 4 t v∧t.length<b∧∀ n∈t,n.path.length<b∧n.cases.length<b:=by
 obtain ⟨l,v,rfl,hv,hlb,hS⟩:=F2 (R:=EJ) (S:=fun n=>n.path.length<b∧n.cases.length<b) und49 (fun d xs=>UP d xs) h hb
 rw [siz90] at hv
 exact ⟨l,v,rfl,hv,hlb,hS⟩
end
end Go.Proofs.Am12
