/- Part 18. -/
import Derived.Test.YtggemipepaajmaaGreatTre17
set_option linter.all false
namespace Go.Proofs.Am12
open Go Go.Am Tryz
attribute [local simp] C7 Br EW DL CG Dd Du Eu BZ Ar Bg Al GV FF EF HE D4 Ax FB EG HF HG xUn E7 D5 FG BF DH BG D6 BH D7 Ce CX Bw BJ EH Ej
 ev evs C4 DE OR.ofV OR.Dz OR.ofC FP Tm.get Tm.init Tm.only A1 A8 CM finish CF DJ HR Dy D3 unA B7 Bb B8 Bc Co Cp Cq Bd Cr Cs Be Ct Cu Bf B9 AL CQ Ba Cm Cn B6 Ev Ew Ey Dv Dw Fl F8 F9 Fm stA Ay Db Bn DI E8 Gt Bs C6 CI FI Gu
set_option maxHeartbeats 1000000
attribute [local simp] CJ Bi Bt BN DQ DR DS DT DU DW DX Ec Cg Ed Dh FR FT Gf Di Ee Dj BO Dk BP Dl CD Ef Ch FU FV FW Ci Dm Dn FX Gg FY Gh Gi Dp BQ Cj CE Dq Dr Ck
theorem S2{M:Par}{fid N:Nat}{C:CH}{ops:Array Oper}(a:List Oper):∀(b:List Oper) (t:Tm) (h:AF) (ks:List Kd),Ar M fid N C ops (a++b) t h ks=match Ar M fid N C ops a t h ks with
 | some (.done t' h' ks')=>Ar M fid N C ops b t' h' ks'
 | r=>r:=by
 induction a with
 | nil=>intro b t h ks;rfl
 | cons o r ih=>
  intro b t h ks;simp only[Fk,Ar];cases Bg ops t o with
  | none=>rfl
  | some w=>
   cases w with
   | false=>
    simp only;cases FP N t o.dst (.tup [])with
    | none=>rfl
    | some t'=>exact ih b t' h _
   | true=>
    simp only;cases Al M fid C t o.op h with
    | none=>rfl
    | some r'=>
     cases r' with
     | pan v h'=>rfl
     | val v h'=>
      simp only;cases FP N t o.dst v with
      | none=>rfl
      | some t'=>exact ih b t' h' _
theorem C1{M:Par}{fid N:Nat}{C:CH}{ops:Array Oper}{l:List Oper}(k:Nat){t t':Tm}{h h':AF}{ks ks':List Kd}(h1:Ar M fid N C ops (l.take k) t h ks=some (.done t' h' ks')):Ar M fid N C ops l t h ks=Ar M fid N C ops (l.drop k) t' h' ks':=by
 have:=S2 (M:=M) (fid:=fid) (N:=N) (C:=C) (ops:=ops) (l.take k) (l.drop k) t h ks;rw[List.take_append_drop,h1]at this;exact this
theorem Hg{M:Par}{fid N:Nat}{C:CH}{id:Nat}{ops:Array Oper}{d:Bool}{s:Tm}{t:Tm}{h h':AF}{ks:List Kd}{l:List Nat}(h1:Ar M fid N C ops ops.toList s h []=some (.done t h' ks))(h2:d=true->Hm ops ks.reverse=true)(h3:M.keep fid id=some l):AO M fid N C (.region id ops d) (s,h)=some (.nrm,(t.only l,h')):=by
 rw[Br];unfold BZ;simp only[h1,h3];cases d with
 | false=>rfl
 | true=>rw[h2 rfl]
section
variable{w w' pv av nov lv tv a1 a3 q1 x4 x5 k1 k2 k3 k4:AV}{tk tvv:Int}{tn a2s x2:Bytes}{x1:Bool}{x3 ak avv m z i len:Int}{B2:Blk}{rest r1 r2:AF}
theorem KF:AL f138 1=.seq (sub (AL f138 1) [0]) (.seq (.block 3 (.seq (sub (AL f138 1) [1,0,0,0]) (sub (AL f138 1) [1,0,0,1]))) (sub (AL f138 1) [1,1])):=rfl
theorem O8(hi:i<len)(hlen:∀ h,BI av h=some (.val (.int .i64 len) h)):AO MX 138 88 (AE MX) (sub (AL f138 1) [0]) ([(2,pv),(3,.hp 0 0),(4,.hp 1 0),(7,.hp 2 0),(8,.hp 3 0),(9,w),(10,.int .i64 z),(11,.int .i64 i)],.var false [lv,.int .i64 tk,.int .i64 tvv,.str tn,tv,av]::.var false [.bool x1,.str x2,.int .i64 x3,x4,x5]::B2::.var false [k1,k2,k3,nov,k4]::rest)=some (.nrm,([(2,pv),(3,.hp 0 0),(4,.hp 1 0),(7,.hp 2 0),(8,.hp 3 0),(9,w),(10,.int .i64 z),(11,.int .i64 i),(38,.bool true)],.var false [lv,.int .i64 tk,.int .i64 tvv,.str tn,tv,av]::.var false [.bool x1,.str x2,.int .i64 x3,x4,x5]::B2::.var false [k1,k2,k3,nov,k4]::rest)):=by
 simp[f138,sub,hlen,hi]
theorem O9{b:Bool}(he:ixA 4 av (.int .i64 i)=some (.ro [.int .i64 ak,.int .i64 avv,.str a2s,q1]))(hpn:pv.AA=true)(hqn:q1.AA=true)(h173:∀ h,AI MX (AE MX) 173 [.agg [.int .i64 ak,.int .i64 avv,.str a2s,q1],pv] h=some (.ret (.tup [.int .i64 m,.bool b]),h)):AO MX 138 88 (AE MX) (sub (AL f138 1) [1,0,0,0]) ([(2,pv),(3,.hp 0 0),(4,.hp 1 0),(7,.hp 2 0),(8,.hp 3 0),(9,w),(10,.int .i64 z),(11,.int .i64 i),(38,.bool true)],.var false [lv,.int .i64 tk,.int .i64 tvv,.str tn,tv,av]::.var false [.bool x1,.str x2,.int .i64 x3,x4,x5]::B2::.var false [k1,k2,k3,nov,k4]::rest)=some (.nrm,([(2,pv),(3,.hp 0 0),(4,.hp 1 0),(7,.hp 2 0),(8,.hp 3 0),(9,w),(10,.int .i64 z),(11,.int .i64 i),(12,.int .i64 m),(13,.bool b)],.var false [lv,.int .i64 tk,.int .i64 tvv,.str tn,tv,av]::.var false [.bool x1,.str x2,.int .i64 x3,x4,x5]::B2::.var false [k1,k2,k3,nov,k4]::rest)):=by
 simp[f138,sub,he,h173,AG,AV.AA,hqn,hpn]
theorem kAt(hm:(m == z)=true):Ar MX 138 88 (AE MX) (Aa f138 10) ((Aa f138 10).toList.take 6) [(2,pv),(3,.hp 0 0),(4,.hp 1 0),(7,.hp 2 0),(8,.hp 3 0),(9,w),(10,.int .i64 z),(11,.int .i64 i),(12,.int .i64 m),(13,.bool true)] (.var false [lv,.int .i64 tk,.int .i64 tvv,.str tn,tv,av]::.var false [.bool x1,.str x2,.int .i64 x3,x4,x5]::B2::.var false [k1,k2,k3,nov,k4]::rest) []=some (.done [(56,.bool true),(55,.bool true),(54,.int .i64 z),(53,.int .i64 m),(52,.bool true),(51,.bool true),(2,pv),(3,.hp 0 0),(4,.hp 1 0),(7,.hp 2 0),(8,.hp 3 0),(9,w),(10,.int .i64 z),(11,.int .i64 i),(12,.int .i64 m),(13,.bool true)] (.var false [lv,.int .i64 tk,.int .i64 tvv,.str tn,tv,av]::.var false [.bool x1,.str x2,.int .i64 x3,x4,x5]::B2::.var false [k1,k2,k3,nov,k4]::rest) [.st,.st,.st,.st,.st,.st]):=by
 simp[Aa,An,f138,hm]
theorem kAf(hm:(m == z)=false):Ar MX 138 88 (AE MX) (Aa f138 10) ((Aa f138 10).toList.take 6) [(2,pv),(3,.hp 0 0),(4,.hp 1 0),(7,.hp 2 0),(8,.hp 3 0),(9,w),(10,.int .i64 z),(11,.int .i64 i),(12,.int .i64 m),(13,.bool true)] (.var false [lv,.int .i64 tk,.int .i64 tvv,.str tn,tv,av]::.var false [.bool x1,.str x2,.int .i64 x3,x4,x5]::B2::.var false [k1,k2,k3,nov,k4]::rest) []=some (.done [(56,.bool false),(55,.bool false),(54,.int .i64 z),(53,.int .i64 m),(52,.bool true),(51,.bool true),(2,pv),(3,.hp 0 0),(4,.hp 1 0),(7,.hp 2 0),(8,.hp 3 0),(9,w),(10,.int .i64 z),(11,.int .i64 i),(12,.int .i64 m),(13,.bool true)] (.var false [lv,.int .i64 tk,.int .i64 tvv,.str tn,tv,av]::.var false [.bool x1,.str x2,.int .i64 x3,x4,x5]::B2::.var false [k1,k2,k3,nov,k4]::rest) [.st,.st,.st,.st,.st,.st]):=by
 simp[Aa,An,f138,hm]
theorem kAs  : Ar MX 138 88 (AE MX) (Aa f138 10) ((Aa f138 10).toList.drop 6) [(56,.bool false),(55,.bool false),(54,.int .i64 z),(53,.int .i64 m),(52,.bool true),(51,.bool true),(2,pv),(3,.hp 0 0),(4,.hp 1 0),(7,.hp 2 0),(8,.hp 3 0),(9,w),(10,.int .i64 z),(11,.int .i64 i),(12,.int .i64 m),(13,.bool true)] (.var false [lv,.int .i64 tk,.int .i64 tvv,.str tn,tv,av]::.var false [.bool x1,.str x2,.int .i64 x3,x4,x5]::B2::.var false [k1,k2,k3,nov,k4]::rest) [.st,.st,.st,.st,.st,.st]=some (.done [(82,.bool false),(81,.tup []),(80,.tup []),(79,.tup []),(78,.tup []),(77,.tup []),(76,.tup []),(75,.tup []),(74,.tup []),(73,.tup []),(72,.tup []),(71,.tup []),(70,.bool false),(69,.bool false),(68,.tup []),(67,.tup []),(66,.tup []),(65,.tup []),(64,.bool false),(63,.bool false),(62,.tup []),(61,.tup []),(60,.tup []),(59,.tup []),(58,.tup []),(57,.bool false),(56,.bool false),(55,.bool false),(54,.int .i64 z),(53,.int .i64 m),(52,.bool true),(51,.bool true),(2,pv),(3,.hp 0 0),(4,.hp 1 0),(7,.hp 2 0),(8,.hp 3 0),(9,w),(10,.int .i64 z),(11,.int .i64 i),(12,.int .i64 m),(13,.bool true)] (.var false [lv,.int .i64 tk,.int .i64 tvv,.str tn,tv,av]::.var false [.bool x1,.str x2,.int .i64 x3,x4,x5]::B2::.var false [k1,k2,k3,nov,k4]::rest) [.st,.st,.st,.st,.st,.st,.st,.st,.st,.st,.st,.st,.st,.st,.st,.st,.st,.st,.st,.st,.st,.st,.st,.st,.st,.st,.st,.st,.st,.st,.st,.st]):=by
 simp[Aa,An,f138]
theorem kBt(hnn:nov.AA=true)(h40:∀ h,AI MX (AE MX) 40 [nov,.int .i64 z] h=some (.ret (.bool true),h)):Ar MX 138 88 (AE MX) (Aa f138 10) (((Aa f138 10).toList.drop 6).take 7) [(56,.bool true),(55,.bool true),(54,.int .i64 z),(53,.int .i64 m),(52,.bool true),(51,.bool true),(2,pv),(3,.hp 0 0),(4,.hp 1 0),(7,.hp 2 0),(8,.hp 3 0),(9,w),(10,.int .i64 z),(11,.int .i64 i),(12,.int .i64 m),(13,.bool true)] (.var false [lv,.int .i64 tk,.int .i64 tvv,.str tn,tv,av]::.var false [.bool x1,.str x2,.int .i64 x3,x4,x5]::B2::.var false [k1,k2,k3,nov,k4]::rest) [.st,.st,.st,.st,.st,.st]=some (.done [(63,.bool false),(62,.bool false),(61,.bool true),(60,.int .i64 z),(59,nov),(58,.hp 3 3),(57,.bool true),(56,.bool true),(55,.bool true),(54,.int .i64 z),(53,.int .i64 m),(52,.bool true),(51,.bool true),(2,pv),(3,.hp 0 0),(4,.hp 1 0),(7,.hp 2 0),(8,.hp 3 0),(9,w),(10,.int .i64 z),(11,.int .i64 i),(12,.int .i64 m),(13,.bool true)] (.var false [lv,.int .i64 tk,.int .i64 tvv,.str tn,tv,av]::.var false [.bool x1,.str x2,.int .i64 x3,x4,x5]::B2::.var false [k1,k2,k3,nov,k4]::rest) [.st,.st,.st,.st,.ld 3,.st,.st,.st,.st,.st,.st,.st,.st]):=by
 simp[Aa,An,f138,h40,AG,AV.AA,hnn]
theorem kBf(hnn:nov.AA=true)(h40:∀ h,AI MX (AE MX) 40 [nov,.int .i64 z] h=some (.ret (.bool false),h)):Ar MX 138 88 (AE MX) (Aa f138 10) (((Aa f138 10).toList.drop 6).take 7) [(56,.bool true),(55,.bool true),(54,.int .i64 z),(53,.int .i64 m),(52,.bool true),(51,.bool true),(2,pv),(3,.hp 0 0),(4,.hp 1 0),(7,.hp 2 0),(8,.hp 3 0),(9,w),(10,.int .i64 z),(11,.int .i64 i),(12,.int .i64 m),(13,.bool true)] (.var false [lv,.int .i64 tk,.int .i64 tvv,.str tn,tv,av]::.var false [.bool x1,.str x2,.int .i64 x3,x4,x5]::B2::.var false [k1,k2,k3,nov,k4]::rest) [.st,.st,.st,.st,.st,.st]=some (.done [(63,.bool true),(62,.bool true),(61,.bool false),(60,.int .i64 z),(59,nov),(58,.hp 3 3),(57,.bool true),(56,.bool true),(55,.bool true),(54,.int .i64 z),(53,.int .i64 m),(52,.bool true),(51,.bool true),(2,pv),(3,.hp 0 0),(4,.hp 1 0),(7,.hp 2 0),(8,.hp 3 0),(9,w),(10,.int .i64 z),(11,.int .i64 i),(12,.int .i64 m),(13,.bool true)] (.var false [lv,.int .i64 tk,.int .i64 tvv,.str tn,tv,av]::.var false [.bool x1,.str x2,.int .i64 x3,x4,x5]::B2::.var false [k1,k2,k3,nov,k4]::rest) [.st,.st,.st,.st,.ld 3,.st,.st,.st,.st,.st,.st,.st,.st]):=by
 simp[Aa,An,f138,h40,AG,AV.AA,hnn]
theorem kBs  : Ar MX 138 88 (AE MX) (Aa f138 10) (((Aa f138 10).toList.drop 6).drop 7) [(63,.bool false),(62,.bool false),(61,.bool true),(60,.int .i64 z),(59,nov),(58,.hp 3 3),(57,.bool true),(56,.bool true),(55,.bool true),(54,.int .i64 z),(53,.int .i64 m),(52,.bool true),(51,.bool true),(2,pv),(3,.hp 0 0),(4,.hp 1 0),(7,.hp 2 0),(8,.hp 3 0),(9,w),(10,.int .i64 z),(11,.int .i64 i),(12,.int .i64 m),(13,.bool true)] (.var false [lv,.int .i64 tk,.int .i64 tvv,.str tn,tv,av]::.var false [.bool x1,.str x2,.int .i64 x3,x4,x5]::B2::.var false [k1,k2,k3,nov,k4]::rest) [.st,.st,.st,.st,.ld 3,.st,.st,.st,.st,.st,.st,.st,.st]=some (.done [(82,.bool false),(81,.tup []),(80,.tup []),(79,.tup []),(78,.tup []),(77,.tup []),(76,.tup []),(75,.tup []),(74,.tup []),(73,.tup []),(72,.tup []),(71,.tup []),(70,.bool false),(69,.bool false),(68,.tup []),(67,.tup []),(66,.tup []),(65,.tup []),(64,.bool false),(63,.bool false),(62,.bool false),(61,.bool true),(60,.int .i64 z),(59,nov),(58,.hp 3 3),(57,.bool true),(56,.bool true),(55,.bool true),(54,.int .i64 z),(53,.int .i64 m),(52,.bool true),(51,.bool true),(2,pv),(3,.hp 0 0),(4,.hp 1 0),(7,.hp 2 0),(8,.hp 3 0),(9,w),(10,.int .i64 z),(11,.int .i64 i),(12,.int .i64 m),(13,.bool true)] (.var false [lv,.int .i64 tk,.int .i64 tvv,.str tn,tv,av]::.var false [.bool x1,.str x2,.int .i64 x3,x4,x5]::B2::.var false [k1,k2,k3,nov,k4]::rest) [.st,.st,.st,.st,.st,.st,.st,.st,.st,.st,.st,.st,.st,.st,.st,.st,.st,.st,.st,.st,.st,.st,.st,.ld 3,.st,.st,.st,.st,.st,.st,.st,.st]):=by
 simp[Aa,An,f138]
theorem kCt(h40o:AI MX (AE MX) 40 [w,.int .i64 z] (.var false [lv,.int .i64 tk,.int .i64 tvv,.str tn,tv,av]::.var false [.bool x1,.str x2,.int .i64 x3,x4,x5]::B2::.var false [k1,k2,k3,nov,k4]::rest)=some (.ret (.bool true),(.var false [lv,.int .i64 tk,.int .i64 tvv,.str tn,tv,av]::.var false [.bool x1,.str x2,.int .i64 x3,x4,x5]::B2::.var false [k1,k2,k3,nov,k4]::r1))){K67:Kd}(hK:K67=match w.AA with | true=> .st | false=> .ch (Da 0 (.var false [lv,.int .i64 tk,.int .i64 tvv,.str tn,tv,av]::.var false [.bool x1,.str x2,.int .i64 x3,x4,x5]::B2::.var false [k1,k2,k3,nov,k4]::rest) (.var false [lv,.int .i64 tk,.int .i64 tvv,.str tn,tv,av]::.var false [.bool x1,.str x2,.int .i64 x3,x4,x5]::B2::.var false [k1,k2,k3,nov,k4]::r1))):Ar MX 138 88 (AE MX) (Aa f138 10) ((((Aa f138 10).toList.drop 6).drop 7).take 6) [(63,.bool true),(62,.bool true),(61,.bool false),(60,.int .i64 z),(59,nov),(58,.hp 3 3),(57,.bool true),(56,.bool true),(55,.bool true),(54,.int .i64 z),(53,.int .i64 m),(52,.bool true),(51,.bool true),(2,pv),(3,.hp 0 0),(4,.hp 1 0),(7,.hp 2 0),(8,.hp 3 0),(9,w),(10,.int .i64 z),(11,.int .i64 i),(12,.int .i64 m),(13,.bool true)] (.var false [lv,.int .i64 tk,.int .i64 tvv,.str tn,tv,av]::.var false [.bool x1,.str x2,.int .i64 x3,x4,x5]::B2::.var false [k1,k2,k3,nov,k4]::rest) [.st,.st,.st,.st,.ld 3,.st,.st,.st,.st,.st,.st,.st,.st]=some (.done [(69,.bool false),(68,.bool false),(67,.bool true),(66,.int .i64 z),(65,w),(64,.bool true),(63,.bool true),(62,.bool true),(61,.bool false),(60,.int .i64 z),(59,nov),(58,.hp 3 3),(57,.bool true),(56,.bool true),(55,.bool true),(54,.int .i64 z),(53,.int .i64 m),(52,.bool true),(51,.bool true),(2,pv),(3,.hp 0 0),(4,.hp 1 0),(7,.hp 2 0),(8,.hp 3 0),(9,w),(10,.int .i64 z),(11,.int .i64 i),(12,.int .i64 m),(13,.bool true)] (.var false [lv,.int .i64 tk,.int .i64 tvv,.str tn,tv,av]::.var false [.bool x1,.str x2,.int .i64 x3,x4,x5]::B2::.var false [k1,k2,k3,nov,k4]::r1) [.st,.st,K67,.st,.st,.st,.st,.st,.st,.st,.ld 3,.st,.st,.st,.st,.st,.st,.st,.st]):=by
 subst hK;cases hwn:w.AA <;> simp[Aa,An,f138,h40o,hwn,AG,AV.AA]
theorem kCf(h40o:AI MX (AE MX) 40 [w,.int .i64 z] (.var false [lv,.int .i64 tk,.int .i64 tvv,.str tn,tv,av]::.var false [.bool x1,.str x2,.int .i64 x3,x4,x5]::B2::.var false [k1,k2,k3,nov,k4]::rest)=some (.ret (.bool false),(.var false [lv,.int .i64 tk,.int .i64 tvv,.str tn,tv,av]::.var false [.bool x1,.str x2,.int .i64 x3,x4,x5]::B2::.var false [k1,k2,k3,nov,k4]::r1))){K67:Kd}(hK:K67=match w.AA with | true=> .st | false=> .ch (Da 0 (.var false [lv,.int .i64 tk,.int .i64 tvv,.str tn,tv,av]::.var false [.bool x1,.str x2,.int .i64 x3,x4,x5]::B2::.var false [k1,k2,k3,nov,k4]::rest) (.var false [lv,.int .i64 tk,.int .i64 tvv,.str tn,tv,av]::.var false [.bool x1,.str x2,.int .i64 x3,x4,x5]::B2::.var false [k1,k2,k3,nov,k4]::r1))):Ar MX 138 88 (AE MX) (Aa f138 10) ((((Aa f138 10).toList.drop 6).drop 7).take 6) [(63,.bool true),(62,.bool true),(61,.bool false),(60,.int .i64 z),(59,nov),(58,.hp 3 3),(57,.bool true),(56,.bool true),(55,.bool true),(54,.int .i64 z),(53,.int .i64 m),(52,.bool true),(51,.bool true),(2,pv),(3,.hp 0 0),(4,.hp 1 0),(7,.hp 2 0),(8,.hp 3 0),(9,w),(10,.int .i64 z),(11,.int .i64 i),(12,.int .i64 m),(13,.bool true)] (.var false [lv,.int .i64 tk,.int .i64 tvv,.str tn,tv,av]::.var false [.bool x1,.str x2,.int .i64 x3,x4,x5]::B2::.var false [k1,k2,k3,nov,k4]::rest) [.st,.st,.st,.st,.ld 3,.st,.st,.st,.st,.st,.st,.st,.st]=some (.done [(69,.bool true),(68,.bool true),(67,.bool false),(66,.int .i64 z),(65,w),(64,.bool true),(63,.bool true),(62,.bool true),(61,.bool false),(60,.int .i64 z),(59,nov),(58,.hp 3 3),(57,.bool true),(56,.bool true),(55,.bool true),(54,.int .i64 z),(53,.int .i64 m),(52,.bool true),(51,.bool true),(2,pv),(3,.hp 0 0),(4,.hp 1 0),(7,.hp 2 0),(8,.hp 3 0),(9,w),(10,.int .i64 z),(11,.int .i64 i),(12,.int .i64 m),(13,.bool true)] (.var false [lv,.int .i64 tk,.int .i64 tvv,.str tn,tv,av]::.var false [.bool x1,.str x2,.int .i64 x3,x4,x5]::B2::.var false [k1,k2,k3,nov,k4]::r1) [.st,.st,K67,.st,.st,.st,.st,.st,.st,.st,.ld 3,.st,.st,.st,.st,.st,.st,.st,.st]):=by
 subst hK;cases hwn:w.AA <;> simp[Aa,An,f138,h40o,hwn,AG,AV.AA]
theorem kCs{K67:Kd}:Ar MX 138 88 (AE MX) (Aa f138 10) ((((Aa f138 10).toList.drop 6).drop 7).drop 6) [(69,.bool false),(68,.bool false),(67,.bool true),(66,.int .i64 z),(65,w),(64,.bool true),(63,.bool true),(62,.bool true),(61,.bool false),(60,.int .i64 z),(59,nov),(58,.hp 3 3),(57,.bool true),(56,.bool true),(55,.bool true),(54,.int .i64 z),(53,.int .i64 m),(52,.bool true),(51,.bool true),(2,pv),(3,.hp 0 0),(4,.hp 1 0),(7,.hp 2 0),(8,.hp 3 0),(9,w),(10,.int .i64 z),(11,.int .i64 i),(12,.int .i64 m),(13,.bool true)] (.var false [lv,.int .i64 tk,.int .i64 tvv,.str tn,tv,av]::.var false [.bool x1,.str x2,.int .i64 x3,x4,x5]::B2::.var false [k1,k2,k3,nov,k4]::r1) [.st,.st,K67,.st,.st,.st,.st,.st,.st,.st,.ld 3,.st,.st,.st,.st,.st,.st,.st,.st]=some (.done [(82,.bool false),(81,.tup []),(80,.tup []),(79,.tup []),(78,.tup []),(77,.tup []),(76,.tup []),(75,.tup []),(74,.tup []),(73,.tup []),(72,.tup []),(71,.tup []),(70,.bool false),(69,.bool false),(68,.bool false),(67,.bool true),(66,.int .i64 z),(65,w),(64,.bool true),(63,.bool true),(62,.bool true),(61,.bool false),(60,.int .i64 z),(59,nov),(58,.hp 3 3),(57,.bool true),(56,.bool true),(55,.bool true),(54,.int .i64 z),(53,.int .i64 m),(52,.bool true),(51,.bool true),(2,pv),(3,.hp 0 0),(4,.hp 1 0),(7,.hp 2 0),(8,.hp 3 0),(9,w),(10,.int .i64 z),(11,.int .i64 i),(12,.int .i64 m),(13,.bool true)] (.var false [lv,.int .i64 tk,.int .i64 tvv,.str tn,tv,av]::.var false [.bool x1,.str x2,.int .i64 x3,x4,x5]::B2::.var false [k1,k2,k3,nov,k4]::r1) [.st,.st,.st,.st,.st,.st,.st,.st,.st,.st,.st,.st,.st,.st,.st,K67,.st,.st,.st,.st,.st,.st,.st,.ld 3,.st,.st,.st,.st,.st,.st,.st,.st]):=by
 simp[Aa,An,f138]
theorem kDt(he:ixA 4 av (.int .i64 i)=some (.ro [.int .i64 ak,.int .i64 avv,.str a2s,q1]))(hqn:q1.AA=true)(hlv:lv.AA=true)(htv:tv.AA=true)(n4:x4.AA=true)(n5:x5.AA=true)(h134:∀ h,AI MX (AE MX) 134 [lv,.agg [.int .i64 tk,.int .i64 tvv,.str tn,tv],.agg [.int .i64 ak,.int .i64 avv,.str a2s,q1],.agg [.bool x1,.str x2,.int .i64 x3,x4,x5]] h=some (.ret (.bool true),h)){K67:Kd}:Ar MX 138 88 (AE MX) (Aa f138 10) ((((Aa f138 10).toList.drop 6).drop 7).drop 6) [(69,.bool true),(68,.bool true),(67,.bool false),(66,.int .i64 z),(65,w),(64,.bool true),(63,.bool true),(62,.bool true),(61,.bool false),(60,.int .i64 z),(59,nov),(58,.hp 3 3),(57,.bool true),(56,.bool true),(55,.bool true),(54,.int .i64 z),(53,.int .i64 m),(52,.bool true),(51,.bool true),(2,pv),(3,.hp 0 0),(4,.hp 1 0),(7,.hp 2 0),(8,.hp 3 0),(9,w),(10,.int .i64 z),(11,.int .i64 i),(12,.int .i64 m),(13,.bool true)] (.var false [lv,.int .i64 tk,.int .i64 tvv,.str tn,tv,av]::.var false [.bool x1,.str x2,.int .i64 x3,x4,x5]::B2::.var false [k1,k2,k3,nov,k4]::r1) [.st,.st,K67,.st,.st,.st,.st,.st,.st,.st,.ld 3,.st,.st,.st,.st,.st,.st,.st,.st]=some (.done [(82,.bool true),(81,.bool true),(80,.agg [.bool x1,.str x2,.int .i64 x3,x4,x5]),(79,.agg [.int .i64 ak,.int .i64 avv,.str a2s,q1]),(78,.ro [.int .i64 ak,.int .i64 avv,.str a2s,q1]),(77,.int .i64 i),(76,av),(75,.hp 0 5),(74,.agg [.int .i64 tk,.int .i64 tvv,.str tn,tv]),(73,.hp 0 1),(72,lv),(71,.hp 0 0),(70,.bool true),(69,.bool true),(68,.bool true),(67,.bool false),(66,.int .i64 z),(65,w),(64,.bool true),(63,.bool true),(62,.bool true),(61,.bool false),(60,.int .i64 z),(59,nov),(58,.hp 3 3),(57,.bool true),(56,.bool true),(55,.bool true),(54,.int .i64 z),(53,.int .i64 m),(52,.bool true),(51,.bool true),(2,pv),(3,.hp 0 0),(4,.hp 1 0),(7,.hp 2 0),(8,.hp 3 0),(9,w),(10,.int .i64 z),(11,.int .i64 i),(12,.int .i64 m),(13,.bool true)] (.var false [lv,.int .i64 tk,.int .i64 tvv,.str tn,tv,av]::.var false [.bool x1,.str x2,.int .i64 x3,x4,x5]::B2::.var false [k1,k2,k3,nov,k4]::r1) [.st,.st,.ld 1,.st,.st,.st,.ld 0,.st,.ld 0,.st,.ld 0,.st,.st,.st,.st,K67,.st,.st,.st,.st,.st,.st,.st,.ld 3,.st,.st,.st,.st,.st,.st,.st,.st]):=by
 simp[Aa,An,f138,he,h134,AG,AV.AA,hqn,hlv,htv,n4,n5]
theorem kDf(he:ixA 4 av (.int .i64 i)=some (.ro [.int .i64 ak,.int .i64 avv,.str a2s,q1]))(hqn:q1.AA=true)(hlv:lv.AA=true)(htv:tv.AA=true)(n4:x4.AA=true)(n5:x5.AA=true)(h134:∀ h,AI MX (AE MX) 134 [lv,.agg [.int .i64 tk,.int .i64 tvv,.str tn,tv],.agg [.int .i64 ak,.int .i64 avv,.str a2s,q1],.agg [.bool x1,.str x2,.int .i64 x3,x4,x5]] h=some (.ret (.bool false),h)){K67:Kd}:Ar MX 138 88 (AE MX) (Aa f138 10) ((((Aa f138 10).toList.drop 6).drop 7).drop 6) [(69,.bool true),(68,.bool true),(67,.bool false),(66,.int .i64 z),(65,w),(64,.bool true),(63,.bool true),(62,.bool true),(61,.bool false),(60,.int .i64 z),(59,nov),(58,.hp 3 3),(57,.bool true),(56,.bool true),(55,.bool true),(54,.int .i64 z),(53,.int .i64 m),(52,.bool true),(51,.bool true),(2,pv),(3,.hp 0 0),(4,.hp 1 0),(7,.hp 2 0),(8,.hp 3 0),(9,w),(10,.int .i64 z),(11,.int .i64 i),(12,.int .i64 m),(13,.bool true)] (.var false [lv,.int .i64 tk,.int .i64 tvv,.str tn,tv,av]::.var false [.bool x1,.str x2,.int .i64 x3,x4,x5]::B2::.var false [k1,k2,k3,nov,k4]::r1) [.st,.st,K67,.st,.st,.st,.st,.st,.st,.st,.ld 3,.st,.st,.st,.st,.st,.st,.st,.st]=some (.done [(82,.bool false),(81,.bool false),(80,.agg [.bool x1,.str x2,.int .i64 x3,x4,x5]),(79,.agg [.int .i64 ak,.int .i64 avv,.str a2s,q1]),(78,.ro [.int .i64 ak,.int .i64 avv,.str a2s,q1]),(77,.int .i64 i),(76,av),(75,.hp 0 5),(74,.agg [.int .i64 tk,.int .i64 tvv,.str tn,tv]),(73,.hp 0 1),(72,lv),(71,.hp 0 0),(70,.bool true),(69,.bool true),(68,.bool true),(67,.bool false),(66,.int .i64 z),(65,w),(64,.bool true),(63,.bool true),(62,.bool true),(61,.bool false),(60,.int .i64 z),(59,nov),(58,.hp 3 3),(57,.bool true),(56,.bool true),(55,.bool true),(54,.int .i64 z),(53,.int .i64 m),(52,.bool true),(51,.bool true),(2,pv),(3,.hp 0 0),(4,.hp 1 0),(7,.hp 2 0),(8,.hp 3 0),(9,w),(10,.int .i64 z),(11,.int .i64 i),(12,.int .i64 m),(13,.bool true)] (.var false [lv,.int .i64 tk,.int .i64 tvv,.str tn,tv,av]::.var false [.bool x1,.str x2,.int .i64 x3,x4,x5]::B2::.var false [k1,k2,k3,nov,k4]::r1) [.st,.st,.ld 1,.st,.st,.st,.ld 0,.st,.ld 0,.st,.ld 0,.st,.st,.st,.st,K67,.st,.st,.st,.st,.st,.st,.st,.ld 3,.st,.st,.st,.st,.st,.st,.st,.st]):=by
 simp[Aa,An,f138,he,h134,AG,AV.AA,hqn,hlv,htv,n4,n5]
theorem Nz:sub (AL f138 1) [1,0,0,1]=.seq (.region 10 (Aa f138 10) true) (sub (AL f138 1) [1,0,0,1,1]):=rfl
theorem UK{B:Bool}{H:AF}:B=false->AO MX 138 88 (AE MX) (sub (AL f138 1) [1,0,0,1,1]) ([(2,pv),(3,.hp 0 0),(4,.hp 1 0),(7,.hp 2 0),(8,.hp 3 0),(9,w),(10,.int .i64 z),(11,.int .i64 i),(82,.bool B)],H)=some (.nrm,([(2,pv),(3,.hp 0 0),(4,.hp 1 0),(7,.hp 2 0),(8,.hp 3 0),(9,w),(10,.int .i64 z),(11,.int .i64 i),(82,.bool false)],H)):=by
 rintro rfl;simp[f138,sub]
theorem q138y{H H':AF}(hap:apA 1 8 w (.sl 1 true [[.int .i64 z]]) H=some (w',H'))(hc':w'.cells=some [w']):AO MX 138 88 (AE MX) (sub (AL f138 1) [1,0,0,1,1]) ([(2,pv),(3,.hp 0 0),(4,.hp 1 0),(7,.hp 2 0),(8,.hp 3 0),(9,w),(10,.int .i64 z),(11,.int .i64 i),(82,.bool true)],H)=some (.nrm,([(2,pv),(3,.hp 0 0),(4,.hp 1 0),(7,.hp 2 0),(8,.hp 3 0),(9,w'),(10,.int .i64 z),(11,.int .i64 i)],H')):=by
 simp[f138,sub,hap,hc',bsA,Aq,AG,AV.AA]
theorem q138d:AO MX 138 88 (AE MX) (sub (AL f138 1) [1,0,0,1]) ([(2,pv),(3,.hp 0 0),(4,.hp 1 0),(7,.hp 2 0),(8,.hp 3 0),(9,w),(10,.int .i64 z),(11,.int .i64 i),(12,.int .i64 m),(13,.bool false)],(.var false [lv,.int .i64 tk,.int .i64 tvv,.str tn,tv,av]::.var false [.bool x1,.str x2,.int .i64 x3,x4,x5]::B2::.var false [k1,k2,k3,nov,k4]::rest))=some (.nrm,([(2,pv),(3,.hp 0 0),(4,.hp 1 0),(7,.hp 2 0),(8,.hp 3 0),(9,w),(10,.int .i64 z),(11,.int .i64 i),(82,.bool false)],(.var false [lv,.int .i64 tk,.int .i64 tvv,.str tn,tv,av]::.var false [.bool x1,.str x2,.int .i64 x3,x4,x5]::B2::.var false [k1,k2,k3,nov,k4]::rest))):=by
 simp[f138,sub]
theorem q138e(hm:(m == z)=false):AO MX 138 88 (AE MX) (sub (AL f138 1) [1,0,0,1]) ([(2,pv),(3,.hp 0 0),(4,.hp 1 0),(7,.hp 2 0),(8,.hp 3 0),(9,w),(10,.int .i64 z),(11,.int .i64 i),(12,.int .i64 m),(13,.bool true)],(.var false [lv,.int .i64 tk,.int .i64 tvv,.str tn,tv,av]::.var false [.bool x1,.str x2,.int .i64 x3,x4,x5]::B2::.var false [k1,k2,k3,nov,k4]::rest))=some (.nrm,([(2,pv),(3,.hp 0 0),(4,.hp 1 0),(7,.hp 2 0),(8,.hp 3 0),(9,w),(10,.int .i64 z),(11,.int .i64 i),(82,.bool false)],(.var false [lv,.int .i64 tk,.int .i64 tvv,.str tn,tv,av]::.var false [.bool x1,.str x2,.int .i64 x3,x4,x5]::B2::.var false [k1,k2,k3,nov,k4]::rest))):=by
 rw[Nz];exact AM (Hg ((C1 6 (kAf hm)).trans kAs) (fun _=>by
  have hb:=Hs;refine CJ ?_;rw[hb];simp[Bi,Bt,BN]) (by decide +kernel:MX.keep 138 10=some [2,3,4,7,8,9,10,11,82])) (UK rfl)
theorem q138f(hm:(m == z)=true)(hnn:nov.AA=true)(h40:∀ h,AI MX (AE MX) 40 [nov,.int .i64 z] h=some (.ret (.bool true),h)):AO MX 138 88 (AE MX) (sub (AL f138 1) [1,0,0,1]) ([(2,pv),(3,.hp 0 0),(4,.hp 1 0),(7,.hp 2 0),(8,.hp 3 0),(9,w),(10,.int .i64 z),(11,.int .i64 i),(12,.int .i64 m),(13,.bool true)],(.var false [lv,.int .i64 tk,.int .i64 tvv,.str tn,tv,av]::.var false [.bool x1,.str x2,.int .i64 x3,x4,x5]::B2::.var false [k1,k2,k3,nov,k4]::rest))=some (.nrm,([(2,pv),(3,.hp 0 0),(4,.hp 1 0),(7,.hp 2 0),(8,.hp 3 0),(9,w),(10,.int .i64 z),(11,.int .i64 i),(82,.bool false)],(.var false [lv,.int .i64 tk,.int .i64 tvv,.str tn,tv,av]::.var false [.bool x1,.str x2,.int .i64 x3,x4,x5]::B2::.var false [k1,k2,k3,nov,k4]::rest))):=by
 rw[Nz];exact AM (Hg ((C1 6 (kAt hm)).trans ((C1 7 (kBt hnn h40)).trans kBs)) (fun _=>by
  have hb:=Hs;refine CJ ?_;rw[hb];simp[Bi,Bt,BN]) (by decide +kernel:MX.keep 138 10=some [2,3,4,7,8,9,10,11,82])) (UK rfl)
theorem q138g(hm:(m == z)=true)(hnn:nov.AA=true)(h40:∀ h,AI MX (AE MX) 40 [nov,.int .i64 z] h=some (.ret (.bool false),h))(h40o:AI MX (AE MX) 40 [w,.int .i64 z] (.var false [lv,.int .i64 tk,.int .i64 tvv,.str tn,tv,av]::.var false [.bool x1,.str x2,.int .i64 x3,x4,x5]::B2::.var false [k1,k2,k3,nov,k4]::rest)=some (.ret (.bool true),(.var false [lv,.int .i64 tk,.int .i64 tvv,.str tn,tv,av]::.var false [.bool x1,.str x2,.int .i64 x3,x4,x5]::B2::.var false [k1,k2,k3,nov,k4]::r1))):AO MX 138 88 (AE MX) (sub (AL f138 1) [1,0,0,1]) ([(2,pv),(3,.hp 0 0),(4,.hp 1 0),(7,.hp 2 0),(8,.hp 3 0),(9,w),(10,.int .i64 z),(11,.int .i64 i),(12,.int .i64 m),(13,.bool true)],(.var false [lv,.int .i64 tk,.int .i64 tvv,.str tn,tv,av]::.var false [.bool x1,.str x2,.int .i64 x3,x4,x5]::B2::.var false [k1,k2,k3,nov,k4]::rest))=some (.nrm,([(2,pv),(3,.hp 0 0),(4,.hp 1 0),(7,.hp 2 0),(8,.hp 3 0),(9,w),(10,.int .i64 z),(11,.int .i64 i),(82,.bool false)],(.var false [lv,.int .i64 tk,.int .i64 tvv,.str tn,tv,av]::.var false [.bool x1,.str x2,.int .i64 x3,x4,x5]::B2::.var false [k1,k2,k3,nov,k4]::r1))):=by
 have hm0:=md4 (B0:=.var false [lv,.int .i64 tk,.int .i64 tvv,.str tn,tv,av]) (B1:=.var false [.bool x1,.str x2,.int .i64 x3,x4,x5]) (B2:=B2) (B3:=.var false [k1,k2,k3,nov,k4]) (X:=rest) (Y:=r1) (x:=0) (by decide);have hm1:=md4 (B0:=.var false [lv,.int .i64 tk,.int .i64 tvv,.str tn,tv,av]) (B1:=.var false [.bool x1,.str x2,.int .i64 x3,x4,x5]) (B2:=B2) (B3:=.var false [k1,k2,k3,nov,k4]) (X:=rest) (Y:=r1) (x:=1) (by decide);have hm3:=md4 (B0:=.var false [lv,.int .i64 tk,.int .i64 tvv,.str tn,tv,av]) (B1:=.var false [.bool x1,.str x2,.int .i64 x3,x4,x5]) (B2:=B2) (B3:=.var false [k1,k2,k3,nov,k4]) (X:=rest) (Y:=r1) (x:=3) (by decide);rw[Nz];exact AM (Hg ((C1 6 (kAt hm)).trans ((C1 7 (kBf hnn h40)).trans ((C1 6 (kCt h40o rfl)).trans kCs))) (fun _=>by
  have hb:=Hs;refine CJ ?_;rw[hb];cases hwn:w.AA <;> simp[Bi,Bt,BN,hwn,hm0,hm1,hm3]) (by decide +kernel:MX.keep 138 10=some [2,3,4,7,8,9,10,11,82])) (UK rfl)
theorem q138h(hm:(m == z)=true)(hnn:nov.AA=true)(h40:∀ h,AI MX (AE MX) 40 [nov,.int .i64 z] h=some (.ret (.bool false),h))(h40o:AI MX (AE MX) 40 [w,.int .i64 z] (.var false [lv,.int .i64 tk,.int .i64 tvv,.str tn,tv,av]::.var false [.bool x1,.str x2,.int .i64 x3,x4,x5]::B2::.var false [k1,k2,k3,nov,k4]::rest)=some (.ret (.bool false),(.var false [lv,.int .i64 tk,.int .i64 tvv,.str tn,tv,av]::.var false [.bool x1,.str x2,.int .i64 x3,x4,x5]::B2::.var false [k1,k2,k3,nov,k4]::r1)))(he:ixA 4 av (.int .i64 i)=some (.ro [.int .i64 ak,.int .i64 avv,.str a2s,q1]))(hqn:q1.AA=true)(hlv:lv.AA=true)(htv:tv.AA=true)(n4:x4.AA=true)(n5:x5.AA=true)(h134:∀ h,AI MX (AE MX) 134 [lv,.agg [.int .i64 tk,.int .i64 tvv,.str tn,tv],.agg [.int .i64 ak,.int .i64 avv,.str a2s,q1],.agg [.bool x1,.str x2,.int .i64 x3,x4,x5]] h=some (.ret (.bool false),h)):AO MX 138 88 (AE MX) (sub (AL f138 1) [1,0,0,1]) ([(2,pv),(3,.hp 0 0),(4,.hp 1 0),(7,.hp 2 0),(8,.hp 3 0),(9,w),(10,.int .i64 z),(11,.int .i64 i),(12,.int .i64 m),(13,.bool true)],(.var false [lv,.int .i64 tk,.int .i64 tvv,.str tn,tv,av]::.var false [.bool x1,.str x2,.int .i64 x3,x4,x5]::B2::.var false [k1,k2,k3,nov,k4]::rest))=some (.nrm,([(2,pv),(3,.hp 0 0),(4,.hp 1 0),(7,.hp 2 0),(8,.hp 3 0),(9,w),(10,.int .i64 z),(11,.int .i64 i),(82,.bool false)],(.var false [lv,.int .i64 tk,.int .i64 tvv,.str tn,tv,av]::.var false [.bool x1,.str x2,.int .i64 x3,x4,x5]::B2::.var false [k1,k2,k3,nov,k4]::r1))):=by
 have hm0:=md4 (B0:=.var false [lv,.int .i64 tk,.int .i64 tvv,.str tn,tv,av]) (B1:=.var false [.bool x1,.str x2,.int .i64 x3,x4,x5]) (B2:=B2) (B3:=.var false [k1,k2,k3,nov,k4]) (X:=rest) (Y:=r1) (x:=0) (by decide);have hm1:=md4 (B0:=.var false [lv,.int .i64 tk,.int .i64 tvv,.str tn,tv,av]) (B1:=.var false [.bool x1,.str x2,.int .i64 x3,x4,x5]) (B2:=B2) (B3:=.var false [k1,k2,k3,nov,k4]) (X:=rest) (Y:=r1) (x:=1) (by decide);have hm3:=md4 (B0:=.var false [lv,.int .i64 tk,.int .i64 tvv,.str tn,tv,av]) (B1:=.var false [.bool x1,.str x2,.int .i64 x3,x4,x5]) (B2:=B2) (B3:=.var false [k1,k2,k3,nov,k4]) (X:=rest) (Y:=r1) (x:=3) (by decide);rw[Nz];exact AM (Hg ((C1 6 (kAt hm)).trans ((C1 7 (kBf hnn h40)).trans ((C1 6 (kCf h40o rfl)).trans (kDf he hqn hlv htv n4 n5 h134)))) (fun _=>by
  have hb:=Hs;refine CJ ?_;rw[hb];cases hwn:w.AA <;> simp[Bi,Bt,BN,hwn,hm0,hm1,hm3]) (by decide +kernel:MX.keep 138 10=some [2,3,4,7,8,9,10,11,82])) (UK rfl)
theorem q138i(hm:(m == z)=true)(hnn:nov.AA=true)(h40:∀ h,AI MX (AE MX) 40 [nov,.int .i64 z] h=some (.ret (.bool false),h))(h40o:AI MX (AE MX) 40 [w,.int .i64 z] (.var false [lv,.int .i64 tk,.int .i64 tvv,.str tn,tv,av]::.var false [.bool x1,.str x2,.int .i64 x3,x4,x5]::B2::.var false [k1,k2,k3,nov,k4]::rest)=some (.ret (.bool false),(.var false [lv,.int .i64 tk,.int .i64 tvv,.str tn,tv,av]::.var false [.bool x1,.str x2,.int .i64 x3,x4,x5]::B2::.var false [k1,k2,k3,nov,k4]::r1)))(he:ixA 4 av (.int .i64 i)=some (.ro [.int .i64 ak,.int .i64 avv,.str a2s,q1]))(hqn:q1.AA=true)(hlv:lv.AA=true)(htv:tv.AA=true)(n4:x4.AA=true)(n5:x5.AA=true)(h134:∀ h,AI MX (AE MX) 134 [lv,.agg [.int .i64 tk,.int .i64 tvv,.str tn,tv],.agg [.int .i64 ak,.int .i64 avv,.str a2s,q1],.agg [.bool x1,.str x2,.int .i64 x3,x4,x5]] h=some (.ret (.bool true),h))(hap:apA 1 8 w (.sl 1 true [[.int .i64 z]]) (.var false [lv,.int .i64 tk,.int .i64 tvv,.str tn,tv,av]::.var false [.bool x1,.str x2,.int .i64 x3,x4,x5]::B2::.var false [k1,k2,k3,nov,k4]::r1)=some (w',(.var false [lv,.int .i64 tk,.int .i64 tvv,.str tn,tv,av]::.var false [.bool x1,.str x2,.int .i64 x3,x4,x5]::B2::.var false [k1,k2,k3,nov,k4]::r2)))(hc':w'.cells=some [w']):AO MX 138 88 (AE MX) (sub (AL f138 1) [1,0,0,1]) ([(2,pv),(3,.hp 0 0),(4,.hp 1 0),(7,.hp 2 0),(8,.hp 3 0),(9,w),(10,.int .i64 z),(11,.int .i64 i),(12,.int .i64 m),(13,.bool true)],(.var false [lv,.int .i64 tk,.int .i64 tvv,.str tn,tv,av]::.var false [.bool x1,.str x2,.int .i64 x3,x4,x5]::B2::.var false [k1,k2,k3,nov,k4]::rest))=some (.nrm,([(2,pv),(3,.hp 0 0),(4,.hp 1 0),(7,.hp 2 0),(8,.hp 3 0),(9,w'),(10,.int .i64 z),(11,.int .i64 i)],(.var false [lv,.int .i64 tk,.int .i64 tvv,.str tn,tv,av]::.var false [.bool x1,.str x2,.int .i64 x3,x4,x5]::B2::.var false [k1,k2,k3,nov,k4]::r2))):=by
 have hm0:=md4 (B0:=.var false [lv,.int .i64 tk,.int .i64 tvv,.str tn,tv,av]) (B1:=.var false [.bool x1,.str x2,.int .i64 x3,x4,x5]) (B2:=B2) (B3:=.var false [k1,k2,k3,nov,k4]) (X:=rest) (Y:=r1) (x:=0) (by decide);have hm1:=md4 (B0:=.var false [lv,.int .i64 tk,.int .i64 tvv,.str tn,tv,av]) (B1:=.var false [.bool x1,.str x2,.int .i64 x3,x4,x5]) (B2:=B2) (B3:=.var false [k1,k2,k3,nov,k4]) (X:=rest) (Y:=r1) (x:=1) (by decide);have hm3:=md4 (B0:=.var false [lv,.int .i64 tk,.int .i64 tvv,.str tn,tv,av]) (B1:=.var false [.bool x1,.str x2,.int .i64 x3,x4,x5]) (B2:=B2) (B3:=.var false [k1,k2,k3,nov,k4]) (X:=rest) (Y:=r1) (x:=3) (by decide);rw[Nz];exact AM (Hg ((C1 6 (kAt hm)).trans ((C1 7 (kBf hnn h40)).trans ((C1 6 (kCf h40o rfl)).trans (kDt he hqn hlv htv n4 n5 h134)))) (fun _=>by
  have hb:=Hs;refine CJ ?_;rw[hb];cases hwn:w.AA <;> simp[Bi,Bt,BN,hwn,hm0,hm1,hm3]) (by decide +kernel:MX.keep 138 10=some [2,3,4,7,8,9,10,11,82])) (q138y hap hc')
theorem PA{junk:List (Nat×AV)}(hj:junk=[]\/junk=[(82,.bool false)])(hw:wr .i64 (i+1)=i+1){H:AF}:AO MX 138 88 (AE MX) (sub (AL f138 1) [1,1]) ([(2,pv),(3,.hp 0 0),(4,.hp 1 0),(7,.hp 2 0),(8,.hp 3 0),(9,w),(10,.int .i64 z),(11,.int .i64 i)]++junk,H)=some (.nrm,([(2,pv),(3,.hp 0 0),(4,.hp 1 0),(7,.hp 2 0),(8,.hp 3 0),(9,w),(10,.int .i64 z),(11,.int .i64 (i+1))],H)):=by
 rcases hj with rfl | rfl <;> simp[f138,sub,hw]
end
theorem S3{α β:Type}(f:β->α->β){l:List α}{i:Nat}(hi:i<l.length)(b:β):(l.take (i+1)).foldl f b=f ((l.take i).foldl f b) l[i]:=by
 rw[<- Cf hi,List.foldl_append];rfl
section
variable{l:List AK}{lv:AV}(hl:SlR Ac 3 l lv)(hsl:SmL 1048577 l)(hok:DOK l)
include hl hsl hok
theorem in138{s:Sh}{q:KV}{t:TyV}{tv:AV}(ht:TS l t [.int .i64 t.k,.int .i64 t.v,.str t.nm,tv] s)(hnd:NdX s){kx:List AV}(hk:B4 s q kx){arms:List TyV}{av:AV}(ha:SlR AR 4 arms av)(hal:arms.length<1048577)(has:∀ p∈arms,Sm 1048577 p)(hpe:∀ p∈arms,CA s p=0){path:List Nat}{pv:AV}(hp:SlR Az 1 (BX path) pv){no:List Int}{nov:AV}(hno:SlR Az 1 no nov)(hnl:no.length<1048577)
 {B2:Blk} {k1 k2 k3 k4:AV} {n L:Nat} (hL:L<=65536) {out:List Int} (hol:out.length<=L) {w:AV} {rest:AF} (hw:Gk rest w out) :
 ∃ w' rest',EV MX 138 88 (AE MX) (AL f138 1) ([(2,pv),(3,.hp 0 0),(4,.hp 1 0),(7,.hp 2 0),(8,.hp 3 0),(9,w),(10,.int .i64 n),(11,.int .i64 (0:Nat))],.var false [lv,.int .i64 t.k,.int .i64 t.v,.str t.nm,tv,av]::.var false kx::B2::.var false [k1,k2,k3,nov,k4]::rest)=some (.ext 2,([(2,pv),(3,.hp 0 0),(4,.hp 1 0),(7,.hp 2 0),(8,.hp 3 0),(9,w'),(10,.int .i64 n),(11,.int .i64 arms.length),(38,.bool false)],.var false [lv,.int .i64 t.k,.int .i64 t.v,.str t.nm,tv,av]::.var false kx::B2::.var false [k1,k2,k3,nov,k4]::rest')) /\
  Gk rest' w' (inN path s q no arms n out)/\(inN path s q no arms n out).length<=L+1:=by
 have hlv:=hl.AA;have hxn:=ht.rep.AG;obtain⟨tv',he',htv⟩:=ht.rep.Ab;cases he';have htvn:=htv.AA;have hpn:=hp.AA;have hnon:=hno.AA;have hk0:=hk;obtain⟨x1,x2,x3,x4,x5,rfl,n4,n5,c4,c5⟩:=B4.form hk;obtain⟨e,st,hlp,hq⟩:=AU (M:=MX) (fid:=138) (N:=88) (C:=AE MX) (c:=AL f138 1) (n:=arms.length)
  (fun i (b:AV×AF×List Int)=>([(2,pv),(3,.hp 0 0),(4,.hp 1 0),(7,.hp 2 0),(8,.hp 3 0),(9,b.1),(10,.int .i64 n),(11,.int .i64 i)],.var false [lv,.int .i64 t.k,.int .i64 t.v,.str t.nm,tv,av]::.var false [.bool x1,.str x2,.int .i64 x3,x4,x5]::B2::.var false [k1,k2,k3,nov,k4]::b.2.1))
  (fun i b=>Gk b.2.1 b.1 b.2.2/\b.2.2=(arms.take i).foldl (Jt path s q no n) out/\b.2.2.length<=L+1/\(b.2.2.contains (n:Int)=false->b.2.2.length<=L))
  (fun r=>∃ w' rest',r=(.ext 2,([(2,pv),(3,.hp 0 0),(4,.hp 1 0),(7,.hp 2 0),(8,.hp 3 0),(9,w'),(10,.int .i64 n),(11,.int .i64 arms.length),(38,.bool false)],.var false [lv,.int .i64 t.k,.int .i64 t.v,.str t.nm,tv,av]::.var false [.bool x1,.str x2,.int .i64 x3,x4,x5]::B2::.var false [k1,k2,k3,nov,k4]::rest'))/\Gk rest' w' (inN path s q no arms n out)/\(inN path s q no arms n out).length<=L+1) (fun i b hi hI=>by
    obtain⟨w,rest,o⟩:=b;obtain⟨i1,i2,i3,i4⟩:=hI;simp only at i1 i2 i3 i4;obtain⟨e,he,hR⟩:=ha.ix hi;have he:=he .i64;have hmem:=Ap hi;have h173:=c173 path arms[i] e pv hR hp;have h134:=c134 hl hsl hok arms[i] s q t _ e _ ht hnd hk0 hR (has _ hmem) (hpe _ hmem);have h40n:=c40 hno hnl (n:Int);obtain⟨r1,hr1,h40o⟩:=i1.has (B0:=.var false [lv,.int .i64 t.k,.int .i64 t.v,.str t.nm,tv,av]) (B1:=.var false [.bool x1,.str x2,.int .i64 x3,x4,x5]) (B2:=B2) (B3:=.var false [k1,k2,k3,nov,k4]) (by omega) (n:Int);obtain⟨q1,rfl,hq1⟩:=hR.Ab;have hq1n:=hq1.AA;have hlt:o.length<1048577:=(by omega);have hst:=S3 (Jt path s q no n) hi out;rw[<- i2]at hst;have hwr:=AY hi hal;have hi':(i:Int)<(arms.length:Int):=Lj.2 hi;have hcn:Jt path s q no n o arms[i]=if(nAt path arms[i]).2&&((nAt path arms[i]).1 == (n:Int)&&(!no.contains (n:Int)&&(!o.contains (n:Int)&&CU arms[i] s q)))then o++[(n:Int)]else o:=rfl
    rcases hna:nAt path arms[i]with⟨m,ok⟩;rw[hna]at h173 hcn;simp only at h173 hcn;have same:Jt path s q no n o arms[i]=o->∀ rest',Gk rest' w o->Gk rest' w o/\o=(arms.take (i+1)).foldl (Jt path s q no n) out/\o.length<=L+1/\(o.contains (n:Int)=false->o.length<=L):=fun h rest' hr=>⟨hr,by rw[hst,h],i3,i4⟩
    cases ok with
    | false=>
     simp only[IY,ES,if_false]at hcn;exact .inl ⟨(w,rest,o),by rw[KF];exact AM (O8 hi' ha.len) (AM (FN (AM (O9 he hpn hq1n h173) q138d)) (PA (junk:=[(82,.bool false)]) (.inr rfl) hwr)),same hcn rest i1⟩
    | true=>
     cases hmn:m == (n:Int)with
     | false=>
      rw[hmn]at hcn;simp only[IC,IY,ES,if_false]at hcn;exact .inl ⟨(w,rest,o),by rw[KF];exact AM (O8 hi' ha.len) (AM (FN (AM (O9 he hpn hq1n h173) (q138e hmn))) (PA (junk:=[(82,.bool false)]) (.inr rfl) hwr)),same hcn rest i1⟩
     | true=>
      rw[hmn]at hcn;cases hcno:no.contains (n:Int)with
      | true=>
       rw[hcno]at hcn h40n;simp only[IC,KU,IY,ES,if_false]at hcn;exact .inl ⟨(w,rest,o),by rw[KF];exact AM (O8 hi' ha.len) (AM (FN (AM (O9 he hpn hq1n h173) (q138f hmn hnon h40n))) (PA (junk:=[(82,.bool false)]) (.inr rfl) hwr)),same hcn rest i1⟩
      | false=>
       rw[hcno]at hcn h40n;cases hco:o.contains (n:Int)with
       | true=>
        rw[hco]at hcn h40o;simp only[IC,KU,Bool.not_false,IY,ES,if_false]at hcn;exact .inl ⟨(w,r1,o),by rw[KF];exact AM (O8 hi' ha.len) (AM (FN (AM (O9 he hpn hq1n h173) (q138g hmn hnon h40n h40o))) (PA (junk:=[(82,.bool false)]) (.inr rfl) hwr)),same hcn r1 hr1⟩
       | false=>
        rw[hco]at hcn h40o;have hol:=i4 hco;cases hmy:CU arms[i] s q with
        | false=>
         rw[hmy]at hcn h134;simp only[IC,Bool.not_false,ES,if_false]at hcn;exact .inl ⟨(w,r1,o),by rw[KF];exact AM (O8 hi' ha.len) (AM (FN (AM (O9 he hpn hq1n h173) (q138h hmn hnon h40n h40o he hq1n hlv htvn n4 n5 h134))) (PA (junk:=[(82,.bool false)]) (.inr rfl) hwr)),same hcn r1 hr1⟩
        | true=>
         rw[hmy]at hcn h134;simp only[IC,Bool.not_false,if_true]at hcn;obtain⟨w',rest',hap,hacc⟩:=hr1.push (B0:=.var false [lv,.int .i64 t.k,.int .i64 t.v,.str t.nm,tv,av]) (B1:=.var false [.bool x1,.str x2,.int .i64 x3,x4,x5]) (B2:=B2) (B3:=.var false [k1,k2,k3,nov,k4]) hlt (n:Int);refine .inl ⟨(w',rest',o++[(n:Int)]),by rw[KF];exact AM (O8 hi' ha.len) (AM (FN (AM (O9 he hpn hq1n h173) (q138i hmn hnon h40n h40o he hq1n hlv htvn n4 n5 h134 hap hacc.cells))) (PA (junk:=[]) (.inl rfl) hwr)),hacc,by rw[hst,hcn],by rw[FZ];exact Nat.succ_le_succ hol,fun h => ?_⟩;simp at h) (fun b hI=>by
    obtain⟨w,rest,o⟩:=b;obtain⟨i1,i2,i3,i4⟩:=hI;rw[HL]at i2;simp only at i1 i2 i3 i4;subst i2;exact⟨_,_,by simp[f138,ha.len] <;> first | exact⟨rfl,rfl⟩ | rfl,by simp,w,rest,rfl,i1,i3⟩) (w,rest,out) ⟨hw,rfl,by show out.length<=_;omega,fun _=>hol⟩
 obtain⟨w',rest',hq,h1,h2⟩:=hq;cases hq;exact⟨w',rest',hlp,h1,h2⟩
theorem c138{k:GA}{tv av:AV}{s:Sh}{q:KV}(ht:TS l k.ty [.int .i64 k.ty.k,.int .i64 k.ty.v,.str k.ty.nm,tv] s)(hsw:ShW s){kx:List AV}(hk:B4 s q kx)(ha:SlR AR 4 k.arms av)(hal:k.arms.length<1048577)(has:∀ p∈k.arms,Sm 1048577 p)(hpe:∀ p∈k.arms,CA s p=0){path:List Nat}{pv:AV}(hp:SlR Az 1 (BX path) pv)(hpl:path.length<1048577){m:Int}{k':KV}(hy:atK path (s,q)=some (.bit m,k')) :
 ∃ w,SlR Az 1 (Ny path s q (DB k') k.arms (2 ^ m.toNat)) w/\∀ h,AI MX (AE MX) 138 [.agg [lv,.int .i64 k.ty.k,.int .i64 k.ty.v,.str k.ty.nm,tv,av],.agg kx,pv] h=some (.ret w,h):=by
 obtain⟨t',xs',kx',ht',hk',h137⟩:=c137 hl hsl hok (x:=(s,q)) hp hpl ht hsw hk hy;have hnd:=Kl hsw;obtain⟨_,hm1,hm16,b1,b2,b3,b4,rfl,hxn,q1,q2,q3,hix⟩:=TS.bit hok ht';have hix0:=hix .i64;have h67:=c67 m (by omega) (by omega);have hpw:(2:Nat) ^ m.toNat<=2 ^ 16:=OE (by decide) (by omega);obtain⟨P,hP⟩:∃ P:Nat,P=2 ^ m.toNat:=⟨_,rfl⟩;rw[<- hP]at hpw h67 ⊢;have hpw:P<=65536:=hpw;have hnq:∃ x1 x2 x3 nv pv',kx'=[.bool x1,.str x2,.int .i64 x3,nv,pv']/\SlR Az 1 (DB k') nv/\(DB k').length<1048577/\pv'.AA=true/\pv'.cells=some [pv']:=by
  cases hk' with
  | unk hn hb=>exact⟨_,_,_,_,_,rfl,hn,hb,rfl,rfl⟩
  | num=>exact⟨_,_,_,_,_,rfl,.inl ⟨rfl,rfl⟩,by simp[DB],rfl,rfl⟩
 obtain⟨y1,y2,y3,nov,y5,rfl,hno,hnl,hy5,hy5c⟩:=hnq;have hlv:=hl.AA;obtain⟨tv',he',htv⟩:=ht.rep.Ab;cases he';have htvn:=htv.AA;have hkx:=hk.AG;have hnc:=hno.cells;have hpn:=hp.AA;obtain⟨cb,hcb⟩:∃ cb,b4.cells=some cb:=⟨_,(show b4.cells=some [b4] by
  obtain⟨_,e1,h⟩:=ht'.rep.Ab;cases e1;exact h.cells)⟩
 have hcb':b4.cells=some [b4]:=by
  obtain⟨_,e1,h⟩:=ht'.rep.Ab;cases e1;exact h.cells
 obtain⟨c1,c2,c3⟩:b1.cells=some [b1]/\b2.cells=some [b2]/\b3.cells=some [b3]:=by
  obtain⟨_,e1,h⟩:=ht'.rep.Ab;cases e1;exact⟨rfl,rfl,rfl⟩
 have hn:([AV.agg [lv,.int .i64 k.ty.k,.int .i64 k.ty.v,.str k.ty.nm,tv,av],AV.agg kx,pv]:List AV).all AV.AA=true:=by simp[AV.AA,AG,hlv,htvn,ha.AA,hkx,hpn]
 obtain⟨x1,x2,x3,x4,x5,hkf,n4,n5,d4,d5⟩:=B4.form hk;obtain⟨e,st,hlp,hq⟩:=AU (M:=MX) (fid:=138) (N:=88) (C:=AE MX) (c:=AL f138 0) (n:=P)
  (fun i (b:AV×AF)=>([(2,pv),(3,.hp 0 0),(4,.hp 1 0),(7,.hp 2 0),(8,.hp 3 0),(9,b.1),(10,.int .i64 i)],.var false [lv,.int .i64 k.ty.k,.int .i64 k.ty.v,.str k.ty.nm,tv,av]::.var false kx::.var false [b1,b2,b3,b4]::.var false [.bool y1,.str y2,.int .i64 y3,nov,y5]::b.2))
  (fun i b=>Gk b.2 b.1 (Ny path s q (DB k') k.arms i)/\(Ny path s q (DB k') k.arms i).length<=i)
  (fun r=>∃ w' rest',r=(.ext 0,([(2,pv),(3,.hp 0 0),(4,.hp 1 0),(7,.hp 2 0),(8,.hp 3 0),(9,w'),(10,.int .i64 P),(31,.bool false)],.var false [lv,.int .i64 k.ty.k,.int .i64 k.ty.v,.str k.ty.nm,tv,av]::.var false kx::.var false [b1,b2,b3,b4]::.var false [.bool y1,.str y2,.int .i64 y3,nov,y5]::rest'))/\Gk rest' w' (Ny path s q (DB k') k.arms P)) (fun i b hi hI=>by
    obtain⟨w,rest⟩:=b;obtain⟨i1,i2⟩:=hI;simp only at i1 i2;obtain⟨w',rest',hin,j1,j2⟩:=in138 hl hsl hok ht hnd hk ha hal has hpe hp hno hnl (B2:=.var false [b1,b2,b3,b4]) (k1:=.bool y1) (k2:=.str y2) (k3:=.int .i64 y3) (k4:=y5) (n:=i) (L:=i) (by omega) i2 i1;have hi':=AZ hi;have hwr:=AY hi (Hh hpw (by decide));simp[f138]at hin;exact .inl ⟨(w',rest'),by simp[f138,hix0,h67,hi',hin,hwr],j1,j2⟩) (fun b hI=>by
    obtain⟨w,rest⟩:=b;exact⟨_,_,by simp[f138,hix0,h67] <;> first | exact⟨rfl,rfl⟩ | rfl,by simp,w,rest,rfl,hI.1⟩) (.AH,[]) ⟨.inl ⟨rfl,rfl⟩,CZ _⟩
 obtain⟨w,rest,hq,hout⟩:=hq;cases hq;simp[f138]at hlp;obtain⟨w',H',hsn,hrep,heq⟩:=hout.snap (B0:=.var false [lv,.int .i64 k.ty.k,.int .i64 k.ty.v,.str k.ty.nm,tv,av]) (B1:=.var false kx) (B2:=.var false [b1,b2,b3,b4]) (B3:=.var false [.bool y1,.str y2,.int .i64 y3,nov,y5]);refine⟨w',hrep,fun h=>Hu Ws Zh hn hsn (by decide) hrep.AA heq ?_ h⟩;have hac:=ha.cells;have hlc:=hl.cells;have htc:=htv.cells;subst hkf;simp[AJ,f138,h137,hnc,hy5c,hcb',c1,c2,c3,hlp]
end
theorem P4{path:List Nat}{s:Sh}{q:KV}{no:List Int}{n:Int}:∀(arms:List TyV) (out:List Int),(inN path s q no arms n out=out/\((∀ p∈arms,HI path s q no p≠some n)\/n∈out))\/(inN path s q no arms n out=out++[n]/\n ∉ out/\∃ p∈arms,HI path s q no p=some n)
 | [],out=> .inl ⟨rfl,.inl fun p hp=>by cases hp⟩
 | p::r,out=>by
  have hst:inN path s q no (p::r) n out=inN path s q no r n (Jt path s q no n out p):=rfl;have hcand:HI path s q no p=if(nAt path p).2&&(CU p s q && !no.contains (nAt path p).1)then some (nAt path p).1 else none:=rfl
  have hcn:Jt path s q no n out p=if(nAt path p).2&&((nAt path p).1 == n&&(!no.contains n&&(!out.contains n&&CU p s q)))then out++[n]else out:=rfl
  by_cases hc:HI path s q no p=some n
  .have hb:(nAt path p).2=true/\CU p s q=true/\no.contains n=false/\(nAt path p).1=n:=by
    rw[hcand]at hc;split at hc
    .rename_i h;cases hc;simp only[BU,IA]at h;exact⟨h.1,h.2.1,h.2.2,rfl⟩
    .cases hc
   obtain⟨b1,b2,b3,b4⟩:=hb;by_cases ho:n∈out
   .have hoc:out.contains n=true:=PH.2 ho;have:Jt path s q no n out p=out:=(by rw[hcn,hoc];simp);rw[hst,this];rcases P4 r out with⟨h1,_⟩ | ⟨_,h2,_⟩
    .exact .inl ⟨h1,.inr ho⟩
    .exact absurd ho h2
   .have hoc:out.contains n=false:=(by rw[Bool.eq_false_iff];exact fun h=>ho (PH.1 h));have:Jt path s q no n out p=out++[n]:=by
     rw[hcn,b1,b2,b3,hoc,b4];simp
    rw[hst,this];rcases P4 r (out++[n])with⟨h1,_⟩ | ⟨_,h2,_⟩
    .exact .inr ⟨h1,ho,p,by simp,hc⟩
    .exact absurd (by simp) h2
  .have:Jt path s q no n out p=out:=by
    rw[hcn];split
    .rename_i h;exfalso;simp only[BU,IA,beq_iff_eq]at h;obtain⟨a1,a2,a3,a4,a5⟩:=h;apply hc;rw[hcand,a1,a5,a2,a3];rfl
    .rfl
   rw[hst,this];rcases P4 r out with⟨h1,h2⟩ | ⟨h1,h2,p',hp',h3⟩
   .refine .inl ⟨h1,?_⟩;rcases h2 with h2 | h2
    .refine .inl fun p' hp' => ?_
     rcases Cd.1 hp' with rfl | hp'
     .exact hc
     .exact h2 p' hp'
    .exact .inr h2
   .exact .inr ⟨h1,h2,p',Mh _ hp',h3⟩
theorem PB{path:List Nat}{s:Sh}{q:KV}{no:List Int}{arms:List TyV}:∀ N,(Ny path s q no arms N).Pairwise (· < ·)/\∀ x,x∈Ny path s q no arms N↔x∈Fh path s q no arms/\0<=x/\x<N
 | 0=>⟨.nil,fun x=>by
  simp only[Ny,JA,false_iff];rintro⟨_,h1,h2⟩;have:(x:Int)<((0:Nat):Int):=h2;omega⟩
 | N+1=>by
  obtain⟨h1,h2⟩:=PB (path:=path) (s:=s) (q:=q) (no:=no) (arms:=arms) N;have hmem:∀ x,x∈Fh path s q no arms↔∃ p∈arms,HI path s q no p=some x:=fun x=>by rw[Fh,PL]
  have hcast:((N+1:Nat):Int)=(N:Int)+1:=by omega
  rw[Ny];rcases P4 (path:=path) (s:=s) (q:=q) (no:=no) (n:=N) arms (Ny path s q no arms N)with⟨g1,g2⟩ | ⟨g1,g2,p,g3,g4⟩
  .rw[g1];refine⟨h1,fun x => ?_⟩;rw[h2,hcast];constructor
   .rintro⟨a,b,c⟩;exact⟨a,b,by omega⟩
   .rintro⟨a,b,c⟩;refine⟨a,b,?_⟩;apply Decidable.byContradiction;intro hx;have hxN:x=N:=(by omega);rcases g2 with g2 | g2
    .obtain⟨p,hp,hc⟩:=(hmem x).1 a;exact g2 p hp (by rw[hc,hxN])
    .have:=((h2 N).1 g2).2.2;omega
  .rw[g1];refine⟨List.pairwise_append.2 ⟨h1,List.pairwise_singleton _ _,fun a ha b hb => ?_⟩,fun x => ?_⟩
   .simp at hb;subst hb;exact((h2 a).1 ha).2.2
   .rw[Ks,h2,hcast,List.mem_singleton];constructor
    .rintro(⟨a,b,c⟩ | rfl)
     .exact⟨a,b,by omega⟩
     .exact⟨(hmem _).2 ⟨p,g3,g4⟩,by omega,by omega⟩
    .rintro⟨a,b,c⟩;by_cases hx:x=N
     .exact .inr hx
     .exact .inl ⟨a,b,by omega⟩
theorem bJ(p:TyV):∀(s:Sh) (q:KV) (u:List AV) (path:List Nat) (w:Int) (k':KV),B4 s q u->ShW s->CA s p=0->CU p s q=true->atK path (s,q)=some (.bit w,k')->(nAt path p).2=true->0<=(nAt path p).1/\(nAt path p).1<=((2 ^ w.toNat:Nat):Int) - 1:=by
 induction p using TyV.ind with
 | h k v nm ps ih=>
  intro s q u path w k' hk hsw hpe hmay hat hn;have hnd:=Kl hsw;cases path with
  | nil=>
   cases hat;rw[nAt]at hn ⊢;have k3:k=3:=(by simpa[TyV.k]using hn);subst k3;show 0<=v/\v<=((2 ^ w.toNat:Nat):Int) - 1;simp only[CA]at hpe;by_cases hv:0<=v/\v<=((2 ^ w.toNat:Nat):Int) - 1
   .exact hv
   .exfalso;rw[if_neg hv]at hpe;simp at hpe;split at hpe <;> simp at hpe
  | cons i r=>
   rw[nAt]at hn ⊢;by_cases hc:(TyV.mk k v nm ps).k=2/\i<(TyV.mk k v nm ps).ps.length
   .rw[if_pos hc]at hn ⊢;have k2:k=2:=hc.1;have hi:i<ps.length:=hc.2;clear hc;subst k2;rw[atK]at hat;obtain⟨z,hz,hat⟩:=Gd.1 hat;cases q with
    | unk no=>cases s <;> cases hz
    | num n=>cases s <;> cases hz
    | con c qs=>
     obtain⟨ns,ss,j,rfl,hj,hpl,hpes⟩:=FO hpe;obtain⟨ns',ss',parts,qv,e1,e2,hci,hql,hqv⟩:=hk.dest;cases e1;have hss:ss.length=ns.length/\∀ s∈ss,∀ x∈s,ShW x:=by
      cases hsw with
      | cons _ _ h1 h2 h3 h4 h5 h6 h7=>exact⟨h1,h5⟩
     obtain⟨hm1,hm2⟩:=Im hmay;have hsl:=hss.1;have hil:=(Ae.1 hci).1;have hij:c=j:=Cy hnd.nodup hj (by omega) hm1;subst hij;have hgp:ss.getD c []=parts:=(by simp[List.getD,hci]);rw[hgp]at hpl hpes hm2;simp only[JF,hgp]at hz;have hms:i<parts.length:=(by omega);have hmq:i<qs.length:=(by omega);rw[AW (by simp;omega),D9]at hz;cases hz;obtain⟨e,he,hw⟩:=hqv.ix (i:=i) (by simp;omega);rw[D9]at hw;have hgd:(TyV.mk 2 v nm ps).ps.getD i default=ps[i]:=by
      show ps.getD i default=ps[i];simp[List.getD,AW hi]
     rw[hgd]at hn ⊢;have gp:=AW hi;have gs:=AW hms;have gq:=AW hmq;exact ih ps[i] (Ap hi) parts[i] qs[i] e r w k' hw (hss.2 _ (C2 hci) _ (Ap hms)) ((Ea hpl).1 hpes i _ _ gs gp) (H6 hm2 gp gs gq) hat hn
   .rw[if_neg hc]at hn;cases hn
theorem YX{arms:List TyV}{s:Sh}{q:KV}{u:List AV}{path:List Nat}{w:Int}{k':KV}(hk:B4 s q u)(hnd:ShW s)(hpe:∀ p∈arms,CA s p=0)(hat:atK path (s,q)=some (.bit w,k')):∀ n∈La (Fh path s q (DB k') arms),0<=n/\n<=((2 ^ w.toNat:Nat):Int) - 1:=fun n hn=>by
 rw[Ld,Fh,PL]at hn;obtain⟨p,hp,hc⟩:=hn;unfold HI at hc;split at hc
 .rename_i h;simp only[BU]at h;cases hc;exact bJ p s q u path w k' hk hnd (hpe p hp) h.2.1 hat h.1
 .cases hc
theorem YY{arms:List TyV}{s:Sh}{q:KV}{u:List AV}{path:List Nat}{w:Int}{k':KV}(hk:B4 s q u)(hnd:ShW s)(hpe:∀ p∈arms,CA s p=0)(hat:atK path (s,q)=some (.bit w,k')):Ny path s q (DB k') arms (2 ^ w.toNat)=La (Fh path s q (DB k') arms):=by
 obtain⟨h1,h2⟩:=PB (path:=path) (s:=s) (q:=q) (no:=DB k') (arms:=arms) (2 ^ w.toNat);refine YP h1 (bB _) fun x => ?_
 rw[h2,Ld];constructor
 .exact fun h=>h.1
 .intro h;have:=YX hk hnd hpe hat x (by rw[Ld];exact h);exact⟨h,this.1,by omega⟩
theorem bK(p:TyV):∀(s:Sh) (q:KV) (u:List AV) (path:List Nat),B4 s q u->ShW s->CA s p=0->CU p s q=true->Ez p q=some path->∃ y,atK path (s,q)=some y:=by
 induction p using TyV.ind with
 | h k v nm ps ih=>
  intro s q u path hk hsw hpe hmay ha;have hnd:=Kl hsw;rw[Ez]at ha;split at ha
  .split at ha
   .cases ha;exact⟨_,rfl⟩
   .cases ha
  .split at ha
   .rename_i k2;subst k2;split at ha
    .rename_i qs hqs;cases q with
     | unk no=>cases hqs
     | num n=>cases hqs
     | con i qs'=>
      cases hqs;obtain⟨ns,ss,j,rfl,hj,hpl,hpes⟩:=FO hpe;obtain⟨ns',ss',parts,qv,e1,e2,hi,hql,hqv⟩:=hk.dest;cases e1;have hss:ss.length=ns.length/\∀ s∈ss,∀ x∈s,ShW x:=by
       cases hsw with
       | cons _ _ h1 h2 h3 h4 h5 h6 h7=>exact⟨h1,h5⟩
      obtain⟨hm1,hm2⟩:=Im hmay;have hsl:=hss.1;have hil:=(Ae.1 hi).1;have hij:i=j:=Cy hnd.nodup hj (by omega) hm1;subst hij;have hgp:ss.getD i []=parts:=(by simp[List.getD,hi]);rw[hgp]at hpl hpes hm2;obtain⟨m,p',q',r,h1,h2,h3,rfl⟩:=Kj (by omega) ha;have hmp:=(Ae.1 h1).1;have hmq:=(Ae.1 h2).1;have hms:m<parts.length:=(by omega);have hsm:=AW hms;obtain⟨e,he,hw⟩:=hqv.ix (i:=m) (by simp;omega);rw[D9]at hw;have hq':qs[m]=q':=(by rw[AW hmq]at h2;exact Option.some.inj h2);obtain⟨y,hy⟩:=ih p' (C2 h1) parts[m] q' e r (hq' ▸ hw) (hss.2 _ (C2 hi) _ (Ap hms)) ((Ea hpl).1 hpes m _ _ hsm h1) (H6 hm2 h1 hsm h2) h3;refine⟨y,?_⟩;rw[D1,atK];simp only[JF,hgp];rw[AW (by simp;omega),D9,hq'];exact hy
    .cases ha;exact⟨_,rfl⟩
   .cases ha
theorem CK.fill{O:Nat->Prop}{H:AF}{B:Nat}{nv:AV}{ns:List BE}(h:CK O H B nv ns)(hOl:∀ x,O x->x<H.length){i:Nat}{v:BE}(hi:ns[i]? = some v)(hvc:v.cases=[]){c:Nat}{cs:List HQ}{cv:AV}(hc:H7 H c cs cv)(hcO:cs≠[]->¬ O c/\c≠B)(o:Int) :
 ∃ J es pv,ixA 4 nv (.int .i64 i)=some (.ep J ns.length 4 i 0)/\O J/\H[J]? = some (.arr 4 false es)/\es.length=ns.length/\es[i]? = some [.int .i64 v.arm,pv,.AH,.int .i64 v.other] /\
  CK (fun x=>O x\/(cs≠[]/\x=c)) (H.set J (.arr 4 false (es.set i [.int .i64 v.arm,pv,cv,.int .i64 o]))) B nv (ns.set i { v with cases:=cs,other:=o }):=by
 rcases h with⟨rfl,rfl⟩ | ⟨J,es,h0,h1,h2,rfl,h4,h5,cid,h6,h7,h8⟩
 .simp at hi
 .have hil:=(Ae.1 hi).1;have hJ:=hOl J h2;have hei:es[i]? = some (es[i]'(by omega)):=AW _;obtain⟨pv,cv0,k1,k2,k3⟩:=h8 i v _ hi hei;rw[k1]at hei;have hcv0:cv0=.AH:=by
   rcases k3 with⟨_,h⟩ | ⟨_,h,_⟩
   .exact h
   .exact absurd hvc h
  subst hcv0;have hcJ:cs≠[]->c≠J:=fun hne e=>(hcO hne).1 (e ▸ h2)
  refine⟨J,es,pv,by rw[EX (kd:=.i64) (hi:=hil),D1],h2,h4,h5,hei,.inr ⟨J,_,fun hh=>h0 (by simpa using hh),h1,.inl h2,by simp,ER hJ,by simp[h5],fun b=>if b=i then c else cid b,fun a b y z g1 g2 g3 g4 g5 => ?_,fun a y g1 g2 => ?_,fun a y e g1 g2 => ?_⟩⟩
  .rcases Fi g1 with⟨rfl,rfl⟩ | ⟨ha,ga⟩
   .rcases Fi g2 with⟨rfl,rfl⟩ | ⟨hb,gb⟩
    .rfl
    .have g6:c=cid b:=(by simpa[hb]using g5);exact absurd (g6 ▸ (h7 b z gb g4).2.2) (hcO g3).1
   .rcases Fi g2 with⟨rfl,rfl⟩ | ⟨hb,gb⟩
    .have g6:cid a=c:=(by simpa[ha]using g5);exact absurd (g6 ▸ (h7 a y ga g3).2.2) (hcO g4).1
    .simp only[if_neg ha,if_neg hb]at g5;exact h6 a b y z ga gb g3 g4 g5
  .rcases Fi g1 with⟨rfl,rfl⟩ | ⟨ha,ga⟩
   .simp only[if_pos rfl];exact⟨(hcO g2).2,hcJ g2,.inr ⟨g2,rfl⟩⟩
   .simp only[if_neg ha];obtain⟨a1,a2,a3⟩:=h7 a y ga g2;exact⟨a1,a2,.inl a3⟩
  .rcases Fi g1 with⟨rfl,rfl⟩ | ⟨ha,ga⟩
   .rw[ER (by omega)]at g2;cases g2;simp only[if_pos rfl];exact⟨pv,cv,rfl,k2,hc.mono fun hne=>BT (fun e=>hcJ hne e.symm)⟩
   .rw[BT (fun e=>ha e.symm)]at g2;simp only[if_neg ha];obtain⟨pv',cv2,m1,m2,m3⟩:=h8 a y e ga g2;exact⟨pv',cv2,m1,m2,m3.mono fun hc=>BT (fun e=>(h7 a y ga hc).2.1 e.symm)⟩
theorem H7.cells{H:AF}{c:Nat}{cs:List HQ}{cv:AV}(h:H7 H c cs cv):cv.cells=some [cv]:=by
 rcases h with⟨_,rfl⟩ | ⟨_,_,rfl,_⟩ <;> rfl
noncomputable def A0:Code:=f77.body.getD .skip
noncomputable def BD(n:Nat):Code:=sub A0 (List.replicate n 1++[0])
theorem PC:A0=.seq (BD 0) (.seq (BD 1) (.seq (BD 2) (.seq (BD 3) (.seq (BD 4) (.seq (BD 5) (.seq (BD 6) (.seq (BD 7) (.seq (BD 8) (.seq (BD 9) (.seq (BD 10) (.seq (BD 11) (.seq (BD 12) (.seq (BD 13) (.seq (BD 14) (.seq (BD 15) (sub A0 (List.replicate 16 1))))))))))))))))):=rfl
theorem Lh{a b c v:AV}{H H':AF}{o:Bool}(h:AO MX 77 216 (AE MX) A0 (Tm.init 0 [a,b,c],H)=some (.ret,([(6,v),(7,.bool o)],H'))):AJ MX 77 [a,b,c] H=some (.ret (.tup [v,.bool o]),H'):=by
 have hb:f77.body=some A0:=rfl;have hn:f77.ntmps=216:=rfl;have hr:f77.results = #[.tmp 6,.tmp 7]:=rfl;simp only[AJ,fn_77,hb,hn,h];simp[hr]
section
variable{a3 a4 a13 a14:Nat}{w w' w1 pv lv tv av x4 x5 cv out av2:AV}{tk tvv x3 at_ a i n len z:Int}{tn x2:Bytes}{x1:Bool}{X X' X2:AF}
theorem cq(hc:av.cells=some [av]):AO MX 77 216 (AE MX) (BD 0) (Tm.init 0 [.agg [lv,.int .i64 tk,.int .i64 tvv,.str tn,tv,av],.agg [.bool x1,.str x2,.int .i64 x3,x4,x5],w],X)=some (.nrm,([(2,w),(3,.hp X.length 0),(4,.hp (X.length+1) 0)],X++[.var false [lv,.int .i64 tk,.int .i64 tvv,.str tn,tv,av],.var false [.bool x1,.str x2,.int .i64 x3,x4,x5]])):=by
 simp[f77,BD,A0,sub,List.replicate]
theorem ek(hlen:∀ h,BI w h=some (.val (.int .i64 n) h))(hn:400<=n):AO MX 77 216 (AE MX) (BD 1) ([(2,w),(3,.hp a3 0),(4,.hp a4 0)],X)=some (.ret,([(6,.AH),(7,.bool false)],X)):=by
 simp[f77,BD,A0,sub,List.replicate,hlen,hn]
theorem en(hlen:∀ h,BI w h=some (.val (.int .i64 n) h))(hn:¬ 400<=n):AO MX 77 216 (AE MX) (BD 1) ([(2,w),(3,.hp a3 0),(4,.hp a4 0)],X)=some (.nrm,([(2,w),(3,.hp a3 0),(4,.hp a4 0),(25,.bool false)],X)):=by
 simp[f77,BD,A0,sub,List.replicate,hlen,hn]
theorem s77_2(hlen:∀ h,BI w h=some (.val (.int .i64 n) h)):AO MX 77 216 (AE MX) (BD 2) ([(2,w),(3,.hp a3 0),(4,.hp a4 0),(25,.bool false)],X)=some (.nrm,([(2,w),(3,.hp a3 0),(4,.hp a4 0),(8,.int .i64 n)],X)):=by
 simp[f77,BD,A0,sub,List.replicate,hlen]
theorem s77_3  : AO MX 77 216 (AE MX) (BD 3) ([(2,w),(3,.hp a3 0),(4,.hp a4 0),(8,.int .i64 n)],X)=some (.nrm,([(2,w),(3,.hp a3 0),(4,.hp a4 0),(8,.int .i64 n),(9,.int .i64 0)],X)):=by
 simp[f77,BD,A0,sub,List.replicate]
theorem l77_n(h3:X[a3]? = some (.var false [lv,.int .i64 tk,.int .i64 tvv,.str tn,tv,av]))(h4:X[a4]? = some (.var false [.bool x1,.str x2,.int .i64 x3,x4,x5]))(hal:∀ h,BI av h=some (.val (.int .i64 len) h))(hkd:Ca (some av)=.st)(hi:i<len){ak avv:Int}{an:Bytes}{q1:AV}(hix:ixA 4 av (.int .i64 i)=some (.ro [.int .i64 ak,.int .i64 avv,.str an,q1]))(hq1:q1.AA=true)(hlv:lv.AA=true)(htv:tv.AA=true)(n4:x4.AA=true)(n5:x5.AA=true)(h134:∀ h,AI MX (AE MX) 134 [lv,.agg [.int .i64 tk,.int .i64 tvv,.str tn,tv],.agg [.int .i64 ak,.int .i64 avv,.str an,q1],.agg [.bool x1,.str x2,.int .i64 x3,x4,x5]] h=some (.ret (.bool false),h))(hw:wr .i64 (i+1)=i+1):AO MX 77 216 (AE MX) (AL f77 0) ([(2,w),(3,.hp a3 0),(4,.hp a4 0),(8,.int .i64 n),(9,.int .i64 i)],X)=some (.nrm,([(2,w),(3,.hp a3 0),(4,.hp a4 0),(8,.int .i64 n),(9,.int .i64 (i+1))],X)):=by
 have hb5:=NT;simp[Aa,An,f77]at hb5;simp[f77,BD,A0,sub,List.replicate,h3,h4,hal,hkd,hix,h134,AG,AV.AA,hq1,hlv,htv,n4,n5,hi,hw,hb5]
theorem l77_y(h3:X[a3]? = some (.var false [lv,.int .i64 tk,.int .i64 tvv,.str tn,tv,av]))(h4:X[a4]? = some (.var false [.bool x1,.str x2,.int .i64 x3,x4,x5]))(hal:∀ h,BI av h=some (.val (.int .i64 len) h))(hkd:Ca (some av)=.st)(hi:i<len){ak avv:Int}{an:Bytes}{q1:AV}(hix:ixA 4 av (.int .i64 i)=some (.ro [.int .i64 ak,.int .i64 avv,.str an,q1]))(hq1:q1.AA=true)(hlv:lv.AA=true)(htv:tv.AA=true)(n4:x4.AA=true)(n5:x5.AA=true)(h134:∀ h,AI MX (AE MX) 134 [lv,.agg [.int .i64 tk,.int .i64 tvv,.str tn,tv],.agg [.int .i64 ak,.int .i64 avv,.str an,q1],.agg [.bool x1,.str x2,.int .i64 x3,x4,x5]] h=some (.ret (.bool true),h)):AO MX 77 216 (AE MX) (AL f77 0) ([(2,w),(3,.hp a3 0),(4,.hp a4 0),(8,.int .i64 n),(9,.int .i64 i)],X)=some (.ext 0,([(2,w),(3,.hp a3 0),(4,.hp a4 0),(8,.int .i64 n),(9,.int .i64 i),(46,.bool false)],X)):=by
 have hb5:=NT;simp[Aa,An,f77]at hb5;simp[f77,BD,A0,sub,List.replicate,h3,h4,hal,hkd,hix,h134,AG,AV.AA,hq1,hlv,htv,n4,n5,hi,hb5]
theorem l77_e(h3:X[a3]? = some (.var false [lv,.int .i64 tk,.int .i64 tvv,.str tn,tv,av]))(hal:∀ h,BI av h=some (.val (.int .i64 len) h))(hkd:Ca (some av)=.st)(hi:¬ i<len):AO MX 77 216 (AE MX) (AL f77 0) ([(2,w),(3,.hp a3 0),(4,.hp a4 0),(8,.int .i64 n),(9,.int .i64 i)],X)=some (.ext 0,([(2,w),(3,.hp a3 0),(4,.hp a4 0),(8,.int .i64 n),(9,.int .i64 i),(46,.bool false)],X)):=by
 have hb5:=NT;simp[Aa,An,f77]at hb5;simp[f77,BD,A0,sub,List.replicate,h3,hal,hkd,hi,hb5]
theorem YZ(hlp:EV MX 77 216 (AE MX) (AL f77 0) ([(2,w),(3,.hp a3 0),(4,.hp a4 0),(8,.int .i64 n),(9,.int .i64 0)],X)=some (.ext 0,([(2,w),(3,.hp a3 0),(4,.hp a4 0),(8,.int .i64 n),(9,.int .i64 i),(46,.bool false)],X))):AO MX 77 216 (AE MX) (BD 4) ([(2,w),(3,.hp a3 0),(4,.hp a4 0),(8,.int .i64 n),(9,.int .i64 0)],X)=some (.nrm,([(2,w),(3,.hp a3 0),(4,.hp a4 0),(8,.int .i64 n),(9,.int .i64 i),(46,.bool false)],X)):=by
 simp[f77]at hlp;simp[f77,BD,A0,sub,List.replicate,hlp]
theorem eo(h3:X[a3]? = some (.var false [lv,.int .i64 tk,.int .i64 tvv,.str tn,tv,av]))(hal:∀ h,BI av h=some (.val (.int .i64 len) h))(hkd:Ca (some av)=.st)(hi:i=len)(hap:apA 4 64 w (.sl 4 true [[.int .i64 (-1),.AH,.AH,.int .i64 (-1)]]) X=some (w1,X'))(hc:w1.cells=some [w1]):AO MX 77 216 (AE MX) (BD 5) ([(2,w),(3,.hp a3 0),(4,.hp a4 0),(8,.int .i64 n),(9,.int .i64 i),(46,.bool false)],X)=some (.ret,([(6,w1),(7,.bool true)],X')):=by
 simp[f77,BD,A0,sub,List.replicate,h3,hal,hkd,hi,hap,hc,bsA,Aq,AG,AV.AA]
theorem Ya(h3:X[a3]? = some (.var false [lv,.int .i64 tk,.int .i64 tvv,.str tn,tv,av]))(hal:∀ h,BI av h=some (.val (.int .i64 len) h))(hkd:Ca (some av)=.st)(hi:(i == len)=false):AO MX 77 216 (AE MX) (BD 5) ([(2,w),(3,.hp a3 0),(4,.hp a4 0),(8,.int .i64 n),(9,.int .i64 i),(46,.bool false)],X)=some (.nrm,([(2,w),(3,.hp a3 0),(4,.hp a4 0),(8,.int .i64 n),(9,.int .i64 i),(53,.bool false)],X)):=by
 simp[f77,BD,A0,sub,List.replicate,h3,hal,hkd,hi]
theorem er(h3:X[a3]? = some (.var false [lv,.int .i64 tk,.int .i64 tvv,.str tn,tv,av]))(h4:X[a4]? = some (.var false [.bool x1,.str x2,.int .i64 x3,x4,x5])){ak avv:Int}{an:Bytes}{q1:AV}(hix:ixA 4 av (.int .i64 i)=some (.ro [.int .i64 ak,.int .i64 avv,.str an,q1]))(hq1:q1.AA=true)(hlv:lv.AA=true)(htv:tv.AA=true)(n4:x4.AA=true)(n5:x5.AA=true)(h135:∀ h,AI MX (AE MX) 135 [lv,.agg [.int .i64 tk,.int .i64 tvv,.str tn,tv],.agg [.int .i64 ak,.int .i64 avv,.str an,q1],.agg [.bool x1,.str x2,.int .i64 x3,x4,x5]] h=some (.ret (.bool true),h))(hap:apA 4 64 w (.sl 4 true [[.int .i64 i,.AH,.AH,.int .i64 (-1)]]) X=some (w1,X'))(hc:w1.cells=some [w1]):AO MX 77 216 (AE MX) (BD 6) ([(2,w),(3,.hp a3 0),(4,.hp a4 0),(8,.int .i64 n),(9,.int .i64 i),(53,.bool false)],X)=some (.ret,([(6,w1),(7,.bool true)],X')):=by
 have hb9:=RH;simp[Aa,An,f77]at hb9;simp[f77,BD,A0,sub,List.replicate,h3,h4,hix,h135,AG,AV.AA,hq1,hlv,htv,n4,n5,hap,hc,bsA,Aq,hb9]
theorem et(h3:X[a3]? = some (.var false [lv,.int .i64 tk,.int .i64 tvv,.str tn,tv,av]))(h4:X[a4]? = some (.var false [.bool x1,.str x2,.int .i64 x3,x4,x5])){ak avv:Int}{an:Bytes}{q1:AV}(hix:ixA 4 av (.int .i64 i)=some (.ro [.int .i64 ak,.int .i64 avv,.str an,q1]))(hq1:q1.AA=true)(hlv:lv.AA=true)(htv:tv.AA=true)(n4:x4.AA=true)(n5:x5.AA=true)(h135:∀ h,AI MX (AE MX) 135 [lv,.agg [.int .i64 tk,.int .i64 tvv,.str tn,tv],.agg [.int .i64 ak,.int .i64 avv,.str an,q1],.agg [.bool x1,.str x2,.int .i64 x3,x4,x5]] h=some (.ret (.bool false),h)):AO MX 77 216 (AE MX) (BD 6) ([(2,w),(3,.hp a3 0),(4,.hp a4 0),(8,.int .i64 n),(9,.int .i64 i),(53,.bool false)],X)=some (.nrm,([(2,w),(3,.hp a3 0),(4,.hp a4 0),(8,.int .i64 n),(9,.int .i64 i),(68,.bool false)],X)):=by
 have hb9:=RH;simp[Aa,An,f77]at hb9;simp[f77,BD,A0,sub,List.replicate,h3,h4,hix,h135,AG,AV.AA,hq1,hlv,htv,n4,n5,hb9]
theorem s77_7(h3:X[a3]? = some (.var false [lv,.int .i64 tk,.int .i64 tvv,.str tn,tv,av]))(h4:X[a4]? = some (.var false [.bool x1,.str x2,.int .i64 x3,x4,x5])){ak avv:Int}{an:Bytes}{q1:AV}(hix:ixA 4 av (.int .i64 i)=some (.ro [.int .i64 ak,.int .i64 avv,.str an,q1]))(hq1:q1.AA=true)(n4:x4.AA=true)(n5:x5.AA=true){ob:Bool}(h136:∀ h,AI MX (AE MX) 136 [.agg [.int .i64 ak,.int .i64 avv,.str an,q1],.agg [.bool x1,.str x2,.int .i64 x3,x4,x5]] h=some (.ret (.tup [pv,.bool ob]),h)):AO MX 77 216 (AE MX) (BD 7) ([(2,w),(3,.hp a3 0),(4,.hp a4 0),(8,.int .i64 n),(9,.int .i64 i),(68,.bool false)],X)=some (.nrm,([(2,w),(3,.hp a3 0),(4,.hp a4 0),(8,.int .i64 n),(10,pv)],X)):=by
 have hb11:=Um;simp[Aa,An,f77]at hb11;simp[f77,BD,A0,sub,List.replicate,h3,h4,hix,h136,AG,AV.AA,hq1,n4,n5,hb11]
theorem s77_8(hpn:pv.AA=true)(hpc:pv.cells=some [pv])(hap:apA 4 64 w (.sl 4 true [[.int .i64 (-1),pv,.AH,.int .i64 (-1)]]) X=some (w1,X'))(hc:w1.cells=some [w1]):AO MX 77 216 (AE MX) (BD 8) ([(2,w),(3,.hp a3 0),(4,.hp a4 0),(8,.int .i64 n),(10,pv)],X)=some (.nrm,([(3,.hp a3 0),(4,.hp a4 0),(8,.int .i64 n),(10,pv),(12,w1)],X')):=by
 simp[f77,BD,A0,sub,List.replicate,hap,hc,bsA,Aq,AG,AV.AA,hpn,hpc]
theorem s77_9(h3:X[a3]? = some (.var false [lv,.int .i64 tk,.int .i64 tvv,.str tn,tv,av]))(h4:X[a4]? = some (.var false [.bool x1,.str x2,.int .i64 x3,x4,x5])){yk yv z3:Int}{yn z2:Bytes}{z1:Bool}{yp z4 z5:AV}(cy:yp.cells=some [yp])(c4:z4.cells=some [z4])(c5:z5.cells=some [z5])(h137:∀ h,AI MX (AE MX) 137 [lv,.agg [.int .i64 tk,.int .i64 tvv,.str tn,tv],.agg [.bool x1,.str x2,.int .i64 x3,x4,x5],pv] h=some (.ret (.tup [.agg [.int .i64 yk,.int .i64 yv,.str yn,yp],.agg [.bool z1,.str z2,.int .i64 z3,z4,z5]]),h)):AO MX 77 216 (AE MX) (BD 9) ([(3,.hp a3 0),(4,.hp a4 0),(8,.int .i64 n),(10,pv),(12,w1)],X)=some (.nrm,([(3,.hp a3 0),(4,.hp a4 0),(8,.int .i64 n),(10,pv),(12,w1),(13,.hp X.length 0),(14,.hp (X.length+1) 0)],(X++[.var false [.int .i64 yk,.int .i64 yv,.str yn,yp],.var false [.bool z1,.str z2,.int .i64 z3,z4,z5]]))):=by
 simp[f77,BD,A0,sub,List.replicate,h3,h4,h137,cy,c4,c5,BR,FJ]
theorem eu  : AO MX 77 216 (AE MX) (BD 10) ([(3,.hp a3 0),(4,.hp a4 0),(8,.int .i64 n),(10,pv),(12,w1),(13,.hp a13 0),(14,.hp a14 0)],X)=some (.nrm,([(3,.hp a3 0),(4,.hp a4 0),(8,.int .i64 n),(10,pv),(12,w1),(13,.hp a13 0),(14,.hp a14 0),(15,.AH)],X)):=by
 simp[f77,BD,A0,sub,List.replicate]
theorem ew  : AO MX 77 216 (AE MX) (BD 11) ([(3,.hp a3 0),(4,.hp a4 0),(8,.int .i64 n),(10,pv),(12,w1),(13,.hp a13 0),(14,.hp a14 0),(15,.AH)],X)=some (.nrm,([(3,.hp a3 0),(4,.hp a4 0),(8,.int .i64 n),(10,pv),(12,w1),(13,.hp a13 0),(14,.hp a14 0),(15,.AH),(16,.int .i64 (-1))],X)):=by
 simp[f77,BD,A0,sub,List.replicate]
theorem ey  : AO MX 77 216 (AE MX) (BD 12) ([(3,.hp a3 0),(4,.hp a4 0),(8,.int .i64 n),(10,pv),(12,w1),(13,.hp a13 0),(14,.hp a14 0),(15,.AH),(16,.int .i64 (-1))],X)=some (.nrm,([(3,.hp a3 0),(4,.hp a4 0),(8,.int .i64 n),(10,pv),(12,w1),(13,.hp a13 0),(14,.hp a14 0),(15,.AH),(16,.int .i64 (-1)),(17,.bool true)],X)):=by
 simp[f77,BD,A0,sub,List.replicate]
theorem bL  : AO MX 77 216 (AE MX) (BD 14) ([(8,.int .i64 n),(12,w1),(15,cv),(16,.int .i64 z),(17,.bool false)],X)=some (.ret,([(6,.AH),(7,.bool false)],X)):=by
 simp[f77,BD,A0,sub,List.replicate]
theorem bM  : AO MX 77 216 (AE MX) (BD 14) ([(8,.int .i64 n),(12,w1),(15,cv),(16,.int .i64 z),(17,.bool true)],X)=some (.nrm,([(8,.int .i64 n),(12,w1),(15,cv),(16,.int .i64 z),(204,.bool false)],X)):=by
 simp[f77,BD,A0,sub,List.replicate]
theorem ez{J N k:Nat}{es:List (List AV)}{pvn:AV}{arm oth:Int}(hat:ixA 4 w1 (.int .i64 n)=some (.ep J N 4 k 0))(hJ:X[J]? = some (.arr 4 false es))(hN:es.length=N)(hes:es[k]? = some [.int .i64 arm,pvn,.AH,.int .i64 oth])(hcc:cv.cells=some [cv]):AO MX 77 216 (AE MX) (BD 15) ([(8,.int .i64 n),(12,w1),(15,cv),(16,.int .i64 z),(204,.bool false)],X)=some (.nrm,([(12,w1)],X.set J (.arr 4 false (es.set k [.int .i64 arm,pvn,cv,.int .i64 z])))):=by
 have e1:(X.set J (Blk.arr 4 false (es.set k [.int .i64 arm,pvn,cv,.int .i64 oth])))[J]? = some (Blk.arr 4 false (es.set k [.int .i64 arm,pvn,cv,.int .i64 oth])):=ER (Ae.1 hJ).1;have e2:(es.set k [AV.int .i64 arm,pvn,cv,.int .i64 oth])[k]? = some [AV.int .i64 arm,pvn,cv,.int .i64 oth]:=ER (Ae.1 hes).1;simp[f77,BD,A0,sub,List.replicate,hat,hJ,hN,hes,hcc,e1,e2]
theorem e8:AO MX 77 216 (AE MX) (sub A0 (List.replicate 16 1)) ([(12,w1)],X)=some (.ret,([(6,w1),(7,.bool true)],X)):=by
 simp[f77,A0,sub,List.replicate]
end
def _root_.Go.Am.FD:Code->Code
 | .cond _ a _=>a
 | c=>c
def _root_.Go.Am.F2:Code->Code
 | .cond _ _ b=>b
 | c=>c
noncomputable def b77:Code:=FD (sub (BD 13) [1])
noncomputable def Gx:Code:=F2 (sub (BD 13) [1])
theorem UL:BD 13=.seq (sub (BD 13) [0]) (.cond (.tmp 100) b77 Gx):=rfl
theorem e9:b77=.seq (sub b77 [0]) (.seq (.seq (sub b77 [1,0,0]) (.block 2 (.loop (AL f77 1)))) (.seq (sub b77 [1,1,0]) (.seq (sub b77 [1,1,1,0]) (.cond (.tmp 150) (FD (sub b77 [1,1,1,1])) .skip)))):=rfl
theorem fA:Gx=.seq (sub Gx [0]) (.seq (sub Gx [1,0]) (.block 4 (.loop (AL f77 2)))):=rfl
section
variable{a3 a4 a13 a14 a20:Nat}{w w' w1 pv lv tv av x4 x5 cv cv' out yp z4 z5 nv lw cw mk:AV}{tk tvv x3 at_ a i n len z yk yv z3 m:Int}{tn x2 yn z2:Bytes}{x1 z1:Bool}{X X' X2:AF}
theorem cr(h13:X[a13]? = some (.var false [.int .i64 yk,.int .i64 yv,.str yn,yp]))(hyp:yp.AA=true){b:Bool}(h66:∀ h,AI MX (AE MX) 66 [.agg [.int .i64 yk,.int .i64 yv,.str yn,yp]] h=some (.ret (.bool b),h)):AO MX 77 216 (AE MX) (sub (BD 13) [0]) ([(3,.hp a3 0),(4,.hp a4 0),(8,.int .i64 n),(10,pv),(12,w1),(13,.hp a13 0),(14,.hp a14 0),(15,cv),(16,.int .i64 z),(17,.bool true)],X)=some (.nrm,([(3,.hp a3 0),(4,.hp a4 0),(8,.int .i64 n),(10,pv),(12,w1),(13,.hp a13 0),(14,.hp a14 0),(15,cv),(16,.int .i64 z),(17,.bool true),(100,.bool b)],X)):=by
 simp[f77,BD,A0,sub,FD,F2,b77,Gx,List.replicate,h13,hyp,h66,AG,AV.AA]
theorem fB(h3:X[a3]? = some (.var false [lv,.int .i64 tk,.int .i64 tvv,.str tn,tv,av]))(h13:X[a13]? = some (.var false [.int .i64 yk,.int .i64 yv,.str yn,yp]))(hyp:yp.AA=true)(hlv:lv.AA=true){b:Bool}(h68:∀ h,AI MX (AE MX) 68 [lv,.agg [.int .i64 yk,.int .i64 yv,.str yn,yp]] h=some (.ret cw,h)):AO MX 77 216 (AE MX) (sub Gx [0]) ([(3,.hp a3 0),(4,.hp a4 0),(8,.int .i64 n),(10,pv),(12,w1),(13,.hp a13 0),(14,.hp a14 0),(15,cv),(16,.int .i64 z),(17,.bool true),(100,.bool b)],X)=some (.nrm,([(3,.hp a3 0),(4,.hp a4 0),(8,.int .i64 n),(10,pv),(12,w1),(15,cv),(16,.int .i64 z),(17,.bool true),(21,cw)],X)):=by
 simp[f77,BD,A0,sub,FD,F2,b77,Gx,List.replicate,h3,h13,hyp,hlv,h68,AG,AV.AA]
theorem fC  : AO MX 77 216 (AE MX) (sub Gx [1,0]) ([(3,.hp a3 0),(4,.hp a4 0),(8,.int .i64 n),(10,pv),(12,w1),(15,cv),(16,.int .i64 z),(17,.bool true),(21,cw)],X)=some (.nrm,([(3,.hp a3 0),(4,.hp a4 0),(8,.int .i64 n),(10,pv),(12,w1),(15,cv),(16,.int .i64 z),(17,.bool true),(21,cw),(22,.int .i64 0)],X)):=by
 simp[f77,BD,A0,sub,FD,F2,b77,Gx,List.replicate]
theorem bN:AL f77 2=.seq (sub (AL f77 2) [0]) (.seq (.block 5 (.seq (sub (AL f77 2) [1,0,0,0]) (sub (AL f77 2) [1,0,0,1]))) (sub (AL f77 2) [1,1])):=rfl
theorem bO:AL f77 1=.seq (sub (AL f77 1) [0]) (.seq (.block 3 (.seq (sub (AL f77 1) [1,0,0,0]) (sub (AL f77 1) [1,0,0,1]))) (sub (AL f77 1) [1,1])):=rfl
theorem bP(hcl:∀ h,BI cw h=some (.val (.int .i64 len) h))(hi:i<len):AO MX 77 216 (AE MX) (sub (AL f77 2) [0]) ([(3,.hp a3 0),(4,.hp a4 0),(8,.int .i64 n),(10,pv),(12,w1),(15,cv),(16,.int .i64 z),(17,.bool true),(21,cw),(22,.int .i64 i)],X)=some (.nrm,([(3,.hp a3 0),(4,.hp a4 0),(8,.int .i64 n),(10,pv),(12,w1),(15,cv),(16,.int .i64 z),(17,.bool true),(21,cw),(22,.int .i64 i),(173,.bool true)],X)):=by
 simp[f77,BD,A0,sub,FD,F2,b77,Gx,List.replicate,hcl,hi]
theorem bQ(hcl:∀ h,BI cw h=some (.val (.int .i64 len) h))(hi:¬ i<len){b:Bool}:AO MX 77 216 (AE MX) (AL f77 2) ([(3,.hp a3 0),(4,.hp a4 0),(8,.int .i64 n),(10,pv),(12,w1),(15,cv),(16,.int .i64 z),(17,.bool b),(21,cw),(22,.int .i64 i)],X)=some (.ext 4,([(3,.hp a3 0),(4,.hp a4 0),(8,.int .i64 n),(10,pv),(12,w1),(15,cv),(16,.int .i64 z),(17,.bool b),(21,cw),(22,.int .i64 i),(173,.bool false)],X)):=by
 simp[f77,BD,A0,sub,FD,F2,b77,Gx,List.replicate,hcl,hi]
theorem bR(hcl:∀ h,BI cw h=some (.val (.int .i64 len) h))(hi:i<len):AO MX 77 216 (AE MX) (AL f77 2) ([(3,.hp a3 0),(4,.hp a4 0),(8,.int .i64 n),(10,pv),(12,w1),(15,cv),(16,.int .i64 z),(17,.bool false),(21,cw),(22,.int .i64 i)],X)=some (.ext 4,([(3,.hp a3 0),(4,.hp a4 0),(8,.int .i64 n),(10,pv),(12,w1),(15,cv),(16,.int .i64 z),(17,.bool false),(21,cw),(22,.int .i64 i),(173,.bool false)],X)):=by
 simp[f77,BD,A0,sub,FD,F2,b77,Gx,List.replicate,hcl,hi]
theorem bS{nm:Bytes}{fv:AV}(hcx:ixA 2 cw (.int .i64 i)=some (.ro [.str nm,fv]))(hwl:∀ h,BI w1 h=some (.val (.int .i64 m) h))(hap:apA 3 32 cv (.sl 3 true [[.str nm,.int .i64 0,.int .i64 m]]) X=some (cv',X'))(hcc:cv'.cells=some [cv']):AO MX 77 216 (AE MX) (sub (AL f77 2) [1,0,0,0]) ([(3,.hp a3 0),(4,.hp a4 0),(8,.int .i64 n),(10,pv),(12,w1),(15,cv),(16,.int .i64 z),(17,.bool true),(21,cw),(22,.int .i64 i),(173,.bool true)],X)=some (.nrm,([(3,.hp a3 0),(4,.hp a4 0),(8,.int .i64 n),(10,pv),(12,w1),(15,cv'),(16,.int .i64 z),(21,cw),(22,.int .i64 i)],X')):=by
 simp[f77,BD,A0,sub,FD,F2,b77,Gx,List.replicate,hcx,hwl,hap,hcc,bsA,Aq,AG,AV.AA]
theorem bT(h3:X[a3]? = some (.var false [lv,.int .i64 tk,.int .i64 tvv,.str tn,tv,av]))(h4:X[a4]? = some (.var false [.bool x1,.str x2,.int .i64 x3,x4,x5])){nm:Bytes}{fv:AV}(hcx:ixA 2 cw (.int .i64 i)=some (.ro [.str nm,fv]))(hfv:fv.AA=true)(hlv:lv.AA=true)(htv:tv.AA=true)(hav:av.AA=true)(n4:x4.AA=true)(n5:x5.AA=true)(hpn:pv.AA=true){m1 k1:Bool}{m2 k2:Bytes}{m3 k3:Int}{m4 m5 k4 k5:AV}(e4:m4.AA=true)(e5:m5.AA=true)(f4:k4.AA=true)(f5:k5.AA=true){b:Bool}(h141:∀ h,AI MX (AE MX) 141 [lv,.agg [.str nm,fv]] h=some (.ret (.agg [.bool m1,.str m2,.int .i64 m3,m4,m5]),h))(h139:∀ h,AI MX (AE MX) 139 [.agg [.bool x1,.str x2,.int .i64 x3,x4,x5],pv,.agg [.bool m1,.str m2,.int .i64 m3,m4,m5]] h=some (.ret (.agg [.bool k1,.str k2,.int .i64 k3,k4,k5]),h))(h77:AI MX (AE MX) 77 [.agg [lv,.int .i64 tk,.int .i64 tvv,.str tn,tv,av],.agg [.bool k1,.str k2,.int .i64 k3,k4,k5],w1] X=some (.ret (.tup [w',.bool b]),X'))(b3:a3<X.length)(b4:a4<X.length)(g3:X'[a3]? = X[a3]?)(g4:X'[a4]? = X[a4]?):AO MX 77 216 (AE MX) (sub (AL f77 2) [1,0,0,1]) ([(3,.hp a3 0),(4,.hp a4 0),(8,.int .i64 n),(10,pv),(12,w1),(15,cv),(16,.int .i64 z),(21,cw),(22,.int .i64 i)],X)=some (.nrm,([(3,.hp a3 0),(4,.hp a4 0),(8,.int .i64 n),(10,pv),(12,w'),(15,cv),(16,.int .i64 z),(17,.bool b),(21,cw),(22,.int .i64 i)],X')):=by
 have hb33:=Up;simp[Aa,An,f77]at hb33;have q3:=Cx b3 g3;have q4:=Cx b4 g4;simp[f77,BD,A0,sub,FD,F2,b77,Gx,List.replicate,h3,h4,hcx,hfv,hlv,htv,hav,n4,n5,hpn,e4,e5,f4,f5,h141,h139,h77,q3,q4,AG,AV.AA,hb33]
theorem bU(hw:wr .i64 (i+1)=i+1){b:Bool}:AO MX 77 216 (AE MX) (sub (AL f77 2) [1,1]) ([(3,.hp a3 0),(4,.hp a4 0),(8,.int .i64 n),(10,pv),(12,w1),(15,cv),(16,.int .i64 z),(17,.bool b),(21,cw),(22,.int .i64 i)],X)=some (.nrm,([(3,.hp a3 0),(4,.hp a4 0),(8,.int .i64 n),(10,pv),(12,w1),(15,cv),(16,.int .i64 z),(17,.bool b),(21,cw),(22,.int .i64 (i+1))],X)):=by
 simp[f77,BD,A0,sub,FD,F2,b77,Gx,List.replicate,hw]
theorem fD(h3:X[a3]? = some (.var false [lv,.int .i64 tk,.int .i64 tvv,.str tn,tv,av]))(h4:X[a4]? = some (.var false [.bool x1,.str x2,.int .i64 x3,x4,x5]))(hlv:lv.AA=true)(htv:tv.AA=true)(hav:av.AA=true)(n4:x4.AA=true)(n5:x5.AA=true)(hpn:pv.AA=true){bb:Bool}(h138:∀ h,AI MX (AE MX) 138 [.agg [lv,.int .i64 tk,.int .i64 tvv,.str tn,tv,av],.agg [.bool x1,.str x2,.int .i64 x3,x4,x5],pv] h=some (.ret lw,h)):AO MX 77 216 (AE MX) (sub b77 [0]) ([(3,.hp a3 0),(4,.hp a4 0),(8,.int .i64 n),(10,pv),(12,w1),(13,.hp a13 0),(14,.hp a14 0),(15,cv),(16,.int .i64 z),(17,.bool true),(100,.bool bb)],X)=some (.nrm,([(3,.hp a3 0),(4,.hp a4 0),(8,.int .i64 n),(10,pv),(12,w1),(13,.hp a13 0),(14,.hp a14 0),(15,cv),(16,.int .i64 z),(17,.bool true),(18,lw)],X)):=by
 simp[f77,BD,A0,sub,FD,F2,b77,Gx,List.replicate,h3,h4,hlv,htv,hav,n4,n5,hpn,h138,AG,AV.AA]
theorem fE  : AO MX 77 216 (AE MX) (sub b77 [1,0,0]) ([(3,.hp a3 0),(4,.hp a4 0),(8,.int .i64 n),(10,pv),(12,w1),(13,.hp a13 0),(14,.hp a14 0),(15,cv),(16,.int .i64 z),(17,.bool true),(18,lw)],X)=some (.nrm,([(3,.hp a3 0),(4,.hp a4 0),(8,.int .i64 n),(10,pv),(12,w1),(13,.hp a13 0),(14,.hp a14 0),(15,cv),(16,.int .i64 z),(17,.bool true),(18,lw),(19,.int .i64 0)],X)):=by
 simp[f77,BD,A0,sub,FD,F2,b77,Gx,List.replicate]
theorem bV(hll:∀ h,BI lw h=some (.val (.int .i64 len) h))(hi:i<len):AO MX 77 216 (AE MX) (sub (AL f77 1) [0]) ([(3,.hp a3 0),(4,.hp a4 0),(8,.int .i64 n),(10,pv),(12,w1),(13,.hp a13 0),(14,.hp a14 0),(15,cv),(16,.int .i64 z),(17,.bool true),(18,lw),(19,.int .i64 i)],X)=some (.nrm,([(3,.hp a3 0),(4,.hp a4 0),(8,.int .i64 n),(10,pv),(12,w1),(13,.hp a13 0),(14,.hp a14 0),(15,cv),(16,.int .i64 z),(17,.bool true),(18,lw),(19,.int .i64 i),(111,.bool true)],X)):=by
 simp[f77,BD,A0,sub,FD,F2,b77,Gx,List.replicate,hll,hi]
theorem bW(hll:∀ h,BI lw h=some (.val (.int .i64 len) h))(hi:¬ i<len){b:Bool}:AO MX 77 216 (AE MX) (AL f77 1) ([(3,.hp a3 0),(4,.hp a4 0),(8,.int .i64 n),(10,pv),(12,w1),(13,.hp a13 0),(14,.hp a14 0),(15,cv),(16,.int .i64 z),(17,.bool b),(18,lw),(19,.int .i64 i)],X)=some (.ext 2,([(3,.hp a3 0),(4,.hp a4 0),(8,.int .i64 n),(10,pv),(12,w1),(13,.hp a13 0),(14,.hp a14 0),(15,cv),(16,.int .i64 z),(17,.bool b),(18,lw),(19,.int .i64 i),(111,.bool false)],X)):=by
 simp[f77,BD,A0,sub,FD,F2,b77,Gx,List.replicate,hll,hi]
theorem bX(hll:∀ h,BI lw h=some (.val (.int .i64 len) h))(hi:i<len):AO MX 77 216 (AE MX) (AL f77 1) ([(3,.hp a3 0),(4,.hp a4 0),(8,.int .i64 n),(10,pv),(12,w1),(13,.hp a13 0),(14,.hp a14 0),(15,cv),(16,.int .i64 z),(17,.bool false),(18,lw),(19,.int .i64 i)],X)=some (.ext 2,([(3,.hp a3 0),(4,.hp a4 0),(8,.int .i64 n),(10,pv),(12,w1),(13,.hp a13 0),(14,.hp a14 0),(15,cv),(16,.int .i64 z),(17,.bool false),(18,lw),(19,.int .i64 i),(111,.bool false)],X)):=by
 simp[f77,BD,A0,sub,FD,F2,b77,Gx,List.replicate,hll,hi]
theorem bZ{num:Int}(hlx:ixA 1 lw (.int .i64 i)=some (.ro [.int .i64 num]))(hwl:∀ h,BI w1 h=some (.val (.int .i64 m) h))(hap:apA 3 32 cv (.sl 3 true [[.str [],.int .i64 num,.int .i64 m]]) X=some (cv',X'))(hcc:cv'.cells=some [cv']):AO MX 77 216 (AE MX) (sub (AL f77 1) [1,0,0,0]) ([(3,.hp a3 0),(4,.hp a4 0),(8,.int .i64 n),(10,pv),(12,w1),(13,.hp a13 0),(14,.hp a14 0),(15,cv),(16,.int .i64 z),(17,.bool true),(18,lw),(19,.int .i64 i),(111,.bool true)],X)=some (.nrm,([(3,.hp a3 0),(4,.hp a4 0),(8,.int .i64 n),(10,pv),(12,w1),(13,.hp a13 0),(14,.hp a14 0),(15,cv'),(16,.int .i64 z),(18,lw),(19,.int .i64 i)],X')):=by
 simp[f77,BD,A0,sub,FD,F2,b77,Gx,List.replicate,hlx,hwl,hap,hcc,bsA,Aq,AG,AV.AA]
theorem bc(h3:X[a3]? = some (.var false [lv,.int .i64 tk,.int .i64 tvv,.str tn,tv,av]))(h4:X[a4]? = some (.var false [.bool x1,.str x2,.int .i64 x3,x4,x5])){num:Int}(hlx:ixA 1 lw (.int .i64 i)=some (.ro [.int .i64 num]))(hlv:lv.AA=true)(htv:tv.AA=true)(hav:av.AA=true)(n4:x4.AA=true)(n5:x5.AA=true)(hpn:pv.AA=true){k1:Bool}{k2:Bytes}{k3:Int}{k4 k5:AV}(f4:k4.AA=true)(f5:k5.AA=true){b:Bool}(h139:∀ h,AI MX (AE MX) 139 [.agg [.bool x1,.str x2,.int .i64 x3,x4,x5],pv,.agg [.bool true,.str [],.int .i64 num,.AH,.AH]] h=some (.ret (.agg [.bool k1,.str k2,.int .i64 k3,k4,k5]),h))(h77:AI MX (AE MX) 77 [.agg [lv,.int .i64 tk,.int .i64 tvv,.str tn,tv,av],.agg [.bool k1,.str k2,.int .i64 k3,k4,k5],w1] X=some (.ret (.tup [w',.bool b]),X'))(b3:a3<X.length)(b4:a4<X.length)(g3:X'[a3]? = X[a3]?)(g4:X'[a4]? = X[a4]?):AO MX 77 216 (AE MX) (sub (AL f77 1) [1,0,0,1]) ([(3,.hp a3 0),(4,.hp a4 0),(8,.int .i64 n),(10,pv),(12,w1),(13,.hp a13 0),(14,.hp a14 0),(15,cv),(16,.int .i64 z),(18,lw),(19,.int .i64 i)],X)=some (.nrm,([(3,.hp a3 0),(4,.hp a4 0),(8,.int .i64 n),(10,pv),(12,w'),(13,.hp a13 0),(14,.hp a14 0),(15,cv),(16,.int .i64 z),(17,.bool b),(18,lw),(19,.int .i64 i)],X')):=by
 have hb23:=Un;simp[Aa,An,f77]at hb23;have q3:=Cx b3 g3;have q4:=Cx b4 g4;simp[f77,BD,A0,sub,FD,F2,b77,Gx,List.replicate,h3,h4,hlx,hlv,htv,hav,n4,n5,hpn,f4,f5,h139,h77,q3,q4,AG,AV.AA,hb23]
theorem bd(hw:wr .i64 (i+1)=i+1){b:Bool}:AO MX 77 216 (AE MX) (sub (AL f77 1) [1,1]) ([(3,.hp a3 0),(4,.hp a4 0),(8,.int .i64 n),(10,pv),(12,w1),(13,.hp a13 0),(14,.hp a14 0),(15,cv),(16,.int .i64 z),(17,.bool b),(18,lw),(19,.int .i64 i)],X)=some (.nrm,([(3,.hp a3 0),(4,.hp a4 0),(8,.int .i64 n),(10,pv),(12,w1),(13,.hp a13 0),(14,.hp a14 0),(15,cv),(16,.int .i64 z),(17,.bool b),(18,lw),(19,.int .i64 (i+1))],X)):=by
 simp[f77,BD,A0,sub,FD,F2,b77,Gx,List.replicate,hw]
theorem fF(h14:X[a14]? = some (.var false [.bool z1,.str z2,.int .i64 z3,z4,z5])){b:Bool}{d:AV}{X1:AF}(h101:AI MX (AE MX) 101 [z4] X=some (.ret d,X1))(hap:apA 1 8 d lw X1=some (nv,X'))(hnc:nv.cells=some [nv]):AO MX 77 216 (AE MX) (sub b77 [1,1,0]) ([(3,.hp a3 0),(4,.hp a4 0),(8,.int .i64 n),(10,pv),(12,w1),(13,.hp a13 0),(14,.hp a14 0),(15,cv),(16,.int .i64 z),(17,.bool b),(18,lw),(19,.int .i64 i),(111,.bool false)],X)=some (.nrm,([(3,.hp a3 0),(4,.hp a4 0),(8,.int .i64 n),(10,pv),(12,w1),(13,.hp a13 0),(15,cv),(16,.int .i64 z),(17,.bool b),(20,.hp X'.length 0)],(X'++[.var false [.bool false,.str [],.int .i64 0,nv,.AH]]))):=by
 simp[f77,BD,A0,sub,FD,F2,b77,Gx,List.replicate,h14,h101,hap,hnc,BR,FJ]
theorem bf  : AO MX 77 216 (AE MX) (sub b77 [1,1,1,0]) ([(3,.hp a3 0),(4,.hp a4 0),(8,.int .i64 n),(10,pv),(12,w1),(13,.hp a13 0),(15,cv),(16,.int .i64 z),(17,.bool false),(20,.hp a20 0)],X)=some (.nrm,([(3,.hp a3 0),(4,.hp a4 0),(8,.int .i64 n),(10,pv),(12,w1),(15,cv),(16,.int .i64 z),(17,.bool false),(20,.hp a20 0),(150,.bool false)],X)):=by
 simp[f77,BD,A0,sub,FD,F2,b77,Gx,List.replicate]
theorem UM(h13:X[a13]? = some (.var false [.int .i64 yk,.int .i64 yv,.str yn,yp]))(h20:X[a20]? = some (.var false [.bool false,.str [],.int .i64 0,nv,.AH]))(h140:AI MX (AE MX) 140 [.agg [.int .i64 yk,.int .i64 yv,.str yn,yp],.agg [.bool false,.str [],.int .i64 0,nv,.AH]] X=some (.ret (.int .i64 m),X')):AO MX 77 216 (AE MX) (sub b77 [1,1,1,0]) ([(3,.hp a3 0),(4,.hp a4 0),(8,.int .i64 n),(10,pv),(12,w1),(13,.hp a13 0),(15,cv),(16,.int .i64 z),(17,.bool true),(20,.hp a20 0)],X)=some (.nrm,([(3,.hp a3 0),(4,.hp a4 0),(8,.int .i64 n),(10,pv),(12,w1),(15,cv),(16,.int .i64 z),(17,.bool true),(20,.hp a20 0),(150,.bool (decide (0<m)))],X')):=by
 simp[f77,BD,A0,sub,FD,F2,b77,Gx,List.replicate,h13,h20,h140]
theorem fG(h3:X[a3]? = some (.var false [lv,.int .i64 tk,.int .i64 tvv,.str tn,tv,av]))(h4:X[a4]? = some (.var false [.bool x1,.str x2,.int .i64 x3,x4,x5]))(h20:X[a20]? = some (.var false [.bool false,.str [],.int .i64 0,nv,.AH]))(hwl:∀ h,BI w1 h=some (.val (.int .i64 m) h))(hlv:lv.AA=true)(htv:tv.AA=true)(hav:av.AA=true)(n4:x4.AA=true)(n5:x5.AA=true)(hpn:pv.AA=true){k1:Bool}{k2:Bytes}{k3:Int}{k4 k5:AV}(f4:k4.AA=true)(f5:k5.AA=true){b:Bool}{X1:AF}(h139:AI MX (AE MX) 139 [.agg [.bool x1,.str x2,.int .i64 x3,x4,x5],pv,.agg [.bool false,.str [],.int .i64 0,nv,.AH]] X=some (.ret (.agg [.bool k1,.str k2,.int .i64 k3,k4,k5]),X1))(h77:AI MX (AE MX) 77 [.agg [lv,.int .i64 tk,.int .i64 tvv,.str tn,tv,av],.agg [.bool k1,.str k2,.int .i64 k3,k4,k5],w1] X1=some (.ret (.tup [w',.bool b]),X'))(b3:a3<X.length)(b4:a4<X.length)(b20:a20<X.length)(c3:X1[a3]? = X[a3]?)(c4:X1[a4]? = X[a4]?)(c20:X1[a20]? = X[a20]?)(hxl:X1.length=X.length)(g3:X'[a3]? = X1[a3]?)(g4:X'[a4]? = X1[a4]?)(g20:X'[a20]? = X1[a20]?):AO MX 77 216 (AE MX) (FD (sub b77 [1,1,1,1])) ([(3,.hp a3 0),(4,.hp a4 0),(8,.int .i64 n),(10,pv),(12,w1),(15,cv),(16,.int .i64 z),(17,.bool true),(20,.hp a20 0),(150,.bool true)],X)=some (.nrm,([(8,.int .i64 n),(12,w'),(15,cv),(16,.int .i64 m),(17,.bool b)],X')):=by
 have hb27:=Uo;simp[Aa,An,f77]at hb27;have q3:=Cx b3 c3;have q4:=Cx b4 c4;have q20:=Cx b20 c20;have r3:=Cx (show a3<X1.length by rw[hxl];exact b3) g3;have r4:=Cx (show a4<X1.length by rw[hxl];exact b4) g4;have r20:=Cx (show a20<X1.length by rw[hxl];exact b20) g20;cases hnv:nv.AA <;> simp[f77,BD,A0,sub,FD,F2,b77,Gx,List.replicate,h3,h4,h20,hwl,hlv,htv,hav,n4,n5,hpn,f4,f5,h139,h77,q3,q4,q20,r3,r4,r20,hnv,AG,AV.AA,hb27]
end
def UN(lv tv av:AV)(k:GA)(s:Sh)(n:Nat):Prop:=
 ∀(q:KV) (kx:List AV) (w:AV) (O:Nat->Prop) (H:AF) (ns:List BE),B4 s q kx->Cz q+20 * n<=100000->CK O H 0 w ns->(∀ x,O x->x<H.length)->0<H.length->401<=n+ns.length ->
  ∃ H' O',Frame O H O' H'/\(∀ x,O' x->x<H'.length)/\((BK k.arms s n q ns.length=none/\AI MX (AE MX) 77 [.agg [lv,.int .i64 k.ty.k,.int .i64 k.ty.v,.str k.ty.nm,tv,av],.agg kx,w] H=some (.ret (.tup [.AH,.bool false]),H')) \/
   ∃ new w',BK k.arms s n q ns.length=some new/\AI MX (AE MX) 77 [.agg [lv,.int .i64 k.ty.k,.int .i64 k.ty.v,.str k.ty.nm,tv,av],.agg kx,w] H=some (.ret (.tup [w',.bool true]),H')/\CK O' H' 0 w' (ns++new))
def LI(rec:KV->Nat->Option (List BE))(kids:List ((Bytes×Int)×KV))(ns:List BE)(path:List Nat)(O0:Nat->Prop)(H0:AF)(i:Nat)(X:AF)(w cv:AV)(ok:Bool):Prop:=
 ∃ O,Frame O0 H0 O X/\(∀ x,O x->x<X.length)/\(ok=false->goF rec kids (ns.length+1)=none) /\
  (ok=true->∃ c cs ms,CK O X 0 w (ns++⟨-1,BX path,[],-1⟩::ms)/\H7 X c cs cv/\(cs≠[]->¬ O c/\H0.length<=c/\c<X.length)/\cs.length=i/\ns.length+1+ms.length<=400/\goF rec kids (ns.length+1)=(goF rec (kids.drop i) (ns.length+1+ms.length)).map fun x=>(cs++x.1,ms++x.2))
theorem LI.keep{rec:KV->Nat->Option (List BE)}{kids:List ((Bytes×Int)×KV)}{ns:List BE}{path:List Nat}{O0:Nat->Prop}{H0:AF}{i:Nat}{X:AF}{w cv:AV}{ok:Bool}(h:LI rec kids ns path O0 H0 i X w cv ok):H0.length<=X.length/\∀ x,x<H0.length->¬ O0 x->X[x]? = H0[x]? := by
 obtain⟨O,hf,_⟩:=h;exact⟨hf.1,fun x h1 h2=>hf.2.2.2 x h1 h2⟩
theorem LI.kid{lv tv av:AV}{k:GA}{s:Sh}{n:Nat}(hC:UN lv tv av k s n){kids:List ((Bytes×Int)×KV)}{ns:List BE}{path:List Nat}{O0:Nat->Prop}{H0:AF}(h00:0<H0.length){i:Nat}{X:AF}{w cv:AV}(h:LI (BK k.arms s n) kids ns path O0 H0 i X w cv true)(hi:i<kids.length)(hkl:kids.length<1048577)
 {kx:List AV} (hu:B4 s kids[i].2 kx) (hno:Cz kids[i].2+20 * n<=100000) (hn:401<=n+1+ns.length) :
 ∃(m:Nat) (cv':AV) (X1:AF) (w':AV) (b:Bool) (X2:AF),(∀ H,BI w H=some (.val (.int .i64 m) H))/\apA 3 32 cv (.sl 3 true [[.str kids[i].1.1,.int .i64 kids[i].1.2,.int .i64 m]]) X=some (cv',X1)/\cv'.cells=some [cv']/\X.length<=X1.length/\(∀ x,x<H0.length->¬ O0 x->X1[x]? = X[x]?) /\
  AI MX (AE MX) 77 [.agg [lv,.int .i64 k.ty.k,.int .i64 k.ty.v,.str k.ty.nm,tv,av],.agg kx,w] X1=some (.ret (.tup [w',.bool b]),X2)/\LI (BK k.arms s n) kids ns path O0 H0 (i+1) X2 w' cv' b:=by
 obtain⟨O,hf,hO,_,ht⟩:=h;obtain⟨c,cs,ms,hnod,hcas,hcc,hcl,hm4,hgo⟩:=ht rfl;have hlen:(ns++⟨-1,BX path,[],-1⟩::ms:List BE).length=ns.length+1+ms.length:=by simp;omega
 obtain⟨m,hm⟩:∃ m,m=ns.length+1+ms.length:=⟨_,rfl⟩;rw[<- hm]at hlen hgo;obtain⟨c',cv',X1,k1,k2,k3,k4,k5⟩:=hcas.push (by omega) ⟨kids[i].1.1,kids[i].1.2,m⟩ true;have hc':¬ O c'/\H0.length<=c'/\c'<X1.length/\∀ x,x<X.length->x≠c'->X1[x]? = X[x]? := by
  rcases k5 with⟨_,e,h1,h2⟩ | ⟨h0,e,h1,h2⟩
  .subst e;exact⟨fun h=>by have:=hO _ h;omega,hf.1,h1,fun x hx _=>h2 x hx⟩
  .subst e;obtain⟨g1,g2,g3⟩:=hcc h0;exact⟨g1,g2,by omega,fun x _ hx=>h2 x hx⟩
 obtain⟨d1,d2,d3,d4⟩:=hc';have hnod1:CK O X1 0 w (ns++⟨-1,BX path,[],-1⟩::ms):=hnod.mono (fun _ h=>h) fun x hx _=>d4 x (hO x hx) (fun e=>d1 (e ▸ hx))
 have hf1:Frame O0 H0 O X1:=⟨DD hf.1 k4,hf.2.1,hf.2.2.1,fun x h1 h2=>by
  rw[d4 x (Hi h1 hf.1) (fun e=>by omega)];exact hf.2.2.2 x h1 h2⟩
 obtain⟨X2,O2,hf2,hO2,hres⟩:=hC kids[i].2 kx w O X1 _ hu hno hnod1 (fun x hx=>Hi (hO x hx) k4) (by have:=hf.1;omega) (by rw[hlen];omega);rw[hlen]at hres;have hlw:=hnod.len;rw[hlen]at hlw;have hkeep:∀ x,x<H0.length->¬ O0 x->X1[x]? = X[x]? := fun x h1 h2=>d4 x (Hi h1 hf.1) (fun e=>by omega)
 rcases hres with⟨ht0,hcall⟩ | ⟨new,w',ht0,hcall,hnod2⟩
 .refine⟨m,cv',X1,_,false,X2,hlw,k1,k3,k4,hkeep,hcall,O2,hf1.trans hf2,hO2,fun _ => ?_,fun h=>by cases h⟩;rw[hgo,Lb hi,ht0];rfl
 .have hnl:=Hf k.arms s n _ _ _ ht0;rw[EM,Fk]at hnod2;refine⟨m,cv',X1,w',true,X2,hlw,k1,k3,k4,hkeep,hcall,O2,hf1.trans hf2,hO2,(fun h=>by cases h),fun _=>⟨c',cs++[⟨kids[i].1.1,kids[i].1.2,m⟩],ms++new,hnod2,k2.mono fun _=>hf2.2.2.2 c' d3 d1,fun _=>⟨fun h => ?_,d2,Hi d3 hf2.1⟩,by simp[hcl],by simp;omega,?_⟩⟩
  .rcases hf2.2.2.1 c' h with h | h
   .exact d1 h
   .omega
  .rw[hgo,Lb hi,ht0];simp only;have e1:ns.length+1+(ms++new).length=m+new.length:=(by simp;omega);rw[e1];cases goF (BK k.arms s n) (kids.drop (i+1)) (m+new.length)with
   | none=>rfl
   | some x=>simp
def N0(base:Nat)(X:AF)(nv:AV)(no:List Int):Prop:=(no=[]/\nv=.sl 1 true [])\/∃ c lk,no≠[]/\base<=c/\nv=.hs c no.length 1 0 no.length false/\X[c]? = some (.arr 1 lk (A6 no))
theorem J2{l:List Int}{es:List (List AV)}(h1:es.length=l.length)(h2:∀(i:Nat) a e,l[i]? = some a->es[i]? = some e->Az a e):es=A6 l:=by
 apply Li (by rw[Bh,h1]);intro i a b;have hl:i<l.length:=by omega
 have:=h2 i _ _ (AW hl) (AW a);rw[this];simp[A6]
theorem bg{no l:List Int}{z lw:AV}(hz:SlR Az 1 no z)(hl:SlR Az 1 l lw)(h1:no.length<1048577)(h2:l.length<1048577)(X:AF):∃ d X1 nv X',AI MX (AE MX) 101 [z] X=some (.ret d,X1)/\apA 1 8 d lw X1=some (nv,X')/\nv.cells=some [nv]/\X.length<=X'.length/\(∀ x,x<X.length->X'[x]? = X[x]?)/\N0 X.length X' nv (no++l):=by
 obtain⟨es,p1,p2,p3⟩:=c101 hz h1 X;have hes:=J2 p1 p2;obtain⟨fs,r1,r2,r3,r4,r5⟩:=SlR.rdU hl;have hfs:=J2 r4 r5;subst hes;subst hfs;have hap:∀ d Y n,F6 d=some n->apA 1 8 d lw Y=apX 1 8 d (A6 l) n Y:=fun d Y n hd=>by
  unfold apA;rcases hl with⟨_,rfl⟩ | ⟨_,_,rfl,_⟩ <;> simp only[r1,r2,hd]
 have hfl:(A6 l).length=l.length:=Bh l;have b1:∀ a:Nat,a<1048577->(a+l.length) * 8<=17592186044416:=fun a ha=>DD (Ku (show a+l.length<=2097154 by omega) (CZ 8)) (by decide)
 have b2:∀ a:Nat,a<1048577->a+l.length<=17592186044416:=fun a ha=>DD (show a+l.length<=2097154 by omega) (by decide)
 have b1':=b1 no.length h1;have b2':=b2 no.length h1;have b10:=b1 0 (by decide);have b20:=b2 0 (by decide);rw[D1]at b10 b20;rcases p3 with⟨rfl,_,hc⟩ | ⟨hn,hne,hc⟩
 .rw[FE];cases hl0:A6 l with
  | nil=>
   have hln:l=[]:=E5 (by rw[<- hfl,hl0];rfl);subst hln;refine⟨_,_,.sl 1 true [],X,hc,by rw[hap _ _ 0 rfl,hl0];simp[apX,CC,BM,FQ,A8],rfl,CZ _,fun _ _=>rfl,.inl ⟨rfl,rfl⟩⟩
  | cons y ys=>
   have hln:l≠[]:=fun e=>by rw[e]at hl0;cases hl0
   have hyl:ys.length+1=l.length:=(by rw[<- hfl,hl0];rfl);refine⟨_,_,.hs X.length l.length 1 0 l.length false,X++[.arr 1 false (A6 l)],hc,?_,rfl,by simp,fun x hx=>BA hx,.inr ⟨X.length,false,hln,CZ _,rfl,by simp⟩⟩;rw[hap _ _ 0 rfl,hl0];have e1:CC 1 (.sl 1 true [])=true:=(by simp[CC,BM]);simp[apX,e1,FQ,A3,A8,hyl,b10,b20]
 .have hnl:(A6 no).length=no.length:=Bh no;rw[hnl]at hc;have hcat:A6 (no++l)=A6 no++A6 l:=by simp[A6]
  have hne2:no++l≠[]:=by simp[hn]
  have hget:(X++[Blk.arr 1 false (A6 no)])[X.length]? = some (.arr 1 false (A6 no)):=by simp
  have e4:List.take no.length (A6 no)=A6 no:=DC (by omega);cases hl0:A6 l with
  | nil=>
   have hln:l=[]:=E5 (by rw[<- hfl,hl0];rfl);subst hln;have c1:no.length * 8<=17592186044416:=(by simpa using b1');have c2:no.length<=17592186044416:=(by simpa using b2');refine⟨_,_,.hs X.length no.length 1 0 no.length false,X++[.arr 1 false (A6 no)],hc,by rw[hap _ _ no.length rfl,hl0];simp[apX,CC,BM,FQ,A8,c1,c2],rfl,by simp,fun x hx=>BA hx,.inr ⟨X.length,false,hne2,CZ _,by simp,by simp⟩⟩
  | cons y ys=>
   have hyl:ys.length+1=l.length:=(by rw[<- hfl,hl0];rfl);refine⟨_,_,.hs X.length (no++l).length 1 0 (no++l).length false,X++[.arr 1 false (A6 (no++l))],hc,?_,rfl,by simp,fun x hx=>BA hx,.inr ⟨X.length,false,hne2,CZ _,rfl,by simp⟩⟩;rw[hap _ _ no.length rfl,hl0,hcat,hl0];have e1:CC 1 (.hs X.length no.length 1 0 no.length false)=true:=(by simp[CC,BM]);have hyl2:l.length=ys.length+1:=hyl.symm;simp[apX,e1,FQ,A3,A8,A1,hyl,b1',b2',hget,hnl,e4,FZ]
theorem N0.args{base:Nat}{X:AF}{nv:AV}{no:List Int}(h:N0 base X nv no):∃ nv' X',SlR Az 1 no nv'/\X'.length=X.length/\(∀ x,x<base->X'[x]? = X[x]?)/\(∀(x:Nat) (cs:List AV) (b:Bool),X[x]? = some (.var b cs)->X'[x]? = some (.var b cs))/\N0 base X' nv no/\(∀ a,a.AA=true->A4 [a,.agg [.bool false,.str [],.int .i64 0,nv,.AH]] X=some ([a,.agg [.bool false,.str [],.int .i64 0,nv',.AH]],X'))/\∀ a b,a.AA=true->b.AA=true->A4 [a,b,.agg [.bool false,.str [],.int .i64 0,nv,.AH]] X=some ([a,b,.agg [.bool false,.str [],.int .i64 0,nv',.AH]],X'):=by
 rcases h with⟨rfl,rfl⟩ | ⟨c,lk,h0,hb,rfl,hc⟩
 .refine⟨.sl 1 true [],X,.inr ⟨true,[],rfl,rfl,fun i a e h=>by simp at h⟩,rfl,fun _ _=>rfl,fun _ _ _ h=>h,.inl ⟨rfl,rfl⟩,fun a ha=>by simp[A4,ha,AV.AA,AG],fun a b ha hb=>by simp[A4,ha,hb,AV.AA,AG]⟩
 .have hn:(A6 no).all AG=true:=by
   rw[D0];intro e he;obtain⟨x,_,rfl⟩:=F5.1 he;rfl
  have hcl:=(Ae.1 hc).1;have hcond:(Nat.beq (A6 no).length no.length&&Nat.beq 1 1&&Nat.ble (0+no.length) (A6 no).length&&(A6 no).all AG)=true:=by
   rw[Bh,hn];simp only[BU,Bl,Gb];exact⟨⟨⟨trivial,trivial⟩,by omega⟩,trivial⟩
  have e1:((A6 no).drop 0).take no.length=A6 no:=by rw[JB];exact DC (by rw[Bh];omega)
  have hsn:BB 1 (.hs c no.length 1 0 no.length false) X (.sl 1 false (A6 no)) (X.set c (.arr 1 true (A6 no))):=fun n=>by simp only[Am.snap,hc,hcond,e1]
  have hag:snap Ds (.agg [.bool false,.str [],.int .i64 0,.hs c no.length 1 0 no.length false,.AH]) X=some (.agg [.bool false,.str [],.int .i64 0,.sl 1 false (A6 no),.AH],X.set c (.arr 1 true (A6 no))):=(BB.agg (by simp[AG,AV.AA]) (.cons (.flat rfl _) (.cons (.flat rfl _) (.cons (.flat rfl _) (.cons hsn (.cons (.flat rfl _) (.nil _))))))).at (by decide);refine⟨.sl 1 false (A6 no),X.set c (.arr 1 true (A6 no)),.inr ⟨false,A6 no,rfl,Bh no,fun i a e ha he => ?_⟩,by simp,fun x hx=>BT (by omega),fun x cs b hx => ?_,.inr ⟨c,true,h0,hb,rfl,ER hcl⟩,fun a ha=>by simp[A4,ha,AV.AA,AG,hag],fun a b ha hb=>by simp[A4,ha,hb,AV.AA,AG,hag]⟩
  .simp only[A6,Fx,ha,E0,AN]at he;exact he.symm
  .by_cases hcx:c=x
   .subst hcx;rw[hc]at hx;cases hx
   .rw[BT hcx];exact hx
section
variable{l:List AK}{lv:AV}(hl:SlR Ac 3 l lv)(hsl:SmL 1048577 l)(hok:DOK l)
include hl hsl hok
theorem TS.made{t:TyV}{xs:List AV}{ns:List Bytes}{ss:List (List Sh)}(h:TS l t xs (.cons ns ss)):∃ w,TSC l lv xs ns ss w/\∀ i,i<ss.length->∃ fv e,(∀ kd,ixA 2 w (.int kd i)=some (.ro [.str (ns.getD i []),fv]))/\fv.AA=true/\B4 (.cons ns ss) (.con i ((ss.getD i []).map noK)) e/\∀ h,AI MX (AE MX) 141 [lv,.agg [.str (ns.getD i []),fv]] h=some (.ret (.agg e),h):=by
 have h0:=h;obtain⟨hx,hst,hv,hs⟩:=h;have hs1:=hs;cases hs with
 | cons _ _ _ hb hk hnn hll hs0 hf0=>
  obtain⟨w,hw,h68⟩:=c68 hl hsl hx hst (hok.has t hv hk hb);obtain⟨w',hw'⟩:=h0.cons hl hsl hok;have hww:w'=w:=by
   have a:=hw'.all [];rw[h68 []]at a;cases a;rfl
  subst hww;refine⟨w',hw',fun i hi => ?_⟩;have hi1:i<(AP l t).length:=by omega
  obtain⟨ce,hce,hcR⟩:=hw.ix hi1;obtain⟨e,he,hcall⟩:=UJ hl hsl hok hst hv hs1 (fun p _ s _ t xs a b c d=>c78 hl hsl hok s t xs a b c d) hi1 hcR;obtain⟨fv,rfl,hfv⟩:=hcR.dest;have hnm:ns.getD i []=(AP l t)[i].nm:=by simp[hnn,List.getD,AW hi1]
  rw[hnm];exact⟨fv,e,hce,hfv.AA,he,hcall⟩
end
section
variable{l:List AK}{lv:AV}(hl:SlR Ac 3 l lv)(hsl:SmL 1048577 l)(hok:DOK l)
variable{k:GA}{tv av:AV}{s:Sh}(ht:TS l k.ty [.int .i64 k.ty.k,.int .i64 k.ty.v,.str k.ty.nm,tv] s)(hsw:ShW s)(ha:SlR AR 4 k.arms av)(hal:k.arms.length<=20)(has:∀ p∈k.arms,Sm 1048577 p)(hpe:∀ p∈k.arms,CA s p=0)(hdp:∀ p∈k.arms,dp p<1048577)
theorem PD(hac:av.cells=some [av]){n:Nat}{q:KV}{kx:List AV}{w:AV}{O:Nat->Prop}{H:AF}{ns:List BE}(hk:B4 s q kx)(hnod:CK O H 0 w ns)(hO:∀ x,O x->x<H.length)(h4:400<=ns.length)(htr:BK k.arms s n q ns.length=none) :
 ∃ H' O',Frame O H O' H'/\(∀ x,O' x->x<H'.length)/\((BK k.arms s n q ns.length=none/\AI MX (AE MX) 77 [.agg [lv,.int .i64 k.ty.k,.int .i64 k.ty.v,.str k.ty.nm,tv,av],.agg kx,w] H=some (.ret (.tup [.AH,.bool false]),H')) \/
  ∃ new w',BK k.arms s n q ns.length=some new/\AI MX (AE MX) 77 [.agg [lv,.int .i64 k.ty.k,.int .i64 k.ty.v,.str k.ty.nm,tv,av],.agg kx,w] H=some (.ret (.tup [w',.bool true]),H')/\CK O' H' 0 w' (ns++new)):=by
 obtain⟨x1,x2,x3,x4,x5,rfl,_⟩:=hk.form;refine⟨_,O,Frame.app O H [.var false [lv,.int .i64 k.ty.k,.int .i64 k.ty.v,.str k.ty.nm,tv,av],.var false [.bool x1,.str x2,.int .i64 x3,x4,x5]],fun x hx=>by have:=hO x hx;simp;omega,.inl ⟨htr,CV HW Ix (Lh (by
  rw[PC];exact AM (cq hac) (Fg (ek hnod.len (by omega)))))⟩⟩
theorem Yb{n:Nat}{q:KV}{x1:Bool}{x2:Bytes}{x3:Int}{x4 x5 w:AV}(hl:SlR Ac 3 l lv)(hsl:SmL 1048577 l)(hok:DOK l)(ht:TS l k.ty [.int .i64 k.ty.k,.int .i64 k.ty.v,.str k.ty.nm,tv] s)(hsw:ShW s)(ha:SlR AR 4 k.arms av)(hal:k.arms.length<=20)(has:∀ p∈k.arms,Sm 1048577 p)(hpe:∀ p∈k.arms,CA s p=0)
 (hk:B4 s q [.bool x1,.str x2,.int .i64 x3,x4,x5]) {X:AF} {a3 a4:Nat} {z:Int} (h3:X[a3]? = some (.var false [lv,.int .i64 k.ty.k,.int .i64 k.ty.v,.str k.ty.nm,tv,av])) (h4:X[a4]? = some (.var false [.bool x1,.str x2,.int .i64 x3,x4,x5])) :
 ∃ a:Nat,EV MX 77 216 (AE MX) (AL f77 0) ([(2,w),(3,.hp a3 0),(4,.hp a4 0),(8,.int .i64 z),(9,.int .i64 0)],X)=some (.ext 0,([(2,w),(3,.hp a3 0),(4,.hp a4 0),(8,.int .i64 z),(9,.int .i64 a),(46,.bool false)],X))/\((a=k.arms.length/\k.arms.findIdx? (fun p=>CU p s q)=none)\/k.arms.findIdx? (fun p=>CU p s q)=some a):=by
 have hnd:=Kl hsw;obtain⟨tv',he',htv⟩:=ht.rep.Ab;cases he';obtain⟨_,_,_,_,_,he2,n4,n5,_,_⟩:=hk.form;cases he2;have hkd:=ha.Ca;obtain⟨e,st,hlp,hq⟩:=AU (M:=MX) (fid:=77) (N:=216) (C:=AE MX) (c:=AL f77 0) (n:=k.arms.length)
  (fun i (_:Unit)=>([(2,w),(3,.hp a3 0),(4,.hp a4 0),(8,.int .i64 z),(9,.int .i64 i)],X))
  (fun i _=>∀ j (hj:j<k.arms.length),j<i->(fun p=>CU p s q) k.arms[j]=false)
  (fun r=>∃ a:Nat,r=(.ext 0,([(2,w),(3,.hp a3 0),(4,.hp a4 0),(8,.int .i64 z),(9,.int .i64 a),(46,.bool false)],X))/\((a=k.arms.length/\k.arms.findIdx? (fun p=>CU p s q)=none)\/k.arms.findIdx? (fun p=>CU p s q)=some a)) (fun i b hi hI=>by
    obtain⟨e,he,hR⟩:=ha.ix hi;have hmem:=Ap hi;have h134:=c134 hl hsl hok k.arms[i] s q _ _ e _ ht hnd hk hR (has _ hmem) (hpe _ hmem);obtain⟨q1,rfl,hq1⟩:=hR.Ab;have hwr:=AY hi (Hh hal (by decide));have hi':(i:Int)<(k.arms.length:Int):=Lj.2 hi;cases hm:CU k.arms[i] s q with
    | false=>
     rw[hm]at h134;exact .inl ⟨(),l77_n h3 h4 ha.len hkd hi' (he .i64) hq1.AA hl.AA htv.AA n4 n5 h134 hwr,Ff (p:=fun p=>CU p s q) hi hI hm⟩
    | true=>
     rw[hm]at h134;exact .inr ⟨_,_,l77_y h3 h4 ha.len hkd hi' (he .i64) hq1.AA hl.AA htv.AA n4 n5 h134,by simp,i,rfl,.inr (Fc (p:=fun p=>CU p s q) hi hI hm)⟩) (fun b hI=>by
    exact⟨_,_,l77_e h3 ha.len hkd (by omega),by simp,k.arms.length,rfl,.inl ⟨rfl,Fe (p:=fun p=>CU p s q) fun j hj=>hI j hj hj⟩⟩) () (fun j _ h0=>by omega)
 obtain⟨a,hq,hr⟩:=hq;cases hq;exact⟨a,hlp,hr⟩
theorem Yc{n:Nat}(hC:UN lv tv av k s n){q:KV}{x1:Bool}{x2:Bytes}{x3:Int}{x4 x5:AV}(hl:SlR Ac 3 l lv)(hsl:SmL 1048577 l)(hok:DOK l)(ht:TS l k.ty [.int .i64 k.ty.k,.int .i64 k.ty.v,.str k.ty.nm,tv] s)(hsw:ShW s)(ha:SlR AR 4 k.arms av)
 (hk:B4 s q [.bool x1,.str x2,.int .i64 x3,x4,x5]) {path:List Nat} {pv:AV} (hp:SlR Az 1 (BX path) pv) (hpl:path.length<1048577) {nms:List Bytes} {ss:List (List Sh)} {ky:KV} (hy:atK path (s,q)=some (.cons nms ss,ky)) {cw:AV} {txs:List AV} (hcw:TSC l lv txs nms ss cw)
 (hmd:∀ i,i<ss.length->∃ fv e,(∀ kd,ixA 2 cw (.int kd i)=some (.ro [.str (nms.getD i []),fv]))/\fv.AA=true/\B4 (.cons nms ss) (.con i ((ss.getD i []).map noK)) e/\∀ h,AI MX (AE MX) 141 [lv,.agg [.str (nms.getD i []),fv]] h=some (.ret (.agg e),h))
 {ns:List BE} (hno:Cz q+20 * (n+1)<=100000) (hn:401<=n+1+ns.length) {O0:Nat->Prop} {H0:AF} (h00:0<H0.length) {a3 a4:Nat} (b3:a3<H0.length) (b4:a4<H0.length) (o3:¬ O0 a3) (o4:¬ O0 a4)
 (h3:H0[a3]? = some (.var false [lv,.int .i64 k.ty.k,.int .i64 k.ty.v,.str k.ty.nm,tv,av])) (h4:H0[a4]? = some (.var false [.bool x1,.str x2,.int .i64 x3,x4,x5])) {w:AV} (h0:LI (BK k.arms s n) ((List.range ss.length).map (Lc nms ss path q)) ns path O0 H0 0 H0 w .AH true) :
 ∃(i:Nat) (w' cv':AV) (ok:Bool) (X:AF),EV MX 77 216 (AE MX) (AL f77 2) ([(3,.hp a3 0),(4,.hp a4 0),(8,.int .i64 ns.length),(10,pv),(12,w),(15,.AH),(16,.int .i64 (-1)),(17,.bool true),(21,cw),(22,.int .i64 (0:Nat))],H0)=some (.ext 4,([(3,.hp a3 0),(4,.hp a4 0),(8,.int .i64 ns.length),(10,pv),(12,w'),(15,cv'),(16,.int .i64 (-1)),(17,.bool ok),(21,cw),(22,.int .i64 i),(173,.bool false)],X)) /\
  LI (BK k.arms s n) ((List.range ss.length).map (Lc nms ss path q)) ns path O0 H0 i X w' cv' ok/\(ok=true->i=ss.length):=by
 obtain⟨tv',he',htv⟩:=ht.rep.Ab;cases he';obtain⟨_,_,_,_,_,he2,n4,n5,_,_⟩:=hk.form;cases he2;have hsl2:=hcw.len;have hlts:=hcw.lts;have hcwl:=hcw.lenw;rw[<- hsl2]at hcwl;have hkl:((List.range ss.length).map (Lc nms ss path q)).length=ss.length:=by simp
 obtain⟨kids,hkids⟩:∃ kids,kids=(List.range ss.length).map (Lc nms ss path q):=⟨_,rfl⟩;rw[<- hkids]at h0 hkl ⊢;obtain⟨e,st,hlp,hq⟩:=AU (M:=MX) (fid:=77) (N:=216) (C:=AE MX) (c:=AL f77 2) (n:=ss.length)
  (fun i (b:AV×AV×Bool×AF)=>([(3,.hp a3 0),(4,.hp a4 0),(8,.int .i64 ns.length),(10,pv),(12,b.1),(15,b.2.1),(16,.int .i64 (-1)),(17,.bool b.2.2.1),(21,cw),(22,.int .i64 i)],b.2.2.2))
  (fun i b=>LI (BK k.arms s n) kids ns path O0 H0 i b.2.2.2 b.1 b.2.1 b.2.2.1)
  (fun r=>∃(i:Nat) (w' cv':AV) (ok:Bool) (X:AF),r=(.ext 4,([(3,.hp a3 0),(4,.hp a4 0),(8,.int .i64 ns.length),(10,pv),(12,w'),(15,cv'),(16,.int .i64 (-1)),(17,.bool ok),(21,cw),(22,.int .i64 i),(173,.bool false)],X))/\LI (BK k.arms s n) kids ns path O0 H0 i X w' cv' ok/\(ok=true->i=ss.length)) (fun i b hi hI=>by
    obtain⟨w,cv,ok,X⟩:=b;simp only at hI;have hi':(i:Int)<(ss.length:Int):=Lj.2 hi;cases ok with
    | false=>exact .inr ⟨_,_,bR hcwl hi',by simp,i,w,cv,false,X,rfl,hI,fun h=>by cases h⟩
    | true=>
     have hik:i<kids.length:=(by omega);have hki:kids[i]=Lc nms ss path q i:=(by simp[hkids]);obtain⟨fv,mk,hcx,hfv,hmk,h141⟩:=hmd i hi;obtain⟨rx,hrx,h139⟩:=YW (y:=(.cons nms ss,ky)) hmk path (s,q) _ pv hk hp hpl hsw hy;have hnm:=GH (own:=.con i ((ss.getD i []).map noK)) (path:=path) (k:=q);rw[O5]at hnm;obtain⟨m,cv',X1,w',b,X2,g1,g2,g3,g4,g5,g6,g7⟩:=hI.kid hC h00 hik (by omega) (kx:=rx) (by rw[hki];exact hrx) (by rw[hki];show Cz (F1 path q _)+_<=_;omega) hn;rw[hki]at g2;obtain⟨kp1,kp2⟩:=hI.keep;obtain⟨kq1,kq2⟩:=g7.keep;have e3:X1[a3]? = some (.var false [lv,.int .i64 k.ty.k,.int .i64 k.ty.v,.str k.ty.nm,tv,av]):=(by rw[g5 a3 b3 o3,kp2 a3 b3 o3];exact h3);have e4:X1[a4]? = some (.var false [.bool x1,.str x2,.int .i64 x3,x4,x5]):=(by rw[g5 a4 b4 o4,kp2 a4 b4 o4];exact h4);have f3:X2[a3]? = X1[a3]? := by rw[kq2 a3 b3 o3,e3];exact h3
     have f4:X2[a4]? = X1[a4]? := by rw[kq2 a4 b4 o4,e4];exact h4
     have hX1:H0.length<=X1.length:=DD kp1 g4;obtain⟨m1,m2,m3,m4,m5,rfl,r4,r5,_,_⟩:=B4.form hmk;obtain⟨y1,y2,y3,y4,y5,rfl,u4,u5,_,_⟩:=B4.form hrx;have hwr:=AY hi (by rw[hsl2];exact hlts);exact .inl ⟨(w',cv',b,X2),by rw[bN];exact AM (bP hcwl hi') (AM (FN (AM (bS (hcx .i64) g1 g2 g3) (bT e3 e4 (hcx .i64) hfv hl.AA htv.AA ha.AA n4 n5 hp.AA r4 r5 u4 u5 h141 h139 g6 (Hi b3 hX1) (Hi b4 hX1) f3 f4))) (bU hwr)),g7⟩) (fun b hI=>by
    obtain⟨w,cv,ok,X⟩:=b;exact⟨_,_,bQ hcwl (by omega),by simp,ss.length,w,cv,ok,X,rfl,hI,fun _=>rfl⟩) (w,.AH,true,H0) h0
 obtain⟨i,w',cv',ok,X,hq,h1,h2⟩:=hq;cases hq;exact⟨i,w',cv',ok,X,hlp,h1,h2⟩
theorem Yd{n:Nat}(hC:UN lv tv av k s n){q:KV}{x1:Bool}{x2:Bytes}{x3:Int}{x4 x5:AV}(hl:SlR Ac 3 l lv)(ht:TS l k.ty [.int .i64 k.ty.k,.int .i64 k.ty.v,.str k.ty.nm,tv] s)(hsw:ShW s)(ha:SlR AR 4 k.arms av)
 (hk:B4 s q [.bool x1,.str x2,.int .i64 x3,x4,x5]) {path:List Nat} {pv:AV} (hp:SlR Az 1 (BX path) pv) (hpl:path.length<1048577) {m0:Int} {ky:KV} (hy:atK path (s,q)=some (.bit m0,ky)) {nl:List Int} {lw:AV} (hlw:SlR Az 1 nl lw) (hll:nl.length<1048577)
 {ns:List BE} (hno:Cz q+20 * (n+1)<=100000) (hn:401<=n+1+ns.length) {O0:Nat->Prop} {H0:AF} (h00:0<H0.length) {a3 a4 a13 a14:Nat} (b3:a3<H0.length) (b4:a4<H0.length) (o3:¬ O0 a3) (o4:¬ O0 a4)
 (h3:H0[a3]? = some (.var false [lv,.int .i64 k.ty.k,.int .i64 k.ty.v,.str k.ty.nm,tv,av])) (h4:H0[a4]? = some (.var false [.bool x1,.str x2,.int .i64 x3,x4,x5])) {w:AV} (h0:LI (BK k.arms s n) (nl.map (Kk path q)) ns path O0 H0 0 H0 w .AH true) :
 ∃(i:Nat) (w' cv':AV) (ok:Bool) (X:AF),EV MX 77 216 (AE MX) (AL f77 1) ([(3,.hp a3 0),(4,.hp a4 0),(8,.int .i64 ns.length),(10,pv),(12,w),(13,.hp a13 0),(14,.hp a14 0),(15,.AH),(16,.int .i64 (-1)),(17,.bool true),(18,lw),(19,.int .i64 (0:Nat))],H0)=some (.ext 2,([(3,.hp a3 0),(4,.hp a4 0),(8,.int .i64 ns.length),(10,pv),(12,w'),(13,.hp a13 0),(14,.hp a14 0),(15,cv'),(16,.int .i64 (-1)),(17,.bool ok),(18,lw),(19,.int .i64 i),(111,.bool false)],X)) /\
  LI (BK k.arms s n) (nl.map (Kk path q)) ns path O0 H0 i X w' cv' ok/\(ok=true->i=nl.length):=by
 obtain⟨tv',he',htv⟩:=ht.rep.Ab;cases he';obtain⟨_,_,_,_,_,he2,n4,n5,_,_⟩:=hk.form;cases he2;have hkl:(nl.map (Kk path q)).length=nl.length:=by simp
 obtain⟨kids,hkids⟩:∃ kids,kids=nl.map (Kk path q):=⟨_,rfl⟩;rw[<- hkids]at h0 hkl ⊢;obtain⟨e,st,hlp,hq⟩:=AU (M:=MX) (fid:=77) (N:=216) (C:=AE MX) (c:=AL f77 1) (n:=nl.length)
  (fun i (b:AV×AV×Bool×AF)=>([(3,.hp a3 0),(4,.hp a4 0),(8,.int .i64 ns.length),(10,pv),(12,b.1),(13,.hp a13 0),(14,.hp a14 0),(15,b.2.1),(16,.int .i64 (-1)),(17,.bool b.2.2.1),(18,lw),(19,.int .i64 i)],b.2.2.2))
  (fun i b=>LI (BK k.arms s n) kids ns path O0 H0 i b.2.2.2 b.1 b.2.1 b.2.2.1)
  (fun r=>∃(i:Nat) (w' cv':AV) (ok:Bool) (X:AF),r=(.ext 2,([(3,.hp a3 0),(4,.hp a4 0),(8,.int .i64 ns.length),(10,pv),(12,w'),(13,.hp a13 0),(14,.hp a14 0),(15,cv'),(16,.int .i64 (-1)),(17,.bool ok),(18,lw),(19,.int .i64 i),(111,.bool false)],X))/\LI (BK k.arms s n) kids ns path O0 H0 i X w' cv' ok/\(ok=true->i=nl.length)) (fun i b hi hI=>by
    obtain⟨w,cv,ok,X⟩:=b;simp only at hI;have hi':(i:Int)<(nl.length:Int):=Lj.2 hi;cases ok with
    | false=>exact .inr ⟨_,_,bX hlw.len hi',by simp,i,w,cv,false,X,rfl,hI,fun h=>by cases h⟩
    | true=>
     have hik:i<kids.length:=(by omega);have hki:kids[i]=Kk path q nl[i]:=(by simp[hkids]);obtain⟨e,hlx,hRe⟩:=hlw.ix hi;have hlx:=hlx .i64;have hRe':e=[.int .i64 nl[i]]:=hRe;subst hRe';obtain⟨rx,hrx,h139⟩:=YW (y:=(.bit m0,ky)) (.num (w:=m0) (m:=nl[i])) path (s,q) _ pv hk hp hpl hsw hy;have hnm:=GH (own:=.num nl[i]) (path:=path) (k:=q);have hnm0:Cz (.num nl[i])=0:=rfl;rw[hnm0]at hnm;obtain⟨m,cv',X1,w',b,X2,g1,g2,g3,g4,g5,g6,g7⟩:=hI.kid hC h00 hik (by omega) (kx:=rx) (by rw[hki];exact hrx) (by rw[hki];show Cz (F1 path q _)+_<=_;omega) hn;rw[hki]at g2;obtain⟨kp1,kp2⟩:=hI.keep;obtain⟨kq1,kq2⟩:=g7.keep;have e3:X1[a3]? = some (.var false [lv,.int .i64 k.ty.k,.int .i64 k.ty.v,.str k.ty.nm,tv,av]):=(by rw[g5 a3 b3 o3,kp2 a3 b3 o3];exact h3);have e4:X1[a4]? = some (.var false [.bool x1,.str x2,.int .i64 x3,x4,x5]):=(by rw[g5 a4 b4 o4,kp2 a4 b4 o4];exact h4);have f3:X2[a3]? = X1[a3]? := by rw[kq2 a3 b3 o3,e3];exact h3
     have f4:X2[a4]? = X1[a4]? := by rw[kq2 a4 b4 o4,e4];exact h4
     have hX1:H0.length<=X1.length:=DD kp1 g4;obtain⟨y1,y2,y3,y4,y5,rfl,u4,u5,_,_⟩:=B4.form hrx;have hwr:=AY hi hll;exact .inl ⟨(w',cv',b,X2),by rw[bO];exact AM (bV hlw.len hi') (AM (FN (AM (bZ hlx g1 g2 g3) (bc e3 e4 hlx hl.AA htv.AA ha.AA n4 n5 hp.AA u4 u5 h139 g6 (Hi b3 hX1) (Hi b4 hX1) f3 f4))) (bd hwr)),g7⟩) (fun b hI=>by
    obtain⟨w,cv,ok,X⟩:=b;exact⟨_,_,bW hlw.len (by omega),by simp,nl.length,w,cv,ok,X,rfl,hI,fun _=>rfl⟩) (w,.AH,true,H0) h0
 obtain⟨i,w',cv',ok,X,hq,h1,h2⟩:=hq;cases hq;exact⟨i,w',cv',ok,X,hlp,h1,h2⟩
end
theorem UO{a3 a4:Nat}{w cv pv cw:AV}{n z i:Int}{b:Bool}{X:AF}:AO MX 77 216 (AE MX) (BD 14) ([(3,.hp a3 0),(4,.hp a4 0),(8,.int .i64 n),(10,pv),(12,w),(15,cv),(16,.int .i64 z),(17,.bool b),(21,cw),(22,.int .i64 i),(173,.bool false)],X)=some (if b then(.nrm,([(8,.int .i64 n),(12,w),(15,cv),(16,.int .i64 z),(204,.bool false)],X))else(.ret,([(6,.AH),(7,.bool false)],X))):=by
 cases b <;> simp[f77,BD,A0,sub,List.replicate]
theorem UP{a3 a4 a20:Nat}{w cv pv:AV}{n z:Int}{b:Bool}{X:AF}:AO MX 77 216 (AE MX) (BD 14) ([(3,.hp a3 0),(4,.hp a4 0),(8,.int .i64 n),(10,pv),(12,w),(15,cv),(16,.int .i64 z),(17,.bool b),(20,.hp a20 0),(150,.bool false)],X)=some (if b then(.nrm,([(8,.int .i64 n),(12,w),(15,cv),(16,.int .i64 z),(204,.bool false)],X))else(.ret,([(6,.AH),(7,.bool false)],X))):=by
 cases b <;> simp[f77,BD,A0,sub,List.replicate]
theorem _root_.Go.Am.Ye{M:Par}{fid N:Nat}{C:CH}{c:Operand}{a b:Code}{t:Tm}{h:AF}{r:Option (Ex×St)}(hc:ev t c=some (.bool true))(h1:AO M fid N C a (t,h)=r):AO M fid N C (.cond c a b) (t,h)=r:=by
 rw[DL];simp only[hc];exact h1
theorem _root_.Go.Am.P5{M:Par}{fid N:Nat}{C:CH}{c:Operand}{a b:Code}{t:Tm}{h:AF}{r:Option (Ex×St)}(hc:ev t c=some (.bool false))(h1:AO M fid N C b (t,h)=r):AO M fid N C (.cond c a b) (t,h)=r:=by
 rw[DL];simp only[hc];exact h1
theorem _root_.Go.Am.N1{M:Par}{fid N id:Nat}{C:CH}{a:Code}{s s':St}(h:EV M fid N C a s=some (.ext id,s')):AO M fid N C (.block id (.loop a)) s=some (.nrm,s'):=by
 rw[CG,Dd,h];simp[Bl]
section
variable{l:List AK}{lv:AV}
theorem N2{ns:List BE}{path:List Nat}{O O0:Nat->Prop}{H:AF}{c:Nat}{cs:List HQ}{ms:List BE}{X:AF}{w cv:AV}(hf:Frame O H O0 X)(hOX:∀ x,O0 x->x<X.length)(hnod:CK O0 X 0 w (ns++⟨-1,BX path,[],-1⟩::ms))(hcas:H7 X c cs cv)(hcc:cs≠[]->¬ O0 c/\H.length<=c/\c<X.length/\0<c)(o:Int) :
 ∃ H' O',AO MX 77 216 (AE MX) (.seq (BD 15) (sub A0 (List.replicate 16 1))) ([(8,.int .i64 ns.length),(12,w),(15,cv),(16,.int .i64 o),(204,.bool false)],X)=some (.ret,([(6,w),(7,.bool true)],H'))/\CK O' H' 0 w (ns++⟨-1,BX path,cs,o⟩::ms)/\Frame O H O' H'/\∀ x,O' x->x<H'.length:=by
 obtain⟨J,es,pvn,k1,k2,k3,k4,k5,k6⟩:=hnod.fill hOX Sx rfl hcas (fun h=>⟨(hcc h).1,by have:=(hcc h).2.2.2;omega⟩) o;rw[Sy]at k6;have hlen:(ns++⟨-1,BX path,[],-1⟩::ms:List BE).length=es.length:=k4.symm;obtain⟨f1,f2,f3,f4⟩:=hf;refine⟨_,_,AM (ez k1 k3 k4 k5 hcas.cells) e8,k6,⟨by rw[Fy];exact f1,fun x hx=> .inl (f2 x hx),fun x hx => ?_,fun x h1 h2 => ?_⟩,fun x hx => ?_⟩
 .rcases hx with hx | ⟨h0,rfl⟩
  .exact f3 x hx
  .exact .inr (hcc h0).2.1
 .rw[BT (fun e => ?_)]
  .exact f4 x h1 h2
  .subst e;rcases f3 _ k2 with h | h
   .exact h2 h
   .omega
 .rw[Fy];rcases hx with hx | ⟨h0,rfl⟩
  .exact hOX x hx
  .exact(hcc h0).2.2.1
end
section
variable{l:List AK}{lv:AV}(hl:SlR Ac 3 l lv)(hsl:SmL 1048577 l)(hok:DOK l)
variable{k:GA}{tv av:AV}{s:Sh}(ht:TS l k.ty [.int .i64 k.ty.k,.int .i64 k.ty.v,.str k.ty.nm,tv] s)(hsw:ShW s)(ha:SlR AR 4 k.arms av)(hal:k.arms.length<=20)(has:∀ p∈k.arms,Sm 1048577 p)(hpe:∀ p∈k.arms,CA s p=0)(hdp:∀ p∈k.arms,dp p<1048577)
include hl hsl hok ht hsw ha hal has hpe hdp
theorem c77:∀ n,UN lv tv av k s n:=by
 have hac:=ha.cells;have hnd:=Kl hsw;have htn:=ht.rep.AG;intro n;induction n with
 | zero=>
  intro q kx w O H ns hk hno hnod hO h0 hn;exact PD hac hk hnod hO (by omega) rfl
 | succ n hC=>
  intro q kx w O H ns hk hno hnod hO h0 hn;by_cases h4:400<=ns.length
  .exact PD hac hk hnod hO h4 (GI h4)
  have hk0:=hk;obtain⟨x1,x2,x3,x4,x5,rfl,n4,n5,c4,c5⟩:=B4.form hk;obtain⟨tv',he',htv⟩:=ht.rep.Ab;cases he';obtain⟨H0,hH0⟩:∃ H0,H0=H++[Blk.var false [lv,.int .i64 k.ty.k,.int .i64 k.ty.v,.str k.ty.nm,tv,av],.var false [.bool x1,.str x2,.int .i64 x3,x4,x5]]:=⟨_,rfl⟩;have hl0:H0.length=H.length+2:=by rw[hH0];simp
  have g3:H0[H.length]? = some (.var false [lv,.int .i64 k.ty.k,.int .i64 k.ty.v,.str k.ty.nm,tv,av]):=by rw[hH0];simp
  have g4:H0[H.length+1]? = some (.var false [.bool x1,.str x2,.int .i64 x3,x4,x5]):=by rw[hH0];simp
  have hnod0:CK O H0 0 w ns:=hnod.mono (fun _ h=>h) fun x hx _=>by rw[hH0,BA (hO x hx)]
  have hlw:=hnod.len;have hz4:¬ (400:Int)<=(ns.length:Int):=by omega
  have push:∀(v:BE) (p:AV),SlR Az 1 v.path p->v.cases=[]->∃ w1 H1 O1,apA 4 64 w (.sl 4 true [[.int .i64 v.arm,p,.AH,.int .i64 v.other]]) H0=some (w1,H1)/\CK O1 H1 0 w1 (ns++[v])/\(∀ x,O1 x->x<H1.length)/\Frame O H O1 H1/\H0.length<=H1.length/\(∀ x,x<H0.length->¬ O x->H1[x]? = H0[x]?)/\∀ x,O1 x->O x\/H0.length<=x:=fun v p hp hc=>by
   obtain⟨w1,H1,a1,a2,a3,a4⟩:=hnod0.push (fun x hx=>by have:=hO x hx;omega) (by omega) hp hc (by omega) true;refine⟨w1,H1,_,a1,a4,fun x hx => ?_,⟨by omega,fun x hx=> .inl hx,fun x hx => ?_,fun x h1 h2 => ?_⟩,a2,fun x h1 h2=>a3 x h1 fun h=>h2 h.1,fun x hx => ?_⟩
   .rcases hx with hx | hx
    .have:=hO x hx;omega
    .exact hx.2
   .rcases hx with hx | hx
    .exact .inl hx
    .exact .inr (by omega)
   .rw[a3 x (by omega) (fun h=>h2 h.1),hH0,BA h1]
   .rcases hx with hx | hx
    .exact .inl hx
    .exact .inr hx.1
  have pre0:∀{r:Ex×St},AO MX 77 216 (AE MX) (.seq (BD 4) (.seq (BD 5) (.seq (BD 6) (.seq (BD 7) (.seq (BD 8) (.seq (BD 9) (.seq (BD 10) (.seq (BD 11) (.seq (BD 12) (.seq (BD 13) (.seq (BD 14) (.seq (BD 15) (sub A0 (List.replicate 16 1)))))))))))))) ([(2,w),(3,.hp H.length 0),(4,.hp (H.length+1) 0),(8,.int .i64 ns.length),(9,.int .i64 0)],H0)=some r->AO MX 77 216 (AE MX) A0 (Tm.init 0 [.agg [lv,.int .i64 k.ty.k,.int .i64 k.ty.v,.str k.ty.nm,tv,av],.agg [.bool x1,.str x2,.int .i64 x3,x4,x5],w],H)=some r:=fun h=>by
   rw[PC];rw[hH0]at h;exact AM (cq hac) (AM (en hlw hz4) (AM (s77_2 hlw) (AM s77_3 h)))
  obtain⟨a,hlp,hfind⟩:=Yb (n:=n) (w:=w) (z:=ns.length) hl hsl hok ht hsw ha hal has hpe hk g3 g4;rcases hfind with⟨rfl,hfi⟩ | hfi
  .obtain⟨w1,H1,O1,a1,a2,a3,a4,_⟩:=push ⟨-1,[],[],-1⟩ .AH (.inl ⟨rfl,rfl⟩) rfl;refine⟨H1,O1,a4,a3,.inr ⟨_,w1,?_,CV HW Ix (Lh (pre0 (AM (YZ hlp) (Fg (eo g3 ha.len ha.Ca rfl a1 a2.cells))))),a2⟩⟩;rw[BK,if_neg h4,hfi]
  .have hfi2:=hfi;rw[I8]at hfi2;obtain⟨hal2,hmay,_⟩:=hfi2;have hmem:=Ap hal2;have hgd:k.arms.getD a default=k.arms[a]:=(by simp[List.getD,AW hal2]);obtain⟨e,he,hR⟩:=ha.ix hal2;have he:=he .i64;have h135:=c135 hl hsl hok k.arms[a] s q _ _ e _ ht hnd hk hR (has _ hmem) (hpe _ hmem);obtain⟨ra,hra,h136⟩:=c136 k.arms[a] s q e _ hk hsw hR (has _ hmem) (hpe _ hmem) (hdp _ hmem) hmay;obtain⟨q1,rfl,hq1⟩:=hR.Ab;have hq1n:=hq1.AA;have hal':((a:Int) == (k.arms.length:Int))=false:=(by rw[beq_eq_false_iff_ne];omega);cases hs:Dt k.arms[a] s q with
   | true=>
    rw[hs]at h135;obtain⟨w1,H1,O1,a1,a2,a3,a4,_⟩:=push ⟨a,[],[],-1⟩ .AH (.inl ⟨rfl,rfl⟩) rfl;refine⟨H1,O1,a4,a3,.inr ⟨_,w1,?_,CV HW Ix (Lh (pre0 (AM (YZ hlp) (AM (Ya g3 ha.len ha.Ca hal') (Fg (er g3 g4 he hq1n hl.AA htv.AA n4 n5 h135 a1 a2.cells)))))),a2⟩⟩;rw[BK,if_neg h4,hfi];simp only;rw[if_pos (by rw[hgd];exact hs)]
   | false=>
    rw[hs]at h135;obtain⟨path,hpath⟩:∃ path,path=(Ez k.arms[a] q).getD []:=⟨_,rfl⟩;have hask:∃ pv b,ra=.tup [pv,.bool b]/\SlR Az 1 (BX path) pv/\path.length<1048577/\∃ y,atK path (s,q)=some y:=by
     obtain⟨pv,b,e1,e2,e3⟩:=hra;rw[<- hpath]at e3;cases hak:Ez k.arms[a] q with
     | none=>
      rw[hak]at hpath;have hpp:path=[]:=hpath;subst hpp;exact⟨pv,b,e1,e3,by simp,_,rfl⟩
     | some p2=>
      rw[hak]at hpath;have hpp:path=p2:=hpath;subst hpp;have:=Jp k.arms[a] q path hak;have:=hdp _ hmem;exact⟨pv,b,e1,e3,by omega,bK k.arms[a] s q _ path hk hsw (hpe _ hmem) hmay hak⟩
    obtain⟨pv,ob,rfl,hp,hpl,y,hy⟩:=hask;obtain⟨w1,H1,O1,a1,a2,a3,a4,a5,a6,a7⟩:=push ⟨-1,BX path,[],-1⟩ pv hp rfl;obtain⟨t',txs,ky',ht',hk',h137⟩:=c137 hl hsl hok (x:=(s,q)) hp hpl ht hsw hk hy;have hnm:=Ns hy;have hsw':=UI (x:=(s,q)) hsw hy;have hnode:BK k.arms s (n+1) q ns.length=GN (BK k.arms s n) path (GZ k.arms s q path) (ns.length+1):=by
     rw[Nu h4 hfi (by rw[hgd];exact hs),hgd,<- hpath]
    have htx0:=ht';obtain⟨yp,rfl,hyp⟩:=ht'.rep.Ab;obtain⟨z1,z2,z3,z4,z5,rfl,m4,m5,d4,d5⟩:=B4.form hk';obtain⟨Y0,hY0⟩:∃ Y0,Y0=H1++[Blk.var false [.int .i64 t'.k,.int .i64 t'.v,.str t'.nm,yp],.var false [.bool z1,.str z2,.int .i64 z3,z4,z5]]:=⟨_,rfl⟩;have hly:Y0.length=H1.length+2:=(by rw[hY0];simp);have o3:¬ O1 H.length:=fun h=>by
     rcases a7 _ h with h | h
     .have:=hO _ h;omega
     .omega
    have o4:¬ O1 (H.length+1):=fun h=>by
     rcases a7 _ h with h | h
     .have:=hO _ h;omega
     .omega
    have no3:¬ O H.length:=fun h=>by have:=hO _ h;omega
    have no4:¬ O (H.length+1):=fun h=>by have:=hO _ h;omega
    have e3:H1[H.length]? = some (.var false [lv,.int .i64 k.ty.k,.int .i64 k.ty.v,.str k.ty.nm,tv,av]):=(by rw[a6 _ (by omega) no3];exact g3);have e4:H1[H.length+1]? = some (.var false [.bool x1,.str x2,.int .i64 x3,x4,x5]):=(by rw[a6 _ (by omega) no4];exact g4);have y3:Y0[H.length]? = some (.var false [lv,.int .i64 k.ty.k,.int .i64 k.ty.v,.str k.ty.nm,tv,av]):=(by rw[hY0,BA (by omega)];exact e3);have y4:Y0[H.length+1]? = some (.var false [.bool x1,.str x2,.int .i64 x3,x4,x5]):=(by rw[hY0,BA (by omega)];exact e4);have y13:Y0[H1.length]? = some (.var false [.int .i64 t'.k,.int .i64 t'.v,.str t'.nm,yp]):=(by rw[hY0];simp);have y14:Y0[H1.length+1]? = some (.var false [.bool z1,.str z2,.int .i64 z3,z4,z5]):=(by rw[hY0];simp);have hfY:Frame O H O1 Y0:=(by rw[hY0];exact a4.trans (Frame.app O1 H1 _));have hnY:CK O1 Y0 0 w1 (ns++[⟨-1,BX path,[],-1⟩]):=a2.mono (fun _ h=>h) fun x hx _=>by rw[hY0,BA (a3 x hx)]
    have hOY:∀ x,O1 x->x<Y0.length:=fun x hx=>by have:=a3 x hx;omega
    have loop0:∀(kids:List ((Bytes×Int)×KV)),LI (BK k.arms s n) kids ns path O1 Y0 0 Y0 w1 .AH true:=fun kids=>
     ⟨O1,Frame.refl O1 Y0,hOY,fun h=>(by cases h),fun _=>⟨0,[],[],hnY,.inl ⟨rfl,rfl⟩,fun h=>absurd rfl h,rfl,by simp;omega,by simp[Option.map_id']⟩⟩
    have pre1:∀{r:Ex×St},AO MX 77 216 (AE MX) (.seq (BD 13) (.seq (BD 14) (.seq (BD 15) (sub A0 (List.replicate 16 1))))) ([(3,.hp H.length 0),(4,.hp (H.length+1) 0),(8,.int .i64 ns.length),(10,pv),(12,w1),(13,.hp H1.length 0),(14,.hp (H1.length+1) 0),(15,.AH),(16,.int .i64 (-1)),(17,.bool true)],Y0)=some r->AO MX 77 216 (AE MX) A0 (Tm.init 0 [.agg [lv,.int .i64 k.ty.k,.int .i64 k.ty.v,.str k.ty.nm,tv,av],.agg [.bool x1,.str x2,.int .i64 x3,x4,x5],w],H)=some r:=fun h=>by
     rw[hY0]at h;exact pre0 (AM (YZ hlp) (AM (Ya g3 ha.len ha.Ca hal') (AM (et g3 g4 he hq1n hl.AA htv.AA n4 n5 h135) (AM (s77_7 g3 g4 he hq1n n4 n5 h136) (AM (s77_8 hp.AA hp.cells a1 a2.cells) (AM (s77_9 e3 e4 hyp.cells d4 d5 h137) (AM eu (AM ew (AM ey h)))))))))
    have hHY:H.length<Y0.length:=(by omega);obtain⟨sy,ky⟩:=y;cases sy with
    | cons nms ss=>
     obtain⟨cw,hcw,hmd⟩:=htx0.made hl hsl hok;have hkids:GZ k.arms s q path=((List.range ss.length).map (Lc nms ss path q),none):=by
      unfold GZ;rw[hy];rfl
     obtain⟨i,w',cv',ok,X,hlp2,hI,hi⟩:=Yc hC hl hsl hok ht hsw ha hk hp hpl hy hcw hmd hno hn (by omega) (a3:=H.length) (a4:=H.length+1) (by omega) (by omega) o3 o4 y3 y4 (loop0 _);have pre2:∀{r:Ex×St},AO MX 77 216 (AE MX) (.seq (BD 14) (.seq (BD 15) (sub A0 (List.replicate 16 1)))) ([(3,.hp H.length 0),(4,.hp (H.length+1) 0),(8,.int .i64 ns.length),(10,pv),(12,w'),(15,cv'),(16,.int .i64 (-1)),(17,.bool ok),(21,cw),(22,.int .i64 i),(173,.bool false)],X)=some r->AO MX 77 216 (AE MX) A0 (Tm.init 0 [.agg [lv,.int .i64 k.ty.k,.int .i64 k.ty.v,.str k.ty.nm,tv,av],.agg [.bool x1,.str x2,.int .i64 x3,x4,x5],w],H)=some r:=fun h=>by
      refine pre1 (AM ?_ h);rw[UL];refine AM (cr y13 hyp.AA hcw.bit) (P5 rfl ?_);rw[fA];exact AM (fB y3 y13 hyp.AA hl.AA hcw.all) (AM fC (N1 hlp2))
     obtain⟨O2,hf2,hO2,hF,hT⟩:=hI;cases ok with
     | false=>
      have hF:=hF rfl;exact⟨X,O2,hfY.trans hf2,hO2,.inl ⟨by rw[hnode,hkids,GN,hF],CV HW Ix (Lh (pre2 (Fg UO)))⟩⟩
     | true=>
      obtain⟨c,cs,ms,t1,t2,t3,t4,t5,t6⟩:=hT rfl;have hi:=hi rfl;subst hi;have hgo:goF (BK k.arms s n) ((List.range ss.length).map (Lc nms ss path q)) (ns.length+1)=some (cs,ms):=by
       rw[t6,KI (by simp),goF];simp
      obtain⟨H',O',r1,r2,r3,r4⟩:=N2 (hfY.trans hf2) hO2 t1 t2 (fun h=>by
       obtain⟨w1,w2,w3⟩:=t3 h;exact⟨w1,by omega,w3,by omega⟩) (-1)
      refine⟨H',O',r3,r4,.inr ⟨_,w',?_,CV HW Ix (Lh (pre2 (AM UO r1))),r2⟩⟩;rw[hnode,hkids,GN,hgo];rfl
    | bit m0=>
     have hk':B4 (.bit m0) ky [.bool z1,.str z2,.int .i64 z3,z4,z5]:=hk';have hnm:Cz ky<=Cz q:=hnm;have ht':TS l t' [.int .i64 t'.k,.int .i64 t'.v,.str t'.nm,yp] (.bit m0):=htx0;obtain⟨hbit,hm1,hm16,_⟩:=TS.bit hok ht';obtain⟨lw,hlw2,h138⟩:=c138 hl hsl hok ht hsw hk ha (Hh hal (by decide)) has hpe hp hpl hy;rw[YY hk hsw hpe hy]at hlw2;obtain⟨nl,hnl⟩:∃ nl,nl=La (Fh path s q (DB ky) k.arms):=⟨_,rfl⟩;rw[<- hnl]at hlw2;have hnll:nl.length<=k.arms.length:=by
      rw[hnl];exact DD (Jq _) (PE _ _)
     have hnoq:(DB ky).length<=Cz q:=by
      cases ky with
      | unk no=>exact hnm
      | num m=>exact HN _
      | con i ps=>exact HN _
     have hz4r:SlR Az 1 (DB ky) z4:=by
      cases hk' with
      | unk hn _=>exact hn
      | num=>exact .inl ⟨rfl,rfl⟩
     have hkids:GZ k.arms s q path=(nl.map (Kk path q),if(nl.length:Int)<Gj m0 ky then some (F1 path q (.unk (DB ky++nl)))else none):=by
      unfold GZ;rw[hy,hnl];rfl
     obtain⟨i,w',cv',ok,X,hlp2,hI,hi⟩:=Yd hC hl ht hsw ha hk hp hpl hy hlw2 (by omega) hno hn (by omega) (a3:=H.length) (a4:=H.length+1) (a13:=H1.length) (a14:=H1.length+1) (by omega) (by omega) o3 o4 y3 y4 (loop0 _);obtain⟨kp1,kp2⟩:=hI.keep;have o13:¬ O1 H1.length:=fun h=>by have:=a3 _ h;omega
     have o14:¬ O1 (H1.length+1):=fun h=>by have:=a3 _ h;omega
     have f3:X[H.length]? = some (.var false [lv,.int .i64 k.ty.k,.int .i64 k.ty.v,.str k.ty.nm,tv,av]):=(by rw[kp2 _ (by omega) o3];exact y3);have f4:X[H.length+1]? = some (.var false [.bool x1,.str x2,.int .i64 x3,x4,x5]):=(by rw[kp2 _ (by omega) o4];exact y4);have f13:X[H1.length]? = some (.var false [.int .i64 t'.k,.int .i64 t'.v,.str t'.nm,yp]):=(by rw[kp2 _ (by omega) o13];exact y13);have f14:X[H1.length+1]? = some (.var false [.bool z1,.str z2,.int .i64 z3,z4,z5]):=(by rw[kp2 _ (by omega) o14];exact y14);obtain⟨d,X1,nv,X',v1,v2,v3,v4,v5,v6⟩:=bg hz4r hlw2 (by omega) (by omega) X;obtain⟨X3,hX3⟩:∃ X3,X3=X'++[Blk.var false [.bool false,.str [],.int .i64 0,nv,.AH]]:=⟨_,rfl⟩;have hl3:X3.length=X'.length+1:=(by rw[hX3];simp);have k3:∀ x,x<X.length->X3[x]? = X[x]? := fun x hx=>by rw[hX3,BA (by omega)];exact v5 x hx
     have f20:X3[X'.length]? = some (.var false [.bool false,.str [],.int .i64 0,nv,.AH]):=(by rw[hX3];simp);have v6':N0 X.length X3 nv (DB ky++nl):=by
      rcases v6 with h | ⟨c,lk,h0,h1,h2,h3⟩
      .exact .inl h
      .exact .inr ⟨c,lk,h0,h1,h2,by rw[hX3];exact Av h3 _⟩
     have pre2:∀{r:Ex×St},AO MX 77 216 (AE MX) (.seq (sub b77 [1,1,1,0]) (.cond (.tmp 150) (FD (sub b77 [1,1,1,1])) .skip)) ([(3,.hp H.length 0),(4,.hp (H.length+1) 0),(8,.int .i64 ns.length),(10,pv),(12,w'),(13,.hp H1.length 0),(15,cv'),(16,.int .i64 (-1)),(17,.bool ok),(20,.hp X'.length 0)],X3)=some r->AO MX 77 216 (AE MX) (BD 13) ([(3,.hp H.length 0),(4,.hp (H.length+1) 0),(8,.int .i64 ns.length),(10,pv),(12,w1),(13,.hp H1.length 0),(14,.hp (H1.length+1) 0),(15,.AH),(16,.int .i64 (-1)),(17,.bool true)],Y0)=some r:=fun h=>by
      rw[UL];rw[hX3]at h;refine AM (cr y13 hyp.AA hbit) (Ye rfl ?_);rw[e9];exact AM (fD y3 y4 hl.AA htv.AA ha.AA n4 n5 hp.AA h138) (AM (AM fE (N1 hlp2)) (AM (fF f14 v1 v2 v3) h))
     obtain⟨O2,hf2,hO2,hF,hT⟩:=hI;have hfX3:Frame O2 X O2 X3:=⟨by omega,fun _ h=>h,fun _ h=> .inl h,fun x hx _=>k3 x hx⟩;cases ok with
     | false=>
      have hF:=hF rfl;exact⟨X3,O2,(hfY.trans hf2).trans hfX3,fun x hx=>by have:=hO2 x hx;omega,.inl ⟨by rw[hnode,hkids,GN,hF],CV HW Ix (Lh (pre1 (AM (pre2 (AM bf (P5 rfl (C7 _ _ _ _ _)))) (Fg UP))))⟩⟩
     | true=>
      obtain⟨c,cs,ms,t1,t2,t3,t4,t5,t6⟩:=hT rfl;have hi:=hi rfl;subst hi;have hgo:goF (BK k.arms s n) (nl.map (Kk path q)) (ns.length+1)=some (cs,ms):=by
       rw[t6,KI (by simp),goF];simp
      obtain⟨nv2,X4,w1r,w2r,w3r,w4r,w5r,w6r,w7r⟩:=v6'.args;have hk20:B4 (.bit m0) (.unk (DB ky++nl)) [.bool false,.str [],.int .i64 0,nv2,.AH]:=.unk w1r (by simp;omega);have h140:AI MX (AE MX) 140 [.agg [.int .i64 t'.k,.int .i64 t'.v,.str t'.nm,yp],.agg [.bool false,.str [],.int .i64 0,nv,.AH]] X3=some (.ret (.int .i64 (Gj m0 (.unk (DB ky++nl)))),X4):=
       FA (by simp[Qo]) (w6r _ (by simp[AV.AA,AG,hyp.AA])) (by simp[AV.AA,AG,hyp.AA,w1r.AA]) (c140 hok ht' hk20 X4)
      have hleft:Gj m0 (.unk (DB ky++nl))=Gj m0 ky - nl.length:=by
       unfold Gj;show _ - ((DB ky++nl).length:Int)=_;rw[FZ];omega
      have hk4:∀ x,x<X.length->X4[x]? = X[x]? := fun x hx=>by rw[w3r x hx];exact k3 x hx
      have hfX4:Frame O2 X O2 X4:=⟨by omega,fun _ h=>h,fun _ h=> .inl h,fun x hx _=>hk4 x hx⟩;have f13':X3[H1.length]? = some (.var false [.int .i64 t'.k,.int .i64 t'.v,.str t'.nm,yp]):=(by rw[k3 _ (by omega)];exact f13);by_cases hlt:(nl.length:Int)<Gj m0 ky
      .rw[if_pos hlt]at hkids;have hdec:decide (0<Gj m0 (.unk (DB ky++nl)))=true:=(by rw[hleft];simp;omega);have hb3:=UM (a3:=H.length) (a4:=H.length+1) (n:=ns.length) (pv:=pv) (w1:=w') (cv:=cv') (z := -1) f13' f20 h140;rw[hdec]at hb3;have hnod4:CK O2 X4 0 w' (ns++⟨-1,BX path,[],-1⟩::ms):=t1.mono (fun _ h=>h) fun x hx _=>hk4 x (hO2 x hx)
       have hlw':=t1.len;have hlenN:(ns++⟨-1,BX path,[],-1⟩::ms:List BE).length=ns.length+1+ms.length:=(by simp;omega);rw[hlenN]at hlw';obtain⟨rx,hrx,h139⟩:=YW (y:=(.bit m0,ky)) hk20 path (s,q) _ pv hk hp hpl hsw hy;obtain⟨nv3,X5,w1s,w2s,w3s,w4s,w5s,w6s,w7s⟩:=w5r.args;have hk21:B4 (.bit m0) (.unk (DB ky++nl)) [.bool false,.str [],.int .i64 0,nv3,.AH]:=.unk w1s (by simp;omega);obtain⟨rx,hrx,h139⟩:=YW (y:=(.bit m0,ky)) hk21 path (s,q) _ pv hk hp hpl hsw hy;have h139':AI MX (AE MX) 139 [.agg [.bool x1,.str x2,.int .i64 x3,x4,x5],pv,.agg [.bool false,.str [],.int .i64 0,nv,.AH]] X4=some (.ret (.agg rx),X5):=
        FA (by simp[NN]) (w7s _ _ (by simp[AV.AA,AG,n4,n5]) hp.AA) (by simp[AV.AA,AG,n4,n5,hp.AA,w1s.AA]) (h139 X5)
       have hk5:∀ x,x<X.length->X5[x]? = X[x]? := fun x hx=>by rw[w3s x hx];exact hk4 x hx
       have hnod5:CK O2 X5 0 w' (ns++⟨-1,BX path,[],-1⟩::ms):=t1.mono (fun _ h=>h) fun x hx _=>hk5 x (hO2 x hx)
       have hnw:=GH (own:=.unk (DB ky++nl)) (path:=path) (k:=q);have hnu:Cz (.unk (DB ky++nl))=(DB ky).length+nl.length:=by
        show(DB ky++nl).length=_;simp
       rw[hnu]at hnw;obtain⟨X6,O6,hf6,hO6,hres⟩:=hC (F1 path q (.unk (DB ky++nl))) rx w' O2 X5 _ hrx (by omega) hnod5 (fun x hx=>by have:=hO2 x hx;omega) (by omega) (by rw[hlenN];omega);rw[hlenN]at hres;have hl5:X5.length=X3.length:=(by omega);have q20:X4[X'.length]? = some (.var false [.bool false,.str [],.int .i64 0,nv,.AH]):=w4r _ _ _ f20;have q20':X5[X'.length]? = some (.var false [.bool false,.str [],.int .i64 0,nv,.AH]):=w4s _ _ _ q20;have nO:∀ x,(x=H.length\/x=H.length+1\/x=X'.length)->¬ O2 x:=fun x hx h=>by
        rcases hf2.2.2.1 x h with h1 | h1
        .rcases hx with rfl | rfl | rfl
         .exact o3 h1
         .exact o4 h1
         .have:=hOY _ h1;omega
        .have:=hO2 x h;omega
       have hfA:Frame O2 X O6 X6:=by
        have:=Frame.trans (⟨by omega,fun _ h=>h,fun _ h=> .inl h,fun x hx _=>hk5 x hx⟩:Frame O2 X O2 X5) hf6;exact this
       have c3:X5[H.length]? = X4[H.length]? := by rw[hk5 _ (by omega),hk4 _ (by omega)]
       have c4:X5[H.length+1]? = X4[H.length+1]? := by rw[hk5 _ (by omega),hk4 _ (by omega)]
       have p3:X4[H.length]? = some (.var false [lv,.int .i64 k.ty.k,.int .i64 k.ty.v,.str k.ty.nm,tv,av]):=(by rw[hk4 _ (by omega)];exact f3);have p4:X4[H.length+1]? = some (.var false [.bool x1,.str x2,.int .i64 x3,x4,x5]):=(by rw[hk4 _ (by omega)];exact f4);have g63:=hf6.2.2.2 H.length (by omega) (nO _ (.inl rfl));have g64:=hf6.2.2.2 (H.length+1) (by omega) (nO _ (.inr (.inl rfl)));have g620:=hf6.2.2.2 X'.length (by omega) (nO _ (.inr (.inr rfl)));obtain⟨y1,y2,y3',y4',y5,rfl,u4,u5,_,_⟩:=B4.form hrx;have step:∀{b:Bool} {wr':AV},AI MX (AE MX) 77 [.agg [lv,.int .i64 k.ty.k,.int .i64 k.ty.v,.str k.ty.nm,tv,av],.agg [.bool y1,.str y2,.int .i64 y3',y4',y5],w'] X5=some (.ret (.tup [wr',.bool b]),X6)->AO MX 77 216 (AE MX) (BD 13) ([(3,.hp H.length 0),(4,.hp (H.length+1) 0),(8,.int .i64 ns.length),(10,pv),(12,w1),(13,.hp H1.length 0),(14,.hp (H1.length+1) 0),(15,.AH),(16,.int .i64 (-1)),(17,.bool true)],Y0)=some (.nrm,([(8,.int .i64 ns.length),(12,wr'),(15,cv'),(16,.int .i64 ((ns.length+1+ms.length:Nat):Int)),(17,.bool b)],X6)):=fun hcall=>
        pre2 (AM hb3 (Ye rfl (fG p3 p4 q20 hlw' hl.AA htv.AA ha.AA n4 n5 hp.AA u4 u5 h139' hcall (by omega) (by omega) (by omega) c3 c4 (by rw[q20,q20']) (by omega) g63 g64 g620)))
       rcases hres with⟨ht0,hcall⟩ | ⟨new,w6,ht0,hcall,hnod6⟩
       .refine⟨X6,O6,(hfY.trans hf2).trans hfA,hO6,.inl ⟨?_,CV HW Ix (Lh (pre1 (AM (step hcall) (Fg bL))))⟩⟩;rw[hnode,hkids,GN,hgo];simp only[N9];rw[ht0]
       .rw[EM,Fk]at hnod6;have hcas6:H7 X6 c cs cv':=t2.mono fun hne=>by
         obtain⟨w1,w2,w3⟩:=t3 hne;rw[hf6.2.2.2 c (by omega) w1,hk5 c w3]
        obtain⟨H',O',r1,r2,r3,r4⟩:=N2 ((hfY.trans hf2).trans hfA) hO6 hnod6 hcas6 (fun h=>by
         obtain⟨w1,w2,w3⟩:=t3 h;refine⟨fun h6 => ?_,by omega,by have:=hfA.1;omega,by omega⟩;rcases hf6.2.2.1 c h6 with h7 | h7
         .exact w1 h7
         .omega) ((ns.length+1+ms.length:Nat):Int)
        refine⟨H',O',r3,r4,.inr ⟨_,w6,?_,CV HW Ix (Lh (pre1 (AM (step hcall) (AM bM r1)))),r2⟩⟩;rw[hnode,hkids,GN,hgo];simp only[N9];rw[ht0]
      .rw[if_neg hlt]at hkids;have hdec:decide (0<Gj m0 (.unk (DB ky++nl)))=false:=(by rw[hleft];simp;omega);have hb3:=UM (a3:=H.length) (a4:=H.length+1) (n:=ns.length) (pv:=pv) (w1:=w') (cv:=cv') (z := -1) f13' f20 h140;rw[hdec]at hb3;have hnod4:CK O2 X4 0 w' (ns++⟨-1,BX path,[],-1⟩::ms):=t1.mono (fun _ h=>h) fun x hx _=>hk4 x (hO2 x hx)
       have hcas4:H7 X4 c cs cv':=t2.mono fun hne=>hk4 c (t3 hne).2.2
       obtain⟨H',O',r1,r2,r3,r4⟩:=N2 ((hfY.trans hf2).trans hfX4) (fun x hx=>by have:=hO2 x hx;omega) hnod4 hcas4 (fun h=>by
        obtain⟨w1,w2,w3⟩:=t3 h;exact⟨w1,by omega,by omega,by omega⟩) (-1)
       refine⟨H',O',r3,r4,.inr ⟨_,w',?_,CV HW Ix (Lh (pre1 (AM (pre2 (AM hb3 (P5 rfl (C7 _ _ _ _ _)))) (AM UP r1)))),r2⟩⟩;rw[hnode,hkids,GN,hgo];rfl
end
theorem c28{k:GA}{xs:List AV}(hx:Fb k xs)(hsk:SmT 1048577 k)(hE:(BW k.data k.ty k.arms).2=0):match Nw k with
 | none=>∀ h,AI MX (AE MX) 28 [.agg xs] h=some (.ret (.tup [.AH,.bool false]),h)
 | some l=>∃ w,SlR KB 4 l w/\∀ h,AI MX (AE MX) 28 [.agg xs] h=some (.ret (.tup [w,.bool true]),h):=by
 obtain⟨hsw,hsh,hvt,hdd⟩:=No hsk hE;obtain⟨hbo,hpos,hl12,hpat⟩:=P2 hE;have hok:DOK k.data:=(Jn hdd).dok;obtain⟨dv,pv,av,rfl,hd,hp,ht,ha⟩:=hx.dest;obtain⟨s1,s2,s3,s4⟩:=hsk;obtain⟨e,he,h78⟩:=c78 hd s1 hok (Eh k.data k.ty) k.ty _ ht s2 hvt hsh;have hts:TS k.data k.ty [.int .i64 k.ty.k,.int .i64 k.ty.v,.str k.ty.nm,pv] (Eh k.data k.ty):=⟨ht,s2,hvt,hsh⟩;have hno:Cz (noK (Eh k.data k.ty))+20 * 401<=100000:=by rw[Nt];decide
 obtain⟨H',O',hf,hO',hres⟩:=c77 hd s1 hok hts hsw ha (by omega) s4 (fun p hp=>(Ip (hpat p hp)).1) (fun p hp=>Nx (Ip (hpat p hp)).2) 401 _ e .AH (fun _=>False) [.var false [dv,.int .i64 k.ty.k,.int .i64 k.ty.v,.str k.ty.nm,pv,av]] [] he hno (.inl ⟨rfl,rfl⟩) (fun x h=>h.elim) (by simp) (by simp);simp only[IB,FE]at hres;have hm0:=Cx (H:=[.var false [dv,.int .i64 k.ty.k,.int .i64 k.ty.v,.str k.ty.nm,pv,av]]) (H':=H') (x:=0) (by simp) (hf.2.2.2 0 (by simp) (fun h=>h));have hb:=Xg;simp[Aa,An,f28]at hb;have hac:=ha.cells;have hnrefs:([AV.agg [dv,.int .i64 k.ty.k,.int .i64 k.ty.v,.str k.ty.nm,pv,av]]:List AV).all AV.AA=true:=by simp[AV.AA,AG,hd.AA,hp.AA,ha.AA]
 obtain⟨x1,x2,x3,x4,x5,rfl,n4,n5,c4,c5⟩:=B4.form he;rcases hres with⟨htr,hc⟩ | ⟨new,w',htr,hc,hnod⟩
 .rw[show Nw k=none from htr];exact fun h=>Af TI WX hnrefs rfl (hr:=H') (by simp[AJ,f28,h78,hc,hb,hm0,hac,AG,AV.AA,hd.AA,hp.AA,ha.AA,n4,n5]) h
 .rw[show Nw k=some new from htr];have hcs:=Nv hsw s3 _ _ _ _ htr;have hlen:=Hf _ _ _ _ _ _ htr;rw[D1]at hlen;obtain⟨w,hw,hrep⟩:=UH hnod hcs hlen;obtain⟨H4,_,hsn4⟩:=(Me _).1 H' w' w hw;have hsn4:=hsn4 [];rw[IX,IX]at hsn4;have hnvr:w'.AA=false:=by
   rcases hnod with⟨h,_⟩ | ⟨_,_,_,_,_,rfl,_⟩
   .exact absurd h (Ri htr)
   .rfl
  have hsnT:BB (1050000+4) (.tup [w',.bool true]) H' (.tup [w,.bool true]) H4:=(BB.tup (by simp[AG,hnvr]) (.cons hsn4 (.cons (.flat rfl _) (.nil _)))).mono (by simp);exact⟨w,hrep,fun h=>Hu TI WX hnrefs hsnT (by decide) (by simp[AV.AA,AG,hrep.AA]) (fun h=>by simp[AV.AA,AG,hnvr]at h) (hr:=H') (by simp[AJ,f28,h78,hc,hb,hm0,hac,AG,AV.AA,hd.AA,hp.AA,ha.AA,n4,n5]) h⟩
theorem eqA99(x y:List AV):eqA (und MX.ty 99) (.agg x) (.agg y)=none:=by kernel_rfl
theorem eqS99(a a':Bytes)(b b' c c':Int):eqS MX.ty MX.eqs 99 (.agg [.str a,.int .i64 b,.int .i64 c]) (.agg [.str a',.int .i64 b',.int .i64 c'])=(match(a == a')with
 | true=>(match(b == b')with
  | true=>(match(c == c')with
   | true=>some true
   | false=>some false)
  | false=>some false)
 | false=>some false):=by kernel_rfl
section
variable{v w pv cv pw cw:AV}{arm oth i n:Int}{H:AF}
theorem e29a(hv:ixA 4 v (.int .i64 i)=some (.ro [.int .i64 arm,pv,cv,.int .i64 oth]))(hw:ixA 4 w (.int .i64 i)=some (.ro [.int .i64 arm,pw,cw,.int .i64 oth])):Ar MX 29 98 (AE MX) (Aa f29 6) ((Aa f29 6).toList.take 11) [(0,v),(1,w),(5,.int .i64 i),(15,.bool true)] H (List.replicate 0 Kd.st)=some (.done [(28,.bool false),(27,.int .i64 arm),(26,.ro [.int .i64 arm,pw,cw,.int .i64 oth]),(25,.ro [.int .i64 arm,pw,cw,.int .i64 oth]),(24,.int .i64 i),(23,w),(22,.int .i64 arm),(21,.ro [.int .i64 arm,pv,cv,.int .i64 oth]),(20,.ro [.int .i64 arm,pv,cv,.int .i64 oth]),(19,.int .i64 i),(18,v),(0,v),(1,w),(5,.int .i64 i),(15,.bool true)] H (List.replicate 11 Kd.st)):=by
 simp[Aa,An,f29,List.replicate,hv,hw]
theorem e29b(hv:ixA 4 v (.int .i64 i)=some (.ro [.int .i64 arm,pv,cv,.int .i64 oth]))(hw:ixA 4 w (.int .i64 i)=some (.ro [.int .i64 arm,pw,cw,.int .i64 oth])):Ar MX 29 98 (AE MX) (Aa f29 6) (((Aa f29 6).toList.drop 11).take 13) [(28,.bool false),(27,.int .i64 arm),(26,.ro [.int .i64 arm,pw,cw,.int .i64 oth]),(25,.ro [.int .i64 arm,pw,cw,.int .i64 oth]),(24,.int .i64 i),(23,w),(22,.int .i64 arm),(21,.ro [.int .i64 arm,pv,cv,.int .i64 oth]),(20,.ro [.int .i64 arm,pv,cv,.int .i64 oth]),(19,.int .i64 i),(18,v),(0,v),(1,w),(5,.int .i64 i),(15,.bool true)] H (List.replicate 11 Kd.st)=some (.done [(41,.bool false),(40,.bool false),(39,.int .i64 oth),(38,.ro [.int .i64 oth]),(37,.ro [.int .i64 arm,pw,cw,.int .i64 oth]),(36,.int .i64 i),(35,w),(34,.int .i64 oth),(33,.ro [.int .i64 oth]),(32,.ro [.int .i64 arm,pv,cv,.int .i64 oth]),(31,.int .i64 i),(30,v),(29,.bool false),(28,.bool false),(27,.int .i64 arm),(26,.ro [.int .i64 arm,pw,cw,.int .i64 oth]),(25,.ro [.int .i64 arm,pw,cw,.int .i64 oth]),(24,.int .i64 i),(23,w),(22,.int .i64 arm),(21,.ro [.int .i64 arm,pv,cv,.int .i64 oth]),(20,.ro [.int .i64 arm,pv,cv,.int .i64 oth]),(19,.int .i64 i),(18,v),(0,v),(1,w),(5,.int .i64 i),(15,.bool true)] H (List.replicate 24 Kd.st)):=by
 simp[Aa,An,f29,List.replicate,hv,hw]
theorem e29c(hv:ixA 4 v (.int .i64 i)=some (.ro [.int .i64 arm,pv,cv,.int .i64 oth]))(hw:ixA 4 w (.int .i64 i)=some (.ro [.int .i64 arm,pw,cw,.int .i64 oth]))(h20:∀ h,AI MX (AE MX) 20 [pv,pw] h=some (.ret (.bool true),h))(hpn:pv.AA=true)(hwn:pw.AA=true):Ar MX 29 98 (AE MX) (Aa f29 6) ((((Aa f29 6).toList.drop 11).drop 13).take 14) [(41,.bool false),(40,.bool false),(39,.int .i64 oth),(38,.ro [.int .i64 oth]),(37,.ro [.int .i64 arm,pw,cw,.int .i64 oth]),(36,.int .i64 i),(35,w),(34,.int .i64 oth),(33,.ro [.int .i64 oth]),(32,.ro [.int .i64 arm,pv,cv,.int .i64 oth]),(31,.int .i64 i),(30,v),(29,.bool false),(28,.bool false),(27,.int .i64 arm),(26,.ro [.int .i64 arm,pw,cw,.int .i64 oth]),(25,.ro [.int .i64 arm,pw,cw,.int .i64 oth]),(24,.int .i64 i),(23,w),(22,.int .i64 arm),(21,.ro [.int .i64 arm,pv,cv,.int .i64 oth]),(20,.ro [.int .i64 arm,pv,cv,.int .i64 oth]),(19,.int .i64 i),(18,v),(0,v),(1,w),(5,.int .i64 i),(15,.bool true)] H (List.replicate 24 Kd.st)=some (.done [(55,.bool false),(54,.bool false),(53,.bool true),(52,pw),(51,.ro [pw,cw,.int .i64 oth]),(50,.ro [.int .i64 arm,pw,cw,.int .i64 oth]),(49,.int .i64 i),(48,w),(47,pv),(46,.ro [pv,cv,.int .i64 oth]),(45,.ro [.int .i64 arm,pv,cv,.int .i64 oth]),(44,.int .i64 i),(43,v),(42,.bool false),(41,.bool false),(40,.bool false),(39,.int .i64 oth),(38,.ro [.int .i64 oth]),(37,.ro [.int .i64 arm,pw,cw,.int .i64 oth]),(36,.int .i64 i),(35,w),(34,.int .i64 oth),(33,.ro [.int .i64 oth]),(32,.ro [.int .i64 arm,pv,cv,.int .i64 oth]),(31,.int .i64 i),(30,v),(29,.bool false),(28,.bool false),(27,.int .i64 arm),(26,.ro [.int .i64 arm,pw,cw,.int .i64 oth]),(25,.ro [.int .i64 arm,pw,cw,.int .i64 oth]),(24,.int .i64 i),(23,w),(22,.int .i64 arm),(21,.ro [.int .i64 arm,pv,cv,.int .i64 oth]),(20,.ro [.int .i64 arm,pv,cv,.int .i64 oth]),(19,.int .i64 i),(18,v),(0,v),(1,w),(5,.int .i64 i),(15,.bool true)] H (List.replicate 38 Kd.st)):=by
 simp[Aa,An,f29,List.replicate,hv,hw,h20,hpn,hwn]
theorem e29d(hv:ixA 4 v (.int .i64 i)=some (.ro [.int .i64 arm,pv,cv,.int .i64 oth]))(hw:ixA 4 w (.int .i64 i)=some (.ro [.int .i64 arm,pw,cw,.int .i64 oth]))(hc:∀ h,BI cv h=some (.val (.int .i64 n) h))(hd:∀ h,BI cw h=some (.val (.int .i64 n) h))(kc:Ca (some cv)=.st)(kd:Ca (some cw)=.st):Ar MX 29 98 (AE MX) (Aa f29 6) ((((Aa f29 6).toList.drop 11).drop 13).drop 14) [(55,.bool false),(54,.bool false),(53,.bool true),(52,pw),(51,.ro [pw,cw,.int .i64 oth]),(50,.ro [.int .i64 arm,pw,cw,.int .i64 oth]),(49,.int .i64 i),(48,w),(47,pv),(46,.ro [pv,cv,.int .i64 oth]),(45,.ro [.int .i64 arm,pv,cv,.int .i64 oth]),(44,.int .i64 i),(43,v),(42,.bool false),(41,.bool false),(40,.bool false),(39,.int .i64 oth),(38,.ro [.int .i64 oth]),(37,.ro [.int .i64 arm,pw,cw,.int .i64 oth]),(36,.int .i64 i),(35,w),(34,.int .i64 oth),(33,.ro [.int .i64 oth]),(32,.ro [.int .i64 arm,pv,cv,.int .i64 oth]),(31,.int .i64 i),(30,v),(29,.bool false),(28,.bool false),(27,.int .i64 arm),(26,.ro [.int .i64 arm,pw,cw,.int .i64 oth]),(25,.ro [.int .i64 arm,pw,cw,.int .i64 oth]),(24,.int .i64 i),(23,w),(22,.int .i64 arm),(21,.ro [.int .i64 arm,pv,cv,.int .i64 oth]),(20,.ro [.int .i64 arm,pv,cv,.int .i64 oth]),(19,.int .i64 i),(18,v),(0,v),(1,w),(5,.int .i64 i),(15,.bool true)] H (List.replicate 38 Kd.st)=some (.done [(70,.bool false),(69,.bool false),(68,.int .i64 n),(67,cw),(66,.ro [cw,.int .i64 oth]),(65,.ro [.int .i64 arm,pw,cw,.int .i64 oth]),(64,.int .i64 i),(63,w),(62,.int .i64 n),(61,cv),(60,.ro [cv,.int .i64 oth]),(59,.ro [.int .i64 arm,pv,cv,.int .i64 oth]),(58,.int .i64 i),(57,v),(56,.bool false),(55,.bool false),(54,.bool false),(53,.bool true),(52,pw),(51,.ro [pw,cw,.int .i64 oth]),(50,.ro [.int .i64 arm,pw,cw,.int .i64 oth]),(49,.int .i64 i),(48,w),(47,pv),(46,.ro [pv,cv,.int .i64 oth]),(45,.ro [.int .i64 arm,pv,cv,.int .i64 oth]),(44,.int .i64 i),(43,v),(42,.bool false),(41,.bool false),(40,.bool false),(39,.int .i64 oth),(38,.ro [.int .i64 oth]),(37,.ro [.int .i64 arm,pw,cw,.int .i64 oth]),(36,.int .i64 i),(35,w),(34,.int .i64 oth),(33,.ro [.int .i64 oth]),(32,.ro [.int .i64 arm,pv,cv,.int .i64 oth]),(31,.int .i64 i),(30,v),(29,.bool false),(28,.bool false),(27,.int .i64 arm),(26,.ro [.int .i64 arm,pw,cw,.int .i64 oth]),(25,.ro [.int .i64 arm,pw,cw,.int .i64 oth]),(24,.int .i64 i),(23,w),(22,.int .i64 arm),(21,.ro [.int .i64 arm,pv,cv,.int .i64 oth]),(20,.ro [.int .i64 arm,pv,cv,.int .i64 oth]),(19,.int .i64 i),(18,v),(0,v),(1,w),(5,.int .i64 i),(15,.bool true)] H (List.replicate 53 Kd.st)):=by
 simp[Aa,An,f29,List.replicate,hv,hw,hc,hd,kc,kd]
theorem Vg{ops:Array Oper}(n:Nat):Hm ops (List.replicate n Kd.st).reverse=true:=Bs (by
 rw[D0];intro x hx;rw[List.mem_reverse]at hx;obtain rfl:=List.eq_of_mem_replicate hx;rfl)
theorem reg29(hv:ixA 4 v (.int .i64 i)=some (.ro [.int .i64 arm,pv,cv,.int .i64 oth]))(hw:ixA 4 w (.int .i64 i)=some (.ro [.int .i64 arm,pw,cw,.int .i64 oth]))(h20:∀ h,AI MX (AE MX) 20 [pv,pw] h=some (.ret (.bool true),h))(hpn:pv.AA=true)(hwn:pw.AA=true)(hc:∀ h,BI cv h=some (.val (.int .i64 n) h))(hd:∀ h,BI cw h=some (.val (.int .i64 n) h))(kc:Ca (some cv)=.st)(kd:Ca (some cw)=.st):AO MX 29 98 (AE MX) (.region 6 (Aa f29 6) true) ([(0,v),(1,w),(5,.int .i64 i),(15,.bool true)],H)=some (.nrm,([(0,v),(1,w),(5,.int .i64 i),(70,.bool false)],H)):=
 Hg ((C1 11 (e29a hv hw)).trans ((C1 13 (e29b hv hw)).trans ((C1 14 (e29c hv hw h20 hpn hwn)).trans (e29d hv hw hc hd kc kd)))) (fun _=>Vg 53) (by decide +kernel:MX.keep 29 6=some [0,1,5,70])
end
section
variable{v w:AV}{i:Nat}{H:AF}
theorem in29{arm oth:Int}{pv cv pw cw:AV}{cs:List HQ}(hv:ixA 4 v (.int .i64 i)=some (.ro [.int .i64 arm,pv,cv,.int .i64 oth]))(hw:ixA 4 w (.int .i64 i)=some (.ro [.int .i64 arm,pw,cw,.int .i64 oth]))(hc:SlR I5 3 cs cv)(hd:SlR I5 3 cs cw)(hl:cs.length<1048577) :
 EV MX 29 98 (AE MX) (AL f29 1) ([(0,v),(1,w),(5,.int .i64 i),(6,.int .i64 (0:Nat))],H)=some (.ext 2,([(0,v),(1,w),(5,.int .i64 i),(6,.int .i64 cs.length),(78,.bool false)],H)):=by
 have hb:=Uf;simp[Aa,An,f29]at hb;obtain⟨e,st,hlp,hq⟩:=AU (M:=MX) (fid:=29) (N:=98) (C:=AE MX) (c:=AL f29 1) (n:=cs.length)
  (fun k (_:Unit)=>([(0,v),(1,w),(5,.int .i64 i),(6,.int .i64 k)],H)) (fun _ _=>True)
  (fun r=>r=(.ext 2,([(0,v),(1,w),(5,.int .i64 i),(6,.int .i64 cs.length),(78,.bool false)],H))) (fun k b hk _=>by
    obtain⟨e,he,hR⟩:=hc.ix hk;obtain⟨e2,he2,hR2⟩:=hd.ix hk;have hR':e=[.str cs[k].nm,.int .i64 cs[k].num,.int .i64 cs[k].nx]:=hR;have hR2':e2=[.str cs[k].nm,.int .i64 cs[k].num,.int .i64 cs[k].nx]:=hR2;subst hR';subst hR2';have hk':=AZ hk;have hwr:=AY hk hl;have hE:=eqS99 cs[k].nm cs[k].nm cs[k].num cs[k].num cs[k].nx cs[k].nx;simp only[beq_self_eq_true]at hE;exact .inl ⟨(),by simp[f29,hv,hw,hc.len,hk',he,he2,eqA99,hE,hwr,hb],trivial⟩) (fun b _=>by
    exact⟨_,_,by simp[f29,hv,hw,hc.len] <;> first | exact⟨rfl,rfl⟩ | rfl,by simp,rfl⟩) () trivial
 cases hq;exact hlp
theorem fH:AL f29 0=.seq (sub (AL f29 0) [0]) (.seq (.block 1 (.seq (.seq (.region 6 (Aa f29 6) true) (.cond (.tmp 70) (FD (sub (AL f29 0) [1,0,0,0,1])) .skip)) (.seq (sub (AL f29 0) [1,0,0,1,0]) (.block 2 (.loop (AL f29 1)))))) (sub (AL f29 0) [1,1])):=rfl
theorem o29a{n i:Int}(hl:∀ h,BI v h=some (.val (.int .i64 n) h))(hi:i<n):AO MX 29 98 (AE MX) (sub (AL f29 0) [0]) ([(0,v),(1,w),(5,.int .i64 i)],H)=some (.nrm,([(0,v),(1,w),(5,.int .i64 i),(15,.bool true)],H)):=by
 simp[f29,sub,hl,hi]
theorem o29b{i:Int}:AO MX 29 98 (AE MX) (sub (AL f29 0) [1,0,0,1,0]) ([(0,v),(1,w),(5,.int .i64 i),(70,.bool false)],H)=some (.nrm,([(0,v),(1,w),(5,.int .i64 i),(6,.int .i64 (0:Nat))],H)):=by
 simp[f29,sub]
theorem o29c{i:Int}{n:Int}(hw:wr .i64 (i+1)=i+1):AO MX 29 98 (AE MX) (sub (AL f29 0) [1,1]) ([(0,v),(1,w),(5,.int .i64 i),(6,.int .i64 n),(78,.bool false)],H)=some (.nrm,([(0,v),(1,w),(5,.int .i64 (i+1))],H)):=by
 simp[f29,sub,hw]
theorem o29e{n i:Int}(hl:∀ h,BI v h=some (.val (.int .i64 n) h))(hi:¬ i<n):AO MX 29 98 (AE MX) (AL f29 0) ([(0,v),(1,w),(5,.int .i64 i)],H)=some (.ext 0,([(0,v),(1,w),(5,.int .i64 i),(15,.bool false)],H)):=by
 simp[f29,hl,hi]
end
theorem c29{l:List BE}{v w:AV}(hv:SlR KB 4 l v)(hw:SlR KB 4 l w)(hl:l.length<1048577)(hp:∀ d∈l,SmN d)(h:AF):AI MX (AE MX) 29 [v,w] h=some (.ret (.bool true),h):=by
 obtain⟨e,st,hlp,hq⟩:=AU (M:=MX) (fid:=29) (N:=98) (C:=AE MX) (c:=AL f29 0) (n:=l.length)
  (fun i (_:Unit)=>([(0,v),(1,w),(5,.int .i64 i)],[])) (fun _ _=>True)
  (fun r=>r=(.ext 0,([(0,v),(1,w),(5,.int .i64 l.length),(15,.bool false)],[]))) (fun i b hi _=>by
    obtain⟨e,he,hR⟩:=hv.ix hi;obtain⟨e2,he2,hR2⟩:=hw.ix hi;obtain⟨q1,q2⟩:=hp _ (Ap hi);obtain⟨pv,cv,rfl,hp1,hc1⟩:=hR;obtain⟨pw,cw,rfl,hp2,hc2⟩:=hR2;have h20:=c20 hp1 hp2 q1;have hd1:decide (l[i].path=l[i].path)=true:=decide_eq_true rfl;rw[hd1]at h20;have hi':(i:Int)<(l.length:Int):=Lj.2 hi;have hwr:=AY hi hl;exact .inl ⟨(),by rw[fH];exact AM (o29a hv.len hi') (AM (FN (AM (AM (reg29 (he .i64) (he2 .i64) h20 hp1.AA hp2.AA hc1.len hc2.len hc1.Ca hc2.Ca) (P5 rfl (C7 _ _ _ _ _))) (AM o29b (N1 (in29 (he .i64) (he2 .i64) hc1 hc2 q2))))) (o29c hwr)),trivial⟩) (fun b _=>by
    exact⟨_,_,o29e hv.len (by omega),by simp,rfl⟩) () trivial
 cases hq;simp[f29]at hlp;exact Af Y8 dN (by simp[hv.AA,hw.AA]) rfl (hr:=[]) (by simp[AJ,f29,hv.len,hw.len,hlp]) h
noncomputable def GO:Code:=Tryz.f4.body.getD .skip
noncomputable def hd4(n:Nat):Code:=sub GO (List.replicate n 1++[0])
theorem Yf:GO=.seq (hd4 0) (.seq (hd4 1) (.seq (hd4 2) (.seq (hd4 3) (.seq (hd4 4) (.seq (hd4 5) (.seq (hd4 6) (.seq (hd4 7) (.seq (hd4 8) (sub GO (List.replicate 9 1)))))))))):=rfl
theorem run4{a:AV}{H:AF}(h:AO MX 4 62 (AE MX) GO (Tm.init 0 [a],[])=some (.ret,([(2,.bool true)],H))):AJ MX 4 [a] []=some (.ret (.bool true),H):=by
 have hb:Tryz.f4.body=some GO:=rfl;have hn:Tryz.f4.ntmps=62:=rfl;have hr:Tryz.f4.results = #[.tmp 2]:=rfl;simp only[AJ,fn_4,hb,hn,h];simp[hr]
section
variable{dv pv av tv tw:AV}{kk kv d e:Int}{knm:Bytes}{R H H':AF}
theorem Yg:AO MX 4 62 (AE MX) (hd4 0) (Tm.init 0 [(AV.agg [dv,AV.int IntKind.i64 kk,AV.int IntKind.i64 kv,AV.str knm,pv,av])],[])=some (.nrm,([(1,.hp 0 0)],[(Blk.var false [dv,AV.int IntKind.i64 kk,AV.int IntKind.i64 kv,AV.str knm,pv,av])])):=by
 simp[Tryz.f4,hd4,GO,sub,List.replicate]
theorem Yh:AO MX 4 62 (AE MX) (hd4 1) ([(1,.hp 0 0)],H)=some (.nrm,([(1,.hp 0 0),(9,.bool false)],H)):=by
 simp[Tryz.f4,hd4,GO,sub,List.replicate,YI,II,KG]
theorem s4_2{b:Bool}(h11:∀ h,AI MX (AE MX) 11 [(AV.agg [dv,AV.int IntKind.i64 kk,AV.int IntKind.i64 kv,AV.str knm,pv,av])] h=some (.ret (.bool b),h)):AO MX 4 62 (AE MX) (hd4 2) ([(1,.hp 0 0),(9,.bool false)],(Blk.var false [dv,AV.int IntKind.i64 kk,AV.int IntKind.i64 kv,AV.str knm,pv,av])::R)=some (if b then(.nrm,([(1,.hp 0 0),(12,.bool false)],(Blk.var false [dv,AV.int IntKind.i64 kk,AV.int IntKind.i64 kv,AV.str knm,pv,av])::R))else(.ret,([(2,.bool true)],(Blk.var false [dv,AV.int IntKind.i64 kk,AV.int IntKind.i64 kv,AV.str knm,pv,av])::R))):=by
 cases b <;> simp[Tryz.f4,hd4,GO,sub,List.replicate,h11]
theorem s4_3(h12:∀ h,AI MX (AE MX) 12 [(AV.agg [dv,AV.int IntKind.i64 kk,AV.int IntKind.i64 kv,AV.str knm,pv,av])] h=some (.ret (.int .i64 d),h)):AO MX 4 62 (AE MX) (hd4 3) ([(1,.hp 0 0),(12,.bool false)],(Blk.var false [dv,AV.int IntKind.i64 kk,AV.int IntKind.i64 kv,AV.str knm,pv,av])::R)=some (.nrm,([(1,.hp 0 0),(3,.int .i64 d)],(Blk.var false [dv,AV.int IntKind.i64 kk,AV.int IntKind.i64 kv,AV.str knm,pv,av])::R)):=by
 simp[Tryz.f4,hd4,GO,sub,List.replicate,h12]
theorem s4_4e(hd:(d == 0)=false):AO MX 4 62 (AE MX) (hd4 4) ([(1,.hp 0 0),(3,.int .i64 d)],(Blk.var false [dv,AV.int IntKind.i64 kk,AV.int IntKind.i64 kv,AV.str knm,pv,av])::R)=some (.nrm,([(1,.hp 0 0),(3,.int .i64 d),(24,.bool false)],(Blk.var false [dv,AV.int IntKind.i64 kk,AV.int IntKind.i64 kv,AV.str knm,pv,av])::R)):=by
 simp[Tryz.f4,hd4,GO,sub,List.replicate,hd]
theorem s4_4{m:Int}(h26:∀ h,AI MX (AE MX) 26 [dv,.agg [.int .i64 kk,.int .i64 kv,.str knm,pv]] h=some (.ret (.int .i64 m),h)):AO MX 4 62 (AE MX) (hd4 4) ([(1,.hp 0 0),(3,.int .i64 0)],(Blk.var false [dv,AV.int IntKind.i64 kk,AV.int IntKind.i64 kv,AV.str knm,pv,av])::R)=some (if 8<m then(.ret,([(2,.bool true)],(Blk.var false [dv,AV.int IntKind.i64 kk,AV.int IntKind.i64 kv,AV.str knm,pv,av])::R))else(.nrm,([(1,.hp 0 0),(3,.int .i64 0),(24,.bool false)],(Blk.var false [dv,AV.int IntKind.i64 kk,AV.int IntKind.i64 kv,AV.str knm,pv,av])::R))):=by
 by_cases hm:8<m <;> simp[Tryz.f4,hd4,GO,sub,List.replicate,h26,hm]
theorem s4_5{O:List AV}(h15:AI MX (AE MX) 15 [(AV.agg [dv,AV.int IntKind.i64 kk,AV.int IntKind.i64 kv,AV.str knm,pv,av])] ((Blk.var false [dv,AV.int IntKind.i64 kk,AV.int IntKind.i64 kv,AV.str knm,pv,av])::R)=some (.ret (.agg O),H))(h27:AI MX (AE MX) 27 [.agg O] H=some (.ret (.tup [tv,.int .i64 e]),H')):AO MX 4 62 (AE MX) (hd4 5) ([(1,.hp 0 0),(3,.int .i64 d),(24,.bool false)],(Blk.var false [dv,AV.int IntKind.i64 kk,AV.int IntKind.i64 kv,AV.str knm,pv,av])::R)=some (.nrm,([(1,.hp 0 0),(3,.int .i64 d),(4,tv),(5,.int .i64 e)],H')):=by
 simp[Tryz.f4,hd4,GO,sub,List.replicate,h15,h27]
theorem s4_6e(hd:(d != 0)=true):AO MX 4 62 (AE MX) (hd4 6) ([(1,.hp 0 0),(3,.int .i64 d),(4,.AH),(5,.int .i64 d)],H)=some (.ret,([(2,.bool true)],H)):=by
 have h0:¬ d=0:=by simpa using hd
 simp[Tryz.f4,hd4,GO,sub,List.replicate,h0,hd]
theorem s4_6:AO MX 4 62 (AE MX) (hd4 6) ([(1,.hp 0 0),(3,.int .i64 0),(4,tv),(5,.int .i64 e)],H)=some (.nrm,([(1,.hp 0 0),(3,.int .i64 0),(4,tv),(5,.int .i64 e),(32,.bool false)],H)):=by
 simp[Tryz.f4,hd4,GO,sub,List.replicate]
theorem s4_7{b:Bool}(h28:∀ h,AI MX (AE MX) 28 [(AV.agg [dv,AV.int IntKind.i64 kk,AV.int IntKind.i64 kv,AV.str knm,pv,av])] h=some (.ret (.tup [tw,.bool b]),h)):AO MX 4 62 (AE MX) (hd4 7) ([(1,.hp 0 0),(3,.int .i64 0),(4,tv),(5,.int .i64 e),(32,.bool false)],(Blk.var false [dv,AV.int IntKind.i64 kk,AV.int IntKind.i64 kv,AV.str knm,pv,av])::R)=some (.nrm,([(4,tv),(5,.int .i64 e),(6,tw),(7,.bool b)],(Blk.var false [dv,AV.int IntKind.i64 kk,AV.int IntKind.i64 kv,AV.str knm,pv,av])::R)):=by
 simp[Tryz.f4,hd4,GO,sub,List.replicate,h28]
theorem s4_8f:AO MX 4 62 (AE MX) (hd4 8) ([(4,.AH),(5,.int .i64 8),(6,tw),(7,.bool false)],H)=some (.ret,([(2,.bool true)],H)):=by
 simp[Tryz.f4,hd4,GO,sub,List.replicate]
theorem s4_8t:AO MX 4 62 (AE MX) (hd4 8) ([(4,tv),(5,.int .i64 e),(6,tw),(7,.bool true)],H)=some (.nrm,([(4,tv),(5,.int .i64 e),(6,tw),(47,.bool false)],H)):=by
 simp[Tryz.f4,hd4,GO,sub,List.replicate]
theorem s4_9(h29:∀ h,AI MX (AE MX) 29 [tv,tw] h=some (.ret (.bool true),h)):AO MX 4 62 (AE MX) (sub GO (List.replicate 9 1)) ([(4,tv),(5,.int .i64 0),(6,tw),(47,.bool false)],H)=some (.ret,([(2,.bool true)],H)):=by
 simp[Tryz.f4,GO,sub,List.replicate,h29]
end
theorem N3{arms:List TyV}{s:Sh}(hdp:∀ p∈arms,dp p<1048577):∀ n q b ns,BK arms s n q b=some ns->∀ v∈ns,v.path.length<1048577
 | 0,_,_,_,h=>by cases h
 | n+1,q,b,ns,h=>by
  have ih:=N3 (s:=s) hdp n;rw[BK]at h;split at h
  .cases h
  .split at h
   .cases h;intro v hv;simp at hv;subst hv;simp
   .rename_i a hfi;split at h
    .cases h;intro v hv;simp at hv;subst hv;simp
    .obtain⟨path,hp⟩:∃ path,path=(Ez (arms.getD a default) q).getD []:=⟨_,rfl⟩;rw[<- hp]at h;have hal:=G8 hfi;have hpl:(BX path).length<1048577:=by
      have hnl:(BX path).length=path.length:=(by simp[BX]);rw[hnl,hp];have hgd:arms.getD a default=arms[a]:=(by simp[List.getD,AW hal]);rw[hgd];cases hk:Ez arms[a] q with
      | none=>simp
      | some p2=>
       have:=Jp _ _ _ hk;have:=hdp _ (Ap hal);simp;omega
     unfold GN at h;split at h
     .cases h
     .rename_i cs ms hgo;have g2:=(S0 hgo).2 (fun v=>v.path.length<1048577) ih;unfold N9 at h;split at h
      .cases h;intro v hv;rcases Cd.1 hv with rfl | hv
       .exact hpl
       .exact g2 v hv
      .split at h
       .cases h
       .rename_i ms2 hm2;cases h;intro v hv;rcases Cd.1 hv with rfl | hv
        .exact hpl
        .rcases Ks.1 hv with hv | hv
         .exact g2 v hv
         .exact ih _ _ _ hm2 v hv
theorem law4{k:GA}{xs:List AV}(hx:Fb k xs)(hsk:SmT 1048577 k):∃ hr,AJ MX 4 [.agg xs] []=some (.ret (.bool true),hr):=by
 have h11:=c11 hx hsk;have h12:=c12 hx hsk;obtain⟨xs',hx',hown⟩:=own1 hx hsk;have hx0:=hx;obtain⟨dv,pv,av,rfl,hd,hp,hty,ha⟩:=hx.dest;obtain⟨s1,s2,s3,s4⟩:=id hsk;have hend:∃ T,AO MX 4 62 (AE MX) GO (Tm.init 0 [.agg [dv,.int .i64 k.ty.k,.int .i64 k.ty.v,.str k.ty.nm,pv,av]],[])=some (.ret,([(2,.bool true)],T)):=by
  rw[Yf];have g2:=s4_2 (R:=[]) h11;cases hS:Sf k with
  | false=>
   rw[hS]at g2;exact⟨_,AM Yg (AM Yh (Fg g2))⟩
  | true=>
   rw[hS]at g2;obtain⟨O,Y,Y',o1,f1⟩:=hown [Blk.var false [dv,.int .i64 k.ty.k,.int .i64 k.ty.v,.str k.ty.nm,pv,av]];by_cases hE:(BW k.data k.ty k.arms).2=0
   .obtain⟨hsw,hsh,hvt,hdd⟩:=No hsk hE;have hok:DOK k.data:=(Jn hdd).dok;obtain⟨hbo,hpos,hl12,hpat⟩:=P2 hE;have h26:=c26 hd s1 hok ((okF _ hdd).2) (Eh k.data k.ty) k.ty _ hty s2 hvt hsh;have g4:=s4_4 (av:=av) (R:=[]) h26;rw[hE]at h12;by_cases hw:8<shW (Eh k.data k.ty)
    .rw[if_pos hw]at g4;exact⟨_,AM Yg (AM Yh (AM g2 (AM (s4_3 h12) (Fg g4))))⟩
    .rw[if_neg hw]at g4;have h27:=c27 hx' hsk hE;have h28:=c28 hx0 hsk hE;cases htk:Nw k with
     | none=>
      rw[htk]at h27 h28;have e27:=f1 27 _ (by simp[J4]) h27;exact⟨_,AM Yg (AM Yh (AM g2 (AM (s4_3 h12) (AM g4 (AM (s4_5 o1 e27) (AM s4_6 (AM (s4_7 h28) (Fg s4_8f))))))))⟩
     | some l=>
      rw[htk]at h27 h28;obtain⟨w,hw1,hl4,hcs,h27⟩:=h27;obtain⟨w2,hw2,h28⟩:=h28;have e27:=f1 27 _ (by simp[J4]) h27;have hps:=N3 (s:=Eh k.data k.ty) (fun p hp=>Nx (Ip (hpat p hp)).2) _ _ _ _ htk;have h29:=c29 hw1 hw2 (by omega) (fun d hd=>⟨hps d hd,hcs d hd⟩);exact⟨_,AM Yg (AM Yh (AM g2 (AM (s4_3 h12) (AM g4 (AM (s4_5 o1 e27) (AM s4_6 (AM (s4_7 h28) (AM s4_8t (s4_9 h29)))))))))⟩
   .have h27:=c27e hx' hsk hE;have e27:=f1 27 _ (by simp[J4]) h27;have hd0:((BW k.data k.ty k.arms).2 == 0)=false:=(by simp[hE]);have hd1:((BW k.data k.ty k.arms).2 != 0)=true:=(by simp[hE]);exact⟨_,AM Yg (AM Yh (AM g2 (AM (s4_3 h12) (AM (s4_4e hd0) (AM (s4_5 o1 e27) (Fg (s4_6e hd1)))))))⟩
 obtain⟨T,hend⟩:=hend;exact⟨T,run4 hend⟩
end Go.Proofs.Am12
