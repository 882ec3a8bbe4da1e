import Derived.Test.YtdlodpchnaojhaaGreatLaw
import Derived.Test.YtdlodpchnaojhaaGreatPu
namespace Go.Kx
open Go
set_option linter.unusedVariables false
set_option linter.unusedSimpArgs false
set_option maxRecDepth 10000
def j8 (_:Int):Nat:=1
def AR (_:Int) (n:Int):Int:=n
theorem yF:∀ l:List Int,iV j8 l≤16 * (l.length)
  | []=>Nat.zero_le _
  | y::l=>by
    have h1:=yF l;have h2:j8 y≤16 * (1+0):=(by decide:1≤16 * (1+0));simp only [iV,List.length_cons] at h1 h2 ⊢;omega
theorem I3 {N:Nat} (hN:gS≤N) {x:List Int} {b:Int} (h0:0≤b) (h1:b≤1048576) (hx:Fit.fit x):tJ N x b=some (left b x.length):=I2 x b h0 h1 hx.1
theorem Il {N:Nat} (hN:gS≤N) {x:List Int} (hb:x.length<gS):te N x=some x:=zu x some (fun y _=>rfl) hb (Nat.lt_of_lt_of_le hb hN)
theorem I0 {N:Nat} (hN:gS≤N) {x:List Int} (hb:x.length<gS):rH N x x=some true:=by
  rw [show rH N x x=some (decide (x=x)) from Bn x x (· != ·) (by intro y z;by_cases h:y=z<;>simp [h]) hb hN];simp
theorem yr {N:Nat} (hN:gS≤N) {x:List Int} {n:Int} (hb:x.length<gS) (h0:0≤n) (h1:n+((iV j8 x:Nat):Int)≤4611686018427387904):nv N x n=some (n+((iV j8 x:Nat):Int),mI AR j8 n x):=by
  unfold nv;rw [xB x n AR j8 (Nat.lt_of_lt_of_le hb hN) h0 h1]
  · rfl
  · intro l k m y hl hk hy hm p0 p1
    have hkl:k<l.length:=by omega
    have hkB:k<gS:=Nat.lt_trans hk hb;have p1':m+((j8 y:Nat):Int)≤4611686018427387904:=p1;unfold j8 at p1';simp only [iE hkl,Om,ij,hy,Ok,Int.toNat_natCast,List.getElem?_set_self hkl,List.set_set,lr (pe _ _ _ _),iK hkB,kP (n:=m) (by omega) (by omega)];exact congrArg some (congrArg Sum.inl (Prod.ext rfl (Prod.ext (show m+1=m+((j8 y:Nat):Int) by unfold j8;omega) rfl)))
  · intro l m hl;simp only [hl,iF,Ol]
theorem L8 (N:Nat) (x:hJ):uH N x=some x:=by simp [uH]
theorem L4 (N:Nat) (x:hJ):uy N x x=some true:=by simp [uy]
theorem KV (N:Nat) (x:ir):tm N x=some x:=by simp [tm]
theorem Kq (N:Nat) (x:ir):tx N x x=some true:=by simp [tx]
def lM (x:iA):Nat:=9
def Dt (x:iA) (n:Int):iA:=iA.mk (n) (n+1) (n+1+1) (ir.mk (n+1+1+1) (n+1+1+1+1) (n+1+1+1+1+1) (n+1+1+1+1+1+1) (n+1+1+1+1+1+1+1) (n+1+1+1+1+1+1+1+1))
theorem Hc (x:iA):lM x≤16 * (1+0):=by
  unfold lM;omega
theorem z6:∀ l:List iA,iV lM l≤16 * (l.length)
  | []=>Nat.zero_le _
  | y::l=>by
    have h1:=z6 l;have h2:lM y≤16 * (1+0):=Hc y;simp only [iV,List.length_cons] at h1 h2 ⊢;omega
theorem H3 {N:Nat} (hN:gS≤N) {x:List iA} {b:Int} (h0:0≤b) (h1:b≤1048576) (hx:Fit.fit x):tI N x b=some (left b x.length):=I2 x b h0 h1 hx.1
theorem Jd (N:Nat) (x:iA):qf N x=some x:=by simp [qf,KV]
theorem Ir {N:Nat} (hN:gS≤N) {x:List iA} (hb:x.length<gS):nq N x=some x:=zu x (qf N) (fun y hy=>Jd N y) hb (Nat.lt_of_lt_of_le hb hN)
theorem JE (N:Nat) (x:iA):qo N x x=some true:=by simp [qo,Kq]
theorem HR {N:Nat} (hN:gS≤N) {x:List iA} (hb:x.length<gS):tu N x x=some true:=CO x (qo N) (fun y hy=>JE N y) (Nat.lt_of_lt_of_le hb (by decide)) (Nat.lt_of_lt_of_le hb hN)
theorem Dk {N:Nat} (hN:gS≤N) {x:List iA} {n:Int} (hb:x.length<gS) (h0:0≤n) (h1:n+((iV lM x:Nat):Int)≤4611686018427387904):oW N x n=some (n+((iV lM x:Nat):Int),mI Dt lM n x):=by
  unfold oW;rw [xB x n Dt lM (Nat.lt_of_lt_of_le hb hN) h0 h1]
  · rfl
  · intro l k m y hl hk hy hm p0 p1
    have hkl:k<l.length:=by omega
    have hkB:k<gS:=Nat.lt_trans hk hb;have p1':m+((lM y:Nat):Int)≤4611686018427387904:=p1;unfold lM at p1';simp only [iE hkl,Om,ij,hy,Ok,Int.toNat_natCast,List.getElem?_set_self hkl,List.set_set,lr (pe _ _ _ _),iK hkB,kP (n:=m) (by omega) (by omega),kP (n:=m+1) (by omega) (by omega),kP (n:=m+1+1) (by omega) (by omega),kP (n:=m+1+1+1) (by omega) (by omega),kP (n:=m+1+1+1+1) (by omega) (by omega),kP (n:=m+1+1+1+1+1) (by omega) (by omega),kP (n:=m+1+1+1+1+1+1) (by omega) (by omega),kP (n:=m+1+1+1+1+1+1+1) (by omega) (by omega),kP (n:=m+1+1+1+1+1+1+1+1) (by omega) (by omega)];exact congrArg some (congrArg Sum.inl (Prod.ext rfl (Prod.ext (show m+1+1+1+1+1+1+1+1+1=m+((lM y:Nat):Int) by unfold lM;omega) rfl)))
  · intro l m hl;simp only [hl,iF,Ol]
def j4 (x:g6):Nat:=2
def vm (x:g6) (n:Int):g6:=g6.mk (n) (n+1)
theorem Gr (x:g6):j4 x≤16 * (1+0):=by
  unfold j4;omega
theorem AA:∀ l:List g6,iV j4 l≤16 * (l.length)
  | []=>Nat.zero_le _
  | y::l=>by
    have h1:=AA l;have h2:j4 y≤16 * (1+0):=Gr y;simp only [iV,List.length_cons] at h1 h2 ⊢;omega
theorem Ji (N:Nat) (x:g6):ql N x x=some true:=by simp [ql]
theorem IQ {N:Nat} (hN:gS≤N) {x:List g6} (hb:x.length<gS):oM N x x=some true:=CO x (ql N) (fun y hy=>Ji N y) (Nat.lt_of_lt_of_le hb (by decide)) (Nat.lt_of_lt_of_le hb hN)
theorem CX {N:Nat} (hN:gS≤N) {x:List g6} {n:Int} (hb:x.length<gS) (h0:0≤n) (h1:n+((iV j4 x:Nat):Int)≤4611686018427387904):oR N x n=some (n+((iV j4 x:Nat):Int),mI vm j4 n x):=by
  unfold oR;rw [xB x n vm j4 (Nat.lt_of_lt_of_le hb hN) h0 h1]
  · rfl
  · intro l k m y hl hk hy hm p0 p1
    have hkl:k<l.length:=by omega
    have hkB:k<gS:=Nat.lt_trans hk hb;have p1':m+((j4 y:Nat):Int)≤4611686018427387904:=p1;unfold j4 at p1';simp only [iE hkl,Om,ij,hy,Ok,Int.toNat_natCast,List.getElem?_set_self hkl,List.set_set,lr (pe _ _ _ _),iK hkB,kP (n:=m) (by omega) (by omega),kP (n:=m+1) (by omega) (by omega)];exact congrArg some (congrArg Sum.inl (Prod.ext rfl (Prod.ext (show m+1+1=m+((j4 y:Nat):Int) by unfold j4;omega) rfl)))
  · intro l m hl;simp only [hl,iF,Ol]
theorem C7 {N:Nat} (hN:gS≤N) {x:List g6} {n:Int} (hb:x.length<gS) (h0:0≤n) (h1:n+((iV j4 x:Nat):Int)≤4611686018427387904):na N (mI vm j4 n x) n=some (n+((iV j4 x:Nat):Int)):=by
  unfold na;simp only [pe];rw [Jh x n vm j4 (Nat.lt_of_lt_of_le hb hN) h0 h1]
  · rfl
  · intro k m y hk hy hm p0 p1;have hkB:k<gS:=Nat.lt_trans hk hb;have p1':m+((j4 y:Nat):Int)≤4611686018427387904:=p1;unfold j4 at p1';simp only [iE hk,Om,ij,hy,Ok,vm,bne_self_eq_false,beq_self_eq_true,On,Ol,iK hkB,kP (n:=m) (by omega) (by omega),kP (n:=m+1) (by omega) (by omega)];exact congrArg some (congrArg Sum.inl (Prod.ext (show m+1+1=m+((j4 y:Nat):Int) by unfold j4;omega) rfl))
  · intro m;simp only [iF,Ol]
def jQ (x:iI):Nat:=x.NY.length+(0)
theorem Dh {N:Nat} (hN:gS≤N) {x:iI} {b:Int} (h0:0≤b) (h1:b≤1048576) (hx:Fit.fit x):r9 N x b=some (left b (jQ x)) :=
  Dr h0 h1 (I3 hN h0 h1 hx) fun b h0 h1=>by rw [BZ h0]
theorem CQ {N:Nat} (hN:gS≤N) {x:iI} (hb:jQ x<gS):mo N x=some x:=by
  have b0:x.NY.length<gS:=by unfold jQ at hb;omega
  simp [mo,Il hN b0]
theorem C8 {N:Nat} (hN:gS≤N) {x:iI} (hb:jQ x<gS):qu N x x=some true:=by
  have b0:x.NY.length<gS:=by unfold jQ at hb;omega
  simp [qu,I0 hN b0]
theorem ER {N:Nat} (hN:gS≤N) {x:iI} {n:Int} (hb:jQ x<gS) (h0:0≤n) (h1:n+((iV j8 x.NY:Nat):Int)≤4611686018427387904):pT N x n=some (n+((iV j8 x.NY:Nat):Int),mI AR j8 (n) x.NY):=by
  unfold pT
  have hb_levels:x.NY.length<gS:=by unfold jQ at hb;omega
  simp only [Ok,lr (pe _ _ _ _),yr hN (n:=n) (x:=x.NY) hb_levels (by omega) (by omega)]
def iZ (x:iC):Nat:=jQ x.NZ+(x.own.length+(0))
def ma (x:iC):Nat:=3+iV j8 x.NZ.NY+iV j8 x.own
def FB (x:iC) (n:Int):iC:=iC.mk (iI.mk (mI AR j8 (n) x.NZ.NY)) (mI AR j8 ((n+((iV j8 x.NZ.NY:Nat):Int))) x.own) (hJ.mk (((n+((iV j8 x.NZ.NY:Nat):Int))+((iV j8 x.own:Nat):Int))) (((n+((iV j8 x.NZ.NY:Nat):Int))+((iV j8 x.own:Nat):Int))+1) (((n+((iV j8 x.NZ.NY:Nat):Int))+((iV j8 x.own:Nat):Int))+1+1))
theorem IN (x:iC):ma x≤16 * (1+iZ x):=by
  unfold ma iZ jQ;have:=yF x.NZ.NY;have:=yF x.own;omega
theorem BX:∀ l:List iC,iV ma l≤16 * (iQ iZ l)
  | []=>Nat.zero_le _
  | y::l=>by
    have h1:=BX l;have h2:ma y≤16 * (1+iZ y):=IN y;simp only [iV,iQ,List.length_cons] at h1 h2 ⊢;omega
theorem K5 {N:Nat} (hN:gS≤N) {x:iC} {b:Int} (h0:0≤b) (h1:b≤1048576) (hx:Fit.fit x):oQ N x b=some (left b (iZ x)) :=
  Dr h0 h1 (Dh hN h0 h1 hx.1) fun b h0 h1=>Dr h0 h1 (I3 hN h0 h1 hx.2.1) fun b h0 h1=>by rw [BZ h0]
theorem JQ {N:Nat} (hN:gS≤N) {x:List iC} {b:Int} (h0:0≤b) (h1:b≤1048576) (hx:Fit.fit x):qv N x b=some (left b (iQ iZ x)) :=
  Le x b h0 h1 hx.1 (oQ N) iZ (fun y hy b h0 h1=>K5 hN h0 h1 (hx.2 y hy)) hN
theorem Ks {N:Nat} (hN:gS≤N) {x:iC} (hb:iZ x<gS):nj N x=some x:=by
  have b0:jQ x.NZ<gS:=by unfold iZ at hb;omega
  have b1:x.own.length<gS:=by unfold iZ at hb;omega
  simp [nj,CQ hN b0,Il hN b1,L8]
theorem I7 {N:Nat} (hN:gS≤N) {x:List iC} (hb:iQ iZ x<gS):lO N x=some x:=zu x (nj N) (fun y hy=>Ks hN (jm hb hy)) (jz hb) (Nat.lt_of_lt_of_le (jz hb) hN)
theorem K8 {N:Nat} (hN:gS≤N) {x:iC} (hb:iZ x<gS):nb N x x=some true:=by
  have b0:jQ x.NZ<gS:=by unfold iZ at hb;omega
  have b1:x.own.length<gS:=by unfold iZ at hb;omega
  simp [nb,C8 hN b0,I0 hN b1,L4]
theorem Jw {N:Nat} (hN:gS≤N) {x:List iC} (hb:iQ iZ x<gS):qw N x x=some true:=CO x (nb N) (fun y hy=>K8 hN (jm hb hy)) (Nat.lt_of_lt_of_le (jz hb) (by decide)) (Nat.lt_of_lt_of_le (jz hb) hN)
theorem Ey {N:Nat} (hN:gS≤N) {x:List iC} {n:Int} (hb:iQ iZ x<gS) (h0:0≤n) (h1:n+((iV ma x:Nat):Int)≤4611686018427387904):mV N x n=some (n+((iV ma x:Nat):Int),mI FB ma n x):=by
  unfold mV;rw [xB x n FB ma (Nat.lt_of_lt_of_le (jz hb) hN) h0 h1]
  · rfl
  · intro l k m y hl hk hy hm p0 p1
    have hkl:k<l.length:=by omega
    have hkB:k<gS:=Nat.lt_trans hk (jz hb);have hy':=jm hb hm;unfold iZ jQ at hy';have p1':m+((ma y:Nat):Int)≤4611686018427387904:=p1;unfold ma at p1';simp only [iE hkl,Om,ij,hy,Ok,Int.toNat_natCast,List.getElem?_set_self hkl,List.set_set,lr (pe _ _ _ _),iK hkB,kP (n:=((m+((iV j8 y.NZ.NY:Nat):Int))+((iV j8 y.own:Nat):Int))) (by omega) (by omega),kP (n:=((m+((iV j8 y.NZ.NY:Nat):Int))+((iV j8 y.own:Nat):Int))+1) (by omega) (by omega),kP (n:=((m+((iV j8 y.NZ.NY:Nat):Int))+((iV j8 y.own:Nat):Int))+1+1) (by omega) (by omega),yr hN (n:=m) (x:=y.NZ.NY) (by omega) (by omega) (by omega),yr hN (n:=(m+((iV j8 y.NZ.NY:Nat):Int))) (x:=y.own) (by omega) (by omega) (by omega)];exact congrArg some (congrArg Sum.inl (Prod.ext rfl (Prod.ext (show ((m+((iV j8 y.NZ.NY:Nat):Int))+((iV j8 y.own:Nat):Int))+1+1+1=m+((ma y:Nat):Int) by unfold ma;omega) rfl)))
  · intro l m hl;simp only [hl,iF,Ol]
def hX (x:gP):Nat:=x.gX.length+(x.N8.length+(x.N4.length+(0)))
def vD (x:iW):Nat:=x.gQ.length+(0)
def oD (x:g5):Nat:=iQ hX x.ag+(vD x.gc+(0))
def ic (x:cd):Nat:=jQ x.NZ+(x.own.length+(x.N1.length+(oD x.py+(x.gR.length+(0)))))
end Go.Kx
