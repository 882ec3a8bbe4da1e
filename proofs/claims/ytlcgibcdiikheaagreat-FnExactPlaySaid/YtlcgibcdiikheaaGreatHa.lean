import Derived.Test.YtlcgibcdiikheaaGreatLaw
import Derived.Test.YtlcgibcdiikheaaGreatPu
namespace Go.Kx
open Go
set_option linter.unusedVariables false
set_option linter.unusedSimpArgs false
set_option maxRecDepth 10000
def ia (_:Int):Nat:=1
def s5 (_:Int) (n:Int):Int:=n
theorem tH:∀ l:List Int,gW ia l≤16 * (l.length)
  | []=>Nat.zero_le _
  | y::l=>by
    have h1:=tH l;have h2:ia y≤16 * (1+0):=(by decide:1≤16 * (1+0));simp only [gW,List.length_cons] at h1 h2 ⊢;omega
theorem JP {N:Nat} (hN:gT≤N) {x:List Int} {b:Int} (h0:0≤b) (h1:b≤1048576) (hx:Fit.fit x):uc N x b=some (left b x.length):=IW x b h0 h1 hx.1
theorem IG {N:Nat} (hN:gT≤N) {x:List Int} (hb:x.length<gT):tQ N x=some x:=Ax x some (fun y _=>rfl) hb (Nat.lt_of_lt_of_le hb hN)
theorem xK {N:Nat} (hN:gT≤N) {x:List Int} (hb:x.length<gT):mE N x x=some true:=by
  rw [show mE N x x=some (decide (x=x)) from BV x x (· != ·) (by intro y z;by_cases h:y=z<;>simp [h]) hb hN];simp
theorem rD {N:Nat} (hN:gT≤N) {x:List Int} {n:Int} (hb:x.length<gT) (h0:0≤n) (h1:n+((gW ia x:Nat):Int)≤4611686018427387904):k8 N x n=some (n+((gW ia x:Nat):Int),jV s5 ia n x):=by
  unfold k8;rw [pK x n s5 ia (Nat.lt_of_lt_of_le hb hN) h0 h1]
  · rfl
  · intro l k m y hl hk hy hm p0 p1
    have hkl:k<l.length:=by omega
    have hkB:k<gT:=Nat.lt_trans hk hb;have p1':m+((ia y:Nat):Int)≤4611686018427387904:=p1;unfold ia at p1';simp only [iF hkl,PD,ik,hy,PB,Int.toNat_natCast,List.getElem?_set_self hkl,List.set_set,kc (kf _ _ _ _),iJ hkB,iw (n:=m) (by omega) (by omega)];exact congrArg some (congrArg Sum.inl (Prod.ext rfl (Prod.ext (show m+1=m+((ia y:Nat):Int) by unfold ia;omega) rfl)))
  · intro l m hl;simp only [hl,iG,PC]
theorem vg {N:Nat} (hN:gT≤N) {x:List Int} {n:Int} (hb:x.length<gT) (h0:0≤n) (h1:n+((gW ia x:Nat):Int)≤4611686018427387904):l6 N (jV s5 ia n x) n=some (n+((gW ia x:Nat):Int)):=by
  unfold l6;simp only [kf];rw [tb x n s5 ia (Nat.lt_of_lt_of_le hb hN) h0 h1]
  · rfl
  · intro k m y hk hy hm p0 p1;have hkB:k<gT:=Nat.lt_trans hk hb;have p1':m+((ia y:Nat):Int)≤4611686018427387904:=p1;unfold ia at p1';simp only [iF hk,PD,ik,hy,PB,s5,bne_self_eq_false,beq_self_eq_true,PE,PC,iJ hkB,iw (n:=m) (by omega) (by omega)];exact congrArg some (congrArg Sum.inl (Prod.ext (show m+1=m+((ia y:Nat):Int) by unfold ia;omega) rfl))
  · intro m;simp only [iG,PC]
theorem MJ (N:Nat) (x:hO):vk N x=some x:=by simp [vk]
theorem EC (N:Nat) (x:hO):qX N x x=some true:=by simp [qX]
theorem Mf (N:Nat) (x:iA):tS N x=some x:=by simp [tS]
theorem LG (N:Nat) (x:iA):um N x x=some true:=by simp [um]
def mn (x:iK):Nat:=9
def Ds (x:iK) (n:Int):iK:=iK.mk (n) (n+1) (n+1+1) (iA.mk (n+1+1+1) (n+1+1+1+1) (n+1+1+1+1+1) (n+1+1+1+1+1+1) (n+1+1+1+1+1+1+1) (n+1+1+1+1+1+1+1+1))
theorem H5 (x:iK):mn x≤16 * (1+0):=by
  unfold mn;omega
theorem Br:∀ l:List iK,gW mn l≤16 * (l.length)
  | []=>Nat.zero_le _
  | y::l=>by
    have h1:=Br l;have h2:mn y≤16 * (1+0):=H5 y;simp only [gW,List.length_cons] at h1 h2 ⊢;omega
theorem Jg {N:Nat} (hN:gT≤N) {x:List iK} {b:Int} (h0:0≤b) (h1:b≤1048576) (hx:Fit.fit x):tX N x b=some (left b x.length):=IW x b h0 h1 hx.1
theorem Kr (N:Nat) (x:iK):qm N x=some x:=by simp [qm,Mf]
theorem IN {N:Nat} (hN:gT≤N) {x:List iK} (hb:x.length<gT):nI N x=some x:=Ax x (qm N) (fun y hy=>Kr N y) hb (Nat.lt_of_lt_of_le hb hN)
theorem KM (N:Nat) (x:iK):qn N x x=some true:=by simp [qn,LG]
theorem IV {N:Nat} (hN:gT≤N) {x:List iK} (hb:x.length<gT):uq N x x=some true:=uY x (qn N) (fun y hy=>KM N y) (Nat.lt_of_lt_of_le hb (by decide)) (Nat.lt_of_lt_of_le hb hN)
theorem Dp {N:Nat} (hN:gT≤N) {x:List iK} {n:Int} (hb:x.length<gT) (h0:0≤n) (h1:n+((gW mn x:Nat):Int)≤4611686018427387904):pc N x n=some (n+((gW mn x:Nat):Int),jV Ds mn n x):=by
  unfold pc;rw [pK x n Ds mn (Nat.lt_of_lt_of_le hb hN) h0 h1]
  · rfl
  · intro l k m y hl hk hy hm p0 p1
    have hkl:k<l.length:=by omega
    have hkB:k<gT:=Nat.lt_trans hk hb;have p1':m+((mn y:Nat):Int)≤4611686018427387904:=p1;unfold mn at p1';simp only [iF hkl,PD,ik,hy,PB,Int.toNat_natCast,List.getElem?_set_self hkl,List.set_set,kc (kf _ _ _ _),iJ hkB,iw (n:=m) (by omega) (by omega),iw (n:=m+1) (by omega) (by omega),iw (n:=m+1+1) (by omega) (by omega),iw (n:=m+1+1+1) (by omega) (by omega),iw (n:=m+1+1+1+1) (by omega) (by omega),iw (n:=m+1+1+1+1+1) (by omega) (by omega),iw (n:=m+1+1+1+1+1+1) (by omega) (by omega),iw (n:=m+1+1+1+1+1+1+1) (by omega) (by omega),iw (n:=m+1+1+1+1+1+1+1+1) (by omega) (by omega)];exact congrArg some (congrArg Sum.inl (Prod.ext rfl (Prod.ext (show m+1+1+1+1+1+1+1+1+1=m+((mn y:Nat):Int) by unfold mn;omega) rfl)))
  · intro l m hl;simp only [hl,iG,PC]
def km (x:hX):Nat:=2
def vZ (x:hX) (n:Int):hX:=hX.mk (n) (n+1)
theorem Hg (x:hX):km x≤16 * (1+0):=by
  unfold km;omega
theorem A7:∀ l:List hX,gW km l≤16 * (l.length)
  | []=>Nat.zero_le _
  | y::l=>by
    have h1:=A7 l;have h2:km y≤16 * (1+0):=Hg y;simp only [gW,List.length_cons] at h1 h2 ⊢;omega
theorem KJ (N:Nat) (x:hX):qu N x x=some true:=by simp [qu]
theorem IH {N:Nat} (hN:gT≤N) {x:List hX} (hb:x.length<gT):oS N x x=some true:=uY x (qu N) (fun y hy=>KJ N y) (Nat.lt_of_lt_of_le hb (by decide)) (Nat.lt_of_lt_of_le hb hN)
theorem D1 {N:Nat} (hN:gT≤N) {x:List hX} {n:Int} (hb:x.length<gT) (h0:0≤n) (h1:n+((gW km x:Nat):Int)≤4611686018427387904):pf N x n=some (n+((gW km x:Nat):Int),jV vZ km n x):=by
  unfold pf;rw [pK x n vZ km (Nat.lt_of_lt_of_le hb hN) h0 h1]
  · rfl
  · intro l k m y hl hk hy hm p0 p1
    have hkl:k<l.length:=by omega
    have hkB:k<gT:=Nat.lt_trans hk hb;have p1':m+((km y:Nat):Int)≤4611686018427387904:=p1;unfold km at p1';simp only [iF hkl,PD,ik,hy,PB,Int.toNat_natCast,List.getElem?_set_self hkl,List.set_set,kc (kf _ _ _ _),iJ hkB,iw (n:=m) (by omega) (by omega),iw (n:=m+1) (by omega) (by omega)];exact congrArg some (congrArg Sum.inl (Prod.ext rfl (Prod.ext (show m+1+1=m+((km y:Nat):Int) by unfold km;omega) rfl)))
  · intro l m hl;simp only [hl,iG,PC]
theorem DM {N:Nat} (hN:gT≤N) {x:List hX} {n:Int} (hb:x.length<gT) (h0:0≤n) (h1:n+((gW km x:Nat):Int)≤4611686018427387904):nq N (jV vZ km n x) n=some (n+((gW km x:Nat):Int)):=by
  unfold nq;simp only [kf];rw [tb x n vZ km (Nat.lt_of_lt_of_le hb hN) h0 h1]
  · rfl
  · intro k m y hk hy hm p0 p1;have hkB:k<gT:=Nat.lt_trans hk hb;have p1':m+((km y:Nat):Int)≤4611686018427387904:=p1;unfold km at p1';simp only [iF hk,PD,ik,hy,PB,vZ,bne_self_eq_false,beq_self_eq_true,PE,PC,iJ hkB,iw (n:=m) (by omega) (by omega),iw (n:=m+1) (by omega) (by omega)];exact congrArg some (congrArg Sum.inl (Prod.ext (show m+1+1=m+((km y:Nat):Int) by unfold km;omega) rfl))
  · intro m;simp only [iG,PC]
def iV (x:g6):Nat:=5
def xI (x:g6) (n:Int):g6:=g6.mk (((Int.tmod (n) 3)==0)) (n+1) (hO.mk (n+1+1) (n+1+1+1) (n+1+1+1+1))
theorem Kt (x:g6):iV x≤16 * (1+0):=by
  unfold iV;omega
theorem DV:∀ l:List g6,gW iV l≤16 * (l.length)
  | []=>Nat.zero_le _
  | y::l=>by
    have h1:=DV l;have h2:iV y≤16 * (1+0):=Kt y;simp only [gW,List.length_cons] at h1 h2 ⊢;omega
theorem M3 (N:Nat) (x:g6):tB N x x=some true:=by simp [tB,EC]
theorem LZ {N:Nat} (hN:gT≤N) {x:List g6} (hb:x.length<gT):vz N x x=some true:=uY x (tB N) (fun y hy=>M3 N y) (Nat.lt_of_lt_of_le hb (by decide)) (Nat.lt_of_lt_of_le hb hN)
theorem Ig {N:Nat} (hN:gT≤N) {x:List g6} {n:Int} (hb:x.length<gT) (h0:0≤n) (h1:n+((gW iV x:Nat):Int)≤4611686018427387904):qR N x n=some (n+((gW iV x:Nat):Int),jV xI iV n x):=by
  unfold qR;rw [pK x n xI iV (Nat.lt_of_lt_of_le hb hN) h0 h1]
  · rfl
  · intro l k m y hl hk hy hm p0 p1
    have hkl:k<l.length:=by omega
    have hkB:k<gT:=Nat.lt_trans hk hb;have p1':m+((iV y:Nat):Int)≤4611686018427387904:=p1;unfold iV at p1';simp only [iF hkl,PD,ik,hy,PB,Int.toNat_natCast,List.getElem?_set_self hkl,List.set_set,kc (kf _ _ _ _),iJ hkB,iw (n:=m) (by omega) (by omega),iw (n:=m+1) (by omega) (by omega),iw (n:=m+1+1) (by omega) (by omega),iw (n:=m+1+1+1) (by omega) (by omega),iw (n:=m+1+1+1+1) (by omega) (by omega)];exact congrArg some (congrArg Sum.inl (Prod.ext rfl (Prod.ext (show m+1+1+1+1+1=m+((iV y:Nat):Int) by unfold iV;omega) rfl)))
  · intro l m hl;simp only [hl,iG,PC]
theorem Ib {N:Nat} (hN:gT≤N) {x:List g6} {n:Int} (hb:x.length<gT) (h0:0≤n) (h1:n+((gW iV x:Nat):Int)≤4611686018427387904):rH N (jV xI iV n x) n=some (n+((gW iV x:Nat):Int)):=by
  unfold rH;simp only [kf];rw [tb x n xI iV (Nat.lt_of_lt_of_le hb hN) h0 h1]
  · rfl
  · intro k m y hk hy hm p0 p1;have hkB:k<gT:=Nat.lt_trans hk hb;have p1':m+((iV y:Nat):Int)≤4611686018427387904:=p1;unfold iV at p1';simp only [iF hk,PD,ik,hy,PB,xI,bne_self_eq_false,beq_self_eq_true,PE,PC,iJ hkB,iw (n:=m) (by omega) (by omega),iw (n:=m+1) (by omega) (by omega),iw (n:=m+1+1) (by omega) (by omega),iw (n:=m+1+1+1) (by omega) (by omega),iw (n:=m+1+1+1+1) (by omega) (by omega)];exact congrArg some (congrArg Sum.inl (Prod.ext (show m+1+1+1+1+1=m+((iV y:Nat):Int) by unfold iV;omega) rfl))
  · intro m;simp only [iG,PC]
def jv (x:iB):Nat:=6
def xu (x:iB) (n:Int):iB:=iB.mk (n) (n+1) (n+1+1) (n+1+1+1) (n+1+1+1+1) (n+1+1+1+1+1)
theorem Ka (x:iB):jv x≤16 * (1+0):=by
  unfold jv;omega
theorem Eb:∀ l:List iB,gW jv l≤16 * (l.length)
  | []=>Nat.zero_le _
  | y::l=>by
    have h1:=Eb l;have h2:jv y≤16 * (1+0):=Ka y;simp only [gW,List.length_cons] at h1 h2 ⊢;omega
theorem Mt (N:Nat) (x:iB):tE N x x=some true:=by simp [tE]
theorem LR {N:Nat} (hN:gT≤N) {x:List iB} (hb:x.length<gT):vK N x x=some true:=uY x (tE N) (fun y hy=>Mt N y) (Nat.lt_of_lt_of_le hb (by decide)) (Nat.lt_of_lt_of_le hb hN)
theorem HR {N:Nat} (hN:gT≤N) {x:List iB} {n:Int} (hb:x.length<gT) (h0:0≤n) (h1:n+((gW jv x:Nat):Int)≤4611686018427387904):rr N x n=some (n+((gW jv x:Nat):Int),jV xu jv n x):=by
  unfold rr;rw [pK x n xu jv (Nat.lt_of_lt_of_le hb hN) h0 h1]
  · rfl
  · intro l k m y hl hk hy hm p0 p1
    have hkl:k<l.length:=by omega
    have hkB:k<gT:=Nat.lt_trans hk hb;have p1':m+((jv y:Nat):Int)≤4611686018427387904:=p1;unfold jv at p1';simp only [iF hkl,PD,ik,hy,PB,Int.toNat_natCast,List.getElem?_set_self hkl,List.set_set,kc (kf _ _ _ _),iJ hkB,iw (n:=m) (by omega) (by omega),iw (n:=m+1) (by omega) (by omega),iw (n:=m+1+1) (by omega) (by omega),iw (n:=m+1+1+1) (by omega) (by omega),iw (n:=m+1+1+1+1) (by omega) (by omega),iw (n:=m+1+1+1+1+1) (by omega) (by omega)];exact congrArg some (congrArg Sum.inl (Prod.ext rfl (Prod.ext (show m+1+1+1+1+1+1=m+((jv y:Nat):Int) by unfold jv;omega) rfl)))
  · intro l m hl;simp only [hl,iG,PC]
theorem H6 {N:Nat} (hN:gT≤N) {x:List iB} {n:Int} (hb:x.length<gT) (h0:0≤n) (h1:n+((gW jv x:Nat):Int)≤4611686018427387904):rC N (jV xu jv n x) n=some (n+((gW jv x:Nat):Int)):=by
  unfold rC;simp only [kf];rw [tb x n xu jv (Nat.lt_of_lt_of_le hb hN) h0 h1]
  · rfl
  · intro k m y hk hy hm p0 p1;have hkB:k<gT:=Nat.lt_trans hk hb;have p1':m+((jv y:Nat):Int)≤4611686018427387904:=p1;unfold jv at p1';simp only [iF hk,PD,ik,hy,PB,xu,bne_self_eq_false,beq_self_eq_true,PE,PC,iJ hkB,iw (n:=m) (by omega) (by omega),iw (n:=m+1) (by omega) (by omega),iw (n:=m+1+1) (by omega) (by omega),iw (n:=m+1+1+1) (by omega) (by omega),iw (n:=m+1+1+1+1) (by omega) (by omega),iw (n:=m+1+1+1+1+1) (by omega) (by omega)];exact congrArg some (congrArg Sum.inl (Prod.ext (show m+1+1+1+1+1+1=m+((jv y:Nat):Int) by unfold jv;omega) rfl))
  · intro m;simp only [iG,PC]
def kG (x:iM):Nat:=2
def xt (x:iM) (n:Int):iM:=iM.mk (n) (n+1)
theorem KS (x:iM):kG x≤16 * (1+0):=by
  unfold kG;omega
theorem Dk:∀ l:List iM,gW kG l≤16 * (l.length)
  | []=>Nat.zero_le _
  | y::l=>by
    have h1:=Dk l;have h2:kG y≤16 * (1+0):=KS y;simp only [gW,List.length_cons] at h1 h2 ⊢;omega
theorem MQ (N:Nat) (x:iM):tA N x x=some true:=by simp [tA]
theorem Me {N:Nat} (hN:gT≤N) {x:List iM} (hb:x.length<gT):vG N x x=some true:=uY x (tA N) (fun y hy=>MQ N y) (Nat.lt_of_lt_of_le hb (by decide)) (Nat.lt_of_lt_of_le hb hN)
theorem Hj {N:Nat} (hN:gT≤N) {x:List iM} {n:Int} (hb:x.length<gT) (h0:0≤n) (h1:n+((gW kG x:Nat):Int)≤4611686018427387904):qW N x n=some (n+((gW kG x:Nat):Int),jV xt kG n x):=by
  unfold qW;rw [pK x n xt kG (Nat.lt_of_lt_of_le hb hN) h0 h1]
  · rfl
  · intro l k m y hl hk hy hm p0 p1
    have hkl:k<l.length:=by omega
    have hkB:k<gT:=Nat.lt_trans hk hb;have p1':m+((kG y:Nat):Int)≤4611686018427387904:=p1;unfold kG at p1';simp only [iF hkl,PD,ik,hy,PB,Int.toNat_natCast,List.getElem?_set_self hkl,List.set_set,kc (kf _ _ _ _),iJ hkB,iw (n:=m) (by omega) (by omega),iw (n:=m+1) (by omega) (by omega)];exact congrArg some (congrArg Sum.inl (Prod.ext rfl (Prod.ext (show m+1+1=m+((kG y:Nat):Int) by unfold kG;omega) rfl)))
  · intro l m hl;simp only [hl,iG,PC]
theorem HC {N:Nat} (hN:gT≤N) {x:List iM} {n:Int} (hb:x.length<gT) (h0:0≤n) (h1:n+((gW kG x:Nat):Int)≤4611686018427387904):rA N (jV xt kG n x) n=some (n+((gW kG x:Nat):Int)):=by
  unfold rA;simp only [kf];rw [tb x n xt kG (Nat.lt_of_lt_of_le hb hN) h0 h1]
  · rfl
  · intro k m y hk hy hm p0 p1;have hkB:k<gT:=Nat.lt_trans hk hb;have p1':m+((kG y:Nat):Int)≤4611686018427387904:=p1;unfold kG at p1';simp only [iF hk,PD,ik,hy,PB,xt,bne_self_eq_false,beq_self_eq_true,PE,PC,iJ hkB,iw (n:=m) (by omega) (by omega),iw (n:=m+1) (by omega) (by omega)];exact congrArg some (congrArg Sum.inl (Prod.ext (show m+1+1=m+((kG y:Nat):Int) by unfold kG;omega) rfl))
  · intro m;simp only [iG,PC]
def jU (x:iY):Nat:=x.Pd.length+(0)
theorem Kb {N:Nat} (hN:gT≤N) {x:iY} {b:Int} (h0:0≤b) (h1:b≤1048576) (hx:Fit.fit x):uP N x b=some (left b (jU x)) :=
  DK h0 h1 (JP hN h0 h1 hx) fun b h0 h1=>by rw [CA h0]
theorem KH {N:Nat} (hN:gT≤N) {x:iY} (hb:jU x<gT):sV N x=some x:=by
  have b0:x.Pd.length<gT:=by unfold jU at hb;omega
  simp [sV,IG hN b0]
theorem Ex {N:Nat} (hN:gT≤N) {x:iY} (hb:jU x<gT):qy N x x=some true:=by
  have b0:x.Pd.length<gT:=by unfold jU at hb;omega
  simp [qy,xK hN b0]
def jm (x:iO):Nat:=jU x.Pe+(x.own.length+(0))
def mY (x:iO):Nat:=3+gW ia x.Pe.Pd+gW ia x.own
def Gi (x:iO) (n:Int):iO:=iO.mk (iY.mk (jV s5 ia (n) x.Pe.Pd)) (jV s5 ia ((n+((gW ia x.Pe.Pd:Nat):Int))) x.own) (hO.mk (((n+((gW ia x.Pe.Pd:Nat):Int))+((gW ia x.own:Nat):Int))) (((n+((gW ia x.Pe.Pd:Nat):Int))+((gW ia x.own:Nat):Int))+1) (((n+((gW ia x.Pe.Pd:Nat):Int))+((gW ia x.own:Nat):Int))+1+1))
theorem JX (x:iO):mY x≤16 * (1+jm x):=by
  unfold mY jm jU;have:=tH x.Pe.Pd;have:=tH x.own;omega
theorem Ch:∀ l:List iO,gW mY l≤16 * (iQ jm l)
  | []=>Nat.zero_le _
  | y::l=>by
    have h1:=Ch l;have h2:mY y≤16 * (1+jm y):=JX y;simp only [gW,iQ,List.length_cons] at h1 h2 ⊢;omega
theorem Mo {N:Nat} (hN:gT≤N) {x:iO} {b:Int} (h0:0≤b) (h1:b≤1048576) (hx:Fit.fit x):o6 N x b=some (left b (jm x)) :=
  DK h0 h1 (Kb hN h0 h1 hx.1) fun b h0 h1=>DK h0 h1 (JP hN h0 h1 hx.2.1) fun b h0 h1=>by rw [CA h0]
theorem KP {N:Nat} (hN:gT≤N) {x:List iO} {b:Int} (h0:0≤b) (h1:b≤1048576) (hx:Fit.fit x):qK N x b=some (left b (iQ jm x)) :=
  Np x b h0 h1 hx.1 (o6 N) jm (fun y hy b h0 h1=>Mo hN h0 h1 (hx.2 y hy)) hN
theorem L6 {N:Nat} (hN:gT≤N) {x:iO} (hb:jm x<gT):nu N x=some x:=by
  have b0:jU x.Pe<gT:=by unfold jm at hb;omega
  have b1:x.own.length<gT:=by unfold jm at hb;omega
  simp [nu,KH hN b0,IG hN b1,MJ]
theorem Kg {N:Nat} (hN:gT≤N) {x:List iO} (hb:iQ jm x<gT):lX N x=some x:=Ax x (nu N) (fun y hy=>L6 hN (jh hb hy)) (jj hb) (Nat.lt_of_lt_of_le (jj hb) hN)
theorem L8 {N:Nat} (hN:gT≤N) {x:iO} (hb:jm x<gT):ns N x x=some true:=by
  have b0:jU x.Pe<gT:=by unfold jm at hb;omega
  have b1:x.own.length<gT:=by unfold jm at hb;omega
  simp [ns,Ex hN b0,xK hN b1,EC]
theorem Ky {N:Nat} (hN:gT≤N) {x:List iO} (hb:iQ jm x<gT):qM N x x=some true:=uY x (ns N) (fun y hy=>L8 hN (jh hb hy)) (Nat.lt_of_lt_of_le (jj hb) (by decide)) (Nat.lt_of_lt_of_le (jj hb) hN)
theorem Ge {N:Nat} (hN:gT≤N) {x:List iO} {n:Int} (hb:iQ jm x<gT) (h0:0≤n) (h1:n+((gW mY x:Nat):Int)≤4611686018427387904):m7 N x n=some (n+((gW mY x:Nat):Int),jV Gi mY n x):=by
  unfold m7;rw [pK x n Gi mY (Nat.lt_of_lt_of_le (jj hb) hN) h0 h1]
  · rfl
  · intro l k m y hl hk hy hm p0 p1
    have hkl:k<l.length:=by omega
    have hkB:k<gT:=Nat.lt_trans hk (jj hb);have hy':=jh hb hm;unfold jm jU at hy';have p1':m+((mY y:Nat):Int)≤4611686018427387904:=p1;unfold mY at p1';simp only [iF hkl,PD,ik,hy,PB,Int.toNat_natCast,List.getElem?_set_self hkl,List.set_set,kc (kf _ _ _ _),iJ hkB,iw (n:=((m+((gW ia y.Pe.Pd:Nat):Int))+((gW ia y.own:Nat):Int))) (by omega) (by omega),iw (n:=((m+((gW ia y.Pe.Pd:Nat):Int))+((gW ia y.own:Nat):Int))+1) (by omega) (by omega),iw (n:=((m+((gW ia y.Pe.Pd:Nat):Int))+((gW ia y.own:Nat):Int))+1+1) (by omega) (by omega),rD hN (n:=m) (x:=y.Pe.Pd) (by omega) (by omega) (by omega),rD hN (n:=(m+((gW ia y.Pe.Pd:Nat):Int))) (x:=y.own) (by omega) (by omega) (by omega)];exact congrArg some (congrArg Sum.inl (Prod.ext rfl (Prod.ext (show ((m+((gW ia y.Pe.Pd:Nat):Int))+((gW ia y.own:Nat):Int))+1+1+1=m+((mY y:Nat):Int) by unfold mY;omega) rfl)))
  · intro l m hl;simp only [hl,iG,PC]
def hY (x:gP):Nat:=x.gZ.length+(x.Po.length+(x.Pk.length+(0)))
def iX (x:gP):Nat:=10+gW ia x.gZ+gW ia x.Po+gW kG x.Pk
def xw (x:gP) (n:Int):gP:=gP.mk (n) (n+1) (n+1+1) (n+1+1+1) (n+1+1+1+1) (n+1+1+1+1+1) (n+1+1+1+1+1+1) (n+1+1+1+1+1+1+1) (n+1+1+1+1+1+1+1+1) (((Int.tmod (n+1+1+1+1+1+1+1+1+1) 3)==0)) (jV s5 ia (n+1+1+1+1+1+1+1+1+1+1) x.gZ) (jV s5 ia ((n+1+1+1+1+1+1+1+1+1+1+((gW ia x.gZ:Nat):Int))) x.Po) (jV xt kG (((n+1+1+1+1+1+1+1+1+1+1+((gW ia x.gZ:Nat):Int))+((gW ia x.Po:Nat):Int))) x.Pk)
theorem KE (x:gP):iX x≤16 * (1+hY x):=by
  unfold iX hY;have:=tH x.gZ;have:=tH x.Po;have:=Dk x.Pk;omega
theorem EF:∀ l:List gP,gW iX l≤16 * (iQ hY l)
  | []=>Nat.zero_le _
  | y::l=>by
    have h1:=EF l;have h2:iX y≤16 * (1+hY y):=KE y;simp only [gW,iQ,List.length_cons] at h1 h2 ⊢;omega
theorem Na {N:Nat} (hN:gT≤N) {x:gP} (hb:hY x<gT):tK N x x=some true:=by
  have b0:x.gZ.length<gT:=by unfold hY at hb;omega
  have b1:x.Po.length<gT:=by unfold hY at hb;omega
  have b2:x.Pk.length<gT:=by unfold hY at hb;omega
  simp [tK,xK hN b0,xK hN b1,Me hN b2]
theorem Mg {N:Nat} (hN:gT≤N) {x:List gP} (hb:iQ hY x<gT):vJ N x x=some true:=uY x (tK N) (fun y hy=>Na hN (jh hb hy)) (Nat.lt_of_lt_of_le (jj hb) (by decide)) (Nat.lt_of_lt_of_le (jj hb) hN)
theorem Hc {N:Nat} (hN:gT≤N) {x:List gP} {n:Int} (hb:iQ hY x<gT) (h0:0≤n) (h1:n+((gW iX x:Nat):Int)≤4611686018427387904):rR N x n=some (n+((gW iX x:Nat):Int),jV xw iX n x):=by
  unfold rR;rw [pK x n xw iX (Nat.lt_of_lt_of_le (jj hb) hN) h0 h1]
  · rfl
  · intro l k m y hl hk hy hm p0 p1
    have hkl:k<l.length:=by omega
    have hkB:k<gT:=Nat.lt_trans hk (jj hb);have hy':=jh hb hm;unfold hY at hy';have p1':m+((iX y:Nat):Int)≤4611686018427387904:=p1;unfold iX at p1';simp only [iF hkl,PD,ik,hy,PB,Int.toNat_natCast,List.getElem?_set_self hkl,List.set_set,kc (kf _ _ _ _),iJ hkB,iw (n:=m) (by omega) (by omega),iw (n:=m+1) (by omega) (by omega),iw (n:=m+1+1) (by omega) (by omega),iw (n:=m+1+1+1) (by omega) (by omega),iw (n:=m+1+1+1+1) (by omega) (by omega),iw (n:=m+1+1+1+1+1) (by omega) (by omega),iw (n:=m+1+1+1+1+1+1) (by omega) (by omega),iw (n:=m+1+1+1+1+1+1+1) (by omega) (by omega),iw (n:=m+1+1+1+1+1+1+1+1) (by omega) (by omega),iw (n:=m+1+1+1+1+1+1+1+1+1) (by omega) (by omega),rD hN (n:=m+1+1+1+1+1+1+1+1+1+1) (x:=y.gZ) (by omega) (by omega) (by omega),rD hN (n:=(m+1+1+1+1+1+1+1+1+1+1+((gW ia y.gZ:Nat):Int))) (x:=y.Po) (by omega) (by omega) (by omega),Hj hN (n:=((m+1+1+1+1+1+1+1+1+1+1+((gW ia y.gZ:Nat):Int))+((gW ia y.Po:Nat):Int))) (x:=y.Pk) (by omega) (by omega) (by omega)];exact congrArg some (congrArg Sum.inl (Prod.ext rfl (Prod.ext (show (((m+1+1+1+1+1+1+1+1+1+1+((gW ia y.gZ:Nat):Int))+((gW ia y.Po:Nat):Int))+((gW kG y.Pk:Nat):Int))=m+((iX y:Nat):Int) by unfold iX;omega) rfl)))
  · intro l m hl;simp only [hl,iG,PC]
theorem Ic {N:Nat} (hN:gT≤N) {x:List gP} {n:Int} (hb:iQ hY x<gT) (h0:0≤n) (h1:n+((gW iX x:Nat):Int)≤4611686018427387904):ru N (jV xw iX n x) n=some (n+((gW iX x:Nat):Int)):=by
  unfold ru;simp only [kf];rw [tb x n xw iX (Nat.lt_of_lt_of_le (jj hb) hN) h0 h1]
  · rfl
  · intro k m y hk hy hm p0 p1;have hkB:k<gT:=Nat.lt_trans hk (jj hb);have hy':=jh hb hm;unfold hY at hy';have p1':m+((iX y:Nat):Int)≤4611686018427387904:=p1;unfold iX at p1';simp only [iF hk,PD,ik,hy,PB,xw,bne_self_eq_false,beq_self_eq_true,PE,PC,iJ hkB,iw (n:=m) (by omega) (by omega),iw (n:=m+1) (by omega) (by omega),iw (n:=m+1+1) (by omega) (by omega),iw (n:=m+1+1+1) (by omega) (by omega),iw (n:=m+1+1+1+1) (by omega) (by omega),iw (n:=m+1+1+1+1+1) (by omega) (by omega),iw (n:=m+1+1+1+1+1+1) (by omega) (by omega),iw (n:=m+1+1+1+1+1+1+1) (by omega) (by omega),iw (n:=m+1+1+1+1+1+1+1+1) (by omega) (by omega),iw (n:=m+1+1+1+1+1+1+1+1+1) (by omega) (by omega),vg hN (n:=m+1+1+1+1+1+1+1+1+1+1) (x:=y.gZ) (by omega) (by omega) (by omega),decide_eq_false (show ¬ ((m+1+1+1+1+1+1+1+1+1+1+((gW ia y.gZ:Nat):Int))<0) by omega),vg hN (n:=(m+1+1+1+1+1+1+1+1+1+1+((gW ia y.gZ:Nat):Int))) (x:=y.Po) (by omega) (by omega) (by omega),decide_eq_false (show ¬ (((m+1+1+1+1+1+1+1+1+1+1+((gW ia y.gZ:Nat):Int))+((gW ia y.Po:Nat):Int))<0) by omega),HC hN (n:=((m+1+1+1+1+1+1+1+1+1+1+((gW ia y.gZ:Nat):Int))+((gW ia y.Po:Nat):Int))) (x:=y.Pk) (by omega) (by omega) (by omega),decide_eq_false (show ¬ ((((m+1+1+1+1+1+1+1+1+1+1+((gW ia y.gZ:Nat):Int))+((gW ia y.Po:Nat):Int))+((gW kG y.Pk:Nat):Int))<0) by omega)];exact congrArg some (congrArg Sum.inl (Prod.ext (show (((m+1+1+1+1+1+1+1+1+1+1+((gW ia y.gZ:Nat):Int))+((gW ia y.Po:Nat):Int))+((gW kG y.Pk:Nat):Int))=m+((iX y:Nat):Int) by unfold iX;omega) rfl))
  · intro m;simp only [iG,PC]
def oV (x:i7):Nat:=x.gQ.length+(0)
theorem NQ {N:Nat} (hN:gT≤N) {x:i7} (hb:oV x<gT):wa N x x=some true:=by
  have b0:x.gQ.length<gT:=by unfold oV at hb;omega
  simp [wa,xK hN b0]
def k5 (x:g7):Nat:=iQ hY x.ag+(oV x.gc+(0))
theorem Lw {N:Nat} (hN:gT≤N) {x:g7} (hb:k5 x<gT):uo N x x=some true:=by
  have b0:iQ hY x.ag<gT:=by unfold k5 at hb;omega
  have b1:oV x.gc<gT:=by unfold k5 at hb;omega
  simp [uo,Mg hN b0,NQ hN b1]
def ic (x:bh):Nat:=jU x.Pe+(x.own.length+(x.Pg.length+(k5 x.py+(x.gR.length+(0)))))
def jL (x:bh):Nat:=10+gW ia x.Pe.Pd+gW ia x.own+gW iV x.Pg+gW iX x.py.ag+gW ia x.py.gc.gQ+gW jv x.gR
def tG (x:bh) (n:Int):bh:=bh.mk (iY.mk (jV s5 ia (n) x.Pe.Pd)) (jV s5 ia ((n+((gW ia x.Pe.Pd:Nat):Int))) x.own) (jV xI iV (((n+((gW ia x.Pe.Pd:Nat):Int))+((gW ia x.own:Nat):Int))) x.Pg) (g7.mk (jV xw iX ((((n+((gW ia x.Pe.Pd:Nat):Int))+((gW ia x.own:Nat):Int))+((gW iV x.Pg:Nat):Int))) x.py.ag) (i7.mk (((((n+((gW ia x.Pe.Pd:Nat):Int))+((gW ia x.own:Nat):Int))+((gW iV x.Pg:Nat):Int))+((gW iX x.py.ag:Nat):Int))) (((((n+((gW ia x.Pe.Pd:Nat):Int))+((gW ia x.own:Nat):Int))+((gW iV x.Pg:Nat):Int))+((gW iX x.py.ag:Nat):Int))+1) (((((n+((gW ia x.Pe.Pd:Nat):Int))+((gW ia x.own:Nat):Int))+((gW iV x.Pg:Nat):Int))+((gW iX x.py.ag:Nat):Int))+1+1) (jV s5 ia (((((n+((gW ia x.Pe.Pd:Nat):Int))+((gW ia x.own:Nat):Int))+((gW iV x.Pg:Nat):Int))+((gW iX x.py.ag:Nat):Int))+1+1+1) x.py.gc.gQ))) (jV xu jv ((((((n+((gW ia x.Pe.Pd:Nat):Int))+((gW ia x.own:Nat):Int))+((gW iV x.Pg:Nat):Int))+((gW iX x.py.ag:Nat):Int))+1+1+1+((gW ia x.py.gc.gQ:Nat):Int))) x.gR) (((((((n+((gW ia x.Pe.Pd:Nat):Int))+((gW ia x.own:Nat):Int))+((gW iV x.Pg:Nat):Int))+((gW iX x.py.ag:Nat):Int))+1+1+1+((gW ia x.py.gc.gQ:Nat):Int))+((gW jv x.gR:Nat):Int))) (((((((n+((gW ia x.Pe.Pd:Nat):Int))+((gW ia x.own:Nat):Int))+((gW iV x.Pg:Nat):Int))+((gW iX x.py.ag:Nat):Int))+1+1+1+((gW ia x.py.gc.gQ:Nat):Int))+((gW jv x.gR:Nat):Int))+1) (hO.mk (((((((n+((gW ia x.Pe.Pd:Nat):Int))+((gW ia x.own:Nat):Int))+((gW iV x.Pg:Nat):Int))+((gW iX x.py.ag:Nat):Int))+1+1+1+((gW ia x.py.gc.gQ:Nat):Int))+((gW jv x.gR:Nat):Int))+1+1) (((((((n+((gW ia x.Pe.Pd:Nat):Int))+((gW ia x.own:Nat):Int))+((gW iV x.Pg:Nat):Int))+((gW iX x.py.ag:Nat):Int))+1+1+1+((gW ia x.py.gc.gQ:Nat):Int))+((gW jv x.gR:Nat):Int))+1+1+1) (((((((n+((gW ia x.Pe.Pd:Nat):Int))+((gW ia x.own:Nat):Int))+((gW iV x.Pg:Nat):Int))+((gW iX x.py.ag:Nat):Int))+1+1+1+((gW ia x.py.gc.gQ:Nat):Int))+((gW jv x.gR:Nat):Int))+1+1+1+1)) (((((((n+((gW ia x.Pe.Pd:Nat):Int))+((gW ia x.own:Nat):Int))+((gW iV x.Pg:Nat):Int))+((gW iX x.py.ag:Nat):Int))+1+1+1+((gW ia x.py.gc.gQ:Nat):Int))+((gW jv x.gR:Nat):Int))+1+1+1+1+1) (((((((n+((gW ia x.Pe.Pd:Nat):Int))+((gW ia x.own:Nat):Int))+((gW iV x.Pg:Nat):Int))+((gW iX x.py.ag:Nat):Int))+1+1+1+((gW ia x.py.gc.gQ:Nat):Int))+((gW jv x.gR:Nat):Int))+1+1+1+1+1+1)
theorem IS (x:bh):jL x≤16 * (1+ic x):=by
  unfold jL ic jU k5 oV;have:=tH x.Pe.Pd;have:=tH x.own;have:=DV x.Pg;have:=EF x.py.ag;have:=tH x.py.gc.gQ;have:=Eb x.gR;omega
theorem Cb:∀ l:List bh,gW jL l≤16 * (iQ ic l)
  | []=>Nat.zero_le _
  | y::l=>by
    have h1:=Cb l;have h2:jL y≤16 * (1+ic y):=IS y;simp only [gW,iQ,List.length_cons] at h1 h2 ⊢;omega
theorem LL {N:Nat} (hN:gT≤N) {x:bh} (hb:ic x<gT):sb N x x=some true:=by
  have b0:jU x.Pe<gT:=by unfold ic at hb;omega
  have b1:x.own.length<gT:=by unfold ic at hb;omega
  have b2:x.Pg.length<gT:=by unfold ic at hb;omega
  have b3:k5 x.py<gT:=by unfold ic at hb;omega
  have b4:x.gR.length<gT:=by unfold ic at hb;omega
  simp [sb,Ex hN b0,xK hN b1,LZ hN b2,Lw hN b3,LR hN b4,EC]
theorem Km {N:Nat} (hN:gT≤N) {x:List bh} (hb:iQ ic x<gT):uO N x x=some true:=uY x (sb N) (fun y hy=>LL hN (jh hb hy)) (Nat.lt_of_lt_of_le (jj hb) (by decide)) (Nat.lt_of_lt_of_le (jj hb) hN)
theorem Fe {N:Nat} (hN:gT≤N) {x:List bh} {n:Int} (hb:iQ ic x<gT) (h0:0≤n) (h1:n+((gW jL x:Nat):Int)≤4611686018427387904):qh N x n=some (n+((gW jL x:Nat):Int),jV tG jL n x):=by
  unfold qh;rw [pK x n tG jL (Nat.lt_of_lt_of_le (jj hb) hN) h0 h1]
  · rfl
  · intro l k m y hl hk hy hm p0 p1
    have hkl:k<l.length:=by omega
    have hkB:k<gT:=Nat.lt_trans hk (jj hb);have hy':=jh hb hm;unfold ic jU k5 oV at hy';have p1':m+((jL y:Nat):Int)≤4611686018427387904:=p1;unfold jL at p1';simp only [iF hkl,PD,ik,hy,PB,Int.toNat_natCast,List.getElem?_set_self hkl,List.set_set,kc (kf _ _ _ _),iJ hkB,iw (n:=((((m+((gW ia y.Pe.Pd:Nat):Int))+((gW ia y.own:Nat):Int))+((gW iV y.Pg:Nat):Int))+((gW iX y.py.ag:Nat):Int))) (by omega) (by omega),iw (n:=((((m+((gW ia y.Pe.Pd:Nat):Int))+((gW ia y.own:Nat):Int))+((gW iV y.Pg:Nat):Int))+((gW iX y.py.ag:Nat):Int))+1) (by omega) (by omega),iw (n:=((((m+((gW ia y.Pe.Pd:Nat):Int))+((gW ia y.own:Nat):Int))+((gW iV y.Pg:Nat):Int))+((gW iX y.py.ag:Nat):Int))+1+1) (by omega) (by omega),iw (n:=((((((m+((gW ia y.Pe.Pd:Nat):Int))+((gW ia y.own:Nat):Int))+((gW iV y.Pg:Nat):Int))+((gW iX y.py.ag:Nat):Int))+1+1+1+((gW ia y.py.gc.gQ:Nat):Int))+((gW jv y.gR:Nat):Int))) (by omega) (by omega),iw (n:=((((((m+((gW ia y.Pe.Pd:Nat):Int))+((gW ia y.own:Nat):Int))+((gW iV y.Pg:Nat):Int))+((gW iX y.py.ag:Nat):Int))+1+1+1+((gW ia y.py.gc.gQ:Nat):Int))+((gW jv y.gR:Nat):Int))+1) (by omega) (by omega),iw (n:=((((((m+((gW ia y.Pe.Pd:Nat):Int))+((gW ia y.own:Nat):Int))+((gW iV y.Pg:Nat):Int))+((gW iX y.py.ag:Nat):Int))+1+1+1+((gW ia y.py.gc.gQ:Nat):Int))+((gW jv y.gR:Nat):Int))+1+1) (by omega) (by omega),iw (n:=((((((m+((gW ia y.Pe.Pd:Nat):Int))+((gW ia y.own:Nat):Int))+((gW iV y.Pg:Nat):Int))+((gW iX y.py.ag:Nat):Int))+1+1+1+((gW ia y.py.gc.gQ:Nat):Int))+((gW jv y.gR:Nat):Int))+1+1+1) (by omega) (by omega),iw (n:=((((((m+((gW ia y.Pe.Pd:Nat):Int))+((gW ia y.own:Nat):Int))+((gW iV y.Pg:Nat):Int))+((gW iX y.py.ag:Nat):Int))+1+1+1+((gW ia y.py.gc.gQ:Nat):Int))+((gW jv y.gR:Nat):Int))+1+1+1+1) (by omega) (by omega),iw (n:=((((((m+((gW ia y.Pe.Pd:Nat):Int))+((gW ia y.own:Nat):Int))+((gW iV y.Pg:Nat):Int))+((gW iX y.py.ag:Nat):Int))+1+1+1+((gW ia y.py.gc.gQ:Nat):Int))+((gW jv y.gR:Nat):Int))+1+1+1+1+1) (by omega) (by omega),iw (n:=((((((m+((gW ia y.Pe.Pd:Nat):Int))+((gW ia y.own:Nat):Int))+((gW iV y.Pg:Nat):Int))+((gW iX y.py.ag:Nat):Int))+1+1+1+((gW ia y.py.gc.gQ:Nat):Int))+((gW jv y.gR:Nat):Int))+1+1+1+1+1+1) (by omega) (by omega),rD hN (n:=m) (x:=y.Pe.Pd) (by omega) (by omega) (by omega),rD hN (n:=(m+((gW ia y.Pe.Pd:Nat):Int))) (x:=y.own) (by omega) (by omega) (by omega),Ig hN (n:=((m+((gW ia y.Pe.Pd:Nat):Int))+((gW ia y.own:Nat):Int))) (x:=y.Pg) (by omega) (by omega) (by omega),Hc hN (n:=(((m+((gW ia y.Pe.Pd:Nat):Int))+((gW ia y.own:Nat):Int))+((gW iV y.Pg:Nat):Int))) (x:=y.py.ag) (by omega) (by omega) (by omega),rD hN (n:=((((m+((gW ia y.Pe.Pd:Nat):Int))+((gW ia y.own:Nat):Int))+((gW iV y.Pg:Nat):Int))+((gW iX y.py.ag:Nat):Int))+1+1+1) (x:=y.py.gc.gQ) (by omega) (by omega) (by omega),HR hN (n:=(((((m+((gW ia y.Pe.Pd:Nat):Int))+((gW ia y.own:Nat):Int))+((gW iV y.Pg:Nat):Int))+((gW iX y.py.ag:Nat):Int))+1+1+1+((gW ia y.py.gc.gQ:Nat):Int))) (x:=y.gR) (by omega) (by omega) (by omega)];exact congrArg some (congrArg Sum.inl (Prod.ext rfl (Prod.ext (show ((((((m+((gW ia y.Pe.Pd:Nat):Int))+((gW ia y.own:Nat):Int))+((gW iV y.Pg:Nat):Int))+((gW iX y.py.ag:Nat):Int))+1+1+1+((gW ia y.py.gc.gQ:Nat):Int))+((gW jv y.gR:Nat):Int))+1+1+1+1+1+1+1=m+((jL y:Nat):Int) by unfold jL;omega) rfl)))
  · intro l m hl;simp only [hl,iG,PC]
theorem Fq {N:Nat} (hN:gT≤N) {x:List bh} {n:Int} (hb:iQ ic x<gT) (h0:0≤n) (h1:n+((gW jL x:Nat):Int)≤4611686018427387904):qb N (jV tG jL n x) n=some (n+((gW jL x:Nat):Int)):=by
  unfold qb;simp only [kf];rw [tb x n tG jL (Nat.lt_of_lt_of_le (jj hb) hN) h0 h1]
  · rfl
  · intro k m y hk hy hm p0 p1;have hkB:k<gT:=Nat.lt_trans hk (jj hb);have hy':=jh hb hm;unfold ic jU k5 oV at hy';have p1':m+((jL y:Nat):Int)≤4611686018427387904:=p1;unfold jL at p1';simp only [iF hk,PD,ik,hy,PB,tG,bne_self_eq_false,beq_self_eq_true,PE,PC,iJ hkB,iw (n:=((((m+((gW ia y.Pe.Pd:Nat):Int))+((gW ia y.own:Nat):Int))+((gW iV y.Pg:Nat):Int))+((gW iX y.py.ag:Nat):Int))) (by omega) (by omega),iw (n:=((((m+((gW ia y.Pe.Pd:Nat):Int))+((gW ia y.own:Nat):Int))+((gW iV y.Pg:Nat):Int))+((gW iX y.py.ag:Nat):Int))+1) (by omega) (by omega),iw (n:=((((m+((gW ia y.Pe.Pd:Nat):Int))+((gW ia y.own:Nat):Int))+((gW iV y.Pg:Nat):Int))+((gW iX y.py.ag:Nat):Int))+1+1) (by omega) (by omega),iw (n:=((((((m+((gW ia y.Pe.Pd:Nat):Int))+((gW ia y.own:Nat):Int))+((gW iV y.Pg:Nat):Int))+((gW iX y.py.ag:Nat):Int))+1+1+1+((gW ia y.py.gc.gQ:Nat):Int))+((gW jv y.gR:Nat):Int))) (by omega) (by omega),iw (n:=((((((m+((gW ia y.Pe.Pd:Nat):Int))+((gW ia y.own:Nat):Int))+((gW iV y.Pg:Nat):Int))+((gW iX y.py.ag:Nat):Int))+1+1+1+((gW ia y.py.gc.gQ:Nat):Int))+((gW jv y.gR:Nat):Int))+1) (by omega) (by omega),iw (n:=((((((m+((gW ia y.Pe.Pd:Nat):Int))+((gW ia y.own:Nat):Int))+((gW iV y.Pg:Nat):Int))+((gW iX y.py.ag:Nat):Int))+1+1+1+((gW ia y.py.gc.gQ:Nat):Int))+((gW jv y.gR:Nat):Int))+1+1) (by omega) (by omega),iw (n:=((((((m+((gW ia y.Pe.Pd:Nat):Int))+((gW ia y.own:Nat):Int))+((gW iV y.Pg:Nat):Int))+((gW iX y.py.ag:Nat):Int))+1+1+1+((gW ia y.py.gc.gQ:Nat):Int))+((gW jv y.gR:Nat):Int))+1+1+1) (by omega) (by omega),iw (n:=((((((m+((gW ia y.Pe.Pd:Nat):Int))+((gW ia y.own:Nat):Int))+((gW iV y.Pg:Nat):Int))+((gW iX y.py.ag:Nat):Int))+1+1+1+((gW ia y.py.gc.gQ:Nat):Int))+((gW jv y.gR:Nat):Int))+1+1+1+1) (by omega) (by omega),iw (n:=((((((m+((gW ia y.Pe.Pd:Nat):Int))+((gW ia y.own:Nat):Int))+((gW iV y.Pg:Nat):Int))+((gW iX y.py.ag:Nat):Int))+1+1+1+((gW ia y.py.gc.gQ:Nat):Int))+((gW jv y.gR:Nat):Int))+1+1+1+1+1) (by omega) (by omega),iw (n:=((((((m+((gW ia y.Pe.Pd:Nat):Int))+((gW ia y.own:Nat):Int))+((gW iV y.Pg:Nat):Int))+((gW iX y.py.ag:Nat):Int))+1+1+1+((gW ia y.py.gc.gQ:Nat):Int))+((gW jv y.gR:Nat):Int))+1+1+1+1+1+1) (by omega) (by omega),vg hN (n:=m) (x:=y.Pe.Pd) (by omega) (by omega) (by omega),decide_eq_false (show ¬ ((m+((gW ia y.Pe.Pd:Nat):Int))<0) by omega),vg hN (n:=(m+((gW ia y.Pe.Pd:Nat):Int))) (x:=y.own) (by omega) (by omega) (by omega),decide_eq_false (show ¬ (((m+((gW ia y.Pe.Pd:Nat):Int))+((gW ia y.own:Nat):Int))<0) by omega),Ib hN (n:=((m+((gW ia y.Pe.Pd:Nat):Int))+((gW ia y.own:Nat):Int))) (x:=y.Pg) (by omega) (by omega) (by omega),decide_eq_false (show ¬ ((((m+((gW ia y.Pe.Pd:Nat):Int))+((gW ia y.own:Nat):Int))+((gW iV y.Pg:Nat):Int))<0) by omega),Ic hN (n:=(((m+((gW ia y.Pe.Pd:Nat):Int))+((gW ia y.own:Nat):Int))+((gW iV y.Pg:Nat):Int))) (x:=y.py.ag) (by omega) (by omega) (by omega),decide_eq_false (show ¬ (((((m+((gW ia y.Pe.Pd:Nat):Int))+((gW ia y.own:Nat):Int))+((gW iV y.Pg:Nat):Int))+((gW iX y.py.ag:Nat):Int))<0) by omega),vg hN (n:=((((m+((gW ia y.Pe.Pd:Nat):Int))+((gW ia y.own:Nat):Int))+((gW iV y.Pg:Nat):Int))+((gW iX y.py.ag:Nat):Int))+1+1+1) (x:=y.py.gc.gQ) (by omega) (by omega) (by omega),decide_eq_false (show ¬ ((((((m+((gW ia y.Pe.Pd:Nat):Int))+((gW ia y.own:Nat):Int))+((gW iV y.Pg:Nat):Int))+((gW iX y.py.ag:Nat):Int))+1+1+1+((gW ia y.py.gc.gQ:Nat):Int))<0) by omega),H6 hN (n:=(((((m+((gW ia y.Pe.Pd:Nat):Int))+((gW ia y.own:Nat):Int))+((gW iV y.Pg:Nat):Int))+((gW iX y.py.ag:Nat):Int))+1+1+1+((gW ia y.py.gc.gQ:Nat):Int))) (x:=y.gR) (by omega) (by omega) (by omega),decide_eq_false (show ¬ (((((((m+((gW ia y.Pe.Pd:Nat):Int))+((gW ia y.own:Nat):Int))+((gW iV y.Pg:Nat):Int))+((gW iX y.py.ag:Nat):Int))+1+1+1+((gW ia y.py.gc.gQ:Nat):Int))+((gW jv y.gR:Nat):Int))<0) by omega)];exact congrArg some (congrArg Sum.inl (Prod.ext (show ((((((m+((gW ia y.Pe.Pd:Nat):Int))+((gW ia y.own:Nat):Int))+((gW iV y.Pg:Nat):Int))+((gW iX y.py.ag:Nat):Int))+1+1+1+((gW ia y.py.gc.gQ:Nat):Int))+((gW jv y.gR:Nat):Int))+1+1+1+1+1+1+1=m+((jL y:Nat):Int) by unfold jL;omega) rfl))
  · intro m;simp only [iG,PC]
def pA (x:hJ):Nat:=iQ ic x.parts+(0)
theorem Ki {N:Nat} (hN:gT≤N) {x:hJ} (hb:pA x<gT):oK N x x=some true:=by
  have b0:iQ ic x.parts<gT:=by unfold pA at hb;omega
  simp [oK,Km hN b0]
theorem E6 {N:Nat} (hN:gT≤N) {x:hJ} {n:Int} (hb:pA x<gT) (h0:0≤n) (h1:n+((gW jL x.parts:Nat):Int)≤4611686018427387904):qd N x n=some (n+((gW jL x.parts:Nat):Int),jV tG jL (n) x.parts):=by
  unfold qd
  have hb_parts:iQ ic x.parts<gT:=by unfold pA at hb;omega
  simp only [PB,kc (kf _ _ _ _),Fe hN (n:=n) (x:=x.parts) hb_parts (by omega) (by omega)]
theorem Gd {N:Nat} (hN:gT≤N) {x z:hJ} {n:Int} (hb:pA x<gT) (h0:0≤n) (h1:n+((gW jL x.parts:Nat):Int)≤4611686018427387904) (e0:z.parts=jV tG jL (n) x.parts):nW N z n=some (n+((gW jL x.parts:Nat):Int)):=by
  unfold nW
  have hb_parts:iQ ic x.parts<gT:=by unfold pA at hb;omega
  simp only [PB,PC,e0,Fq hN (n:=n) (x:=x.parts) hb_parts (by omega) (by omega),decide_eq_false (show ¬ (n+((gW jL x.parts:Nat):Int)<0) by omega)]
end Go.Kx
