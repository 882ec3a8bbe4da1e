import Derived.Test.YtlcgibcdiikheaaGreatLaw
import Derived.Test.YtlcgibcdiikheaaGreatPu
namespace Go.Kx
open Go
set_option linter.unusedVariables false
set_option linter.unusedSimpArgs false
set_option maxRecDepth 10000
def qm (_:Int):Nat:=1
def Bz (_:Int) (n:Int):Int:=n
theorem CE:∀ l:List Int,qb qm l≤16 * (l.length)
  | []=>Nat.zero_le _
  | y::l=>by
    have h1:=CE l;have h2:qm y≤16 * (1+0):=(by decide:1≤16 * (1+0));simp only [qb,List.length_cons] at h1 h2 ⊢;omega
theorem E3 {N:Nat} (hN:pW≤N) {x:List Int} {b:Int} (h0:0≤b) (h1:b≤1048576) (hx:Fit.fit x):wH N x b=some (left b x.length):=G7 x b h0 h1 hx.1
theorem EN {N:Nat} (hN:pW≤N) {x:List Int} (hb:x.length<pW):wL N x=some x:=Bl x some (fun y _=>rfl) hb (Nat.lt_of_lt_of_le hb hN)
theorem EY {N:Nat} (hN:pW≤N) {x:List Int} (hb:x.length<pW):vy N x x=some true:=by
  rw [show vy N x x=some (decide (x=x)) from Hv x x (· != ·) (by intro y z;by_cases h:y=z<;>simp [h]) hb hN];simp
theorem BM {N:Nat} (hN:pW≤N) {x:List Int} {n:Int} (hb:x.length<pW) (h0:0≤n) (h1:n+((qb qm x:Nat):Int)≤4611686018427387904):uD N x n=some (n+((qb qm x:Nat):Int),sv Bz qm n x):=by
  unfold uD;rw [Bi x n Bz qm (Nat.lt_of_lt_of_le hb hN) h0 h1]
  · rfl
  · intro l k m y hl hk hy hm p0 p1
    have hkl:k<l.length:=by omega
    have hkB:k<pW:=Nat.lt_trans hk hb;have p1':m+((qm y:Nat):Int)≤4611686018427387904:=p1;unfold qm at p1';simp only [qQ hkl,Vy,qv,hy,Vw,Int.toNat_natCast,List.getElem?_set_self hkl,List.set_set,tw (tD _ _ _ _),qV hkB,qJ (n:=m) (by omega) (by omega)];exact congrArg some (congrArg Sum.inl (Prod.ext rfl (Prod.ext (show m+1=m+((qm y:Nat):Int) by unfold qm;omega) rfl)))
  · intro l m hl;simp only [hl,qR,Vx]
theorem BW {N:Nat} (hN:pW≤N) {x:List Int} {n:Int} (hb:x.length<pW) (h0:0≤n) (h1:n+((qb qm x:Nat):Int)≤4611686018427387904):uE N (sv Bz qm n x) n=some (n+((qb qm x:Nat):Int)):=by
  unfold uE;simp only [tD];rw [Bo x n Bz qm (Nat.lt_of_lt_of_le hb hN) h0 h1]
  · rfl
  · intro k m y hk hy hm p0 p1;have hkB:k<pW:=Nat.lt_trans hk hb;have p1':m+((qm y:Nat):Int)≤4611686018427387904:=p1;unfold qm at p1';simp only [qQ hk,Vy,qv,hy,Vw,Bz,bne_self_eq_false,beq_self_eq_true,Vz,Vx,qV hkB,qJ (n:=m) (by omega) (by omega)];exact congrArg some (congrArg Sum.inl (Prod.ext (show m+1=m+((qm y:Nat):Int) by unfold qm;omega) rfl))
  · intro m;simp only [qR,Vx]
theorem N2 (N:Nat) (x:qj):Ak N x=some x:=by simp [Ak]
theorem OP (N:Nat) (x:qj):Ap N x x=some true:=by simp [Ap]
theorem RN (N:Nat) (x:qD):AR N x=some x:=by simp [AR]
theorem Pz (N:Nat) (x:ui):w6 N x=some x:=by simp [w6,RN]
theorem PD (N:Nat) (x:qo):w7 N x x=some true:=by simp [w7]
def qZ (x:qc):Nat:=5
def DP (x:qc) (n:Int):qc:=qc.mk (((Int.tmod (n) 3)==0)) (n+1) (qj.mk (n+1+1) (n+1+1+1) (n+1+1+1+1))
theorem Qb (x:qc):qZ x≤16 * (1+0):=by
  unfold qZ;omega
theorem Km:∀ l:List qc,qb qZ l≤16 * (l.length)
  | []=>Nat.zero_le _
  | y::l=>by
    have h1:=Km l;have h2:qZ y≤16 * (1+0):=Qb y;simp only [qb,List.length_cons] at h1 h2 ⊢;omega
theorem QZ {N:Nat} (hN:pW≤N) {x:List qc} {b:Int} (h0:0≤b) (h1:b≤1048576) (hx:Fit.fit x):Co N x b=some (left b x.length):=G7 x b h0 h1 hx.1
theorem Te (N:Nat) (x:qc):AA N x=some x:=by simp [AA,N2]
theorem Rm {N:Nat} (hN:pW≤N) {x:List qc} (hb:x.length<pW):Cc N x=some x:=Bl x (AA N) (fun y hy=>Te N y) hb (Nat.lt_of_lt_of_le hb hN)
theorem SK (N:Nat) (x:qc):AF N x x=some true:=by simp [AF,OP]
theorem Rj {N:Nat} (hN:pW≤N) {x:List qc} (hb:x.length<pW):Cd N x x=some true:=EZ x (AF N) (fun y hy=>SK N y) (Nat.lt_of_lt_of_le hb (by decide)) (Nat.lt_of_lt_of_le hb hN)
theorem Na {N:Nat} (hN:pW≤N) {x:List qc} {n:Int} (hb:x.length<pW) (h0:0≤n) (h1:n+((qb qZ x:Nat):Int)≤4611686018427387904):yI N x n=some (n+((qb qZ x:Nat):Int),sv DP qZ n x):=by
  unfold yI;rw [Bi x n DP qZ (Nat.lt_of_lt_of_le hb hN) h0 h1]
  · rfl
  · intro l k m y hl hk hy hm p0 p1
    have hkl:k<l.length:=by omega
    have hkB:k<pW:=Nat.lt_trans hk hb;have p1':m+((qZ y:Nat):Int)≤4611686018427387904:=p1;unfold qZ at p1';simp only [qQ hkl,Vy,qv,hy,Vw,Int.toNat_natCast,List.getElem?_set_self hkl,List.set_set,tw (tD _ _ _ _),qV hkB,qJ (n:=m) (by omega) (by omega),qJ (n:=m+1) (by omega) (by omega),qJ (n:=m+1+1) (by omega) (by omega),qJ (n:=m+1+1+1) (by omega) (by omega),qJ (n:=m+1+1+1+1) (by omega) (by omega)];exact congrArg some (congrArg Sum.inl (Prod.ext rfl (Prod.ext (show m+1+1+1+1+1=m+((qZ y:Nat):Int) by unfold qZ;omega) rfl)))
  · intro l m hl;simp only [hl,qR,Vx]
theorem M5 {N:Nat} (hN:pW≤N) {x:List qc} {n:Int} (hb:x.length<pW) (h0:0≤n) (h1:n+((qb qZ x:Nat):Int)≤4611686018427387904):yF N (sv DP qZ n x) n=some (n+((qb qZ x:Nat):Int)):=by
  unfold yF;simp only [tD];rw [Bo x n DP qZ (Nat.lt_of_lt_of_le hb hN) h0 h1]
  · rfl
  · intro k m y hk hy hm p0 p1;have hkB:k<pW:=Nat.lt_trans hk hb;have p1':m+((qZ y:Nat):Int)≤4611686018427387904:=p1;unfold qZ at p1';simp only [qQ hk,Vy,qv,hy,Vw,DP,bne_self_eq_false,beq_self_eq_true,Vz,Vx,qV hkB,qJ (n:=m) (by omega) (by omega),qJ (n:=m+1) (by omega) (by omega),qJ (n:=m+1+1) (by omega) (by omega),qJ (n:=m+1+1+1) (by omega) (by omega),qJ (n:=m+1+1+1+1) (by omega) (by omega)];exact congrArg some (congrArg Sum.inl (Prod.ext (show m+1+1+1+1+1=m+((qZ y:Nat):Int) by unfold qZ;omega) rfl))
  · intro m;simp only [qR,Vx]
def rP (x:qB):Nat:=6
def DW (x:qB) (n:Int):qB:=qB.mk (n) (n+1) (n+1+1) (n+1+1+1) (n+1+1+1+1) (n+1+1+1+1+1)
theorem Qf (x:qB):rP x≤16 * (1+0):=by
  unfold rP;omega
theorem JZ:∀ l:List qB,qb rP l≤16 * (l.length)
  | []=>Nat.zero_le _
  | y::l=>by
    have h1:=JZ l;have h2:rP y≤16 * (1+0):=Qf y;simp only [qb,List.length_cons] at h1 h2 ⊢;omega
theorem QX {N:Nat} (hN:pW≤N) {x:List qB} {b:Int} (h0:0≤b) (h1:b≤1048576) (hx:Fit.fit x):Cw N x b=some (left b x.length):=G7 x b h0 h1 hx.1
theorem Sv (N:Nat) (x:qB):Ay N x=some x:=by simp [Ay]
theorem Q7 {N:Nat} (hN:pW≤N) {x:List qB} (hb:x.length<pW):Cu N x=some x:=Bl x (Ay N) (fun y hy=>Sv N y) hb (Nat.lt_of_lt_of_le hb hN)
theorem Su (N:Nat) (x:qB):AM N x x=some true:=by simp [AM]
theorem Q0 {N:Nat} (hN:pW≤N) {x:List qB} (hb:x.length<pW):CA N x x=some true:=EZ x (AM N) (fun y hy=>Su N y) (Nat.lt_of_lt_of_le hb (by decide)) (Nat.lt_of_lt_of_le hb hN)
theorem Mp {N:Nat} (hN:pW≤N) {x:List qB} {n:Int} (hb:x.length<pW) (h0:0≤n) (h1:n+((qb rP x:Nat):Int)≤4611686018427387904):yQ N x n=some (n+((qb rP x:Nat):Int),sv DW rP n x):=by
  unfold yQ;rw [Bi x n DW rP (Nat.lt_of_lt_of_le hb hN) h0 h1]
  · rfl
  · intro l k m y hl hk hy hm p0 p1
    have hkl:k<l.length:=by omega
    have hkB:k<pW:=Nat.lt_trans hk hb;have p1':m+((rP y:Nat):Int)≤4611686018427387904:=p1;unfold rP at p1';simp only [qQ hkl,Vy,qv,hy,Vw,Int.toNat_natCast,List.getElem?_set_self hkl,List.set_set,tw (tD _ _ _ _),qV hkB,qJ (n:=m) (by omega) (by omega),qJ (n:=m+1) (by omega) (by omega),qJ (n:=m+1+1) (by omega) (by omega),qJ (n:=m+1+1+1) (by omega) (by omega),qJ (n:=m+1+1+1+1) (by omega) (by omega),qJ (n:=m+1+1+1+1+1) (by omega) (by omega)];exact congrArg some (congrArg Sum.inl (Prod.ext rfl (Prod.ext (show m+1+1+1+1+1+1=m+((rP y:Nat):Int) by unfold rP;omega) rfl)))
  · intro l m hl;simp only [hl,qR,Vx]
theorem MD {N:Nat} (hN:pW≤N) {x:List qB} {n:Int} (hb:x.length<pW) (h0:0≤n) (h1:n+((qb rP x:Nat):Int)≤4611686018427387904):yV N (sv DW rP n x) n=some (n+((qb rP x:Nat):Int)):=by
  unfold yV;simp only [tD];rw [Bo x n DW rP (Nat.lt_of_lt_of_le hb hN) h0 h1]
  · rfl
  · intro k m y hk hy hm p0 p1;have hkB:k<pW:=Nat.lt_trans hk hb;have p1':m+((rP y:Nat):Int)≤4611686018427387904:=p1;unfold rP at p1';simp only [qQ hk,Vy,qv,hy,Vw,DW,bne_self_eq_false,beq_self_eq_true,Vz,Vx,qV hkB,qJ (n:=m) (by omega) (by omega),qJ (n:=m+1) (by omega) (by omega),qJ (n:=m+1+1) (by omega) (by omega),qJ (n:=m+1+1+1) (by omega) (by omega),qJ (n:=m+1+1+1+1) (by omega) (by omega),qJ (n:=m+1+1+1+1+1) (by omega) (by omega)];exact congrArg some (congrArg Sum.inl (Prod.ext (show m+1+1+1+1+1+1=m+((rP y:Nat):Int) by unfold rP;omega) rfl))
  · intro m;simp only [qR,Vx]
def s7 (x:qM):Nat:=2
def DU (x:qM) (n:Int):qM:=qM.mk (n) (n+1)
theorem P1 (x:qM):s7 x≤16 * (1+0):=by
  unfold s7;omega
theorem Ku:∀ l:List qM,qb s7 l≤16 * (l.length)
  | []=>Nat.zero_le _
  | y::l=>by
    have h1:=Ku l;have h2:s7 y≤16 * (1+0):=P1 y;simp only [qb,List.length_cons] at h1 h2 ⊢;omega
theorem QW {N:Nat} (hN:pW≤N) {x:List qM} {b:Int} (h0:0≤b) (h1:b≤1048576) (hx:Fit.fit x):Cm N x b=some (left b x.length):=G7 x b h0 h1 hx.1
theorem R3 (N:Nat) (x:qM):As N x=some x:=by simp [As]
theorem RZ {N:Nat} (hN:pW≤N) {x:List qM} (hb:x.length<pW):Ck N x=some x:=Bl x (As N) (fun y hy=>R3 N y) hb (Nat.lt_of_lt_of_le hb hN)
theorem SM (N:Nat) (x:qM):AK N x x=some true:=by simp [AK]
theorem Rn {N:Nat} (hN:pW≤N) {x:List qM} (hb:x.length<pW):Ce N x x=some true:=EZ x (AK N) (fun y hy=>SM N y) (Nat.lt_of_lt_of_le hb (by decide)) (Nat.lt_of_lt_of_le hb hN)
theorem M9 {N:Nat} (hN:pW≤N) {x:List qM} {n:Int} (hb:x.length<pW) (h0:0≤n) (h1:n+((qb s7 x:Nat):Int)≤4611686018427387904):yM N x n=some (n+((qb s7 x:Nat):Int),sv DU s7 n x):=by
  unfold yM;rw [Bi x n DU s7 (Nat.lt_of_lt_of_le hb hN) h0 h1]
  · rfl
  · intro l k m y hl hk hy hm p0 p1
    have hkl:k<l.length:=by omega
    have hkB:k<pW:=Nat.lt_trans hk hb;have p1':m+((s7 y:Nat):Int)≤4611686018427387904:=p1;unfold s7 at p1';simp only [qQ hkl,Vy,qv,hy,Vw,Int.toNat_natCast,List.getElem?_set_self hkl,List.set_set,tw (tD _ _ _ _),qV hkB,qJ (n:=m) (by omega) (by omega),qJ (n:=m+1) (by omega) (by omega)];exact congrArg some (congrArg Sum.inl (Prod.ext rfl (Prod.ext (show m+1+1=m+((s7 y:Nat):Int) by unfold s7;omega) rfl)))
  · intro l m hl;simp only [hl,qR,Vx]
theorem MR {N:Nat} (hN:pW≤N) {x:List qM} {n:Int} (hb:x.length<pW) (h0:0≤n) (h1:n+((qb s7 x:Nat):Int)≤4611686018427387904):za N (sv DU s7 n x) n=some (n+((qb s7 x:Nat):Int)):=by
  unfold za;simp only [tD];rw [Bo x n DU s7 (Nat.lt_of_lt_of_le hb hN) h0 h1]
  · rfl
  · intro k m y hk hy hm p0 p1;have hkB:k<pW:=Nat.lt_trans hk hb;have p1':m+((s7 y:Nat):Int)≤4611686018427387904:=p1;unfold s7 at p1';simp only [qQ hk,Vy,qv,hy,Vw,DU,bne_self_eq_false,beq_self_eq_true,Vz,Vx,qV hkB,qJ (n:=m) (by omega) (by omega),qJ (n:=m+1) (by omega) (by omega)];exact congrArg some (congrArg Sum.inl (Prod.ext (show m+1+1=m+((s7 y:Nat):Int) by unfold s7;omega) rfl))
  · intro m;simp only [qR,Vx]
def uh (x:rA):Nat:=x.Va.length+(0)
theorem PS {N:Nat} (hN:pW≤N) {x:rA} {b:Int} (h0:0≤b) (h1:b≤1048576) (hx:Fit.fit x):By N x b=some (left b (uh x)) :=
  xA h0 h1 (E3 hN h0 h1 hx) fun b h0 h1=>by rw [An h0]
theorem PB {N:Nat} (hN:pW≤N) {x:rA} (hb:uh x<pW):z3 N x=some x:=by
  have b0:x.Va.length<pW:=by unfold uh at hb;omega
  simp [z3,EN hN b0]
theorem PI {N:Nat} (hN:pW≤N) {x:rA} (hb:uh x<pW):zU N x x=some true:=by
  have b0:x.Va.length<pW:=by unfold uh at hb;omega
  simp [zU,EY hN b0]
def qf (x:j8):Nat:=x.pX.length+(x.Vh.length+(x.Vf.length+(0)))
def rf (x:j8):Nat:=10+qb qm x.pX+qb qm x.Vh+qb s7 x.Vf
def DT (x:j8) (n:Int):j8:=j8.mk (n) (n+1) (n+1+1) (n+1+1+1) (n+1+1+1+1) (n+1+1+1+1+1) (n+1+1+1+1+1+1) (n+1+1+1+1+1+1+1) (n+1+1+1+1+1+1+1+1) (((Int.tmod (n+1+1+1+1+1+1+1+1+1) 3)==0)) (sv Bz qm (n+1+1+1+1+1+1+1+1+1+1) x.pX) (sv Bz qm ((n+1+1+1+1+1+1+1+1+1+1+((qb qm x.pX:Nat):Int))) x.Vh) (sv DU s7 (((n+1+1+1+1+1+1+1+1+1+1+((qb qm x.pX:Nat):Int))+((qb qm x.Vh:Nat):Int))) x.Vf)
theorem P2 (x:j8):rf x≤16 * (1+qf x):=by
  unfold rf qf;have:=CE x.pX;have:=CE x.Vh;have:=Ku x.Vf;omega
theorem JJ:∀ l:List j8,qb rf l≤16 * (qU qf l)
  | []=>Nat.zero_le _
  | y::l=>by
    have h1:=JJ l;have h2:rf y≤16 * (1+qf y):=P2 y;simp only [qb,qU,List.length_cons] at h1 h2 ⊢;omega
theorem SS {N:Nat} (hN:pW≤N) {x:j8} {b:Int} (h0:0≤b) (h1:b≤1048576) (hx:Fit.fit x):BL N x b=some (left b (qf x)) :=
  xA h0 h1 (E3 hN h0 h1 hx.2.2.2.2.2.2.2.2.2.2.1) fun b h0 h1=>xA h0 h1 (E3 hN h0 h1 hx.2.2.2.2.2.2.2.2.2.2.2.1) fun b h0 h1=>xA h0 h1 (QW hN h0 h1 hx.2.2.2.2.2.2.2.2.2.2.2.2) fun b h0 h1=>by rw [An h0]
theorem Q2 {N:Nat} (hN:pW≤N) {x:List j8} {b:Int} (h0:0≤b) (h1:b≤1048576) (hx:Fit.fit x):Cq N x b=some (left b (qU qf x)) :=
  NN x b h0 h1 hx.1 (BL N) qf (fun y hy b h0 h1=>SS hN h0 h1 (hx.2 y hy)) hN
theorem Sd {N:Nat} (hN:pW≤N) {x:j8} (hb:qf x<pW):AB N x=some x:=by
  have b0:x.pX.length<pW:=by unfold qf at hb;omega
  have b1:x.Vh.length<pW:=by unfold qf at hb;omega
  have b2:x.Vf.length<pW:=by unfold qf at hb;omega
  simp [AB,EN hN b0,EN hN b1,RZ hN b2]
theorem RY {N:Nat} (hN:pW≤N) {x:List j8} (hb:qU qf x<pW):Ch N x=some x:=Bl x (AB N) (fun y hy=>Sd hN (rE hb hy)) (rS hb) (Nat.lt_of_lt_of_le (rS hb) hN)
theorem R8 {N:Nat} (hN:pW≤N) {x:j8} (hb:qf x<pW):AI N x x=some true:=by
  have b0:x.pX.length<pW:=by unfold qf at hb;omega
  have b1:x.Vh.length<pW:=by unfold qf at hb;omega
  have b2:x.Vf.length<pW:=by unfold qf at hb;omega
  simp [AI,EY hN b0,EY hN b1,Rn hN b2]
theorem Rg {N:Nat} (hN:pW≤N) {x:List j8} (hb:qU qf x<pW):Cn N x x=some true:=EZ x (AI N) (fun y hy=>R8 hN (rE hb hy)) (Nat.lt_of_lt_of_le (rS hb) (by decide)) (Nat.lt_of_lt_of_le (rS hb) hN)
theorem MZ {N:Nat} (hN:pW≤N) {x:List j8} {n:Int} (hb:qU qf x<pW) (h0:0≤n) (h1:n+((qb rf x:Nat):Int)≤4611686018427387904):yE N x n=some (n+((qb rf x:Nat):Int),sv DT rf n x):=by
  unfold yE;rw [Bi x n DT rf (Nat.lt_of_lt_of_le (rS hb) hN) h0 h1]
  · rfl
  · intro l k m y hl hk hy hm p0 p1
    have hkl:k<l.length:=by omega
    have hkB:k<pW:=Nat.lt_trans hk (rS hb);have hy':=rE hb hm;unfold qf at hy';have p1':m+((rf y:Nat):Int)≤4611686018427387904:=p1;unfold rf at p1';simp only [qQ hkl,Vy,qv,hy,Vw,Int.toNat_natCast,List.getElem?_set_self hkl,List.set_set,tw (tD _ _ _ _),qV hkB,qJ (n:=m) (by omega) (by omega),qJ (n:=m+1) (by omega) (by omega),qJ (n:=m+1+1) (by omega) (by omega),qJ (n:=m+1+1+1) (by omega) (by omega),qJ (n:=m+1+1+1+1) (by omega) (by omega),qJ (n:=m+1+1+1+1+1) (by omega) (by omega),qJ (n:=m+1+1+1+1+1+1) (by omega) (by omega),qJ (n:=m+1+1+1+1+1+1+1) (by omega) (by omega),qJ (n:=m+1+1+1+1+1+1+1+1) (by omega) (by omega),qJ (n:=m+1+1+1+1+1+1+1+1+1) (by omega) (by omega),BM hN (n:=m+1+1+1+1+1+1+1+1+1+1) (x:=y.pX) (by omega) (by omega) (by omega),BM hN (n:=(m+1+1+1+1+1+1+1+1+1+1+((qb qm y.pX:Nat):Int))) (x:=y.Vh) (by omega) (by omega) (by omega),M9 hN (n:=((m+1+1+1+1+1+1+1+1+1+1+((qb qm y.pX:Nat):Int))+((qb qm y.Vh:Nat):Int))) (x:=y.Vf) (by omega) (by omega) (by omega)];exact congrArg some (congrArg Sum.inl (Prod.ext rfl (Prod.ext (show (((m+1+1+1+1+1+1+1+1+1+1+((qb qm y.pX:Nat):Int))+((qb qm y.Vh:Nat):Int))+((qb s7 y.Vf:Nat):Int))=m+((rf y:Nat):Int) by unfold rf;omega) rfl)))
  · intro l m hl;simp only [hl,qR,Vx]
theorem M6 {N:Nat} (hN:pW≤N) {x:List j8} {n:Int} (hb:qU qf x<pW) (h0:0≤n) (h1:n+((qb rf x:Nat):Int)≤4611686018427387904):yH N (sv DT rf n x) n=some (n+((qb rf x:Nat):Int)):=by
  unfold yH;simp only [tD];rw [Bo x n DT rf (Nat.lt_of_lt_of_le (rS hb) hN) h0 h1]
  · rfl
  · intro k m y hk hy hm p0 p1;have hkB:k<pW:=Nat.lt_trans hk (rS hb);have hy':=rE hb hm;unfold qf at hy';have p1':m+((rf y:Nat):Int)≤4611686018427387904:=p1;unfold rf at p1';simp only [qQ hk,Vy,qv,hy,Vw,DT,bne_self_eq_false,beq_self_eq_true,Vz,Vx,qV hkB,qJ (n:=m) (by omega) (by omega),qJ (n:=m+1) (by omega) (by omega),qJ (n:=m+1+1) (by omega) (by omega),qJ (n:=m+1+1+1) (by omega) (by omega),qJ (n:=m+1+1+1+1) (by omega) (by omega),qJ (n:=m+1+1+1+1+1) (by omega) (by omega),qJ (n:=m+1+1+1+1+1+1) (by omega) (by omega),qJ (n:=m+1+1+1+1+1+1+1) (by omega) (by omega),qJ (n:=m+1+1+1+1+1+1+1+1) (by omega) (by omega),qJ (n:=m+1+1+1+1+1+1+1+1+1) (by omega) (by omega),BW hN (n:=m+1+1+1+1+1+1+1+1+1+1) (x:=y.pX) (by omega) (by omega) (by omega),decide_eq_false (show ¬ ((m+1+1+1+1+1+1+1+1+1+1+((qb qm y.pX:Nat):Int))<0) by omega),BW hN (n:=(m+1+1+1+1+1+1+1+1+1+1+((qb qm y.pX:Nat):Int))) (x:=y.Vh) (by omega) (by omega) (by omega),decide_eq_false (show ¬ (((m+1+1+1+1+1+1+1+1+1+1+((qb qm y.pX:Nat):Int))+((qb qm y.Vh:Nat):Int))<0) by omega),MR hN (n:=((m+1+1+1+1+1+1+1+1+1+1+((qb qm y.pX:Nat):Int))+((qb qm y.Vh:Nat):Int))) (x:=y.Vf) (by omega) (by omega) (by omega),decide_eq_false (show ¬ ((((m+1+1+1+1+1+1+1+1+1+1+((qb qm y.pX:Nat):Int))+((qb qm y.Vh:Nat):Int))+((qb s7 y.Vf:Nat):Int))<0) by omega)];exact congrArg some (congrArg Sum.inl (Prod.ext (show (((m+1+1+1+1+1+1+1+1+1+1+((qb qm y.pX:Nat):Int))+((qb qm y.Vh:Nat):Int))+((qb s7 y.Vf:Nat):Int))=m+((rf y:Nat):Int) by unfold rf;omega) rfl))
  · intro m;simp only [qR,Vx]
def vk (x:rl):Nat:=x.pT.length+(0)
theorem T7 {N:Nat} (hN:pW≤N) {x:rl} {b:Int} (h0:0≤b) (h1:b≤1048576) (hx:Fit.fit x):D1 N x b=some (left b (vk x)) :=
  xA h0 h1 (E3 hN h0 h1 hx.2.2.2) fun b h0 h1=>by rw [An h0]
theorem Ti {N:Nat} (hN:pW≤N) {x:rl} (hb:vk x<pW):CL N x=some x:=by
  have b0:x.pT.length<pW:=by unfold vk at hb;omega
  simp [CL,EN hN b0]
theorem TC {N:Nat} (hN:pW≤N) {x:rl} (hb:vk x<pW):Dd N x x=some true:=by
  have b0:x.pT.length<pW:=by unfold vk at hb;omega
  simp [Dd,EY hN b0]
def sy (x:qd):Nat:=qU qf x.ag+(vk x.gc+(0))
theorem Rv {N:Nat} (hN:pW≤N) {x:qd} {b:Int} (h0:0≤b) (h1:b≤1048576) (hx:Fit.fit x):Cv N x b=some (left b (sy x)) :=
  xA h0 h1 (Q2 hN h0 h1 hx.1) fun b h0 h1=>xA h0 h1 (T7 hN h0 h1 hx.2) fun b h0 h1=>by rw [An h0]
theorem Q3 {N:Nat} (hN:pW≤N) {x:qd} (hb:sy x<pW):A7 N x=some x:=by
  have b0:qU qf x.ag<pW:=by unfold sy at hb;omega
  have b1:vk x.gc<pW:=by unfold sy at hb;omega
  simp [A7,RY hN b0,Ti hN b1]
theorem Rs {N:Nat} (hN:pW≤N) {x:qd} (hb:sy x<pW):Bc N x x=some true:=by
  have b0:qU qf x.ag<pW:=by unfold sy at hb;omega
  have b1:vk x.gc<pW:=by unfold sy at hb;omega
  simp [Bc,Rg hN b0,TC hN b1]
def qh (x:cd):Nat:=uh x.Vb+(x.own.length+(x.Vd.length+(sy x.U7+(x.pU.length+(0)))))
def si (x:cd):Nat:=10+qb qm x.Vb.Va+qb qm x.own+qb qZ x.Vd+qb rf x.U7.ag+qb qm x.U7.gc.pT+qb rP x.pU
def AD (x:cd) (n:Int):cd:=cd.mk (rA.mk (sv Bz qm (n) x.Vb.Va)) (sv Bz qm ((n+((qb qm x.Vb.Va:Nat):Int))) x.own) (sv DP qZ (((n+((qb qm x.Vb.Va:Nat):Int))+((qb qm x.own:Nat):Int))) x.Vd) (qd.mk (sv DT rf ((((n+((qb qm x.Vb.Va:Nat):Int))+((qb qm x.own:Nat):Int))+((qb qZ x.Vd:Nat):Int))) x.U7.ag) (rl.mk (((((n+((qb qm x.Vb.Va:Nat):Int))+((qb qm x.own:Nat):Int))+((qb qZ x.Vd:Nat):Int))+((qb rf x.U7.ag:Nat):Int))) (((((n+((qb qm x.Vb.Va:Nat):Int))+((qb qm x.own:Nat):Int))+((qb qZ x.Vd:Nat):Int))+((qb rf x.U7.ag:Nat):Int))+1) (((((n+((qb qm x.Vb.Va:Nat):Int))+((qb qm x.own:Nat):Int))+((qb qZ x.Vd:Nat):Int))+((qb rf x.U7.ag:Nat):Int))+1+1) (sv Bz qm (((((n+((qb qm x.Vb.Va:Nat):Int))+((qb qm x.own:Nat):Int))+((qb qZ x.Vd:Nat):Int))+((qb rf x.U7.ag:Nat):Int))+1+1+1) x.U7.gc.pT))) (sv DW rP ((((((n+((qb qm x.Vb.Va:Nat):Int))+((qb qm x.own:Nat):Int))+((qb qZ x.Vd:Nat):Int))+((qb rf x.U7.ag:Nat):Int))+1+1+1+((qb qm x.U7.gc.pT:Nat):Int))) x.pU) (((((((n+((qb qm x.Vb.Va:Nat):Int))+((qb qm x.own:Nat):Int))+((qb qZ x.Vd:Nat):Int))+((qb rf x.U7.ag:Nat):Int))+1+1+1+((qb qm x.U7.gc.pT:Nat):Int))+((qb rP x.pU:Nat):Int))) (((((((n+((qb qm x.Vb.Va:Nat):Int))+((qb qm x.own:Nat):Int))+((qb qZ x.Vd:Nat):Int))+((qb rf x.U7.ag:Nat):Int))+1+1+1+((qb qm x.U7.gc.pT:Nat):Int))+((qb rP x.pU:Nat):Int))+1) (qj.mk (((((((n+((qb qm x.Vb.Va:Nat):Int))+((qb qm x.own:Nat):Int))+((qb qZ x.Vd:Nat):Int))+((qb rf x.U7.ag:Nat):Int))+1+1+1+((qb qm x.U7.gc.pT:Nat):Int))+((qb rP x.pU:Nat):Int))+1+1) (((((((n+((qb qm x.Vb.Va:Nat):Int))+((qb qm x.own:Nat):Int))+((qb qZ x.Vd:Nat):Int))+((qb rf x.U7.ag:Nat):Int))+1+1+1+((qb qm x.U7.gc.pT:Nat):Int))+((qb rP x.pU:Nat):Int))+1+1+1) (((((((n+((qb qm x.Vb.Va:Nat):Int))+((qb qm x.own:Nat):Int))+((qb qZ x.Vd:Nat):Int))+((qb rf x.U7.ag:Nat):Int))+1+1+1+((qb qm x.U7.gc.pT:Nat):Int))+((qb rP x.pU:Nat):Int))+1+1+1+1)) (((((((n+((qb qm x.Vb.Va:Nat):Int))+((qb qm x.own:Nat):Int))+((qb qZ x.Vd:Nat):Int))+((qb rf x.U7.ag:Nat):Int))+1+1+1+((qb qm x.U7.gc.pT:Nat):Int))+((qb rP x.pU:Nat):Int))+1+1+1+1+1) (((((((n+((qb qm x.Vb.Va:Nat):Int))+((qb qm x.own:Nat):Int))+((qb qZ x.Vd:Nat):Int))+((qb rf x.U7.ag:Nat):Int))+1+1+1+((qb qm x.U7.gc.pT:Nat):Int))+((qb rP x.pU:Nat):Int))+1+1+1+1+1+1)
theorem Oy (x:cd):si x≤16 * (1+qh x):=by
  unfold si qh uh sy vk;have:=CE x.Vb.Va;have:=CE x.own;have:=Km x.Vd;have:=JJ x.U7.ag;have:=CE x.U7.gc.pT;have:=JZ x.pU;omega
theorem E0:∀ l:List cd,qb si l≤16 * (qU qh l)
  | []=>Nat.zero_le _
  | y::l=>by
    have h1:=E0 l;have h2:si y≤16 * (1+qh y):=Oy y;simp only [qb,qU,List.length_cons] at h1 h2 ⊢;omega
theorem Rr {N:Nat} (hN:pW≤N) {x:cd} {b:Int} (h0:0≤b) (h1:b≤1048576) (hx:Fit.fit x):AZ N x b=some (left b (qh x)) :=
  xA h0 h1 (PS hN h0 h1 hx.1) fun b h0 h1=>xA h0 h1 (E3 hN h0 h1 hx.2.1) fun b h0 h1=>xA h0 h1 (QZ hN h0 h1 hx.2.2.1) fun b h0 h1=>xA h0 h1 (Rv hN h0 h1 hx.2.2.2.1) fun b h0 h1=>xA h0 h1 (QX hN h0 h1 hx.2.2.2.2.1) fun b h0 h1=>by rw [An h0]
theorem Qe {N:Nat} (hN:pW≤N) {x:List cd} {b:Int} (h0:0≤b) (h1:b≤1048576) (hx:Fit.fit x):BG N x b=some (left b (qU qh x)) :=
  NN x b h0 h1 hx.1 (AZ N) qh (fun y hy b h0 h1=>Rr hN h0 h1 (hx.2 y hy)) hN
theorem Rb {N:Nat} (hN:pW≤N) {x:cd} (hb:qh x<pW):zs N x=some x:=by
  have b0:uh x.Vb<pW:=by unfold qh at hb;omega
  have b1:x.own.length<pW:=by unfold qh at hb;omega
  have b2:x.Vd.length<pW:=by unfold qh at hb;omega
  have b3:sy x.U7<pW:=by unfold qh at hb;omega
  have b4:x.pU.length<pW:=by unfold qh at hb;omega
  simp [zs,PB hN b0,EN hN b1,Rm hN b2,Q3 hN b3,Q7 hN b4,N2]
theorem PX {N:Nat} (hN:pW≤N) {x:List cd} (hb:qU qh x<pW):Bw N x=some x:=Bl x (zs N) (fun y hy=>Rb hN (rE hb hy)) (rS hb) (Nat.lt_of_lt_of_le (rS hb) hN)
theorem Rx {N:Nat} (hN:pW≤N) {x:cd} (hb:qh x<pW):zm N x x=some true:=by
  have b0:uh x.Vb<pW:=by unfold qh at hb;omega
  have b1:x.own.length<pW:=by unfold qh at hb;omega
  have b2:x.Vd.length<pW:=by unfold qh at hb;omega
  have b3:sy x.U7<pW:=by unfold qh at hb;omega
  have b4:x.pU.length<pW:=by unfold qh at hb;omega
  simp [zm,PI hN b0,EY hN b1,Rj hN b2,Rs hN b3,Q0 hN b4,OP]
theorem P4 {N:Nat} (hN:pW≤N) {x:List cd} (hb:qU qh x<pW):BD N x x=some true:=EZ x (zm N) (fun y hy=>Rx hN (rE hb hy)) (Nat.lt_of_lt_of_le (rS hb) (by decide)) (Nat.lt_of_lt_of_le (rS hb) hN)
theorem KV {N:Nat} (hN:pW≤N) {x:List cd} {n:Int} (hb:qU qh x<pW) (h0:0≤n) (h1:n+((qb si x:Nat):Int)≤4611686018427387904):xZ N x n=some (n+((qb si x:Nat):Int),sv AD si n x):=by
  unfold xZ;rw [Bi x n AD si (Nat.lt_of_lt_of_le (rS hb) hN) h0 h1]
  · rfl
  · intro l k m y hl hk hy hm p0 p1
    have hkl:k<l.length:=by omega
    have hkB:k<pW:=Nat.lt_trans hk (rS hb);have hy':=rE hb hm;unfold qh uh sy vk at hy';have p1':m+((si y:Nat):Int)≤4611686018427387904:=p1;unfold si at p1';simp only [qQ hkl,Vy,qv,hy,Vw,Int.toNat_natCast,List.getElem?_set_self hkl,List.set_set,tw (tD _ _ _ _),qV hkB,qJ (n:=((((m+((qb qm y.Vb.Va:Nat):Int))+((qb qm y.own:Nat):Int))+((qb qZ y.Vd:Nat):Int))+((qb rf y.U7.ag:Nat):Int))) (by omega) (by omega),qJ (n:=((((m+((qb qm y.Vb.Va:Nat):Int))+((qb qm y.own:Nat):Int))+((qb qZ y.Vd:Nat):Int))+((qb rf y.U7.ag:Nat):Int))+1) (by omega) (by omega),qJ (n:=((((m+((qb qm y.Vb.Va:Nat):Int))+((qb qm y.own:Nat):Int))+((qb qZ y.Vd:Nat):Int))+((qb rf y.U7.ag:Nat):Int))+1+1) (by omega) (by omega),qJ (n:=((((((m+((qb qm y.Vb.Va:Nat):Int))+((qb qm y.own:Nat):Int))+((qb qZ y.Vd:Nat):Int))+((qb rf y.U7.ag:Nat):Int))+1+1+1+((qb qm y.U7.gc.pT:Nat):Int))+((qb rP y.pU:Nat):Int))) (by omega) (by omega),qJ (n:=((((((m+((qb qm y.Vb.Va:Nat):Int))+((qb qm y.own:Nat):Int))+((qb qZ y.Vd:Nat):Int))+((qb rf y.U7.ag:Nat):Int))+1+1+1+((qb qm y.U7.gc.pT:Nat):Int))+((qb rP y.pU:Nat):Int))+1) (by omega) (by omega),qJ (n:=((((((m+((qb qm y.Vb.Va:Nat):Int))+((qb qm y.own:Nat):Int))+((qb qZ y.Vd:Nat):Int))+((qb rf y.U7.ag:Nat):Int))+1+1+1+((qb qm y.U7.gc.pT:Nat):Int))+((qb rP y.pU:Nat):Int))+1+1) (by omega) (by omega),qJ (n:=((((((m+((qb qm y.Vb.Va:Nat):Int))+((qb qm y.own:Nat):Int))+((qb qZ y.Vd:Nat):Int))+((qb rf y.U7.ag:Nat):Int))+1+1+1+((qb qm y.U7.gc.pT:Nat):Int))+((qb rP y.pU:Nat):Int))+1+1+1) (by omega) (by omega),qJ (n:=((((((m+((qb qm y.Vb.Va:Nat):Int))+((qb qm y.own:Nat):Int))+((qb qZ y.Vd:Nat):Int))+((qb rf y.U7.ag:Nat):Int))+1+1+1+((qb qm y.U7.gc.pT:Nat):Int))+((qb rP y.pU:Nat):Int))+1+1+1+1) (by omega) (by omega),qJ (n:=((((((m+((qb qm y.Vb.Va:Nat):Int))+((qb qm y.own:Nat):Int))+((qb qZ y.Vd:Nat):Int))+((qb rf y.U7.ag:Nat):Int))+1+1+1+((qb qm y.U7.gc.pT:Nat):Int))+((qb rP y.pU:Nat):Int))+1+1+1+1+1) (by omega) (by omega),qJ (n:=((((((m+((qb qm y.Vb.Va:Nat):Int))+((qb qm y.own:Nat):Int))+((qb qZ y.Vd:Nat):Int))+((qb rf y.U7.ag:Nat):Int))+1+1+1+((qb qm y.U7.gc.pT:Nat):Int))+((qb rP y.pU:Nat):Int))+1+1+1+1+1+1) (by omega) (by omega),BM hN (n:=m) (x:=y.Vb.Va) (by omega) (by omega) (by omega),BM hN (n:=(m+((qb qm y.Vb.Va:Nat):Int))) (x:=y.own) (by omega) (by omega) (by omega),Na hN (n:=((m+((qb qm y.Vb.Va:Nat):Int))+((qb qm y.own:Nat):Int))) (x:=y.Vd) (by omega) (by omega) (by omega),MZ hN (n:=(((m+((qb qm y.Vb.Va:Nat):Int))+((qb qm y.own:Nat):Int))+((qb qZ y.Vd:Nat):Int))) (x:=y.U7.ag) (by omega) (by omega) (by omega),BM hN (n:=((((m+((qb qm y.Vb.Va:Nat):Int))+((qb qm y.own:Nat):Int))+((qb qZ y.Vd:Nat):Int))+((qb rf y.U7.ag:Nat):Int))+1+1+1) (x:=y.U7.gc.pT) (by omega) (by omega) (by omega),Mp hN (n:=(((((m+((qb qm y.Vb.Va:Nat):Int))+((qb qm y.own:Nat):Int))+((qb qZ y.Vd:Nat):Int))+((qb rf y.U7.ag:Nat):Int))+1+1+1+((qb qm y.U7.gc.pT:Nat):Int))) (x:=y.pU) (by omega) (by omega) (by omega)];exact congrArg some (congrArg Sum.inl (Prod.ext rfl (Prod.ext (show ((((((m+((qb qm y.Vb.Va:Nat):Int))+((qb qm y.own:Nat):Int))+((qb qZ y.Vd:Nat):Int))+((qb rf y.U7.ag:Nat):Int))+1+1+1+((qb qm y.U7.gc.pT:Nat):Int))+((qb rP y.pU:Nat):Int))+1+1+1+1+1+1+1=m+((si y:Nat):Int) by unfold si;omega) rfl)))
  · intro l m hl;simp only [hl,qR,Vx]
theorem K6 {N:Nat} (hN:pW≤N) {x:List cd} {n:Int} (hb:qU qh x<pW) (h0:0≤n) (h1:n+((qb si x:Nat):Int)≤4611686018427387904):xY N (sv AD si n x) n=some (n+((qb si x:Nat):Int)):=by
  unfold xY;simp only [tD];rw [Bo x n AD si (Nat.lt_of_lt_of_le (rS hb) hN) h0 h1]
  · rfl
  · intro k m y hk hy hm p0 p1;have hkB:k<pW:=Nat.lt_trans hk (rS hb);have hy':=rE hb hm;unfold qh uh sy vk at hy';have p1':m+((si y:Nat):Int)≤4611686018427387904:=p1;unfold si at p1';simp only [qQ hk,Vy,qv,hy,Vw,AD,bne_self_eq_false,beq_self_eq_true,Vz,Vx,qV hkB,qJ (n:=((((m+((qb qm y.Vb.Va:Nat):Int))+((qb qm y.own:Nat):Int))+((qb qZ y.Vd:Nat):Int))+((qb rf y.U7.ag:Nat):Int))) (by omega) (by omega),qJ (n:=((((m+((qb qm y.Vb.Va:Nat):Int))+((qb qm y.own:Nat):Int))+((qb qZ y.Vd:Nat):Int))+((qb rf y.U7.ag:Nat):Int))+1) (by omega) (by omega),qJ (n:=((((m+((qb qm y.Vb.Va:Nat):Int))+((qb qm y.own:Nat):Int))+((qb qZ y.Vd:Nat):Int))+((qb rf y.U7.ag:Nat):Int))+1+1) (by omega) (by omega),qJ (n:=((((((m+((qb qm y.Vb.Va:Nat):Int))+((qb qm y.own:Nat):Int))+((qb qZ y.Vd:Nat):Int))+((qb rf y.U7.ag:Nat):Int))+1+1+1+((qb qm y.U7.gc.pT:Nat):Int))+((qb rP y.pU:Nat):Int))) (by omega) (by omega),qJ (n:=((((((m+((qb qm y.Vb.Va:Nat):Int))+((qb qm y.own:Nat):Int))+((qb qZ y.Vd:Nat):Int))+((qb rf y.U7.ag:Nat):Int))+1+1+1+((qb qm y.U7.gc.pT:Nat):Int))+((qb rP y.pU:Nat):Int))+1) (by omega) (by omega),qJ (n:=((((((m+((qb qm y.Vb.Va:Nat):Int))+((qb qm y.own:Nat):Int))+((qb qZ y.Vd:Nat):Int))+((qb rf y.U7.ag:Nat):Int))+1+1+1+((qb qm y.U7.gc.pT:Nat):Int))+((qb rP y.pU:Nat):Int))+1+1) (by omega) (by omega),qJ (n:=((((((m+((qb qm y.Vb.Va:Nat):Int))+((qb qm y.own:Nat):Int))+((qb qZ y.Vd:Nat):Int))+((qb rf y.U7.ag:Nat):Int))+1+1+1+((qb qm y.U7.gc.pT:Nat):Int))+((qb rP y.pU:Nat):Int))+1+1+1) (by omega) (by omega),qJ (n:=((((((m+((qb qm y.Vb.Va:Nat):Int))+((qb qm y.own:Nat):Int))+((qb qZ y.Vd:Nat):Int))+((qb rf y.U7.ag:Nat):Int))+1+1+1+((qb qm y.U7.gc.pT:Nat):Int))+((qb rP y.pU:Nat):Int))+1+1+1+1) (by omega) (by omega),qJ (n:=((((((m+((qb qm y.Vb.Va:Nat):Int))+((qb qm y.own:Nat):Int))+((qb qZ y.Vd:Nat):Int))+((qb rf y.U7.ag:Nat):Int))+1+1+1+((qb qm y.U7.gc.pT:Nat):Int))+((qb rP y.pU:Nat):Int))+1+1+1+1+1) (by omega) (by omega),qJ (n:=((((((m+((qb qm y.Vb.Va:Nat):Int))+((qb qm y.own:Nat):Int))+((qb qZ y.Vd:Nat):Int))+((qb rf y.U7.ag:Nat):Int))+1+1+1+((qb qm y.U7.gc.pT:Nat):Int))+((qb rP y.pU:Nat):Int))+1+1+1+1+1+1) (by omega) (by omega),BW hN (n:=m) (x:=y.Vb.Va) (by omega) (by omega) (by omega),decide_eq_false (show ¬ ((m+((qb qm y.Vb.Va:Nat):Int))<0) by omega),BW hN (n:=(m+((qb qm y.Vb.Va:Nat):Int))) (x:=y.own) (by omega) (by omega) (by omega),decide_eq_false (show ¬ (((m+((qb qm y.Vb.Va:Nat):Int))+((qb qm y.own:Nat):Int))<0) by omega),M5 hN (n:=((m+((qb qm y.Vb.Va:Nat):Int))+((qb qm y.own:Nat):Int))) (x:=y.Vd) (by omega) (by omega) (by omega),decide_eq_false (show ¬ ((((m+((qb qm y.Vb.Va:Nat):Int))+((qb qm y.own:Nat):Int))+((qb qZ y.Vd:Nat):Int))<0) by omega),M6 hN (n:=(((m+((qb qm y.Vb.Va:Nat):Int))+((qb qm y.own:Nat):Int))+((qb qZ y.Vd:Nat):Int))) (x:=y.U7.ag) (by omega) (by omega) (by omega),decide_eq_false (show ¬ (((((m+((qb qm y.Vb.Va:Nat):Int))+((qb qm y.own:Nat):Int))+((qb qZ y.Vd:Nat):Int))+((qb rf y.U7.ag:Nat):Int))<0) by omega),BW hN (n:=((((m+((qb qm y.Vb.Va:Nat):Int))+((qb qm y.own:Nat):Int))+((qb qZ y.Vd:Nat):Int))+((qb rf y.U7.ag:Nat):Int))+1+1+1) (x:=y.U7.gc.pT) (by omega) (by omega) (by omega),decide_eq_false (show ¬ ((((((m+((qb qm y.Vb.Va:Nat):Int))+((qb qm y.own:Nat):Int))+((qb qZ y.Vd:Nat):Int))+((qb rf y.U7.ag:Nat):Int))+1+1+1+((qb qm y.U7.gc.pT:Nat):Int))<0) by omega),MD hN (n:=(((((m+((qb qm y.Vb.Va:Nat):Int))+((qb qm y.own:Nat):Int))+((qb qZ y.Vd:Nat):Int))+((qb rf y.U7.ag:Nat):Int))+1+1+1+((qb qm y.U7.gc.pT:Nat):Int))) (x:=y.pU) (by omega) (by omega) (by omega),decide_eq_false (show ¬ (((((((m+((qb qm y.Vb.Va:Nat):Int))+((qb qm y.own:Nat):Int))+((qb qZ y.Vd:Nat):Int))+((qb rf y.U7.ag:Nat):Int))+1+1+1+((qb qm y.U7.gc.pT:Nat):Int))+((qb rP y.pU:Nat):Int))<0) by omega)];exact congrArg some (congrArg Sum.inl (Prod.ext (show ((((((m+((qb qm y.Vb.Va:Nat):Int))+((qb qm y.own:Nat):Int))+((qb qZ y.Vd:Nat):Int))+((qb rf y.U7.ag:Nat):Int))+1+1+1+((qb qm y.U7.gc.pT:Nat):Int))+((qb rP y.pU:Nat):Int))+1+1+1+1+1+1+1=m+((si y:Nat):Int) by unfold si;omega) rfl))
  · intro m;simp only [qR,Vx]
def sF (x:qi):Nat:=qU qh x.parts+(0)
theorem PZ {N:Nat} (hN:pW≤N) {x:qi} {b:Int} (h0:0≤b) (h1:b≤1048576) (hx:Fit.fit x):BB N x b=some (left b (sF x)) :=
  xA h0 h1 (Qe hN h0 h1 hx.2) fun b h0 h1=>by rw [An h0]
theorem P6 {N:Nat} (hN:pW≤N) {x:qi} (hb:sF x<pW):vK N x=some x:=by
  have b0:qU qh x.parts<pW:=by unfold sF at hb;omega
  simp [vK,PX hN b0]
theorem JB {N:Nat} (hN:pW≤N) {x:qi} (hb:sF x<pW):vJ N x x=some true:=by
  have b0:qU qh x.parts<pW:=by unfold sF at hb;omega
  simp [vJ,P4 hN b0]
theorem FN {N:Nat} (hN:pW≤N) {x:qi} {n:Int} (hb:sF x<pW) (h0:0≤n) (h1:n+((qb si x.parts:Nat):Int)≤4611686018427387904):wx N x n=some (n+((qb si x.parts:Nat):Int),sv AD si (n) x.parts):=by
  unfold wx
  have hb_parts:qU qh x.parts<pW:=by unfold sF at hb;omega
  simp only [Vw,tw (tD _ _ _ _),KV hN (n:=n) (x:=x.parts) hb_parts (by omega) (by omega)]
theorem K8 {N:Nat} (hN:pW≤N) {x z:qi} {n:Int} (hb:sF x<pW) (h0:0≤n) (h1:n+((qb si x.parts:Nat):Int)≤4611686018427387904) (e0:z.parts=sv AD si (n) x.parts):wu N z n=some (n+((qb si x.parts:Nat):Int)):=by
  unfold wu
  have hb_parts:qU qh x.parts<pW:=by unfold sF at hb;omega
  simp only [Vw,Vx,e0,K6 hN (n:=n) (x:=x.parts) hb_parts (by omega) (by omega),decide_eq_false (show ¬ (n+((qb si x.parts:Nat):Int)<0) by omega)]
end Go.Kx
