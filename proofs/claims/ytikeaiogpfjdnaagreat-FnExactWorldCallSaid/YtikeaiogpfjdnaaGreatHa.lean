/- What the laws' own helpers do: room, copies, comparisons, marks. Printed by genlaw.py. -/
import Derived.Test.YtikeaiogpfjdnaaGreatLaw
import Derived.Test.YtikeaiogpfjdnaaGreatPu
namespace Go.Kx
open Go
set_option linter.unusedVariables false
set_option linter.unusedSimpArgs false
set_option maxRecDepth 10000
def qf (_:Int):Nat:=1
def Aa (_:Int) (n:Int):Int:=n
theorem AY:∀ l:List Int,pQ qf l≤16 * (l.length)
  | []=>Nat.zero_le _
  | y::l=>by
    have h1:=AY l
    have h2:qf y≤16 * (1+0):=(by decide:1≤16 * (1+0))
    simp only [pQ,List.length_cons] at h1 h2 ⊢
    omega
theorem CN {N:Nat} (hN:pR≤N) {x:List Int} {b:Int} (h0:0≤b) (h1:b≤1048576) (hx:Fit.fit x):u9 N x b=some (left b x.length):=DU x b h0 h1 hx.1
theorem C1 {N:Nat} (hN:pR≤N) {x:List Int} (hb:x.length<pR):vk N x=some x:=zI x some (fun y _=>rfl) hb (Nat.lt_of_lt_of_le hb hN)
theorem CK {N:Nat} (hN:pR≤N) {x:List Int} (hb:x.length<pR):ur N x x=some true:=by
  rw [show ur N x x=some (decide (x=x)) from EB x x (· != ·) (by intro y z;by_cases h:y=z <;> simp [h]) hb hN]
  simp
theorem Ae {N:Nat} (hN:pR≤N) {x:List Int} {n:Int} (hb:x.length<pR) (h0:0≤n) (h1:n+((pQ qf x:Nat):Int)≤4611686018427387904):tm N x n=some (n+((pQ qf x:Nat):Int),r8 Aa qf n x):=by
  unfold tm
  rw [zS x n Aa qf (Nat.lt_of_lt_of_le hb hN) h0 h1]
  · rfl
  · intro l k m y hl hk hy hm p0 p1
    have hkl:k<l.length:=by omega
    have hkB:k<pR:=Nat.lt_trans hk hb
    have p1':m+((qf y:Nat):Int)≤4611686018427387904:=p1
    unfold qf at p1'
    simp only [qS hkl,cond_true,qx,hy,Option.bind_some,Int.toNat_natCast,List.getElem?_set_self hkl,List.set_set,sv (sA _ _ _ _),qV hkB,qu (n:=m) (by omega) (by omega)]
    exact congrArg some (congrArg Sum.inl (Prod.ext rfl (Prod.ext (show m+1=m+((qf y:Nat):Int) by unfold qf;omega) rfl)))
  · intro l m hl
    simp only [hl,qR,cond_false]
theorem At {N:Nat} (hN:pR≤N) {x:List Int} {n:Int} (hb:x.length<pR) (h0:0≤n) (h1:n+((pQ qf x:Nat):Int)≤4611686018427387904):td N (r8 Aa qf n x) n=some (n+((pQ qf x:Nat):Int)):=by
  unfold td
  simp only [sA]
  rw [zQ x n Aa qf (Nat.lt_of_lt_of_le hb hN) h0 h1]
  · rfl
  · intro k m y hk hy hm p0 p1
    have hkB:k<pR:=Nat.lt_trans hk hb
    have p1':m+((qf y:Nat):Int)≤4611686018427387904:=p1
    unfold qf at p1'
    simp only [qS hk,cond_true,qx,hy,Option.bind_some,Aa,bne_self_eq_false,beq_self_eq_true,Bool.not_true,cond_false,qV hkB,qu (n:=m) (by omega) (by omega)]
    exact congrArg some (congrArg Sum.inl (Prod.ext (show m+1=m+((qf y:Nat):Int) by unfold qf;omega) rfl))
  · intro m
    simp only [qR,cond_false]
theorem Kl (N:Nat) (x:qa):zd N x=some x:=by simp [zd]
theorem KD (N:Nat) (x:qa):yU N x x=some true:=by simp [yU]
theorem Ml (N:Nat) (x:qn):wh N x=some x:=by simp [wh]
theorem Lh (N:Nat) (x:qh):vu N x x=some true:=by simp [vu]
def qF (x:pW):Nat:=5
def BW (x:pW) (n:Int):pW:=pW.mk (((Int.tmod (n) 3)==0)) (n+1) (qa.mk (n+1+1) (n+1+1+1) (n+1+1+1+1))
theorem KY (x:pW):qF x≤16 * (1+0):=by
  unfold qF
  omega
theorem Hq:∀ l:List pW,pQ qF l≤16 * (l.length)
  | []=>Nat.zero_le _
  | y::l=>by
    have h1:=Hq l
    have h2:qF y≤16 * (1+0):=KY y
    simp only [pQ,List.length_cons] at h1 h2 ⊢
    omega
theorem Mk {N:Nat} (hN:pR≤N) {x:List pW} {b:Int} (h0:0≤b) (h1:b≤1048576) (hx:Fit.fit x):AK N x b=some (left b x.length):=DU x b h0 h1 hx.1
theorem NG (N:Nat) (x:pW):yV N x=some x:=by simp [yV,Kl]
theorem Mw {N:Nat} (hN:pR≤N) {x:List pW} (hb:x.length<pR):AG N x=some x:=zI x (yV N) (fun y hy=>NG N y) hb (Nat.lt_of_lt_of_le hb hN)
theorem Nv (N:Nat) (x:pW):yI N x x=some true:=by simp [yI,KD]
theorem Ma {N:Nat} (hN:pR≤N) {x:List pW} (hb:x.length<pR):AL N x x=some true:=C3 x (yI N) (fun y hy=>Nv N y) (Nat.lt_of_lt_of_le hb (by decide)) (Nat.lt_of_lt_of_le hb hN)
theorem IS {N:Nat} (hN:pR≤N) {x:List pW} {n:Int} (hb:x.length<pR) (h0:0≤n) (h1:n+((pQ qF x:Nat):Int)≤4611686018427387904):xh N x n=some (n+((pQ qF x:Nat):Int),r8 BW qF n x):=by
  unfold xh
  rw [zS x n BW qF (Nat.lt_of_lt_of_le hb hN) h0 h1]
  · rfl
  · intro l k m y hl hk hy hm p0 p1
    have hkl:k<l.length:=by omega
    have hkB:k<pR:=Nat.lt_trans hk hb
    have p1':m+((qF y:Nat):Int)≤4611686018427387904:=p1
    unfold qF at p1'
    simp only [qS hkl,cond_true,qx,hy,Option.bind_some,Int.toNat_natCast,List.getElem?_set_self hkl,List.set_set,sv (sA _ _ _ _),qV hkB,qu (n:=m) (by omega) (by omega),qu (n:=m+1) (by omega) (by omega),qu (n:=m+1+1) (by omega) (by omega),qu (n:=m+1+1+1) (by omega) (by omega),qu (n:=m+1+1+1+1) (by omega) (by omega)]
    exact congrArg some (congrArg Sum.inl (Prod.ext rfl (Prod.ext (show m+1+1+1+1+1=m+((qF y:Nat):Int) by unfold qF;omega) rfl)))
  · intro l m hl
    simp only [hl,qR,cond_false]
theorem JK {N:Nat} (hN:pR≤N) {x:List pW} {n:Int} (hb:x.length<pR) (h0:0≤n) (h1:n+((pQ qF x:Nat):Int)≤4611686018427387904):xj N (r8 BW qF n x) n=some (n+((pQ qF x:Nat):Int)):=by
  unfold xj
  simp only [sA]
  rw [zQ x n BW qF (Nat.lt_of_lt_of_le hb hN) h0 h1]
  · rfl
  · intro k m y hk hy hm p0 p1
    have hkB:k<pR:=Nat.lt_trans hk hb
    have p1':m+((qF y:Nat):Int)≤4611686018427387904:=p1
    unfold qF at p1'
    simp only [qS hk,cond_true,qx,hy,Option.bind_some,BW,bne_self_eq_false,beq_self_eq_true,Bool.not_true,cond_false,qV hkB,qu (n:=m) (by omega) (by omega),qu (n:=m+1) (by omega) (by omega),qu (n:=m+1+1) (by omega) (by omega),qu (n:=m+1+1+1) (by omega) (by omega),qu (n:=m+1+1+1+1) (by omega) (by omega)]
    exact congrArg some (congrArg Sum.inl (Prod.ext (show m+1+1+1+1+1=m+((qF y:Nat):Int) by unfold qF;omega) rfl))
  · intro m
    simp only [qR,cond_false]
def rn (x:qy):Nat:=6
def B1 (x:qy) (n:Int):qy:=qy.mk (n) (n+1) (n+1+1) (n+1+1+1) (n+1+1+1+1) (n+1+1+1+1+1)
theorem Lb (x:qy):rn x≤16 * (1+0):=by
  unfold rn
  omega
theorem Hk:∀ l:List qy,pQ rn l≤16 * (l.length)
  | []=>Nat.zero_le _
  | y::l=>by
    have h1:=Hk l
    have h2:rn y≤16 * (1+0):=Lb y
    simp only [pQ,List.length_cons] at h1 h2 ⊢
    omega
theorem MP {N:Nat} (hN:pR≤N) {x:List qy} {b:Int} (h0:0≤b) (h1:b≤1048576) (hx:Fit.fit x):AO N x b=some (left b x.length):=DU x b h0 h1 hx.1
theorem N7 (N:Nat) (x:qy):ze N x=some x:=by simp [ze]
theorem MQ {N:Nat} (hN:pR≤N) {x:List qy} (hb:x.length<pR):AD N x=some x:=zI x (ze N) (fun y hy=>N7 N y) hb (Nat.lt_of_lt_of_le hb hN)
theorem NC (N:Nat) (x:qy):yP N x x=some true:=by simp [yP]
theorem Mo {N:Nat} (hN:pR≤N) {x:List qy} (hb:x.length<pR):AM N x x=some true:=C3 x (yP N) (fun y hy=>NC N y) (Nat.lt_of_lt_of_le hb (by decide)) (Nat.lt_of_lt_of_le hb hN)
theorem I8 {N:Nat} (hN:pR≤N) {x:List qy} {n:Int} (hb:x.length<pR) (h0:0≤n) (h1:n+((pQ rn x:Nat):Int)≤4611686018427387904):xB N x n=some (n+((pQ rn x:Nat):Int),r8 B1 rn n x):=by
  unfold xB
  rw [zS x n B1 rn (Nat.lt_of_lt_of_le hb hN) h0 h1]
  · rfl
  · intro l k m y hl hk hy hm p0 p1
    have hkl:k<l.length:=by omega
    have hkB:k<pR:=Nat.lt_trans hk hb
    have p1':m+((rn y:Nat):Int)≤4611686018427387904:=p1
    unfold rn at p1'
    simp only [qS hkl,cond_true,qx,hy,Option.bind_some,Int.toNat_natCast,List.getElem?_set_self hkl,List.set_set,sv (sA _ _ _ _),qV hkB,qu (n:=m) (by omega) (by omega),qu (n:=m+1) (by omega) (by omega),qu (n:=m+1+1) (by omega) (by omega),qu (n:=m+1+1+1) (by omega) (by omega),qu (n:=m+1+1+1+1) (by omega) (by omega),qu (n:=m+1+1+1+1+1) (by omega) (by omega)]
    exact congrArg some (congrArg Sum.inl (Prod.ext rfl (Prod.ext (show m+1+1+1+1+1+1=m+((rn y:Nat):Int) by unfold rn;omega) rfl)))
  · intro l m hl
    simp only [hl,qR,cond_false]
theorem Js {N:Nat} (hN:pR≤N) {x:List qy} {n:Int} (hb:x.length<pR) (h0:0≤n) (h1:n+((pQ rn x:Nat):Int)≤4611686018427387904):xk N (r8 B1 rn n x) n=some (n+((pQ rn x:Nat):Int)):=by
  unfold xk
  simp only [sA]
  rw [zQ x n B1 rn (Nat.lt_of_lt_of_le hb hN) h0 h1]
  · rfl
  · intro k m y hk hy hm p0 p1
    have hkB:k<pR:=Nat.lt_trans hk hb
    have p1':m+((rn y:Nat):Int)≤4611686018427387904:=p1
    unfold rn at p1'
    simp only [qS hk,cond_true,qx,hy,Option.bind_some,B1,bne_self_eq_false,beq_self_eq_true,Bool.not_true,cond_false,qV hkB,qu (n:=m) (by omega) (by omega),qu (n:=m+1) (by omega) (by omega),qu (n:=m+1+1) (by omega) (by omega),qu (n:=m+1+1+1) (by omega) (by omega),qu (n:=m+1+1+1+1) (by omega) (by omega),qu (n:=m+1+1+1+1+1) (by omega) (by omega)]
    exact congrArg some (congrArg Sum.inl (Prod.ext (show m+1+1+1+1+1+1=m+((rn y:Nat):Int) by unfold rn;omega) rfl))
  · intro m
    simp only [qR,cond_false]
def sj (x:qt):Nat:=2
def B4 (x:qt) (n:Int):qt:=qt.mk (n) (n+1)
theorem Le (x:qt):sj x≤16 * (1+0):=by
  unfold sj
  omega
theorem Hm:∀ l:List qt,pQ sj l≤16 * (l.length)
  | []=>Nat.zero_le _
  | y::l=>by
    have h1:=Hm l
    have h2:sj y≤16 * (1+0):=Le y
    simp only [pQ,List.length_cons] at h1 h2 ⊢
    omega
theorem Mx {N:Nat} (hN:pR≤N) {x:List qt} {b:Int} (h0:0≤b) (h1:b≤1048576) (hx:Fit.fit x):AJ N x b=some (left b x.length):=DU x b h0 h1 hx.1
theorem NN (N:Nat) (x:qt):yK N x=some x:=by simp [yK]
theorem MS {N:Nat} (hN:pR≤N) {x:List qt} (hb:x.length<pR):AF N x=some x:=zI x (yK N) (fun y hy=>NN N y) hb (Nat.lt_of_lt_of_le hb hN)
theorem NT (N:Nat) (x:qt):yQ N x x=some true:=by simp [yQ]
theorem MF {N:Nat} (hN:pR≤N) {x:List qt} (hb:x.length<pR):Az N x x=some true:=C3 x (yQ N) (fun y hy=>NT N y) (Nat.lt_of_lt_of_le hb (by decide)) (Nat.lt_of_lt_of_le hb hN)
theorem Jv {N:Nat} (hN:pR≤N) {x:List qt} {n:Int} (hb:x.length<pR) (h0:0≤n) (h1:n+((pQ sj x:Nat):Int)≤4611686018427387904):xw N x n=some (n+((pQ sj x:Nat):Int),r8 B4 sj n x):=by
  unfold xw
  rw [zS x n B4 sj (Nat.lt_of_lt_of_le hb hN) h0 h1]
  · rfl
  · intro l k m y hl hk hy hm p0 p1
    have hkl:k<l.length:=by omega
    have hkB:k<pR:=Nat.lt_trans hk hb
    have p1':m+((sj y:Nat):Int)≤4611686018427387904:=p1
    unfold sj at p1'
    simp only [qS hkl,cond_true,qx,hy,Option.bind_some,Int.toNat_natCast,List.getElem?_set_self hkl,List.set_set,sv (sA _ _ _ _),qV hkB,qu (n:=m) (by omega) (by omega),qu (n:=m+1) (by omega) (by omega)]
    exact congrArg some (congrArg Sum.inl (Prod.ext rfl (Prod.ext (show m+1+1=m+((sj y:Nat):Int) by unfold sj;omega) rfl)))
  · intro l m hl
    simp only [hl,qR,cond_false]
theorem I4 {N:Nat} (hN:pR≤N) {x:List qt} {n:Int} (hb:x.length<pR) (h0:0≤n) (h1:n+((pQ sj x:Nat):Int)≤4611686018427387904):xf N (r8 B4 sj n x) n=some (n+((pQ sj x:Nat):Int)):=by
  unfold xf
  simp only [sA]
  rw [zQ x n B4 sj (Nat.lt_of_lt_of_le hb hN) h0 h1]
  · rfl
  · intro k m y hk hy hm p0 p1
    have hkB:k<pR:=Nat.lt_trans hk hb
    have p1':m+((sj y:Nat):Int)≤4611686018427387904:=p1
    unfold sj at p1'
    simp only [qS hk,cond_true,qx,hy,Option.bind_some,B4,bne_self_eq_false,beq_self_eq_true,Bool.not_true,cond_false,qV hkB,qu (n:=m) (by omega) (by omega),qu (n:=m+1) (by omega) (by omega)]
    exact congrArg some (congrArg Sum.inl (Prod.ext (show m+1+1=m+((sj y:Nat):Int) by unfold sj;omega) rfl))
  · intro m
    simp only [qR,cond_false]
def sZ (x:rm):Nat:=x.levels.length+(0)
theorem Lj {N:Nat} (hN:pR≤N) {x:rm} {b:Int} (h0:0≤b) (h1:b≤1048576) (hx:Fit.fit x):z9 N x b=some (left b (sZ x)) :=
  vA h0 h1 (CN hN h0 h1 hx) fun b h0 h1=>by rw [yO h0]
theorem KT {N:Nat} (hN:pR≤N) {x:rm} (hb:sZ x<pR):yd N x=some x:=by
  have b0:x.levels.length<pR:=by unfold sZ at hb;omega
  simp [yd,C1 hN b0]
theorem Lx {N:Nat} (hN:pR≤N) {x:rm} (hb:sZ x<pR):yl N x x=some true:=by
  have b0:x.levels.length<pR:=by unfold sZ at hb;omega
  simp [yl,CK hN b0]
def qd (x:eg):Nat:=x.pS.length+(x.data.length+(x.queue.length+(0)))
def qM (x:eg):Nat:=10+pQ qf x.pS+pQ qf x.data+pQ sj x.queue
def BT (x:eg) (n:Int):eg:=eg.mk (n) (n+1) (n+1+1) (n+1+1+1) (n+1+1+1+1) (n+1+1+1+1+1) (n+1+1+1+1+1+1) (n+1+1+1+1+1+1+1) (n+1+1+1+1+1+1+1+1) (((Int.tmod (n+1+1+1+1+1+1+1+1+1) 3)==0)) (r8 Aa qf (n+1+1+1+1+1+1+1+1+1+1) x.pS) (r8 Aa qf ((n+1+1+1+1+1+1+1+1+1+1+((pQ qf x.pS:Nat):Int))) x.data) (r8 B4 sj (((n+1+1+1+1+1+1+1+1+1+1+((pQ qf x.pS:Nat):Int))+((pQ qf x.data:Nat):Int))) x.queue)
theorem Lq (x:eg):qM x≤16 * (1+qd x):=by
  unfold qM qd
  have:=AY x.pS
  have:=AY x.data
  have:=Hm x.queue
  omega
theorem Gr:∀ l:List eg,pQ qM l≤16 * (qZ qd l)
  | []=>Nat.zero_le _
  | y::l=>by
    have h1:=Gr l
    have h2:qM y≤16 * (1+qd y):=Lq y
    simp only [pQ,qZ,List.length_cons] at h1 h2 ⊢
    omega
theorem NI {N:Nat} (hN:pR≤N) {x:eg} {b:Int} (h0:0≤b) (h1:b≤1048576) (hx:Fit.fit x):Al N x b=some (left b (qd x)) :=
  vA h0 h1 (CN hN h0 h1 hx.2.2.2.2.2.2.2.2.2.2.1) fun b h0 h1=>vA h0 h1 (CN hN h0 h1 hx.2.2.2.2.2.2.2.2.2.2.2.1) fun b h0 h1=>vA h0 h1 (Mx hN h0 h1 hx.2.2.2.2.2.2.2.2.2.2.2.2) fun b h0 h1=>by rw [yO h0]
theorem Ms {N:Nat} (hN:pR≤N) {x:List eg} {b:Int} (h0:0≤b) (h1:b≤1048576) (hx:Fit.fit x):Ay N x b=some (left b (qZ qd x)) :=
  JX x b h0 h1 hx.1 (Al N) qd (fun y hy b h0 h1=>NI hN h0 h1 (hx.2 y hy)) hN
theorem NZ {N:Nat} (hN:pR≤N) {x:eg} (hb:qd x<pR):yZ N x=some x:=by
  have b0:x.pS.length<pR:=by unfold qd at hb;omega
  have b1:x.data.length<pR:=by unfold qd at hb;omega
  have b2:x.queue.length<pR:=by unfold qd at hb;omega
  simp [yZ,C1 hN b0,C1 hN b1,MS hN b2]
theorem MZ {N:Nat} (hN:pR≤N) {x:List eg} (hb:qZ qd x<pR):AA N x=some x:=zI x (yZ N) (fun y hy=>NZ hN (rp hb hy)) (rQ hb) (Nat.lt_of_lt_of_le (rQ hb) hN)
theorem N6 {N:Nat} (hN:pR≤N) {x:eg} (hb:qd x<pR):zg N x x=some true:=by
  have b0:x.pS.length<pR:=by unfold qd at hb;omega
  have b1:x.data.length<pR:=by unfold qd at hb;omega
  have b2:x.queue.length<pR:=by unfold qd at hb;omega
  simp [zg,CK hN b0,CK hN b1,MF hN b2]
theorem Mp {N:Nat} (hN:pR≤N) {x:List eg} (hb:qZ qd x<pR):AS N x x=some true:=C3 x (zg N) (fun y hy=>N6 hN (rp hb hy)) (Nat.lt_of_lt_of_le (rQ hb) (by decide)) (Nat.lt_of_lt_of_le (rQ hb) hN)
theorem JA {N:Nat} (hN:pR≤N) {x:List eg} {n:Int} (hb:qZ qd x<pR) (h0:0≤n) (h1:n+((pQ qM x:Nat):Int)≤4611686018427387904):xu N x n=some (n+((pQ qM x:Nat):Int),r8 BT qM n x):=by
  unfold xu
  rw [zS x n BT qM (Nat.lt_of_lt_of_le (rQ hb) hN) h0 h1]
  · rfl
  · intro l k m y hl hk hy hm p0 p1
    have hkl:k<l.length:=by omega
    have hkB:k<pR:=Nat.lt_trans hk (rQ hb)
    have hy':=rp hb hm
    unfold qd at hy'
    have p1':m+((qM y:Nat):Int)≤4611686018427387904:=p1
    unfold qM at p1'
    simp only [qS hkl,cond_true,qx,hy,Option.bind_some,Int.toNat_natCast,List.getElem?_set_self hkl,List.set_set,sv (sA _ _ _ _),qV hkB,qu (n:=m) (by omega) (by omega),qu (n:=m+1) (by omega) (by omega),qu (n:=m+1+1) (by omega) (by omega),qu (n:=m+1+1+1) (by omega) (by omega),qu (n:=m+1+1+1+1) (by omega) (by omega),qu (n:=m+1+1+1+1+1) (by omega) (by omega),qu (n:=m+1+1+1+1+1+1) (by omega) (by omega),qu (n:=m+1+1+1+1+1+1+1) (by omega) (by omega),qu (n:=m+1+1+1+1+1+1+1+1) (by omega) (by omega),qu (n:=m+1+1+1+1+1+1+1+1+1) (by omega) (by omega),Ae hN (n:=m+1+1+1+1+1+1+1+1+1+1) (x:=y.pS) (by omega) (by omega) (by omega),Ae hN (n:=(m+1+1+1+1+1+1+1+1+1+1+((pQ qf y.pS:Nat):Int))) (x:=y.data) (by omega) (by omega) (by omega),Jv hN (n:=((m+1+1+1+1+1+1+1+1+1+1+((pQ qf y.pS:Nat):Int))+((pQ qf y.data:Nat):Int))) (x:=y.queue) (by omega) (by omega) (by omega)]
    exact congrArg some (congrArg Sum.inl (Prod.ext rfl (Prod.ext (show (((m+1+1+1+1+1+1+1+1+1+1+((pQ qf y.pS:Nat):Int))+((pQ qf y.data:Nat):Int))+((pQ sj y.queue:Nat):Int))=m+((qM y:Nat):Int) by unfold qM;omega) rfl)))
  · intro l m hl
    simp only [hl,qR,cond_false]
theorem IQ {N:Nat} (hN:pR≤N) {x:List eg} {n:Int} (hb:qZ qd x<pR) (h0:0≤n) (h1:n+((pQ qM x:Nat):Int)≤4611686018427387904):w9 N (r8 BT qM n x) n=some (n+((pQ qM x:Nat):Int)):=by
  unfold w9
  simp only [sA]
  rw [zQ x n BT qM (Nat.lt_of_lt_of_le (rQ hb) hN) h0 h1]
  · rfl
  · intro k m y hk hy hm p0 p1
    have hkB:k<pR:=Nat.lt_trans hk (rQ hb)
    have hy':=rp hb hm
    unfold qd at hy'
    have p1':m+((qM y:Nat):Int)≤4611686018427387904:=p1
    unfold qM at p1'
    simp only [qS hk,cond_true,qx,hy,Option.bind_some,BT,bne_self_eq_false,beq_self_eq_true,Bool.not_true,cond_false,qV hkB,qu (n:=m) (by omega) (by omega),qu (n:=m+1) (by omega) (by omega),qu (n:=m+1+1) (by omega) (by omega),qu (n:=m+1+1+1) (by omega) (by omega),qu (n:=m+1+1+1+1) (by omega) (by omega),qu (n:=m+1+1+1+1+1) (by omega) (by omega),qu (n:=m+1+1+1+1+1+1) (by omega) (by omega),qu (n:=m+1+1+1+1+1+1+1) (by omega) (by omega),qu (n:=m+1+1+1+1+1+1+1+1) (by omega) (by omega),qu (n:=m+1+1+1+1+1+1+1+1+1) (by omega) (by omega),At hN (n:=m+1+1+1+1+1+1+1+1+1+1) (x:=y.pS) (by omega) (by omega) (by omega),decide_eq_false (show ¬ ((m+1+1+1+1+1+1+1+1+1+1+((pQ qf y.pS:Nat):Int))<0) by omega),At hN (n:=(m+1+1+1+1+1+1+1+1+1+1+((pQ qf y.pS:Nat):Int))) (x:=y.data) (by omega) (by omega) (by omega),decide_eq_false (show ¬ (((m+1+1+1+1+1+1+1+1+1+1+((pQ qf y.pS:Nat):Int))+((pQ qf y.data:Nat):Int))<0) by omega),I4 hN (n:=((m+1+1+1+1+1+1+1+1+1+1+((pQ qf y.pS:Nat):Int))+((pQ qf y.data:Nat):Int))) (x:=y.queue) (by omega) (by omega) (by omega),decide_eq_false (show ¬ ((((m+1+1+1+1+1+1+1+1+1+1+((pQ qf y.pS:Nat):Int))+((pQ qf y.data:Nat):Int))+((pQ sj y.queue:Nat):Int))<0) by omega)]
    exact congrArg some (congrArg Sum.inl (Prod.ext (show (((m+1+1+1+1+1+1+1+1+1+1+((pQ qf y.pS:Nat):Int))+((pQ qf y.data:Nat):Int))+((pQ sj y.queue:Nat):Int))=m+((qM y:Nat):Int) by unfold qM;omega) rfl))
  · intro m
    simp only [qR,cond_false]
def vg (x:rr):Nat:=x.j8.length+(0)
theorem Ot {N:Nat} (hN:pR≤N) {x:rr} {b:Int} (h0:0≤b) (h1:b≤1048576) (hx:Fit.fit x):Cu N x b=some (left b (vg x)) :=
  vA h0 h1 (CN hN h0 h1 hx.2.2.2) fun b h0 h1=>by rw [yO h0]
theorem On {N:Nat} (hN:pR≤N) {x:rr} (hb:vg x<pR):Bd N x=some x:=by
  have b0:x.j8.length<pR:=by unfold vg at hb;omega
  simp [Bd,C1 hN b0]
theorem Om {N:Nat} (hN:pR≤N) {x:rr} (hb:vg x<pR):A7 N x x=some true:=by
  have b0:x.j8.length<pR:=by unfold vg at hb;omega
  simp [A7,CK hN b0]
def sO (x:qe):Nat:=qZ qd x.ag+(vg x.gc+(0))
theorem ME {N:Nat} (hN:pR≤N) {x:qe} {b:Int} (h0:0≤b) (h1:b≤1048576) (hx:Fit.fit x):AR N x b=some (left b (sO x)) :=
  vA h0 h1 (Ms hN h0 h1 hx.1) fun b h0 h1=>vA h0 h1 (Ot hN h0 h1 hx.2) fun b h0 h1=>by rw [yO h0]
theorem Mr {N:Nat} (hN:pR≤N) {x:qe} (hb:sO x<pR):zk N x=some x:=by
  have b0:qZ qd x.ag<pR:=by unfold sO at hb;omega
  have b1:vg x.gc<pR:=by unfold sO at hb;omega
  simp [zk,MZ hN b0,On hN b1]
theorem MN {N:Nat} (hN:pR≤N) {x:qe} (hb:sO x<pR):zm N x x=some true:=by
  have b0:qZ qd x.ag<pR:=by unfold sO at hb;omega
  have b1:vg x.gc<pR:=by unfold sO at hb;omega
  simp [zm,Mp hN b0,Om hN b1]
def qm (x:cd):Nat:=sZ x.label+(x.own.length+(x.tree.length+(sO x.heap+(x.pN.length+(0)))))
def rP (x:cd):Nat:=10+pQ qf x.label.levels+pQ qf x.own+pQ qF x.tree+pQ qM x.heap.ag+pQ qf x.heap.gc.j8+pQ rn x.pN
def za (x:cd) (n:Int):cd:=cd.mk (rm.mk (r8 Aa qf (n) x.label.levels)) (r8 Aa qf ((n+((pQ qf x.label.levels:Nat):Int))) x.own) (r8 BW qF (((n+((pQ qf x.label.levels:Nat):Int))+((pQ qf x.own:Nat):Int))) x.tree) (qe.mk (r8 BT qM ((((n+((pQ qf x.label.levels:Nat):Int))+((pQ qf x.own:Nat):Int))+((pQ qF x.tree:Nat):Int))) x.heap.ag) (rr.mk (((((n+((pQ qf x.label.levels:Nat):Int))+((pQ qf x.own:Nat):Int))+((pQ qF x.tree:Nat):Int))+((pQ qM x.heap.ag:Nat):Int))) (((((n+((pQ qf x.label.levels:Nat):Int))+((pQ qf x.own:Nat):Int))+((pQ qF x.tree:Nat):Int))+((pQ qM x.heap.ag:Nat):Int))+1) (((((n+((pQ qf x.label.levels:Nat):Int))+((pQ qf x.own:Nat):Int))+((pQ qF x.tree:Nat):Int))+((pQ qM x.heap.ag:Nat):Int))+1+1) (r8 Aa qf (((((n+((pQ qf x.label.levels:Nat):Int))+((pQ qf x.own:Nat):Int))+((pQ qF x.tree:Nat):Int))+((pQ qM x.heap.ag:Nat):Int))+1+1+1) x.heap.gc.j8))) (r8 B1 rn ((((((n+((pQ qf x.label.levels:Nat):Int))+((pQ qf x.own:Nat):Int))+((pQ qF x.tree:Nat):Int))+((pQ qM x.heap.ag:Nat):Int))+1+1+1+((pQ qf x.heap.gc.j8:Nat):Int))) x.pN) (((((((n+((pQ qf x.label.levels:Nat):Int))+((pQ qf x.own:Nat):Int))+((pQ qF x.tree:Nat):Int))+((pQ qM x.heap.ag:Nat):Int))+1+1+1+((pQ qf x.heap.gc.j8:Nat):Int))+((pQ rn x.pN:Nat):Int))) (((((((n+((pQ qf x.label.levels:Nat):Int))+((pQ qf x.own:Nat):Int))+((pQ qF x.tree:Nat):Int))+((pQ qM x.heap.ag:Nat):Int))+1+1+1+((pQ qf x.heap.gc.j8:Nat):Int))+((pQ rn x.pN:Nat):Int))+1) (qa.mk (((((((n+((pQ qf x.label.levels:Nat):Int))+((pQ qf x.own:Nat):Int))+((pQ qF x.tree:Nat):Int))+((pQ qM x.heap.ag:Nat):Int))+1+1+1+((pQ qf x.heap.gc.j8:Nat):Int))+((pQ rn x.pN:Nat):Int))+1+1) (((((((n+((pQ qf x.label.levels:Nat):Int))+((pQ qf x.own:Nat):Int))+((pQ qF x.tree:Nat):Int))+((pQ qM x.heap.ag:Nat):Int))+1+1+1+((pQ qf x.heap.gc.j8:Nat):Int))+((pQ rn x.pN:Nat):Int))+1+1+1) (((((((n+((pQ qf x.label.levels:Nat):Int))+((pQ qf x.own:Nat):Int))+((pQ qF x.tree:Nat):Int))+((pQ qM x.heap.ag:Nat):Int))+1+1+1+((pQ qf x.heap.gc.j8:Nat):Int))+((pQ rn x.pN:Nat):Int))+1+1+1+1)) (((((((n+((pQ qf x.label.levels:Nat):Int))+((pQ qf x.own:Nat):Int))+((pQ qF x.tree:Nat):Int))+((pQ qM x.heap.ag:Nat):Int))+1+1+1+((pQ qf x.heap.gc.j8:Nat):Int))+((pQ rn x.pN:Nat):Int))+1+1+1+1+1) (((((((n+((pQ qf x.label.levels:Nat):Int))+((pQ qf x.own:Nat):Int))+((pQ qF x.tree:Nat):Int))+((pQ qM x.heap.ag:Nat):Int))+1+1+1+((pQ qf x.heap.gc.j8:Nat):Int))+((pQ rn x.pN:Nat):Int))+1+1+1+1+1+1)
theorem KB (x:cd):rP x≤16 * (1+qm x):=by
  unfold rP qm sZ sO vg
  have:=AY x.label.levels
  have:=AY x.own
  have:=Hq x.tree
  have:=Gr x.heap.ag
  have:=AY x.heap.gc.j8
  have:=Hk x.pN
  omega
theorem CX:∀ l:List cd,pQ rP l≤16 * (qZ qm l)
  | []=>Nat.zero_le _
  | y::l=>by
    have h1:=CX l
    have h2:rP y≤16 * (1+qm y):=KB y
    simp only [pQ,qZ,List.length_cons] at h1 h2 ⊢
    omega
theorem MX {N:Nat} (hN:pR≤N) {x:cd} {b:Int} (h0:0≤b) (h1:b≤1048576) (hx:Fit.fit x):zr N x b=some (left b (qm x)) :=
  vA h0 h1 (Lj hN h0 h1 hx.1) fun b h0 h1=>vA h0 h1 (CN hN h0 h1 hx.2.1) fun b h0 h1=>vA h0 h1 (Mk hN h0 h1 hx.2.2.1) fun b h0 h1=>vA h0 h1 (ME hN h0 h1 hx.2.2.2.1) fun b h0 h1=>vA h0 h1 (MP hN h0 h1 hx.2.2.2.2.1) fun b h0 h1=>by rw [yO h0]
theorem Lv {N:Nat} (hN:pR≤N) {x:List cd} {b:Int} (h0:0≤b) (h1:b≤1048576) (hx:Fit.fit x):z3 N x b=some (left b (qZ qm x)) :=
  JX x b h0 h1 hx.1 (zr N) qm (fun y hy b h0 h1=>MX hN h0 h1 (hx.2 y hy)) hN
theorem M0 {N:Nat} (hN:pR≤N) {x:cd} (hb:qm x<pR):xN N x=some x:=by
  have b0:sZ x.label<pR:=by unfold qm at hb;omega
  have b1:x.own.length<pR:=by unfold qm at hb;omega
  have b2:x.tree.length<pR:=by unfold qm at hb;omega
  have b3:sO x.heap<pR:=by unfold qm at hb;omega
  have b4:x.pN.length<pR:=by unfold qm at hb;omega
  simp [xN,KT hN b0,C1 hN b1,Mw hN b2,Mr hN b3,MQ hN b4,Kl]
theorem KV {N:Nat} (hN:pR≤N) {x:List cd} (hb:qZ qm x<pR):z8 N x=some x:=zI x (xN N) (fun y hy=>M0 hN (rp hb hy)) (rQ hb) (Nat.lt_of_lt_of_le (rQ hb) hN)
theorem Md {N:Nat} (hN:pR≤N) {x:cd} (hb:qm x<pR):xO N x x=some true:=by
  have b0:sZ x.label<pR:=by unfold qm at hb;omega
  have b1:x.own.length<pR:=by unfold qm at hb;omega
  have b2:x.tree.length<pR:=by unfold qm at hb;omega
  have b3:sO x.heap<pR:=by unfold qm at hb;omega
  have b4:x.pN.length<pR:=by unfold qm at hb;omega
  simp [xO,Lx hN b0,CK hN b1,Ma hN b2,MN hN b3,Mo hN b4,KD]
theorem Lu {N:Nat} (hN:pR≤N) {x:List cd} (hb:qZ qm x<pR):Ab N x x=some true:=C3 x (xO N) (fun y hy=>Md hN (rp hb hy)) (Nat.lt_of_lt_of_le (rQ hb) (by decide)) (Nat.lt_of_lt_of_le (rQ hb) hN)
theorem HA {N:Nat} (hN:pR≤N) {x:List cd} {n:Int} (hb:qZ qm x<pR) (h0:0≤n) (h1:n+((pQ rP x:Nat):Int)≤4611686018427387904):wC N x n=some (n+((pQ rP x:Nat):Int),r8 za rP n x):=by
  unfold wC
  rw [zS x n za rP (Nat.lt_of_lt_of_le (rQ hb) hN) h0 h1]
  · rfl
  · intro l k m y hl hk hy hm p0 p1
    have hkl:k<l.length:=by omega
    have hkB:k<pR:=Nat.lt_trans hk (rQ hb)
    have hy':=rp hb hm
    unfold qm sZ sO vg at hy'
    have p1':m+((rP y:Nat):Int)≤4611686018427387904:=p1
    unfold rP at p1'
    simp only [qS hkl,cond_true,qx,hy,Option.bind_some,Int.toNat_natCast,List.getElem?_set_self hkl,List.set_set,sv (sA _ _ _ _),qV hkB,qu (n:=((((m+((pQ qf y.label.levels:Nat):Int))+((pQ qf y.own:Nat):Int))+((pQ qF y.tree:Nat):Int))+((pQ qM y.heap.ag:Nat):Int))) (by omega) (by omega),qu (n:=((((m+((pQ qf y.label.levels:Nat):Int))+((pQ qf y.own:Nat):Int))+((pQ qF y.tree:Nat):Int))+((pQ qM y.heap.ag:Nat):Int))+1) (by omega) (by omega),qu (n:=((((m+((pQ qf y.label.levels:Nat):Int))+((pQ qf y.own:Nat):Int))+((pQ qF y.tree:Nat):Int))+((pQ qM y.heap.ag:Nat):Int))+1+1) (by omega) (by omega),qu (n:=((((((m+((pQ qf y.label.levels:Nat):Int))+((pQ qf y.own:Nat):Int))+((pQ qF y.tree:Nat):Int))+((pQ qM y.heap.ag:Nat):Int))+1+1+1+((pQ qf y.heap.gc.j8:Nat):Int))+((pQ rn y.pN:Nat):Int))) (by omega) (by omega),qu (n:=((((((m+((pQ qf y.label.levels:Nat):Int))+((pQ qf y.own:Nat):Int))+((pQ qF y.tree:Nat):Int))+((pQ qM y.heap.ag:Nat):Int))+1+1+1+((pQ qf y.heap.gc.j8:Nat):Int))+((pQ rn y.pN:Nat):Int))+1) (by omega) (by omega),qu (n:=((((((m+((pQ qf y.label.levels:Nat):Int))+((pQ qf y.own:Nat):Int))+((pQ qF y.tree:Nat):Int))+((pQ qM y.heap.ag:Nat):Int))+1+1+1+((pQ qf y.heap.gc.j8:Nat):Int))+((pQ rn y.pN:Nat):Int))+1+1) (by omega) (by omega),qu (n:=((((((m+((pQ qf y.label.levels:Nat):Int))+((pQ qf y.own:Nat):Int))+((pQ qF y.tree:Nat):Int))+((pQ qM y.heap.ag:Nat):Int))+1+1+1+((pQ qf y.heap.gc.j8:Nat):Int))+((pQ rn y.pN:Nat):Int))+1+1+1) (by omega) (by omega),qu (n:=((((((m+((pQ qf y.label.levels:Nat):Int))+((pQ qf y.own:Nat):Int))+((pQ qF y.tree:Nat):Int))+((pQ qM y.heap.ag:Nat):Int))+1+1+1+((pQ qf y.heap.gc.j8:Nat):Int))+((pQ rn y.pN:Nat):Int))+1+1+1+1) (by omega) (by omega),qu (n:=((((((m+((pQ qf y.label.levels:Nat):Int))+((pQ qf y.own:Nat):Int))+((pQ qF y.tree:Nat):Int))+((pQ qM y.heap.ag:Nat):Int))+1+1+1+((pQ qf y.heap.gc.j8:Nat):Int))+((pQ rn y.pN:Nat):Int))+1+1+1+1+1) (by omega) (by omega),qu (n:=((((((m+((pQ qf y.label.levels:Nat):Int))+((pQ qf y.own:Nat):Int))+((pQ qF y.tree:Nat):Int))+((pQ qM y.heap.ag:Nat):Int))+1+1+1+((pQ qf y.heap.gc.j8:Nat):Int))+((pQ rn y.pN:Nat):Int))+1+1+1+1+1+1) (by omega) (by omega),Ae hN (n:=m) (x:=y.label.levels) (by omega) (by omega) (by omega),Ae hN (n:=(m+((pQ qf y.label.levels:Nat):Int))) (x:=y.own) (by omega) (by omega) (by omega),IS hN (n:=((m+((pQ qf y.label.levels:Nat):Int))+((pQ qf y.own:Nat):Int))) (x:=y.tree) (by omega) (by omega) (by omega),JA hN (n:=(((m+((pQ qf y.label.levels:Nat):Int))+((pQ qf y.own:Nat):Int))+((pQ qF y.tree:Nat):Int))) (x:=y.heap.ag) (by omega) (by omega) (by omega),Ae hN (n:=((((m+((pQ qf y.label.levels:Nat):Int))+((pQ qf y.own:Nat):Int))+((pQ qF y.tree:Nat):Int))+((pQ qM y.heap.ag:Nat):Int))+1+1+1) (x:=y.heap.gc.j8) (by omega) (by omega) (by omega),I8 hN (n:=(((((m+((pQ qf y.label.levels:Nat):Int))+((pQ qf y.own:Nat):Int))+((pQ qF y.tree:Nat):Int))+((pQ qM y.heap.ag:Nat):Int))+1+1+1+((pQ qf y.heap.gc.j8:Nat):Int))) (x:=y.pN) (by omega) (by omega) (by omega)]
    exact congrArg some (congrArg Sum.inl (Prod.ext rfl (Prod.ext (show ((((((m+((pQ qf y.label.levels:Nat):Int))+((pQ qf y.own:Nat):Int))+((pQ qF y.tree:Nat):Int))+((pQ qM y.heap.ag:Nat):Int))+1+1+1+((pQ qf y.heap.gc.j8:Nat):Int))+((pQ rn y.pN:Nat):Int))+1+1+1+1+1+1+1=m+((rP y:Nat):Int) by unfold rP;omega) rfl)))
  · intro l m hl
    simp only [hl,qR,cond_false]
theorem HS {N:Nat} (hN:pR≤N) {x:List cd} {n:Int} (hb:qZ qm x<pR) (h0:0≤n) (h1:n+((pQ rP x:Nat):Int)≤4611686018427387904):wu N (r8 za rP n x) n=some (n+((pQ rP x:Nat):Int)):=by
  unfold wu
  simp only [sA]
  rw [zQ x n za rP (Nat.lt_of_lt_of_le (rQ hb) hN) h0 h1]
  · rfl
  · intro k m y hk hy hm p0 p1
    have hkB:k<pR:=Nat.lt_trans hk (rQ hb)
    have hy':=rp hb hm
    unfold qm sZ sO vg at hy'
    have p1':m+((rP y:Nat):Int)≤4611686018427387904:=p1
    unfold rP at p1'
    simp only [qS hk,cond_true,qx,hy,Option.bind_some,za,bne_self_eq_false,beq_self_eq_true,Bool.not_true,cond_false,qV hkB,qu (n:=((((m+((pQ qf y.label.levels:Nat):Int))+((pQ qf y.own:Nat):Int))+((pQ qF y.tree:Nat):Int))+((pQ qM y.heap.ag:Nat):Int))) (by omega) (by omega),qu (n:=((((m+((pQ qf y.label.levels:Nat):Int))+((pQ qf y.own:Nat):Int))+((pQ qF y.tree:Nat):Int))+((pQ qM y.heap.ag:Nat):Int))+1) (by omega) (by omega),qu (n:=((((m+((pQ qf y.label.levels:Nat):Int))+((pQ qf y.own:Nat):Int))+((pQ qF y.tree:Nat):Int))+((pQ qM y.heap.ag:Nat):Int))+1+1) (by omega) (by omega),qu (n:=((((((m+((pQ qf y.label.levels:Nat):Int))+((pQ qf y.own:Nat):Int))+((pQ qF y.tree:Nat):Int))+((pQ qM y.heap.ag:Nat):Int))+1+1+1+((pQ qf y.heap.gc.j8:Nat):Int))+((pQ rn y.pN:Nat):Int))) (by omega) (by omega),qu (n:=((((((m+((pQ qf y.label.levels:Nat):Int))+((pQ qf y.own:Nat):Int))+((pQ qF y.tree:Nat):Int))+((pQ qM y.heap.ag:Nat):Int))+1+1+1+((pQ qf y.heap.gc.j8:Nat):Int))+((pQ rn y.pN:Nat):Int))+1) (by omega) (by omega),qu (n:=((((((m+((pQ qf y.label.levels:Nat):Int))+((pQ qf y.own:Nat):Int))+((pQ qF y.tree:Nat):Int))+((pQ qM y.heap.ag:Nat):Int))+1+1+1+((pQ qf y.heap.gc.j8:Nat):Int))+((pQ rn y.pN:Nat):Int))+1+1) (by omega) (by omega),qu (n:=((((((m+((pQ qf y.label.levels:Nat):Int))+((pQ qf y.own:Nat):Int))+((pQ qF y.tree:Nat):Int))+((pQ qM y.heap.ag:Nat):Int))+1+1+1+((pQ qf y.heap.gc.j8:Nat):Int))+((pQ rn y.pN:Nat):Int))+1+1+1) (by omega) (by omega),qu (n:=((((((m+((pQ qf y.label.levels:Nat):Int))+((pQ qf y.own:Nat):Int))+((pQ qF y.tree:Nat):Int))+((pQ qM y.heap.ag:Nat):Int))+1+1+1+((pQ qf y.heap.gc.j8:Nat):Int))+((pQ rn y.pN:Nat):Int))+1+1+1+1) (by omega) (by omega),qu (n:=((((((m+((pQ qf y.label.levels:Nat):Int))+((pQ qf y.own:Nat):Int))+((pQ qF y.tree:Nat):Int))+((pQ qM y.heap.ag:Nat):Int))+1+1+1+((pQ qf y.heap.gc.j8:Nat):Int))+((pQ rn y.pN:Nat):Int))+1+1+1+1+1) (by omega) (by omega),qu (n:=((((((m+((pQ qf y.label.levels:Nat):Int))+((pQ qf y.own:Nat):Int))+((pQ qF y.tree:Nat):Int))+((pQ qM y.heap.ag:Nat):Int))+1+1+1+((pQ qf y.heap.gc.j8:Nat):Int))+((pQ rn y.pN:Nat):Int))+1+1+1+1+1+1) (by omega) (by omega),At hN (n:=m) (x:=y.label.levels) (by omega) (by omega) (by omega),decide_eq_false (show ¬ ((m+((pQ qf y.label.levels:Nat):Int))<0) by omega),At hN (n:=(m+((pQ qf y.label.levels:Nat):Int))) (x:=y.own) (by omega) (by omega) (by omega),decide_eq_false (show ¬ (((m+((pQ qf y.label.levels:Nat):Int))+((pQ qf y.own:Nat):Int))<0) by omega),JK hN (n:=((m+((pQ qf y.label.levels:Nat):Int))+((pQ qf y.own:Nat):Int))) (x:=y.tree) (by omega) (by omega) (by omega),decide_eq_false (show ¬ ((((m+((pQ qf y.label.levels:Nat):Int))+((pQ qf y.own:Nat):Int))+((pQ qF y.tree:Nat):Int))<0) by omega),IQ hN (n:=(((m+((pQ qf y.label.levels:Nat):Int))+((pQ qf y.own:Nat):Int))+((pQ qF y.tree:Nat):Int))) (x:=y.heap.ag) (by omega) (by omega) (by omega),decide_eq_false (show ¬ (((((m+((pQ qf y.label.levels:Nat):Int))+((pQ qf y.own:Nat):Int))+((pQ qF y.tree:Nat):Int))+((pQ qM y.heap.ag:Nat):Int))<0) by omega),At hN (n:=((((m+((pQ qf y.label.levels:Nat):Int))+((pQ qf y.own:Nat):Int))+((pQ qF y.tree:Nat):Int))+((pQ qM y.heap.ag:Nat):Int))+1+1+1) (x:=y.heap.gc.j8) (by omega) (by omega) (by omega),decide_eq_false (show ¬ ((((((m+((pQ qf y.label.levels:Nat):Int))+((pQ qf y.own:Nat):Int))+((pQ qF y.tree:Nat):Int))+((pQ qM y.heap.ag:Nat):Int))+1+1+1+((pQ qf y.heap.gc.j8:Nat):Int))<0) by omega),Js hN (n:=(((((m+((pQ qf y.label.levels:Nat):Int))+((pQ qf y.own:Nat):Int))+((pQ qF y.tree:Nat):Int))+((pQ qM y.heap.ag:Nat):Int))+1+1+1+((pQ qf y.heap.gc.j8:Nat):Int))) (x:=y.pN) (by omega) (by omega) (by omega),decide_eq_false (show ¬ (((((((m+((pQ qf y.label.levels:Nat):Int))+((pQ qf y.own:Nat):Int))+((pQ qF y.tree:Nat):Int))+((pQ qM y.heap.ag:Nat):Int))+1+1+1+((pQ qf y.heap.gc.j8:Nat):Int))+((pQ rn y.pN:Nat):Int))<0) by omega)]
    exact congrArg some (congrArg Sum.inl (Prod.ext (show ((((((m+((pQ qf y.label.levels:Nat):Int))+((pQ qf y.own:Nat):Int))+((pQ qF y.tree:Nat):Int))+((pQ qM y.heap.ag:Nat):Int))+1+1+1+((pQ qf y.heap.gc.j8:Nat):Int))+((pQ rn y.pN:Nat):Int))+1+1+1+1+1+1+1=m+((rP y:Nat):Int) by unfold rP;omega) rfl))
  · intro m
    simp only [qR,cond_false]
def sY (x:ql):Nat:=qZ qm x.parts+(0)
theorem K5 {N:Nat} (hN:pR≤N) {x:ql} {b:Int} (h0:0≤b) (h1:b≤1048576) (hx:Fit.fit x):z5 N x b=some (left b (sY x)) :=
  vA h0 h1 (Lv hN h0 h1 hx.2) fun b h0 h1=>by rw [yO h0]
theorem K1 {N:Nat} (hN:pR≤N) {x:ql} (hb:sY x<pR):uA N x=some x:=by
  have b0:qZ qm x.parts<pR:=by unfold sY at hb;omega
  simp [uA,KV hN b0]
theorem Hh {N:Nat} (hN:pR≤N) {x:ql} (hb:sY x<pR):uB N x x=some true:=by
  have b0:qZ qm x.parts<pR:=by unfold sY at hb;omega
  simp [uB,Lu hN b0]
theorem Dx {N:Nat} (hN:pR≤N) {x:ql} {n:Int} (hb:sY x<pR) (h0:0≤n) (h1:n+((pQ rP x.parts:Nat):Int)≤4611686018427387904):uZ N x n=some (n+((pQ rP x.parts:Nat):Int),r8 za rP (n) x.parts):=by
  unfold uZ
  have hb_parts:qZ qm x.parts<pR:=by unfold sY at hb;omega
  simp only [Option.bind_some,sv (sA _ _ _ _),HA hN (n:=n) (x:=x.parts) hb_parts (by omega) (by omega)]
theorem HM {N:Nat} (hN:pR≤N) {x z:ql} {n:Int} (hb:sY x<pR) (h0:0≤n) (h1:n+((pQ rP x.parts:Nat):Int)≤4611686018427387904) (e0:z.parts=r8 za rP (n) x.parts):uX N z n=some (n+((pQ rP x.parts:Nat):Int)):=by
  unfold uX
  have hb_parts:qZ qm x.parts<pR:=by unfold sY at hb;omega
  simp only [Option.bind_some,cond_false,e0,HS hN (n:=n) (x:=x.parts) hb_parts (by omega) (by omega),decide_eq_false (show ¬ (n+((pQ rP x.parts:Nat):Int)<0) by omega)]
end Go.Kx
