/- Plain laws: sizes of what is right; a thing put into an arena; what is born. No program in sight. -/
import Derived.Test.YtikeaiogpfjdnaaGreatLReach
namespace Go.Kx
open Go
set_option linter.unusedVariables false
set_option linter.unusedSimpArgs false
set_option maxRecDepth 10000
theorem vB {α:Type} {f:α→Nat} {c:Nat}:∀ {l:List α},(∀ y,y ∈ l→f y≤c)→ou f l≤c * l.length
  | [],_=>Nat.zero_le _
  | y::l,h=>by
    have h1:=h y (by simp)
    have h2:=vB (l:=l) fun z hz=>h z (by simp [hz])
    simp only [ou,List.length_cons,Nat.mul_add];omega
theorem zu {α:Type} {f:α→Nat} {y:α}:∀ {l:List α} {k:Nat},ou f (l.set k y)≤ou f l+f y
  | [],k=>by simp [ou]
  | z::l,0=>by simp only [List.set_cons_zero,ou];omega
  | z::l,k+1=>by
    have:=zu (f:=f) (y:=y) (l:=l) (k:=k)
    simp only [List.set_cons_succ,ou];omega
theorem vr {α:Type} {f:α→Nat} {y:α} {l:List α} {k:Nat}:jr f (l.set k y)≤jr f l+f y:=by
  have:=zu (f:=f) (y:=y) (l:=l) (k:=k)
  unfold jr
  simp only [List.length_set];omega
theorem zB {o:bh} (h:jF o=true):iu o≤12:=by
  have hl:=(nY h).1
  unfold jF at h
  unfold iu
  cases hk:o.kind==0
  · simp only [hk,cond_false,Bool.and_eq_true] at h
    obtain ⟨_,_,_,_,_,hp,hl2,_⟩:=h
    unfold mB at hl2
    simp only [Bool.and_eq_true,decide_eq_true_eq,beq_iff_eq] at hl2
    obtain ⟨_,_,_,_,hd,hq⟩:=hl2
    rw [jb] at hp
    have:o.data.length≤8:=by
      cases h2:o.kind==2
      · rw [h2] at hd;simp only [cond_false] at hd;omega
      · rw [h2] at hd;simp only [cond_true] at hd;omega
    have:o.queue.length≤2:=by
      cases h3:o.kind==3
      · rw [h3] at hq;simp only [cond_false] at hq;omega
      · rw [h3] at hq;simp only [cond_true] at hq;omega
    omega
  · simp only [hk,cond_true,Bool.and_eq_true,decide_eq_true_eq] at h
    rw [h.2.2];simp [blank]
theorem Ar.sz {l:List bh} (h:Ar l):jr iu l≤130:=by
  have h1:=vB (f:=iu) (c:=12) fun y hy=>zB (h.ok y hy)
  have h2:=h.len
  unfold jr
  rw [h2] at h1 ⊢
  omega
theorem kB {l:List bh} {k:Nat} {o:bh} (h:wA l) (ho:lQ o):wA (l.set k o):=fun y hy=>by
  rcases List.mem_or_eq_of_mem_set hy with q | q
  · exact h y q
  · rw [q];exact ho
def lg (o:bh) (g:Int):bh:=bh.mk g o.kind o.box o.res o.iN o.cd o.wait o.iO o.iP o.mark o.ib o.data o.queue
def putAt (l:List bh) (o:bh) (k:Nat) (x:bh):List bh×Int:=if kq (l.set k (lg o (IntKind.i64.wrap (x.gen+1))))&&(o.kind != 0) then (l.set k (lg o (IntKind.i64.wrap (x.gen+1))),(k:Int)) else (l, -1)
def rq (l:List bh) (o:bh):Nat→List bh→List bh×Int
  | _,[]=>(l, -1)
  | k,x::m=>if x.kind != 0 || decide (x.gen ≥ 999) then rq l o (k+1) m else putAt l o k x
def kv (l:List bh) (o:bh):List bh×Int:=if kq l then rq l o 1 (l.drop 1) else (l, -1)
theorem DO {ρ:Type} {body:Int→Option (Int⊕ρ)} (l:List bh) (p:bh→Bool) (g:Nat→bh→ρ) (r:ρ) {N:Nat} (hN:l.length+1<N) (hl:1≤l.length)
    (hs:∀ (k:Nat) (x:bh),l[k]?=some x→1≤k→k<l.length→body (k:Int)=some (if p x then .inl ((k+1:Nat):Int) else .inr (g k x))) (he:body (l.length:Int)=some (.inr r)) :
    iter body N 1=some (mo (fun k (_:Unit) x=>if p x then .inl () else .inr (g (k+1) x)) (fun _=>r) 0 () (l.drop 1)):=by
  have hd:(l.drop 1).length+1=l.length:=by simp;omega
  rw [show (1:Int)=(fun (k:Nat) (_:Unit)=>((k+1:Nat):Int)) 0 () from rfl,
    nj (l.drop 1) (fun (k:Nat) (_:Unit)=>((k+1:Nat):Int)) (fun k _ x=>if p x then .inl () else .inr (g (k+1) x)) (fun _=>r) (fun _ _=>True) ?_ ?_ (by omega) trivial]
  · intro k _ x hx hk _
    have hx:l[k+1]?=some x:=by rw [← hx,List.getElem?_drop,Nat.add_comm]
    refine ⟨?_,fun _ _=>trivial⟩
    show body ((k+1:Nat):Int)=_
    rw [hs (k+1) x hx (by omega) (by omega)]
    cases p x <;> rfl
  · intro _ _
    simp only [hd]
    exact he
theorem AV {ρ:Type} (l:List bh) (o:bh) (r:ρ) (c:ρ→Option (List bh×Int)) (g:Nat→bh→ρ) (hr:c r=some (l, -1)) (hg:∀ k x,c (g k x)=some (putAt l o k x)):∀ (m:List bh) (k:Nat),
    c (mo (fun k (_:Unit) x=>if x.kind != 0 || decide (x.gen ≥ 999) then .inl () else .inr (g (k+1) x)) (fun _=>r) k () m)=some (rq l o (k+1) m)
  | [],k=>hr
  | x::m,k=>by
    unfold mo rq
    cases h:(x.kind != 0 || decide (x.gen ≥ 999))
    · simp only [Bool.false_eq_true,if_false];exact hg _ _
    · simp only [if_true];exact AV l o r c g hr hg m (k+1)
theorem CJ (o:bh) (g:Int):iu (lg o g)=iu o:=rfl
theorem um {o:bh} {g:Int} (h:lQ o):lQ (lg o g):=h
theorem Fg {l:List bh} (h:Ar l) {o:bh} (ho:iu o≤100000) (k:Nat):jr iu (l.set k o)<iy:=by
  have h1:=h.sz
  have h2:=vr (f:=iu) (y:=o) (l:=l) (k:=k)
  have:(16777216:Nat)=iy:=rfl
  omega
theorem tW {N:Nat} (hN:iy≤N) {l:List bh} (hb:jr iu l<iy) (hw:wA l) {o:bh} (ho:iu o≤100000) (hwo:lQ o):mj N l o=some (kv l o):=by
  have hB:(16777216:Nat)=iy:=rfl
  have hoB:iu o<iy:=by omega
  unfold mj kv
  simp only [wc hN hb,oz hN hb hw,Option.bind_some]
  cases ha:kq l
  · rfl
  have h:=kf.1 ha
  have hl:=h.len
  simp only [Bool.not_true,cond_false,if_true]
  rw [DO l (fun x=>x.kind != 0 || decide (x.gen ≥ 999)) (fun k x=>Sum.inr (putAt l o k x)) (Sum.inl (l.length:Int)) (by omega) (by omega)]
  · simp only [Option.bind_some]
    exact AV l o (Sum.inl (l.length:Int)) (fun o84=>Sum.elim (fun o84=>some (l, -1)) (fun r87=>some r87) o84) (fun k x=>Sum.inr (putAt l o k x)) rfl (fun k x=>rfl) _ 0
  · intro k x hx hk1 hkl
    simp only [jt hkl,cond_true,iT,hx,Option.bind_some,lG,jo (show k<iy by omega),AR hoB,Int.toNat_natCast]
    rw [show bh.mk (IntKind.i64.wrap (x.gen+1)) o.kind o.box o.res o.iN o.cd o.wait o.iO o.iP o.mark o.ib o.data o.queue=lg o (IntKind.i64.wrap (x.gen+1)) from rfl,oz hN (Fg h (by rw [CJ];exact ho) k) (kB hw (um hwo))]
    simp only [Option.bind_some,lG]
    unfold putAt
    have hk:(o.kind==0)=!(o.kind != 0):=by simp [bne]
    rw [hk]
    cases (x.kind != 0 || decide (x.gen ≥ 999))
    · cases kq (l.set k (lg o (IntKind.i64.wrap (x.gen+1)))) <;> cases (o.kind != 0) <;> rfl
    · rfl
  · simp only [ju,cond_false]
def marked (o:bh) (m:Bool):bh:=bh.mk o.gen o.kind o.box o.res o.iN o.cd o.wait o.iO o.iP m o.ib o.data o.queue
def nF (h:ic) (i:Int):ic:=if j7 h&&(iE i 0 9&&((nth h.ag i).kind != 0)) then ic.mk (h.ag.set i.toNat (marked (nth h.ag i) ((h.gc.phase==0) || decide (i ≥ h.gc.pos)))) h.gc else h
theorem zt {N:Nat} (hN:iy≤N) {h:ic} (h1:jr iu h.ag<iy) (h2:h.gc.gE.length<iy) (hw:wA h.ag) (i:Int):oR N h i=some (nF h i):=by
  unfold oR nF
  simp only [s8 hN h1 h2,sG hN h1 h2 hw,pU,Option.bind_some,bne]
  cases q:j7 h
  · rfl
  cases hi:iE i 0 9
  · rfl
  have hr:=jb.1 hi
  simp only [Bool.not_true,cond_false,((mc q).at hr.1 hr.2).1,Option.bind_some,Bool.true_and]
  cases (nth h.ag i).kind==0
  · cases h.gc.phase==0 <;> rfl
  · rfl
end Go.Kx
/- Plain laws: a new part. No program in sight. -/
namespace Go.Kx
open Go
set_option linter.unusedVariables false
set_option linter.unusedSimpArgs false
set_option maxRecDepth 10000
def oJ:List bh:=(List.replicate 10 (blank 0)).set 0 (bh.mk 0 1 (-1) 0 1000000 0 0 0 0 false [-1, -1] [] [])
def tK:bh:=bh.mk 0 4 0 0 1000000 0 0 0 0 false [-1, -1] [] []
def wX:List bh:=oJ.set 1 (lg tK 1)
def CL:List bh:=oJ.set 1 (marked (lg tK 1) true)
theorem wN (N:Nat):oy N=some oJ:=rfl
theorem zg:kv oJ tK=(wX,1):=by decide
theorem BS:wA oJ:=by
  intro o ho
  have:∀ o ∈ oJ, -9223372036854775808≤o.wait:=by decide
  exact this o ho
theorem Df:wA wX:=by
  intro o ho
  have:∀ o ∈ wX, -9223372036854775808≤o.wait:=by decide
  exact this o ho
def qY:ic:=ic.mk CL (jH.mk 0 0 0 [0])
theorem BA:nF (ic.mk wX (jH.mk 0 0 0 [0])) 1=qY:=by decide
def tD (a:iw):List iq:=(List.replicate 5 sE).set 0 (iq.mk true (-1) a)
theorem yc (N:Nat) (a:iw):nV N a=some (if i7 a then (tD a,true) else ([],false)):=by
  unfold nV
  rw [oO,Option.bind_some]
  cases i7 a <;> rfl
def FV:ia:=ia.mk (jJ.mk []) [] [] (ic.mk [] (jH.mk 0 0 0 [])) [] 0 0 (iw.mk 0 0 0) 0 0
def tw (b:pN):ia:=ia.mk b.label b.own (tD b.nm) qY [] 0 0 (iw.mk 0 0 0) 0 0
def DR (b:pN):Bool:=i7 b.nm&&(lM b.label&&rn b.own)
def vv (b:pN):ia×Bool:=if DR b then (tw b,true) else (FV,false)
theorem Ci:lQ tK:=by show (-9223372036854775808:Int)≤0;decide
theorem wE (b:pN):je (tw b)=qX b+20:=by
  show l6 b.label+(b.own.length+((tD b.nm).length+((jr iu qY.ag+((qY.gc.gE.length+0)+0))+(([]:List jE).length+0))))=l6 b.label+(b.own.length+0)+20
  have h1:jr iu qY.ag=14:=by decide
  have h2:qY.gc.gE.length=1:=by decide
  have h3:(tD b.nm).length=5:=rfl
  have h4:([]:List jE).length=0:=rfl
  simp only [h1,h2,h3,h4]
  omega
theorem Cd {N:Nat} (hN:iy≤N) {b:pN} (hb:qX b≤1048576):oZ N b=some (vv b):=by
  have h1:b.label.levels.length<iy∧b.own.length<iy:=by have:(16777216:Nat)=iy:=rfl;unfold qX l6 at hb;omega
  unfold oZ vv DR
  simp only [yc,xX hN h1.1,Bd hN h1.2,Option.bind_some,lG]
  cases i7 b.nm
  · cases lM b.label <;> cases rn b.own <;> rfl
  cases lM b.label
  · rfl
  cases rn b.own
  · rfl
  simp only [if_true,Bool.not_true,Bool.or_self,cond_false,Bool.and_self,wN,Option.bind_some]
  rw [show bh.mk 0 4 0 0 1000000 0 0 0 0 false ([-1, -1]:List Int) [] []=tK from rfl,tW hN (by decide) BS (by decide) Ci,zg]
  simp only [Option.bind_some]
  rw [show qi N=some (jH.mk 0 0 0 [0]) from rfl]
  simp only [Option.bind_some]
  rw [zt hN (by decide) (by decide) Df,BA]
  simp only [Option.bind_some]
  rw [show ia.mk b.label b.own (tD b.nm) qY [] 0 0 (iw.mk 0 0 0) 0 0=tw b from rfl,uB hN (by rw [wE];have:(16777216:Nat)=iy:=rfl;omega)]
  rfl
end Go.Kx
