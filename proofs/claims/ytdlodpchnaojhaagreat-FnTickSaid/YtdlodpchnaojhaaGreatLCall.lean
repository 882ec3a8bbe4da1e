/- Plain laws: what a call does in a part. No program in sight. -/
import Derived.Test.YtdlodpchnaojhaaGreatLTaps
namespace Go.Kx
open Go
set_option linter.unusedVariables false
set_option linter.unusedSimpArgs false
set_option maxRecDepth 10000
theorem Ka (a:ig):ig.mk a.bh a.ib a.ik=a:=rfl
def kb (l:List cd) (now me h kind:Int):Int:=bif nw h then (bif oY h != me then 3 else (bif decide (iF l now me h<0) then 4 else (bif (kind != 0)&&((nth l (iF l now me h)).kind != kind) then 5 else 0))) else 2
theorem Av {l:List cd} {now me h:Int} (q:decide (iF l now me h<0)=false):Ar l∧0≤iF l now me h∧iF l now me h≤9∧(nth l (iF l now me h)).kind ≠ 0:=by
  unfold iF at *
  cases hg:zs l now me h
  · rw [hg] at q;simp at q
  · simp only [cond_true]
    unfold zs at hg
    simp only [Bool.and_eq_true] at hg
    obtain ⟨⟨h1,h2,_⟩,h3,_⟩:=hg
    obtain ⟨a,b⟩:=yX h2
    exact ⟨kf.1 h1,a,b,by simpa using h3⟩
theorem pI {l:List cd} {now me h k:Int} (q:kb l now me h k=0):Ar l∧0≤iF l now me h∧iF l now me h≤9∧(nth l (iF l now me h)).kind ≠ 0∧(k ≠ 0→(nth l (iF l now me h)).kind=k):=by
  unfold kb at q
  cases h1:nw h
  · rw [h1] at q;simp at q
  cases h2:oY h != me
  case true=>rw [h1,h2] at q;simp at q
  cases h3:decide (iF l now me h<0)
  case true=>rw [h1,h2,h3] at q;simp at q
  obtain ⟨a,b,c,d⟩:=Av h3
  refine ⟨a,b,c,d,fun hk=>?_⟩
  rw [h1,h2,h3] at q
  simp only [cond_true,cond_false] at q
  have hk':(k != 0)=true:=by simpa using hk
  rw [hk'] at q
  cases h4:(nth l (iF l now me h)).kind != k
  · simpa using h4
  · rw [h4] at q;simp at q
theorem zg {N:Nat} (hN:im≤N) {p:dW} (hb:jo iz p.heap.ag<im) (hw:wP p) (me now h:Int):mI N p me now h=some (bif kb p.heap.ag now me h 0==0 then iF p.heap.ag now me h else -1,kb p.heap.ag now me h 0):=by
  unfold mI kb
  simp only [qU,xz,zj hN hb hw,Option.bind_some]
  rw [show iE h 0 29999=nw h from rfl]
  cases nw h
  · rfl
  cases oY h != me
  case true=>rfl
  cases q:decide (iF p.heap.ag now me h<0) <;> rfl
theorem zK {N:Nat} (hN:im≤N) {p:dW} (hb:jo iz p.heap.ag<im) (hw:wP p) (me now h:Int) {k:Int} (hk:0<k):nf N p me now h k=some (bif kb p.heap.ag now me h k==0 then iF p.heap.ag now me h else -1,kb p.heap.ag now me h k):=by
  unfold nf
  rw [zg hN hb hw]
  have k1:decide (k > 0)=true:=decide_eq_true hk
  have k2:(k != 0)=true:=by simp;omega
  simp only [Option.bind_some,k1,cond_true]
  unfold kb
  rw [k2]
  cases nw h
  · rfl
  cases oY h != me
  case true=>rfl
  cases q:decide (iF p.heap.ag now me h<0)
  case true=>rfl
  obtain ⟨ar,g0,g9,_⟩:=Av q
  simp only [bne_self_eq_false,Bool.false_and,Bool.true_and,cond_true,cond_false,beq_self_eq_true,(ar.at g0 g9).1,Option.bind_some]
  cases (nth p.heap.ag (iF p.heap.ag now me h)).kind != k <;> rfl
def vZ (h:iA) (i:Int):iA:=bif ku h&&iE i 0 9 then lT h i else h
theorem F8 {N:Nat} (hN:im≤N) {h:iA} (h1:jo iz h.ag<im) (h2:h.gc.ia.length+1<im) (hw:wA h.ag) (i:Int):og N h i=some (vZ h i):=by
  have h2':h.gc.ia.length<im:=by omega
  unfold og vZ
  simp only [vz hN h1 h2',wJ hN h1 h2' hw,sj,Option.bind_some]
  cases q:ku h
  · rfl
  cases hi:iE i 0 9
  · rfl
  have ar:=nZ q
  have hl:=ar.len
  rw [i7] at hi
  simp only [Bool.not_true,cond_true,cond_false,Option.bind_some,Bool.and_self,z5 hN hi.1 (show i<(h.ag.length:Int) by omega) h2]
def linked (o:cd) (b x:Int):cd:=cd.mk o.gen o.kind o.box o.res o.iU o.bh o.wait o.iW o.iR o.mark (o.il.set b.toNat x) o.data o.queue
def boxed (o:cd) (b:Int):cd:=cd.mk o.gen o.kind b o.res o.iU o.bh o.wait o.iW o.iR o.mark o.il o.data o.queue
def written (o:cd) (b x:Int):cd:=cd.mk o.gen o.kind o.box o.res o.iU o.bh o.wait o.iW o.iR o.mark o.il (o.data.set b.toNat x) o.queue
def sT (o:cd) (q:List jI):cd:=cd.mk o.gen o.kind o.box o.res o.iU o.bh o.wait o.iW o.iR o.mark o.il o.data q
def waiting (o:cd) (x:Int):cd:=cd.mk o.gen o.kind o.box o.res o.iU o.bh x o.iW o.iR o.mark o.il o.data o.queue
def yP (o:cd) (x:Int):cd:=cd.mk o.gen o.kind o.box o.res o.iU o.bh o.wait x o.iR o.mark o.il o.data o.queue
def mZ (p:dW) (h:iA):dW:=dW.mk p.label p.own p.tree h p.ij p.next p.want p.gE p.iH p.lost
def wT (p:dW) (t:List ir):dW:=dW.mk p.label p.own t p.heap p.ij p.next p.want p.gE p.iH p.lost
def Il (p:dW) (t:List jw):dW:=dW.mk p.label p.own p.tree p.heap t p.next p.want p.gE p.iH p.lost
def nJ (h:iA) (c i:Int):iA:=bif decide (c ≥ 0) then vZ h i else h
def JR (p:dW) (i b x:Int):dW:=mZ p (nJ (iA.mk (p.heap.ag.set i.toNat (linked (nth p.heap.ag i) b x)) p.heap.gc) x x)
def xb (p:dW) (me now:Int) (c:jF):Int×Int×dW :=
  bif !iE c.b 0 1 then (2,0,p) else
  bif kb p.heap.ag now me c.a 0 != 0 then (kb p.heap.ag now me c.a 0,0,p) else
  bif (c.kind==2)&&(kb p.heap.ag now me c.c 0 != 0) then (kb p.heap.ag now me c.c 0,0,p) else
  (0,0,JR p (iF p.heap.ag now me c.a) c.b (bif c.kind==2 then iF p.heap.ag now me c.c else -1))
structure nh (p:dW):Prop where
  ok:iS p=true
  sz:iG p≤3000000
  w:wP p
theorem nh.ar {p:dW} (h:nh p):Ar p.heap.ag:=jS h.ok
theorem nh.b4 {p:dW} (h:nh p):jo iz p.heap.ag<im:=(mq (p:=p) (Nat.lt_of_le_of_lt h.sz (by decide))).2.2.2.1
theorem nh.b5 {p:dW} (h:nh p):p.heap.gc.ia.length+1<im:=by
  have:=h.sz
  have hB:(16777216:Nat)=im:=rfl
  unfold iG mr sf at this
  omega
theorem sX {l:List cd} (h:Ar l) {i:Int} (h0:0≤i) (h9:i≤9):iz (nth l i)≤12:=wC (h.ok _ (h.at h0 h9).2)
theorem EK {l:List cd} (h:Ar l) {i:Int} {o:cd} (ho:iz o≤100000):jo iz (l.set i.toNat o)<im:=Kb h ho _
theorem AH (o:cd) (b x:Int):iz (linked o b x)=iz o:=by unfold iz linked;simp only [List.length_set]
theorem D8 {l:List Int} (h:l.length=2) {b:Int} (hb:iE b 0 1=true):idx l b=some (nth l b):=by
  rw [i7] at hb
  exact jC hb.1 (by omega)
theorem mC {a:Int} (h:(a != 0)=false):a=0:=by simpa using h
def Ek (p:dW):dW:=dW.mk p.label p.own p.tree p.heap p.ij p.next p.want p.gE (if 1000000<IntKind.i64.wrap (p.iH+1) then 1000000 else IntKind.i64.wrap (p.iH+1)) p.lost
def fin (c:jF) (p:dW) (r:Int×Int×dW):dW×ja:=bif r.1==0 then (r.2.2,ja.mk 0 r.2.1) else (bif (c.kind==1)&&((r.1==6) || (r.1==7)) then Ek p else p,ja.mk r.1 0)
theorem ub (c:jF) (p q:dW) (v:Int):fin c p (0,v,q)=(q,ja.mk 0 v):=rfl
theorem lQ {c:jF} {p q:dW} {k v:Int} (h:(k != 0)=true) (hc:(c.kind==1)=false):fin c p (k,v,q)=(p,ja.mk k 0):=by
  unfold fin
  have:(k==0)=false:=by simpa [bne] using h
  rw [this,hc];rfl
theorem xV {N:Nat} (hN:im≤N) {h:iA} (h1:jo iz h.ag<im) (h2:h.gc.ia.length+1<im) (hw:wA h.ag) (c i:Int) {β:Type} (f:iA→Option β):((bif decide (c ≥ 0) then ((og N h i).bind fun y=>some (y.ag,y.gc.phase,y.gc.pos,y.gc.round,y.gc.ia)) else (some (h.ag,h.gc.phase,h.gc.pos,h.gc.round,h.gc.ia)):Option ((List cd)×Int×Int×Int×(List Int))).bind fun j=>f (iA.mk j.1 (ks.mk j.2.1 j.2.2.1 j.2.2.2.1 j.2.2.2.2)))=f (nJ h c i):=by
  unfold nJ
  rw [F8 hN h1 h2 hw]
  cases decide (c ≥ 0) <;> rfl
theorem Kr {N:Nat} (hN:im≤N) {p:dW} (hp:nh p) (me now:Int) {c:jF} (hc:(c.kind==1)=false):sa N p me now c=some (fin c p (xb p me now c)):=by
  have h4:=hp.b4
  unfold sa xb
  simp only [nB,zg hN h4 hp.w,Option.bind_some]
  cases q1:iE c.b 0 1
  · simp only [Bool.not_false,cond_true,lQ (show ((2:Int) != 0)=true from rfl) hc]
  cases q2:kb p.heap.ag now me c.a 0 != 0
  case true=>simp only [Bool.not_true,cond_false,cond_true,lQ q2 hc]
  have q2':=mC q2
  obtain ⟨ar,g0,g9,gk,_⟩:=pI q2'
  have l2:=xq (ar.ok _ (ar.at g0 g9).2) (by simpa using gk)
  simp only [Bool.not_true,cond_false,q2',beq_self_eq_true,cond_true]
  generalize iF p.heap.ag now me c.a=i at *
  have hs:∀ x,jo iz (p.heap.ag.set i.toNat (linked (nth p.heap.ag i) c.b x))<im:=fun x=>EK ar (by rw [AH];have:=sX ar g0 g9;omega)
  have hx:∀ x,wA (p.heap.ag.set i.toNat (linked (nth p.heap.ag i) c.b x)):=fun x=>kL hp.w (show mO (nth p.heap.ag i) from hp.w _ (ar.at g0 g9).2)
  cases hk:c.kind==2
  · simp only [cond_false,Option.bind_some,Sum.elim_inl,(ar.at g0 g9).1,D8 l2 q1,Bool.false_and,ub]
    exact xV (h:=iA.mk (p.heap.ag.set i.toNat (linked (nth p.heap.ag i) c.b (-1))) p.heap.gc) hN (hs (-1)) hp.b5 (hx (-1)) (-1) (-1) fun y=>some (mZ p y,ja.mk 0 0)
  · cases q3:kb p.heap.ag now me c.c 0 != 0
    · have q3':=mC q3
      simp only [cond_true,cond_false,Option.bind_some,Sum.elim_inl,(ar.at g0 g9).1,D8 l2 q1,Bool.and_false,q3',beq_self_eq_true,ub]
      generalize iF p.heap.ag now me c.c=x
      exact xV (h:=iA.mk (p.heap.ag.set i.toNat (linked (nth p.heap.ag i) c.b x)) p.heap.gc) hN (hs x) hp.b5 (hx x) x x fun y=>some (mZ p y,ja.mk 0 0)
    · simp only [cond_true,cond_false,Option.bind_some,Sum.elim_inr,Bool.and_true,lQ q3 hc]
def KA (p:dW) (i x:Int):dW:=mZ p (nJ (iA.mk (p.heap.ag.set i.toNat (boxed (nth p.heap.ag i) x)) p.heap.gc) x i)
def xg (p:dW) (me now:Int) (c:jF):Int×Int×dW :=
  bif kb p.heap.ag now me c.a 0 != 0 then (kb p.heap.ag now me c.a 0,0,p) else
  bif iF p.heap.ag now me c.a==0 then (5,0,p) else
  bif (c.kind==4)&&(kb p.heap.ag now me c.b 1 != 0) then (kb p.heap.ag now me c.b 1,0,p) else
  (0,0,KA p (iF p.heap.ag now me c.a) (bif c.kind==4 then iF p.heap.ag now me c.b else -1))
theorem Kh {N:Nat} (hN:im≤N) {p:dW} (hp:nh p) (me now:Int) {c:jF} (hc:(c.kind==1)=false):r8 N p me now c=some (fin c p (xg p me now c)):=by
  have h4:=hp.b4
  unfold r8 xg
  simp only [zg hN h4 hp.w,zK hN h4 hp.w _ _ _ (show (0:Int)<1 by decide),Option.bind_some]
  cases q2:kb p.heap.ag now me c.a 0 != 0
  case true=>simp only [cond_true,lQ q2 hc]
  have q2':=mC q2
  obtain ⟨ar,g0,g9,gk,_⟩:=pI q2'
  simp only [Bool.not_true,cond_false,q2',beq_self_eq_true,cond_true]
  generalize iF p.heap.ag now me c.a=i at *
  cases hi:i==0
  case true=>simp only [cond_true,lQ (show ((5:Int) != 0)=true from rfl) hc]
  have hs:∀ x,jo iz (p.heap.ag.set i.toNat (boxed (nth p.heap.ag i) x))<im:=fun x=>EK ar (by have:iz (nth p.heap.ag i)≤12:=sX ar g0 g9;show iz (nth p.heap.ag i)≤_;omega)
  have hx:∀ x,wA (p.heap.ag.set i.toNat (boxed (nth p.heap.ag i) x)):=fun x=>kL hp.w (show mO (nth p.heap.ag i) from hp.w _ (ar.at g0 g9).2)
  cases hk:c.kind==4
  · simp only [cond_false,Option.bind_some,Sum.elim_inl,(ar.at g0 g9).1,Bool.false_and,ub]
    exact xV (h:=iA.mk (p.heap.ag.set i.toNat (boxed (nth p.heap.ag i) (-1))) p.heap.gc) hN (hs (-1)) hp.b5 (hx (-1)) (-1) i fun y=>some (mZ p y,ja.mk 0 0)
  · cases q3:kb p.heap.ag now me c.b 1 != 0
    · have q3':=mC q3
      simp only [cond_true,cond_false,Option.bind_some,Sum.elim_inl,(ar.at g0 g9).1,Bool.and_false,q3',beq_self_eq_true,ub]
      generalize iF p.heap.ag now me c.b=x
      exact xV (h:=iA.mk (p.heap.ag.set i.toNat (boxed (nth p.heap.ag i) x)) p.heap.gc) hN (hs x) hp.b5 (hx x) x i fun y=>some (mZ p y,ja.mk 0 0)
    · simp only [cond_true,cond_false,Option.bind_some,Sum.elim_inr,Bool.and_true,lQ q3 hc]
def Jr (p:dW) (i b x:Int):dW:=nv p (p.heap.ag.set i.toNat (written (nth p.heap.ag i) b x))
def kM (p:dW) (me now:Int) (c:jF):Int×Int×dW :=
  bif kb p.heap.ag now me c.a 2 != 0 then (kb p.heap.ag now me c.a 2,0,p) else
  bif !iE c.b 0 (((nth p.heap.ag (iF p.heap.ag now me c.a)).data.length:Int) - 1) then (2,0,p) else
  bif c.kind==7 then (0,nth (nth p.heap.ag (iF p.heap.ag now me c.a)).data c.b,p) else
  bif !iE c.c 0 999 then (2,0,p) else (0,0,Jr p (iF p.heap.ag now me c.a) c.b c.c)
theorem Iz {α:Type} {l:List α} (h:l.length<im):IntKind.i64.wrap ((l.length:Int) - 1)=(l.length:Int) - 1:=by
  have:l.length<16777216:=h
  exact iI (by omega) (by omega)
theorem Hz {o:cd} (h:iz o≤12):o.data.length<im:=by
  have hB:(16777216:Nat)=im:=rfl
  unfold iz at h
  omega
theorem Ki {N:Nat} (hN:im≤N) {p:dW} (hp:nh p) (me now:Int) {c:jF} (hc:(c.kind==1)=false) (hk:(c.kind==6)=!(c.kind==7)):qC N p me now c=some (fin c p (kM p me now c)):=by
  have h4:=hp.b4
  unfold qC kM
  simp only [zK hN h4 hp.w _ _ _ (show (0:Int)<2 by decide),nB,Option.bind_some]
  cases q2:kb p.heap.ag now me c.a 2 != 0
  case true=>simp only [cond_true,lQ q2 hc]
  have q2':=mC q2
  obtain ⟨ar,g0,g9,gk,_⟩:=pI q2'
  simp only [Bool.not_true,cond_false,q2',beq_self_eq_true,cond_true]
  generalize iF p.heap.ag now me c.a=i at *
  have ho:=sX ar g0 g9
  simp only [(ar.at g0 g9).1,Option.bind_some,Iz (Hz ho)]
  cases q3:iE c.b 0 (((nth p.heap.ag i).data.length:Int) - 1)
  · simp only [Bool.not_false,cond_true,Option.bind_some,lQ (show ((2:Int) != 0)=true from rfl) hc]
  have hd:idx (nth p.heap.ag i).data c.b=some (nth (nth p.heap.ag i).data c.b):=by
    rw [i7] at q3
    exact jC q3.1 (by omega)
  rw [hk]
  simp only [Bool.not_true,cond_false,hd,Option.bind_some]
  cases c.kind==7
  · cases iE c.c 0 999
    · simp only [Bool.not_false,cond_true,cond_false,Option.bind_some,lQ (show ((2:Int) != 0)=true from rfl) hc]
    · rfl
  · rfl
def tX (p:dW) (f:Int) (a:ig):Bool:=(jq p.tree f a).2&&(lH p.gE (ig.mk 0 a.ib 0)).2
def yK (p:dW) (f:Int) (a:ig):dW:=dW.mk p.label p.own (jq p.tree f a).1 p.heap p.ij p.next p.want (lH p.gE (ig.mk 0 a.ib 0)).1 p.iH p.lost
theorem nh.b3 {p:dW} (h:nh p):p.tree.length<im:=(mq (p:=p) (Nat.lt_of_le_of_lt h.sz (by decide))).2.2.1
def v7 (p:dW) (me now:Int) (c:jF):Int×Int×dW :=
  bif kb p.heap.ag now me c.a 0 != 0 then (kb p.heap.ag now me c.a 0,0,p) else
  bif (iF p.heap.ag now me c.a==0) || (!iE c.b 1 1000 || decide (IntKind.i64.wrap ((nth p.heap.ag (iF p.heap.ag now me c.a)).iU+c.b) > 1000000)) then (2,0,p) else
  bif !tX p (kN p (nth p.heap.ag (iF p.heap.ag now me c.a)).res) (ig.mk 0 (IntKind.i64.wrap ((nth p.heap.ag (iF p.heap.ag now me c.a)).bh * c.b)) 0) then (6,0,p) else
  (0,0,nv (yK p (kN p (nth p.heap.ag (iF p.heap.ag now me c.a)).res) (ig.mk 0 (IntKind.i64.wrap ((nth p.heap.ag (iF p.heap.ag now me c.a)).bh * c.b)) 0)) (p.heap.ag.set (iF p.heap.ag now me c.a).toNat (CJ (nth p.heap.ag (iF p.heap.ag now me c.a)) (IntKind.i64.wrap ((nth p.heap.ag (iF p.heap.ag now me c.a)).iU+c.b)))))
theorem Ji {N:Nat} (hN:im≤N) {p:dW} (hp:nh p) (me now:Int) {c:jF} (hc:(c.kind==1)=false):qE N p me now c=some (fin c p (v7 p me now c)):=by
  have h4:=hp.b4
  have h3:=hp.b3
  unfold qE v7
  simp only [zg hN h4 hp.w,nB,Option.bind_some]
  cases q2:kb p.heap.ag now me c.a 0 != 0
  case true=>simp only [cond_true,lQ q2 hc]
  have q2':=mC q2
  obtain ⟨ar,g0,g9,gk,_⟩:=pI q2'
  simp only [Bool.not_true,cond_false,q2',beq_self_eq_true,cond_true]
  generalize iF p.heap.ag now me c.a=i at *
  simp only [(ar.at g0 g9).1,Option.bind_some,lN,EE hN,vx hN h3,ve]
  cases ((i==0) || (!iE c.b 1 1000 || decide (IntKind.i64.wrap ((nth p.heap.ag i).iU+c.b) > 1000000)))
  · unfold tX
    cases (jq p.tree (kN p (nth p.heap.ag i).res) (ig.mk 0 (IntKind.i64.wrap ((nth p.heap.ag i).bh * c.b)) 0)).2 <;> cases (lH p.gE (ig.mk 0 (IntKind.i64.wrap ((nth p.heap.ag i).bh * c.b)) 0)).2 <;> simp only [Bool.not_true,Bool.not_false,Bool.and_self,Bool.and_false,Bool.false_and,Bool.or_self,Bool.or_true,Bool.true_or,Bool.false_or,Bool.or_false,Bool.true_and,Bool.and_true,cond_true,cond_false,lQ (show ((6:Int) != 0)=true from rfl) hc,ub]
    rfl
  · simp only [cond_true,lQ (show ((2:Int) != 0)=true from rfl) hc]
def zW (p:dW) (c:jF):Int×Int×dW :=
  bif c.kind==9 then
    bif !iE c.a 0 4 || !iY (ig.mk c.b c.c c.d) then (2,0,p) else
    bif !(nS p.tree c.a (ig.mk c.b c.c c.d)).2.2 then (6,0,p) else (0,(nS p.tree c.a (ig.mk c.b c.c c.d)).2.1,wT p (nS p.tree c.a (ig.mk c.b c.c c.d)).1)
  else bif c.kind==10 then
    bif !iE c.a 0 4 || (!iE c.b 0 4 || (!iE c.c 0 2 || !wV c.d)) then (2,0,p) else
    bif !(pY p.tree c.a c.b (lu c.c c.d)).2 then (6,0,p) else (0,0,wT p (pY p.tree c.a c.b (lu c.c c.d)).1)
  else bif !(qf p.tree c.a).2 then (2,0,p) else (0,0,wT p (qf p.tree c.a).1)
theorem KN {N:Nat} (hN:im≤N) {p:dW} (hp:nh p) {c:jF} (hc:(c.kind==1)=false):sZ N p c=some (fin c p (zW p c)):=by
  have h3:=hp.b3
  have n2:=fun q=>lQ (p:=p) (q:=q) (v:=0) (show ((2:Int) != 0)=true from rfl) hc
  have n6:=fun q=>lQ (p:=p) (q:=q) (v:=0) (show ((6:Int) != 0)=true from rfl) hc
  unfold sZ zW
  simp only [uR,qX,nB,Ll,Ie,yj hN h3,Fc hN h3,zB hN h3,Option.bind_some,lN]
  cases c.kind==9
  · cases c.kind==10
    · cases (qf p.tree c.a).2
      · simp only [Bool.not_false,cond_true,cond_false,n2]
      · rfl
    · cases (!iE c.a 0 4 || (!iE c.b 0 4 || (!iE c.c 0 2 || !wV c.d)))
      · cases (pY p.tree c.a c.b (lu c.c c.d)).2
        · simp only [Bool.not_false,cond_true,cond_false,n6]
        · rfl
      · simp only [cond_true,cond_false,n2]
  · cases (!iE c.a 0 4 || !iY (ig.mk c.b c.c c.d))
    · cases (nS p.tree c.a (ig.mk c.b c.c c.d)).2.2
      · simp only [Bool.not_false,cond_true,cond_false,n6]
      · rfl
    · simp only [cond_true,n2]
def xF (p:dW) (th a:Int):Int×Int×dW :=
  bif a==0 then (0,(nth p.heap.ag th).iR,p) else bif a==1 then (0,(nth p.heap.ag th).iW,p) else
  bif (a==2) || ((a==3) || (a==4)) then (0,k5 (oR p th) (IntKind.i64.wrap (a - 2)),p) else (2,0,p)
theorem Gx (a b c:Bool):(bif a then some a else bif b then some b else some c)=some (a || (b || c)):=by cases a <;> cases b <;> rfl
theorem LG (a b:Bool):(bif a then some a else some b)=some (a || b):=by cases a <;> rfl
theorem J2 {N:Nat} (hN:im≤N) {p:dW} (hp:nh p) {th:Int} (h0:0≤th) (h9:th≤9) {c:jF} (hc:(c.kind==1)=false):rK N p th c=some (fin c p (xF p th c.a)):=by
  unfold rK xF
  obtain ⟨r0,r4⟩:=vr p (nth p.heap.ag th).res
  simp only [(hp.ar.at h0 h9).1,EE hN,EA hp.ok r0 r4,GZ,Option.bind_some,Gx,Ka]
  cases c.a==0
  · cases c.a==1
    · cases (c.a==2) || ((c.a==3) || (c.a==4))
      · simp only [cond_false,lQ (show ((2:Int) != 0)=true from rfl) hc]
      · rfl
    · rfl
  · rfl
theorem B9 {l:List cd} {o:cd}:∀ (m:List cd) (k:Nat),tU l o k m=(l, -1)∨∃ (j:Nat) (g:Int),j<k+m.length∧tU l o k m=(l.set j (mj o g),(j:Int))∧kI (l.set j (mj o g))=true
  | [],k=>.inl rfl
  | x::m,k=>by
    unfold tU
    split
    · rcases B9 (l:=l) (o:=o) m (k+1) with h | ⟨j,g,h1,h2,h3⟩
      · exact .inl h
      · exact .inr ⟨j,g,by simp only [List.length_cons];omega,h2,h3⟩
    · unfold putAt
      split
      · rename_i q
        simp only [Bool.and_eq_true] at q
        exact .inr ⟨k,_,by simp,rfl,q.1⟩
      · exact .inl rfl
theorem yF {l:List cd} {o:cd} (h:decide ((k8 l o).2<0)=false):∃ (j:Nat) (g:Int),k8 l o=(l.set j (mj o g),(j:Int))∧Ar (l.set j (mj o g))∧j<10:=by
  unfold k8 at *
  cases ha:kI l
  · rw [ha] at h;simp at h
  · rw [ha] at h
    simp only [if_true] at *
    have hl:=(kf.1 ha).len
    rcases B9 (l:=l) (o:=o) (l.drop 1) 1 with e | ⟨j,g,h1,h2,h3⟩
    · rw [e] at h;simp at h
    · exact ⟨j,g,h2,kf.1 h3,by simp only [List.length_drop] at h1;omega⟩
def newObj (now box:Int) (c:jF):cd:=cd.mk 0 c.a box c.e (IntKind.i64.wrap (now+c.d)) c.c 0 0 0 false [-1, -1] (bif c.a==2 then List.replicate c.c.toNat 0 else []) []
def uS (now:Int) (c:jF):Bool:=!iE c.a 1 4 || (!iE c.c 0 8 || (!iE c.d 1 1000 || (decide (IntKind.i64.wrap (now+c.d) > 1000000) || !iE c.e 0 4)))
def cost (c:jF):ig:=ig.mk c.c (IntKind.i64.wrap (c.c * c.d)) 0
def xM (p:dW) (me now:Int) (c:jF):Int×Int×dW :=
  bif uS now c then (2,0,p) else
  bif kb p.heap.ag now me c.b 1 != 0 then (kb p.heap.ag now me c.b 1,0,p) else
  bif !tX p c.e (cost c) then (6,0,p) else
  bif decide ((k8 p.heap.ag (newObj now (iF p.heap.ag now me c.b) c)).2<0) then (7,0,yK p c.e (cost c)) else
  (0,wD me (k8 p.heap.ag (newObj now (iF p.heap.ag now me c.b) c)).2 (nth (k8 p.heap.ag (newObj now (iF p.heap.ag now me c.b) c)).1 (k8 p.heap.ag (newObj now (iF p.heap.ag now me c.b) c)).2).gen,
    mZ (yK p c.e (cost c)) (o5 (iA.mk (k8 p.heap.ag (newObj now (iF p.heap.ag now me c.b) c)).1 p.heap.gc) (k8 p.heap.ag (newObj now (iF p.heap.ag now me c.b) c)).2))
theorem yo {now:Int} {c:jF} (h:uS now c=false):0≤c.c∧c.c≤8:=by
  unfold uS at h
  simp only [Bool.or_eq_false_iff,Bool.not_eq_false'] at h
  exact i7.1 h.2.1
theorem AE {now box:Int} {c:jF} (h:0≤c.c∧c.c≤8):iz (newObj now box c)≤100:=by
  unfold iz newObj
  cases c.a==2
  · simp
  · simp only [cond_true,List.length_replicate,List.length_cons,List.length_nil]
    omega
theorem yT (now box:Int) (c:jF):mO (newObj now box c):=by show (-9223372036854775808:Int)≤0;decide
theorem LN {c:Int} (h:0≤c∧c≤8):mk Int c=some (List.replicate c.toNat 0):=by
  have hB:(16777216:Nat)=im:=rfl
  unfold mk
  rw [if_pos ⟨h.1,by omega⟩]
  rfl
theorem K4 (a b c d e:Bool):(bif a then some true else bif b then some true else bif c then some true else bif d then some true else some e)=some (a || (b || (c || (d || e)))):=by cases a <;> cases b <;> cases c <;> cases d <;> rfl
theorem CU (l:List cd) (now me h k:Int):(kb l now me h k==6)=false∧(kb l now me h k==7)=false:=by
  unfold kb
  cases nw h
  · exact ⟨rfl,rfl⟩
  cases oY h != me
  case true=>exact ⟨rfl,rfl⟩
  cases decide (iF l now me h<0)
  case true=>exact ⟨rfl,rfl⟩
  cases (k != 0)&&((nth l (iF l now me h)).kind != k) <;> exact ⟨rfl,rfl⟩
theorem B7 {c:jF} {p q:dW} {k v:Int} (h:(k != 0)=true) (h6:(k==6)=false) (h7:(k==7)=false):fin c p (k,v,q)=(p,ja.mk k 0):=by
  unfold fin
  have:(k==0)=false:=by simpa [bne] using h
  rw [this]
  simp only [cond_false,h6,h7,Bool.or_self,Bool.and_false]
theorem AU {c:jF} {p q:dW} {k v:Int} (h:(k != 0)=true) (h6:((k==6) || (k==7))=true) (hc:(c.kind==1)=true):fin c p (k,v,q)=(Ek p,ja.mk k 0):=by
  unfold fin
  have:(k==0)=false:=by simpa [bne] using h
  rw [this]
  simp only [cond_false,h6,hc,Bool.and_self,cond_true]
theorem J6 {N:Nat} (hN:im≤N) {p:dW} (hp:nh p) (me now:Int) {c:jF} (hc1:(c.kind==1)=true):ru N p me now c=some (fin c p (xM p me now c)):=by
  have h4:=hp.b4
  have h3:=hp.b3
  have h5:=hp.b5
  unfold ru xM
  simp only [zK hN h4 hp.w _ _ _ (show (0:Int)<1 by decide),nB,uR,Option.bind_some,K4]
  rw [show (!iE c.a 1 4 || (!iE c.c 0 8 || (!iE c.d 1 1000 || (decide (IntKind.i64.wrap (now+c.d) > 1000000) || !iE c.e 0 4))))=uS now c from rfl]
  cases q1:uS now c
  case true=>simp only [cond_true,B7 (show ((2:Int) != 0)=true from rfl) rfl rfl]
  have hc:=yo q1
  cases q2:kb p.heap.ag now me c.b 1 != 0
  case true=>simp only [cond_true,cond_false,B7 q2 (CU _ _ _ _ _).1 (CU _ _ _ _ _).2]
  have q2':=mC q2
  simp only [cond_false,cond_true,q2',beq_self_eq_true]
  generalize iF p.heap.ag now me c.b=box
  rw [show ig.mk c.c (IntKind.i64.wrap (c.c * c.d)) 0=cost c from rfl]
  simp only [vx hN h3,ve,Option.bind_some,lN]
  rw [show (!(jq p.tree c.e (cost c)).2 || !(lH p.gE (ig.mk 0 (IntKind.i64.wrap (c.c * c.d)) 0)).2)=!tX p c.e (cost c) by unfold tX;rw [Bool.not_and];rfl]
  cases q3:tX p c.e (cost c)
  · simp only [Bool.not_false,cond_true,AU (show ((6:Int) != 0)=true from rfl) rfl hc1]
    rfl
  simp only [Bool.not_true,cond_false,cond_true,LN hc,Option.bind_some]
  rw [show (bif c.a==2 then some (List.replicate c.c.toNat 0) else some ([]:List Int))=some (bif c.a==2 then List.replicate c.c.toNat 0 else []) from qx _ _ _]
  simp only [Option.bind_some]
  rw [show cd.mk 0 c.a box c.e (IntKind.i64.wrap (now+c.d)) c.c 0 0 0 false [-1, -1] (bif c.a==2 then List.replicate c.c.toNat 0 else []) []=newObj now box c from rfl]
  have ho:=AE (now:=now) (box:=box) hc
  rw [wQ hN h4 hp.w (o:=newObj now box c) (by omega) (yT _ _ _)]
  simp only [Option.bind_some]
  cases q4:decide ((k8 p.heap.ag (newObj now box c)).2<0)
  case true =>
    simp only [cond_true,AU (show ((7:Int) != 0)=true from rfl) rfl hc1]
    rfl
  obtain ⟨j,g,e,ar,hj⟩:=yF q4
  have h1:=ar.sz
  have hB:(16777216:Nat)=im:=rfl
  have hw':wA (p.heap.ag.set j (mj (newObj now box c) g)):=kL hp.w (wM (yT _ _ _))
  rw [e]
  simp only [cond_false,(ar.at (i:=(j:Int)) (by omega) (by omega)).1,Option.bind_some,uC]
  rw [BU hN (h:=iA.mk (p.heap.ag.set j (mj (newObj now box c) g)) p.heap.gc) (by show jo iz (p.heap.ag.set j (mj (newObj now box c) g))<im;omega) (by show p.heap.gc.ia.length<im;omega) hw']
  rfl
def we (l:List cd) (k w b:Int):List cd:=bif decide (k ≥ 0)&&((nth l k).wait==w) then (l.set k.toNat (waiting (nth l k) 0)).set k.toNat (yP (nth (l.set k.toNat (waiting (nth l k) 0)) k) b) else l
theorem FQ {l:List cd} {k w b:Int} (h:0≤k→k<(l.length:Int)) {β:Type} (f:List cd→Option β) :
    ((bif decide (k ≥ 0) then ((idx l k).bind fun y=>some (y.wait==w)) else (some false):Option Bool).bind fun j=>(bif j then ((idx l k).bind fun y=>(some (l.set (k:Int).toNat (waiting y 0))).bind fun z=>(idx z k).bind fun x=>(some (z.set (k:Int).toNat (yP x b))).bind fun v=>some v) else (some l):Option (List cd)).bind f)=f (we l k w b):=by
  unfold we
  cases hk:decide (k ≥ 0)
  · rfl
  have k0:0≤k:=by simpa using hk
  have e:=jC k0 (h k0)
  have e2:∀ z,idx (l.set k.toNat z) k=some (nth (l.set k.toNat z) k):=fun z=>jC k0 (by simp only [List.length_set];exact h k0)
  simp only [cond_true,e,e2,Option.bind_some,Bool.true_and]
  cases (nth l k).wait==w <;> rfl
def asked (l:List cd) (g me th:Int) (c:jF):List cd:=l.set g.toNat (sT (nth l g) ((nth l g).queue++[jI.mk (wD me th (nth l th).gen) c.b]))
def served (l:List cd) (g:Int):List cd:=l.set g.toNat (sT (nth l g) ((nth l g).queue.drop 1))
def xl (p:dW) (me now th:Int) (c:jF):Int×Int×dW :=
  bif kb p.heap.ag now me c.a 3 != 0 then (kb p.heap.ag now me c.a 3,0,p) else
  bif !iE c.b 0 999 then (2,0,p) else
  bif c.kind==12 then
    bif decide (((nth p.heap.ag (iF p.heap.ag now me c.a)).queue.length:Int) ≥ 2) then (8,0,p) else
    (0,0,nv p ((asked p.heap.ag (iF p.heap.ag now me c.a) me th c).set th.toNat (waiting (nth (asked p.heap.ag (iF p.heap.ag now me c.a) me th c) th) (IntKind.i64.wrap (c.a+1)))))
  else
    bif ((nth p.heap.ag (iF p.heap.ag now me c.a)).queue.length:Int)==0 then (8,0,p) else
    (0,(nth (nth p.heap.ag (iF p.heap.ag now me c.a)).queue 0).n,nv p (we (served p.heap.ag (iF p.heap.ag now me c.a)) (iF (served p.heap.ag (iF p.heap.ag now me c.a)) now me (nth (nth p.heap.ag (iF p.heap.ag now me c.a)).queue 0).src) (IntKind.i64.wrap (c.a+1)) c.b))
theorem Ih {α:Type} {l:List α} {k:Nat} (h:k≤l.length):sub l (k:Int) (l.length:Int)=some (l.drop k):=by
  unfold sub
  rw [if_pos ⟨by omega,by omega,by omega⟩]
  simp only [Int.toNat_natCast]
  rw [List.take_of_length_le (by simp)]
theorem AB {o:cd} (h:iz o≤12):o.queue.length≤12:=by unfold iz at h;omega
theorem Gu {o:cd} {q:List jI} (h:iz o≤12) (hq:q.length≤20):iz (sT o q)≤100000:=by
  unfold iz at h
  unfold iz sT
  simp only
  omega
theorem Ej {l:List cd} {now me h:Int} (hl:l.length=10) (h0:0≤iF l now me h):iF l now me h<(l.length:Int):=by
  obtain ⟨_,_,h9,_⟩:=Av (l:=l) (now:=now) (me:=me) (h:=h) (decide_eq_false (by omega))
  omega
theorem J9 {N:Nat} (hN:im≤N) {p:dW} (hp:nh p) (me now:Int) {th:Int} (t0:0≤th) (t9:th≤9) {c:jF} (hc:(c.kind==1)=false):rW N p me now th c=some (fin c p (xl p me now th c)):=by
  have h4:=hp.b4
  unfold rW xl
  simp only [zK hN h4 hp.w _ _ _ (show (0:Int)<3 by decide),nB,Option.bind_some]
  cases q2:kb p.heap.ag now me c.a 3 != 0
  case true=>simp only [cond_true,lQ q2 hc]
  have q2':=mC q2
  obtain ⟨ar,g0,g9,gk,_⟩:=pI q2'
  simp only [Bool.not_true,cond_false,q2',beq_self_eq_true,cond_true]
  generalize iF p.heap.ag now me c.a=i at *
  have ho:=sX ar g0 g9
  have hq:=AB ho
  have hl:=ar.len
  have hB:(16777216:Nat)=im:=rfl
  simp only [(ar.at g0 g9).1,(ar.at t0 t9).1,Option.bind_some]
  cases q3:iE c.b 0 999
  · simp only [Bool.not_false,cond_true,lQ (show ((2:Int) != 0)=true from rfl) hc]
  cases q4:c.kind==12
  · simp only [Bool.not_true,Bool.not_false,cond_false,cond_true,Option.bind_some]
    cases q5:((nth p.heap.ag i).queue.length:Int)==0
    case true=>simp only [cond_true,lQ (show ((8:Int) != 0)=true from rfl) hc]
    have l1:1≤(nth p.heap.ag i).queue.length:=by rw [beq_eq_false_iff_ne] at q5;omega
    have hsub:sub (nth p.heap.ag i).queue 1 ((nth p.heap.ag i).queue.length:Int)=some ((nth p.heap.ag i).queue.drop 1):=Ih l1
    have happ:app ([]:List jI) ((nth p.heap.ag i).queue.drop 1)=some ((nth p.heap.ag i).queue.drop 1):=kA (by simp only [List.length_drop];omega)
    have hi0:idx (nth p.heap.ag i).queue 0=some (nth (nth p.heap.ag i).queue 0):=jC (i:=0) (by decide) (by omega)
    simp only [cond_false,hsub,happ,hi0,Option.bind_some,ub]
    have hs:jo iz (p.heap.ag.set i.toNat (sT (nth p.heap.ag i) ((nth p.heap.ag i).queue.drop 1)))<im:=EK ar (Gu ho (by simp only [List.length_drop];omega))
    have hx:wA (p.heap.ag.set i.toNat (sT (nth p.heap.ag i) ((nth p.heap.ag i).queue.drop 1))):=kL hp.w (show mO (nth p.heap.ag i) from hp.w _ (ar.at g0 g9).2)
    have e1:=zj hN hs hx now me (nth (nth p.heap.ag i).queue 0).src
    unfold sT at e1
    rw [e1,Option.bind_some]
    exact FQ (l:=served p.heap.ag i) (Ej (by unfold served;simp only [List.length_set];exact hl)) fun z=>some (nv p z,ja.mk 0 (nth (nth p.heap.ag i).queue 0).n)
  · simp only [Bool.not_true,Bool.not_false,cond_false,cond_true,Option.bind_some,lN,Bool.or_false]
    cases q5:decide (((nth p.heap.ag i).queue.length:Int) ≥ 2)
    case true=>simp only [cond_true,lQ (show ((8:Int) != 0)=true from rfl) hc]
    have happ:∀ m,app (nth p.heap.ag i).queue [m]=some ((nth p.heap.ag i).queue++[m]):=fun m=>lj hq (by omega)
    have hap0:app ([]:List jI) (nth p.heap.ag i).queue=some (nth p.heap.ag i).queue:=kA (by omega)
    have e2:∀ z,idx (p.heap.ag.set i.toNat z) th=some (nth (p.heap.ag.set i.toNat z) th):=fun z=>jC t0 (by simp only [List.length_set];omega)
    simp only [cond_false,uC,hap0,happ,e2,Option.bind_some,ub]
    rfl
def x6 (p:dW) (c:jF):Int×Int×dW:=bif !iE c.a 0 ((p.ij.length:Int) - 1) then (2,0,p) else (0,0,Il p (p.ij.take c.a.toNat++p.ij.drop (c.a.toNat+1)))
theorem B8 {α:Type} {l:List α} {i j:Int} (h0:0≤i) (h1:i≤j) (h2:j≤(l.length:Int)):sub l i j=some ((l.drop i.toNat).take (j.toNat - i.toNat)):=by
  unfold sub
  rw [if_pos ⟨h0,h1,h2⟩]
theorem nh.b6 {p:dW} (h:nh p):p.ij.length<im:=(mq (p:=p) (Nat.lt_of_le_of_lt h.sz (by decide))).2.2.2.2.2
theorem Ks {α:Type} {l:List α} (hl:l.length<im) {a:Int} (h:iE a 0 ((l.length:Int) - 1)=true):IntKind.i64.wrap (a+1)=a+1∧sub l 0 a=some (l.take a.toNat)∧sub l (a+1) (l.length:Int)=some (l.drop (a.toNat+1))∧∃ m,sub l a (a+1)=some m:=by
  have hB:(16777216:Nat)=im:=rfl
  rw [i7] at h
  refine ⟨iI (by omega) (by omega),?_,?_,_,B8 h.1 (by omega) (by omega)⟩
  · rw [B8 (Int.le_refl 0) h.1 (by omega)]
    simp
  · rw [B8 (by omega) (by omega) (Int.le_refl _),show (a+1).toNat=a.toNat+1 by omega,List.take_of_length_le (by simp)]
def rC (p:dW) (me now th:Int) (c:jF):Int×Int×dW :=
  bif c.kind==1 then xM p me now c else bif (c.kind==2) || (c.kind==3) then xb p me now c else bif (c.kind==4) || (c.kind==5) then xg p me now c else
  bif (c.kind==6) || (c.kind==7) then kM p me now c else bif c.kind==8 then v7 p me now c else bif (c.kind==9) || ((c.kind==10) || (c.kind==11)) then zW p c else
  bif (c.kind==12) || (c.kind==13) then xl p me now th c else bif c.kind==14 then xF p th c.a else bif c.kind==15 then x6 p c else (2,0,p)
theorem Jv (p:dW) (th a:Int):(xF p th a).2.2=p:=by
  unfold xF
  cases a==0
  · cases a==1
    · cases (a==2) || ((a==3) || (a==4)) <;> rfl
    · rfl
  · rfl
theorem JP {a m n:Int} (hne:m ≠ n) (h:((a==m) || (a==n))=true):(a==m)=!(a==n):=by
  simp only [Bool.or_eq_true,beq_iff_eq] at h
  rcases h with h | h
  · subst h
    have:(a==n)=false:=by rw [beq_eq_false_iff_ne];exact hne
    rw [this];simp
  · subst h
    have:(a==m)=false:=by rw [beq_eq_false_iff_ne];exact fun q=>hne q.symm
    rw [this];simp
theorem wN {p:dW} {now th:Int} (h:sA p now th=true):iS p=true∧0≤th∧th≤9:=by
  unfold sA at h
  simp only [Bool.and_eq_true] at h
  exact uB (now:=now) (by simpa using h.1)
def qJ (p:dW) (me now th:Int) (c:jF):dW×ja :=
  bif !iS p || (!iE me 0 2 || !iE now 0 1000000) then (p,ja.mk 2 0) else bif !sA p now th then (p,ja.mk 1 0) else fin c p (rC p me now th c)
theorem FY (p:dW) (me now:Int) (c:jF) {β:Type} (x:Option β):ot p.label.levels (fin c p (kM p me now c)).1.label.levels (ot p.own (fin c p (kM p me now c)).1.own (ot p.tree (fin c p (kM p me now c)).1.tree (ot p.heap.ag (fin c p (kM p me now c)).1.heap.ag (ot p.heap.gc.ia (fin c p (kM p me now c)).1.heap.gc.ia (ot p.ij (fin c p (kM p me now c)).1.ij x)))))=x:=by
  have h:(kM p me now c).2.2.label=p.label∧(kM p me now c).2.2.own=p.own∧(kM p me now c).2.2.tree=p.tree∧(kM p me now c).2.2.heap.ag.length=p.heap.ag.length∧(kM p me now c).2.2.heap.gc=p.heap.gc∧(kM p me now c).2.2.ij=p.ij:=by
    unfold kM
    cases kb p.heap.ag now me c.a 2 != 0
    case true=>exact ⟨rfl,rfl,rfl,rfl,rfl,rfl⟩
    cases !iE c.b 0 (((nth p.heap.ag (iF p.heap.ag now me c.a)).data.length:Int) - 1)
    case true=>exact ⟨rfl,rfl,rfl,rfl,rfl,rfl⟩
    cases c.kind==7
    case true=>exact ⟨rfl,rfl,rfl,rfl,rfl,rfl⟩
    cases !iE c.c 0 999
    case true=>exact ⟨rfl,rfl,rfl,rfl,rfl,rfl⟩
    exact ⟨rfl,rfl,rfl,List.length_set,rfl,rfl⟩
  have g:(fin c p (kM p me now c)).1.label.levels.length=p.label.levels.length∧(fin c p (kM p me now c)).1.own.length=p.own.length∧(fin c p (kM p me now c)).1.tree.length=p.tree.length∧(fin c p (kM p me now c)).1.heap.ag.length=p.heap.ag.length∧(fin c p (kM p me now c)).1.heap.gc.ia.length=p.heap.gc.ia.length∧(fin c p (kM p me now c)).1.ij.length=p.ij.length:=by
    unfold fin
    cases (kM p me now c).1==0
    · cases (c.kind==1)&&(((kM p me now c).1==6) || ((kM p me now c).1==7)) <;> exact ⟨rfl,rfl,rfl,rfl,rfl,rfl⟩
    · simp only [cond_true]
      rw [h.1,h.2.1,h.2.2.1,h.2.2.2.2.1,h.2.2.2.2.2]
      exact ⟨rfl,rfl,rfl,h.2.2.2.1,rfl,rfl⟩
  rw [qN g.1,qN g.2.1,qN g.2.2.1,qN g.2.2.2.1,qN g.2.2.2.2.1,qN g.2.2.2.2.2]
theorem EJ {N:Nat} (hN:im≤N) {p:dW} (hb:iG p≤3000000) (hw:wP p) (me now th:Int) (c:jF):qq N p me now th c=some (qJ p me now th c):=by
  have hB:iG p<im:=Nat.lt_of_le_of_lt hb (by decide)
  unfold qq qJ
  simp only [yH hN hB hw,nB,Bf hN hB,GP hN hB hw,Option.bind_some,lN,LG,Gx]
  cases !iS p || (!iE me 0 2 || !iE now 0 1000000)
  case true=>rfl
  cases hc:sA p now th
  · rfl
  obtain ⟨ok,t0,t9⟩:=wN hc
  have hp:nh p:=⟨ok,hb,hw⟩
  simp only [Bool.not_true,cond_false]
  unfold rC
  cases hk:c.kind==1
  case true=>simp only [cond_true,J6 hN hp me now hk,Option.bind_some]
  simp only [cond_false]
  cases (c.kind==2) || (c.kind==3)
  case true=>simp only [cond_true,Kr hN hp me now hk,Option.bind_some]
  simp only [cond_false]
  cases (c.kind==4) || (c.kind==5)
  case true=>simp only [cond_true,Kh hN hp me now hk,Option.bind_some]
  simp only [cond_false]
  cases hd:(c.kind==6) || (c.kind==7)
  case true =>
    simp only [cond_true,Ki hN hp me now hk (JP (by decide) hd),Option.bind_some]
    all_goals (rw [FY];rfl)
  simp only [cond_false]
  cases c.kind==8
  case true=>simp only [cond_true,Ji hN hp me now hk,Option.bind_some]
  simp only [cond_false]
  cases (c.kind==9) || ((c.kind==10) || (c.kind==11))
  case true=>simp only [cond_true,KN hN hp hk,Option.bind_some]
  simp only [cond_false]
  cases (c.kind==12) || (c.kind==13)
  case true=>simp only [cond_true,J9 hN hp me now t0 t9 hk,Option.bind_some]
  simp only [cond_false]
  cases c.kind==14
  case true=>simp only [cond_true,J2 hN hp t0 t9 hk,Option.bind_some]
  simp only [cond_false]
  cases c.kind==15
  case false=>simp only [cond_false,lQ (show ((2:Int) != 0)=true from rfl) hk]
  have h6:=hp.b6
  unfold x6
  simp only [cond_true,Iz h6]
  cases hi:iE c.a 0 ((p.ij.length:Int) - 1)
  · simp only [Bool.not_false,cond_true,lQ (show ((2:Int) != 0)=true from rfl) hk]
  obtain ⟨h1,h2,h3,_⟩:=Ks h6 hi
  have hB':(16777216:Nat)=im:=rfl
  have a1:app ([]:List jw) (p.ij.take c.a.toNat)=some (p.ij.take c.a.toNat):=kA (by simp only [List.length_take];omega)
  have a2:app (p.ij.take c.a.toNat) (p.ij.drop (c.a.toNat+1))=some (p.ij.take c.a.toNat++p.ij.drop (c.a.toNat+1)):=by
    unfold app
    rw [if_pos (by simp only [List.length_take,List.length_drop];omega)]
  simp only [Bool.not_true,cond_false,h1,h2,h3,a1,a2,Option.bind_some,ub]
  rfl
structure tD (p q:dW):Prop where
  sz:iG q≤iG p+300
  w:wP q
  ln:q.heap.ag.length=p.heap.ag.length
theorem pt {p q:dW} (h1:q.label=p.label) (h2:q.own=p.own) (h3:q.tree.length=p.tree.length) (h4:jo iz q.heap.ag≤jo iz p.heap.ag+250) (h5:q.heap.gc.ia.length≤p.heap.gc.ia.length+1) (h6:q.ij.length≤p.ij.length) (h7:wA q.heap.ag) (h8:q.heap.ag.length=p.heap.ag.length):tD p q:=by
  refine ⟨?_,h7,h8⟩
  unfold iG mr sf my
  rw [h1,h2]
  omega
theorem jK {p:dW} (h:nh p):tD p p:=⟨by omega,h.w,rfl⟩
theorem vh {l:List cd} {k:Nat} {o:cd} (ho:iz o≤100):jo iz (l.set k o)≤jo iz l+100:=Nat.le_trans uQ (by omega)
theorem zl (h:iA) (c i:Int):(nJ h c i).ag.length=h.ag.length:=by
  unfold nJ vZ lT
  cases decide (c ≥ 0)
  · rfl
  cases ku h&&iE i 0 9
  · rfl
  simp only [cond_true]
  split
  · simp only [List.length_set]
  · rfl
theorem zY {h:iA} (hw:wA h.ag) (c i:Int):jo iz (nJ h c i).ag=jo iz h.ag∧wA (nJ h c i).ag∧(nJ h c i).gc.ia.length≤h.gc.ia.length+1:=by
  unfold nJ vZ
  cases decide (c ≥ 0)
  · exact ⟨rfl,hw,Nat.le_succ _⟩
  cases q:ku h&&iE i 0 9
  · exact ⟨rfl,hw,Nat.le_succ _⟩
  simp only [Bool.and_eq_true,i7] at q
  have hl:=(nZ q.1).len
  simp only [cond_true]
  refine ⟨?_,?_,wO h i⟩
  · unfold lT
    split
    · exact n5 q.2.1 (by omega) rfl
    · rfl
  · unfold lT
    split
    · exact kL hw (show mO (marked (nth h.ag i) true) from hw (nth h.ag i) (kT q.2.1 (by omega)))
    · exact hw
theorem JD {p:dW} (hp:nh p) (me now:Int) (c:jF):tD p (xb p me now c).2.2:=by
  unfold xb
  cases !iE c.b 0 1
  case true=>exact jK hp
  cases q2:kb p.heap.ag now me c.a 0 != 0
  case true=>exact jK hp
  obtain ⟨ar,g0,g9,_,_⟩:=pI (mC q2)
  cases (c.kind==2)&&(kb p.heap.ag now me c.c 0 != 0)
  case true=>exact jK hp
  simp only [cond_false]
  generalize (bif c.kind==2 then iF p.heap.ag now me c.c else -1)=x
  have ho:=sX ar g0 g9
  obtain ⟨a,b,d⟩:=zY (h:=iA.mk (p.heap.ag.set (iF p.heap.ag now me c.a).toNat (linked (nth p.heap.ag (iF p.heap.ag now me c.a)) c.b x)) p.heap.gc) (kL hp.w (show mO (nth p.heap.ag (iF p.heap.ag now me c.a)) from hp.w _ (ar.at g0 g9).2)) x x
  refine pt rfl rfl rfl ?_ d (Nat.le_refl _) b (by show (nJ _ _ _).ag.length=_;rw [zl];exact List.length_set)
  refine Nat.le_trans (Nat.le_of_eq a) (Nat.le_trans (vh (by rw [AH];omega)) (by omega))
theorem JJ {p:dW} (hp:nh p) (me now:Int) (c:jF):tD p (xg p me now c).2.2:=by
  unfold xg
  cases q2:kb p.heap.ag now me c.a 0 != 0
  case true=>exact jK hp
  obtain ⟨ar,g0,g9,_,_⟩:=pI (mC q2)
  cases iF p.heap.ag now me c.a==0
  case true=>exact jK hp
  cases (c.kind==4)&&(kb p.heap.ag now me c.b 1 != 0)
  case true=>exact jK hp
  simp only [cond_false]
  generalize (bif c.kind==4 then iF p.heap.ag now me c.b else -1)=x
  have ho:=sX ar g0 g9
  obtain ⟨a,b,d⟩:=zY (h:=iA.mk (p.heap.ag.set (iF p.heap.ag now me c.a).toNat (boxed (nth p.heap.ag (iF p.heap.ag now me c.a)) x)) p.heap.gc) (kL hp.w (show mO (nth p.heap.ag (iF p.heap.ag now me c.a)) from hp.w _ (ar.at g0 g9).2)) x (iF p.heap.ag now me c.a)
  refine pt rfl rfl rfl ?_ d (Nat.le_refl _) b (by show (nJ _ _ _).ag.length=_;rw [zl];exact List.length_set)
  refine Nat.le_trans (Nat.le_of_eq a) (Nat.le_trans (vh (show iz (nth p.heap.ag (iF p.heap.ag now me c.a))≤100 by omega)) (by omega))
theorem I0 {p:dW} (hp:nh p) (me now:Int) (c:jF):tD p (kM p me now c).2.2:=by
  unfold kM
  cases q2:kb p.heap.ag now me c.a 2 != 0
  case true=>exact jK hp
  obtain ⟨ar,g0,g9,_,_⟩:=pI (mC q2)
  cases !iE c.b 0 (((nth p.heap.ag (iF p.heap.ag now me c.a)).data.length:Int) - 1)
  case true=>exact jK hp
  cases c.kind==7
  case true=>exact jK hp
  cases !iE c.c 0 999
  case true=>exact jK hp
  have ho:=sX ar g0 g9
  refine pt rfl rfl rfl ?_ (Nat.le_succ _) (Nat.le_refl _) (kL hp.w (show mO (nth p.heap.ag (iF p.heap.ag now me c.a)) from hp.w _ (ar.at g0 g9).2)) List.length_set
  refine Nat.le_trans (vh (o:=written (nth p.heap.ag (iF p.heap.ag now me c.a)) c.b c.c) ?_) (by omega)
  unfold iz written at *
  simp only [List.length_set]
  omega
theorem HU {p:dW} (hp:nh p) (me now:Int) (c:jF):tD p (v7 p me now c).2.2:=by
  unfold v7
  cases q2:kb p.heap.ag now me c.a 0 != 0
  case true=>exact jK hp
  obtain ⟨ar,g0,g9,_,_⟩:=pI (mC q2)
  cases (iF p.heap.ag now me c.a==0) || (!iE c.b 1 1000 || decide (IntKind.i64.wrap ((nth p.heap.ag (iF p.heap.ag now me c.a)).iU+c.b) > 1000000))
  case true=>exact jK hp
  cases !tX p (kN p (nth p.heap.ag (iF p.heap.ag now me c.a)).res) (ig.mk 0 (IntKind.i64.wrap ((nth p.heap.ag (iF p.heap.ag now me c.a)).bh * c.b)) 0)
  case true=>exact jK hp
  have ho:=sX ar g0 g9
  refine pt rfl rfl (mh _ _ _) ?_ (Nat.le_succ _) (Nat.le_refl _) (kL hp.w (show mO (nth p.heap.ag (iF p.heap.ag now me c.a)) from hp.w _ (ar.at g0 g9).2)) List.length_set
  exact Nat.le_trans (vh (show iz (nth p.heap.ag (iF p.heap.ag now me c.a))≤100 by omega)) (by omega)
theorem Ax {p:dW} (hp:nh p) {t:List ir} (h:t.length=p.tree.length):tD p (wT p t):=pt rfl rfl h (by show jo iz p.heap.ag≤_;omega) (Nat.le_succ _) (Nat.le_refl _) hp.w rfl
theorem JV {p:dW} (hp:nh p) (c:jF):tD p (zW p c).2.2:=by
  unfold zW
  cases c.kind==9
  · cases c.kind==10
    · cases !(qf p.tree c.a).2
      · exact Ax hp (xI _ _)
      · exact jK hp
    · cases (!iE c.a 0 4 || (!iE c.b 0 4 || (!iE c.c 0 2 || !wV c.d)))
      · cases !(pY p.tree c.a c.b (lu c.c c.d)).2
        · exact Ax hp (C1 _ _ _ _)
        · exact jK hp
      · exact jK hp
  · cases (!iE c.a 0 4 || !iY (ig.mk c.b c.c c.d))
    · cases !(nS p.tree c.a (ig.mk c.b c.c c.d)).2.2
      · exact Ax hp (wU _ _ _)
      · exact jK hp
    · exact jK hp
theorem I4 (h:iA) (i:Int):(o5 h i).ag.length=h.ag.length:=by
  unfold o5
  split
  · simp only [List.length_set]
  · rfl
theorem KG (l:List cd) (k w b:Int):(we l k w b).length=l.length:=by
  unfold we
  cases decide (k ≥ 0)&&((nth l k).wait==w)
  · rfl
  · simp only [cond_true,List.length_set]
theorem I7 {h:iA} (hw:wA h.ag) (i:Int):jo iz (o5 h i).ag=jo iz h.ag∧wA (o5 h i).ag∧(o5 h i).gc.ia.length=h.gc.ia.length:=by
  unfold o5
  split
  · rename_i q
    simp only [Bool.and_eq_true,i7] at q
    have hl:=(nZ q.1).len
    exact ⟨n5 q.2.1.1 (by omega) rfl,kL hw (show mO (nth h.ag i) from hw _ (kT q.2.1.1 (by omega))),rfl⟩
  · exact ⟨rfl,hw,rfl⟩
theorem Jm {p:dW} (hp:nh p) (f:Int) (a:ig):tD p (yK p f a):=pt rfl rfl (mh _ _ _) (by show jo iz p.heap.ag≤_;omega) (Nat.le_succ _) (Nat.le_refl _) hp.w rfl
theorem JC {p:dW} (hp:nh p) (me now:Int) (c:jF):tD p (xM p me now c).2.2:=by
  unfold xM
  cases q1:uS now c
  case true=>exact jK hp
  cases kb p.heap.ag now me c.b 1 != 0
  case true=>exact jK hp
  cases !tX p c.e (cost c)
  case true=>exact jK hp
  generalize iF p.heap.ag now me c.b=box
  cases q4:decide ((k8 p.heap.ag (newObj now box c)).2<0)
  case true=>exact Jm hp _ _
  obtain ⟨j,g,e,ar,hj⟩:=yF q4
  simp only [cond_false]
  rw [e]
  have ho:=AE (now:=now) (box:=box) (yo q1)
  obtain ⟨a,b,d⟩:=I7 (h:=iA.mk (p.heap.ag.set j (mj (newObj now box c) g)) p.heap.gc) (kL hp.w (wM (yT _ _ _))) (j:Int)
  refine pt rfl rfl (mh _ _ _) ?_ (by show (o5 _ _).gc.ia.length≤_;rw [d];exact Nat.le_succ _) (Nat.le_refl _) b (by show (o5 _ _).ag.length=_;rw [I4];exact List.length_set)
  exact Nat.le_trans (Nat.le_of_eq a) (Nat.le_trans (vh (show iz (newObj now box c)≤100 from ho)) (by omega))
theorem HZ {l:List cd} (h:wA l) {i:Int} (h0:0≤i) (h1:i<(l.length:Int)):mO (nth l i):=h _ (kT h0 h1)
theorem Ke {l:List cd} (hw:wA l) {k w b:Int} (h:0≤k→k<(l.length:Int)):jo iz (we l k w b)=jo iz l∧wA (we l k w b):=by
  unfold we
  cases q:decide (k ≥ 0)&&((nth l k).wait==w)
  · exact ⟨rfl,hw⟩
  simp only [Bool.and_eq_true,decide_eq_true_eq] at q
  have k1:=h q.1
  have w0:mO (waiting (nth l k) 0):=by show (-9223372036854775808:Int)≤0;decide
  have w1:=kL (k:=k.toNat) hw w0
  have k2:k<((l.set k.toNat (waiting (nth l k) 0)).length:Int):=by simp only [List.length_set];exact k1
  simp only [cond_true]
  exact ⟨(n5 (z:=yP (nth (l.set k.toNat (waiting (nth l k) 0)) k) b) q.1 k2 rfl).trans (n5 q.1 k1 rfl),kL w1 (show mO (nth (l.set k.toNat (waiting (nth l k) 0)) k) from HZ w1 q.1 k2)⟩
theorem Lu (n:Int):-9223372036854775808≤IntKind.i64.wrap n:=by
  simp [IntKind.wrap,IntKind.signed,IntKind.bits]
  split <;> omega
theorem JB {p:dW} (hp:nh p) (me now:Int) {th:Int} (t0:0≤th) (t9:th≤9) (c:jF):tD p (xl p me now th c).2.2:=by
  unfold xl
  cases q2:kb p.heap.ag now me c.a 3 != 0
  case true=>exact jK hp
  obtain ⟨ar,g0,g9,_,_⟩:=pI (mC q2)
  cases !iE c.b 0 999
  case true=>exact jK hp
  simp only [cond_false]
  generalize iF p.heap.ag now me c.a=i at *
  have ho:=sX ar g0 g9
  have hl:=ar.len
  have hwi:mO (nth p.heap.ag i):=hp.w _ (ar.at g0 g9).2
  have qs:∀ q,q.length≤20→iz (sT (nth p.heap.ag i) q)≤100:=fun q hq=>by
    unfold iz at ho
    unfold iz sT
    simp only
    omega
  have hq:=AB ho
  cases c.kind==12
  · cases ((nth p.heap.ag i).queue.length:Int)==0
    case true=>exact jK hp
    have hw1:wA (served p.heap.ag i):=kL hp.w hwi
    obtain ⟨a,b⟩:=Ke (l:=served p.heap.ag i) hw1 (k:=iF (served p.heap.ag i) now me (nth (nth p.heap.ag i).queue 0).src) (w:=IntKind.i64.wrap (c.a+1)) (b:=c.b) (Ej (by unfold served;simp only [List.length_set];exact hl))
    refine pt rfl rfl rfl ?_ (Nat.le_succ _) (Nat.le_refl _) b (by show (we _ _ _ _).length=_;rw [KG];exact List.length_set)
    refine Nat.le_trans (Nat.le_of_eq a) (Nat.le_trans (vh (qs _ (by simp only [List.length_drop];omega))) (by omega))
  · cases decide (((nth p.heap.ag i).queue.length:Int) ≥ 2)
    case true=>exact jK hp
    have hw1:wA (asked p.heap.ag i me th c):=kL hp.w hwi
    have hl1:(asked p.heap.ag i me th c).length=10:=by unfold asked;simp only [List.length_set];exact hl
    have e:jo iz ((asked p.heap.ag i me th c).set th.toNat (waiting (nth (asked p.heap.ag i me th c) th) (IntKind.i64.wrap (c.a+1))))=jo iz (asked p.heap.ag i me th c):=n5 t0 (by omega) rfl
    refine pt rfl rfl rfl ?_ (Nat.le_succ _) (Nat.le_refl _) (kL hw1 (Lu _)) (by show (List.set _ _ _).length=_;rw [List.length_set,hl1,hl])
    refine Nat.le_trans (Nat.le_of_eq e) (Nat.le_trans (vh (qs _ (by simp only [List.length_append,List.length_cons,List.length_nil];omega))) (by omega))
theorem HH {p:dW} (hp:nh p) (c:jF):tD p (x6 p c).2.2:=by
  unfold x6
  cases hi:iE c.a 0 ((p.ij.length:Int) - 1)
  · exact jK hp
  · exact pt rfl rfl rfl (by show jo iz p.heap.ag≤_;omega) (Nat.le_succ _) (by show (p.ij.take c.a.toNat++p.ij.drop (c.a.toNat+1)).length≤_;simp only [List.length_append,List.length_take,List.length_drop];omega) hp.w rfl
theorem IQ {p:dW} (hp:nh p) (me now:Int) {th:Int} (t0:0≤th) (t9:th≤9) (c:jF):tD p (rC p me now th c).2.2:=by
  unfold rC
  cases c.kind==1
  case true=>exact JC hp _ _ _
  cases (c.kind==2) || (c.kind==3)
  case true=>exact JD hp _ _ _
  cases (c.kind==4) || (c.kind==5)
  case true=>exact JJ hp _ _ _
  cases (c.kind==6) || (c.kind==7)
  case true=>exact I0 hp _ _ _
  cases c.kind==8
  case true=>exact HU hp _ _ _
  cases (c.kind==9) || ((c.kind==10) || (c.kind==11))
  case true=>exact JV hp _
  cases (c.kind==12) || (c.kind==13)
  case true=>exact JB hp _ _ t0 t9 _
  cases c.kind==14
  case true=>simp only [cond_false,cond_true,Jv];exact jK hp
  cases c.kind==15
  case true=>exact HH hp _
  exact jK hp
theorem Jo {p:dW} (hb:iG p≤3000000) (hw:wP p) (me now th:Int) (c:jF):iG (qJ p me now th c).1≤iG p+300∧wP (qJ p me now th c).1:=by
  unfold qJ
  cases !iS p || (!iE me 0 2 || !iE now 0 1000000)
  case true=>exact ⟨Nat.le_add_right _ _,hw⟩
  cases hc:sA p now th
  · exact ⟨Nat.le_add_right _ _,hw⟩
  obtain ⟨ok,t0,t9⟩:=wN hc
  have hp:nh p:=⟨ok,hb,hw⟩
  simp only [Bool.not_true,cond_false]
  unfold fin
  cases (rC p me now th c).1==0
  · cases (c.kind==1)&&(((rC p me now th c).1==6) || ((rC p me now th c).1==7)) <;> exact ⟨Nat.le_add_right (iG p) _,hw⟩
  · have h:=IQ hp me now t0 t9 c
    exact ⟨h.sz,h.w⟩
theorem Hv {p:dW} (hb:iG p≤3000000) (hw:wP p) (me now th:Int) (c:jF):(qJ p me now th c).1.heap.ag.length=p.heap.ag.length:=by
  unfold qJ
  cases !iS p || (!iE me 0 2 || !iE now 0 1000000)
  case true=>rfl
  cases hc:sA p now th
  · rfl
  obtain ⟨ok,t0,t9⟩:=wN hc
  simp only [Bool.not_true,cond_false]
  unfold fin
  cases (rC p me now th c).1==0
  · cases (c.kind==1)&&(((rC p me now th c).1==6) || ((rC p me now th c).1==7)) <;> rfl
  · exact (IQ ⟨ok,hb,hw⟩ me now t0 t9 c).ln
end Go.Kx
