/- Plain laws: what a call does in a part. No program in sight. -/
import Derived.Test.YtikeaiogpfjdnaaGreatLSum
namespace Go.Kx
open Go
set_option linter.unusedVariables false
set_option linter.unusedSimpArgs false
set_option maxRecDepth 10000
theorem u7 (p:hZ):hZ.mk p.label p.own p.tree p.heap p.ic p.next p.want p.gE p.ik p.lost=p:=rfl
theorem uN (g:jr):jr.mk g.phase g.pos g.round g.ia=g:=rfl
theorem uI (h:ir):ir.mk h.ag h.gc=h:=rfl
theorem HJ (a:iC):iC.mk a.bh a.ig a.iB=a:=rfl
def jv (l:List cd) (now me h kind:Int):Int:=bif mT h then (bif mG h != me then 3 else (bif decide (iE l now me h<0) then 4 else (bif (kind != 0)&&((nth l (iE l now me h)).kind != kind) then 5 else 0))) else 2
theorem xp {l:List cd} {now me h:Int} (q:decide (iE l now me h<0)=false):Ar l∧0≤iE l now me h∧iE l now me h≤9∧(nth l (iE l now me h)).kind ≠ 0:=by
  unfold iE at *
  cases hg:zi l now me h
  · rw [hg] at q;simp at q
  · simp only [cond_true]
    unfold zi at hg
    simp only [Bool.and_eq_true] at hg
    obtain ⟨⟨h1,h2,_⟩,h3,_⟩:=hg
    obtain ⟨a,b⟩:=ya h2
    exact ⟨kz.1 h1,a,b,by simpa using h3⟩
theorem lZ {l:List cd} {now me h k:Int} (q:jv l now me h k=0):Ar l∧0≤iE l now me h∧iE l now me h≤9∧(nth l (iE l now me h)).kind ≠ 0∧(k ≠ 0→(nth l (iE l now me h)).kind=k):=by
  unfold jv at q
  cases h1:mT h
  · rw [h1] at q;simp at q
  cases h2:mG h != me
  case true=>rw [h1,h2] at q;simp at q
  cases h3:decide (iE l now me h<0)
  case true=>rw [h1,h2,h3] at q;simp at q
  obtain ⟨a,b,c,d⟩:=xp h3
  refine ⟨a,b,c,d,fun hk=>?_⟩
  rw [h1,h2,h3] at q
  simp only [cond_true,cond_false] at q
  have hk':(k != 0)=true:=by simpa using hk
  rw [hk'] at q
  cases h4:(nth l (iE l now me h)).kind != k
  · simpa using h4
  · rw [h4] at q;simp at q
theorem vC {N:Nat} (hN:im≤N) {x:iK} (hb:jo iD x.part.heap.ag<im) (h k:Int):km N x h k=some (bif jv x.part.heap.ag x.now x.me h k==0 then iE x.part.heap.ag x.now x.me h else 0,jv x.part.heap.ag x.now x.me h k,x):=by
  unfold km jv
  simp only [oX,uF,wk hN hb,Option.bind_some]
  rw [show iG h 0 29999=mT h from rfl]
  cases mT h
  · rfl
  cases mG h != x.me
  case true=>rfl
  cases q:decide (iE x.part.heap.ag x.now x.me h<0)
  case true=>rfl
  obtain ⟨ar,g0,g9,_⟩:=xp q
  simp only [Bool.not_true,cond_false,(ar.at g0 g9).1,Option.bind_some]
  cases k != 0 <;> cases (nth x.part.heap.ag (iE x.part.heap.ag x.now x.me h)).kind != k <;> rfl
theorem zg {N:Nat} (hN:im≤N) {p:hZ} (hb:jo iD p.heap.ag<im) (hw:wP p) (me now h:Int):mg N p me now h=some (bif jv p.heap.ag now me h 0==0 then iE p.heap.ag now me h else -1,jv p.heap.ag now me h 0):=by
  unfold mg jv
  simp only [qS,sH,we hN hb hw,Option.bind_some]
  rw [show iG h 0 29999=mT h from rfl]
  cases mT h
  · rfl
  cases mG h != me
  case true=>rfl
  cases q:decide (iE p.heap.ag now me h<0) <;> rfl
theorem yt {N:Nat} (hN:im≤N) {p:hZ} (hb:jo iD p.heap.ag<im) (hw:wP p) (me now h:Int) {k:Int} (hk:0<k):mZ N p me now h k=some (bif jv p.heap.ag now me h k==0 then iE p.heap.ag now me h else -1,jv p.heap.ag now me h k):=by
  unfold mZ
  rw [zg hN hb hw]
  have k1:decide (k > 0)=true:=decide_eq_true hk
  have k2:(k != 0)=true:=by simp;omega
  simp only [Option.bind_some,k1,cond_true]
  unfold jv
  rw [k2]
  cases mT h
  · rfl
  cases mG h != me
  case true=>rfl
  cases q:decide (iE p.heap.ag now me h<0)
  case true=>rfl
  obtain ⟨ar,g0,g9,_⟩:=xp q
  simp only [bne_self_eq_false,Bool.false_and,Bool.true_and,cond_true,cond_false,beq_self_eq_true,(ar.at g0 g9).1,Option.bind_some]
  cases (nth p.heap.ag (iE p.heap.ag now me h)).kind != k <;> rfl
def tB (h:ir) (i:Int):ir:=bif kC h&&iG i 0 9 then nu h i else h
theorem Fj {N:Nat} (hN:im≤N) {h:ir} (h1:jo iD h.ag<im) (h2:h.gc.ia.length+1<im) (i:Int):oe N h i=some (tB h i):=by
  have h2':h.gc.ia.length<im:=by omega
  unfold oe tB
  simp only [wm hN h1 h2',yl hN h1 h2',tw,Option.bind_some]
  cases q:kC h
  · rfl
  cases hi:iG i 0 9
  · rfl
  have ar:=nS q
  have hl:=ar.len
  rw [jE] at hi
  simp only [cond_true,Option.bind_some,Bool.and_self,Hc hN hi.1 (show i<(h.ag.length:Int) by omega) h2]
theorem Ea {N:Nat} (hN:im≤N) {h:ir} (h1:jo iD h.ag<im) (h2:h.gc.ia.length+1<im) (hw:wA h.ag) (i:Int):nX N h i=some (tB h i):=by
  have h2':h.gc.ia.length<im:=by omega
  unfold nX tB
  simp only [uZ hN h1 h2',wq hN h1 h2' hw,rW,Option.bind_some]
  cases q:kC h
  · rfl
  cases hi:iG i 0 9
  · rfl
  have ar:=nS q
  have hl:=ar.len
  rw [jE] at hi
  simp only [Bool.not_true,cond_true,cond_false,Option.bind_some,Bool.and_self,yQ hN hi.1 (show i<(h.ag.length:Int) by omega) h2]
def linked (o:cd) (b x:Int):cd:=cd.mk o.gen o.kind o.box o.res o.iP o.bh o.wait o.iN o.iO o.mark (o.ij.set b.toNat x) o.data o.queue
def boxed (o:cd) (b:Int):cd:=cd.mk o.gen o.kind b o.res o.iP o.bh o.wait o.iN o.iO o.mark o.ij o.data o.queue
def written (o:cd) (b x:Int):cd:=cd.mk o.gen o.kind o.box o.res o.iP o.bh o.wait o.iN o.iO o.mark o.ij (o.data.set b.toNat x) o.queue
def pd (o:cd) (q:List iU):cd:=cd.mk o.gen o.kind o.box o.res o.iP o.bh o.wait o.iN o.iO o.mark o.ij o.data q
def waiting (o:cd) (x:Int):cd:=cd.mk o.gen o.kind o.box o.res o.iP o.bh x o.iN o.iO o.mark o.ij o.data o.queue
def x8 (o:cd) (x:Int):cd:=cd.mk o.gen o.kind o.box o.res o.iP o.bh o.wait x o.iO o.mark o.ij o.data o.queue
def lN (p:hZ) (h:ir):hZ:=hZ.mk p.label p.own p.tree h p.ic p.next p.want p.gE p.ik p.lost
def vO (p:hZ) (t:List iz):hZ:=hZ.mk p.label p.own t p.heap p.ic p.next p.want p.gE p.ik p.lost
def Bg (p:hZ) (t:List je):hZ:=hZ.mk p.label p.own p.tree p.heap t p.next p.want p.gE p.ik p.lost
def mH (h:ir) (c i:Int):ir:=bif decide (c ≥ 0) then tB h i else h
def H3 (p:hZ) (i b x:Int):hZ:=lN p (mH (ir.mk (p.heap.ag.set i.toNat (linked (nth p.heap.ag i) b x)) p.heap.gc) x x)
def mC (p:hZ) (me now:Int) (c:iL):Int×Int×hZ :=
  bif !iG c.b 0 1 then (2,0,p) else
  bif jv p.heap.ag now me c.a 0 != 0 then (jv p.heap.ag now me c.a 0,0,p) else
  bif (c.kind==2)&&(jv p.heap.ag now me c.c 0 != 0) then (jv p.heap.ag now me c.c 0,0,p) else
  (0,0,H3 p (iE p.heap.ag now me c.a) c.b (bif c.kind==2 then iE p.heap.ag now me c.c else -1))
structure lr (p:hZ):Prop where
  ok:kl p=true
  sz:jd p≤3000000
  w:wP p
theorem lr.ar {p:hZ} (h:lr p):Ar p.heap.ag:=m9 h.ok
theorem lr.b4 {p:hZ} (h:lr p):jo iD p.heap.ag<im:=(kg (p:=p) (Nat.lt_of_le_of_lt h.sz (by decide))).2.2.2.1
theorem lr.b5 {p:hZ} (h:lr p):p.heap.gc.ia.length+1<im:=by
  have:=h.sz
  have hB:(16777216:Nat)=im:=rfl
  unfold jd oW tY at this
  omega
theorem oB {l:List cd} (h:Ar l) {i:Int} (h0:0≤i) (h9:i≤9):iD (nth l i)≤12:=Bz (h.ok _ (h.at h0 h9).2)
theorem xu {l:List cd} (h:Ar l) {i:Int} {o:cd} (ho:iD o≤100000):jo iD (l.set i.toNat o)<im:=FC h ho _
theorem wH (o:cd) (b x:Int):iD (linked o b x)=iD o:=by unfold iD linked;simp only [List.length_set]
theorem xk {l:List Int} (h:l.length=2) {b:Int} (hb:iG b 0 1=true):idx l b=some (nth l b):=by
  rw [jE] at hb
  exact jy hb.1 (by omega)
theorem kr {a:Int} (h:(a != 0)=false):a=0:=by simpa using h
theorem CZ {N:Nat} (hN:im≤N) {h:ir} (h1:jo iD h.ag<im) (h2:h.gc.ia.length+1<im) (c i:Int) {β:Type} (f:ir→Option β):(bif decide (c ≥ 0) then (oe N h i).bind f else f h)=f (mH h c i):=by
  unfold mH
  rw [Fj hN h1 h2]
  cases decide (c ≥ 0) <;> rfl
theorem Hv {N:Nat} (hN:im≤N) {p:hZ} (hp:lr p) (me now th:Int) (c:iL):nE N (iK.mk p me now th) c=some ((mC p me now c).1,iK.mk (mC p me now c).2.2 me now th):=by
  have h4:=hp.b4
  unfold nE mC
  simp only [mI,vC hN,h4,Option.bind_some,uN,uI,u7]
  cases q1:iG c.b 0 1
  · rfl
  cases q2:jv p.heap.ag now me c.a 0 != 0
  case true=>rfl
  have q2':=kr q2
  obtain ⟨ar,g0,g9,gk,_⟩:=lZ q2'
  have l2:=wO (ar.ok _ (ar.at g0 g9).2) (by simpa using gk)
  simp only [Bool.not_true,cond_false,q2',beq_self_eq_true,cond_true]
  generalize iE p.heap.ag now me c.a=i at *
  have hs:∀ x,jo iD (p.heap.ag.set i.toNat (linked (nth p.heap.ag i) c.b x))<im:=fun x=>xu ar (by rw [wH];have:=oB ar g0 g9;omega)
  cases hk:c.kind==2
  · simp only [cond_false,Option.bind_some,Sum.elim_inl,(ar.at g0 g9).1,xk l2 q1,Bool.false_and]
    rfl
  · cases q3:jv p.heap.ag now me c.c 0 != 0
    · have q3':=kr q3
      simp only [cond_true,cond_false,Option.bind_some,Sum.elim_inl,(ar.at g0 g9).1,xk l2 q1,Bool.and_false,q3',beq_self_eq_true]
      generalize iE p.heap.ag now me c.c=x
      exact CZ (h:=ir.mk (p.heap.ag.set i.toNat (linked (nth p.heap.ag i) c.b x)) p.heap.gc) hN (hs x) hp.b5 x x fun y=>some ((0:Int),iK.mk (lN p y) me now th)
    · rfl
def C3 (p:hZ):hZ:=hZ.mk p.label p.own p.tree p.heap p.ic p.next p.want p.gE (if 1000000<IntKind.i64.wrap (p.ik+1) then 1000000 else IntKind.i64.wrap (p.ik+1)) p.lost
def fin (c:iL) (p:hZ) (r:Int×Int×hZ):hZ×iJ:=bif r.1==0 then (r.2.2,iJ.mk 0 r.2.1) else (bif (c.kind==1)&&((r.1==6) || (r.1==7)) then C3 p else p,iJ.mk r.1 0)
theorem tX (c:iL) (p q:hZ) (v:Int):fin c p (0,v,q)=(q,iJ.mk 0 v):=rfl
theorem lj {c:iL} {p q:hZ} {k v:Int} (h:(k != 0)=true) (hc:(c.kind==1)=false):fin c p (k,v,q)=(p,iJ.mk k 0):=by
  unfold fin
  have:(k==0)=false:=by simpa [bne] using h
  rw [this,hc];rfl
theorem xn {N:Nat} (hN:im≤N) {h:ir} (h1:jo iD h.ag<im) (h2:h.gc.ia.length+1<im) (hw:wA h.ag) (c i:Int) {β:Type} (f:ir→Option β):((bif decide (c ≥ 0) then ((nX N h i).bind fun y=>some (y.ag,y.gc.phase,y.gc.pos,y.gc.round,y.gc.ia)) else (some (h.ag,h.gc.phase,h.gc.pos,h.gc.round,h.gc.ia)):Option ((List cd)×Int×Int×Int×(List Int))).bind fun j=>f (ir.mk j.1 (jr.mk j.2.1 j.2.2.1 j.2.2.2.1 j.2.2.2.2)))=f (mH h c i):=by
  unfold mH
  rw [Ea hN h1 h2 hw]
  cases decide (c ≥ 0) <;> rfl
theorem Hq {N:Nat} (hN:im≤N) {p:hZ} (hp:lr p) (me now:Int) {c:iL} (hc:(c.kind==1)=false):rD N p me now c=some (fin c p (mC p me now c)):=by
  have h4:=hp.b4
  unfold rD mC
  simp only [l6,zg hN h4 hp.w,Option.bind_some]
  cases q1:iG c.b 0 1
  · simp only [Bool.not_false,cond_true,lj (show ((2:Int) != 0)=true from rfl) hc]
  cases q2:jv p.heap.ag now me c.a 0 != 0
  case true=>simp only [Bool.not_true,cond_false,cond_true,lj q2 hc]
  have q2':=kr q2
  obtain ⟨ar,g0,g9,gk,_⟩:=lZ q2'
  have l2:=wO (ar.ok _ (ar.at g0 g9).2) (by simpa using gk)
  simp only [Bool.not_true,cond_false,q2',beq_self_eq_true,cond_true]
  generalize iE p.heap.ag now me c.a=i at *
  have hs:∀ x,jo iD (p.heap.ag.set i.toNat (linked (nth p.heap.ag i) c.b x))<im:=fun x=>xu ar (by rw [wH];have:=oB ar g0 g9;omega)
  have hx:∀ x,wA (p.heap.ag.set i.toNat (linked (nth p.heap.ag i) c.b x)):=fun x=>kN hp.w (show mR (nth p.heap.ag i) from hp.w _ (ar.at g0 g9).2)
  cases hk:c.kind==2
  · simp only [cond_false,Option.bind_some,Sum.elim_inl,(ar.at g0 g9).1,xk l2 q1,Bool.false_and,tX]
    exact xn (h:=ir.mk (p.heap.ag.set i.toNat (linked (nth p.heap.ag i) c.b (-1))) p.heap.gc) hN (hs (-1)) hp.b5 (hx (-1)) (-1) (-1) fun y=>some (lN p y,iJ.mk 0 0)
  · cases q3:jv p.heap.ag now me c.c 0 != 0
    · have q3':=kr q3
      simp only [cond_true,cond_false,Option.bind_some,Sum.elim_inl,(ar.at g0 g9).1,xk l2 q1,Bool.and_false,q3',beq_self_eq_true,tX]
      generalize iE p.heap.ag now me c.c=x
      exact xn (h:=ir.mk (p.heap.ag.set i.toNat (linked (nth p.heap.ag i) c.b x)) p.heap.gc) hN (hs x) hp.b5 (hx x) x x fun y=>some (lN p y,iJ.mk 0 0)
    · simp only [cond_true,cond_false,Option.bind_some,Sum.elim_inr,Bool.and_true,lj q3 hc]
def HA (p:hZ) (i x:Int):hZ:=lN p (mH (ir.mk (p.heap.ag.set i.toNat (boxed (nth p.heap.ag i) x)) p.heap.gc) x i)
def mw (p:hZ) (me now:Int) (c:iL):Int×Int×hZ :=
  bif jv p.heap.ag now me c.a 0 != 0 then (jv p.heap.ag now me c.a 0,0,p) else
  bif iE p.heap.ag now me c.a==0 then (5,0,p) else
  bif (c.kind==4)&&(jv p.heap.ag now me c.b 1 != 0) then (jv p.heap.ag now me c.b 1,0,p) else
  (0,0,HA p (iE p.heap.ag now me c.a) (bif c.kind==4 then iE p.heap.ag now me c.b else -1))
theorem Hu {N:Nat} (hN:im≤N) {p:hZ} (hp:lr p) (me now th:Int) (c:iL):nJ N (iK.mk p me now th) c=some ((mw p me now c).1,iK.mk (mw p me now c).2.2 me now th):=by
  have h4:=hp.b4
  unfold nJ mw
  simp only [vC hN,h4,Option.bind_some,uN,uI,u7]
  cases q2:jv p.heap.ag now me c.a 0 != 0
  case true=>rfl
  have q2':=kr q2
  obtain ⟨ar,g0,g9,gk,_⟩:=lZ q2'
  simp only [Bool.not_true,cond_false,q2',beq_self_eq_true,cond_true]
  generalize iE p.heap.ag now me c.a=i at *
  cases hi:i==0
  case true=>rfl
  have hs:∀ x,jo iD (p.heap.ag.set i.toNat (boxed (nth p.heap.ag i) x))<im:=fun x=>xu ar (by have:iD (nth p.heap.ag i)≤12:=oB ar g0 g9;show iD (nth p.heap.ag i)≤_;omega)
  cases hk:c.kind==4
  · simp only [cond_false,Option.bind_some,Sum.elim_inl,(ar.at g0 g9).1,Bool.false_and]
    rfl
  · cases q3:jv p.heap.ag now me c.b 1 != 0
    · have q3':=kr q3
      simp only [cond_true,cond_false,Option.bind_some,Sum.elim_inl,(ar.at g0 g9).1,Bool.and_false,q3',beq_self_eq_true]
      generalize iE p.heap.ag now me c.b=x
      exact CZ (h:=ir.mk (p.heap.ag.set i.toNat (boxed (nth p.heap.ag i) x)) p.heap.gc) hN (hs x) hp.b5 x i fun y=>some ((0:Int),iK.mk (lN p y) me now th)
    · rfl
theorem HC {N:Nat} (hN:im≤N) {p:hZ} (hp:lr p) (me now:Int) {c:iL} (hc:(c.kind==1)=false):rv N p me now c=some (fin c p (mw p me now c)):=by
  have h4:=hp.b4
  unfold rv mw
  simp only [zg hN h4 hp.w,yt hN h4 hp.w _ _ _ (show (0:Int)<1 by decide),Option.bind_some]
  cases q2:jv p.heap.ag now me c.a 0 != 0
  case true=>simp only [cond_true,lj q2 hc]
  have q2':=kr q2
  obtain ⟨ar,g0,g9,gk,_⟩:=lZ q2'
  simp only [Bool.not_true,cond_false,q2',beq_self_eq_true,cond_true]
  generalize iE p.heap.ag now me c.a=i at *
  cases hi:i==0
  case true=>simp only [cond_true,lj (show ((5:Int) != 0)=true from rfl) hc]
  have hs:∀ x,jo iD (p.heap.ag.set i.toNat (boxed (nth p.heap.ag i) x))<im:=fun x=>xu ar (by have:iD (nth p.heap.ag i)≤12:=oB ar g0 g9;show iD (nth p.heap.ag i)≤_;omega)
  have hx:∀ x,wA (p.heap.ag.set i.toNat (boxed (nth p.heap.ag i) x)):=fun x=>kN hp.w (show mR (nth p.heap.ag i) from hp.w _ (ar.at g0 g9).2)
  cases hk:c.kind==4
  · simp only [cond_false,Option.bind_some,Sum.elim_inl,(ar.at g0 g9).1,Bool.false_and,tX]
    exact xn (h:=ir.mk (p.heap.ag.set i.toNat (boxed (nth p.heap.ag i) (-1))) p.heap.gc) hN (hs (-1)) hp.b5 (hx (-1)) (-1) i fun y=>some (lN p y,iJ.mk 0 0)
  · cases q3:jv p.heap.ag now me c.b 1 != 0
    · have q3':=kr q3
      simp only [cond_true,cond_false,Option.bind_some,Sum.elim_inl,(ar.at g0 g9).1,Bool.and_false,q3',beq_self_eq_true,tX]
      generalize iE p.heap.ag now me c.b=x
      exact xn (h:=ir.mk (p.heap.ag.set i.toNat (boxed (nth p.heap.ag i) x)) p.heap.gc) hN (hs x) hp.b5 (hx x) x i fun y=>some (lN p y,iJ.mk 0 0)
    · simp only [cond_true,cond_false,Option.bind_some,Sum.elim_inr,Bool.and_true,lj q3 hc]
def GH (p:hZ) (i b x:Int):hZ:=rX p (p.heap.ag.set i.toNat (written (nth p.heap.ag i) b x))
def jz (p:hZ) (me now:Int) (c:iL):Int×Int×hZ :=
  bif jv p.heap.ag now me c.a 2 != 0 then (jv p.heap.ag now me c.a 2,0,p) else
  bif !iG c.b 0 (((nth p.heap.ag (iE p.heap.ag now me c.a)).data.length:Int) - 1) then (2,0,p) else
  bif c.kind==7 then (0,nth (nth p.heap.ag (iE p.heap.ag now me c.a)).data c.b,p) else
  bif !iG c.c 0 999 then (2,0,p) else (0,0,GH p (iE p.heap.ag now me c.a) c.b c.c)
theorem AP {α:Type} {l:List α} (h:l.length<im):IntKind.i64.wrap ((l.length:Int) - 1)=(l.length:Int) - 1:=by
  have:l.length<16777216:=h
  exact i9 (by omega) (by omega)
theorem A2 {o:cd} (h:iD o≤12):o.data.length<im:=by
  have hB:(16777216:Nat)=im:=rfl
  unfold iD at h
  omega
theorem Ef {N:Nat} (hN:im≤N) {p:hZ} (hp:lr p) (me now th:Int) (c:iL):mE N (iK.mk p me now th) c=some ((jz p me now c).1,(jz p me now c).2.1,iK.mk (jz p me now c).2.2 me now th):=by
  have h4:=hp.b4
  unfold mE jz
  simp only [vC hN,h4,mI,Option.bind_some,uN,uI,u7]
  cases q2:jv p.heap.ag now me c.a 2 != 0
  case true=>rfl
  have q2':=kr q2
  obtain ⟨ar,g0,g9,gk,_⟩:=lZ q2'
  simp only [Bool.not_true,cond_false,q2',beq_self_eq_true,cond_true]
  generalize iE p.heap.ag now me c.a=i at *
  have ho:=oB ar g0 g9
  simp only [(ar.at g0 g9).1,Option.bind_some,AP (A2 ho)]
  cases q3:iG c.b 0 (((nth p.heap.ag i).data.length:Int) - 1)
  · rfl
  have hd:idx (nth p.heap.ag i).data c.b=some (nth (nth p.heap.ag i).data c.b):=by
    rw [jE] at q3
    exact jy q3.1 (by omega)
  simp only [Bool.not_true,cond_false,hd,Option.bind_some]
  cases c.kind==7
  · cases iG c.c 0 999 <;> rfl
  · rfl
theorem Eo {N:Nat} (hN:im≤N) {p:hZ} (hp:lr p) (me now:Int) {c:iL} (hc:(c.kind==1)=false) (hk:(c.kind==6)=!(c.kind==7)):oo N p me now c=some (fin c p (jz p me now c)):=by
  have h4:=hp.b4
  unfold oo jz
  simp only [yt hN h4 hp.w _ _ _ (show (0:Int)<2 by decide),l6,Option.bind_some]
  cases q2:jv p.heap.ag now me c.a 2 != 0
  case true=>simp only [cond_true,lj q2 hc]
  have q2':=kr q2
  obtain ⟨ar,g0,g9,gk,_⟩:=lZ q2'
  simp only [Bool.not_true,cond_false,q2',beq_self_eq_true,cond_true]
  generalize iE p.heap.ag now me c.a=i at *
  have ho:=oB ar g0 g9
  simp only [(ar.at g0 g9).1,Option.bind_some,AP (A2 ho)]
  cases q3:iG c.b 0 (((nth p.heap.ag i).data.length:Int) - 1)
  · simp only [Bool.not_false,cond_true,Option.bind_some,lj (show ((2:Int) != 0)=true from rfl) hc]
  have hd:idx (nth p.heap.ag i).data c.b=some (nth (nth p.heap.ag i).data c.b):=by
    rw [jE] at q3
    exact jy q3.1 (by omega)
  rw [hk]
  simp only [Bool.not_true,cond_false,hd,Option.bind_some]
  cases c.kind==7
  · cases iG c.c 0 999
    · simp only [Bool.not_false,cond_true,cond_false,Option.bind_some,lj (show ((2:Int) != 0)=true from rfl) hc]
    · rfl
  · rfl
def nf (p:hZ) (f:Int) (a:iC):Bool:=(jU p.tree f a).2&&(kH p.gE (iC.mk 0 a.ig 0)).2
def wE (p:hZ) (f:Int) (a:iC):hZ:=hZ.mk p.label p.own (jU p.tree f a).1 p.heap p.ic p.next p.want (kH p.gE (iC.mk 0 a.ig 0)).1 p.ik p.lost
theorem D9 (p:hZ) (f:Int) (a:iC):(wE p f a).heap=p.heap:=rfl
theorem lr.b3 {p:hZ} (h:lr p):p.tree.length<im:=(kg (p:=p) (Nat.lt_of_le_of_lt h.sz (by decide))).2.2.1
theorem Gr {N:Nat} (hN:im≤N) {x:iK} (hB:x.part.tree.length<im) (f:Int) (a:iC):na N x f a=some (nf x.part f a,bif nf x.part f a then iK.mk (wE x.part f a) x.me x.now x.iY else x):=by
  unfold na nf
  simp only [wD hN hB,FQ,Option.bind_some,kG]
  cases (jU x.part.tree f a).2 <;> cases (kH x.part.gE (iC.mk 0 a.ig 0)).2 <;> rfl
def kL (p:hZ) (me now:Int) (c:iL):Int×Int×hZ :=
  bif jv p.heap.ag now me c.a 0 != 0 then (jv p.heap.ag now me c.a 0,0,p) else
  bif (iE p.heap.ag now me c.a==0) || (!iG c.b 1 1000 || decide (IntKind.i64.wrap ((nth p.heap.ag (iE p.heap.ag now me c.a)).iP+c.b) > 1000000)) then (2,0,p) else
  bif !nf p (pV p (nth p.heap.ag (iE p.heap.ag now me c.a)).res) (iC.mk 0 (IntKind.i64.wrap ((nth p.heap.ag (iE p.heap.ag now me c.a)).bh * c.b)) 0) then (6,0,p) else
  (0,0,rX (wE p (pV p (nth p.heap.ag (iE p.heap.ag now me c.a)).res) (iC.mk 0 (IntKind.i64.wrap ((nth p.heap.ag (iE p.heap.ag now me c.a)).bh * c.b)) 0)) (p.heap.ag.set (iE p.heap.ag now me c.a).toNat (ET (nth p.heap.ag (iE p.heap.ag now me c.a)) (IntKind.i64.wrap ((nth p.heap.ag (iE p.heap.ag now me c.a)).iP+c.b)))))
theorem GJ {N:Nat} (hN:im≤N) {p:hZ} (hp:lr p) (me now th:Int) (c:iL):ng N (iK.mk p me now th) c=some ((kL p me now c).1,iK.mk (kL p me now c).2.2 me now th):=by
  have h4:=hp.b4
  have h3:=hp.b3
  unfold ng kL
  simp only [vC hN,h4,mI,Option.bind_some,uN,uI,u7]
  cases q2:jv p.heap.ag now me c.a 0 != 0
  case true=>rfl
  have q2':=kr q2
  obtain ⟨ar,g0,g9,gk,_⟩:=lZ q2'
  simp only [Bool.not_true,cond_false,q2',beq_self_eq_true,cond_true]
  generalize iE p.heap.ag now me c.a=i at *
  simp only [(ar.at g0 g9).1,Option.bind_some,kG,CO hN,Gr hN,h3]
  cases ((i==0) || (!iG c.b 1 1000 || decide (IntKind.i64.wrap ((nth p.heap.ag i).iP+c.b) > 1000000)))
  · cases nf p (pV p (nth p.heap.ag i).res) (iC.mk 0 (IntKind.i64.wrap ((nth p.heap.ag i).bh * c.b)) 0) <;> rfl
  · rfl
theorem Hl {N:Nat} (hN:im≤N) {p:hZ} (hp:lr p) (me now:Int) {c:iL} (hc:(c.kind==1)=false):qj N p me now c=some (fin c p (kL p me now c)):=by
  have h4:=hp.b4
  have h3:=hp.b3
  unfold qj kL
  simp only [zg hN h4 hp.w,l6,Option.bind_some]
  cases q2:jv p.heap.ag now me c.a 0 != 0
  case true=>simp only [cond_true,lj q2 hc]
  have q2':=kr q2
  obtain ⟨ar,g0,g9,gk,_⟩:=lZ q2'
  simp only [Bool.not_true,cond_false,q2',beq_self_eq_true,cond_true]
  generalize iE p.heap.ag now me c.a=i at *
  simp only [(ar.at g0 g9).1,Option.bind_some,kG,CS hN,uV hN h3,uK]
  cases ((i==0) || (!iG c.b 1 1000 || decide (IntKind.i64.wrap ((nth p.heap.ag i).iP+c.b) > 1000000)))
  · unfold nf
    cases (jU p.tree (pV p (nth p.heap.ag i).res) (iC.mk 0 (IntKind.i64.wrap ((nth p.heap.ag i).bh * c.b)) 0)).2 <;> cases (kH p.gE (iC.mk 0 (IntKind.i64.wrap ((nth p.heap.ag i).bh * c.b)) 0)).2 <;> simp only [Bool.not_true,Bool.not_false,Bool.and_self,Bool.and_false,Bool.false_and,Bool.or_self,Bool.or_true,Bool.true_or,Bool.false_or,Bool.or_false,Bool.true_and,Bool.and_true,cond_true,cond_false,lj (show ((6:Int) != 0)=true from rfl) hc,tX]
    rfl
  · simp only [cond_true,lj (show ((2:Int) != 0)=true from rfl) hc]
def mF (p:hZ) (c:iL):Int×Int×hZ :=
  bif c.kind==9 then
    bif !iG c.a 0 4 || !jl (iC.mk c.b c.c c.d) then (2,0,p) else
    bif !(lv p.tree c.a (iC.mk c.b c.c c.d)).2.2 then (6,0,p) else (0,(lv p.tree c.a (iC.mk c.b c.c c.d)).2.1,vO p (lv p.tree c.a (iC.mk c.b c.c c.d)).1)
  else bif c.kind==10 then
    bif !iG c.a 0 4 || (!iG c.b 0 4 || (!iG c.c 0 2 || !vF c.d)) then (2,0,p) else
    bif !(mN p.tree c.a c.b (rn c.c c.d)).2 then (6,0,p) else (0,0,vO p (mN p.tree c.a c.b (rn c.c c.d)).1)
  else bif !(mP p.tree c.a).2 then (2,0,p) else (0,0,vO p (mP p.tree c.a).1)
theorem El {N:Nat} (hN:im≤N) {p:hZ} (hp:lr p) (me now th:Int) (c:iL):mo N (iK.mk p me now th) c=some ((mF p c).1,(mF p c).2.1,iK.mk (mF p c).2.2 me now th):=by
  have h3:=hp.b3
  unfold mo mF
  simp only [tO,qM,mI,yP,FE,Cd hN h3,DJ hN h3,Dz hN h3,Option.bind_some,kG]
  cases c.kind==9
  · cases c.kind==10
    · cases (mP p.tree c.a).2 <;> rfl
    · cases (!iG c.a 0 4 || (!iG c.b 0 4 || (!iG c.c 0 2 || !vF c.d)))
      · cases (mN p.tree c.a c.b (rn c.c c.d)).2 <;> rfl
      · rfl
  · cases (!iG c.a 0 4 || !jl (iC.mk c.b c.c c.d))
    · cases (lv p.tree c.a (iC.mk c.b c.c c.d)).2.2 <;> rfl
    · rfl
theorem It {N:Nat} (hN:im≤N) {p:hZ} (hp:lr p) {c:iL} (hc:(c.kind==1)=false):sG N p c=some (fin c p (mF p c)):=by
  have h3:=hp.b3
  have n2:=fun q=>lj (p:=p) (q:=q) (v:=0) (show ((2:Int) != 0)=true from rfl) hc
  have n6:=fun q=>lj (p:=p) (q:=q) (v:=0) (show ((6:Int) != 0)=true from rfl) hc
  unfold sG mF
  simp only [uy,qZ,l6,IT,FU,xG hN h3,D3 hN h3,yu hN h3,Option.bind_some,kG]
  cases c.kind==9
  · cases c.kind==10
    · cases (mP p.tree c.a).2
      · simp only [Bool.not_false,cond_true,cond_false,n2]
      · rfl
    · cases (!iG c.a 0 4 || (!iG c.b 0 4 || (!iG c.c 0 2 || !vF c.d)))
      · cases (mN p.tree c.a c.b (rn c.c c.d)).2
        · simp only [Bool.not_false,cond_true,cond_false,n6]
        · rfl
      · simp only [cond_true,cond_false,n2]
  · cases (!iG c.a 0 4 || !jl (iC.mk c.b c.c c.d))
    · cases (lv p.tree c.a (iC.mk c.b c.c c.d)).2.2
      · simp only [Bool.not_false,cond_true,cond_false,n6]
      · rfl
    · simp only [cond_true,n2]
def tc (p:hZ) (th a:Int):Int×Int×hZ :=
  bif a==0 then (0,(nth p.heap.ag th).iO,p) else bif a==1 then (0,(nth p.heap.ag th).iN,p) else
  bif (a==2) || ((a==3) || (a==4)) then (0,vy (yE p th) (IntKind.i64.wrap (a - 2)),p) else (2,0,p)
theorem yL (a b c:Bool):(bif a then some a else bif b then some b else some c)=some (a || (b || c)):=by cases a <;> cases b <;> rfl
theorem Ij (a b:Bool):(bif a then some a else some b)=some (a || b):=by cases a <;> rfl
theorem HE {N:Nat} (hN:im≤N) {p:hZ} (hp:lr p) (me now:Int) {th:Int} (h0:0≤th) (h9:th≤9) (a:Int):nD N (iK.mk p me now th) a=some ((tc p th a).1,(tc p th a).2.1,iK.mk (tc p th a).2.2 me now th):=by
  unfold nD tc
  simp only [(hp.ar.at h0 h9).1,He hN hp.ok h0 h9,Eh,Option.bind_some,yL]
  cases a==0
  · cases a==1
    · cases (a==2) || ((a==3) || (a==4)) <;> rfl
    · rfl
  · rfl
theorem HN {N:Nat} (hN:im≤N) {p:hZ} (hp:lr p) {th:Int} (h0:0≤th) (h9:th≤9) {c:iL} (hc:(c.kind==1)=false):rL N p th c=some (fin c p (tc p th c.a)):=by
  unfold rL tc
  obtain ⟨r0,r4⟩:=zM p (nth p.heap.ag th).res
  simp only [(hp.ar.at h0 h9).1,CS hN,Ds hp.ok r0 r4,Ee,Option.bind_some,yL,HJ]
  cases c.a==0
  · cases c.a==1
    · cases (c.a==2) || ((c.a==3) || (c.a==4))
      · simp only [cond_false,lj (show ((2:Int) != 0)=true from rfl) hc]
      · rfl
    · rfl
  · rfl
theorem A7 {l:List cd} {o:cd}:∀ (m:List cd) (k:Nat),rV l o k m=(l, -1)∨∃ (j:Nat) (g:Int),j<k+m.length∧rV l o k m=(l.set j (kt o g),(j:Int))∧kh (l.set j (kt o g))=true
  | [],k=>.inl rfl
  | x::m,k=>by
    unfold rV
    split
    · rcases A7 (l:=l) (o:=o) m (k+1) with h | ⟨j,g,h1,h2,h3⟩
      · exact .inl h
      · exact .inr ⟨j,g,by simp only [List.length_cons];omega,h2,h3⟩
    · unfold putAt
      split
      · rename_i q
        simp only [Bool.and_eq_true] at q
        exact .inr ⟨k,_,by simp,rfl,q.1⟩
      · exact .inl rfl
theorem vv {l:List cd} {o:cd} (h:decide ((kq l o).2<0)=false):∃ (j:Nat) (g:Int),kq l o=(l.set j (kt o g),(j:Int))∧Ar (l.set j (kt o g))∧j<10:=by
  unfold kq at *
  cases ha:kh l
  · rw [ha] at h;simp at h
  · rw [ha] at h
    simp only [if_true] at *
    have hl:=(kz.1 ha).len
    rcases A7 (l:=l) (o:=o) (l.drop 1) 1 with e | ⟨j,g,h1,h2,h3⟩
    · rw [e] at h;simp at h
    · exact ⟨j,g,h2,kz.1 h3,by simp only [List.length_drop] at h1;omega⟩
def newObj (now box:Int) (c:iL):cd:=cd.mk 0 c.a box c.e (IntKind.i64.wrap (now+c.d)) c.c 0 0 0 false [-1, -1] (bif c.a==2 then List.replicate c.c.toNat 0 else []) []
def qV (now:Int) (c:iL):Bool:=!iG c.a 1 4 || (!iG c.c 0 8 || (!iG c.d 1 1000 || (decide (IntKind.i64.wrap (now+c.d) > 1000000) || !iG c.e 0 4)))
def cost (c:iL):iC:=iC.mk c.c (IntKind.i64.wrap (c.c * c.d)) 0
def lW (p:hZ) (me now:Int) (c:iL):Int×Int×hZ :=
  bif qV now c then (2,0,p) else
  bif jv p.heap.ag now me c.b 1 != 0 then (jv p.heap.ag now me c.b 1,0,p) else
  bif !nf p c.e (cost c) then (6,0,p) else
  bif decide ((kq p.heap.ag (newObj now (iE p.heap.ag now me c.b) c)).2<0) then (7,0,wE p c.e (cost c)) else
  (0,tz me (kq p.heap.ag (newObj now (iE p.heap.ag now me c.b) c)).2 (nth (kq p.heap.ag (newObj now (iE p.heap.ag now me c.b) c)).1 (kq p.heap.ag (newObj now (iE p.heap.ag now me c.b) c)).2).gen,
    lN (wE p c.e (cost c)) (nT (ir.mk (kq p.heap.ag (newObj now (iE p.heap.ag now me c.b) c)).1 p.heap.gc) (kq p.heap.ag (newObj now (iE p.heap.ag now me c.b) c)).2))
theorem vn {now:Int} {c:iL} (h:qV now c=false):0≤c.c∧c.c≤8:=by
  unfold qV at h
  simp only [Bool.or_eq_false_iff,Bool.not_eq_false'] at h
  exact jE.1 h.2.1
theorem wQ {now box:Int} {c:iL} (h:0≤c.c∧c.c≤8):iD (newObj now box c)≤100:=by
  unfold iD newObj
  cases c.a==2
  · simp
  · simp only [cond_true,List.length_replicate,List.length_cons,List.length_nil]
    omega
theorem xX (now box:Int) (c:iL):mR (newObj now box c):=by show (-9223372036854775808:Int)≤0;decide
theorem Hr {c:Int} (h:0≤c∧c≤8):mk Int c=some (List.replicate c.toNat 0):=by
  have hB:(16777216:Nat)=im:=rfl
  unfold mk
  rw [if_pos ⟨h.1,by omega⟩]
  rfl
theorem Gn (a b c d e:Bool):(bif a then some true else bif b then some true else bif c then some true else bif d then some true else some e)=some (a || (b || (c || (d || e)))):=by cases a <;> cases b <;> cases c <;> cases d <;> rfl
theorem HD {N:Nat} (hN:im+1≤N) {p:hZ} (hp:lr p) (me now th:Int) (c:iL):nH N (iK.mk p me now th) c=some ((lW p me now c).1,(lW p me now c).2.1,iK.mk (lW p me now c).2.2 me now th):=by
  have hN':im≤N:=Nat.le_of_succ_le hN
  have h4:=hp.b4
  have h3:=hp.b3
  have h5:=hp.b5
  unfold nH lW
  simp only [vC hN',h4,mI,tO,Option.bind_some,uN,uI,u7,Gn]
  rw [show (!iG c.a 1 4 || (!iG c.c 0 8 || (!iG c.d 1 1000 || (decide (IntKind.i64.wrap (now+c.d) > 1000000) || !iG c.e 0 4))))=qV now c from rfl]
  cases q1:qV now c
  case true=>rfl
  have hc:=vn q1
  cases q2:jv p.heap.ag now me c.b 1 != 0
  case true=>rfl
  have q2':=kr q2
  simp only [cond_false,cond_true,q2',beq_self_eq_true]
  generalize iE p.heap.ag now me c.b=box
  rw [show iC.mk c.c (IntKind.i64.wrap (c.c * c.d)) 0=cost c from rfl]
  simp only [Gr hN' (x:=iK.mk p me now th) h3,Option.bind_some]
  cases q3:nf p c.e (cost c)
  · rfl
  simp only [Bool.not_true,cond_false,cond_true,Hr hc,Option.bind_some,D9]
  rw [show (bif c.a==2 then some (List.replicate c.c.toNat 0) else some ([]:List Int))=some (bif c.a==2 then List.replicate c.c.toNat 0 else []) from oL _ _ _]
  simp only [Option.bind_some]
  rw [show cd.mk 0 c.a box c.e (IntKind.i64.wrap (now+c.d)) c.c 0 0 0 false [-1, -1] (bif c.a==2 then List.replicate c.c.toNat 0 else []) []=newObj now box c from rfl]
  have ho:=wQ (now:=now) (box:=box) hc
  rw [DR hN h4 (o:=newObj now box c) (by omega)]
  simp only [Option.bind_some]
  cases q4:decide ((kq p.heap.ag (newObj now box c)).2<0)
  case true=>rfl
  obtain ⟨j,g,e,ar,hj⟩:=vv q4
  have h1:=ar.sz
  have hB:(16777216:Nat)=im:=rfl
  rw [e]
  simp only [cond_false,(ar.at (i:=(j:Int)) (by omega) (by omega)).1,Option.bind_some,yq]
  rw [FJ hN' (h:=ir.mk (p.heap.ag.set j (kt (newObj now box c) g)) p.heap.gc) (by show jo iD (p.heap.ag.set j (kt (newObj now box c) g))<im;omega) (by show p.heap.gc.ia.length<im;omega)]
  rfl
theorem BG (l:List cd) (now me h k:Int):(jv l now me h k==6)=false∧(jv l now me h k==7)=false:=by
  unfold jv
  cases mT h
  · exact ⟨rfl,rfl⟩
  cases mG h != me
  case true=>exact ⟨rfl,rfl⟩
  cases decide (iE l now me h<0)
  case true=>exact ⟨rfl,rfl⟩
  cases (k != 0)&&((nth l (iE l now me h)).kind != k) <;> exact ⟨rfl,rfl⟩
theorem BH {c:iL} {p q:hZ} {k v:Int} (h:(k != 0)=true) (h6:(k==6)=false) (h7:(k==7)=false):fin c p (k,v,q)=(p,iJ.mk k 0):=by
  unfold fin
  have:(k==0)=false:=by simpa [bne] using h
  rw [this]
  simp only [cond_false,h6,h7,Bool.or_self,Bool.and_false]
theorem zJ {c:iL} {p q:hZ} {k v:Int} (h:(k != 0)=true) (h6:((k==6) || (k==7))=true) (hc:(c.kind==1)=true):fin c p (k,v,q)=(C3 p,iJ.mk k 0):=by
  unfold fin
  have:(k==0)=false:=by simpa [bne] using h
  rw [this]
  simp only [cond_false,h6,hc,Bool.and_self,cond_true]
theorem Ib {N:Nat} (hN:im≤N) {p:hZ} (hp:lr p) (me now:Int) {c:iL} (hc1:(c.kind==1)=true):rM N p me now c=some (fin c p (lW p me now c)):=by
  have h4:=hp.b4
  have h3:=hp.b3
  have h5:=hp.b5
  unfold rM lW
  simp only [yt hN h4 hp.w _ _ _ (show (0:Int)<1 by decide),l6,uy,Option.bind_some,Gn]
  rw [show (!iG c.a 1 4 || (!iG c.c 0 8 || (!iG c.d 1 1000 || (decide (IntKind.i64.wrap (now+c.d) > 1000000) || !iG c.e 0 4))))=qV now c from rfl]
  cases q1:qV now c
  case true=>simp only [cond_true,BH (show ((2:Int) != 0)=true from rfl) rfl rfl]
  have hc:=vn q1
  cases q2:jv p.heap.ag now me c.b 1 != 0
  case true=>simp only [cond_true,cond_false,BH q2 (BG _ _ _ _ _).1 (BG _ _ _ _ _).2]
  have q2':=kr q2
  simp only [cond_false,cond_true,q2',beq_self_eq_true]
  generalize iE p.heap.ag now me c.b=box
  rw [show iC.mk c.c (IntKind.i64.wrap (c.c * c.d)) 0=cost c from rfl]
  simp only [uV hN h3,uK,Option.bind_some,kG]
  rw [show (!(jU p.tree c.e (cost c)).2 || !(kH p.gE (iC.mk 0 (IntKind.i64.wrap (c.c * c.d)) 0)).2)=!nf p c.e (cost c) by unfold nf;rw [Bool.not_and];rfl]
  cases q3:nf p c.e (cost c)
  · simp only [Bool.not_false,cond_true,zJ (show ((6:Int) != 0)=true from rfl) rfl hc1]
    rfl
  simp only [Bool.not_true,cond_false,cond_true,Hr hc,Option.bind_some]
  rw [show (bif c.a==2 then some (List.replicate c.c.toNat 0) else some ([]:List Int))=some (bif c.a==2 then List.replicate c.c.toNat 0 else []) from oL _ _ _]
  simp only [Option.bind_some]
  rw [show cd.mk 0 c.a box c.e (IntKind.i64.wrap (now+c.d)) c.c 0 0 0 false [-1, -1] (bif c.a==2 then List.replicate c.c.toNat 0 else []) []=newObj now box c from rfl]
  have ho:=wQ (now:=now) (box:=box) hc
  rw [wc hN h4 hp.w (o:=newObj now box c) (by omega) (xX _ _ _)]
  simp only [Option.bind_some]
  cases q4:decide ((kq p.heap.ag (newObj now box c)).2<0)
  case true =>
    simp only [cond_true,zJ (show ((7:Int) != 0)=true from rfl) rfl hc1]
    rfl
  obtain ⟨j,g,e,ar,hj⟩:=vv q4
  have h1:=ar.sz
  have hB:(16777216:Nat)=im:=rfl
  have hw':wA (p.heap.ag.set j (kt (newObj now box c) g)):=kN hp.w (vZ (xX _ _ _))
  rw [e]
  simp only [cond_false,(ar.at (i:=(j:Int)) (by omega) (by omega)).1,Option.bind_some,ud]
  rw [BJ hN (h:=ir.mk (p.heap.ag.set j (kt (newObj now box c) g)) p.heap.gc) (by show jo iD (p.heap.ag.set j (kt (newObj now box c) g))<im;omega) (by show p.heap.gc.ia.length<im;omega) hw']
  rfl
def v7 (l:List cd) (k w b:Int):List cd:=bif decide (k ≥ 0)&&((nth l k).wait==w) then (l.set k.toNat (waiting (nth l k) 0)).set k.toNat (x8 (nth (l.set k.toNat (waiting (nth l k) 0)) k) b) else l
theorem zO {l:List cd} {k w b:Int} (h:0≤k→k<(l.length:Int)) {β:Type} (f:List cd→Option β) :
    ((bif decide (k ≥ 0) then ((idx l k).bind fun y=>some (y.wait==w)) else (some false):Option Bool).bind fun j=>(bif j then ((idx l k).bind fun y=>(some (l.set (k:Int).toNat (waiting y 0))).bind fun z=>(idx z k).bind fun x=>(some (z.set (k:Int).toNat (x8 x b))).bind fun v=>some v) else (some l):Option (List cd)).bind f)=f (v7 l k w b):=by
  unfold v7
  cases hk:decide (k ≥ 0)
  · rfl
  have k0:0≤k:=by simpa using hk
  have e:=jy k0 (h k0)
  have e2:∀ z,idx (l.set k.toNat z) k=some (nth (l.set k.toNat z) k):=fun z=>jy k0 (by simp only [List.length_set];exact h k0)
  simp only [cond_true,e,e2,Option.bind_some,Bool.true_and]
  cases (nth l k).wait==w <;> rfl
def asked (l:List cd) (g me th:Int) (c:iL):List cd:=l.set g.toNat (pd (nth l g) ((nth l g).queue++[iU.mk (tz me th (nth l th).gen) c.b]))
def served (l:List cd) (g:Int):List cd:=l.set g.toNat (pd (nth l g) ((nth l g).queue.drop 1))
def lA (p:hZ) (me now th:Int) (c:iL):Int×Int×hZ :=
  bif jv p.heap.ag now me c.a 3 != 0 then (jv p.heap.ag now me c.a 3,0,p) else
  bif !iG c.b 0 999 then (2,0,p) else
  bif c.kind==12 then
    bif decide (((nth p.heap.ag (iE p.heap.ag now me c.a)).queue.length:Int) ≥ 2) then (8,0,p) else
    (0,0,rX p ((asked p.heap.ag (iE p.heap.ag now me c.a) me th c).set th.toNat (waiting (nth (asked p.heap.ag (iE p.heap.ag now me c.a) me th c) th) (IntKind.i64.wrap (c.a+1)))))
  else
    bif ((nth p.heap.ag (iE p.heap.ag now me c.a)).queue.length:Int)==0 then (8,0,p) else
    (0,(nth (nth p.heap.ag (iE p.heap.ag now me c.a)).queue 0).n,rX p (v7 (served p.heap.ag (iE p.heap.ag now me c.a)) (iE (served p.heap.ag (iE p.heap.ag now me c.a)) now me (nth (nth p.heap.ag (iE p.heap.ag now me c.a)).queue 0).src) (IntKind.i64.wrap (c.a+1)) c.b))
theorem A4 {α:Type} {l:List α} {k:Nat} (h:k≤l.length):sub l (k:Int) (l.length:Int)=some (l.drop k):=by
  unfold sub
  rw [if_pos ⟨by omega,by omega,by omega⟩]
  simp only [Int.toNat_natCast]
  rw [List.take_of_length_le (by simp)]
theorem wJ {o:cd} (h:iD o≤12):o.queue.length≤12:=by unfold iD at h;omega
theorem zP {o:cd} {q:List iU} (h:iD o≤12) (hq:q.length≤20):iD (pd o q)≤100000:=by
  unfold iD at h
  unfold iD pd
  simp only
  omega
theorem vH {l:List cd} {now me h:Int} (hl:l.length=10) (h0:0≤iE l now me h):iE l now me h<(l.length:Int):=by
  obtain ⟨_,_,h9,_⟩:=xp (l:=l) (now:=now) (me:=me) (h:=h) (decide_eq_false (by omega))
  omega
theorem H5 {N:Nat} (hN:im≤N) {p:hZ} (hp:lr p) (me now:Int) {th:Int} (t0:0≤th) (t9:th≤9) {c:iL} (hk:(c.kind==13)=!(c.kind==12)):nK N (iK.mk p me now th) c=some ((lA p me now th c).1,(lA p me now th c).2.1,iK.mk (lA p me now th c).2.2 me now th):=by
  have h4:=hp.b4
  unfold nK lA
  simp only [vC hN,h4,mI,Option.bind_some,uN,uI,u7]
  cases q2:jv p.heap.ag now me c.a 3 != 0
  case true=>rfl
  have q2':=kr q2
  obtain ⟨ar,g0,g9,gk,_⟩:=lZ q2'
  simp only [Bool.not_true,cond_false,q2',beq_self_eq_true,cond_true]
  generalize iE p.heap.ag now me c.a=i at *
  have ho:=oB ar g0 g9
  have hq:=wJ ho
  have hl:=ar.len
  have hB:(16777216:Nat)=im:=rfl
  simp only [(ar.at g0 g9).1,(ar.at t0 t9).1,Option.bind_some]
  cases q3:iG c.b 0 999
  · rfl
  rw [hk]
  cases q4:c.kind==12
  · simp only [Bool.not_true,Bool.not_false,cond_false,cond_true,Option.bind_some]
    cases q5:((nth p.heap.ag i).queue.length:Int)==0
    case true=>rfl
    have l1:1≤(nth p.heap.ag i).queue.length:=by rw [beq_eq_false_iff_ne] at q5;omega
    have hsub:sub (nth p.heap.ag i).queue 1 ((nth p.heap.ag i).queue.length:Int)=some ((nth p.heap.ag i).queue.drop 1):=A4 l1
    have happ:app ([]:List iU) ((nth p.heap.ag i).queue.drop 1)=some ((nth p.heap.ag i).queue.drop 1):=jQ (by simp only [List.length_drop];omega)
    have hi0:idx (nth p.heap.ag i).queue 0=some (nth (nth p.heap.ag i).queue 0):=jy (i:=0) (by decide) (by omega)
    simp only [cond_false,hsub,happ,hi0,Option.bind_some]
    have hs:jo iD (p.heap.ag.set i.toNat (pd (nth p.heap.ag i) ((nth p.heap.ag i).queue.drop 1)))<im:=xu ar (zP ho (by simp only [List.length_drop];omega))
    have e1:=wk hN hs now me (nth (nth p.heap.ag i).queue 0).src
    unfold pd at e1
    rw [e1,Option.bind_some]
    exact zO (l:=served p.heap.ag i) (vH (by unfold served;simp only [List.length_set];exact hl)) fun z=>some ((0:Int),(nth (nth p.heap.ag i).queue 0).n,iK.mk (rX p z) me now th)
  · simp only [Bool.not_true,Bool.not_false,cond_false,cond_true,Option.bind_some,kG,Bool.or_false]
    cases q5:decide (((nth p.heap.ag i).queue.length:Int) ≥ 2)
    case true=>rfl
    have happ:∀ m,app (nth p.heap.ag i).queue [m]=some ((nth p.heap.ag i).queue++[m]):=fun m=>kS hq (by omega)
    have e2:∀ z,idx (p.heap.ag.set i.toNat z) th=some (nth (p.heap.ag.set i.toNat z) th):=fun z=>jy t0 (by simp only [List.length_set];omega)
    simp only [cond_false,yq,happ,e2,Option.bind_some]
    rfl
theorem Hp {N:Nat} (hN:im≤N) {p:hZ} (hp:lr p) (me now:Int) {th:Int} (t0:0≤th) (t9:th≤9) {c:iL} (hc:(c.kind==1)=false):rh N p me now th c=some (fin c p (lA p me now th c)):=by
  have h4:=hp.b4
  unfold rh lA
  simp only [yt hN h4 hp.w _ _ _ (show (0:Int)<3 by decide),l6,Option.bind_some]
  cases q2:jv p.heap.ag now me c.a 3 != 0
  case true=>simp only [cond_true,lj q2 hc]
  have q2':=kr q2
  obtain ⟨ar,g0,g9,gk,_⟩:=lZ q2'
  simp only [Bool.not_true,cond_false,q2',beq_self_eq_true,cond_true]
  generalize iE p.heap.ag now me c.a=i at *
  have ho:=oB ar g0 g9
  have hq:=wJ ho
  have hl:=ar.len
  have hB:(16777216:Nat)=im:=rfl
  simp only [(ar.at g0 g9).1,(ar.at t0 t9).1,Option.bind_some]
  cases q3:iG c.b 0 999
  · simp only [Bool.not_false,cond_true,lj (show ((2:Int) != 0)=true from rfl) hc]
  cases q4:c.kind==12
  · simp only [Bool.not_true,Bool.not_false,cond_false,cond_true,Option.bind_some]
    cases q5:((nth p.heap.ag i).queue.length:Int)==0
    case true=>simp only [cond_true,lj (show ((8:Int) != 0)=true from rfl) hc]
    have l1:1≤(nth p.heap.ag i).queue.length:=by rw [beq_eq_false_iff_ne] at q5;omega
    have hsub:sub (nth p.heap.ag i).queue 1 ((nth p.heap.ag i).queue.length:Int)=some ((nth p.heap.ag i).queue.drop 1):=A4 l1
    have happ:app ([]:List iU) ((nth p.heap.ag i).queue.drop 1)=some ((nth p.heap.ag i).queue.drop 1):=jQ (by simp only [List.length_drop];omega)
    have hi0:idx (nth p.heap.ag i).queue 0=some (nth (nth p.heap.ag i).queue 0):=jy (i:=0) (by decide) (by omega)
    simp only [cond_false,hsub,happ,hi0,Option.bind_some,tX]
    have hs:jo iD (p.heap.ag.set i.toNat (pd (nth p.heap.ag i) ((nth p.heap.ag i).queue.drop 1)))<im:=xu ar (zP ho (by simp only [List.length_drop];omega))
    have hx:wA (p.heap.ag.set i.toNat (pd (nth p.heap.ag i) ((nth p.heap.ag i).queue.drop 1))):=kN hp.w (show mR (nth p.heap.ag i) from hp.w _ (ar.at g0 g9).2)
    have e1:=we hN hs hx now me (nth (nth p.heap.ag i).queue 0).src
    unfold pd at e1
    rw [e1,Option.bind_some]
    exact zO (l:=served p.heap.ag i) (vH (by unfold served;simp only [List.length_set];exact hl)) fun z=>some (rX p z,iJ.mk 0 (nth (nth p.heap.ag i).queue 0).n)
  · simp only [Bool.not_true,Bool.not_false,cond_false,cond_true,Option.bind_some,kG,Bool.or_false]
    cases q5:decide (((nth p.heap.ag i).queue.length:Int) ≥ 2)
    case true=>simp only [cond_true,lj (show ((8:Int) != 0)=true from rfl) hc]
    have happ:∀ m,app (nth p.heap.ag i).queue [m]=some ((nth p.heap.ag i).queue++[m]):=fun m=>kS hq (by omega)
    have hap0:app ([]:List iU) (nth p.heap.ag i).queue=some (nth p.heap.ag i).queue:=jQ (by omega)
    have e2:∀ z,idx (p.heap.ag.set i.toNat z) th=some (nth (p.heap.ag.set i.toNat z) th):=fun z=>jy t0 (by simp only [List.length_set];omega)
    simp only [cond_false,ud,hap0,happ,e2,Option.bind_some,tX]
    rfl
def uv (p:hZ) (c:iL):Int×Int×hZ:=bif !iG c.a 0 ((p.ic.length:Int) - 1) then (2,0,p) else (0,0,Bg p (p.ic.take c.a.toNat++p.ic.drop (c.a.toNat+1)))
theorem AY {α:Type} {l:List α} {i j:Int} (h0:0≤i) (h1:i≤j) (h2:j≤(l.length:Int)):sub l i j=some ((l.drop i.toNat).take (j.toNat - i.toNat)):=by
  unfold sub
  rw [if_pos ⟨h0,h1,h2⟩]
theorem lr.b6 {p:hZ} (h:lr p):p.ic.length<im:=(kg (p:=p) (Nat.lt_of_le_of_lt h.sz (by decide))).2.2.2.2.2
theorem E0 {α:Type} {l:List α} (hl:l.length<im) {a:Int} (h:iG a 0 ((l.length:Int) - 1)=true):IntKind.i64.wrap (a+1)=a+1∧sub l 0 a=some (l.take a.toNat)∧sub l (a+1) (l.length:Int)=some (l.drop (a.toNat+1))∧∃ m,sub l a (a+1)=some m:=by
  have hB:(16777216:Nat)=im:=rfl
  rw [jE] at h
  refine ⟨i9 (by omega) (by omega),?_,?_,_,AY h.1 (by omega) (by omega)⟩
  · rw [AY (Int.le_refl 0) h.1 (by omega)]
    simp
  · rw [AY (by omega) (by omega) (Int.le_refl _),show (a+1).toNat=a.toNat+1 by omega,List.take_of_length_le (by simp)]
theorem Bh (N:Nat) {l:List je} (hl:l.length<im) {a:Int} (h:iG a 0 ((l.length:Int) - 1)=true):ou N l a (IntKind.i64.wrap (a+1))=some (l.take a.toNat++l.drop (a.toNat+1)):=by
  obtain ⟨h1,h2,h3,m,h4⟩:=E0 hl h
  unfold ou
  have hne:(a==a+1)=false:=by rw [beq_eq_false_iff_ne];omega
  simp only [h1,h2,h3,h4,hne,Option.bind_some,cond_false]
def ky (p:hZ) (me now th:Int) (c:iL):Int×Int×hZ :=
  bif c.kind==1 then lW p me now c else bif (c.kind==2) || (c.kind==3) then mC p me now c else bif (c.kind==4) || (c.kind==5) then mw p me now c else
  bif (c.kind==6) || (c.kind==7) then jz p me now c else bif c.kind==8 then kL p me now c else bif (c.kind==9) || ((c.kind==10) || (c.kind==11)) then mF p c else
  bif (c.kind==12) || (c.kind==13) then lA p me now th c else bif c.kind==14 then tc p th c.a else bif c.kind==15 then uv p c else (2,0,p)
theorem zG (p:hZ) (me now:Int) (c:iL):(mC p me now c).2.1=0∧hZ.mk p.label p.own p.tree (mC p me now c).2.2.heap p.ic (mC p me now c).2.2.next (mC p me now c).2.2.want (mC p me now c).2.2.gE (mC p me now c).2.2.ik (mC p me now c).2.2.lost=(mC p me now c).2.2:=by
  unfold mC
  cases !iG c.b 0 1
  · cases jv p.heap.ag now me c.a 0 != 0
    · cases (c.kind==2)&&(jv p.heap.ag now me c.c 0 != 0) <;> exact ⟨rfl,rfl⟩
    · exact ⟨rfl,rfl⟩
  · exact ⟨rfl,rfl⟩
theorem zA (p:hZ) (me now:Int) (c:iL):(mw p me now c).2.1=0∧hZ.mk p.label p.own p.tree (mw p me now c).2.2.heap p.ic (mw p me now c).2.2.next (mw p me now c).2.2.want (mw p me now c).2.2.gE (mw p me now c).2.2.ik (mw p me now c).2.2.lost=(mw p me now c).2.2:=by
  unfold mw
  cases jv p.heap.ag now me c.a 0 != 0
  · cases iE p.heap.ag now me c.a==0
    · cases (c.kind==4)&&(jv p.heap.ag now me c.b 1 != 0) <;> exact ⟨rfl,rfl⟩
    · exact ⟨rfl,rfl⟩
  · exact ⟨rfl,rfl⟩
theorem Dt (p:hZ) (me now:Int) (c:iL):hZ.mk p.label p.own p.tree (ir.mk (jz p me now c).2.2.heap.ag (jr.mk (jz p me now c).2.2.heap.gc.phase (jz p me now c).2.2.heap.gc.pos (jz p me now c).2.2.heap.gc.round p.heap.gc.ia)) p.ic (jz p me now c).2.2.next (jz p me now c).2.2.want (jz p me now c).2.2.gE (jz p me now c).2.2.ik (jz p me now c).2.2.lost=(jz p me now c).2.2:=by
  unfold jz
  cases jv p.heap.ag now me c.a 2 != 0
  · cases !iG c.b 0 (((nth p.heap.ag (iE p.heap.ag now me c.a)).data.length:Int) - 1)
    · cases c.kind==7
      · cases !iG c.c 0 999 <;> rfl
      · rfl
    · rfl
  · rfl
theorem ye (p:hZ) (me now:Int) (c:iL):(kL p me now c).2.1=0∧hZ.mk p.label p.own (kL p me now c).2.2.tree (ir.mk (kL p me now c).2.2.heap.ag (jr.mk (kL p me now c).2.2.heap.gc.phase (kL p me now c).2.2.heap.gc.pos (kL p me now c).2.2.heap.gc.round p.heap.gc.ia)) p.ic (kL p me now c).2.2.next (kL p me now c).2.2.want (kL p me now c).2.2.gE (kL p me now c).2.2.ik (kL p me now c).2.2.lost=(kL p me now c).2.2:=by
  unfold kL
  cases jv p.heap.ag now me c.a 0 != 0
  · cases (iE p.heap.ag now me c.a==0) || (!iG c.b 1 1000 || decide (IntKind.i64.wrap ((nth p.heap.ag (iE p.heap.ag now me c.a)).iP+c.b) > 1000000))
    · cases nf p (pV p (nth p.heap.ag (iE p.heap.ag now me c.a)).res) (iC.mk 0 (IntKind.i64.wrap ((nth p.heap.ag (iE p.heap.ag now me c.a)).bh * c.b)) 0) <;> exact ⟨rfl,rfl⟩
    · exact ⟨rfl,rfl⟩
  · exact ⟨rfl,rfl⟩
theorem ED (p:hZ) (c:iL):hZ.mk p.label p.own (mF p c).2.2.tree (ir.mk p.heap.ag (jr.mk (mF p c).2.2.heap.gc.phase (mF p c).2.2.heap.gc.pos (mF p c).2.2.heap.gc.round p.heap.gc.ia)) p.ic (mF p c).2.2.next (mF p c).2.2.want (mF p c).2.2.gE (mF p c).2.2.ik (mF p c).2.2.lost=(mF p c).2.2:=by
  unfold mF
  cases c.kind==9
  · cases c.kind==10
    · cases !(mP p.tree c.a).2 <;> rfl
    · cases (!iG c.a 0 4 || (!iG c.b 0 4 || (!iG c.c 0 2 || !vF c.d)))
      · cases !(mN p.tree c.a c.b (rn c.c c.d)).2 <;> rfl
      · rfl
  · cases (!iG c.a 0 4 || !jl (iC.mk c.b c.c c.d))
    · cases !(lv p.tree c.a (iC.mk c.b c.c c.d)).2.2 <;> rfl
    · rfl
theorem CL (p:hZ) (me now th:Int) (c:iL):hZ.mk p.label p.own p.tree (ir.mk (lA p me now th c).2.2.heap.ag (jr.mk (lA p me now th c).2.2.heap.gc.phase (lA p me now th c).2.2.heap.gc.pos (lA p me now th c).2.2.heap.gc.round p.heap.gc.ia)) p.ic (lA p me now th c).2.2.next (lA p me now th c).2.2.want (lA p me now th c).2.2.gE (lA p me now th c).2.2.ik (lA p me now th c).2.2.lost=(lA p me now th c).2.2:=by
  unfold lA
  cases jv p.heap.ag now me c.a 3 != 0
  · cases !iG c.b 0 999
    · cases c.kind==12
      · cases ((nth p.heap.ag (iE p.heap.ag now me c.a)).queue.length:Int)==0 <;> rfl
      · cases decide (((nth p.heap.ag (iE p.heap.ag now me c.a)).queue.length:Int) ≥ 2) <;> rfl
    · rfl
  · rfl
theorem CV (p:hZ) (me now:Int) (c:iL):hZ.mk p.label p.own (lW p me now c).2.2.tree (lW p me now c).2.2.heap p.ic (lW p me now c).2.2.next (lW p me now c).2.2.want (lW p me now c).2.2.gE (lW p me now c).2.2.ik (lW p me now c).2.2.lost=(lW p me now c).2.2:=by
  unfold lW
  cases qV now c
  · cases jv p.heap.ag now me c.b 1 != 0
    · cases !nf p c.e (cost c)
      · cases decide ((kq p.heap.ag (newObj now (iE p.heap.ag now me c.b) c)).2<0) <;> rfl
      · rfl
    · rfl
  · rfl
theorem xm (p:hZ) (th a:Int):(tc p th a).2.2=p:=by
  unfold tc
  cases a==0
  · cases a==1
    · cases (a==2) || ((a==3) || (a==4)) <;> rfl
    · rfl
  · rfl
theorem EU {a m n:Int} (hne:m ≠ n) (h:((a==m) || (a==n))=true):(a==m)=!(a==n):=by
  simp only [Bool.or_eq_true,beq_iff_eq] at h
  rcases h with h | h
  · subst h
    have:(a==n)=false:=by rw [beq_eq_false_iff_ne];exact hne
    rw [this];simp
  · subst h
    have:(a==m)=false:=by rw [beq_eq_false_iff_ne];exact fun q=>hne q.symm
    rw [this];simp
theorem Jt {N:Nat} (hN:im+1≤N) {p:hZ} (hp:lr p) (me now:Int) {th:Int} (t0:0≤th) (t9:th≤9) (c:iL):pb N (iK.mk p me now th) c=some ((ky p me now th c).1,(ky p me now th c).2.1,iK.mk (ky p me now th c).2.2 me now th):=by
  have hN':im≤N:=Nat.le_of_succ_le hN
  unfold pb ky
  simp only [HD hN hp,Hv hN' hp,Hu hN' hp,Ef hN' hp,GJ hN' hp,El hN' hp,HE hN' hp _ _ t0 t9,mI,Option.bind_some,Ij,yL,(zG p me now c).2,(zA p me now c).2,Dt,(ye p me now c).2,ED,CV,xm,uN,uI,u7]
  cases c.kind==1
  case true=>rfl
  cases (c.kind==2) || (c.kind==3)
  case true=>simp only [cond_false,cond_true,(zG p me now c).1]
  cases (c.kind==4) || (c.kind==5)
  case true=>simp only [cond_false,cond_true,(zA p me now c).1]
  cases (c.kind==6) || (c.kind==7)
  case true=>rfl
  cases c.kind==8
  case true=>simp only [cond_false,cond_true,(ye p me now c).1]
  cases (c.kind==9) || ((c.kind==10) || (c.kind==11))
  case true=>rfl
  cases hg:(c.kind==12) || (c.kind==13)
  case true =>
    have:(c.kind==13)=!(c.kind==12):=by
      rw [Bool.or_comm] at hg
      exact EU (by decide) hg
    simp only [cond_false,cond_true,H5 hN' hp me now t0 t9 this,Option.bind_some,CL]
  cases c.kind==14
  case true=>simp only [cond_false,cond_true,xm]
  cases c.kind==15
  case false=>rfl
  have h6:=hp.b6
  unfold uv
  simp only [cond_false,cond_true,AP h6]
  cases hi:iG c.a 0 ((p.ic.length:Int) - 1)
  · rfl
  simp only [Bool.not_true,cond_false,Bh N h6 hi,Option.bind_some]
  rfl
theorem um {p:hZ} {now th:Int} (h:lY p now th=true):kl p=true∧0≤th∧th≤9:=by
  unfold lY at h
  simp only [Bool.and_eq_true] at h
  exact DS (now:=now) (by simpa using h.1)
def mM (p:hZ) (me now th:Int) (c:iL):hZ×iJ :=
  bif !kl p || (!iG me 0 2 || !iG now 0 1000000) then (p,iJ.mk 2 0) else bif !lY p now th then (p,iJ.mk 1 0) else fin c p (ky p me now th c)
theorem Ix (p:hZ) (me now th:Int) (c:iL):hZ.mk p.label p.own (ky p me now th c).2.2.tree (ky p me now th c).2.2.heap (ky p me now th c).2.2.ic (ky p me now th c).2.2.next (ky p me now th c).2.2.want (ky p me now th c).2.2.gE (ky p me now th c).2.2.ik (ky p me now th c).2.2.lost=(ky p me now th c).2.2:=by
  unfold ky
  cases c.kind==1
  case true=>rw [cond_true, ← CV]
  cases (c.kind==2) || (c.kind==3)
  case true=>rw [cond_false,cond_true, ← (zG p me now c).2]
  cases (c.kind==4) || (c.kind==5)
  case true=>rw [cond_false,cond_false,cond_true, ← (zA p me now c).2]
  cases (c.kind==6) || (c.kind==7)
  case true=>rw [cond_false,cond_false,cond_false,cond_true, ← Dt]
  cases c.kind==8
  case true=>rw [cond_false,cond_false,cond_false,cond_false,cond_true, ← (ye p me now c).2]
  cases (c.kind==9) || ((c.kind==10) || (c.kind==11))
  case true=>simp only [cond_false,cond_true];rw [← ED]
  cases (c.kind==12) || (c.kind==13)
  case true=>simp only [cond_false,cond_true];rw [← CL]
  cases c.kind==14
  case true=>simp only [cond_false,cond_true,xm,u7]
  cases c.kind==15
  case false=>rfl
  simp only [cond_false,cond_true]
  unfold uv
  cases !iG c.a 0 ((p.ic.length:Int) - 1) <;> rfl
theorem DN {N:Nat} (hN:im+1≤N) {p:hZ} (hb:jd p≤3000000) (hw:wP p) (me now th:Int) (c:iL):qa N p me now th c=some (mM p me now th c):=by
  have hN':im≤N:=Nat.le_of_succ_le hN
  have hB:jd p<im:=Nat.lt_of_le_of_lt hb (by decide)
  unfold qa mM
  simp only [yh hN' hB,yg,uT,vY hN' hB,Aa hN' hB,Option.bind_some,kG]
  cases !kl p || (!iG me 0 2 || !iG now 0 1000000)
  case true=>rfl
  cases hc:lY p now th
  · rfl
  obtain ⟨ok,t0,t9⟩:=um hc
  simp only [Bool.not_true,cond_false,Jt hN ⟨ok,hb,hw⟩ me now t0 t9,Option.bind_some,Ix,lu]
  unfold fin
  cases (ky p me now th c).1==0
  · simp only [cond_false]
    cases (c.kind==1)&&(((ky p me now th c).1==6) || ((ky p me now th c).1==7)) <;> rfl
  · rfl
theorem zN (p:hZ) (me now:Int) (c:iL) {β:Type} (x:Option β):lV p.label.levels (fin c p (jz p me now c)).1.label.levels (lV p.own (fin c p (jz p me now c)).1.own (lV p.tree (fin c p (jz p me now c)).1.tree (lV p.heap.ag (fin c p (jz p me now c)).1.heap.ag (lV p.heap.gc.ia (fin c p (jz p me now c)).1.heap.gc.ia (lV p.ic (fin c p (jz p me now c)).1.ic x)))))=x:=by
  have h:(jz p me now c).2.2.label=p.label∧(jz p me now c).2.2.own=p.own∧(jz p me now c).2.2.tree=p.tree∧(jz p me now c).2.2.heap.ag.length=p.heap.ag.length∧(jz p me now c).2.2.heap.gc=p.heap.gc∧(jz p me now c).2.2.ic=p.ic:=by
    unfold jz
    cases jv p.heap.ag now me c.a 2 != 0
    case true=>exact ⟨rfl,rfl,rfl,rfl,rfl,rfl⟩
    cases !iG c.b 0 (((nth p.heap.ag (iE p.heap.ag now me c.a)).data.length:Int) - 1)
    case true=>exact ⟨rfl,rfl,rfl,rfl,rfl,rfl⟩
    cases c.kind==7
    case true=>exact ⟨rfl,rfl,rfl,rfl,rfl,rfl⟩
    cases !iG c.c 0 999
    case true=>exact ⟨rfl,rfl,rfl,rfl,rfl,rfl⟩
    exact ⟨rfl,rfl,rfl,List.length_set,rfl,rfl⟩
  have g:(fin c p (jz p me now c)).1.label.levels.length=p.label.levels.length∧(fin c p (jz p me now c)).1.own.length=p.own.length∧(fin c p (jz p me now c)).1.tree.length=p.tree.length∧(fin c p (jz p me now c)).1.heap.ag.length=p.heap.ag.length∧(fin c p (jz p me now c)).1.heap.gc.ia.length=p.heap.gc.ia.length∧(fin c p (jz p me now c)).1.ic.length=p.ic.length:=by
    unfold fin
    cases (jz p me now c).1==0
    · cases (c.kind==1)&&(((jz p me now c).1==6) || ((jz p me now c).1==7)) <;> exact ⟨rfl,rfl,rfl,rfl,rfl,rfl⟩
    · simp only [cond_true]
      rw [h.1,h.2.1,h.2.2.1,h.2.2.2.2.1,h.2.2.2.2.2]
      exact ⟨rfl,rfl,rfl,h.2.2.2.1,rfl,rfl⟩
  rw [qF g.1,qF g.2.1,qF g.2.2.1,qF g.2.2.2.1,qF g.2.2.2.2.1,qF g.2.2.2.2.2]
theorem y6 {N:Nat} (hN:im≤N) {p:hZ} (hb:jd p≤3000000) (hw:wP p) (me now th:Int) (c:iL):ot N p me now th c=some (mM p me now th c):=by
  have hB:jd p<im:=Nat.lt_of_le_of_lt hb (by decide)
  unfold ot mM
  simp only [x6 hN hB hw,l6,wV hN hB,zT hN hB hw,Option.bind_some,kG,Ij,yL]
  cases !kl p || (!iG me 0 2 || !iG now 0 1000000)
  case true=>rfl
  cases hc:lY p now th
  · rfl
  obtain ⟨ok,t0,t9⟩:=um hc
  have hp:lr p:=⟨ok,hb,hw⟩
  simp only [Bool.not_true,cond_false]
  unfold ky
  cases hk:c.kind==1
  case true=>simp only [cond_true,Ib hN hp me now hk,Option.bind_some]
  simp only [cond_false]
  cases (c.kind==2) || (c.kind==3)
  case true=>simp only [cond_true,Hq hN hp me now hk,Option.bind_some]
  simp only [cond_false]
  cases (c.kind==4) || (c.kind==5)
  case true=>simp only [cond_true,HC hN hp me now hk,Option.bind_some]
  simp only [cond_false]
  cases hd:(c.kind==6) || (c.kind==7)
  case true =>
    simp only [cond_true,Eo hN hp me now hk (EU (by decide) hd),Option.bind_some]
    all_goals (rw [zN];rfl)
  simp only [cond_false]
  cases c.kind==8
  case true=>simp only [cond_true,Hl hN hp me now hk,Option.bind_some]
  simp only [cond_false]
  cases (c.kind==9) || ((c.kind==10) || (c.kind==11))
  case true=>simp only [cond_true,It hN hp hk,Option.bind_some]
  simp only [cond_false]
  cases (c.kind==12) || (c.kind==13)
  case true=>simp only [cond_true,Hp hN hp me now t0 t9 hk,Option.bind_some]
  simp only [cond_false]
  cases c.kind==14
  case true=>simp only [cond_true,HN hN hp t0 t9 hk,Option.bind_some]
  simp only [cond_false]
  cases c.kind==15
  case false=>simp only [cond_false,lj (show ((2:Int) != 0)=true from rfl) hk]
  have h6:=hp.b6
  unfold uv
  simp only [cond_true,AP h6]
  cases hi:iG c.a 0 ((p.ic.length:Int) - 1)
  · simp only [Bool.not_false,cond_true,lj (show ((2:Int) != 0)=true from rfl) hk]
  obtain ⟨h1,h2,h3,_⟩:=E0 h6 hi
  have hB':(16777216:Nat)=im:=rfl
  have a1:app ([]:List je) (p.ic.take c.a.toNat)=some (p.ic.take c.a.toNat):=jQ (by simp only [List.length_take];omega)
  have a2:app (p.ic.take c.a.toNat) (p.ic.drop (c.a.toNat+1))=some (p.ic.take c.a.toNat++p.ic.drop (c.a.toNat+1)):=by
    unfold app
    rw [if_pos (by simp only [List.length_take,List.length_drop];omega)]
  simp only [Bool.not_true,cond_false,h1,h2,h3,a1,a2,Option.bind_some,tX]
  rfl
structure tC (p q:hZ):Prop where
  sz:jd q≤jd p+300
  w:wP q
  ln:q.heap.ag.length=p.heap.ag.length
theorem pq {p q:hZ} (h1:q.label=p.label) (h2:q.own=p.own) (h3:q.tree.length=p.tree.length) (h4:jo iD q.heap.ag≤jo iD p.heap.ag+250) (h5:q.heap.gc.ia.length≤p.heap.gc.ia.length+1) (h6:q.ic.length≤p.ic.length) (h7:wA q.heap.ag) (h8:q.heap.ag.length=p.heap.ag.length):tC p q:=by
  refine ⟨?_,h7,h8⟩
  unfold jd oW tY lQ
  rw [h1,h2]
  omega
theorem jP {p:hZ} (h:lr p):tC p p:=⟨by omega,h.w,rfl⟩
theorem uA {l:List cd} {k:Nat} {o:cd} (ho:iD o≤100):jo iD (l.set k o)≤jo iD l+100:=Nat.le_trans xy (by omega)
theorem yw (h:ir) (c i:Int):(mH h c i).ag.length=h.ag.length:=by
  unfold mH tB nu
  cases decide (c ≥ 0)
  · rfl
  cases kC h&&iG i 0 9
  · rfl
  simp only [cond_true]
  split
  · simp only [List.length_set]
  · rfl
theorem yA {h:ir} (hw:wA h.ag) (c i:Int):jo iD (mH h c i).ag=jo iD h.ag∧wA (mH h c i).ag∧(mH h c i).gc.ia.length≤h.gc.ia.length+1:=by
  unfold mH tB
  cases decide (c ≥ 0)
  · exact ⟨rfl,hw,Nat.le_succ _⟩
  cases q:kC h&&iG i 0 9
  · exact ⟨rfl,hw,Nat.le_succ _⟩
  simp only [Bool.and_eq_true,jE] at q
  have hl:=(nS q.1).len
  simp only [cond_true]
  refine ⟨?_,?_,vQ h i⟩
  · unfold nu
    split
    · exact nY q.2.1 (by omega) rfl
    · rfl
  · unfold nu
    split
    · exact kN hw (show mR (marked (nth h.ag i) true) from hw (nth h.ag i) (pI q.2.1 (by omega)))
    · exact hw
theorem GF {p:hZ} (hp:lr p) (me now:Int) (c:iL):tC p (mC p me now c).2.2:=by
  unfold mC
  cases !iG c.b 0 1
  case true=>exact jP hp
  cases q2:jv p.heap.ag now me c.a 0 != 0
  case true=>exact jP hp
  obtain ⟨ar,g0,g9,_,_⟩:=lZ (kr q2)
  cases (c.kind==2)&&(jv p.heap.ag now me c.c 0 != 0)
  case true=>exact jP hp
  simp only [cond_false]
  generalize (bif c.kind==2 then iE p.heap.ag now me c.c else -1)=x
  have ho:=oB ar g0 g9
  obtain ⟨a,b,d⟩:=yA (h:=ir.mk (p.heap.ag.set (iE p.heap.ag now me c.a).toNat (linked (nth p.heap.ag (iE p.heap.ag now me c.a)) c.b x)) p.heap.gc) (kN hp.w (show mR (nth p.heap.ag (iE p.heap.ag now me c.a)) from hp.w _ (ar.at g0 g9).2)) x x
  refine pq rfl rfl rfl ?_ d (Nat.le_refl _) b (by show (mH _ _ _).ag.length=_;rw [yw];exact List.length_set)
  refine Nat.le_trans (Nat.le_of_eq a) (Nat.le_trans (uA (by rw [wH];omega)) (by omega))
theorem GP {p:hZ} (hp:lr p) (me now:Int) (c:iL):tC p (mw p me now c).2.2:=by
  unfold mw
  cases q2:jv p.heap.ag now me c.a 0 != 0
  case true=>exact jP hp
  obtain ⟨ar,g0,g9,_,_⟩:=lZ (kr q2)
  cases iE p.heap.ag now me c.a==0
  case true=>exact jP hp
  cases (c.kind==4)&&(jv p.heap.ag now me c.b 1 != 0)
  case true=>exact jP hp
  simp only [cond_false]
  generalize (bif c.kind==4 then iE p.heap.ag now me c.b else -1)=x
  have ho:=oB ar g0 g9
  obtain ⟨a,b,d⟩:=yA (h:=ir.mk (p.heap.ag.set (iE p.heap.ag now me c.a).toNat (boxed (nth p.heap.ag (iE p.heap.ag now me c.a)) x)) p.heap.gc) (kN hp.w (show mR (nth p.heap.ag (iE p.heap.ag now me c.a)) from hp.w _ (ar.at g0 g9).2)) x (iE p.heap.ag now me c.a)
  refine pq rfl rfl rfl ?_ d (Nat.le_refl _) b (by show (mH _ _ _).ag.length=_;rw [yw];exact List.length_set)
  refine Nat.le_trans (Nat.le_of_eq a) (Nat.le_trans (uA (show iD (nth p.heap.ag (iE p.heap.ag now me c.a))≤100 by omega)) (by omega))
theorem Hh {p:hZ} (hp:lr p) (me now:Int) (c:iL):tC p (jz p me now c).2.2:=by
  unfold jz
  cases q2:jv p.heap.ag now me c.a 2 != 0
  case true=>exact jP hp
  obtain ⟨ar,g0,g9,_,_⟩:=lZ (kr q2)
  cases !iG c.b 0 (((nth p.heap.ag (iE p.heap.ag now me c.a)).data.length:Int) - 1)
  case true=>exact jP hp
  cases c.kind==7
  case true=>exact jP hp
  cases !iG c.c 0 999
  case true=>exact jP hp
  have ho:=oB ar g0 g9
  refine pq rfl rfl rfl ?_ (Nat.le_succ _) (Nat.le_refl _) (kN hp.w (show mR (nth p.heap.ag (iE p.heap.ag now me c.a)) from hp.w _ (ar.at g0 g9).2)) List.length_set
  refine Nat.le_trans (uA (o:=written (nth p.heap.ag (iE p.heap.ag now me c.a)) c.b c.c) ?_) (by omega)
  unfold iD written at *
  simp only [List.length_set]
  omega
theorem FK {p:hZ} (hp:lr p) (me now:Int) (c:iL):tC p (kL p me now c).2.2:=by
  unfold kL
  cases q2:jv p.heap.ag now me c.a 0 != 0
  case true=>exact jP hp
  obtain ⟨ar,g0,g9,_,_⟩:=lZ (kr q2)
  cases (iE p.heap.ag now me c.a==0) || (!iG c.b 1 1000 || decide (IntKind.i64.wrap ((nth p.heap.ag (iE p.heap.ag now me c.a)).iP+c.b) > 1000000))
  case true=>exact jP hp
  cases !nf p (pV p (nth p.heap.ag (iE p.heap.ag now me c.a)).res) (iC.mk 0 (IntKind.i64.wrap ((nth p.heap.ag (iE p.heap.ag now me c.a)).bh * c.b)) 0)
  case true=>exact jP hp
  have ho:=oB ar g0 g9
  refine pq rfl rfl (mj _ _ _) ?_ (Nat.le_succ _) (Nat.le_refl _) (kN hp.w (show mR (nth p.heap.ag (iE p.heap.ag now me c.a)) from hp.w _ (ar.at g0 g9).2)) List.length_set
  exact Nat.le_trans (uA (show iD (nth p.heap.ag (iE p.heap.ag now me c.a))≤100 by omega)) (by omega)
theorem zs {p:hZ} (hp:lr p) {t:List iz} (h:t.length=p.tree.length):tC p (vO p t):=pq rfl rfl h (by show jo iD p.heap.ag≤_;omega) (Nat.le_succ _) (Nat.le_refl _) hp.w rfl
theorem H7 {p:hZ} (hp:lr p) (c:iL):tC p (mF p c).2.2:=by
  unfold mF
  cases c.kind==9
  · cases c.kind==10
    · cases !(mP p.tree c.a).2
      · exact zs hp (wU _ _)
      · exact jP hp
    · cases (!iG c.a 0 4 || (!iG c.b 0 4 || (!iG c.c 0 2 || !vF c.d)))
      · cases !(mN p.tree c.a c.b (rn c.c c.d)).2
        · exact zs hp (A5 _ _ _ _)
        · exact jP hp
      · exact jP hp
  · cases (!iG c.a 0 4 || !jl (iC.mk c.b c.c c.d))
    · cases !(lv p.tree c.a (iC.mk c.b c.c c.d)).2.2
      · exact zs hp (wz _ _ _)
      · exact jP hp
    · exact jP hp
theorem GW (h:ir) (i:Int):(nT h i).ag.length=h.ag.length:=by
  unfold nT
  split
  · simp only [List.length_set]
  · rfl
theorem HW (l:List cd) (k w b:Int):(v7 l k w b).length=l.length:=by
  unfold v7
  cases decide (k ≥ 0)&&((nth l k).wait==w)
  · rfl
  · simp only [cond_true,List.length_set]
theorem Ha {h:ir} (hw:wA h.ag) (i:Int):jo iD (nT h i).ag=jo iD h.ag∧wA (nT h i).ag∧(nT h i).gc.ia.length=h.gc.ia.length:=by
  unfold nT
  split
  · rename_i q
    simp only [Bool.and_eq_true,jE] at q
    have hl:=(nS q.1).len
    exact ⟨nY q.2.1.1 (by omega) rfl,kN hw (show mR (nth h.ag i) from hw _ (pI q.2.1.1 (by omega))),rfl⟩
  · exact ⟨rfl,hw,rfl⟩
theorem GQ {p:hZ} (hp:lr p) (f:Int) (a:iC):tC p (wE p f a):=pq rfl rfl (mj _ _ _) (by show jo iD p.heap.ag≤_;omega) (Nat.le_succ _) (Nat.le_refl _) hp.w rfl
theorem Hk {p:hZ} (hp:lr p) (me now:Int) (c:iL):tC p (lW p me now c).2.2:=by
  unfold lW
  cases q1:qV now c
  case true=>exact jP hp
  cases jv p.heap.ag now me c.b 1 != 0
  case true=>exact jP hp
  cases !nf p c.e (cost c)
  case true=>exact jP hp
  generalize iE p.heap.ag now me c.b=box
  cases q4:decide ((kq p.heap.ag (newObj now box c)).2<0)
  case true=>exact GQ hp _ _
  obtain ⟨j,g,e,ar,hj⟩:=vv q4
  simp only [cond_false]
  rw [e]
  have ho:=wQ (now:=now) (box:=box) (vn q1)
  obtain ⟨a,b,d⟩:=Ha (h:=ir.mk (p.heap.ag.set j (kt (newObj now box c) g)) p.heap.gc) (kN hp.w (vZ (xX _ _ _))) (j:Int)
  refine pq rfl rfl (mj _ _ _) ?_ (by show (nT _ _).gc.ia.length≤_;rw [d];exact Nat.le_succ _) (Nat.le_refl _) b (by show (nT _ _).ag.length=_;rw [GW];exact List.length_set)
  exact Nat.le_trans (Nat.le_of_eq a) (Nat.le_trans (uA (show iD (newObj now box c)≤100 from ho)) (by omega))
theorem Gb {l:List cd} (h:wA l) {i:Int} (h0:0≤i) (h1:i<(l.length:Int)):mR (nth l i):=h _ (pI h0 h1)
theorem Hy {l:List cd} (hw:wA l) {k w b:Int} (h:0≤k→k<(l.length:Int)):jo iD (v7 l k w b)=jo iD l∧wA (v7 l k w b):=by
  unfold v7
  cases q:decide (k ≥ 0)&&((nth l k).wait==w)
  · exact ⟨rfl,hw⟩
  simp only [Bool.and_eq_true,decide_eq_true_eq] at q
  have k1:=h q.1
  have w0:mR (waiting (nth l k) 0):=by show (-9223372036854775808:Int)≤0;decide
  have w1:=kN (k:=k.toNat) hw w0
  have k2:k<((l.set k.toNat (waiting (nth l k) 0)).length:Int):=by simp only [List.length_set];exact k1
  simp only [cond_true]
  exact ⟨(nY (z:=x8 (nth (l.set k.toNat (waiting (nth l k) 0)) k) b) q.1 k2 rfl).trans (nY q.1 k1 rfl),kN w1 (show mR (nth (l.set k.toNat (waiting (nth l k) 0)) k) from Gb w1 q.1 k2)⟩
theorem Ji (n:Int):-9223372036854775808≤IntKind.i64.wrap n:=by
  simp [IntKind.wrap,IntKind.signed,IntKind.bits]
  split <;> omega
theorem GU {p:hZ} (hp:lr p) (me now:Int) {th:Int} (t0:0≤th) (t9:th≤9) (c:iL):tC p (lA p me now th c).2.2:=by
  unfold lA
  cases q2:jv p.heap.ag now me c.a 3 != 0
  case true=>exact jP hp
  obtain ⟨ar,g0,g9,_,_⟩:=lZ (kr q2)
  cases !iG c.b 0 999
  case true=>exact jP hp
  simp only [cond_false]
  generalize iE p.heap.ag now me c.a=i at *
  have ho:=oB ar g0 g9
  have hl:=ar.len
  have hwi:mR (nth p.heap.ag i):=hp.w _ (ar.at g0 g9).2
  have qs:∀ q,q.length≤20→iD (pd (nth p.heap.ag i) q)≤100:=fun q hq=>by
    unfold iD at ho
    unfold iD pd
    simp only
    omega
  have hq:=wJ ho
  cases c.kind==12
  · cases ((nth p.heap.ag i).queue.length:Int)==0
    case true=>exact jP hp
    have hw1:wA (served p.heap.ag i):=kN hp.w hwi
    obtain ⟨a,b⟩:=Hy (l:=served p.heap.ag i) hw1 (k:=iE (served p.heap.ag i) now me (nth (nth p.heap.ag i).queue 0).src) (w:=IntKind.i64.wrap (c.a+1)) (b:=c.b) (vH (by unfold served;simp only [List.length_set];exact hl))
    refine pq rfl rfl rfl ?_ (Nat.le_succ _) (Nat.le_refl _) b (by show (v7 _ _ _ _).length=_;rw [HW];exact List.length_set)
    refine Nat.le_trans (Nat.le_of_eq a) (Nat.le_trans (uA (qs _ (by simp only [List.length_drop];omega))) (by omega))
  · cases decide (((nth p.heap.ag i).queue.length:Int) ≥ 2)
    case true=>exact jP hp
    have hw1:wA (asked p.heap.ag i me th c):=kN hp.w hwi
    have hl1:(asked p.heap.ag i me th c).length=10:=by unfold asked;simp only [List.length_set];exact hl
    have e:jo iD ((asked p.heap.ag i me th c).set th.toNat (waiting (nth (asked p.heap.ag i me th c) th) (IntKind.i64.wrap (c.a+1))))=jo iD (asked p.heap.ag i me th c):=nY t0 (by omega) rfl
    refine pq rfl rfl rfl ?_ (Nat.le_succ _) (Nat.le_refl _) (kN hw1 (Ji _)) (by show (List.set _ _ _).length=_;rw [List.length_set,hl1,hl])
    refine Nat.le_trans (Nat.le_of_eq e) (Nat.le_trans (uA (qs _ (by simp only [List.length_append,List.length_cons,List.length_nil];omega))) (by omega))
theorem Fq {p:hZ} (hp:lr p) (c:iL):tC p (uv p c).2.2:=by
  unfold uv
  cases hi:iG c.a 0 ((p.ic.length:Int) - 1)
  · exact jP hp
  · exact pq rfl rfl rfl (by show jo iD p.heap.ag≤_;omega) (Nat.le_succ _) (by show (p.ic.take c.a.toNat++p.ic.drop (c.a.toNat+1)).length≤_;simp only [List.length_append,List.length_take,List.length_drop];omega) hp.w rfl
theorem Gu {p:hZ} (hp:lr p) (me now:Int) {th:Int} (t0:0≤th) (t9:th≤9) (c:iL):tC p (ky p me now th c).2.2:=by
  unfold ky
  cases c.kind==1
  case true=>exact Hk hp _ _ _
  cases (c.kind==2) || (c.kind==3)
  case true=>exact GF hp _ _ _
  cases (c.kind==4) || (c.kind==5)
  case true=>exact GP hp _ _ _
  cases (c.kind==6) || (c.kind==7)
  case true=>exact Hh hp _ _ _
  cases c.kind==8
  case true=>exact FK hp _ _ _
  cases (c.kind==9) || ((c.kind==10) || (c.kind==11))
  case true=>exact H7 hp _
  cases (c.kind==12) || (c.kind==13)
  case true=>exact GU hp _ _ t0 t9 _
  cases c.kind==14
  case true=>simp only [cond_false,cond_true,xm];exact jP hp
  cases c.kind==15
  case true=>exact Fq hp _
  exact jP hp
theorem GS {p:hZ} (hb:jd p≤3000000) (hw:wP p) (me now th:Int) (c:iL):jd (mM p me now th c).1≤jd p+300∧wP (mM p me now th c).1:=by
  unfold mM
  cases !kl p || (!iG me 0 2 || !iG now 0 1000000)
  case true=>exact ⟨Nat.le_add_right _ _,hw⟩
  cases hc:lY p now th
  · exact ⟨Nat.le_add_right _ _,hw⟩
  obtain ⟨ok,t0,t9⟩:=um hc
  have hp:lr p:=⟨ok,hb,hw⟩
  simp only [Bool.not_true,cond_false]
  unfold fin
  cases (ky p me now th c).1==0
  · cases (c.kind==1)&&(((ky p me now th c).1==6) || ((ky p me now th c).1==7)) <;> exact ⟨Nat.le_add_right (jd p) _,hw⟩
  · have h:=Gu hp me now t0 t9 c
    exact ⟨h.sz,h.w⟩
theorem Fw {p:hZ} (hb:jd p≤3000000) (hw:wP p) (me now th:Int) (c:iL):(mM p me now th c).1.heap.ag.length=p.heap.ag.length:=by
  unfold mM
  cases !kl p || (!iG me 0 2 || !iG now 0 1000000)
  case true=>rfl
  cases hc:lY p now th
  · rfl
  obtain ⟨ok,t0,t9⟩:=um hc
  simp only [Bool.not_true,cond_false]
  unfold fin
  cases (ky p me now th c).1==0
  · cases (c.kind==1)&&(((ky p me now th c).1==6) || ((ky p me now th c).1==7)) <;> rfl
  · exact (Gu ⟨ok,hb,hw⟩ me now t0 t9 c).ln
end Go.Kx
/- Plain laws: drawn parts come to an end, and are small. No program in sight. -/
namespace Go.Kx
open Go
set_option linter.unusedVariables false
set_option linter.unusedSimpArgs false
set_option maxRecDepth 10000
def WD {α:Type} (o:Option α) (Q:α→Prop):Prop:=∃ a,o=some a∧Q a
theorem WD.bind {α β:Type} {o:Option α} {f:α→Option β} {P:α→Prop} {Q:β→Prop} (h:WD o P) (k:∀ a,P a→WD (f a) Q):WD (o.bind f) Q:=by
  obtain ⟨a,rfl,ha⟩:=h
  exact k a ha
theorem WD.step {α β:Type} {o:Option α} {a:α} {f:α→Option β} {Q:β→Prop} (e:o=some a) (k:WD (f a) Q):WD (o.bind f) Q:=by
  rw [e];exact k
theorem WD.ite {α:Type} {c:Bool} {a b:Option α} {Q:α→Prop} (h1:c=true→WD a Q) (h2:c=false→WD b Q):WD (bif c then a else b) Q:=by
  cases c
  · exact h2 rfl
  · exact h1 rfl
theorem WD.ret {α:Type} {a:α} {Q:α→Prop} (h:Q a):WD (some a) Q:=⟨a,rfl,h⟩
theorem WD.mono {α:Type} {o:Option α} {P Q:α→Prop} (h:WD o P) (k:∀ a,P a→Q a):WD o Q:=by
  obtain ⟨a,e,ha⟩:=h
  exact ⟨a,e,k a ha⟩
def Ih {σ ρ:Type} (I:σ→Prop) (J:ρ→Prop) (μ:σ→Nat) (m:Nat) (o:σ⊕ρ):Prop:=(∀ s',o=.inl s'→I s'∧μ s'<m)∧∀ r,o=.inr r→J r
theorem WD.inl {σ ρ:Type} {I:σ→Prop} {J:ρ→Prop} {μ:σ→Nat} {m:Nat} {s:σ} (h1:I s) (h2:μ s<m):WD (some (.inl s:σ⊕ρ)) (Ih I J μ m) :=
  ⟨_,rfl,fun s' e=>by cases Sum.inl.inj e;exact ⟨h1,h2⟩,fun r e=>by cases e⟩
theorem WD.inr {σ ρ:Type} {I:σ→Prop} {J:ρ→Prop} {μ:σ→Nat} {m:Nat} {r:ρ} (h:J r):WD (some (.inr r:σ⊕ρ)) (Ih I J μ m) :=
  ⟨_,rfl,fun s' e=>by (cases e),fun r e=>by cases Sum.inr.inj e;exact h⟩
theorem WD.loop {σ ρ:Type} {body:σ→Option (σ⊕ρ)} (I:σ→Prop) (J:ρ→Prop) (μ:σ→Nat) {N:Nat} {s:σ} (h0:I s) (hN:μ s<N) (h:∀ s,I s→WD (body s) (Ih I J μ (μ s))):WD (iter body N s) J :=
  vM I J μ (fun s hs=>by obtain ⟨o,ho,h1,h2⟩:=h s hs;exact ⟨o,ho,h1,h2⟩) N s h0 hN
theorem re {N n:Nat} (hN:im≤N) (h:n<16777216):n<N:=Nat.lt_of_lt_of_le h hN
theorem iS {N:Nat} {b:List U8} {i h:Int} (hb:b.length≤1048576) (hi:0≤i) (n:Int) (hn:0<n):WD (iv N ⟨b,i,h⟩ n) (fun r=>0≤r.2.i∧0≤r.1∧r.1<n):=by
  obtain ⟨x,i',h',e,a1,a2,a3,_⟩:=su (N:=N) (c:=⟨b,i,h⟩) ⟨hb,hi⟩ n
  exact ⟨_,e,a1,a2,a3 hn⟩
theorem k9 {N:Nat} {b:List U8} {i h:Int} (hb:b.length≤1048576) (hi:0≤i) (n:Int):WD (jL N ⟨b,i,h⟩ n) (fun r=>0≤r.2.i):=by
  obtain ⟨x,i',h',e,a1⟩:=BR (N:=N) (c:=⟨b,i,h⟩) ⟨hb,hi⟩ n
  exact ⟨_,e,a1⟩
theorem kO {N:Nat} {b:List U8} {i h:Int} (hb:b.length≤1048576) (hi:0≤i) {l:List Int} (hl:0<l.length):WD (iZ N ⟨b,i,h⟩ l) (fun r=>0≤r.2.i∧r.1 ∈ l):=by
  obtain ⟨x,i',h',e,a1,a2⟩:=w7 (N:=N) (c:=⟨b,i,h⟩) ⟨hb,hi⟩ hl
  exact ⟨_,e,a1,a2⟩
theorem kI {α:Type} {l:List α} {i:Int} (h0:0≤i) (h1:i<(l.length:Int)):WD (idx l i) (fun y=>y ∈ l):=by
  obtain ⟨y,e,hy⟩:=xj h0 h1
  exact ⟨y,e,hy⟩
theorem EE {α:Type} {l:List α} {k:Int} (h0:0≤k) (h1:k≤(l.length:Int)):WD (sub l 0 k) (fun r=>r.length≤l.length∧∀ y,y ∈ r→y ∈ l):=by
  refine ⟨(l.drop (0:Int).toNat).take (k.toNat - (0:Int).toNat),by unfold sub;rw [if_pos ⟨Int.le_refl _,h0,h1⟩],?_,fun y hy=>?_⟩
  · simp only [List.length_take,List.length_drop];omega
  · exact List.mem_of_mem_drop (List.mem_of_mem_take hy)
theorem BI {N:Nat} (hN:im≤N) {b:List U8} {i h:Int} (hb:b.length≤1048576) (hi:0≤i):WD (m4 N ⟨b,i,h⟩) (fun r=>0≤r.2.i∧jH r.1=true):=by
  obtain ⟨x,i',h',e,a1,a2,a3⟩:=Df (N:=N) hN (c:=⟨b,i,h⟩) ⟨hb,hi⟩
  refine ⟨_,e,a1,?_⟩
  unfold jH
  simp only [Bool.and_eq_true,beq_iff_eq,List.all_eq_true,jE]
  exact ⟨by omega,a3⟩
theorem Ic {N:Nat} (hN:im≤N) {b:List U8} {i h:Int} (hb:b.length≤1048576) (hi:0≤i):WD (sn N ⟨b,i,h⟩) (fun r=>0≤r.2.i∧r.1.length≤5):=by
  obtain ⟨x,i',h',e,a1,a2⟩:=IJ (N:=N) hN (c:=⟨b,i,h⟩) ⟨hb,hi⟩
  exact ⟨_,e,a1,a2⟩
theorem E6 {N:Nat} {b:List U8} {i h:Int} (hb:b.length≤1048576) (hi:0≤i):WD (sB N ⟨b,i,h⟩) (fun r=>0≤r.2.i):=by
  obtain ⟨x,i',h',e,a1⟩:=IA (N:=N) (c:=⟨b,i,h⟩) ⟨hb,hi⟩
  exact ⟨_,e,a1⟩
theorem Cj {N:Nat} (hN:im≤N) {b:List U8} {i h:Int} (hb:b.length≤1048576) (hi:0≤i):WD (sk N ⟨b,i,h⟩) (fun r=>0≤r.2.i∧r.1.levels.length≤5):=by
  obtain ⟨x,i',h',e,a1,a2⟩:=D4 (N:=N) hN (c:=⟨b,i,h⟩) ⟨hb,hi⟩
  exact ⟨_,e,a1,a2⟩
theorem sQ {l:jf} (h:jH l=true):l.levels.length=4:=by
  unfold jH at h
  simp only [Bool.and_eq_true,beq_iff_eq] at h
  omega
theorem De {N:Nat} (hN:im≤N) {b:List U8} {i h:Int} (hb:b.length≤1048576) (hi:0≤i):WD (pO N ⟨b,i,h⟩) (fun r=>0≤r.2.i∧Al r.1=true∧kT r.1≤100∧(0≤r.1.j0.bh∧r.1.j0.bh≤1000)∧(0≤r.1.j0.ig∧r.1.j0.ig≤1000)∧(0≤r.1.j0.iB∧r.1.j0.iB≤1000)):=by
  unfold pO
  dsimp only
  refine WD.bind (BI hN hb hi) fun l ⟨l1,l2⟩=>WD.bind (iS hb l1 25 (by decide)) fun x ⟨x1,x2,x3⟩=>WD.bind (iS hb x1 900 (by decide)) fun y ⟨y1,y2,y3⟩=>WD.bind (iS hb y1 60 (by decide)) fun z ⟨z1,z2,z3⟩=>WD.ret ⟨z1,?_,?_,⟨by dsimp only;omega,by dsimp only;omega⟩,⟨by dsimp only;omega,by dsimp only;omega⟩,⟨by dsimp only;omega,by dsimp only;omega⟩⟩
  · unfold Al jl vF
    simp only [Bool.and_eq_true,jE]
    exact ⟨⟨by omega,by omega,by omega⟩,l2,rfl⟩
  · have:=sQ l2
    unfold kT lQ
    simp only [List.length_nil]
    omega
theorem CT {N:Nat} {b:List U8} {i h:Int} (hb:b.length≤1048576) (hi:0≤i):WD (sv N ⟨b,i,h⟩) (fun r=>0≤r.2.i∧jl r.1=true):=by
  unfold sv
  dsimp only
  refine WD.bind (iS hb hi 40 (by decide)) fun x ⟨x1,x2,x3⟩=>WD.bind (iS hb x1 400 (by decide)) fun y ⟨y1,y2,y3⟩=>WD.bind (iS hb y1 60 (by decide)) fun z ⟨z1,z2,z3⟩=>WD.ret ⟨z1,?_⟩
  unfold jl vF
  simp only [Bool.and_eq_true,jE]
  omega
theorem C8 {N:Nat} (hN:im≤N) {b:List U8} {i h:Int} (hb:b.length≤1048576) (hi:0≤i):WD (qQ N ⟨b,i,h⟩) (fun r=>0≤r.2.i∧r.1.length=5):=by
  unfold qQ
  dsimp only
  refine WD.bind (CT hb hi) fun y ⟨h1,h2⟩=>WD.step (z4 _ _) ?_
  rw [if_pos h2]
  refine WD.bind (iS hb h1 7 (by decide)) fun n ⟨n1,n2,n3⟩=>?_
  refine WD.bind (WD.loop (fun s=>s.1.length=5∧0≤s.2.1∧s.2.1≤6∧0≤s.2.2.1) (fun r=>r.1.length=5∧0≤r.2.2.1) (fun s=>s.2.1.toNat) ⟨rfl,n2,by dsimp only;omega,n1⟩ (re hN (by dsimp only;omega)) ?_) fun r ⟨r1,r2⟩=>WD.ret ⟨r2,r1⟩
  rintro ⟨t,k,i,h⟩ ⟨s1,s2,s3,s4⟩
  dsimp only at *
  refine WD.ite (fun c=>?_) (fun c=>WD.inr ⟨s1,s4⟩)
  have c:=of_decide_eq_true c
  have hB:(16777216:Nat)=im:=rfl
  rw [i9 (n:=k - 1) (by omega) (by omega)]
  refine WD.bind (iS hb s4 5 (by decide)) fun y ⟨y1,y2,y3⟩=>WD.bind (k9 hb y1 4) fun z z1=>WD.ite (fun _=>?_) (fun _=>?_)
  · exact WD.step (yu hN (by omega) _) (WD.inl ⟨by dsimp only;rw [wU];exact s1,by dsimp only;omega,by dsimp only;omega,z1⟩ (by dsimp only;omega))
  · refine WD.bind (iS hb z1 8 (by decide)) fun u ⟨u1,_,_⟩=>WD.bind (iS hb u1 50 (by decide)) fun v ⟨v1,_,_⟩=>WD.bind (iS hb v1 9 (by decide)) fun w ⟨w1,_,_⟩=>?_
    exact WD.step (xG hN (by omega) _ _) (WD.inl ⟨by dsimp only;rw [wz];exact s1,by dsimp only;omega,by dsimp only;omega,w1⟩ (by dsimp only;omega))
theorem D5 {N:Nat} (hN:im≤N) {b:List U8} {i h:Int} (hb:b.length≤1048576) (hi:0≤i):WD (tL N ⟨b,i,h⟩) (fun r=>0≤r.2.i∧r.1.length≤5):=by
  unfold tL
  dsimp only
  refine WD.bind (C8 hN hb hi) fun t ⟨t1,t2⟩=>WD.bind (iS hb t1 _ (by omega)) fun k ⟨k1,k2,k3⟩=>WD.bind (iS hb k1 20 (by decide)) fun m ⟨m1,_,_⟩=>?_
  refine WD.ite (fun _=>WD.bind (EE k2 (by omega)) fun r ⟨r1,_⟩=>WD.ret ⟨m1,by dsimp only;omega⟩) fun _=>?_
  refine WD.ite (fun _=>WD.bind (iS hb m1 7 (by decide)) fun y ⟨y1,_,_⟩=>WD.bind (kI k2 k3) fun z _=>WD.step rfl (WD.ret ⟨y1,by simp only [List.length_set];omega⟩)) fun _=>?_
  refine WD.ite (fun _=>WD.bind (kI k2 k3) fun z _=>WD.step rfl (WD.ret ⟨m1,by simp only [List.length_set];omega⟩)) fun _=>?_
  exact WD.ite (fun _=>WD.bind (kO hb m1 (by decide)) fun y ⟨y1,_⟩=>WD.bind (kI k2 k3) fun z _=>WD.step rfl (WD.ret ⟨y1,by simp only [List.length_set];omega⟩)) fun _=>WD.ret ⟨m1,by dsimp only;omega⟩
theorem EI {N:Nat} {b:List U8} {i h:Int} (hb:b.length≤1048576) (hi:0≤i):WD (sj N ⟨b,i,h⟩) (fun r=>0≤r.2.i):=by
  unfold sj
  dsimp only
  refine WD.bind (iS hb hi 5 (by decide)) fun a ⟨a1,_,_⟩=>WD.bind (iS hb a1 3 (by decide)) fun b ⟨b1,_,_⟩=>WD.bind (iS hb b1 5 (by decide)) fun c ⟨c1,_,_⟩=>WD.bind (iS hb c1 3 (by decide)) fun d ⟨d1,_,_⟩=>WD.bind (iS hb d1 2 (by decide)) fun e ⟨e1,_,_⟩=>WD.bind (iS hb e1 30 (by decide)) fun f ⟨f1,_,_⟩=>WD.bind (iS hb f1 20 (by decide)) fun g ⟨g1,_,_⟩=>WD.bind (P:=fun j=>0≤j.1) ?_ fun j hj=>WD.ret hj
  repeat' first
    | exact WD.ret (by assumption)
    | refine WD.ite (fun _=>?_) (fun _=>?_)
    | refine WD.bind (kO hb (by assumption) (by decide)) fun y ⟨_,_⟩=>?_
theorem GB {N:Nat} {b:List U8} {i h:Int} (hb:b.length≤1048576) (hi:0≤i):WD (tV N ⟨b,i,h⟩) (fun r=>0≤r.2.i):=by
  unfold tV
  dsimp only
  exact WD.bind (k9 hb hi 8) fun y y1=>WD.ite (fun _=>WD.bind (kO hb y1 (by decide)) fun z ⟨z1,_⟩=>WD.ret z1) fun _=>WD.bind (iS hb y1 400 (by decide)) fun z ⟨z1,_,_⟩=>WD.ret z1
def Ob (o:cd):Prop:=mR o∧iD o≤12
theorem GX {N:Nat} (hN:im≤N) {b:List U8} {i h:Int} (hb:b.length≤1048576) (hi:0≤i) {l:List cd} (hl:l.length≤100):WD (tT N ⟨b,i,h⟩ l) (fun r=>0≤r.2.i∧Ob r.1∧r.1.ij.length=2):=by
  unfold tT
  dsimp only
  refine WD.bind (WD.loop (fun s=>0<s.1.length∧(s.1.length:Int)≤1+2 * s.2∧0≤s.2∧s.2≤(l.length:Int)) (fun r=>0<r.1.length) (fun s=>((l.length:Int) - s.2).toNat) ⟨by decide,by decide,by decide,by dsimp only;omega⟩ (re hN (by dsimp only;omega)) ?_) fun o o1=>?_
  · rintro ⟨t,k⟩ ⟨s1,s2,s3,s4⟩
    dsimp only at *
    refine WD.ite (fun c=>?_) (fun c=>WD.inr s1)
    have c:=of_decide_eq_true c
    rw [i9 (n:=k+1) (by omega) (by omega)]
    have hB:(16777216:Nat)=im:=rfl
    refine WD.bind (kI s3 c) fun y _=>WD.ite (fun _=>?_) fun _=>WD.inl ⟨s1,by dsimp only;omega,by dsimp only;omega,by dsimp only;omega⟩ (by dsimp only;omega)
    have e:app t ([k,k]:List Int)=some (t++[k,k]):=by
      unfold app
      rw [if_pos (by simp only [List.length_cons,List.length_nil];omega)]
    exact WD.step e (WD.inl ⟨by simp,by simp only [List.length_append,List.length_cons,List.length_nil];omega,by dsimp only;omega,by dsimp only;omega⟩ (by dsimp only;omega))
  refine WD.bind (iS hb hi 4 (by decide)) fun k ⟨k1,k2,k3⟩=>WD.bind (kO hb k1 o1) fun x ⟨x1,_⟩=>WD.bind (iS hb x1 5 (by decide)) fun y ⟨y1,_,_⟩=>WD.bind (iS hb y1 30 (by decide)) fun z ⟨z1,_,_⟩=>WD.bind (iS hb z1 4 (by decide)) fun p ⟨p1,p2,p3⟩=>WD.bind (k9 hb p1 3) fun m m1=>?_
  refine WD.bind (WD.loop (fun s=>s.1.length=2∧0≤s.2.1∧s.2.1≤2∧0≤s.2.2.1) (fun r=>r.1.length=2∧0≤r.2.2.1) (fun s=>(2 - s.2.1).toNat) ⟨rfl,by simp,by simp,m1⟩ (re hN (by simp)) ?_) fun q ⟨q1,q2⟩=>?_
  · rintro ⟨t,k,i,h⟩ ⟨s1,s2,s3,s4⟩
    dsimp only at *
    refine WD.ite (fun c=>?_) (fun c=>WD.inr ⟨s1,s4⟩)
    have c:=of_decide_eq_true c
    rw [i9 (n:=k+1) (by omega) (by omega)]
    refine WD.bind (k9 hb s4 3) fun y y1=>WD.ite (fun _=>?_) fun _=>WD.inl ⟨s1,by dsimp only;omega,by dsimp only;omega,y1⟩ (by dsimp only;omega)
    refine WD.bind (kO hb y1 o1) fun z ⟨z1,_⟩=>WD.bind (kI s2 (by omega)) fun w _=>WD.step rfl (WD.inl ⟨by simp only [List.length_set];exact s1,by dsimp only;omega,by dsimp only;omega,z1⟩ (by dsimp only;omega))
  refine WD.bind (P:=fun j=>0≤j.1∧0≤j.2.2.1∧j.2.2.2.2.2.1.length≤3∧j.2.2.2.2.2.2.length≤2) ?_ fun j ⟨j1,j2,j3,j4⟩=>WD.ret ⟨j1,⟨?_,?_⟩,q1⟩
  · refine WD.ite (fun _=>?_) fun _=>WD.ite (fun _=>?_) fun _=>WD.ite (fun _=>?_) fun _=>WD.ret ⟨q2,by simp,by simp,by simp⟩
    · refine WD.bind (WD.loop (fun s=>0≤s.1∧s.1≤p.1∧0≤s.2.1∧(s.2.2.2.length:Int)≤s.1) (fun r=>0≤r.2.1∧r.2.2.2.length≤3) (fun s=>(p.1 - s.1).toNat) ⟨by simp,p2,q2,by simp⟩ (re hN (by dsimp only;omega)) ?_) fun r ⟨r1,r2⟩=>WD.ret ⟨r1,by simp,r2,by simp⟩
      rintro ⟨k,i,h,t⟩ ⟨s1,s2,s3,s4⟩
      dsimp only at *
      refine WD.ite (fun c=>?_) (fun c=>WD.inr ⟨s3,by dsimp only;omega⟩)
      have c:=of_decide_eq_true c
      rw [i9 (n:=k+1) (by omega) (by omega)]
      exact WD.bind (iS hb s3 100 (by decide)) fun y ⟨y1,_,_⟩=>WD.step (tZ (by omega)) (WD.inl ⟨by dsimp only;omega,by dsimp only;omega,y1,by simp only [List.length_append,List.length_cons,List.length_nil];omega⟩ (by dsimp only;omega))
    · refine WD.bind (iS hb q2 3 (by decide)) fun n ⟨n1,n2,n3⟩=>?_
      refine WD.bind (WD.loop (fun s=>0≤s.1∧0≤s.2.1∧(s.2.2.2.length:Int)+s.1≤2) (fun r=>0≤r.2.1∧r.2.2.2.length≤2) (fun s=>s.1.toNat) ⟨n2,n1,by simp only [List.length_nil];omega⟩ (re hN (by dsimp only;omega)) ?_) fun r ⟨r1,r2⟩=>WD.ret ⟨r1,by simp,by simp,r2⟩
      rintro ⟨k,i,h,t⟩ ⟨s1,s3,s4⟩
      dsimp only at *
      refine WD.ite (fun c=>?_) (fun c=>WD.inr ⟨s3,by dsimp only;omega⟩)
      have c:=of_decide_eq_true c
      rw [i9 (n:=k - 1) (by omega) (by omega)]
      exact WD.bind (kO hb s3 (by decide)) fun z ⟨z1,_⟩=>WD.bind (iS hb z1 50 (by decide)) fun y ⟨y1,_,_⟩=>WD.step (tZ (by omega)) (WD.inl ⟨by dsimp only;omega,y1,by simp only [List.length_append,List.length_cons,List.length_nil];omega⟩ (by dsimp only;omega))
    · refine WD.bind (kO hb q2 (by decide)) fun w ⟨w1,w2⟩=>WD.bind (iS hb w1 9 (by decide)) fun y ⟨y1,_,_⟩=>WD.bind (iS hb y1 5 (by decide)) fun z ⟨z1,_,_⟩=>WD.ret ⟨z1,?_,by simp,by simp⟩
      have:∀ x ∈ ([0,0,7,34]:List Int),0≤x:=by decide
      exact this _ w2
  · unfold mR;dsimp only;omega
  · unfold iD;dsimp only;omega
structure Aq (l:List cd):Prop where
  len:l.length=10
  ob:∀ o,o ∈ l→Ob o∧(o.kind ≠ 0→o.ij.length=2)
theorem Aq.w {l:List cd} (h:Aq l):wA l:=fun o ho=>(h.ob o ho).1.1
theorem Aq.sz {l:List cd} (h:Aq l):jo iD l≤130:=by
  have:=uu (f:=iD) (c:=12) fun y hy=>(h.ob y hy).1.2
  have:=h.len
  unfold jo
  omega
theorem Aq.mq {l:List cd} (h:Aq l):jo iD l<im:=by
  have:=h.sz
  have:(16777216:Nat)=im:=rfl
  omega
theorem Aq.set {l:List cd} (h:Aq l) {o:cd} (k:Nat) (h1:Ob o) (h2:o.kind ≠ 0→o.ij.length=2):Aq (l.set k o):=by
  refine ⟨by rw [List.length_set];exact h.len,fun y hy=>?_⟩
  rcases List.mem_or_eq_of_mem_set hy with q | rfl
  · exact h.ob y q
  · exact ⟨h1,h2⟩
theorem Aq.new:Aq qg:=by
  refine ⟨rfl,fun o ho=>?_⟩
  have h:∀ o ∈ qg, -9223372036854775808≤o.wait∧iD o≤12∧(o.kind ≠ 0→o.ij.length=2):=by decide
  obtain ⟨a,b,c⟩:=h o ho
  exact ⟨⟨a,b⟩,c⟩
theorem Aq.free {l:List cd} (h:Aq l) (i:Int):Aq (mA l i).1:=by
  unfold mA
  split
  · have h1:=h.set (o:=blank (nth l i).gen) i.toNat ⟨CY _,by show (0:Nat)≤12;decide⟩ (fun h=>absurd rfl h)
    refine ⟨by simp only [List.length_map];exact h1.len,fun y hy=>?_⟩
    obtain ⟨o,ho,rfl⟩:=List.mem_map.1 hy
    obtain ⟨⟨a,b⟩,c⟩:=h1.ob o ho
    refine ⟨⟨Gx a,by rw [EB];exact b⟩,?_⟩
    unfold yU
    split
    · exact c
    · simp only [List.length_map];exact c
  · exact h
theorem Fm (l:List cd) (o:cd) (k:Nat) (x:cd):(putAt l o k x).1=l∨∃ (j:Nat) (g:Int),(putAt l o k x).1=l.set j (kt o g):=by
  unfold putAt
  split
  · exact .inr ⟨_,_,rfl⟩
  · exact .inl rfl
theorem zW (l:List cd) (o:cd):∀ (m:List cd) (k:Nat),(rV l o k m).1=l∨∃ (j:Nat) (g:Int),(rV l o k m).1=l.set j (kt o g)
  | [],_=>.inl rfl
  | x::m,k=>by
    unfold rV
    split
    · exact zW l o m (k+1)
    · exact Fm l o k x
theorem Hm (l:List cd) (o:cd):(kq l o).1=l∨∃ (j:Nat) (g:Int),(kq l o).1=l.set j (kt o g):=by
  unfold kq
  split
  · exact zW l o _ _
  · exact .inl rfl
theorem Aq.put {l:List cd} (h:Aq l) {o:cd} (h1:Ob o) (h2:o.ij.length=2):Aq (kq l o).1:=by
  rcases Hm l o with e | ⟨j,g,e⟩
  · rw [e];exact h
  · rw [e];exact h.set j ⟨vZ h1.1,h1.2⟩ fun _=>h2
theorem A3 {N:Nat} (hN:im≤N) {b:List U8} {i h:Int} (hb:b.length≤1048576) (hi:0≤i):WD (pC N ⟨b,i,h⟩) (fun r=>0≤r.2.i∧Aq r.1):=by
  unfold pC
  dsimp only
  refine WD.step (yp _) (WD.bind (iS hb hi 14 (by decide)) fun n ⟨n1,n2,n3⟩=>?_)
  refine WD.bind (WD.loop (fun s=>Aq s.1∧0≤s.2.1∧s.2.1≤13∧0≤s.2.2.1) (fun r=>Aq r.1∧0≤r.2.2.1) (fun s=>s.2.1.toNat) ⟨Aq.new,n2,by dsimp only;omega,n1⟩ (re hN (by dsimp only;omega)) ?_) fun r ⟨r1,r2⟩=>?_
  · rintro ⟨t,k,i,h⟩ ⟨s1,s2,s3,s4⟩
    dsimp only at *
    refine WD.ite (fun c=>?_) (fun c=>WD.inr ⟨s1,s4⟩)
    have c:=of_decide_eq_true c
    rw [i9 (n:=k - 1) (by omega) (by omega)]
    refine WD.bind (k9 hb s4 5) fun y y1=>WD.ite (fun _=>?_) fun _=>?_
    · exact WD.bind (iS hb y1 10 (by decide)) fun z ⟨z1,_,_⟩=>WD.step (xN hN s1.mq s1.w _) (WD.inl ⟨s1.free _,by dsimp only;omega,by dsimp only;omega,z1⟩ (by dsimp only;omega))
    · refine WD.bind (GX hN hb y1 (by rw [s1.len];decide)) fun o ⟨o1,o2,o3⟩=>?_
      exact WD.step (wc hN s1.mq s1.w (by have:=o2.2;omega) o2.1) (WD.inl ⟨s1.put o2 o3,by dsimp only;omega,by dsimp only;omega,o1⟩ (by dsimp only;omega))
  refine WD.bind (WD.loop (fun s=>Aq s.1∧0≤s.2.1∧s.2.1≤10∧0≤s.2.2.1) (fun r=>Aq r.1∧0≤r.2.2.1) (fun s=>(10 - s.2.1).toNat) ⟨r1,by simp,by simp,r2⟩ (re hN (by simp)) ?_) fun q ⟨q1,q2⟩=>WD.ret ⟨q2,q1⟩
  rintro ⟨t,k,i,h⟩ ⟨s1,s2,s3,s4⟩
  dsimp only at *
  have hl:=s1.len
  refine WD.ite (fun c=>?_) (fun c=>WD.inr ⟨s1,s4⟩)
  have c:=of_decide_eq_true c
  have e:IntKind.i64.wrap (k+1)=k+1:=i9 (by omega) (by omega)
  rw [e]
  refine WD.bind (P:=fun j=>0≤j.2.1∧(j.1=true→(nth t k).kind ≠ 0)) ?_ fun j ⟨j1,j2⟩=>WD.ite (fun cj=>?_) fun _=>WD.inl ⟨s1,by dsimp only;omega,by dsimp only;omega,j1⟩ (by dsimp only;omega)
  · refine WD.step (jy s2 c) (WD.ite (fun ck=>WD.bind (k9 hb s4 4) fun y y1=>WD.ret ⟨y1,fun _=>by simpa using ck⟩) fun _=>WD.ret ⟨s4,by simp⟩)
  · have hk:=j2 cj
    obtain ⟨⟨w1,w2⟩,w3⟩:=s1.ob _ (pI s2 c)
    have w3:=w3 hk
    refine WD.bind (iS hb j1 _ (by omega)) fun y ⟨y1,y2,y3⟩=>WD.bind (kI y2 y3) fun z _=>WD.ite (fun _=>?_) fun _=>WD.inl ⟨s1,by dsimp only;omega,by dsimp only;omega,y1⟩ (by dsimp only;omega)
    refine WD.step (jy s2 c) (WD.bind (iS hb y1 2 (by decide)) fun v ⟨v1,v2,v3⟩=>WD.bind (kI v2 (by omega)) fun u _=>WD.step rfl (WD.inl ⟨s1.set _ ⟨w1,?_⟩ fun _=>?_,by dsimp only;omega,by dsimp only;omega,v1⟩ (by dsimp only;omega)))
    · unfold iD at *
      simp only [List.length_set]
      exact w2
    · simp only [List.length_set];exact w3
structure Aw (l:List cd):Prop where
  w:wA l
  sz:jo iD l≤200
theorem Aq.aw {l:List cd} (h:Aq l):Aw l:=⟨h.w,Nat.le_trans h.sz (by decide)⟩
theorem Aq.zz {l:List cd} (h:Aq l) {o:cd} (k:Nat) (h1:mR o) (h2:iD o≤20):Aw (l.set k o):=⟨kN h.w h1,Nat.le_trans xy (by have:=h.sz;omega)⟩
theorem Cy {N:Nat} (hN:im≤N) {b:List U8} {i h:Int} (hb:b.length≤1048576) (hi:0≤i):WD (tR N ⟨b,i,h⟩) (fun r=>0≤r.2.i∧Aw r.1):=by
  unfold tR
  dsimp only
  refine WD.bind (A3 hN hb hi) fun l ⟨l1,l2⟩=>?_
  have hl:=l2.len
  refine WD.bind (iS hb l1 _ (by omega)) fun k ⟨k1,k2,k3⟩=>WD.bind (iS hb k1 24 (by decide)) fun m ⟨m1,_,_⟩=>?_
  have hw:∀ y ∈ l.1,mR y∧iD y≤12:=fun y hy=>(l2.ob y hy).1
  refine WD.ite (fun _=>WD.bind (EE k2 (by omega)) fun r ⟨r1,r2⟩=>WD.ret ⟨m1,?_,?_⟩) fun _=>?_
  · exact fun o ho=>l2.w o (r2 o ho)
  · have:=uu (f:=iD) (c:=12) (l:=r) fun y hy=>(hw y (r2 y hy)).2
    unfold jo
    dsimp only
    omega
  refine WD.ite (fun _=>WD.bind (kO hb m1 (by decide)) fun y ⟨y1,_⟩=>WD.bind (kI k2 k3) fun z hz=>WD.step rfl (WD.ret ⟨y1,l2.zz _ (hw z hz).1 (Nat.le_trans (hw z hz).2 (by decide))⟩)) fun _=>?_
  refine WD.ite (fun _=>WD.bind (iS hb m1 6 (by decide)) fun y ⟨y1,_,_⟩=>WD.bind (kI k2 k3) fun z hz=>WD.step rfl (WD.ret ⟨y1,l2.zz _ (hw z hz).1 (Nat.le_trans (hw z hz).2 (by decide))⟩)) fun _=>?_
  refine WD.ite (fun _=>WD.bind (kO hb m1 (by decide)) fun y ⟨y1,_⟩=>WD.bind (kI k2 k3) fun z hz=>WD.step rfl (WD.ret ⟨y1,l2.zz _ (hw z hz).1 (Nat.le_trans (hw z hz).2 (by decide))⟩)) fun _=>?_
  refine WD.ite (fun _=>WD.bind (kI k2 k3) fun z hz=>?_) fun _=>?_
  · have h2:=(hw z hz).2
    have h3:z.ij.length≤12:=by unfold iD at h2;omega
    refine WD.step (tZ (by omega)) (WD.ret ⟨m1,l2.zz _ (hw z hz).1 ?_⟩)
    unfold iD at *
    simp only [List.length_append,List.length_cons,List.length_nil]
    omega
  refine WD.ite (fun _=>WD.bind (kO hb m1 (by decide)) fun y ⟨y1,_⟩=>WD.bind (kI k2 k3) fun z hz=>WD.step rfl (WD.ret ⟨y1,l2.zz _ (hw z hz).1 (Nat.le_trans (hw z hz).2 (by decide))⟩)) fun _=>?_
  refine WD.ite (fun _=>WD.bind (kO hb m1 (by decide)) fun y ⟨y1,y2⟩=>WD.bind (kI k2 k3) fun z hz=>WD.step rfl (WD.ret ⟨y1,l2.zz _ ?_ (Nat.le_trans (hw z hz).2 (by decide))⟩)) fun _=>WD.ret ⟨m1,l2.aw⟩
  have:∀ x ∈ ([-1,30000,30001,1]:List Int), -9223372036854775808≤x:=by decide
  exact this _ y2
structure Hw (h:ir) (n:Nat):Prop where
  a:Aw h.ag
  g:h.gc.ia.length≤n
theorem Hw.step {h:ir} {n:Nat} (q:Hw h n) (now:Int):Hw (mS h now).1 (n+10):=by
  obtain ⟨a,b,c,_⟩:=yW q.a.w now
  exact ⟨⟨b,Nat.le_trans a q.a.sz⟩,by have:=q.g;omega⟩
theorem Hw.run {N:Nat} (hN:im≤N) {h:ir} {n:Nat} (q:Hw h n) (hn:n≤100000) (now:Int):nL N h now=some (mS h now):=by
  have h1:=q.a.sz
  have h2:=q.g
  have:(16777216:Nat)=im:=rfl
  exact Bc hN (by omega) q.a.w (by omega) now
theorem Dg {N:Nat} (hN:im≤N) {b:List U8} {i h:Int} (hb:b.length≤1048576) (hi:0≤i):WD (pz N ⟨b,i,h⟩) (fun r=>0≤r.2.i∧Hw r.1 500):=by
  unfold pz
  dsimp only
  refine WD.bind (A3 hN hb hi) fun l ⟨l1,l2⟩=>WD.step (show sA N=some (jr.mk 0 0 0 [0]) from rfl) ?_
  have hB:(16777216:Nat)=im:=rfl
  refine WD.bind (WD.loop (fun s=>Aq s.1∧0≤s.2∧s.2≤10) (fun r=>Aq r.1) (fun s=>(10 - s.2).toNat) ⟨l2,by simp,by simp⟩ (re hN (by simp)) ?_) fun r r1=>?_
  · rintro ⟨t,k⟩ ⟨s1,s2,s3⟩
    dsimp only at *
    have hl:=s1.len
    refine WD.ite (fun c=>?_) (fun c=>WD.inr s1)
    have c:=of_decide_eq_true c
    rw [i9 (n:=k+1) (by omega) (by omega)]
    exact WD.bind (kI s2 c) fun z hz=>WD.step rfl (WD.inl ⟨s1.set _ (s1.ob z hz).1 (s1.ob z hz).2,by dsimp only;omega,by dsimp only;omega⟩ (by dsimp only;omega))
  refine WD.bind (iS hb l1 40 (by decide)) fun n ⟨n1,n2,n3⟩=>?_
  refine WD.bind (WD.loop (fun s=>0≤s.1∧s.1≤39∧Hw (ir.mk s.2.1 (jr.mk s.2.2.1 s.2.2.2.1 s.2.2.2.2.1 s.2.2.2.2.2)) (400 - 10 * s.1.toNat)) (fun r=>Hw (ir.mk r.2.1 (jr.mk r.2.2.1 r.2.2.2.1 r.2.2.2.2.1 r.2.2.2.2.2)) 400) (fun s=>s.1.toNat) ⟨n2,by dsimp only;omega,r1.aw,?_⟩ (re hN (by dsimp only;omega)) ?_) fun q q1=>WD.ret ⟨n1,q1.a,Nat.le_trans q1.g (by decide)⟩
  · show (1:Nat)≤_
    dsimp only
    omega
  rintro ⟨k,l,a,c,d,g⟩ ⟨s1,s2,s3⟩
  dsimp only at *
  refine WD.ite (fun c=>?_) (fun c=>WD.inr ⟨s3.a,Nat.le_trans s3.g (by omega)⟩)
  have c:=of_decide_eq_true c
  rw [i9 (n:=k - 1) (by omega) (by omega)]
  refine WD.step (s3.run hN (by omega) 3) (WD.inl ⟨by dsimp only;omega,by dsimp only;omega,?_⟩ (by dsimp only;omega))
  have h2:=s3.step 3
  exact ⟨h2.a,Nat.le_trans h2.g (by dsimp only;omega)⟩
theorem Dw {N:Nat} (hN:im≤N) {b:List U8} {i h:Int} (hb:b.length≤1048576) (hi:0≤i):WD (sI N ⟨b,i,h⟩) (fun r=>0≤r.2.i∧Hw r.1 600):=by
  unfold sI
  dsimp only
  refine WD.bind (Dg hN hb hi) fun l ⟨l1,l2⟩=>WD.bind (iS hb l1 16 (by decide)) fun m ⟨m1,_,_⟩=>?_
  have g:=l2.g
  refine WD.bind (P:=fun j=>0≤j.2.1∧Aw j.2.2.2.1∧j.1.length≤600) ?_ fun j ⟨j1,j2,j3⟩=>WD.ret ⟨j1,j2,j3⟩
  refine WD.ite (fun _=>WD.bind (Cy hN hb m1) fun y ⟨y1,y2⟩=>WD.ret ⟨y1,y2,by dsimp only;omega⟩) fun _=>?_
  refine WD.ite (fun _=>WD.bind (iS hb m1 12 (by decide)) fun y ⟨y1,_,_⟩=>WD.ret ⟨y1,l2.a,by dsimp only;omega⟩) fun _=>?_
  refine WD.ite (fun _=>WD.bind (iS hb m1 12 (by decide)) fun y ⟨y1,_,_⟩=>WD.step (tZ (by omega)) (WD.ret ⟨y1,l2.a,by simp only [List.length_append,List.length_cons,List.length_nil];omega⟩)) fun _=>?_
  refine WD.ite (fun _=>WD.bind (iS hb m1 4 (by decide)) fun y ⟨y1,_,_⟩=>WD.ret ⟨y1,l2.a,by dsimp only;omega⟩) fun _=>?_
  exact WD.ite (fun _=>WD.bind (kO hb m1 (by decide)) fun y ⟨y1,_⟩=>WD.ret ⟨y1,l2.a,by dsimp only;omega⟩) fun _=>WD.ret ⟨m1,l2.a,by dsimp only;omega⟩
def Pw (p:hZ):Prop:=jd p≤20000∧wP p
theorem Ir {p:hZ} (h1:p.label.levels.length≤5) (h2:p.own.length≤5) (h3:p.tree.length≤5) (h4:Hw p.heap 600) (h5:p.ic.length≤4):Pw p:=by
  refine ⟨?_,h4.a.w⟩
  have:=h4.a.sz
  have:=h4.g
  unfold jd oW tY lQ
  omega
structure Pq (p:hZ):Prop where
  la:p.label.levels.length≤5
  ow:p.own.length≤5
  tr:p.tree.length≤5
  hp:Hw p.heap 600
  ta:p.ic.length≤4
theorem Pq.pw {p:hZ} (h:Pq p):Pw p:=Ir h.la h.ow h.tr h.hp h.ta
theorem GY {N:Nat} (hN:im≤N) {b:List U8} {i h:Int} (hb:b.length≤1048576) (hi:0≤i):WD (rm N ⟨b,i,h⟩) (fun r=>0≤r.2.i∧Pq r.1):=by
  unfold rm
  dsimp only
  refine WD.bind (BI hN hb hi) fun l ⟨l1,l2⟩=>WD.bind (C8 hN hb l1) fun t ⟨t1,t2⟩=>WD.bind (Dg hN hb t1) fun q ⟨q1,q2⟩=>WD.bind (iS hb q1 10 (by decide)) fun x ⟨x1,_,_⟩=>WD.bind (kO hb x1 (by decide)) fun y ⟨y1,_⟩=>WD.bind (iS hb y1 4 (by decide)) fun z ⟨z1,_,_⟩=>WD.bind (iS hb z1 3 (by decide)) fun u ⟨u1,_,_⟩=>WD.bind (iS hb u1 3 (by decide)) fun n ⟨n1,n2,n3⟩=>?_
  refine WD.bind (WD.loop (fun s=>0≤s.1∧0≤s.2.1∧(s.2.2.2.length:Int)+s.1≤2) (fun r=>0≤r.2.1∧r.2.2.2.length≤2) (fun s=>s.1.toNat) ⟨n2,n1,by simp only [List.length_nil];omega⟩ (re hN (by dsimp only;omega)) ?_) fun r ⟨r1,r2⟩=>?_
  · rintro ⟨k,i,h,t⟩ ⟨s1,s3,s4⟩
    dsimp only at *
    refine WD.ite (fun c=>?_) (fun c=>WD.inr ⟨s3,by dsimp only;omega⟩)
    have c:=of_decide_eq_true c
    rw [i9 (n:=k - 1) (by omega) (by omega)]
    exact WD.bind (EI hb s3) fun z z1=>WD.step (zF _ _) (WD.ite (fun _=>WD.step (tZ (by omega)) (WD.inl ⟨by dsimp only;omega,z1,by simp only [List.length_append,List.length_cons,List.length_nil];omega⟩ (by dsimp only;omega))) fun _=>WD.inl ⟨by dsimp only;omega,z1,by dsimp only;omega⟩ (by dsimp only;omega))
  · exact WD.bind (CT hb r1) fun a ⟨a1,_⟩=>WD.ret ⟨a1,by have:=sQ l2;dsimp only;omega,by simp,by dsimp only;omega,⟨q2.a,Nat.le_trans q2.g (by decide)⟩,by dsimp only;omega⟩
theorem DY {N:Nat} (hN:im≤N) {b:List U8} {i h:Int} (hb:b.length≤1048576) (hi:0≤i):WD (sL N ⟨b,i,h⟩) (fun r=>0≤r.2.i∧Pq r.1):=by
  unfold sL
  dsimp only
  refine WD.bind (GY hN hb hi) fun p ⟨p1,p2⟩=>WD.bind (iS hb p1 20 (by decide)) fun m ⟨m1,_,_⟩=>?_
  obtain ⟨la,ow,tr,hp,ta⟩:=p2
  refine WD.bind (P:=fun j=>0≤j.2.1∧j.1.length≤4∧j.2.2.2.1.length≤5∧j.2.2.2.2.1.length≤5∧j.2.2.2.2.2.1.length≤5∧Hw (ir.mk j.2.2.2.2.2.2.1 (jr.mk j.2.2.2.2.2.2.2.1 j.2.2.2.2.2.2.2.2.1 j.2.2.2.2.2.2.2.2.2.1 j.2.2.2.2.2.2.2.2.2.2.1)) 600) ?_ fun j ⟨j1,j2,j3,j4,j5,j6⟩=>WD.ret ⟨j1,j3,j4,j5,j6,j2⟩
  refine WD.ite (fun _=>WD.bind (D5 hN hb m1) fun y ⟨y1,y2⟩=>WD.ret ⟨y1,ta,la,ow,y2,hp⟩) fun _=>?_
  refine WD.ite (fun _=>WD.bind (Dw hN hb m1) fun y ⟨y1,y2⟩=>WD.ret ⟨y1,ta,la,ow,tr,y2⟩) fun _=>?_
  refine WD.ite (fun _=>WD.bind (Cj hN hb m1) fun y ⟨y1,y2⟩=>WD.ret ⟨y1,ta,y2,ow,tr,hp⟩) fun _=>?_
  refine WD.ite (fun _=>WD.bind (Ic hN hb m1) fun y ⟨y1,y2⟩=>WD.ret ⟨y1,ta,la,y2,tr,hp⟩) fun _=>?_
  refine WD.ite (fun _=>WD.bind (kO hb m1 (by decide)) fun y ⟨y1,_⟩=>WD.ret ⟨y1,ta,la,ow,tr,hp⟩) fun _=>?_
  refine WD.ite (fun _=>?_) fun _=>?_
  · refine WD.bind (WD.loop (fun s=>s.1.length≤4∧0≤s.2.1) (fun r=>r.1.length≤4∧0≤r.2.1) (fun s=>4 - s.1.length) ⟨ta,m1⟩ (re hN (by dsimp only;omega)) ?_) fun r ⟨r1,r2⟩=>WD.ret ⟨r2,r1,la,ow,tr,hp⟩
    rintro ⟨t,i,h⟩ ⟨s1,s2⟩
    dsimp only at *
    refine WD.ite (fun c=>?_) (fun c=>WD.inr ⟨s1,s2⟩)
    have c:=of_decide_eq_true c
    exact WD.bind (EI hb s2) fun z z1=>WD.step (tZ (by omega)) (WD.inl ⟨by simp only [List.length_append,List.length_cons,List.length_nil];omega,z1⟩ (by simp only [List.length_append,List.length_cons,List.length_nil];omega))
  refine WD.ite (fun _=>WD.bind (kO hb m1 (by decide)) fun y ⟨y1,_⟩=>WD.ret ⟨y1,ta,la,ow,tr,hp⟩) fun _=>?_
  exact WD.ite (fun _=>WD.bind (E6 hb m1) fun y y1=>WD.ret ⟨y1,ta,la,ow,tr,hp⟩) fun _=>WD.ret ⟨m1,ta,la,ow,tr,hp⟩
theorem zI {N:Nat} (hN:im≤N) {b:List U8} {i h:Int} (hb:b.length≤1048576) (hi:0≤i) (p:hZ) (me:Int):WD (lq N ⟨b,i,h⟩ p me) (fun r=>0≤r.2.i):=by
  unfold lq
  dsimp only
  refine WD.bind (P:=fun j=>0≤j.2.1∧(j.1=false→(p.heap.ag.length:Int)=10)) ?_ fun j ⟨hj,hl⟩=>?_
  · refine WD.ite (fun _=>WD.ret ⟨hi,by simp⟩) fun c=>WD.bind (k9 hb hi 15) fun y y1=>WD.ret ⟨y1,fun _=>by simpa using c⟩
  refine WD.ite (fun _=>WD.bind (GB hb hj) fun y y1=>WD.ret y1) fun c=>?_
  have hl:=hl c
  refine WD.bind (iS hb hj 10 (by decide)) fun y ⟨y1,y2,y3⟩=>?_
  refine WD.bind (WD.loop (fun s=>0≤s.1∧s.1<10∧0≤s.2.1∧s.2.1≤4∧0≤s.2.2.1) (fun r=>0≤r.1∧r.1<10∧0≤r.2.2.1) (fun s=>(4 - s.2.1).toNat) ⟨y2,y3,Int.le_refl _,by simp,y1⟩ (re hN (by simp)) ?_) fun r ⟨r1,r2,r3⟩=>?_
  · rintro ⟨k,n,i,h⟩ ⟨s1,s2,s3,s4,s5⟩
    dsimp only at *
    refine WD.bind (P:=fun j=>j=true→n<4) ?_ fun j hj=>WD.ite (fun c=>?_) fun _=>WD.inr ⟨s1,s2,s5⟩
    · refine WD.ite (fun c=>?_) fun _=>WD.ret (by simp)
      exact WD.bind (kI s1 (by omega)) fun y _=>WD.ret fun _=>of_decide_eq_true c
    · have:=hj c
      rw [i9 (n:=n+1) (by omega) (by omega)]
      exact WD.bind (iS hb s5 10 (by decide)) fun y ⟨y1,y2,y3⟩=>WD.inl ⟨y2,y3,by dsimp only;omega,by dsimp only;omega,y1⟩ (by dsimp only;omega)
  · exact WD.bind (kI r1 (by omega)) fun z _=>WD.bind (k9 hb r3 20) fun y y1=>WD.bind (P:=fun _=>True) (WD.ite (fun _=>WD.ret trivial) fun _=>WD.ret trivial) fun j _=>WD.step (ud _ _ _ _) (WD.ret y1)
theorem DW {N:Nat} (hN:im≤N) {b:List U8} {i h:Int} (hb:b.length≤1048576) (hi:0≤i) {p:hZ} (hp:p.heap.ag.length≤1000000) (me k:Int):WD (m5 N ⟨b,i,h⟩ p me k) (fun r=>0≤r.2.i):=by
  unfold m5
  dsimp only
  refine WD.bind (WD.loop (fun s=>0≤s.1∧s.1≤(p.heap.ag.length:Int)∧0≤s.2.1) (fun r=>Sum.elim (fun s=>0≤s.2.1) (fun r=>0≤r.2.i) r) (fun s=>((p.heap.ag.length:Int) - s.1).toNat) ⟨Int.le_refl _,by dsimp only;omega,hi⟩ (re hN (by dsimp only;omega)) ?_) fun r hr=>?_
  · rintro ⟨k,i,h⟩ ⟨s1,s2,s3⟩
    dsimp only at *
    refine WD.ite (fun c=>?_) (fun c=>WD.inr s3)
    have c:=of_decide_eq_true c
    rw [i9 (n:=k+1) (by omega) (by omega)]
    refine WD.bind (P:=fun j=>0≤j.2.1) ?_ fun j hj=>WD.ite (fun _=>?_) fun _=>WD.inl ⟨by dsimp only;omega,by dsimp only;omega,hj⟩ (by dsimp only;omega)
    · exact WD.bind (kI s1 c) fun y _=>WD.ite (fun _=>WD.bind (k9 hb s3 2) fun z z1=>WD.ret z1) fun _=>WD.ret s3
    · exact WD.bind (kI s1 c) fun y _=>WD.step (ud _ _ _ _) (WD.inr hj)
  · cases r with
    | inl s =>
      simp only [Sum.elim_inl] at *
      exact WD.bind (zI hN hb hr _ _) fun y y1=>WD.ret y1
    | inr s =>
      simp only [Sum.elim_inr] at *
      exact WD.ret hr
theorem Dk {N:Nat} (hN:im≤N) {b:List U8} {i h:Int} (hb:b.length≤1048576) (hi:0≤i) {p:hZ} (hp:p.heap.ag.length≤1000000) (me:Int):WD (pt N ⟨b,i,h⟩ p me) (fun r=>0≤r.2.i):=by
  unfold pt
  dsimp only
  refine WD.bind (iS hb hi 17 (by decide)) fun k ⟨k1,_,_⟩=>WD.bind (k9 hb k1 3) fun m m1=>WD.bind (P:=fun _=>True) (WD.ite (fun _=>WD.ret trivial) fun _=>WD.ret trivial) fun j _=>WD.bind (P:=fun j=>0≤j.1) ?_ fun j hj=>WD.bind (iS hb hj 40 (by decide)) fun n ⟨n1,_,_⟩=>WD.bind (P:=fun j=>0≤j.1) ?_ fun j hj=>WD.ret hj
  · repeat' first
      | exact WD.ret (by assumption)
      | exact WD.ret trivial
      | refine WD.ite (fun _=>?_) (fun _=>?_)
      | refine WD.bind (iS hb (by assumption) _ (by decide)) fun y ⟨_,_,_⟩=>?_
      | refine WD.bind (kO hb (by assumption) (by decide)) fun y ⟨_,_⟩=>?_
      | refine WD.bind (zI hN hb (by assumption) _ _) fun y _=>?_
      | refine WD.bind (DW hN hb (by assumption) hp _ _) fun y _=>?_
      | refine WD.bind (P:=fun (_:Bool)=>True) ?_ fun y _=>?_
  · repeat' first
      | exact WD.ret (by assumption)
      | refine WD.ite (fun _=>?_) (fun _=>?_)
      | refine WD.bind (kO hb (by assumption) (by decide)) fun y ⟨_,_⟩=>?_
theorem Cb (l:List cd) (now:Int) (h:ir) (k:Int):(k8 l now h k).ag.length=h.ag.length:=by
  unfold k8 nu
  split
  · rfl
  split
  · simp only [List.length_set]
  · rfl
theorem yV (l:List cd) (now:Int):∀ (e:List Int) (h:ir),(e.foldl (k8 l now) h).ag.length=h.ag.length
  | [],_=>rfl
  | k::e,h=>by
    rw [List.foldl_cons,yV l now e,Cb]
theorem BV (h:ir) (now:Int):(tm h now).ag.length=h.ag.length:=by
  unfold tm
  split
  · rfl
  split
  · rfl
  · rw [yV]
    simp only [List.length_set]
theorem FZ (h:ir) (now:Int):(mS h now).1.ag.length=h.ag.length:=by
  unfold mS
  split
  · split
    · unfold qw
      split
      · simp only [yK,List.length_set,u9]
      · exact u9 h now
    · exact BV h now
  · rfl
structure Lq (p:hZ) (n:Nat):Prop where
  sz:jd p≤n
  w:wP p
  len:p.heap.ag.length=10
theorem Lq.call {p:hZ} {n:Nat} (h:Lq p n) (hn:n≤1000000) (me now th:Int) (c:iL):Lq (mM p me now th c).1 (n+300):=by
  have h0:=h.sz
  obtain ⟨a,b⟩:=GS (p:=p) (by omega) h.w me now th c
  exact ⟨by omega,b,by rw [Fw (by omega) h.w];exact h.len⟩
theorem Gg {p:hZ} {n:Nat} (h:jd p≤n):jo iD p.heap.ag+p.heap.gc.ia.length≤n:=by
  unfold jd oW tY at h
  omega
theorem Lq.step {p:hZ} {n:Nat} (h:Lq p n) (now:Int):Lq (lN p (mS p.heap now).1) (n+10):=by
  obtain ⟨a,b,c,_⟩:=yW (h:=p.heap) h.w now
  refine ⟨?_,b,by show (mS p.heap now).1.ag.length=10;rw [FZ];exact h.len⟩
  have h0:=h.sz
  unfold jd oW tY at *
  show lQ p.label+_≤_
  simp only [lN]
  omega
theorem Lq.run {N:Nat} (hN:im≤N) {p:hZ} {n:Nat} (h:Lq p n) (hn:n≤1000000) (now:Int):nL N p.heap now=some (mS p.heap now):=by
  have h1:=Gg h.sz
  have:(16777216:Nat)=im:=rfl
  exact Bc hN (by omega) h.w (by omega) now
theorem Lq.up {p:hZ} {n m:Nat} (h:Lq p n) (hm:n≤m):Lq p m:=⟨Nat.le_trans h.sz hm,h.w,h.len⟩
theorem Lq.pw {p:hZ} {n:Nat} (h:Lq p n) (hn:n≤20000):Pw p:=⟨Nat.le_trans h.sz hn,h.w⟩
theorem Lq.waits {p:hZ} {n:Nat} (h:Lq p n) {x:Int} (hx:-9223372036854775808≤x):Lq (lN p (ir.mk (p.heap.ag.set (1:Int).toNat (waiting (nth p.heap.ag 1) x)) p.heap.gc)) n:=by
  have hl:=h.len
  have hs:jo iD (p.heap.ag.set (1:Int).toNat (waiting (nth p.heap.ag 1) x))=jo iD p.heap.ag:=nY (by decide) (by rw [hl];decide) rfl
  refine ⟨?_,kN h.w hx,by show (List.set _ _ _).length=10;rw [List.length_set];exact hl⟩
  have h0:=h.sz
  unfold jd oW tY at *
  simp only [lN,hs]
  exact h0
def pS (s:Int×Int×Int×(List Int)×(List Int)×(List iz)×(List cd)×Int×Int×Int×(List Int)×(List je)×Int×Int×Int×Int×Int×Int×Int):hZ:=hZ.mk (jf.mk s.2.2.2.1) s.2.2.2.2.1 s.2.2.2.2.2.1 (ir.mk s.2.2.2.2.2.2.1 (jr.mk s.2.2.2.2.2.2.2.1 s.2.2.2.2.2.2.2.2.1 s.2.2.2.2.2.2.2.2.2.1 s.2.2.2.2.2.2.2.2.2.2.1)) s.2.2.2.2.2.2.2.2.2.2.2.1 s.2.2.2.2.2.2.2.2.2.2.2.2.1 s.2.2.2.2.2.2.2.2.2.2.2.2.2.1 (iC.mk s.2.2.2.2.2.2.2.2.2.2.2.2.2.2.1 s.2.2.2.2.2.2.2.2.2.2.2.2.2.2.2.1 s.2.2.2.2.2.2.2.2.2.2.2.2.2.2.2.2.1) s.2.2.2.2.2.2.2.2.2.2.2.2.2.2.2.2.2.1 s.2.2.2.2.2.2.2.2.2.2.2.2.2.2.2.2.2.2
def pJ (s:(List Int)×(List Int)×(List iz)×(List cd)×Int×Int×Int×(List Int)×(List je)×Int×Int×Int×Int×Int×Int×Int×Int×Int):hZ:=hZ.mk (jf.mk s.1) s.2.1 s.2.2.1 (ir.mk s.2.2.2.1 (jr.mk s.2.2.2.2.1 s.2.2.2.2.2.1 s.2.2.2.2.2.2.1 s.2.2.2.2.2.2.2.1)) s.2.2.2.2.2.2.2.2.1 s.2.2.2.2.2.2.2.2.2.1 s.2.2.2.2.2.2.2.2.2.2.1 (iC.mk s.2.2.2.2.2.2.2.2.2.2.2.1 s.2.2.2.2.2.2.2.2.2.2.2.2.1 s.2.2.2.2.2.2.2.2.2.2.2.2.2.1) s.2.2.2.2.2.2.2.2.2.2.2.2.2.2.1 s.2.2.2.2.2.2.2.2.2.2.2.2.2.2.2.1
theorem HY {b:ka} (h:kT b≤100):Lq (tn b) 120:=by
  refine ⟨by rw [wg];omega,fun o ho=>?_,rfl⟩
  have:∀ o ∈ BD, -9223372036854775808≤o.wait:=by decide
  exact this o ho
theorem G6 {N:Nat} (hN:im≤N) {b:List U8} {i h:Int} (hb:b.length≤1048576) (hi:0≤i) (me:Int):WD (rO N ⟨b,i,h⟩ me) (fun r=>0≤r.2.i∧Lq r.1 8000):=by
  unfold rO
  dsimp only
  refine WD.bind (De hN hb hi) fun q ⟨q1,q2,q3,_⟩=>WD.step (zZ hN (by omega)) ?_
  rw [show pF q.1=(tn q.1,true) from by unfold pF;rw [if_pos q2]]
  refine WD.bind (iS hb q1 25 (by decide)) fun n ⟨n1,n2,n3⟩=>?_
  refine WD.bind (WD.loop (fun s=>0≤s.1∧s.1≤24∧0≤s.2.1∧Lq (pS s) (8000 - 310 * s.1.toNat)) (fun r=>0≤r.2.1∧Lq (pS r) 8000) (fun s=>s.1.toNat) ⟨n2,by dsimp only;omega,n1,(HY q3).up (by dsimp only;omega)⟩ (re hN (by dsimp only;omega)) ?_) fun r ⟨r1,r2⟩=>WD.ret ⟨r1,r2⟩
  rintro ⟨k,i,h,l,o,t,a,ph,po,ro,g,tp,nx,wa,sp,sr,sc,pr,lo⟩ ⟨s1,s2,s3,s4⟩
  dsimp only [pS] at *
  refine WD.ite (fun c=>?_) fun _=>WD.inr ⟨s3,s4.up (by omega)⟩
  have c:=of_decide_eq_true c
  rw [i9 (n:=k - 1) (by omega) (by omega)]
  have ha:a.length=10:=s4.len
  refine WD.bind (P:=fun j=>0≤j.2.2.2.2.2.2.2.2.2.2.2.2.2.2.2.2.1∧Lq (pJ j) (8300 - 310 * k.toNat)) ?_ fun j hj=>?_
  · exact WD.bind (Dk hN hb s3 (by dsimp only;omega) _) fun y y1=>WD.step (y6 hN (Nat.le_trans s4.sz (by omega)) s4.w _ _ _ _) (WD.ret ⟨y1,(s4.call (by omega) _ _ _ _).up (by omega)⟩)
  obtain ⟨l,o,t,a,ph,po,ro,g,tp,nx,wa,sp,sr,sc,pr,lo,i,h⟩:=j
  obtain ⟨j1,j2⟩:=hj
  dsimp only [pJ] at *
  refine WD.bind (k9 hb j1 3) fun y y1=>WD.bind (P:=fun (j:(List cd)×Int×Int×Int×(List Int))=>Lq (hZ.mk (jf.mk l) o t (ir.mk j.1 (jr.mk j.2.1 j.2.2.1 j.2.2.2.1 j.2.2.2.2)) tp nx wa (iC.mk sp sr sc) pr lo) (8310 - 310 * k.toNat)) (WD.ite (fun _=>WD.step (j2.run hN (by omega) 3) (WD.ret ((j2.step 3).up (by omega)))) fun _=>WD.ret (j2.up (by omega))) fun j hj=>?_
  obtain ⟨a,ph,po,ro,g⟩:=j
  dsimp only at *
  have ha:a.length=10:=hj.len
  refine WD.bind (P:=fun j=>0≤j.2.1) ?_ fun m m1=>WD.ite (fun _=>?_) fun _=>WD.inl ⟨by dsimp only;omega,by dsimp only;omega,m1,hj.up (by dsimp only;omega)⟩ (by dsimp only;omega)
  · exact WD.bind (kI (by decide) (by omega)) fun z _=>WD.ite (fun _=>WD.bind (k9 hb y1 2) fun u u1=>WD.ret u1) fun _=>WD.ret y1
  · exact WD.step (jy (by decide) (by omega)) (WD.step rfl (WD.inl ⟨by dsimp only;omega,by dsimp only;omega,m1,(hj.waits (x:=0) (by decide)).up (by dsimp only;omega)⟩ (by dsimp only;omega)))
theorem H9 {N:Nat} (hN:im≤N) {l:List U8} (hl:l.length≤1048576):WD (r9 N l) (fun r=>0≤r.i):=by
  obtain ⟨h,e⟩:=IP hN hl
  exact ⟨_,e,Int.le_refl _⟩
theorem Pw.waits {p:hZ} (h:Pw p) (hl:(p.heap.ag.length:Int)=10) {x:Int} (hx:-9223372036854775808≤x):Pw (lN p (ir.mk (p.heap.ag.set (1:Int).toNat (waiting (nth p.heap.ag 1) x)) p.heap.gc)) :=
  (Lq.waits (n:=20000) ⟨h.1,h.2,by omega⟩ hx).pw (by decide)
end Go.Kx
/- Plain laws: drawn worlds come to an end, and are small. No program in sight. -/
namespace Go.Kx
open Go
set_option linter.unusedVariables false
set_option linter.unusedSimpArgs false
set_option maxRecDepth 10000
structure Bq (b:ka):Prop where
  ok:Al b=true
  sz:kT b≤1000
  pg:0≤b.j0.bh∧b.j0.bh≤1000
  rt:0≤b.j0.ig∧b.j0.ig≤1000
  cp:0≤b.j0.iB∧b.j0.iB≤1000
theorem Bq.JC {l:List Int} {o:List Int} {b:ka} (h:Bq b) (hl:jH ⟨l⟩=true) (ho:lG o=true) (h5:o.length≤100):Bq ⟨⟨l⟩,o,b.j0⟩:=by
  have h4:=sQ hl
  have h4:l.length=4:=h4
  refine ⟨?_,?_,h.pg,h.rt,h.cp⟩
  · have:=h.ok
    unfold Al at *
    simp only [Bool.and_eq_true] at *
    exact ⟨this.1,hl,ho⟩
  · unfold kT lQ
    simp only [h4]
    omega
theorem kD {k:Int} (h0:0≤k) (h4:k<4):lG [k]=true:=by
  have:k=0∨k=1∨k=2∨k=3:=by omega
  rcases this with rfl | rfl | rfl | rfl <;> decide
theorem E4 {l:List Int} (h:jH ⟨l⟩=true) {k:Nat} {y:Int} (h0:0≤y) (h3:y≤3):jH ⟨l.set k y⟩=true:=by
  unfold jH at *
  simp only [Bool.and_eq_true,List.length_set,List.all_eq_true,jE] at *
  refine ⟨h.1,fun z hz=>?_⟩
  rcases List.mem_or_eq_of_mem_set hz with q | rfl
  · exact h.2 z q
  · exact ⟨h0,h3⟩
theorem Gd {l:List Int} (h:jH ⟨l⟩=true) {y:Int} (hy:y ∈ l):0≤y∧y≤3:=by
  unfold jH at h
  simp only [Bool.and_eq_true,List.all_eq_true,jE] at h
  exact h.2 y hy
theorem Gc {N:Nat} (hN:im≤N) {b:List U8} {i h:Int} (hb:b.length≤1048576) (hi:0≤i):WD (rr N ⟨b,i,h⟩) (fun r=>0≤r.2.i∧1≤r.1.length∧r.1.length≤3∧∀ x,x ∈ r.1→Bq x):=by
  unfold rr
  dsimp only
  have hB:(16777216:Nat)=im:=rfl
  refine WD.bind (iS hb hi 3 (by decide)) fun n ⟨n1,n2,n3⟩=>?_
  rw [i9 (n:=1+n.1) (by omega) (by omega)]
  refine WD.bind (WD.loop (fun s=>0≤s.2.1∧(s.1.length:Int)+s.2.1=1+n.1∧0≤s.2.2.1∧jH ⟨s.2.2.2.2⟩=true∧∀ x,x ∈ s.1→Bq x) (fun r=>1≤r.1.length∧r.1.length≤3∧0≤r.2.2.1∧∀ x,x ∈ r.1→Bq x) (fun s=>s.2.1.toNat) ⟨by dsimp only;omega,by simp,n1,show jH ⟨[0,0,0,0]⟩=true by decide,by simp⟩ (re hN (by dsimp only;omega)) ?_) fun r ⟨r1,r2,r3,r4⟩=>WD.ret ⟨r3,r1,r2,r4⟩
  rintro ⟨l,k,i,h,lab⟩ ⟨s1,s2,s3,s4,s5⟩
  dsimp only at *
  refine WD.ite (fun c=>?_) (fun c=>WD.inr ?_)
  · have c:=of_decide_eq_true c
    rw [i9 (n:=k - 1) (by omega) (by omega)]
    refine WD.bind (De hN hb s3) fun q ⟨q1,q2,q3,q4,q5,q6⟩=>?_
    have hq:Bq q.1:=⟨q2,Nat.le_trans q3 (by decide),q4,q5,q6⟩
    have hq2:jH ⟨q.1.label.levels⟩=true∧lG q.1.own=true:=by
      have:=q2
      unfold Al at this
      simp only [Bool.and_eq_true] at this
      exact this.2
    have hlab:lab.length=4:=sQ s4
    refine WD.bind (k9 hb q1 3) fun y y1=>WD.bind (P:=fun (j:(List Int)×(List Int))=>jH ⟨j.2⟩=true) (WD.ite (fun _=>WD.step (jQ (by omega)) (WD.ret s4)) fun _=>WD.ret hq2.1) fun j j1=>?_
    have hj4:j.2.length=4:=sQ j1
    refine WD.bind (k9 hb y1 2) fun z z1=>WD.bind (P:=fun (m:Int×Int×(List Int))=>0≤m.1∧jH ⟨m.2.2⟩=true) (WD.ite (fun _=>?_) fun _=>WD.ret ⟨z1,j1⟩) fun m ⟨m1,m2⟩=>?_
    · refine WD.bind (iS hb z1 4 (by decide)) fun u ⟨u1,u2,u3⟩=>WD.step (jQ (by omega)) (WD.bind (kI u2 (by omega)) fun v hv=>WD.step rfl (WD.ret ⟨u1,?_⟩))
      have:=Gd j1 hv
      rw [i9 (n:=v+1) (by omega) (by omega)]
      exact E4 j1 (by split <;> omega) (by split <;> omega)
    · refine WD.bind (k9 hb m1 6) fun u u1=>WD.bind (P:=fun (m:Int×Int×(List Int))=>0≤m.1∧lG m.2.2=true∧m.2.2.length≤100) (WD.ite (fun _=>WD.bind (iS hb u1 4 (by decide)) fun v ⟨v1,v2,v3⟩=>WD.ret ⟨v1,kD v2 v3,by simp⟩) fun _=>WD.ret ⟨u1,hq2.2,by unfold kT at q3;dsimp only;omega⟩) fun o ⟨o1,o2,o3⟩=>?_
      refine WD.step (tZ (by omega)) (WD.inl ⟨by dsimp only;omega,by simp only [List.length_append,List.length_cons,List.length_nil];omega,o1,m2,fun x hx=>?_⟩ (by dsimp only;omega))
      rcases List.mem_append.1 hx with hx | hx
      · exact s5 x hx
      · rw [List.mem_singleton] at hx
        rw [hx]
        exact hq.JC j1 o2 o3
  · have c:=of_decide_eq_false c
    exact ⟨by dsimp only;omega,by dsimp only;omega,s3,s5⟩
theorem AV:∀ (l:List ka) (a:iC) (n:Nat),(∀ x,x ∈ l→Bq x)→l.length≤n→n≤3→(0≤a.bh∧a.bh≤1000 * (3 - (n:Int)))→(0≤a.ig∧a.ig≤1000 * (3 - (n:Int)))→(0≤a.iB∧a.iB≤1000 * (3 - (n:Int)))→tA a l=true
  | [],_,_,_,_,_,_,_,_=>rfl
  | b::l,a,n,h,hl,hn,h1,h2,h3=>by
    have hb:=h b (by simp)
    have g1:=hb.pg
    have g2:=hb.rt
    have g3:=hb.cp
    simp only [List.length_cons] at hl
    have hadd:kH a b.j0=(⟨a.bh+b.j0.bh,a.ig+b.j0.ig,a.iB+b.j0.iB⟩,true):=by
      have e1:ja a b.j0=⟨a.bh+b.j0.bh,a.ig+b.j0.ig,a.iB+b.j0.iB⟩:=by
        unfold ja
        rw [i9 (by omega) (by omega),i9 (by omega) (by omega),i9 (by omega) (by omega)]
      have o1:jl a=true:=kU.2 ⟨by omega,by omega,by omega⟩
      have o2:jl b.j0=true:=kU.2 ⟨by omega,by omega,by omega⟩
      have o3:jl ⟨a.bh+b.j0.bh,a.ig+b.j0.ig,a.iB+b.j0.iB⟩=true:=kU.2 ⟨by dsimp only;omega,by dsimp only;omega,by dsimp only;omega⟩
      unfold kH
      simp [o1,o2,e1,o3]
    have hok:=hb.ok
    unfold Al at hok
    simp only [Bool.and_eq_true] at hok
    unfold tA
    rw [hadd]
    simp only [Bool.true_and,Bool.and_eq_true]
    refine ⟨hok.2.1,hok.2.2,AV l _ (n - 1) (fun x hx=>h x (by simp [hx])) (by omega) (by omega) ?_ ?_ ?_⟩ <;> dsimp only <;> omega
theorem H8 {b:ka} (h:kT b≤1000):Pw (tn b):=by
  refine ⟨by rw [wg];omega,fun o ho=>?_⟩
  have:∀ o ∈ BD, -9223372036854775808≤o.wait:=by decide
  exact this o ho
structure Ww (w:iQ):Prop where
  len:w.parts.length≤3
  pw:∀ p,p ∈ w.parts→Pw p
theorem Ww.set {w:iQ} (h:Ww w) (k:Nat) {p:hZ} (hp:Pw p) (n:Int):Ww ⟨n,w.parts.set k p⟩:=by
  refine ⟨by show (w.parts.set k p).length≤3;rw [List.length_set];exact h.len,fun q hq=>?_⟩
  rcases List.mem_or_eq_of_mem_set hq with q1 | rfl
  · exact h.pw q q1
  · exact hp
theorem Ww.sz {w:iQ} (h:Ww w):jo jd w.parts≤60003:=by
  have:=uu (f:=jd) (c:=20000) fun y hy=>(h.pw y hy).1
  have:=h.len
  unfold jo
  omega
theorem Ww.mq {w:iQ} (h:Ww w):jo jd w.parts<im:=by
  have:=h.sz
  have:(16777216:Nat)=im:=rfl
  omega
theorem Ww.w {w:iQ} (h:Ww w):wW w.parts:=fun p hp=>(h.pw p hp).2
theorem Pw.ag {p:hZ} (h:Pw p):p.heap.ag.length≤1000000:=by
  have h1:=h.1
  unfold jd oW jo at h1
  omega
theorem Fv {N:Nat} (hN:im≤N) {b:List U8} {i h:Int} (hb:b.length≤1048576) (hi:0≤i):WD (qD N ⟨b,i,h⟩) (fun r=>0≤r.2.i∧Ww r.1∧1≤r.1.parts.length):=by
  unfold qD
  dsimp only
  have hB:(16777216:Nat)=im:=rfl
  refine WD.bind (Gc hN hb hi) fun l ⟨l1,l2,l3,l4⟩=>?_
  have hs:jo kT l.1≤1048576:=by
    have:=uu (f:=kT) (c:=1000) fun y hy=>(l4 y hy).sz
    unfold jo
    omega
  have hok:vB l.1=true:=by
    unfold vB
    rw [AV l.1 ⟨0,0,0⟩ 3 l4 l3 (by decide) (by decide) (by decide) (by decide),Bool.true_and,jE]
    omega
  refine WD.step (DM hN hs) ?_
  rw [show v5 l.1=⟨0,nn l.1⟩ from by unfold v5;rw [if_pos hok]]
  have hw:Ww ⟨0,nn l.1⟩∧(nn l.1).length=l.1.length:=by
    have e:(nn l.1).length=l.1.length:=by simp [nn]
    refine ⟨⟨by show (nn l.1).length≤3;omega,fun p hp=>?_⟩,e⟩
    obtain ⟨x,hx,rfl⟩:=List.mem_map.1 (show p ∈ l.1.map _ from hp)
    have hq:=l4 x hx
    rw [show (pF x).1=tn x from by unfold pF;rw [if_pos hq.ok]]
    exact H8 hq.sz
  obtain ⟨hw,he⟩:=hw
  dsimp only
  refine WD.bind (WD.loop (fun s=>Ww ⟨0,s.1⟩∧1≤s.1.length∧0≤s.2.1∧s.2.1≤3∧0≤s.2.2.1) (fun r=>Ww ⟨0,r.1⟩∧1≤r.1.length∧0≤r.2.2.1) (fun s=>(3 - s.2.1).toNat) ⟨hw,by dsimp only;omega,by simp,by simp,l1⟩ (re hN (by simp)) ?_) fun r ⟨r1,r2,r3⟩=>WD.bind (iS hb r3 6 (by decide)) fun y ⟨y1,_,_⟩=>WD.ret ⟨y1,⟨r1.len,r1.pw⟩,r2⟩
  rintro ⟨l,k,i,h⟩ ⟨s1,s2,s3,s4,s5⟩
  dsimp only at *
  have hl3:l.length≤3:=s1.len
  refine WD.ite (fun c=>?_) (fun c=>WD.inr ⟨s1,s2,s5⟩)
  have c:=of_decide_eq_true c
  rw [i9 (n:=k+1) (by omega) (by omega)]
  refine WD.bind (k9 hb s5 2) fun y y1=>WD.ite (fun _=>?_) fun _=>WD.inl ⟨s1,s2,by dsimp only;omega,by dsimp only;omega,y1⟩ (by dsimp only;omega)
  exact WD.bind (G6 hN hb y1 k) fun p ⟨p1,p2⟩=>WD.bind (kI s3 c) fun z _=>WD.step rfl (WD.inl ⟨s1.set _ (p2.pw (by decide)) 0,by simp only [List.length_set];exact s2,by dsimp only;omega,by dsimp only;omega,p1⟩ (by dsimp only;omega))
theorem Cf {N:Nat} (hN:im≤N) {b:List U8} {i h:Int} (hb:b.length≤1048576) (hi:0≤i):WD (tj N ⟨b,i,h⟩) (fun r=>0≤r.2.i∧Ww r.1):=by
  unfold tj
  dsimp only
  refine WD.bind (Fv hN hb hi) fun w ⟨w1,w2,w3⟩=>WD.bind (iS hb w1 16 (by decide)) fun m ⟨m1,_,_⟩=>?_
  refine WD.bind (P:=fun (j:Int×Int×Int×(List hZ))=>0≤j.1∧Ww ⟨j.2.2.1,j.2.2.2⟩) ?_ fun j ⟨j1,j2⟩=>WD.ret ⟨j1,j2⟩
  refine WD.ite (fun _=>WD.bind (DY hN hb m1) fun p ⟨p1,p2⟩=>WD.bind (kI (by decide) (by omega)) fun z _=>WD.step rfl (WD.ret ⟨p1,w2.set _ p2.pw _⟩)) fun _=>?_
  refine WD.ite (fun _=>WD.bind (kO hb m1 (by decide)) fun y ⟨y1,_⟩=>WD.ret ⟨y1,w2.len,w2.pw⟩) fun _=>?_
  refine WD.ite (fun _=>WD.ret ⟨m1,by simp,by simp⟩) fun _=>?_
  refine WD.ite (fun _=>WD.bind (kI (by decide) (by omega)) fun z hz=>WD.step rfl (WD.ret ⟨m1,w2.set (0:Int).toNat (p:=hZ.mk z.label z.own z.tree z.heap z.ic z.next z.want (iC.mk z.gE.bh 1000000 z.gE.iB) z.ik z.lost) (w2.pw z hz) _⟩)) fun _=>WD.ret ⟨m1,w2⟩
theorem xZ {N:Nat} (hN:im≤N) {l:List U8} (hl:l.length≤1048576):WD (mQ N l) (fun r=>Ww r.1):=by
  unfold mQ
  refine WD.bind (H9 hN hl) fun c c1=>WD.bind (Cf hN hl c1) fun w ⟨w1,w2⟩=>WD.ite (fun _=>WD.ret w2) fun c=>?_
  have hn:0<w.1.parts.length:=by
    have:(w.1.parts.length:Int) ≠ 0:=by simpa using c
    omega
  refine WD.bind (iS hl w1 _ (by omega)) fun p ⟨p1,p2,p3⟩=>WD.bind (kI p2 p3) fun q hq=>WD.bind (Dk hN hl p1 (w2.pw q hq).ag _) fun x x1=>WD.bind (iS hl x1 _ (by omega)) fun k ⟨k1,k2,k3⟩=>WD.bind (k9 hl k1 2) fun y y1=>?_
  refine WD.bind (P:=fun (j:Int×Int×Int×Int×Int×Int×Int×Int)=>0≤j.1) (WD.ite (fun _=>?_) fun _=>WD.ret y1) fun j j1=>?_
  · refine WD.bind (kO hl y1 (by decide)) fun z ⟨z1,_⟩=>WD.bind (kI k2 k3) fun u hu=>WD.bind (DW hN hl z1 (w2.pw u hu).ag _ _) fun v v1=>?_
    refine WD.bind (P:=fun (j:Int×Int×Int×Int)=>0≤j.1) (WD.ite (fun _=>WD.bind (DW hN hl v1 (w2.pw u hu).ag _ _) fun m m1=>WD.bind (iS hl m1 20 (by decide)) fun n ⟨n1,_,_⟩=>WD.ret n1) fun _=>WD.ret v1) fun j j1=>?_
    exact WD.ite (fun _=>WD.bind (iS hl j1 2 (by decide)) fun a ⟨a1,_,_⟩=>WD.bind (iS hl a1 3 (by decide)) fun b ⟨b1,_,_⟩=>WD.bind (iS hl b1 3 (by decide)) fun c ⟨c1,_,_⟩=>WD.bind (iS hl c1 2 (by decide)) fun d ⟨d1,_,_⟩=>WD.bind (iS hl d1 20 (by decide)) fun e ⟨e1,_,_⟩=>WD.ret e1) fun _=>WD.ret j1
  · exact WD.bind (k9 hl j1 15) fun y y1=>WD.bind (P:=fun _=>True) (WD.ite (fun _=>WD.bind (kO hl y1 (by decide)) fun z _=>WD.ret trivial) fun _=>WD.ret trivial) fun m _=>WD.ret w2
end Go.Kx
/- Plain laws: what a call does in a world. No program in sight. -/
namespace Go.Kx
open Go
set_option linter.unusedVariables false
set_option linter.unusedSimpArgs false
set_option maxRecDepth 10000
structure Wq (w:iQ):Prop where
  mq:jo jd w.parts<im
  each:∀ p,p ∈ w.parts→jd p≤3000000
  w:wW w.parts
theorem Bs {α:Type} {l:List α} {i:Int} {y:α} (h0:0≤i) (h1:i<(l.length:Int)):idx (l.set i.toNat y) i=some y:=by
  have:=Dp (l:=l) (k:=i.toNat) (y:=y) (by omega)
  rwa [Int.toNat_of_nonneg h0] at this
theorem Dx {α:Type} {t:List α} {z:α} (h:t.length≤1000000):app t [z]=some (t++[z]):=kS h (by decide)
def zp (w:iQ) (q:Int) (z:hZ):iQ:=iQ.mk w.now (w.parts.set q.toNat z)
def nv (w:iQ) (p a b:Int):Bool:=kv (nth w.parts p).own (nth w.parts a).label (nth w.parts b).label
def Fp (p:hZ):hZ:=hZ.mk p.label p.own p.tree p.heap p.ic p.next p.want p.gE p.ik (if 1000000<IntKind.i64.wrap (p.lost+1) then 1000000 else IntKind.i64.wrap (p.lost+1))
def qG (l:List cd) (i:Int):Bool:=decide (i ≥ 0)&&(((nth l i).kind==3)&&decide (((nth l i).queue.length:Int)<2))
def HR (p:hZ) (i n:Int):hZ:=rX p (p.heap.ag.set i.toNat (pd (nth p.heap.ag i) ((nth p.heap.ag i).queue++[iU.mk (-1) n])))
def ue (c:iL):je:=je.mk c.a c.b c.c (IntKind.i64.wrap (Int.tdiv c.d 10)) (Int.tmod c.d 10) c.e
def tg (w:iQ) (p q:Int) (c:iL):Int×Int×iQ :=
  bif !nv w p q p then (3,0,w) else ((jz (nth w.parts q) q w.now c).1,(jz (nth w.parts q) q w.now c).2.1,w)
def A8 (p:hZ) (i n:Int):hZ:=bif qG p.heap.ag i then HR p i n else Fp p
def tU (w:iQ) (p q:Int) (c:iL):Int×Int×iQ :=
  bif !iG c.b 0 999 then (2,0,w) else bif !nv w p p q then (3,0,w) else
  (0,0,zp w q (A8 (nth w.parts q) (iE (nth w.parts q).heap.ag w.now q c.a) c.b))
def xx (w:iQ) (p q:Int) (c:iL):Int×Int×iQ :=
  bif decide (c.d<0) || !nw (ue c) then (2,0,w) else bif !nv w p p q then (3,0,w) else
  bif !jI (nth w.parts p).tree c.a then (6,0,w) else bif decide (((nth w.parts p).ic.length:Int) ≥ 3) then (7,0,w) else
  (0,IntKind.i64.wrap ((((nth w.parts p).ic++[ue c]).length:Int) - 1),zp w p (Bg (nth w.parts p) ((nth w.parts p).ic++[ue c])))
def tu (r:Int×Int×iQ):iQ×iJ:=bif r.1 != 0 then (r.2.2,iJ.mk r.1 0) else (r.2.2,iJ.mk 0 r.2.1)
def qd (w:iQ) (p th:Int) (c:iL):iQ×iJ :=
  bif !ks w || !jA w p then (w,iJ.mk 2 0) else bif !lY (nth w.parts p) w.now th then (w,iJ.mk 1 0) else
  bif decide (other w p c<0) then (w,iJ.mk 2 0) else
  bif c.kind==7 then tu (tg w p (other w p c) c) else bif c.kind==17 then tu (tU w p (other w p c) c) else bif c.kind==16 then tu (xx w p (other w p c) c) else
  (zp w p (mM (nth w.parts p) p w.now th c).1,(mM (nth w.parts p) p w.now th c).2)
theorem Bt (r:Int×Int×iQ):(bif r.1 != 0 then some (iQ.mk r.2.2.now r.2.2.parts,iJ.mk r.1 0) else some (iQ.mk r.2.2.now r.2.2.parts,iJ.mk 0 r.2.1))=some (tu r):=by
  unfold tu
  cases r.1 != 0 <;> rfl
theorem H4 (w:iQ) (p q:Int) (c:iL):(tg w p q c).2.2=w:=by
  unfold tg
  cases !nv w p q p <;> rfl
theorem vN {w:iQ} (h:ks w=true) {p:hZ} (hp:p ∈ w.parts):kl p=true:=by
  unfold ks at h
  simp only [Bool.and_eq_true,List.all_eq_true] at h
  exact h.2.2.1 p hp
theorem uw {w:iQ} {p:Int} (h:jA w p=true):0≤p∧p<(w.parts.length:Int):=by
  unfold jA at h
  rw [jE] at h
  omega
theorem Wq.I2 {w:iQ} (h:Wq w) (ok:ks w=true) {p:hZ} (hp:p ∈ w.parts):lr p:=⟨vN ok hp,h.each p hp,h.w p hp⟩
section
variable {N:Nat} {w:iQ} {p q:Int} {c:iL}
theorem xg (hN:im≤N) (hw:Wq w) {a b d:Int} (ha:jA w a=true) (hb:jA w b=true) (hd:jA w d=true):og N w a b d=some (nv w a b d):=by
  obtain ⟨a1,a2⟩:=j7 ha
  obtain ⟨b1,b2⟩:=j7 hb
  obtain ⟨d1,d2⟩:=j7 hd
  unfold og nv
  simp only [a1,b1,d1,Option.bind_some,yX hN (kg (jM hw.mq a2)).2.1 (kg (jM hw.mq b2)).1 (kg (jM hw.mq d2)).1]
theorem FI {P:hZ} {me now:Int} (h:(c.kind==7)=true):fin c P (jz P me now c)=(P,bif (jz P me now c).1==0 then iJ.mk 0 (jz P me now c).2.1 else iJ.mk (jz P me now c).1 0):=by
  have hp:(jz P me now c).2.2=P:=by
    unfold jz
    rw [h]
    cases jv P.heap.ag now me c.a 2 != 0
    · cases !iG c.b 0 (((nth P.heap.ag (iE P.heap.ag now me c.a)).data.length:Int) - 1) <;> rfl
    · rfl
  have h1:(c.kind==1)=false:=by
    have:c.kind=7:=by simpa using h
    rw [this];rfl
  unfold fin
  rw [hp,h1]
  cases (jz P me now c).1==0 <;> rfl
theorem HG (hN:im≤N) (hw:Wq w) (ok:ks w=true) (hp:jA w p=true) (hq:jA w q=true) (c:iL):o7 N w p q c=some ((tg w p q c).1,(tg w p q c).2.1):=by
  obtain ⟨q1,q2⟩:=j7 hq
  unfold o7 tg
  simp only [xg hN hw hp hq hp,Option.bind_some]
  cases nv w p q p
  · rfl
  simp only [Bool.not_true,cond_false,q1,Option.bind_some,vY hN (jM hw.mq q2),Ef hN (hw.I2 ok q2)]
theorem HQ (hN:im≤N) (hw:Wq w) (ok:ks w=true) (hp:jA w p=true) (hq:jA w q=true) (hk:(c.kind==7)=true):rJ N w p q c=some (tu (tg w p q c)):=by
  obtain ⟨p1,p2⟩:=j7 hp
  obtain ⟨q1,q2⟩:=j7 hq
  obtain ⟨q0,q9⟩:=uw hq
  have hc:c.kind=7:=by simpa using hk
  unfold rJ tg nv
  simp only [p1,q1,Option.bind_some,qR hN (kg (jM hw.mq p2)).2.1 (kg (jM hw.mq q2)).1 (kg (jM hw.mq p2)).1]
  cases kv (nth w.parts p).own (nth w.parts q).label (nth w.parts p).label
  · rfl
  simp only [Bool.not_true,cond_false,Eo hN (hw.I2 ok q2) q w.now (c:=c) (by rw [hc];rfl) (by rw [hc];rfl),Option.bind_some,zN]
  rw [FI hk]
  simp only [Option.bind_some]
  rw [show w.parts.set q.toNat (hZ.mk (nth w.parts q).label (nth w.parts q).own (nth w.parts q).tree (ir.mk (nth w.parts q).heap.ag (jr.mk (nth w.parts q).heap.gc.phase (nth w.parts q).heap.gc.pos (nth w.parts q).heap.gc.round (nth w.parts q).heap.gc.ia)) (nth w.parts q).ic (nth w.parts q).next (nth w.parts q).want (nth w.parts q).gE (nth w.parts q).ik (nth w.parts q).lost)=w.parts from sy (sD q0 q9)]
  unfold tu bne
  cases (jz (nth w.parts q) q w.now c).1==0 <;> rfl
theorem Hs (hN:im≤N) (hw:Wq w) (ok:ks w=true) (hp:jA w p=true) (hq:jA w q=true) (c:iL):om N w p q c=some ((tU w p q c).1,(tU w p q c).2.2):=by
  obtain ⟨q1,q2⟩:=j7 hq
  have ar:=m9 (vN ok q2)
  have hb:=(kg (jM hw.mq q2)).2.2.2.1
  unfold om tU
  simp only [mI,xg hN hw hp hp hq,Option.bind_some]
  cases iG c.b 0 999
  · rfl
  cases nv w p p q
  · rfl
  simp only [Bool.not_true,cond_false,q1,Option.bind_some,wk hN hb]
  have hg:=vH (l:=(nth w.parts q).heap.ag) (now:=w.now) (me:=q) (h:=c.a) ar.len
  generalize iE (nth w.parts q).heap.ag w.now q c.a=g at *
  unfold A8
  have e:(bif decide (g ≥ 0) then (idx (nth w.parts q).heap.ag g).bind fun y45=>bif y45.kind==3 then some (decide ((y45.queue.length:Int)<2)) else some false else some false)=some (qG (nth w.parts q).heap.ag g):=by
    unfold qG
    cases h:decide (g ≥ 0)
    · rfl
    have h:=of_decide_eq_true h
    rw [jy h (hg h),Option.bind_some]
    simp only [cond_true,Bool.true_and,lu]
  rw [e,Option.bind_some]
  cases h:qG (nth w.parts q).heap.ag g
  · rfl
  have h':=h
  unfold qG at h'
  simp only [Bool.and_eq_true,decide_eq_true_eq] at h'
  rw [cond_true,jy h'.1 (hg h'.1),Option.bind_some,Dx (by omega)]
  rfl
theorem H6 (hN:im≤N) (hw:Wq w) (ok:ks w=true) (hp:jA w p=true) (hq:jA w q=true) (c:iL):rl N w p q c=some (tu (tU w p q c)):=by
  obtain ⟨p1,p2⟩:=j7 hp
  obtain ⟨q1,q2⟩:=j7 hq
  have ar:=m9 (vN ok q2)
  have hb:=(kg (jM hw.mq q2)).2.2.2.1
  unfold rl tU nv
  simp only [l6,p1,q1,qR hN (kg (jM hw.mq p2)).2.1 (kg (jM hw.mq p2)).1 (kg (jM hw.mq q2)).1,Option.bind_some]
  cases iG c.b 0 999
  · rfl
  cases kv (nth w.parts p).own (nth w.parts p).label (nth w.parts q).label
  · rfl
  simp only [Bool.not_true,cond_false,Option.bind_some,we hN hb (hw.w _ q2)]
  have hg:=vH (l:=(nth w.parts q).heap.ag) (now:=w.now) (me:=q) (h:=c.a) ar.len
  generalize iE (nth w.parts q).heap.ag w.now q c.a=g at *
  unfold A8
  have e:(bif decide (g<0) then some true else (idx (nth w.parts q).heap.ag g).bind fun y84=>bif y84.kind != 3 then some true else some (decide ((y84.queue.length:Int) ≥ 2)))=some (!qG (nth w.parts q).heap.ag g):=by
    unfold qG
    by_cases h:g<0
    · rw [decide_eq_true h,decide_eq_false (show ¬ g ≥ 0 by omega)];rfl
    rw [decide_eq_false h,decide_eq_true (show g ≥ 0 by omega),cond_false,jy (by omega) (hg (by omega)),Option.bind_some,kG,Bool.true_and,Bool.not_and]
    unfold bne
    by_cases k:((nth (nth w.parts q).heap.ag g).queue.length:Int)<2
    · rw [decide_eq_true k,decide_eq_false (show ¬ ((nth (nth w.parts q).heap.ag g).queue.length:Int) ≥ 2 by omega)];rfl
    · rw [decide_eq_false k,decide_eq_true (show ((nth (nth w.parts q).heap.ag g).queue.length:Int) ≥ 2 by omega)];rfl
  rw [e,Option.bind_some]
  cases h:qG (nth w.parts q).heap.ag g
  · rfl
  have h':=h
  unfold qG at h'
  simp only [Bool.and_eq_true,decide_eq_true_eq] at h'
  rw [Bool.not_true,cond_false,jy h'.1 (hg h'.1),Option.bind_some,jQ (Nat.lt_trans (show _<2 by omega) (by decide)),Option.bind_some,Dx (by omega)]
  rfl
theorem Iv (hN:im≤N) (hw:Wq w) (ok:ks w=true) (hp:jA w p=true) (hq:jA w q=true) (c:iL):o6 N w p q c=some (xx w p q c):=by
  obtain ⟨p1,p2⟩:=j7 hp
  obtain ⟨p0,p9⟩:=uw hp
  have hT:=qK.1 (vj (vN ok p2))
  unfold o6 xx
  simp only [p1,CX,xg hN hw hp hp hq,r7 N hT.len,Option.bind_some,kG]
  show (bif (decide (c.d<0) || !nw (ue c)) then _ else _)=_
  cases decide (c.d<0) || !nw (ue c)
  case true=>rfl
  cases nv w p p q
  case false=>rfl
  cases jI (nth w.parts p).tree c.a
  case false=>rfl
  cases h:decide (((nth w.parts p).ic.length:Int) ≥ 3)
  case true=>rfl
  have h:=of_decide_eq_false h
  simp only [Bool.not_true,cond_false]
  rw [Dx (by omega),Option.bind_some,Bs p0 p9]
  rfl
theorem Iq (hN:im≤N) (hw:Wq w) (ok:ks w=true) (hp:jA w p=true) (hq:jA w q=true) (c:iL):sW N w p q c=some (tu (xx w p q c)):=by
  obtain ⟨p1,p2⟩:=j7 hp
  obtain ⟨q1,q2⟩:=j7 hq
  obtain ⟨p0,p9⟩:=uw hp
  have hT:=vj (vN ok p2)
  unfold sW xx nv
  simp only [p1,q1,zF,qR hN (kg (jM hw.mq p2)).2.1 (kg (jM hw.mq p2)).1 (kg (jM hw.mq q2)).1,tv hN,hT,Bool.true_and,Option.bind_some]
  cases decide (c.d<0)
  case true=>rfl
  show (bif !nw (ue c) then _ else _)=some (tu (bif !nw (ue c) then _ else _))
  cases nw (ue c)
  case false=>rfl
  cases kv (nth w.parts p).own (nth w.parts p).label (nth w.parts q).label
  case false=>rfl
  cases jI (nth w.parts p).tree c.a
  case false=>rfl
  cases h:decide (((nth w.parts p).ic.length:Int) ≥ 3)
  case true=>rfl
  have h:=of_decide_eq_false h
  simp only [Bool.not_true,cond_false]
  rw [jQ (Nat.lt_trans (show _<3 by omega) (by decide)),Option.bind_some,Dx (by omega),Option.bind_some,Option.bind_some,Bs p0 p9]
  rfl
theorem CB (hN:im+1≤N) (hw:Wq w) (p th:Int) (c:iL):pe N w p th c=some (qd w p th c):=by
  have hN':im≤N:=Nat.le_of_succ_le hN
  have hl:=kY hw.mq
  unfold pe qd
  simp only [Cz hN' hw.mq,As hN' hw.mq,wT hl,Option.bind_some,kG]
  cases hok:!ks w || !jA w p
  case true=>rfl
  have hok:ks w=true∧jA w p=true:=by simpa using hok
  obtain ⟨ok,hp⟩:=hok
  obtain ⟨p1,p2⟩:=j7 hp
  simp only [cond_false,p1,Option.bind_some,Aa hN' (jM hw.mq p2)]
  cases hc:lY (nth w.parts p) w.now th
  case false=>rfl
  simp only [Bool.not_true,cond_false,xT hl,Option.bind_some]
  cases ho:decide (other w p c<0)
  case true=>rfl
  have hq:=qy ho
  generalize other w p c=q at *
  simp only [cond_false]
  cases c.kind==7
  case true=>simp only [cond_true,HG hN' hw ok hp hq,Option.bind_some];rw [← Bt,H4];rfl
  cases c.kind==17
  case true=>simp only [cond_true,cond_false,Hs hN' hw ok hp hq,Option.bind_some];unfold tU;cases iG c.b 0 999 <;> cases nv w p p q <;> rfl
  cases c.kind==16
  case true=>simp only [cond_true,cond_false,Iv hN' hw ok hp hq,Option.bind_some];rw [← Bt];rfl
  simp only [cond_false,DN hN (hw.each _ p2) (hw.w _ p2),Option.bind_some]
  rfl
theorem B9 (hN:im≤N) (hw:Wq w) (p th:Int) (c:iL):o5 N w p th c=some (qd w p th c):=by
  have hl:w.parts.length<16777216:=kY hw.mq
  unfold o5 qd
  simp only [ER hN hw.mq,xa hN hw.mq hw.w,l6,Option.bind_some,kG]
  rw [i9 (by omega) (by omega),show iG p 0 ((w.parts.length:Int) - 1)=jA w p from rfl]
  cases hok:!ks w || !jA w p
  case true=>rfl
  have hok:ks w=true∧jA w p=true:=by simpa using hok
  obtain ⟨ok,hp⟩:=hok
  obtain ⟨p1,p2⟩:=j7 hp
  simp only [cond_false,p1,Option.bind_some,zT hN (jM hw.mq p2) (hw.w _ p2)]
  cases hc:lY (nth w.parts p) w.now th
  case false=>rfl
  simp only [Bool.not_true,cond_false,xE hl,Option.bind_some,y6 hN (hw.each _ p2) (hw.w _ p2)]
  have hself:((c.kind==7) || ((c.kind==17) || (c.kind==16)))=false→decide (other w p c<0)=false:=fun h=>by
    have h0:=uw hp
    simp only [Bool.or_eq_false_iff] at h
    unfold other target
    rw [h.1,h.2.1,h.2.2]
    simp only [Bool.or_self,Bool.false_eq_true,if_false,hp,if_true]
    exact decide_eq_false (by omega)
  cases k7:c.kind==7
  case true =>
    simp only [cond_true,Option.bind_some]
    cases ho:decide (other w p c<0)
    case true=>rfl
    simp only [cond_false,HQ hN hw ok hp (qy ho) k7,Option.bind_some]
  cases k17:c.kind==17
  case true =>
    simp only [cond_true,cond_false,Option.bind_some]
    cases ho:decide (other w p c<0)
    case true=>rfl
    simp only [cond_false,H6 hN hw ok hp (qy ho),Option.bind_some]
  cases k16:c.kind==16
  case true =>
    simp only [cond_true,cond_false,Option.bind_some]
    cases ho:decide (other w p c<0)
    case true=>rfl
    simp only [cond_false,Iq hN hw ok hp (qy ho),Option.bind_some]
  rw [hself (by rw [k7,k17,k16];rfl)]
  simp only [cond_false,Option.bind_some]
  rfl
end
end Go.Kx
/- Plain laws: what a call leaves of a world is small. No program in sight. -/
namespace Go.Kx
open Go
set_option linter.unusedVariables false
set_option linter.unusedSimpArgs false
set_option maxRecDepth 10000
end Go.Kx
/- The plain law of 'FnFlows'. No program in sight. -/
namespace Go.Kx
open Go
set_option linter.unusedVariables false
set_option linter.unusedSimpArgs false
set_option maxRecDepth 10000
theorem Ez {w:iQ} {p th:Int} {c:iL} (h0:(qd w p th c).2.code=0) (hk:c.kind=7∨c.kind=17∨c.kind=16) :
    ks w=true∧jA w p=true∧jA w (target p c)=true∧other w p c=target p c∧(c.kind=7→nv w p (target p c) p=true)∧(c.kind ≠ 7→nv w p p (target p c)=true):=by
  unfold qd at h0
  cases hok:!ks w || !jA w p
  case true=>rw [hok] at h0;exact absurd h0 (show ¬ (2:Int)=0 by decide)
  rw [hok] at h0
  have hok:ks w=true∧jA w p=true:=by simpa using hok
  obtain ⟨ok,hp⟩:=hok
  rw [cond_false] at h0
  cases hc:lY (nth w.parts p) w.now th
  case false=>rw [hc] at h0;exact absurd h0 (show ¬ (1:Int)=0 by decide)
  rw [hc] at h0
  cases ho:decide (other w p c<0)
  case true=>rw [ho] at h0;exact absurd h0 (show ¬ (2:Int)=0 by decide)
  rw [ho] at h0
  simp only [Bool.not_true,cond_false] at h0
  have hq:=qy ho
  have e:other w p c=target p c:=by
    unfold other at ho ⊢
    cases ht:jA w (target p c)
    · rw [ht] at ho;simp at ho
    · rw [if_pos rfl]
  rw [e] at h0 hq
  generalize target p c=q at *
  refine ⟨ok,hp,hq,e,fun k7=>?_,fun k7=>?_⟩
  · rw [show (c.kind==7)=true by simpa using k7] at h0
    rw [cond_true] at h0
    cases hm:nv w p q p
    · unfold tg tu at h0
      rw [hm] at h0
      exact absurd h0 (show ¬ (3:Int)=0 by decide)
    · rfl
  · rw [show (c.kind==7)=false by simpa using k7] at h0
    cases hm:nv w p p q
    · rcases hk with k | k | k
      · exact absurd k k7
      · rw [show (c.kind==17)=true by simpa using k] at h0
        unfold tU tu at h0
        rw [hm] at h0
        cases hb:iG c.b 0 999
        · rw [hb] at h0;exact absurd h0 (show ¬ (2:Int)=0 by decide)
        · rw [hb] at h0;exact absurd h0 (show ¬ (3:Int)=0 by decide)
      · rw [show (c.kind==17)=false by rw [k];rfl,show (c.kind==16)=true by simpa using k] at h0
        unfold xx tu at h0
        rw [hm] at h0
        cases hb:decide (c.d<0) || !nw (ue c)
        · rw [hb] at h0;exact absurd h0 (show ¬ (3:Int)=0 by decide)
        · rw [hb] at h0;exact absurd h0 (show ¬ (2:Int)=0 by decide)
    · rfl
theorem BE {own:List Int} {a b:jf} (h:kv own a b=true):(bif yo a b then some true else some (decide (((tG own a b).length:Int) > 0)))=some true:=by
  cases hf:yo a b
  · unfold tG
    rw [if_pos h,cond_false]
    cases hl:nt b.levels 0 a.levels with
    | nil =>
      have:=wL b.levels (fun _=>false) a.levels 0
      rw [hl] at this
      unfold kv at h
      simp only [Bool.and_eq_true] at h
      unfold yo kv at hf
      rw [h.2.1,h.2.2.1] at hf
      have e:allI (fun k y=>!decide (y > (b.levels[k]?).getD 0) || ([]:List Int).contains (k:Int)) 0 a.levels=true:=this.symm
      rw [e] at hf
      exact absurd hf (by decide)
    | cons y l=>rw [decide_eq_true (by simp only [List.length_cons];omega)]
  · rfl
theorem Ww.q' {w:iQ} (h:Ww w):Wq w:=⟨h.mq,fun p hp=>Nat.le_trans (h.pw p hp).1 (by decide),h.w⟩
theorem Ek {x:List U8} (hx:Fit.fit x):∃ N,ri N x=some true:=by
  obtain ⟨N,hN1⟩:∃ N,im+1≤N:=⟨im+1,Nat.le_refl _⟩
  have hN:im≤N:=Nat.le_of_succ_le hN1
  suffices h:WD (ri N x) (fun r=>r=true) by
    obtain ⟨_,e,rfl⟩:=h
    exact ⟨N,e⟩
  unfold ri xw
  refine WD.step rfl (WD.ite (fun _=>WD.ret rfl) fun c=>?_)
  have hl:x.length≤1048576:=by have:=of_decide_eq_false c;omega
  refine WD.bind (xZ hN hl) fun d hd=>?_
  obtain ⟨w,p,th,c⟩:=d
  dsimp only at *
  have hB:(16777216:Nat)=im:=rfl
  have hq:=hd.q'
  refine WD.step (CB hN1 hq p th c) (WD.step (B9 hN hq p th c) ?_)
  refine WD.step (a:=false) ?_ ?_
  · rw [decide_eq_true rfl]
    simp only [Bool.not_true,cond_false]
    rw [yj hN hd.mq,Option.bind_some,Fs hN hd.mq hd.w,Option.bind_some,bne_self_eq_false]
  rw [cond_false]
  have hfl:=@Ez w p th c
  generalize qd w p th c=r at *
  refine WD.bind (P:=fun j=>j=false→r.2.code=0∧(c.kind=7∨c.kind=17∨c.kind=16)) ?_ fun j hj=>WD.ite (fun _=>WD.ret rfl) fun cj=>?_
  · refine WD.ite (fun _=>WD.ret (by simp)) fun c0=>WD.step (xa hN hd.mq hd.w) (WD.ite (fun _=>WD.ret (by simp)) fun _=>?_)
    have c0:r.2.code=0:=by simpa using c0
    refine WD.ite (fun k7=>WD.ite (fun k17=>WD.ret fun h=>⟨c0,.inr (.inr (by simpa using h))⟩) fun k17=>WD.ret fun _=>⟨c0,.inr (.inl (by simpa using k17))⟩) fun k7=>WD.ret fun _=>⟨c0,.inl (by simpa using k7)⟩
  obtain ⟨c0,hk⟩:=hj cj
  obtain ⟨ok,hp,ht,he,hr7,hw7⟩:=hfl c0 hk
  have et:(bif c.kind==16 then some c.b else some (mG c.a))=some (target p c):=by
    unfold target
    rcases hk with k | k | k <;> rw [k] <;> rfl
  refine WD.step (sH _ _) (WD.step et ?_)
  have t:=uw ht
  have q:=uw hp
  refine WD.step (a:=false) ?_ ?_
  · rw [decide_eq_false (show ¬ target p c<0 by omega),decide_eq_false (show ¬ target p c ≥ (w.parts.length:Int) by omega),decide_eq_false (show ¬ p<0 by omega),decide_eq_false (show ¬ p ≥ (w.parts.length:Int) by omega)]
    rfl
  rw [cond_false]
  obtain ⟨p1,p2⟩:=j7 hp
  obtain ⟨t1,t2⟩:=j7 ht
  obtain ⟨a1,a2,_⟩:=kg (jM hd.mq p2)
  obtain ⟨b1,_⟩:=kg (jM hd.mq t2)
  refine WD.step p1 (WD.step t1 ?_)
  have eo:vA w p c=if c.kind==7 then tG (nth w.parts p).own (nth w.parts (target p c)).label (nth w.parts p).label else tG (nth w.parts p).own (nth w.parts p).label (nth w.parts (target p c)).label:=by
    unfold vA
    rw [he,ok,hp,decide_eq_false (show ¬ target p c<0 by omega)]
    rfl
  unfold nv at hr7 hw7
  cases k7:c.kind==7
  · have f:=hw7 (by simpa using k7)
    rw [k7] at eo
    refine WD.step rfl (WD.step (qR hN a2 a1 b1) ?_)
    show WD (bif kv (nth w.parts p).own (nth w.parts p).label (nth w.parts (target p c)).label then _ else _) _
    rw [f,cond_true]
    refine WD.step (Da hN a1 b1) ?_
    have:=BE f
    rw [yj hN hd.mq,Option.bind_some,eo]
    exact ⟨true,this,rfl⟩
  · have f:=hr7 (by simpa using k7)
    rw [k7] at eo
    refine WD.step rfl (WD.step (qR hN a2 b1 a1) ?_)
    show WD (bif kv (nth w.parts p).own (nth w.parts (target p c)).label (nth w.parts p).label then _ else _) _
    rw [f,cond_true]
    refine WD.step (Da hN b1 a1) ?_
    have:=BE f
    rw [yj hN hd.mq,Option.bind_some,eo]
    exact ⟨true,this,rfl⟩
end Go.Kx
