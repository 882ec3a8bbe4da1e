/- Plain laws: what a call does in a part. No program in sight. -/
import Derived.Test.YtikeaiogpfjdnaaGreatLStep
namespace Go.Kx
open Go
set_option linter.unusedVariables false
set_option linter.unusedSimpArgs false
set_option maxRecDepth 10000
theorem Bx (p:cd):cd.mk p.label p.own p.tree p.heap p.pN p.next p.want p.dz p.pV p.lost=p:=rfl
theorem A5 (g:rr):rr.mk g.phase g.pos g.round g.j8=g:=rfl
theorem Bl (h:qe):qe.mk h.ag h.gc=h:=rfl
theorem Nt (a:qa):qa.mk a.bh a.pU a.qc=a:=rfl
def qY (l:List eg) (now me h kind:Int):Int:=bif uh h then (bif uy h != me then 3 else (bif decide (qb l now me h<0) then 4 else (bif (kind != 0)&&((nth l (qb l now me h)).kind != kind) then 5 else 0))) else 2
theorem Da {l:List eg} {now me h:Int} (q:decide (qb l now me h<0)=false):Ar l∧0≤qb l now me h∧qb l now me h≤9∧(nth l (qb l now me h)).kind ≠ 0:=by
  unfold qb at *
  cases hg:D5 l now me h
  · rw [hg] at q;simp at q
  · simp only [cond_true]
    unfold D5 at hg
    simp only [Bool.and_eq_true] at hg
    obtain ⟨⟨h1,h2,_⟩,h3,_⟩:=hg
    obtain ⟨a,b⟩:=DR h2
    exact ⟨sq.1 h1,a,b,by simpa using h3⟩
theorem tC {l:List eg} {now me h k:Int} (q:qY l now me h k=0):Ar l∧0≤qb l now me h∧qb l now me h≤9∧(nth l (qb l now me h)).kind ≠ 0∧(k ≠ 0→(nth l (qb l now me h)).kind=k):=by
  unfold qY at q
  cases h1:uh h
  · rw [h1] at q;simp at q
  cases h2:uy h != me
  case true=>rw [h1,h2] at q;simp at q
  cases h3:decide (qb l now me h<0)
  case true=>rw [h1,h2,h3] at q;simp at q
  obtain ⟨a,b,c,d⟩:=Da h3
  refine ⟨a,b,c,d,fun hk=>?_⟩
  rw [h1,h2,h3] at q
  simp only [cond_true,cond_false] at q
  have hk':(k != 0)=true:=by simpa using hk
  rw [hk'] at q
  cases h4:(nth l (qb l now me h)).kind != k
  · simpa using h4
  · rw [h4] at q;simp at q
theorem B3 {N:Nat} (hN:pR≤N) {x:qj} (hb:qZ qd x.part.heap.ag<pR) (h k:Int):rY N x h k=some (bif qY x.part.heap.ag x.now x.me h k==0 then qb x.part.heap.ag x.now x.me h else 0,qY x.part.heap.ag x.now x.me h k,x):=by
  unfold rY qY
  simp only [wg,A1,Ca hN hb,Option.bind_some]
  rw [show qg h 0 29999=uh h from rfl]
  cases uh h
  · rfl
  cases uy h != x.me
  case true=>rfl
  cases q:decide (qb x.part.heap.ag x.now x.me h<0)
  case true=>rfl
  obtain ⟨ar,g0,g9,_⟩:=Da q
  simp only [Bool.not_true,cond_false,(ar.at g0 g9).1,Option.bind_some]
  cases k != 0 <;> cases (nth x.part.heap.ag (qb x.part.heap.ag x.now x.me h)).kind != k <;> rfl
theorem D1 {N:Nat} (hN:pR≤N) {p:cd} (hb:qZ qd p.heap.ag<pR) (hw:wP p) (me now h:Int):tL N p me now h=some (bif qY p.heap.ag now me h 0==0 then qb p.heap.ag now me h else -1,qY p.heap.ag now me h 0):=by
  unfold tL qY
  simp only [xF,Ba,Cf hN hb hw,Option.bind_some]
  rw [show qg h 0 29999=uh h from rfl]
  cases uh h
  · rfl
  cases uy h != me
  case true=>rfl
  cases q:decide (qb p.heap.ag now me h<0) <;> rfl
theorem D4 {N:Nat} (hN:pR≤N) {p:cd} (hb:qZ qd p.heap.ag<pR) (hw:wP p) (me now h:Int) {k:Int} (hk:0<k):uF N p me now h k=some (bif qY p.heap.ag now me h k==0 then qb p.heap.ag now me h else -1,qY p.heap.ag now me h k):=by
  unfold uF
  rw [D1 hN hb hw]
  have k1:decide (k > 0)=true:=decide_eq_true hk
  have k2:(k != 0)=true:=by simp;omega
  simp only [Option.bind_some,k1,cond_true]
  unfold qY
  rw [k2]
  cases uh h
  · rfl
  cases uy h != me
  case true=>rfl
  cases q:decide (qb p.heap.ag now me h<0)
  case true=>rfl
  obtain ⟨ar,g0,g9,_⟩:=Da q
  simp only [bne_self_eq_false,Bool.false_and,Bool.true_and,cond_true,cond_false,beq_self_eq_true,(ar.at g0 g9).1,Option.bind_some]
  cases (nth p.heap.ag (qb p.heap.ag now me h)).kind != k <;> rfl
def zN (h:qe) (i:Int):qe:=bif tB h&&qg i 0 9 then Ac h i else h
theorem Kh {N:Nat} (hN:pR≤N) {h:qe} (h1:qZ qd h.ag<pR) (h2:h.gc.j8.length+1<pR) (i:Int):vo N h i=some (zN h i):=by
  have h2':h.gc.j8.length<pR:=by omega
  unfold vo zN
  simp only [Ct hN h1 h2',DI hN h1 h2',zT,Option.bind_some]
  cases q:tB h
  · rfl
  cases hi:qg i 0 9
  · rfl
  have ar:=yL q
  have hl:=ar.len
  rw [rL] at hi
  simp only [cond_true,Option.bind_some,Bool.and_self,Mh hN hi.1 (show i<(h.ag.length:Int) by omega) h2]
theorem J7 {N:Nat} (hN:pR≤N) {h:qe} (h1:qZ qd h.ag<pR) (h2:h.gc.j8.length+1<pR) (hw:wA h.ag) (i:Int):vq N h i=some (zN h i):=by
  have h2':h.gc.j8.length<pR:=by omega
  unfold vq zN
  simp only [CY hN h1 h2',DD hN h1 h2' hw,yz,Option.bind_some]
  cases q:tB h
  · rfl
  cases hi:qg i 0 9
  · rfl
  have ar:=yL q
  have hl:=ar.len
  rw [rL] at hi
  simp only [Bool.not_true,cond_true,cond_false,Option.bind_some,Bool.and_self,JD hN hi.1 (show i<(h.ag.length:Int) by omega) h2]
def linked (o:eg) (b x:Int):eg:=eg.mk o.gen o.kind o.box o.res o.qp o.bh o.wait o.qo o.qq o.mark (o.pS.set b.toNat x) o.data o.queue
def boxed (o:eg) (b:Int):eg:=eg.mk o.gen o.kind b o.res o.qp o.bh o.wait o.qo o.qq o.mark o.pS o.data o.queue
def written (o:eg) (b x:Int):eg:=eg.mk o.gen o.kind o.box o.res o.qp o.bh o.wait o.qo o.qq o.mark o.pS (o.data.set b.toNat x) o.queue
def vH (o:eg) (q:List qt):eg:=eg.mk o.gen o.kind o.box o.res o.qp o.bh o.wait o.qo o.qq o.mark o.pS o.data q
def waiting (o:eg) (x:Int):eg:=eg.mk o.gen o.kind o.box o.res o.qp o.bh x o.qo o.qq o.mark o.pS o.data o.queue
def DA (o:eg) (x:Int):eg:=eg.mk o.gen o.kind o.box o.res o.qp o.bh o.wait x o.qq o.mark o.pS o.data o.queue
def vW (p:cd) (h:qe):cd:=cd.mk p.label p.own p.tree h p.pN p.next p.want p.dz p.pV p.lost
def Cp (p:cd) (t:List pW):cd:=cd.mk p.label p.own t p.heap p.pN p.next p.want p.dz p.pV p.lost
def Cj (p:cd) (t:List qy):cd:=cd.mk p.label p.own p.tree p.heap t p.next p.want p.dz p.pV p.lost
def tX (h:qe) (c i:Int):qe:=bif decide (c ≥ 0) then zN h i else h
def NB (p:cd) (i b x:Int):cd:=vW p (tX (qe.mk (p.heap.ag.set i.toNat (linked (nth p.heap.ag i) b x)) p.heap.gc) x x)
def tU (p:cd) (me now:Int) (c:qn):Int×Int×cd :=
  bif !qg c.b 0 1 then (2,0,p) else
  bif qY p.heap.ag now me c.a 0 != 0 then (qY p.heap.ag now me c.a 0,0,p) else
  bif (c.kind==2)&&(qY p.heap.ag now me c.c 0 != 0) then (qY p.heap.ag now me c.c 0,0,p) else
  (0,0,NB p (qb p.heap.ag now me c.a) c.b (bif c.kind==2 then qb p.heap.ag now me c.c else -1))
structure sP (p:cd):Prop where
  ok:rV p=true
  sz:qm p≤3000000
  w:wP p
theorem sP.ar {p:cd} (h:sP p):Ar p.heap.ag:=uH h.ok
theorem sP.b4 {p:cd} (h:sP p):qZ qd p.heap.ag<pR:=(sc (p:=p) (Nat.lt_of_le_of_lt h.sz (by decide))).2.2.2.1
theorem sP.b5 {p:cd} (h:sP p):p.heap.gc.j8.length+1<pR:=by
  have:=h.sz
  have hB:(16777216:Nat)=pR:=rfl
  unfold qm sO vg at this
  omega
theorem va {l:List eg} (h:Ar l) {i:Int} (h0:0≤i) (h9:i≤9):qd (nth l i)≤12:=Gs (h.ok _ (h.at h0 h9).2)
theorem Dc {l:List eg} (h:Ar l) {i:Int} {o:eg} (ho:qd o≤100000):qZ qd (l.set i.toNat o)<pR:=Lw h ho _
theorem CL (o:eg) (b x:Int):qd (linked o b x)=qd o:=by unfold qd linked;simp only [List.length_set]
theorem Df {l:List Int} (h:l.length=2) {b:Int} (hb:qg b 0 1=true):idx l b=some (nth l b):=by
  rw [rL] at hb
  exact rl hb.1 (by omega)
theorem sa {a:Int} (h:(a != 0)=false):a=0:=by simpa using h
theorem Iy {N:Nat} (hN:pR≤N) {h:qe} (h1:qZ qd h.ag<pR) (h2:h.gc.j8.length+1<pR) (c i:Int) {β:Type} (f:qe→Option β):(bif decide (c ≥ 0) then (vo N h i).bind f else f h)=f (tX h c i):=by
  unfold tX
  rw [Kh hN h1 h2]
  cases decide (c ≥ 0) <;> rfl
theorem M5 {N:Nat} (hN:pR≤N) {p:cd} (hp:sP p) (me now th:Int) (c:qn):vf N (qj.mk p me now th) c=some ((tU p me now c).1,qj.mk (tU p me now c).2.2 me now th):=by
  have h4:=hp.b4
  unfold vf tU
  simp only [ud,B3 hN,h4,Option.bind_some,A5,Bl,Bx]
  cases q1:qg c.b 0 1
  · rfl
  cases q2:qY p.heap.ag now me c.a 0 != 0
  case true=>rfl
  have q2':=sa q2
  obtain ⟨ar,g0,g9,gk,_⟩:=tC q2'
  have l2:=Fj (ar.ok _ (ar.at g0 g9).2) (by simpa using gk)
  simp only [Bool.not_true,cond_false,q2',beq_self_eq_true,cond_true]
  generalize qb p.heap.ag now me c.a=i at *
  have hs:∀ x,qZ qd (p.heap.ag.set i.toNat (linked (nth p.heap.ag i) c.b x))<pR:=fun x=>Dc ar (by rw [CL];have:=va ar g0 g9;omega)
  cases hk:c.kind==2
  · simp only [cond_false,Option.bind_some,Sum.elim_inl,(ar.at g0 g9).1,Df l2 q1,Bool.false_and]
    rfl
  · cases q3:qY p.heap.ag now me c.c 0 != 0
    · have q3':=sa q3
      simp only [cond_true,cond_false,Option.bind_some,Sum.elim_inl,(ar.at g0 g9).1,Df l2 q1,Bool.and_false,q3',beq_self_eq_true]
      generalize qb p.heap.ag now me c.c=x
      exact Iy (h:=qe.mk (p.heap.ag.set i.toNat (linked (nth p.heap.ag i) c.b x)) p.heap.gc) hN (hs x) hp.b5 x x fun y=>some ((0:Int),qj.mk (vW p y) me now th)
    · rfl
def IP (p:cd):cd:=cd.mk p.label p.own p.tree p.heap p.pN p.next p.want p.dz (if 1000000<IntKind.i64.wrap (p.pV+1) then 1000000 else IntKind.i64.wrap (p.pV+1)) p.lost
def fin (c:qn) (p:cd) (r:Int×Int×cd):cd×qh:=bif r.1==0 then (r.2.2,qh.mk 0 r.2.1) else (bif (c.kind==1)&&((r.1==6) || (r.1==7)) then IP p else p,qh.mk r.1 0)
theorem Aj (c:qn) (p q:cd) (v:Int):fin c p (0,v,q)=(q,qh.mk 0 v):=rfl
theorem sU {c:qn} {p q:cd} {k v:Int} (h:(k != 0)=true) (hc:(c.kind==1)=false):fin c p (k,v,q)=(p,qh.mk k 0):=by
  unfold fin
  have:(k==0)=false:=by simpa [bne] using h
  rw [this,hc];rfl
theorem C7 {N:Nat} (hN:pR≤N) {h:qe} (h1:qZ qd h.ag<pR) (h2:h.gc.j8.length+1<pR) (hw:wA h.ag) (c i:Int) {β:Type} (f:qe→Option β):((bif decide (c ≥ 0) then ((vq N h i).bind fun y=>some (y.ag,y.gc.phase,y.gc.pos,y.gc.round,y.gc.j8)) else (some (h.ag,h.gc.phase,h.gc.pos,h.gc.round,h.gc.j8)):Option ((List eg)×Int×Int×Int×(List Int))).bind fun j=>f (qe.mk j.1 (rr.mk j.2.1 j.2.2.1 j.2.2.2.1 j.2.2.2.2)))=f (tX h c i):=by
  unfold tX
  rw [J7 hN h1 h2 hw]
  cases decide (c ≥ 0) <;> rfl
theorem Oa {N:Nat} (hN:pR≤N) {p:cd} (hp:sP p) (me now:Int) {c:qn} (hc:(c.kind==1)=false):xV N p me now c=some (fin c p (tU p me now c)):=by
  have h4:=hp.b4
  unfold xV tU
  simp only [uk,D1 hN h4 hp.w,Option.bind_some]
  cases q1:qg c.b 0 1
  · simp only [Bool.not_false,cond_true,sU (show ((2:Int) != 0)=true from rfl) hc]
  cases q2:qY p.heap.ag now me c.a 0 != 0
  case true=>simp only [Bool.not_true,cond_false,cond_true,sU q2 hc]
  have q2':=sa q2
  obtain ⟨ar,g0,g9,gk,_⟩:=tC q2'
  have l2:=Fj (ar.ok _ (ar.at g0 g9).2) (by simpa using gk)
  simp only [Bool.not_true,cond_false,q2',beq_self_eq_true,cond_true]
  generalize qb p.heap.ag now me c.a=i at *
  have hs:∀ x,qZ qd (p.heap.ag.set i.toNat (linked (nth p.heap.ag i) c.b x))<pR:=fun x=>Dc ar (by rw [CL];have:=va ar g0 g9;omega)
  have hx:∀ x,wA (p.heap.ag.set i.toNat (linked (nth p.heap.ag i) c.b x)):=fun x=>tA hp.w (show xR (nth p.heap.ag i) from hp.w _ (ar.at g0 g9).2)
  cases hk:c.kind==2
  · simp only [cond_false,Option.bind_some,Sum.elim_inl,(ar.at g0 g9).1,Df l2 q1,Bool.false_and,Aj]
    exact C7 (h:=qe.mk (p.heap.ag.set i.toNat (linked (nth p.heap.ag i) c.b (-1))) p.heap.gc) hN (hs (-1)) hp.b5 (hx (-1)) (-1) (-1) fun y=>some (vW p y,qh.mk 0 0)
  · cases q3:qY p.heap.ag now me c.c 0 != 0
    · have q3':=sa q3
      simp only [cond_true,cond_false,Option.bind_some,Sum.elim_inl,(ar.at g0 g9).1,Df l2 q1,Bool.and_false,q3',beq_self_eq_true,Aj]
      generalize qb p.heap.ag now me c.c=x
      exact C7 (h:=qe.mk (p.heap.ag.set i.toNat (linked (nth p.heap.ag i) c.b x)) p.heap.gc) hN (hs x) hp.b5 (hx x) x x fun y=>some (vW p y,qh.mk 0 0)
    · simp only [cond_true,cond_false,Option.bind_some,Sum.elim_inr,Bool.and_true,sU q3 hc]
def N2 (p:cd) (i x:Int):cd:=vW p (tX (qe.mk (p.heap.ag.set i.toNat (boxed (nth p.heap.ag i) x)) p.heap.gc) x i)
def tW (p:cd) (me now:Int) (c:qn):Int×Int×cd :=
  bif qY p.heap.ag now me c.a 0 != 0 then (qY p.heap.ag now me c.a 0,0,p) else
  bif qb p.heap.ag now me c.a==0 then (5,0,p) else
  bif (c.kind==4)&&(qY p.heap.ag now me c.b 1 != 0) then (qY p.heap.ag now me c.b 1,0,p) else
  (0,0,N2 p (qb p.heap.ag now me c.a) (bif c.kind==4 then qb p.heap.ag now me c.b else -1))
theorem NL {N:Nat} (hN:pR≤N) {p:cd} (hp:sP p) (me now th:Int) (c:qn):vi N (qj.mk p me now th) c=some ((tW p me now c).1,qj.mk (tW p me now c).2.2 me now th):=by
  have h4:=hp.b4
  unfold vi tW
  simp only [B3 hN,h4,Option.bind_some,A5,Bl,Bx]
  cases q2:qY p.heap.ag now me c.a 0 != 0
  case true=>rfl
  have q2':=sa q2
  obtain ⟨ar,g0,g9,gk,_⟩:=tC q2'
  simp only [Bool.not_true,cond_false,q2',beq_self_eq_true,cond_true]
  generalize qb p.heap.ag now me c.a=i at *
  cases hi:i==0
  case true=>rfl
  have hs:∀ x,qZ qd (p.heap.ag.set i.toNat (boxed (nth p.heap.ag i) x))<pR:=fun x=>Dc ar (by have:qd (nth p.heap.ag i)≤12:=va ar g0 g9;show qd (nth p.heap.ag i)≤_;omega)
  cases hk:c.kind==4
  · simp only [cond_false,Option.bind_some,Sum.elim_inl,(ar.at g0 g9).1,Bool.false_and]
    rfl
  · cases q3:qY p.heap.ag now me c.b 1 != 0
    · have q3':=sa q3
      simp only [cond_true,cond_false,Option.bind_some,Sum.elim_inl,(ar.at g0 g9).1,Bool.and_false,q3',beq_self_eq_true]
      generalize qb p.heap.ag now me c.b=x
      exact Iy (h:=qe.mk (p.heap.ag.set i.toNat (boxed (nth p.heap.ag i) x)) p.heap.gc) hN (hs x) hp.b5 x i fun y=>some ((0:Int),qj.mk (vW p y) me now th)
    · rfl
theorem NQ {N:Nat} (hN:pR≤N) {p:cd} (hp:sP p) (me now:Int) {c:qn} (hc:(c.kind==1)=false):yj N p me now c=some (fin c p (tW p me now c)):=by
  have h4:=hp.b4
  unfold yj tW
  simp only [D1 hN h4 hp.w,D4 hN h4 hp.w _ _ _ (show (0:Int)<1 by decide),Option.bind_some]
  cases q2:qY p.heap.ag now me c.a 0 != 0
  case true=>simp only [cond_true,sU q2 hc]
  have q2':=sa q2
  obtain ⟨ar,g0,g9,gk,_⟩:=tC q2'
  simp only [Bool.not_true,cond_false,q2',beq_self_eq_true,cond_true]
  generalize qb p.heap.ag now me c.a=i at *
  cases hi:i==0
  case true=>simp only [cond_true,sU (show ((5:Int) != 0)=true from rfl) hc]
  have hs:∀ x,qZ qd (p.heap.ag.set i.toNat (boxed (nth p.heap.ag i) x))<pR:=fun x=>Dc ar (by have:qd (nth p.heap.ag i)≤12:=va ar g0 g9;show qd (nth p.heap.ag i)≤_;omega)
  have hx:∀ x,wA (p.heap.ag.set i.toNat (boxed (nth p.heap.ag i) x)):=fun x=>tA hp.w (show xR (nth p.heap.ag i) from hp.w _ (ar.at g0 g9).2)
  cases hk:c.kind==4
  · simp only [cond_false,Option.bind_some,Sum.elim_inl,(ar.at g0 g9).1,Bool.false_and,Aj]
    exact C7 (h:=qe.mk (p.heap.ag.set i.toNat (boxed (nth p.heap.ag i) (-1))) p.heap.gc) hN (hs (-1)) hp.b5 (hx (-1)) (-1) i fun y=>some (vW p y,qh.mk 0 0)
  · cases q3:qY p.heap.ag now me c.b 1 != 0
    · have q3':=sa q3
      simp only [cond_true,cond_false,Option.bind_some,Sum.elim_inl,(ar.at g0 g9).1,Bool.and_false,q3',beq_self_eq_true,Aj]
      generalize qb p.heap.ag now me c.b=x
      exact C7 (h:=qe.mk (p.heap.ag.set i.toNat (boxed (nth p.heap.ag i) x)) p.heap.gc) hN (hs x) hp.b5 (hx x) x i fun y=>some (vW p y,qh.mk 0 0)
    · simp only [cond_true,cond_false,Option.bind_some,Sum.elim_inr,Bool.and_true,sU q3 hc]
def Me (p:cd) (i b x:Int):cd:=yB p (p.heap.ag.set i.toNat (written (nth p.heap.ag i) b x))
def ra (p:cd) (me now:Int) (c:qn):Int×Int×cd :=
  bif qY p.heap.ag now me c.a 2 != 0 then (qY p.heap.ag now me c.a 2,0,p) else
  bif !qg c.b 0 (((nth p.heap.ag (qb p.heap.ag now me c.a)).data.length:Int) - 1) then (2,0,p) else
  bif c.kind==7 then (0,nth (nth p.heap.ag (qb p.heap.ag now me c.a)).data c.b,p) else
  bif !qg c.c 0 999 then (2,0,p) else (0,0,Me p (qb p.heap.ag now me c.a) c.b c.c)
theorem FY {α:Type} {l:List α} (h:l.length<pR):IntKind.i64.wrap ((l.length:Int) - 1)=(l.length:Int) - 1:=by
  have:l.length<16777216:=h
  exact rN (by omega) (by omega)
theorem Gp {o:eg} (h:qd o≤12):o.data.length<pR:=by
  have hB:(16777216:Nat)=pR:=rfl
  unfold qd at h
  omega
theorem J8 {N:Nat} (hN:pR≤N) {p:cd} (hp:sP p) (me now th:Int) (c:qn):tY N (qj.mk p me now th) c=some ((ra p me now c).1,(ra p me now c).2.1,qj.mk (ra p me now c).2.2 me now th):=by
  have h4:=hp.b4
  unfold tY ra
  simp only [B3 hN,h4,ud,Option.bind_some,A5,Bl,Bx]
  cases q2:qY p.heap.ag now me c.a 2 != 0
  case true=>rfl
  have q2':=sa q2
  obtain ⟨ar,g0,g9,gk,_⟩:=tC q2'
  simp only [Bool.not_true,cond_false,q2',beq_self_eq_true,cond_true]
  generalize qb p.heap.ag now me c.a=i at *
  have ho:=va ar g0 g9
  simp only [(ar.at g0 g9).1,Option.bind_some,FY (Gp ho)]
  cases q3:qg c.b 0 (((nth p.heap.ag i).data.length:Int) - 1)
  · rfl
  have hd:idx (nth p.heap.ag i).data c.b=some (nth (nth p.heap.ag i).data c.b):=by
    rw [rL] at q3
    exact rl q3.1 (by omega)
  simp only [Bool.not_true,cond_false,hd,Option.bind_some]
  cases c.kind==7
  · cases qg c.c 0 999 <;> rfl
  · rfl
theorem KE {N:Nat} (hN:pR≤N) {p:cd} (hp:sP p) (me now:Int) {c:qn} (hc:(c.kind==1)=false) (hk:(c.kind==6)=!(c.kind==7)):vM N p me now c=some (fin c p (ra p me now c)):=by
  have h4:=hp.b4
  unfold vM ra
  simp only [D4 hN h4 hp.w _ _ _ (show (0:Int)<2 by decide),uk,Option.bind_some]
  cases q2:qY p.heap.ag now me c.a 2 != 0
  case true=>simp only [cond_true,sU q2 hc]
  have q2':=sa q2
  obtain ⟨ar,g0,g9,gk,_⟩:=tC q2'
  simp only [Bool.not_true,cond_false,q2',beq_self_eq_true,cond_true]
  generalize qb p.heap.ag now me c.a=i at *
  have ho:=va ar g0 g9
  simp only [(ar.at g0 g9).1,Option.bind_some,FY (Gp ho)]
  cases q3:qg c.b 0 (((nth p.heap.ag i).data.length:Int) - 1)
  · simp only [Bool.not_false,cond_true,Option.bind_some,sU (show ((2:Int) != 0)=true from rfl) hc]
  have hd:idx (nth p.heap.ag i).data c.b=some (nth (nth p.heap.ag i).data c.b):=by
    rw [rL] at q3
    exact rl q3.1 (by omega)
  rw [hk]
  simp only [Bool.not_true,cond_false,hd,Option.bind_some]
  cases c.kind==7
  · cases qg c.c 0 999
    · simp only [Bool.not_false,cond_true,cond_false,Option.bind_some,sU (show ((2:Int) != 0)=true from rfl) hc]
    · rfl
  · rfl
def uS (p:cd) (f:Int) (a:qa):Bool:=(rH p.tree f a).2&&(uO p.dz (qa.mk 0 a.pU 0)).2
def CH (p:cd) (f:Int) (a:qa):cd:=cd.mk p.label p.own (rH p.tree f a).1 p.heap p.pN p.next p.want (uO p.dz (qa.mk 0 a.pU 0)).1 p.pV p.lost
theorem JT (p:cd) (f:Int) (a:qa):(CH p f a).heap=p.heap:=rfl
theorem sP.b3 {p:cd} (h:sP p):p.tree.length<pR:=(sc (p:=p) (Nat.lt_of_le_of_lt h.sz (by decide))).2.2.1
theorem LK {N:Nat} (hN:pR≤N) {x:qj} (hB:x.part.tree.length<pR) (f:Int) (a:qa):uI N x f a=some (uS x.part f a,bif uS x.part f a then qj.mk (CH x.part f a) x.me x.now x.qB else x):=by
  unfold uI uS
  simp only [CO hN hB,K9,Option.bind_some,sG]
  cases (rH x.part.tree f a).2 <;> cases (uO x.part.dz (qa.mk 0 a.pU 0)).2 <;> rfl
def so (p:cd) (me now:Int) (c:qn):Int×Int×cd :=
  bif qY p.heap.ag now me c.a 0 != 0 then (qY p.heap.ag now me c.a 0,0,p) else
  bif (qb p.heap.ag now me c.a==0) || (!qg c.b 1 1000 || decide (IntKind.i64.wrap ((nth p.heap.ag (qb p.heap.ag now me c.a)).qp+c.b) > 1000000)) then (2,0,p) else
  bif !uS p (wU p (nth p.heap.ag (qb p.heap.ag now me c.a)).res) (qa.mk 0 (IntKind.i64.wrap ((nth p.heap.ag (qb p.heap.ag now me c.a)).bh * c.b)) 0) then (6,0,p) else
  (0,0,yB (CH p (wU p (nth p.heap.ag (qb p.heap.ag now me c.a)).res) (qa.mk 0 (IntKind.i64.wrap ((nth p.heap.ag (qb p.heap.ag now me c.a)).bh * c.b)) 0)) (p.heap.ag.set (qb p.heap.ag now me c.a).toNat (Kc (nth p.heap.ag (qb p.heap.ag now me c.a)) (IntKind.i64.wrap ((nth p.heap.ag (qb p.heap.ag now me c.a)).qp+c.b)))))
theorem Mm {N:Nat} (hN:pR≤N) {p:cd} (hp:sP p) (me now th:Int) (c:qn):uT N (qj.mk p me now th) c=some ((so p me now c).1,qj.mk (so p me now c).2.2 me now th):=by
  have h4:=hp.b4
  have h3:=hp.b3
  unfold uT so
  simp only [B3 hN,h4,ud,Option.bind_some,A5,Bl,Bx]
  cases q2:qY p.heap.ag now me c.a 0 != 0
  case true=>rfl
  have q2':=sa q2
  obtain ⟨ar,g0,g9,gk,_⟩:=tC q2'
  simp only [Bool.not_true,cond_false,q2',beq_self_eq_true,cond_true]
  generalize qb p.heap.ag now me c.a=i at *
  simp only [(ar.at g0 g9).1,Option.bind_some,sG,IE hN,LK hN,h3]
  cases ((i==0) || (!qg c.b 1 1000 || decide (IntKind.i64.wrap ((nth p.heap.ag i).qp+c.b) > 1000000)))
  · cases uS p (wU p (nth p.heap.ag i).res) (qa.mk 0 (IntKind.i64.wrap ((nth p.heap.ag i).bh * c.b)) 0) <;> rfl
  · rfl
theorem Mb {N:Nat} (hN:pR≤N) {p:cd} (hp:sP p) (me now:Int) {c:qn} (hc:(c.kind==1)=false):xz N p me now c=some (fin c p (so p me now c)):=by
  have h4:=hp.b4
  have h3:=hp.b3
  unfold xz so
  simp only [D1 hN h4 hp.w,uk,Option.bind_some]
  cases q2:qY p.heap.ag now me c.a 0 != 0
  case true=>simp only [cond_true,sU q2 hc]
  have q2':=sa q2
  obtain ⟨ar,g0,g9,gk,_⟩:=tC q2'
  simp only [Bool.not_true,cond_false,q2',beq_self_eq_true,cond_true]
  generalize qb p.heap.ag now me c.a=i at *
  simp only [(ar.at g0 g9).1,Option.bind_some,sG,ID hN,Bw hN h3,B6]
  cases ((i==0) || (!qg c.b 1 1000 || decide (IntKind.i64.wrap ((nth p.heap.ag i).qp+c.b) > 1000000)))
  · unfold uS
    cases (rH p.tree (wU p (nth p.heap.ag i).res) (qa.mk 0 (IntKind.i64.wrap ((nth p.heap.ag i).bh * c.b)) 0)).2 <;> cases (uO p.dz (qa.mk 0 (IntKind.i64.wrap ((nth p.heap.ag i).bh * c.b)) 0)).2 <;> simp only [Bool.not_true,Bool.not_false,Bool.and_self,Bool.and_false,Bool.false_and,Bool.or_self,Bool.or_true,Bool.true_or,Bool.false_or,Bool.or_false,Bool.true_and,Bool.and_true,cond_true,cond_false,sU (show ((6:Int) != 0)=true from rfl) hc,Aj]
    rfl
  · simp only [cond_true,sU (show ((2:Int) != 0)=true from rfl) hc]
def ub (p:cd) (c:qn):Int×Int×cd :=
  bif c.kind==9 then
    bif !qg c.a 0 4 || !qX (qa.mk c.b c.c c.d) then (2,0,p) else
    bif !(s5 p.tree c.a (qa.mk c.b c.c c.d)).2.2 then (6,0,p) else (0,(s5 p.tree c.a (qa.mk c.b c.c c.d)).2.1,Cp p (s5 p.tree c.a (qa.mk c.b c.c c.d)).1)
  else bif c.kind==10 then
    bif !qg c.a 0 4 || (!qg c.b 0 4 || (!qg c.c 0 2 || !CT c.d)) then (2,0,p) else
    bif !(ue p.tree c.a c.b (yb c.c c.d)).2 then (6,0,p) else (0,0,Cp p (ue p.tree c.a c.b (yb c.c c.d)).1)
  else bif !(uf p.tree c.a).2 then (2,0,p) else (0,0,Cp p (uf p.tree c.a).1)
theorem Km {N:Nat} (hN:pR≤N) {p:cd} (hp:sP p) (me now th:Int) (c:qn):tT N (qj.mk p me now th) c=some ((ub p c).1,(ub p c).2.1,qj.mk (ub p c).2.2 me now th):=by
  have h3:=hp.b3
  unfold tT ub
  simp only [Ao,xH,ud,Et,Lf,H5 hN h3,Jy hN h3,Jf hN h3,Option.bind_some,sG]
  cases c.kind==9
  · cases c.kind==10
    · cases (uf p.tree c.a).2 <;> rfl
    · cases (!qg c.a 0 4 || (!qg c.b 0 4 || (!qg c.c 0 2 || !CT c.d)))
      · cases (ue p.tree c.a c.b (yb c.c c.d)).2 <;> rfl
      · rfl
  · cases (!qg c.a 0 4 || !qX (qa.mk c.b c.c c.d))
    · cases (s5 p.tree c.a (qa.mk c.b c.c c.d)).2.2 <;> rfl
    · rfl
theorem Oo {N:Nat} (hN:pR≤N) {p:cd} (hp:sP p) {c:qn} (hc:(c.kind==1)=false):zi N p c=some (fin c p (ub p c)):=by
  have h3:=hp.b3
  have n2:=fun q=>sU (p:=p) (q:=q) (v:=0) (show ((2:Int) != 0)=true from rfl) hc
  have n6:=fun q=>sU (p:=p) (q:=q) (v:=0) (show ((6:Int) != 0)=true from rfl) hc
  unfold zi ub
  simp only [AX,yF,uk,O7,Lk,HU hN h3,Ji hN h3,JE hN h3,Option.bind_some,sG]
  cases c.kind==9
  · cases c.kind==10
    · cases (uf p.tree c.a).2
      · simp only [Bool.not_false,cond_true,cond_false,n2]
      · rfl
    · cases (!qg c.a 0 4 || (!qg c.b 0 4 || (!qg c.c 0 2 || !CT c.d)))
      · cases (ue p.tree c.a c.b (yb c.c c.d)).2
        · simp only [Bool.not_false,cond_true,cond_false,n6]
        · rfl
      · simp only [cond_true,cond_false,n2]
  · cases (!qg c.a 0 4 || !qX (qa.mk c.b c.c c.d))
    · cases (s5 p.tree c.a (qa.mk c.b c.c c.d)).2.2
      · simp only [Bool.not_false,cond_true,cond_false,n6]
      · rfl
    · simp only [cond_true,n2]
def zy (p:cd) (th a:Int):Int×Int×cd :=
  bif a==0 then (0,(nth p.heap.ag th).qq,p) else bif a==1 then (0,(nth p.heap.ag th).qo,p) else
  bif (a==2) || ((a==3) || (a==4)) then (0,BV (D7 p th) (IntKind.i64.wrap (a - 2)),p) else (2,0,p)
theorem Eg (a b c:Bool):(bif a then some a else bif b then some b else some c)=some (a || (b || c)):=by cases a <;> cases b <;> rfl
theorem M7 (a b:Bool):(bif a then some a else some b)=some (a || b):=by cases a <;> rfl
theorem NF {N:Nat} (hN:pR≤N) {p:cd} (hp:sP p) (me now:Int) {th:Int} (h0:0≤th) (h9:th≤9) (a:Int):u5 N (qj.mk p me now th) a=some ((zy p th a).1,(zy p th a).2.1,qj.mk (zy p th a).2.2 me now th):=by
  unfold u5 zy
  simp only [(hp.ar.at h0 h9).1,M1 hN hp.ok h0 h9,Kf,Option.bind_some,Eg]
  cases a==0
  · cases a==1
    · cases (a==2) || ((a==3) || (a==4)) <;> rfl
    · rfl
  · rfl
theorem Nd {N:Nat} (hN:pR≤N) {p:cd} (hp:sP p) {th:Int} (h0:0≤th) (h9:th≤9) {c:qn} (hc:(c.kind==1)=false):yh N p th c=some (fin c p (zy p th c.a)):=by
  unfold yh zy
  obtain ⟨r0,r4⟩:=FA p (nth p.heap.ag th).res
  simp only [(hp.ar.at h0 h9).1,ID hN,Iu hp.ok r0 r4,JW,Option.bind_some,Eg,Nt]
  cases c.a==0
  · cases c.a==1
    · cases (c.a==2) || ((c.a==3) || (c.a==4))
      · simp only [cond_false,sU (show ((2:Int) != 0)=true from rfl) hc]
      · rfl
    · rfl
  · rfl
theorem GL {l:List eg} {o:eg}:∀ (m:List eg) (k:Nat),AI l o k m=(l, -1)∨∃ (j:Nat) (g:Int),j<k+m.length∧AI l o k m=(l.set j (sD o g),(j:Int))∧rX (l.set j (sD o g))=true
  | [],k=>.inl rfl
  | x::m,k=>by
    unfold AI
    split
    · rcases GL (l:=l) (o:=o) m (k+1) with h | ⟨j,g,h1,h2,h3⟩
      · exact .inl h
      · exact .inr ⟨j,g,by simp only [List.length_cons];omega,h2,h3⟩
    · unfold putAt
      split
      · rename_i q
        simp only [Bool.and_eq_true] at q
        exact .inr ⟨k,_,by simp,rfl,q.1⟩
      · exact .inl rfl
theorem BQ {l:List eg} {o:eg} (h:decide ((sB l o).2<0)=false):∃ (j:Nat) (g:Int),sB l o=(l.set j (sD o g),(j:Int))∧Ar (l.set j (sD o g))∧j<10:=by
  unfold sB at *
  cases ha:rX l
  · rw [ha] at h;simp at h
  · rw [ha] at h
    simp only [if_true] at *
    have hl:=(sq.1 ha).len
    rcases GL (l:=l) (o:=o) (l.drop 1) 1 with e | ⟨j,g,h1,h2,h3⟩
    · rw [e] at h;simp at h
    · exact ⟨j,g,h2,sq.1 h3,by simp only [List.length_drop] at h1;omega⟩
def newObj (now box:Int) (c:qn):eg:=eg.mk 0 c.a box c.e (IntKind.i64.wrap (now+c.d)) c.c 0 0 0 false [-1, -1] (bif c.a==2 then List.replicate c.c.toNat 0 else []) []
def xJ (now:Int) (c:qn):Bool:=!qg c.a 1 4 || (!qg c.c 0 8 || (!qg c.d 1 1000 || (decide (IntKind.i64.wrap (now+c.d) > 1000000) || !qg c.e 0 4)))
def cost (c:qn):qa:=qa.mk c.c (IntKind.i64.wrap (c.c * c.d)) 0
def tz (p:cd) (me now:Int) (c:qn):Int×Int×cd :=
  bif xJ now c then (2,0,p) else
  bif qY p.heap.ag now me c.b 1 != 0 then (qY p.heap.ag now me c.b 1,0,p) else
  bif !uS p c.e (cost c) then (6,0,p) else
  bif decide ((sB p.heap.ag (newObj now (qb p.heap.ag now me c.b) c)).2<0) then (7,0,CH p c.e (cost c)) else
  (0,zH me (sB p.heap.ag (newObj now (qb p.heap.ag now me c.b) c)).2 (nth (sB p.heap.ag (newObj now (qb p.heap.ag now me c.b) c)).1 (sB p.heap.ag (newObj now (qb p.heap.ag now me c.b) c)).2).gen,
    vW (CH p c.e (cost c)) (vz (qe.mk (sB p.heap.ag (newObj now (qb p.heap.ag now me c.b) c)).1 p.heap.gc) (sB p.heap.ag (newObj now (qb p.heap.ag now me c.b) c)).2))
theorem BF {now:Int} {c:qn} (h:xJ now c=false):0≤c.c∧c.c≤8:=by
  unfold xJ at h
  simp only [Bool.or_eq_false_iff,Bool.not_eq_false'] at h
  exact rL.1 h.2.1
theorem Cz {now box:Int} {c:qn} (h:0≤c.c∧c.c≤8):qd (newObj now box c)≤100:=by
  unfold qd newObj
  cases c.a==2
  · simp
  · simp only [cond_true,List.length_replicate,List.length_cons,List.length_nil]
    omega
theorem DQ (now box:Int) (c:qn):xR (newObj now box c):=by show (-9223372036854775808:Int)≤0;decide
theorem Nz {c:Int} (h:0≤c∧c≤8):mk Int c=some (List.replicate c.toNat 0):=by
  have hB:(16777216:Nat)=pR:=rfl
  unfold mk
  rw [if_pos ⟨h.1,by omega⟩]
  rfl
theorem LZ (a b c d e:Bool):(bif a then some true else bif b then some true else bif c then some true else bif d then some true else some e)=some (a || (b || (c || (d || e)))):=by cases a <;> cases b <;> cases c <;> cases d <;> rfl
theorem Nh {N:Nat} (hN:pR+1≤N) {p:cd} (hp:sP p) (me now th:Int) (c:qn):vh N (qj.mk p me now th) c=some ((tz p me now c).1,(tz p me now c).2.1,qj.mk (tz p me now c).2.2 me now th):=by
  have hN':pR≤N:=Nat.le_of_succ_le hN
  have h4:=hp.b4
  have h3:=hp.b3
  have h5:=hp.b5
  unfold vh tz
  simp only [B3 hN',h4,ud,Ao,Option.bind_some,A5,Bl,Bx,LZ]
  rw [show (!qg c.a 1 4 || (!qg c.c 0 8 || (!qg c.d 1 1000 || (decide (IntKind.i64.wrap (now+c.d) > 1000000) || !qg c.e 0 4))))=xJ now c from rfl]
  cases q1:xJ now c
  case true=>rfl
  have hc:=BF q1
  cases q2:qY p.heap.ag now me c.b 1 != 0
  case true=>rfl
  have q2':=sa q2
  simp only [cond_false,cond_true,q2',beq_self_eq_true]
  generalize qb p.heap.ag now me c.b=box
  rw [show qa.mk c.c (IntKind.i64.wrap (c.c * c.d)) 0=cost c from rfl]
  simp only [LK hN' (x:=qj.mk p me now th) h3,Option.bind_some]
  cases q3:uS p c.e (cost c)
  · rfl
  simp only [Bool.not_true,cond_false,cond_true,Nz hc,Option.bind_some,JT]
  rw [show (bif c.a==2 then some (List.replicate c.c.toNat 0) else some ([]:List Int))=some (bif c.a==2 then List.replicate c.c.toNat 0 else []) from vU _ _ _]
  simp only [Option.bind_some]
  rw [show eg.mk 0 c.a box c.e (IntKind.i64.wrap (now+c.d)) c.c 0 0 0 false [-1, -1] (bif c.a==2 then List.replicate c.c.toNat 0 else []) []=newObj now box c from rfl]
  have ho:=Cz (now:=now) (box:=box) hc
  rw [IY hN h4 (o:=newObj now box c) (by omega)]
  simp only [Option.bind_some]
  cases q4:decide ((sB p.heap.ag (newObj now box c)).2<0)
  case true=>rfl
  obtain ⟨j,g,e,ar,hj⟩:=BQ q4
  have h1:=ar.sz
  have hB:(16777216:Nat)=pR:=rfl
  rw [e]
  simp only [cond_false,(ar.at (i:=(j:Int)) (by omega) (by omega)).1,Option.bind_some,Ec]
  rw [Ln hN' (h:=qe.mk (p.heap.ag.set j (sD (newObj now box c) g)) p.heap.gc) (by show qZ qd (p.heap.ag.set j (sD (newObj now box c) g))<pR;omega) (by show p.heap.gc.j8.length<pR;omega)]
  rfl
theorem Gu (l:List eg) (now me h k:Int):(qY l now me h k==6)=false∧(qY l now me h k==7)=false:=by
  unfold qY
  cases uh h
  · exact ⟨rfl,rfl⟩
  cases uy h != me
  case true=>exact ⟨rfl,rfl⟩
  cases decide (qb l now me h<0)
  case true=>exact ⟨rfl,rfl⟩
  cases (k != 0)&&((nth l (qb l now me h)).kind != k) <;> exact ⟨rfl,rfl⟩
theorem F8 {c:qn} {p q:cd} {k v:Int} (h:(k != 0)=true) (h6:(k==6)=false) (h7:(k==7)=false):fin c p (k,v,q)=(p,qh.mk k 0):=by
  unfold fin
  have:(k==0)=false:=by simpa [bne] using h
  rw [this]
  simp only [cond_false,h6,h7,Bool.or_self,Bool.and_false]
theorem Ff {c:qn} {p q:cd} {k v:Int} (h:(k != 0)=true) (h6:((k==6) || (k==7))=true) (hc:(c.kind==1)=true):fin c p (k,v,q)=(IP p,qh.mk k 0):=by
  unfold fin
  have:(k==0)=false:=by simpa [bne] using h
  rw [this]
  simp only [cond_false,h6,hc,Bool.and_self,cond_true]
theorem NS {N:Nat} (hN:pR≤N) {p:cd} (hp:sP p) (me now:Int) {c:qn} (hc1:(c.kind==1)=true):yk N p me now c=some (fin c p (tz p me now c)):=by
  have h4:=hp.b4
  have h3:=hp.b3
  have h5:=hp.b5
  unfold yk tz
  simp only [D4 hN h4 hp.w _ _ _ (show (0:Int)<1 by decide),uk,AX,Option.bind_some,LZ]
  rw [show (!qg c.a 1 4 || (!qg c.c 0 8 || (!qg c.d 1 1000 || (decide (IntKind.i64.wrap (now+c.d) > 1000000) || !qg c.e 0 4))))=xJ now c from rfl]
  cases q1:xJ now c
  case true=>simp only [cond_true,F8 (show ((2:Int) != 0)=true from rfl) rfl rfl]
  have hc:=BF q1
  cases q2:qY p.heap.ag now me c.b 1 != 0
  case true=>simp only [cond_true,cond_false,F8 q2 (Gu _ _ _ _ _).1 (Gu _ _ _ _ _).2]
  have q2':=sa q2
  simp only [cond_false,cond_true,q2',beq_self_eq_true]
  generalize qb p.heap.ag now me c.b=box
  rw [show qa.mk c.c (IntKind.i64.wrap (c.c * c.d)) 0=cost c from rfl]
  simp only [Bw hN h3,B6,Option.bind_some,sG]
  rw [show (!(rH p.tree c.e (cost c)).2 || !(uO p.dz (qa.mk 0 (IntKind.i64.wrap (c.c * c.d)) 0)).2)=!uS p c.e (cost c) by unfold uS;rw [Bool.not_and];rfl]
  cases q3:uS p c.e (cost c)
  · simp only [Bool.not_false,cond_true,Ff (show ((6:Int) != 0)=true from rfl) rfl hc1]
    rfl
  simp only [Bool.not_true,cond_false,cond_true,Nz hc,Option.bind_some]
  rw [show (bif c.a==2 then some (List.replicate c.c.toNat 0) else some ([]:List Int))=some (bif c.a==2 then List.replicate c.c.toNat 0 else []) from vU _ _ _]
  simp only [Option.bind_some]
  rw [show eg.mk 0 c.a box c.e (IntKind.i64.wrap (now+c.d)) c.c 0 0 0 false [-1, -1] (bif c.a==2 then List.replicate c.c.toNat 0 else []) []=newObj now box c from rfl]
  have ho:=Cz (now:=now) (box:=box) hc
  rw [I2 hN h4 hp.w (o:=newObj now box c) (by omega) (DQ _ _ _)]
  simp only [Option.bind_some]
  cases q4:decide ((sB p.heap.ag (newObj now box c)).2<0)
  case true =>
    simp only [cond_true,Ff (show ((7:Int) != 0)=true from rfl) rfl hc1]
    rfl
  obtain ⟨j,g,e,ar,hj⟩:=BQ q4
  have h1:=ar.sz
  have hB:(16777216:Nat)=pR:=rfl
  have hw':wA (p.heap.ag.set j (sD (newObj now box c) g)):=tA hp.w (DL (DQ _ _ _))
  rw [e]
  simp only [cond_false,(ar.at (i:=(j:Int)) (by omega) (by omega)).1,Option.bind_some,Ek]
  rw [Lo hN (h:=qe.mk (p.heap.ag.set j (sD (newObj now box c) g)) p.heap.gc) (by show qZ qd (p.heap.ag.set j (sD (newObj now box c) g))<pR;omega) (by show p.heap.gc.j8.length<pR;omega) hw']
  rfl
def Cd (l:List eg) (k w b:Int):List eg:=bif decide (k ≥ 0)&&((nth l k).wait==w) then (l.set k.toNat (waiting (nth l k) 0)).set k.toNat (DA (nth (l.set k.toNat (waiting (nth l k) 0)) k) b) else l
theorem E0 {l:List eg} {k w b:Int} (h:0≤k→k<(l.length:Int)) {β:Type} (f:List eg→Option β) :
    ((bif decide (k ≥ 0) then ((idx l k).bind fun y=>some (y.wait==w)) else (some false):Option Bool).bind fun j=>(bif j then ((idx l k).bind fun y=>(some (l.set (k:Int).toNat (waiting y 0))).bind fun z=>(idx z k).bind fun x=>(some (z.set (k:Int).toNat (DA x b))).bind fun v=>some v) else (some l):Option (List eg)).bind f)=f (Cd l k w b):=by
  unfold Cd
  cases hk:decide (k ≥ 0)
  · rfl
  have k0:0≤k:=by simpa using hk
  have e:=rl k0 (h k0)
  have e2:∀ z,idx (l.set k.toNat z) k=some (nth (l.set k.toNat z) k):=fun z=>rl k0 (by simp only [List.length_set];exact h k0)
  simp only [cond_true,e,e2,Option.bind_some,Bool.true_and]
  cases (nth l k).wait==w <;> rfl
def asked (l:List eg) (g me th:Int) (c:qn):List eg:=l.set g.toNat (vH (nth l g) ((nth l g).queue++[qt.mk (zH me th (nth l th).gen) c.b]))
def served (l:List eg) (g:Int):List eg:=l.set g.toNat (vH (nth l g) ((nth l g).queue.drop 1))
def s3 (p:cd) (me now th:Int) (c:qn):Int×Int×cd :=
  bif qY p.heap.ag now me c.a 3 != 0 then (qY p.heap.ag now me c.a 3,0,p) else
  bif !qg c.b 0 999 then (2,0,p) else
  bif c.kind==12 then
    bif decide (((nth p.heap.ag (qb p.heap.ag now me c.a)).queue.length:Int) ≥ 2) then (8,0,p) else
    (0,0,yB p ((asked p.heap.ag (qb p.heap.ag now me c.a) me th c).set th.toNat (waiting (nth (asked p.heap.ag (qb p.heap.ag now me c.a) me th c) th) (IntKind.i64.wrap (c.a+1)))))
  else
    bif ((nth p.heap.ag (qb p.heap.ag now me c.a)).queue.length:Int)==0 then (8,0,p) else
    (0,(nth (nth p.heap.ag (qb p.heap.ag now me c.a)).queue 0).n,yB p (Cd (served p.heap.ag (qb p.heap.ag now me c.a)) (qb (served p.heap.ag (qb p.heap.ag now me c.a)) now me (nth (nth p.heap.ag (qb p.heap.ag now me c.a)).queue 0).src) (IntKind.i64.wrap (c.a+1)) c.b))
theorem Ho {α:Type} {l:List α} {k:Nat} (h:k≤l.length):sub l (k:Int) (l.length:Int)=some (l.drop k):=by
  unfold sub
  rw [if_pos ⟨by omega,by omega,by omega⟩]
  simp only [Int.toNat_natCast]
  rw [List.take_of_length_le (by simp)]
theorem CC {o:eg} (h:qd o≤12):o.queue.length≤12:=by unfold qd at h;omega
theorem FD {o:eg} {q:List qt} (h:qd o≤12) (hq:q.length≤20):qd (vH o q)≤100000:=by
  unfold qd at h
  unfold qd vH
  simp only
  omega
theorem A0 {l:List eg} {now me h:Int} (hl:l.length=10) (h0:0≤qb l now me h):qb l now me h<(l.length:Int):=by
  obtain ⟨_,_,h9,_⟩:=Da (l:=l) (now:=now) (me:=me) (h:=h) (decide_eq_false (by omega))
  omega
theorem NV {N:Nat} (hN:pR≤N) {p:cd} (hp:sP p) (me now:Int) {th:Int} (t0:0≤th) (t9:th≤9) {c:qn} (hk:(c.kind==13)=!(c.kind==12)):vm N (qj.mk p me now th) c=some ((s3 p me now th c).1,(s3 p me now th c).2.1,qj.mk (s3 p me now th c).2.2 me now th):=by
  have h4:=hp.b4
  unfold vm s3
  simp only [B3 hN,h4,ud,Option.bind_some,A5,Bl,Bx]
  cases q2:qY p.heap.ag now me c.a 3 != 0
  case true=>rfl
  have q2':=sa q2
  obtain ⟨ar,g0,g9,gk,_⟩:=tC q2'
  simp only [Bool.not_true,cond_false,q2',beq_self_eq_true,cond_true]
  generalize qb p.heap.ag now me c.a=i at *
  have ho:=va ar g0 g9
  have hq:=CC ho
  have hl:=ar.len
  have hB:(16777216:Nat)=pR:=rfl
  simp only [(ar.at g0 g9).1,(ar.at t0 t9).1,Option.bind_some]
  cases q3:qg c.b 0 999
  · rfl
  rw [hk]
  cases q4:c.kind==12
  · simp only [Bool.not_true,Bool.not_false,cond_false,cond_true,Option.bind_some]
    cases q5:((nth p.heap.ag i).queue.length:Int)==0
    case true=>rfl
    have l1:1≤(nth p.heap.ag i).queue.length:=by rw [beq_eq_false_iff_ne] at q5;omega
    have hsub:sub (nth p.heap.ag i).queue 1 ((nth p.heap.ag i).queue.length:Int)=some ((nth p.heap.ag i).queue.drop 1):=Ho l1
    have happ:app ([]:List qt) ((nth p.heap.ag i).queue.drop 1)=some ((nth p.heap.ag i).queue.drop 1):=rO (by simp only [List.length_drop];omega)
    have hi0:idx (nth p.heap.ag i).queue 0=some (nth (nth p.heap.ag i).queue 0):=rl (i:=0) (by decide) (by omega)
    simp only [cond_false,hsub,happ,hi0,Option.bind_some]
    have hs:qZ qd (p.heap.ag.set i.toNat (vH (nth p.heap.ag i) ((nth p.heap.ag i).queue.drop 1)))<pR:=Dc ar (FD ho (by simp only [List.length_drop];omega))
    have e1:=Ca hN hs now me (nth (nth p.heap.ag i).queue 0).src
    unfold vH at e1
    rw [e1,Option.bind_some]
    exact E0 (l:=served p.heap.ag i) (A0 (by unfold served;simp only [List.length_set];exact hl)) fun z=>some ((0:Int),(nth (nth p.heap.ag i).queue 0).n,qj.mk (yB p z) me now th)
  · simp only [Bool.not_true,Bool.not_false,cond_false,cond_true,Option.bind_some,sG,Bool.or_false]
    cases q5:decide (((nth p.heap.ag i).queue.length:Int) ≥ 2)
    case true=>rfl
    have happ:∀ m,app (nth p.heap.ag i).queue [m]=some ((nth p.heap.ag i).queue++[m]):=fun m=>uq hq (by omega)
    have e2:∀ z,idx (p.heap.ag.set i.toNat z) th=some (nth (p.heap.ag.set i.toNat z) th):=fun z=>rl t0 (by simp only [List.length_set];omega)
    simp only [cond_false,Ec,happ,e2,Option.bind_some]
    rfl
theorem NU {N:Nat} (hN:pR≤N) {p:cd} (hp:sP p) (me now:Int) {th:Int} (t0:0≤th) (t9:th≤9) {c:qn} (hc:(c.kind==1)=false):yp N p me now th c=some (fin c p (s3 p me now th c)):=by
  have h4:=hp.b4
  unfold yp s3
  simp only [D4 hN h4 hp.w _ _ _ (show (0:Int)<3 by decide),uk,Option.bind_some]
  cases q2:qY p.heap.ag now me c.a 3 != 0
  case true=>simp only [cond_true,sU q2 hc]
  have q2':=sa q2
  obtain ⟨ar,g0,g9,gk,_⟩:=tC q2'
  simp only [Bool.not_true,cond_false,q2',beq_self_eq_true,cond_true]
  generalize qb p.heap.ag now me c.a=i at *
  have ho:=va ar g0 g9
  have hq:=CC ho
  have hl:=ar.len
  have hB:(16777216:Nat)=pR:=rfl
  simp only [(ar.at g0 g9).1,(ar.at t0 t9).1,Option.bind_some]
  cases q3:qg c.b 0 999
  · simp only [Bool.not_false,cond_true,sU (show ((2:Int) != 0)=true from rfl) hc]
  cases q4:c.kind==12
  · simp only [Bool.not_true,Bool.not_false,cond_false,cond_true,Option.bind_some]
    cases q5:((nth p.heap.ag i).queue.length:Int)==0
    case true=>simp only [cond_true,sU (show ((8:Int) != 0)=true from rfl) hc]
    have l1:1≤(nth p.heap.ag i).queue.length:=by rw [beq_eq_false_iff_ne] at q5;omega
    have hsub:sub (nth p.heap.ag i).queue 1 ((nth p.heap.ag i).queue.length:Int)=some ((nth p.heap.ag i).queue.drop 1):=Ho l1
    have happ:app ([]:List qt) ((nth p.heap.ag i).queue.drop 1)=some ((nth p.heap.ag i).queue.drop 1):=rO (by simp only [List.length_drop];omega)
    have hi0:idx (nth p.heap.ag i).queue 0=some (nth (nth p.heap.ag i).queue 0):=rl (i:=0) (by decide) (by omega)
    simp only [cond_false,hsub,happ,hi0,Option.bind_some,Aj]
    have hs:qZ qd (p.heap.ag.set i.toNat (vH (nth p.heap.ag i) ((nth p.heap.ag i).queue.drop 1)))<pR:=Dc ar (FD ho (by simp only [List.length_drop];omega))
    have hx:wA (p.heap.ag.set i.toNat (vH (nth p.heap.ag i) ((nth p.heap.ag i).queue.drop 1))):=tA hp.w (show xR (nth p.heap.ag i) from hp.w _ (ar.at g0 g9).2)
    have e1:=Cf hN hs hx now me (nth (nth p.heap.ag i).queue 0).src
    unfold vH at e1
    rw [e1,Option.bind_some]
    exact E0 (l:=served p.heap.ag i) (A0 (by unfold served;simp only [List.length_set];exact hl)) fun z=>some (yB p z,qh.mk 0 (nth (nth p.heap.ag i).queue 0).n)
  · simp only [Bool.not_true,Bool.not_false,cond_false,cond_true,Option.bind_some,sG,Bool.or_false]
    cases q5:decide (((nth p.heap.ag i).queue.length:Int) ≥ 2)
    case true=>simp only [cond_true,sU (show ((8:Int) != 0)=true from rfl) hc]
    have happ:∀ m,app (nth p.heap.ag i).queue [m]=some ((nth p.heap.ag i).queue++[m]):=fun m=>uq hq (by omega)
    have hap0:app ([]:List qt) (nth p.heap.ag i).queue=some (nth p.heap.ag i).queue:=rO (by omega)
    have e2:∀ z,idx (p.heap.ag.set i.toNat z) th=some (nth (p.heap.ag.set i.toNat z) th):=fun z=>rl t0 (by simp only [List.length_set];omega)
    simp only [cond_false,Ek,hap0,happ,e2,Option.bind_some,Aj]
    rfl
def AZ (p:cd) (c:qn):Int×Int×cd:=bif !qg c.a 0 ((p.pN.length:Int) - 1) then (2,0,p) else (0,0,Cj p (p.pN.take c.a.toNat++p.pN.drop (c.a.toNat+1)))
theorem Hp {α:Type} {l:List α} {i j:Int} (h0:0≤i) (h1:i≤j) (h2:j≤(l.length:Int)):sub l i j=some ((l.drop i.toNat).take (j.toNat - i.toNat)):=by
  unfold sub
  rw [if_pos ⟨h0,h1,h2⟩]
theorem sP.b6 {p:cd} (h:sP p):p.pN.length<pR:=(sc (p:=p) (Nat.lt_of_le_of_lt h.sz (by decide))).2.2.2.2.2
theorem JR {α:Type} {l:List α} (hl:l.length<pR) {a:Int} (h:qg a 0 ((l.length:Int) - 1)=true):IntKind.i64.wrap (a+1)=a+1∧sub l 0 a=some (l.take a.toNat)∧sub l (a+1) (l.length:Int)=some (l.drop (a.toNat+1))∧∃ m,sub l a (a+1)=some m:=by
  have hB:(16777216:Nat)=pR:=rfl
  rw [rL] at h
  refine ⟨rN (by omega) (by omega),?_,?_,_,Hp h.1 (by omega) (by omega)⟩
  · rw [Hp (Int.le_refl 0) h.1 (by omega)]
    simp
  · rw [Hp (by omega) (by omega) (Int.le_refl _),show (a+1).toNat=a.toNat+1 by omega,List.take_of_length_le (by simp)]
theorem GQ (N:Nat) {l:List qy} (hl:l.length<pR) {a:Int} (h:qg a 0 ((l.length:Int) - 1)=true):vG N l a (IntKind.i64.wrap (a+1))=some (l.take a.toNat++l.drop (a.toNat+1)):=by
  obtain ⟨h1,h2,h3,m,h4⟩:=JR hl h
  unfold vG
  have hne:(a==a+1)=false:=by rw [beq_eq_false_iff_ne];omega
  simp only [h1,h2,h3,h4,hne,Option.bind_some,cond_false]
def sd (p:cd) (me now th:Int) (c:qn):Int×Int×cd :=
  bif c.kind==1 then tz p me now c else bif (c.kind==2) || (c.kind==3) then tU p me now c else bif (c.kind==4) || (c.kind==5) then tW p me now c else
  bif (c.kind==6) || (c.kind==7) then ra p me now c else bif c.kind==8 then so p me now c else bif (c.kind==9) || ((c.kind==10) || (c.kind==11)) then ub p c else
  bif (c.kind==12) || (c.kind==13) then s3 p me now th c else bif c.kind==14 then zy p th c.a else bif c.kind==15 then AZ p c else (2,0,p)
theorem Ez (p:cd) (me now:Int) (c:qn):(tU p me now c).2.1=0∧cd.mk p.label p.own p.tree (tU p me now c).2.2.heap p.pN (tU p me now c).2.2.next (tU p me now c).2.2.want (tU p me now c).2.2.dz (tU p me now c).2.2.pV (tU p me now c).2.2.lost=(tU p me now c).2.2:=by
  unfold tU
  cases !qg c.b 0 1
  · cases qY p.heap.ag now me c.a 0 != 0
    · cases (c.kind==2)&&(qY p.heap.ag now me c.c 0 != 0) <;> exact ⟨rfl,rfl⟩
    · exact ⟨rfl,rfl⟩
  · exact ⟨rfl,rfl⟩
theorem EG (p:cd) (me now:Int) (c:qn):(tW p me now c).2.1=0∧cd.mk p.label p.own p.tree (tW p me now c).2.2.heap p.pN (tW p me now c).2.2.next (tW p me now c).2.2.want (tW p me now c).2.2.dz (tW p me now c).2.2.pV (tW p me now c).2.2.lost=(tW p me now c).2.2:=by
  unfold tW
  cases qY p.heap.ag now me c.a 0 != 0
  · cases qb p.heap.ag now me c.a==0
    · cases (c.kind==4)&&(qY p.heap.ag now me c.b 1 != 0) <;> exact ⟨rfl,rfl⟩
    · exact ⟨rfl,rfl⟩
  · exact ⟨rfl,rfl⟩
theorem Ig (p:cd) (me now:Int) (c:qn):cd.mk p.label p.own p.tree (qe.mk (ra p me now c).2.2.heap.ag (rr.mk (ra p me now c).2.2.heap.gc.phase (ra p me now c).2.2.heap.gc.pos (ra p me now c).2.2.heap.gc.round p.heap.gc.j8)) p.pN (ra p me now c).2.2.next (ra p me now c).2.2.want (ra p me now c).2.2.dz (ra p me now c).2.2.pV (ra p me now c).2.2.lost=(ra p me now c).2.2:=by
  unfold ra
  cases qY p.heap.ag now me c.a 2 != 0
  · cases !qg c.b 0 (((nth p.heap.ag (qb p.heap.ag now me c.a)).data.length:Int) - 1)
    · cases c.kind==7
      · cases !qg c.c 0 999 <;> rfl
      · rfl
    · rfl
  · rfl
theorem DE (p:cd) (me now:Int) (c:qn):(so p me now c).2.1=0∧cd.mk p.label p.own (so p me now c).2.2.tree (qe.mk (so p me now c).2.2.heap.ag (rr.mk (so p me now c).2.2.heap.gc.phase (so p me now c).2.2.heap.gc.pos (so p me now c).2.2.heap.gc.round p.heap.gc.j8)) p.pN (so p me now c).2.2.next (so p me now c).2.2.want (so p me now c).2.2.dz (so p me now c).2.2.pV (so p me now c).2.2.lost=(so p me now c).2.2:=by
  unfold so
  cases qY p.heap.ag now me c.a 0 != 0
  · cases (qb p.heap.ag now me c.a==0) || (!qg c.b 1 1000 || decide (IntKind.i64.wrap ((nth p.heap.ag (qb p.heap.ag now me c.a)).qp+c.b) > 1000000))
    · cases uS p (wU p (nth p.heap.ag (qb p.heap.ag now me c.a)).res) (qa.mk 0 (IntKind.i64.wrap ((nth p.heap.ag (qb p.heap.ag now me c.a)).bh * c.b)) 0) <;> exact ⟨rfl,rfl⟩
    · exact ⟨rfl,rfl⟩
  · exact ⟨rfl,rfl⟩
theorem Kr (p:cd) (c:qn):cd.mk p.label p.own (ub p c).2.2.tree (qe.mk p.heap.ag (rr.mk (ub p c).2.2.heap.gc.phase (ub p c).2.2.heap.gc.pos (ub p c).2.2.heap.gc.round p.heap.gc.j8)) p.pN (ub p c).2.2.next (ub p c).2.2.want (ub p c).2.2.dz (ub p c).2.2.pV (ub p c).2.2.lost=(ub p c).2.2:=by
  unfold ub
  cases c.kind==9
  · cases c.kind==10
    · cases !(uf p.tree c.a).2 <;> rfl
    · cases (!qg c.a 0 4 || (!qg c.b 0 4 || (!qg c.c 0 2 || !CT c.d)))
      · cases !(ue p.tree c.a c.b (yb c.c c.d)).2 <;> rfl
      · rfl
  · cases (!qg c.a 0 4 || !qX (qa.mk c.b c.c c.d))
    · cases !(s5 p.tree c.a (qa.mk c.b c.c c.d)).2.2 <;> rfl
    · rfl
theorem IJ (p:cd) (me now th:Int) (c:qn):cd.mk p.label p.own p.tree (qe.mk (s3 p me now th c).2.2.heap.ag (rr.mk (s3 p me now th c).2.2.heap.gc.phase (s3 p me now th c).2.2.heap.gc.pos (s3 p me now th c).2.2.heap.gc.round p.heap.gc.j8)) p.pN (s3 p me now th c).2.2.next (s3 p me now th c).2.2.want (s3 p me now th c).2.2.dz (s3 p me now th c).2.2.pV (s3 p me now th c).2.2.lost=(s3 p me now th c).2.2:=by
  unfold s3
  cases qY p.heap.ag now me c.a 3 != 0
  · cases !qg c.b 0 999
    · cases c.kind==12
      · cases ((nth p.heap.ag (qb p.heap.ag now me c.a)).queue.length:Int)==0 <;> rfl
      · cases decide (((nth p.heap.ag (qb p.heap.ag now me c.a)).queue.length:Int) ≥ 2) <;> rfl
    · rfl
  · rfl
theorem Iw (p:cd) (me now:Int) (c:qn):cd.mk p.label p.own (tz p me now c).2.2.tree (tz p me now c).2.2.heap p.pN (tz p me now c).2.2.next (tz p me now c).2.2.want (tz p me now c).2.2.dz (tz p me now c).2.2.pV (tz p me now c).2.2.lost=(tz p me now c).2.2:=by
  unfold tz
  cases xJ now c
  · cases qY p.heap.ag now me c.b 1 != 0
    · cases !uS p c.e (cost c)
      · cases decide ((sB p.heap.ag (newObj now (qb p.heap.ag now me c.b) c)).2<0) <;> rfl
      · rfl
    · rfl
  · rfl
theorem Dd (p:cd) (th a:Int):(zy p th a).2.2=p:=by
  unfold zy
  cases a==0
  · cases a==1
    · cases (a==2) || ((a==3) || (a==4)) <;> rfl
    · rfl
  · rfl
theorem KL {a m n:Int} (hne:m ≠ n) (h:((a==m) || (a==n))=true):(a==m)=!(a==n):=by
  simp only [Bool.or_eq_true,beq_iff_eq] at h
  rcases h with h | h
  · subst h
    have:(a==n)=false:=by rw [beq_eq_false_iff_ne];exact hne
    rw [this];simp
  · subst h
    have:(a==m)=false:=by rw [beq_eq_false_iff_ne];exact fun q=>hne q.symm
    rw [this];simp
theorem Pk {N:Nat} (hN:pR+1≤N) {p:cd} (hp:sP p) (me now:Int) {th:Int} (t0:0≤th) (t9:th≤9) (c:qn):wD N (qj.mk p me now th) c=some ((sd p me now th c).1,(sd p me now th c).2.1,qj.mk (sd p me now th c).2.2 me now th):=by
  have hN':pR≤N:=Nat.le_of_succ_le hN
  unfold wD sd
  simp only [Nh hN hp,M5 hN' hp,NL hN' hp,J8 hN' hp,Mm hN' hp,Km hN' hp,NF hN' hp _ _ t0 t9,ud,Option.bind_some,M7,Eg,(Ez p me now c).2,(EG p me now c).2,Ig,(DE p me now c).2,Kr,Iw,Dd,A5,Bl,Bx]
  cases c.kind==1
  case true=>rfl
  cases (c.kind==2) || (c.kind==3)
  case true=>simp only [cond_false,cond_true,(Ez p me now c).1]
  cases (c.kind==4) || (c.kind==5)
  case true=>simp only [cond_false,cond_true,(EG p me now c).1]
  cases (c.kind==6) || (c.kind==7)
  case true=>rfl
  cases c.kind==8
  case true=>simp only [cond_false,cond_true,(DE p me now c).1]
  cases (c.kind==9) || ((c.kind==10) || (c.kind==11))
  case true=>rfl
  cases hg:(c.kind==12) || (c.kind==13)
  case true =>
    have:(c.kind==13)=!(c.kind==12):=by
      rw [Bool.or_comm] at hg
      exact KL (by decide) hg
    simp only [cond_false,cond_true,NV hN' hp me now t0 t9 this,Option.bind_some,IJ]
  cases c.kind==14
  case true=>simp only [cond_false,cond_true,Dd]
  cases c.kind==15
  case false=>rfl
  have h6:=hp.b6
  unfold AZ
  simp only [cond_false,cond_true,FY h6]
  cases hi:qg c.a 0 ((p.pN.length:Int) - 1)
  · rfl
  simp only [Bool.not_true,cond_false,GQ N h6 hi,Option.bind_some]
  rfl
theorem AB {p:cd} {now th:Int} (h:tG p now th=true):rV p=true∧0≤th∧th≤9:=by
  unfold tG at h
  simp only [Bool.and_eq_true] at h
  exact Jl (now:=now) (by simpa using h.1)
def uK (p:cd) (me now th:Int) (c:qn):cd×qh :=
  bif !rV p || (!qg me 0 2 || !qg now 0 1000000) then (p,qh.mk 2 0) else bif !tG p now th then (p,qh.mk 1 0) else fin c p (sd p me now th c)
theorem OE (p:cd) (me now th:Int) (c:qn):cd.mk p.label p.own (sd p me now th c).2.2.tree (sd p me now th c).2.2.heap (sd p me now th c).2.2.pN (sd p me now th c).2.2.next (sd p me now th c).2.2.want (sd p me now th c).2.2.dz (sd p me now th c).2.2.pV (sd p me now th c).2.2.lost=(sd p me now th c).2.2:=by
  unfold sd
  cases c.kind==1
  case true=>rw [cond_true, ← Iw]
  cases (c.kind==2) || (c.kind==3)
  case true=>rw [cond_false,cond_true, ← (Ez p me now c).2]
  cases (c.kind==4) || (c.kind==5)
  case true=>rw [cond_false,cond_false,cond_true, ← (EG p me now c).2]
  cases (c.kind==6) || (c.kind==7)
  case true=>rw [cond_false,cond_false,cond_false,cond_true, ← Ig]
  cases c.kind==8
  case true=>rw [cond_false,cond_false,cond_false,cond_false,cond_true, ← (DE p me now c).2]
  cases (c.kind==9) || ((c.kind==10) || (c.kind==11))
  case true=>simp only [cond_false,cond_true];rw [← Kr]
  cases (c.kind==12) || (c.kind==13)
  case true=>simp only [cond_false,cond_true];rw [← IJ]
  cases c.kind==14
  case true=>simp only [cond_false,cond_true,Dd,Bx]
  cases c.kind==15
  case false=>rfl
  simp only [cond_false,cond_true]
  unfold AZ
  cases !qg c.a 0 ((p.pN.length:Int) - 1) <;> rfl
theorem Jw {N:Nat} (hN:pR+1≤N) {p:cd} (hb:qm p≤3000000) (hw:wP p) (me now th:Int) (c:qn):xA N p me now th c=some (uK p me now th c):=by
  have hN':pR≤N:=Nat.le_of_succ_le hN
  have hB:qm p<pR:=Nat.lt_of_le_of_lt hb (by decide)
  unfold xA uK
  simp only [DS hN' hB,DF,Bn,Cv hN' hB,ES hN' hB,Option.bind_some,sG]
  cases !rV p || (!qg me 0 2 || !qg now 0 1000000)
  case true=>rfl
  cases hc:tG p now th
  · rfl
  obtain ⟨ok,t0,t9⟩:=AB hc
  simp only [Bool.not_true,cond_false,Pk hN ⟨ok,hb,hw⟩ me now t0 t9,Option.bind_some,OE,tD]
  unfold fin
  cases (sd p me now th c).1==0
  · simp only [cond_false]
    cases (c.kind==1)&&(((sd p me now th c).1==6) || ((sd p me now th c).1==7)) <;> rfl
  · rfl
theorem Fy (p:cd) (me now:Int) (c:qn) {β:Type} (x:Option β):sb p.label.levels (fin c p (ra p me now c)).1.label.levels (sb p.own (fin c p (ra p me now c)).1.own (sb p.tree (fin c p (ra p me now c)).1.tree (sb p.heap.ag (fin c p (ra p me now c)).1.heap.ag (sb p.heap.gc.j8 (fin c p (ra p me now c)).1.heap.gc.j8 (sb p.pN (fin c p (ra p me now c)).1.pN x)))))=x:=by
  have h:(ra p me now c).2.2.label=p.label∧(ra p me now c).2.2.own=p.own∧(ra p me now c).2.2.tree=p.tree∧(ra p me now c).2.2.heap.ag.length=p.heap.ag.length∧(ra p me now c).2.2.heap.gc=p.heap.gc∧(ra p me now c).2.2.pN=p.pN:=by
    unfold ra
    cases qY p.heap.ag now me c.a 2 != 0
    case true=>exact ⟨rfl,rfl,rfl,rfl,rfl,rfl⟩
    cases !qg c.b 0 (((nth p.heap.ag (qb p.heap.ag now me c.a)).data.length:Int) - 1)
    case true=>exact ⟨rfl,rfl,rfl,rfl,rfl,rfl⟩
    cases c.kind==7
    case true=>exact ⟨rfl,rfl,rfl,rfl,rfl,rfl⟩
    cases !qg c.c 0 999
    case true=>exact ⟨rfl,rfl,rfl,rfl,rfl,rfl⟩
    exact ⟨rfl,rfl,rfl,List.length_set,rfl,rfl⟩
  have g:(fin c p (ra p me now c)).1.label.levels.length=p.label.levels.length∧(fin c p (ra p me now c)).1.own.length=p.own.length∧(fin c p (ra p me now c)).1.tree.length=p.tree.length∧(fin c p (ra p me now c)).1.heap.ag.length=p.heap.ag.length∧(fin c p (ra p me now c)).1.heap.gc.j8.length=p.heap.gc.j8.length∧(fin c p (ra p me now c)).1.pN.length=p.pN.length:=by
    unfold fin
    cases (ra p me now c).1==0
    · cases (c.kind==1)&&(((ra p me now c).1==6) || ((ra p me now c).1==7)) <;> exact ⟨rfl,rfl,rfl,rfl,rfl,rfl⟩
    · simp only [cond_true]
      rw [h.1,h.2.1,h.2.2.1,h.2.2.2.2.1,h.2.2.2.2.2]
      exact ⟨rfl,rfl,rfl,h.2.2.2.1,rfl,rfl⟩
  rw [sv g.1,sv g.2.1,sv g.2.2.1,sv g.2.2.2.1,sv g.2.2.2.2.1,sv g.2.2.2.2.2]
theorem I3 {N:Nat} (hN:pR≤N) {p:cd} (hb:qm p≤3000000) (hw:wP p) (me now th:Int) (c:qn):xC N p me now th c=some (uK p me now th c):=by
  have hB:qm p<pR:=Nat.lt_of_le_of_lt hb (by decide)
  unfold xC uK
  simp only [DJ hN hB hw,uk,EU hN hB,Fl hN hB hw,Option.bind_some,sG,M7,Eg]
  cases !rV p || (!qg me 0 2 || !qg now 0 1000000)
  case true=>rfl
  cases hc:tG p now th
  · rfl
  obtain ⟨ok,t0,t9⟩:=AB hc
  have hp:sP p:=⟨ok,hb,hw⟩
  simp only [Bool.not_true,cond_false]
  unfold sd
  cases hk:c.kind==1
  case true=>simp only [cond_true,NS hN hp me now hk,Option.bind_some]
  simp only [cond_false]
  cases (c.kind==2) || (c.kind==3)
  case true=>simp only [cond_true,Oa hN hp me now hk,Option.bind_some]
  simp only [cond_false]
  cases (c.kind==4) || (c.kind==5)
  case true=>simp only [cond_true,NQ hN hp me now hk,Option.bind_some]
  simp only [cond_false]
  cases hd:(c.kind==6) || (c.kind==7)
  case true =>
    simp only [cond_true,KE hN hp me now hk (KL (by decide) hd),Option.bind_some]
    all_goals (rw [Fy];rfl)
  simp only [cond_false]
  cases c.kind==8
  case true=>simp only [cond_true,Mb hN hp me now hk,Option.bind_some]
  simp only [cond_false]
  cases (c.kind==9) || ((c.kind==10) || (c.kind==11))
  case true=>simp only [cond_true,Oo hN hp hk,Option.bind_some]
  simp only [cond_false]
  cases (c.kind==12) || (c.kind==13)
  case true=>simp only [cond_true,NU hN hp me now t0 t9 hk,Option.bind_some]
  simp only [cond_false]
  cases c.kind==14
  case true=>simp only [cond_true,Nd hN hp t0 t9 hk,Option.bind_some]
  simp only [cond_false]
  cases c.kind==15
  case false=>simp only [cond_false,sU (show ((2:Int) != 0)=true from rfl) hk]
  have h6:=hp.b6
  unfold AZ
  simp only [cond_true,FY h6]
  cases hi:qg c.a 0 ((p.pN.length:Int) - 1)
  · simp only [Bool.not_false,cond_true,sU (show ((2:Int) != 0)=true from rfl) hk]
  obtain ⟨h1,h2,h3,_⟩:=JR h6 hi
  have hB':(16777216:Nat)=pR:=rfl
  have a1:app ([]:List qy) (p.pN.take c.a.toNat)=some (p.pN.take c.a.toNat):=rO (by simp only [List.length_take];omega)
  have a2:app (p.pN.take c.a.toNat) (p.pN.drop (c.a.toNat+1))=some (p.pN.take c.a.toNat++p.pN.drop (c.a.toNat+1)):=by
    unfold app
    rw [if_pos (by simp only [List.length_take,List.length_drop];omega)]
  simp only [Bool.not_true,cond_false,h1,h2,h3,a1,a2,Option.bind_some,Aj]
  rfl
structure xp (p q:cd):Prop where
  sz:qm q≤qm p+300
  w:wP q
  ln:q.heap.ag.length=p.heap.ag.length
theorem uY {p q:cd} (h1:q.label=p.label) (h2:q.own=p.own) (h3:q.tree.length=p.tree.length) (h4:qZ qd q.heap.ag≤qZ qd p.heap.ag+250) (h5:q.heap.gc.j8.length≤p.heap.gc.j8.length+1) (h6:q.pN.length≤p.pN.length) (h7:wA q.heap.ag) (h8:q.heap.ag.length=p.heap.ag.length):xp p q:=by
  refine ⟨?_,h7,h8⟩
  unfold qm sO vg sZ
  rw [h1,h2]
  omega
theorem rC {p:cd} (h:sP p):xp p p:=⟨by omega,h.w,rfl⟩
theorem Af {l:List eg} {k:Nat} {o:eg} (ho:qd o≤100):qZ qd (l.set k o)≤qZ qd l+100:=Nat.le_trans EC (by omega)
theorem D8 (h:qe) (c i:Int):(tX h c i).ag.length=h.ag.length:=by
  unfold tX zN Ac
  cases decide (c ≥ 0)
  · rfl
  cases tB h&&qg i 0 9
  · rfl
  simp only [cond_true]
  split
  · simp only [List.length_set]
  · rfl
theorem D2 {h:qe} (hw:wA h.ag) (c i:Int):qZ qd (tX h c i).ag=qZ qd h.ag∧wA (tX h c i).ag∧(tX h c i).gc.j8.length≤h.gc.j8.length+1:=by
  unfold tX zN
  cases decide (c ≥ 0)
  · exact ⟨rfl,hw,Nat.le_succ _⟩
  cases q:tB h&&qg i 0 9
  · exact ⟨rfl,hw,Nat.le_succ _⟩
  simp only [Bool.and_eq_true,rL] at q
  have hl:=(yL q.1).len
  simp only [cond_true]
  refine ⟨?_,?_,I5 h i⟩
  · unfold Ac
    split
    · exact Be q.2.1 (by omega) rfl
    · rfl
  · unfold Ac
    split
    · exact tA hw (show xR (marked (nth h.ag i) true) from hw (nth h.ag i) (zJ q.2.1 (by omega)))
    · exact hw
theorem MO {p:cd} (hp:sP p) (me now:Int) (c:qn):xp p (tU p me now c).2.2:=by
  unfold tU
  cases !qg c.b 0 1
  case true=>exact rC hp
  cases q2:qY p.heap.ag now me c.a 0 != 0
  case true=>exact rC hp
  obtain ⟨ar,g0,g9,_,_⟩:=tC (sa q2)
  cases (c.kind==2)&&(qY p.heap.ag now me c.c 0 != 0)
  case true=>exact rC hp
  simp only [cond_false]
  generalize (bif c.kind==2 then qb p.heap.ag now me c.c else -1)=x
  have ho:=va ar g0 g9
  obtain ⟨a,b,d⟩:=D2 (h:=qe.mk (p.heap.ag.set (qb p.heap.ag now me c.a).toNat (linked (nth p.heap.ag (qb p.heap.ag now me c.a)) c.b x)) p.heap.gc) (tA hp.w (show xR (nth p.heap.ag (qb p.heap.ag now me c.a)) from hp.w _ (ar.at g0 g9).2)) x x
  refine uY rfl rfl rfl ?_ d (Nat.le_refl _) b (by show (tX _ _ _).ag.length=_;rw [D8];exact List.length_set)
  refine Nat.le_trans (Nat.le_of_eq a) (Nat.le_trans (Af (by rw [CL];omega)) (by omega))
theorem MR {p:cd} (hp:sP p) (me now:Int) (c:qn):xp p (tW p me now c).2.2:=by
  unfold tW
  cases q2:qY p.heap.ag now me c.a 0 != 0
  case true=>exact rC hp
  obtain ⟨ar,g0,g9,_,_⟩:=tC (sa q2)
  cases qb p.heap.ag now me c.a==0
  case true=>exact rC hp
  cases (c.kind==4)&&(qY p.heap.ag now me c.b 1 != 0)
  case true=>exact rC hp
  simp only [cond_false]
  generalize (bif c.kind==4 then qb p.heap.ag now me c.b else -1)=x
  have ho:=va ar g0 g9
  obtain ⟨a,b,d⟩:=D2 (h:=qe.mk (p.heap.ag.set (qb p.heap.ag now me c.a).toNat (boxed (nth p.heap.ag (qb p.heap.ag now me c.a)) x)) p.heap.gc) (tA hp.w (show xR (nth p.heap.ag (qb p.heap.ag now me c.a)) from hp.w _ (ar.at g0 g9).2)) x (qb p.heap.ag now me c.a)
  refine uY rfl rfl rfl ?_ d (Nat.le_refl _) b (by show (tX _ _ _).ag.length=_;rw [D8];exact List.length_set)
  refine Nat.le_trans (Nat.le_of_eq a) (Nat.le_trans (Af (show qd (nth p.heap.ag (qb p.heap.ag now me c.a))≤100 by omega)) (by omega))
theorem MW {p:cd} (hp:sP p) (me now:Int) (c:qn):xp p (ra p me now c).2.2:=by
  unfold ra
  cases q2:qY p.heap.ag now me c.a 2 != 0
  case true=>exact rC hp
  obtain ⟨ar,g0,g9,_,_⟩:=tC (sa q2)
  cases !qg c.b 0 (((nth p.heap.ag (qb p.heap.ag now me c.a)).data.length:Int) - 1)
  case true=>exact rC hp
  cases c.kind==7
  case true=>exact rC hp
  cases !qg c.c 0 999
  case true=>exact rC hp
  have ho:=va ar g0 g9
  refine uY rfl rfl rfl ?_ (Nat.le_succ _) (Nat.le_refl _) (tA hp.w (show xR (nth p.heap.ag (qb p.heap.ag now me c.a)) from hp.w _ (ar.at g0 g9).2)) List.length_set
  refine Nat.le_trans (Af (o:=written (nth p.heap.ag (qb p.heap.ag now me c.a)) c.b c.c) ?_) (by omega)
  unfold qd written at *
  simp only [List.length_set]
  omega
theorem La {p:cd} (hp:sP p) (me now:Int) (c:qn):xp p (so p me now c).2.2:=by
  unfold so
  cases q2:qY p.heap.ag now me c.a 0 != 0
  case true=>exact rC hp
  obtain ⟨ar,g0,g9,_,_⟩:=tC (sa q2)
  cases (qb p.heap.ag now me c.a==0) || (!qg c.b 1 1000 || decide (IntKind.i64.wrap ((nth p.heap.ag (qb p.heap.ag now me c.a)).qp+c.b) > 1000000))
  case true=>exact rC hp
  cases !uS p (wU p (nth p.heap.ag (qb p.heap.ag now me c.a)).res) (qa.mk 0 (IntKind.i64.wrap ((nth p.heap.ag (qb p.heap.ag now me c.a)).bh * c.b)) 0)
  case true=>exact rC hp
  have ho:=va ar g0 g9
  refine uY rfl rfl (tP _ _ _) ?_ (Nat.le_succ _) (Nat.le_refl _) (tA hp.w (show xR (nth p.heap.ag (qb p.heap.ag now me c.a)) from hp.w _ (ar.at g0 g9).2)) List.length_set
  exact Nat.le_trans (Af (show qd (nth p.heap.ag (qb p.heap.ag now me c.a))≤100 by omega)) (by omega)
theorem Ev {p:cd} (hp:sP p) {t:List pW} (h:t.length=p.tree.length):xp p (Cp p t):=uY rfl rfl h (by show qZ qd p.heap.ag≤_;omega) (Nat.le_succ _) (Nat.le_refl _) hp.w rfl
theorem Nm {p:cd} (hp:sP p) (c:qn):xp p (ub p c).2.2:=by
  unfold ub
  cases c.kind==9
  · cases c.kind==10
    · cases !(uf p.tree c.a).2
      · exact Ev hp (Hn _ _)
      · exact rC hp
    · cases (!qg c.a 0 4 || (!qg c.b 0 4 || (!qg c.c 0 2 || !CT c.d)))
      · cases !(ue p.tree c.a c.b (yb c.c c.d)).2
        · exact Ev hp (GH _ _ _ _)
        · exact rC hp
      · exact rC hp
  · cases (!qg c.a 0 4 || !qX (qa.mk c.b c.c c.d))
    · cases !(s5 p.tree c.a (qa.mk c.b c.c c.d)).2.2
      · exact Ev hp (FV _ _ _)
      · exact rC hp
    · exact rC hp
theorem My (h:qe) (i:Int):(vz h i).ag.length=h.ag.length:=by
  unfold vz
  split
  · simp only [List.length_set]
  · rfl
theorem ND (l:List eg) (k w b:Int):(Cd l k w b).length=l.length:=by
  unfold Cd
  cases decide (k ≥ 0)&&((nth l k).wait==w)
  · rfl
  · simp only [cond_true,List.length_set]
theorem Mf {h:qe} (hw:wA h.ag) (i:Int):qZ qd (vz h i).ag=qZ qd h.ag∧wA (vz h i).ag∧(vz h i).gc.j8.length=h.gc.j8.length:=by
  unfold vz
  split
  · rename_i q
    simp only [Bool.and_eq_true,rL] at q
    have hl:=(yL q.1).len
    exact ⟨Be q.2.1.1 (by omega) rfl,tA hw (show xR (nth h.ag i) from hw _ (zJ q.2.1.1 (by omega))),rfl⟩
  · exact ⟨rfl,hw,rfl⟩
theorem Mz {p:cd} (hp:sP p) (f:Int) (a:qa):xp p (CH p f a):=uY rfl rfl (tP _ _ _) (by show qZ qd p.heap.ag≤_;omega) (Nat.le_succ _) (Nat.le_refl _) hp.w rfl
theorem Mi {p:cd} (hp:sP p) (me now:Int) (c:qn):xp p (tz p me now c).2.2:=by
  unfold tz
  cases q1:xJ now c
  case true=>exact rC hp
  cases qY p.heap.ag now me c.b 1 != 0
  case true=>exact rC hp
  cases !uS p c.e (cost c)
  case true=>exact rC hp
  generalize qb p.heap.ag now me c.b=box
  cases q4:decide ((sB p.heap.ag (newObj now box c)).2<0)
  case true=>exact Mz hp _ _
  obtain ⟨j,g,e,ar,hj⟩:=BQ q4
  simp only [cond_false]
  rw [e]
  have ho:=Cz (now:=now) (box:=box) (BF q1)
  obtain ⟨a,b,d⟩:=Mf (h:=qe.mk (p.heap.ag.set j (sD (newObj now box c) g)) p.heap.gc) (tA hp.w (DL (DQ _ _ _))) (j:Int)
  refine uY rfl rfl (tP _ _ _) ?_ (by show (vz _ _).gc.j8.length≤_;rw [d];exact Nat.le_succ _) (Nat.le_refl _) b (by show (vz _ _).ag.length=_;rw [My];exact List.length_set)
  exact Nat.le_trans (Nat.le_of_eq a) (Nat.le_trans (Af (show qd (newObj now box c)≤100 from ho)) (by omega))
theorem Lc {l:List eg} (h:wA l) {i:Int} (h0:0≤i) (h1:i<(l.length:Int)):xR (nth l i):=h _ (zJ h0 h1)
theorem Nw {l:List eg} (hw:wA l) {k w b:Int} (h:0≤k→k<(l.length:Int)):qZ qd (Cd l k w b)=qZ qd l∧wA (Cd l k w b):=by
  unfold Cd
  cases q:decide (k ≥ 0)&&((nth l k).wait==w)
  · exact ⟨rfl,hw⟩
  simp only [Bool.and_eq_true,decide_eq_true_eq] at q
  have k1:=h q.1
  have w0:xR (waiting (nth l k) 0):=by show (-9223372036854775808:Int)≤0;decide
  have w1:=tA (k:=k.toNat) hw w0
  have k2:k<((l.set k.toNat (waiting (nth l k) 0)).length:Int):=by simp only [List.length_set];exact k1
  simp only [cond_true]
  exact ⟨(Be (z:=DA (nth (l.set k.toNat (waiting (nth l k) 0)) k) b) q.1 k2 rfl).trans (Be q.1 k1 rfl),tA w1 (show xR (nth (l.set k.toNat (waiting (nth l k) 0)) k) from Lc w1 q.1 k2)⟩
theorem Px (n:Int):-9223372036854775808≤IntKind.i64.wrap n:=by
  simp [IntKind.wrap,IntKind.signed,IntKind.bits]
  split <;> omega
theorem MY {p:cd} (hp:sP p) (me now:Int) {th:Int} (t0:0≤th) (t9:th≤9) (c:qn):xp p (s3 p me now th c).2.2:=by
  unfold s3
  cases q2:qY p.heap.ag now me c.a 3 != 0
  case true=>exact rC hp
  obtain ⟨ar,g0,g9,_,_⟩:=tC (sa q2)
  cases !qg c.b 0 999
  case true=>exact rC hp
  simp only [cond_false]
  generalize qb p.heap.ag now me c.a=i at *
  have ho:=va ar g0 g9
  have hl:=ar.len
  have hwi:xR (nth p.heap.ag i):=hp.w _ (ar.at g0 g9).2
  have qs:∀ q,q.length≤20→qd (vH (nth p.heap.ag i) q)≤100:=fun q hq=>by
    unfold qd at ho
    unfold qd vH
    simp only
    omega
  have hq:=CC ho
  cases c.kind==12
  · cases ((nth p.heap.ag i).queue.length:Int)==0
    case true=>exact rC hp
    have hw1:wA (served p.heap.ag i):=tA hp.w hwi
    obtain ⟨a,b⟩:=Nw (l:=served p.heap.ag i) hw1 (k:=qb (served p.heap.ag i) now me (nth (nth p.heap.ag i).queue 0).src) (w:=IntKind.i64.wrap (c.a+1)) (b:=c.b) (A0 (by unfold served;simp only [List.length_set];exact hl))
    refine uY rfl rfl rfl ?_ (Nat.le_succ _) (Nat.le_refl _) b (by show (Cd _ _ _ _).length=_;rw [ND];exact List.length_set)
    refine Nat.le_trans (Nat.le_of_eq a) (Nat.le_trans (Af (qs _ (by simp only [List.length_drop];omega))) (by omega))
  · cases decide (((nth p.heap.ag i).queue.length:Int) ≥ 2)
    case true=>exact rC hp
    have hw1:wA (asked p.heap.ag i me th c):=tA hp.w hwi
    have hl1:(asked p.heap.ag i me th c).length=10:=by unfold asked;simp only [List.length_set];exact hl
    have e:qZ qd ((asked p.heap.ag i me th c).set th.toNat (waiting (nth (asked p.heap.ag i me th c) th) (IntKind.i64.wrap (c.a+1))))=qZ qd (asked p.heap.ag i me th c):=Be t0 (by omega) rfl
    refine uY rfl rfl rfl ?_ (Nat.le_succ _) (Nat.le_refl _) (tA hw1 (Px _)) (by show (List.set _ _ _).length=_;rw [List.length_set,hl1,hl])
    refine Nat.le_trans (Nat.le_of_eq e) (Nat.le_trans (Af (qs _ (by simp only [List.length_append,List.length_cons,List.length_nil];omega))) (by omega))
theorem Ls {p:cd} (hp:sP p) (c:qn):xp p (AZ p c).2.2:=by
  unfold AZ
  cases hi:qg c.a 0 ((p.pN.length:Int) - 1)
  · exact rC hp
  · exact uY rfl rfl rfl (by show qZ qd p.heap.ag≤_;omega) (Nat.le_succ _) (by show (p.pN.take c.a.toNat++p.pN.drop (c.a.toNat+1)).length≤_;simp only [List.length_append,List.length_take,List.length_drop];omega) hp.w rfl
theorem LV {p:cd} (hp:sP p) (me now:Int) {th:Int} (t0:0≤th) (t9:th≤9) (c:qn):xp p (sd p me now th c).2.2:=by
  unfold sd
  cases c.kind==1
  case true=>exact Mi hp _ _ _
  cases (c.kind==2) || (c.kind==3)
  case true=>exact MO hp _ _ _
  cases (c.kind==4) || (c.kind==5)
  case true=>exact MR hp _ _ _
  cases (c.kind==6) || (c.kind==7)
  case true=>exact MW hp _ _ _
  cases c.kind==8
  case true=>exact La hp _ _ _
  cases (c.kind==9) || ((c.kind==10) || (c.kind==11))
  case true=>exact Nm hp _
  cases (c.kind==12) || (c.kind==13)
  case true=>exact MY hp _ _ t0 t9 _
  cases c.kind==14
  case true=>simp only [cond_false,cond_true,Dd];exact rC hp
  cases c.kind==15
  case true=>exact Ls hp _
  exact rC hp
theorem MV {p:cd} (hb:qm p≤3000000) (hw:wP p) (me now th:Int) (c:qn):qm (uK p me now th c).1≤qm p+300∧wP (uK p me now th c).1:=by
  unfold uK
  cases !rV p || (!qg me 0 2 || !qg now 0 1000000)
  case true=>exact ⟨Nat.le_add_right _ _,hw⟩
  cases hc:tG p now th
  · exact ⟨Nat.le_add_right _ _,hw⟩
  obtain ⟨ok,t0,t9⟩:=AB hc
  have hp:sP p:=⟨ok,hb,hw⟩
  simp only [Bool.not_true,cond_false]
  unfold fin
  cases (sd p me now th c).1==0
  · cases (c.kind==1)&&(((sd p me now th c).1==6) || ((sd p me now th c).1==7)) <;> exact ⟨Nat.le_add_right (qm p) _,hw⟩
  · have h:=LV hp me now t0 t9 c
    exact ⟨h.sz,h.w⟩
theorem K0 {p:cd} (hb:qm p≤3000000) (hw:wP p) (me now th:Int) (c:qn):(uK p me now th c).1.heap.ag.length=p.heap.ag.length:=by
  unfold uK
  cases !rV p || (!qg me 0 2 || !qg now 0 1000000)
  case true=>rfl
  cases hc:tG p now th
  · rfl
  obtain ⟨ok,t0,t9⟩:=AB hc
  simp only [Bool.not_true,cond_false]
  unfold fin
  cases (sd p me now th c).1==0
  · cases (c.kind==1)&&(((sd p me now th c).1==6) || ((sd p me now th c).1==7)) <;> rfl
  · exact (LV ⟨ok,hb,hw⟩ me now t0 t9 c).ln
end Go.Kx
