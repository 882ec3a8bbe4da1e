/- Plain laws: what a call does in a part. No program in sight. -/
import Derived.Test.YtikeaiogpfjdnaaGreatLStep
namespace Go.Kx
open Go
set_option linter.unusedVariables false
set_option linter.unusedSimpArgs false
set_option maxRecDepth 10000
theorem uc (p:gE):gE.mk p.label p.own p.tree p.heap p.ic p.next p.want p.dW p.iz p.lost=p:=rfl
theorem tK (g:jz):jz.mk g.phase g.pos g.round g.ia=g:=rfl
theorem tM (h:iv):iv.mk h.ag h.gc=h:=rfl
theorem He (a:iB):iB.mk a.cd a.ij a.iD=a:=rfl
def jq (l:List bh) (now me h kind:Int):Int:=bif mu h then (bif m4 h != me then 3 else (bif decide (iE l now me h<0) then 4 else (bif (kind != 0)&&((nth l (iE l now me h)).kind != kind) then 5 else 0))) else 2
theorem wo {l:List bh} {now me h:Int} (q:decide (iE l now me h<0)=false):Ar l∧0≤iE l now me h∧iE l now me h≤9∧(nth l (iE l now me h)).kind ≠ 0:=by
  unfold iE at *
  cases hg:xX l now me h
  · rw [hg] at q;simp at q
  · simp only [cond_true]
    unfold xX at hg
    simp only [Bool.and_eq_true] at hg
    obtain ⟨⟨h1,h2,_⟩,h3,_⟩:=hg
    obtain ⟨a,b⟩:=xx h2
    exact ⟨ko.1 h1,a,b,by simpa using h3⟩
theorem lH {l:List bh} {now me h k:Int} (q:jq l now me h k=0):Ar l∧0≤iE l now me h∧iE l now me h≤9∧(nth l (iE l now me h)).kind ≠ 0∧(k ≠ 0→(nth l (iE l now me h)).kind=k):=by
  unfold jq at q
  cases h1:mu h
  · rw [h1] at q;simp at q
  cases h2:m4 h != me
  case true=>rw [h1,h2] at q;simp at q
  cases h3:decide (iE l now me h<0)
  case true=>rw [h1,h2,h3] at q;simp at q
  obtain ⟨a,b,c,d⟩:=wo h3
  refine ⟨a,b,c,d,fun hk=>?_⟩
  rw [h1,h2,h3] at q
  simp only [cond_true,cond_false] at q
  have hk':(k != 0)=true:=by simpa using hk
  rw [hk'] at q
  cases h4:(nth l (iE l now me h)).kind != k
  · simpa using h4
  · rw [h4] at q;simp at q
theorem uK {N:Nat} (hN:im≤N) {x:iI} (hb:jl iA x.part.heap.ag<im) (h k:Int):kc N x h k=some (bif jq x.part.heap.ag x.now x.me h k==0 then iE x.part.heap.ag x.now x.me h else 0,jq x.part.heap.ag x.now x.me h k,x):=by
  unfold kc jq
  simp only [oB,tQ,vf hN hb,Option.bind_some]
  rw [show iG h 0 29999=mu h from rfl]
  cases mu h
  · rfl
  cases m4 h != x.me
  case true=>rfl
  cases q:decide (iE x.part.heap.ag x.now x.me h<0)
  case true=>rfl
  obtain ⟨ar,g0,g9,_⟩:=wo q
  simp only [Bool.not_true,cond_false,(ar.at g0 g9).1,Option.bind_some]
  cases k != 0 <;> cases (nth x.part.heap.ag (iE x.part.heap.ag x.now x.me h)).kind != k <;> rfl
theorem xR {N:Nat} (hN:im≤N) {p:gE} (hb:jl iA p.heap.ag<im) (hw:wP p) (me now h:Int):lN N p me now h=some (bif jq p.heap.ag now me h 0==0 then iE p.heap.ag now me h else -1,jq p.heap.ag now me h 0):=by
  unfold lN jq
  simp only [qk,vx,xY hN hb hw,Option.bind_some]
  rw [show iG h 0 29999=mu h from rfl]
  cases mu h
  · rfl
  cases m4 h != me
  case true=>rfl
  cases q:decide (iE p.heap.ag now me h<0) <;> rfl
theorem xA {N:Nat} (hN:im≤N) {p:gE} (hb:jl iA p.heap.ag<im) (hw:wP p) (me now h:Int) {k:Int} (hk:0<k):mN N p me now h k=some (bif jq p.heap.ag now me h k==0 then iE p.heap.ag now me h else -1,jq p.heap.ag now me h k):=by
  unfold mN
  rw [xR hN hb hw]
  have k1:decide (k > 0)=true:=decide_eq_true hk
  have k2:(k != 0)=true:=by simp;omega
  simp only [Option.bind_some,k1,cond_true]
  unfold jq
  rw [k2]
  cases mu h
  · rfl
  cases m4 h != me
  case true=>rfl
  cases q:decide (iE p.heap.ag now me h<0)
  case true=>rfl
  obtain ⟨ar,g0,g9,_⟩:=wo q
  simp only [bne_self_eq_false,Bool.false_and,Bool.true_and,cond_true,cond_false,beq_self_eq_true,(ar.at g0 g9).1,Option.bind_some]
  cases (nth p.heap.ag (iE p.heap.ag now me h)).kind != k <;> rfl
def sH (h:iv) (i:Int):iv:=bif kq h&&iG i 0 9 then m5 h i else h
theorem DM {N:Nat} (hN:im≤N) {h:iv} (h1:jl iA h.ag<im) (h2:h.gc.ia.length+1<im) (i:Int):nG N h i=some (sH h i):=by
  have h2':h.gc.ia.length<im:=by omega
  unfold nG sH
  simp only [vq hN h1 h2',xz hN h1 h2',sO,Option.bind_some]
  cases q:kq h
  · rfl
  cases hi:iG i 0 9
  · rfl
  have ar:=nh q
  have hl:=ar.len
  rw [jv] at hi
  simp only [cond_true,Option.bind_some,Bool.and_self,FH hN hi.1 (show i<(h.ag.length:Int) by omega) h2]
theorem D8 {N:Nat} (hN:im≤N) {h:iv} (h1:jl iA h.ag<im) (h2:h.gc.ia.length+1<im) (hw:wA h.ag) (i:Int):nM N h i=some (sH h i):=by
  have h2':h.gc.ia.length<im:=by omega
  unfold nM sH
  simp only [ue hN h1 h2',uY hN h1 h2' hw,rm,Option.bind_some]
  cases q:kq h
  · rfl
  cases hi:iG i 0 9
  · rfl
  have ar:=nh q
  have hl:=ar.len
  rw [jv] at hi
  simp only [Bool.not_true,cond_true,cond_false,Option.bind_some,Bool.and_self,xT hN hi.1 (show i<(h.ag.length:Int) by omega) h2]
def linked (o:bh) (b x:Int):bh:=bh.mk o.gen o.kind o.box o.res o.iL o.cd o.wait o.iK o.iM o.mark (o.ig.set b.toNat x) o.data o.queue
def boxed (o:bh) (b:Int):bh:=bh.mk o.gen o.kind b o.res o.iL o.cd o.wait o.iK o.iM o.mark o.ig o.data o.queue
def written (o:bh) (b x:Int):bh:=bh.mk o.gen o.kind o.box o.res o.iL o.cd o.wait o.iK o.iM o.mark o.ig (o.data.set b.toNat x) o.queue
def pE (o:bh) (q:List ji):bh:=bh.mk o.gen o.kind o.box o.res o.iL o.cd o.wait o.iK o.iM o.mark o.ig o.data q
def waiting (o:bh) (x:Int):bh:=bh.mk o.gen o.kind o.box o.res o.iL o.cd x o.iK o.iM o.mark o.ig o.data o.queue
def xy (o:bh) (x:Int):bh:=bh.mk o.gen o.kind o.box o.res o.iL o.cd o.wait x o.iM o.mark o.ig o.data o.queue
def lv (p:gE) (h:iv):gE:=gE.mk p.label p.own p.tree h p.ic p.next p.want p.dW p.iz p.lost
def ve (p:gE) (t:List iy):gE:=gE.mk p.label p.own t p.heap p.ic p.next p.want p.dW p.iz p.lost
def E4 (p:gE) (t:List jy):gE:=gE.mk p.label p.own p.tree p.heap t p.next p.want p.dW p.iz p.lost
def mg (h:iv) (c i:Int):iv:=bif decide (c ≥ 0) then sH h i else h
def GL (p:gE) (i b x:Int):gE:=lv p (mg (iv.mk (p.heap.ag.set i.toNat (linked (nth p.heap.ag i) b x)) p.heap.gc) x x)
def lV (p:gE) (me now:Int) (c:iS):Int×Int×gE :=
  bif !iG c.b 0 1 then (2,0,p) else
  bif jq p.heap.ag now me c.a 0 != 0 then (jq p.heap.ag now me c.a 0,0,p) else
  bif (c.kind==2)&&(jq p.heap.ag now me c.c 0 != 0) then (jq p.heap.ag now me c.c 0,0,p) else
  (0,0,GL p (iE p.heap.ag now me c.a) c.b (bif c.kind==2 then iE p.heap.ag now me c.c else -1))
structure lf (p:gE):Prop where
  ok:kh p=true
  sz:jh p≤3000000
  w:wP p
theorem lf.ar {p:gE} (h:lf p):Ar p.heap.ag:=nB h.ok
theorem lf.b4 {p:gE} (h:lf p):jl iA p.heap.ag<im:=(ny (p:=p) (Nat.lt_of_le_of_lt h.sz (by decide))).2.2.2.1
theorem lf.b5 {p:gE} (h:lf p):p.heap.gc.ia.length+1<im:=by
  have:=h.sz
  have hB:(16777216:Nat)=im:=rfl
  unfold jh ox tj at this
  omega
theorem nZ {l:List bh} (h:Ar l) {i:Int} (h0:0≤i) (h9:i≤9):iA (nth l i)≤12:=Aj (h.ok _ (h.at h0 h9).2)
theorem wy {l:List bh} (h:Ar l) {i:Int} {o:bh} (ho:iA o≤100000):jl iA (l.set i.toNat o)<im:=EJ h ho _
theorem vN (o:bh) (b x:Int):iA (linked o b x)=iA o:=by unfold iA linked;simp only [List.length_set]
theorem wC {l:List Int} (h:l.length=2) {b:Int} (hb:iG b 0 1=true):idx l b=some (nth l b):=by
  rw [jv] at hb
  exact jj hb.1 (by omega)
theorem kj {a:Int} (h:(a != 0)=false):a=0:=by simpa using h
theorem Cz {N:Nat} (hN:im≤N) {h:iv} (h1:jl iA h.ag<im) (h2:h.gc.ia.length+1<im) (c i:Int) {β:Type} (f:iv→Option β):(bif decide (c ≥ 0) then (nG N h i).bind f else f h)=f (mg h c i):=by
  unfold mg
  rw [DM hN h1 h2]
  cases decide (c ≥ 0) <;> rfl
theorem Hn {N:Nat} (hN:im≤N) {p:gE} (hp:lf p) (me now th:Int) (c:iS):nf N (iI.mk p me now th) c=some ((lV p me now c).1,iI.mk (lV p me now c).2.2 me now th):=by
  have h4:=hp.b4
  unfold nf lV
  simp only [mj,uK hN,h4,Option.bind_some,tK,tM,uc]
  cases q1:iG c.b 0 1
  · rfl
  cases q2:jq p.heap.ag now me c.a 0 != 0
  case true=>rfl
  have q2':=kj q2
  obtain ⟨ar,g0,g9,gk,_⟩:=lH q2'
  have l2:=v5 (ar.ok _ (ar.at g0 g9).2) (by simpa using gk)
  simp only [Bool.not_true,cond_false,q2',beq_self_eq_true,cond_true]
  generalize iE p.heap.ag now me c.a=i at *
  have hs:∀ x,jl iA (p.heap.ag.set i.toNat (linked (nth p.heap.ag i) c.b x))<im:=fun x=>wy ar (by rw [vN];have:=nZ ar g0 g9;omega)
  cases hk:c.kind==2
  · simp only [cond_false,Option.bind_some,Sum.elim_inl,(ar.at g0 g9).1,wC l2 q1,Bool.false_and]
    rfl
  · cases q3:jq p.heap.ag now me c.c 0 != 0
    · have q3':=kj q3
      simp only [cond_true,cond_false,Option.bind_some,Sum.elim_inl,(ar.at g0 g9).1,wC l2 q1,Bool.and_false,q3',beq_self_eq_true]
      generalize iE p.heap.ag now me c.c=x
      exact Cz (h:=iv.mk (p.heap.ag.set i.toNat (linked (nth p.heap.ag i) c.b x)) p.heap.gc) hN (hs x) hp.b5 x x fun y=>some ((0:Int),iI.mk (lv p y) me now th)
    · rfl
def BW (p:gE):gE:=gE.mk p.label p.own p.tree p.heap p.ic p.next p.want p.dW (if 1000000<IntKind.i64.wrap (p.iz+1) then 1000000 else IntKind.i64.wrap (p.iz+1)) p.lost
def fin (c:iS) (p:gE) (r:Int×Int×gE):gE×iR:=bif r.1==0 then (r.2.2,iR.mk 0 r.2.1) else (bif (c.kind==1)&&((r.1==6) || (r.1==7)) then BW p else p,iR.mk r.1 0)
theorem sW (c:iS) (p q:gE) (v:Int):fin c p (0,v,q)=(q,iR.mk 0 v):=rfl
theorem kW {c:iS} {p q:gE} {k v:Int} (h:(k != 0)=true) (hc:(c.kind==1)=false):fin c p (k,v,q)=(p,iR.mk k 0):=by
  unfold fin
  have:(k==0)=false:=by simpa [bne] using h
  rw [this,hc];rfl
theorem wk {N:Nat} (hN:im≤N) {h:iv} (h1:jl iA h.ag<im) (h2:h.gc.ia.length+1<im) (hw:wA h.ag) (c i:Int) {β:Type} (f:iv→Option β):((bif decide (c ≥ 0) then ((nM N h i).bind fun y=>some (y.ag,y.gc.phase,y.gc.pos,y.gc.round,y.gc.ia)) else (some (h.ag,h.gc.phase,h.gc.pos,h.gc.round,h.gc.ia)):Option ((List bh)×Int×Int×Int×(List Int))).bind fun j=>f (iv.mk j.1 (jz.mk j.2.1 j.2.2.1 j.2.2.2.1 j.2.2.2.2)))=f (mg h c i):=by
  unfold mg
  rw [D8 hN h1 h2 hw]
  cases decide (c ≥ 0) <;> rfl
theorem GX {N:Nat} (hN:im≤N) {p:gE} (hp:lf p) (me now:Int) {c:iS} (hc:(c.kind==1)=false):qM N p me now c=some (fin c p (lV p me now c)):=by
  have h4:=hp.b4
  unfold qM lV
  simp only [m6,xR hN h4 hp.w,Option.bind_some]
  cases q1:iG c.b 0 1
  · simp only [Bool.not_false,cond_true,kW (show ((2:Int) != 0)=true from rfl) hc]
  cases q2:jq p.heap.ag now me c.a 0 != 0
  case true=>simp only [Bool.not_true,cond_false,cond_true,kW q2 hc]
  have q2':=kj q2
  obtain ⟨ar,g0,g9,gk,_⟩:=lH q2'
  have l2:=v5 (ar.ok _ (ar.at g0 g9).2) (by simpa using gk)
  simp only [Bool.not_true,cond_false,q2',beq_self_eq_true,cond_true]
  generalize iE p.heap.ag now me c.a=i at *
  have hs:∀ x,jl iA (p.heap.ag.set i.toNat (linked (nth p.heap.ag i) c.b x))<im:=fun x=>wy ar (by rw [vN];have:=nZ ar g0 g9;omega)
  have hx:∀ x,wA (p.heap.ag.set i.toNat (linked (nth p.heap.ag i) c.b x)):=fun x=>kC hp.w (show my (nth p.heap.ag i) from hp.w _ (ar.at g0 g9).2)
  cases hk:c.kind==2
  · simp only [cond_false,Option.bind_some,Sum.elim_inl,(ar.at g0 g9).1,wC l2 q1,Bool.false_and,sW]
    exact wk (h:=iv.mk (p.heap.ag.set i.toNat (linked (nth p.heap.ag i) c.b (-1))) p.heap.gc) hN (hs (-1)) hp.b5 (hx (-1)) (-1) (-1) fun y=>some (lv p y,iR.mk 0 0)
  · cases q3:jq p.heap.ag now me c.c 0 != 0
    · have q3':=kj q3
      simp only [cond_true,cond_false,Option.bind_some,Sum.elim_inl,(ar.at g0 g9).1,wC l2 q1,Bool.and_false,q3',beq_self_eq_true,sW]
      generalize iE p.heap.ag now me c.c=x
      exact wk (h:=iv.mk (p.heap.ag.set i.toNat (linked (nth p.heap.ag i) c.b x)) p.heap.gc) hN (hs x) hp.b5 (hx x) x x fun y=>some (lv p y,iR.mk 0 0)
    · simp only [cond_true,cond_false,Option.bind_some,Sum.elim_inr,Bool.and_true,kW q3 hc]
def GU (p:gE) (i x:Int):gE:=lv p (mg (iv.mk (p.heap.ag.set i.toNat (boxed (nth p.heap.ag i) x)) p.heap.gc) x i)
def l5 (p:gE) (me now:Int) (c:iS):Int×Int×gE :=
  bif jq p.heap.ag now me c.a 0 != 0 then (jq p.heap.ag now me c.a 0,0,p) else
  bif iE p.heap.ag now me c.a==0 then (5,0,p) else
  bif (c.kind==4)&&(jq p.heap.ag now me c.b 1 != 0) then (jq p.heap.ag now me c.b 1,0,p) else
  (0,0,GU p (iE p.heap.ag now me c.a) (bif c.kind==4 then iE p.heap.ag now me c.b else -1))
theorem GB {N:Nat} (hN:im≤N) {p:gE} (hp:lf p) (me now th:Int) (c:iS):nb N (iI.mk p me now th) c=some ((l5 p me now c).1,iI.mk (l5 p me now c).2.2 me now th):=by
  have h4:=hp.b4
  unfold nb l5
  simp only [uK hN,h4,Option.bind_some,tK,tM,uc]
  cases q2:jq p.heap.ag now me c.a 0 != 0
  case true=>rfl
  have q2':=kj q2
  obtain ⟨ar,g0,g9,gk,_⟩:=lH q2'
  simp only [Bool.not_true,cond_false,q2',beq_self_eq_true,cond_true]
  generalize iE p.heap.ag now me c.a=i at *
  cases hi:i==0
  case true=>rfl
  have hs:∀ x,jl iA (p.heap.ag.set i.toNat (boxed (nth p.heap.ag i) x))<im:=fun x=>wy ar (by have:iA (nth p.heap.ag i)≤12:=nZ ar g0 g9;show iA (nth p.heap.ag i)≤_;omega)
  cases hk:c.kind==4
  · simp only [cond_false,Option.bind_some,Sum.elim_inl,(ar.at g0 g9).1,Bool.false_and]
    rfl
  · cases q3:jq p.heap.ag now me c.b 1 != 0
    · have q3':=kj q3
      simp only [cond_true,cond_false,Option.bind_some,Sum.elim_inl,(ar.at g0 g9).1,Bool.and_false,q3',beq_self_eq_true]
      generalize iE p.heap.ag now me c.b=x
      exact Cz (h:=iv.mk (p.heap.ag.set i.toNat (boxed (nth p.heap.ag i) x)) p.heap.gc) hN (hs x) hp.b5 x i fun y=>some ((0:Int),iI.mk (lv p y) me now th)
    · rfl
theorem GR {N:Nat} (hN:im≤N) {p:gE} (hp:lf p) (me now:Int) {c:iS} (hc:(c.kind==1)=false):qW N p me now c=some (fin c p (l5 p me now c)):=by
  have h4:=hp.b4
  unfold qW l5
  simp only [xR hN h4 hp.w,xA hN h4 hp.w _ _ _ (show (0:Int)<1 by decide),Option.bind_some]
  cases q2:jq p.heap.ag now me c.a 0 != 0
  case true=>simp only [cond_true,kW q2 hc]
  have q2':=kj q2
  obtain ⟨ar,g0,g9,gk,_⟩:=lH q2'
  simp only [Bool.not_true,cond_false,q2',beq_self_eq_true,cond_true]
  generalize iE p.heap.ag now me c.a=i at *
  cases hi:i==0
  case true=>simp only [cond_true,kW (show ((5:Int) != 0)=true from rfl) hc]
  have hs:∀ x,jl iA (p.heap.ag.set i.toNat (boxed (nth p.heap.ag i) x))<im:=fun x=>wy ar (by have:iA (nth p.heap.ag i)≤12:=nZ ar g0 g9;show iA (nth p.heap.ag i)≤_;omega)
  have hx:∀ x,wA (p.heap.ag.set i.toNat (boxed (nth p.heap.ag i) x)):=fun x=>kC hp.w (show my (nth p.heap.ag i) from hp.w _ (ar.at g0 g9).2)
  cases hk:c.kind==4
  · simp only [cond_false,Option.bind_some,Sum.elim_inl,(ar.at g0 g9).1,Bool.false_and,sW]
    exact wk (h:=iv.mk (p.heap.ag.set i.toNat (boxed (nth p.heap.ag i) (-1))) p.heap.gc) hN (hs (-1)) hp.b5 (hx (-1)) (-1) i fun y=>some (lv p y,iR.mk 0 0)
  · cases q3:jq p.heap.ag now me c.b 1 != 0
    · have q3':=kj q3
      simp only [cond_true,cond_false,Option.bind_some,Sum.elim_inl,(ar.at g0 g9).1,Bool.and_false,q3',beq_self_eq_true,sW]
      generalize iE p.heap.ag now me c.b=x
      exact wk (h:=iv.mk (p.heap.ag.set i.toNat (boxed (nth p.heap.ag i) x)) p.heap.gc) hN (hs x) hp.b5 (hx x) x i fun y=>some (lv p y,iR.mk 0 0)
    · simp only [cond_true,cond_false,Option.bind_some,Sum.elim_inr,Bool.and_true,kW q3 hc]
def FI (p:gE) (i b x:Int):gE:=sI p (p.heap.ag.set i.toNat (written (nth p.heap.ag i) b x))
def jI (p:gE) (me now:Int) (c:iS):Int×Int×gE :=
  bif jq p.heap.ag now me c.a 2 != 0 then (jq p.heap.ag now me c.a 2,0,p) else
  bif !iG c.b 0 (((nth p.heap.ag (iE p.heap.ag now me c.a)).data.length:Int) - 1) then (2,0,p) else
  bif c.kind==7 then (0,nth (nth p.heap.ag (iE p.heap.ag now me c.a)).data c.b,p) else
  bif !iG c.c 0 999 then (2,0,p) else (0,0,FI p (iE p.heap.ag now me c.a) c.b c.c)
theorem zY {α:Type} {l:List α} (h:l.length<im):IntKind.i64.wrap ((l.length:Int) - 1)=(l.length:Int) - 1:=by
  have:l.length<16777216:=h
  exact iX (by omega) (by omega)
theorem z7 {o:bh} (h:iA o≤12):o.data.length<im:=by
  have hB:(16777216:Nat)=im:=rfl
  unfold iA at h
  omega
theorem D2 {N:Nat} (hN:im≤N) {p:gE} (hp:lf p) (me now th:Int) (c:iS):mh N (iI.mk p me now th) c=some ((jI p me now c).1,(jI p me now c).2.1,iI.mk (jI p me now c).2.2 me now th):=by
  have h4:=hp.b4
  unfold mh jI
  simp only [uK hN,h4,mj,Option.bind_some,tK,tM,uc]
  cases q2:jq p.heap.ag now me c.a 2 != 0
  case true=>rfl
  have q2':=kj q2
  obtain ⟨ar,g0,g9,gk,_⟩:=lH q2'
  simp only [Bool.not_true,cond_false,q2',beq_self_eq_true,cond_true]
  generalize iE p.heap.ag now me c.a=i at *
  have ho:=nZ ar g0 g9
  simp only [(ar.at g0 g9).1,Option.bind_some,zY (z7 ho)]
  cases q3:iG c.b 0 (((nth p.heap.ag i).data.length:Int) - 1)
  · rfl
  have hd:idx (nth p.heap.ag i).data c.b=some (nth (nth p.heap.ag i).data c.b):=by
    rw [jv] at q3
    exact jj q3.1 (by omega)
  simp only [Bool.not_true,cond_false,hd,Option.bind_some]
  cases c.kind==7
  · cases iG c.c 0 999 <;> rfl
  · rfl
theorem GN {N:Nat} (hN:im≤N) {p:gE} (hp:lf p) (me now:Int) {c:iS} (hc:(c.kind==1)=false) (hk:(c.kind==6)=!(c.kind==7)):pL N p me now c=some (fin c p (jI p me now c)):=by
  have h4:=hp.b4
  unfold pL jI
  simp only [xA hN h4 hp.w _ _ _ (show (0:Int)<2 by decide),m6,Option.bind_some]
  cases q2:jq p.heap.ag now me c.a 2 != 0
  case true=>simp only [cond_true,kW q2 hc]
  have q2':=kj q2
  obtain ⟨ar,g0,g9,gk,_⟩:=lH q2'
  simp only [Bool.not_true,cond_false,q2',beq_self_eq_true,cond_true]
  generalize iE p.heap.ag now me c.a=i at *
  have ho:=nZ ar g0 g9
  simp only [(ar.at g0 g9).1,Option.bind_some,zY (z7 ho)]
  cases q3:iG c.b 0 (((nth p.heap.ag i).data.length:Int) - 1)
  · simp only [Bool.not_false,cond_true,Option.bind_some,kW (show ((2:Int) != 0)=true from rfl) hc]
  have hd:idx (nth p.heap.ag i).data c.b=some (nth (nth p.heap.ag i).data c.b):=by
    rw [jv] at q3
    exact jj q3.1 (by omega)
  rw [hk]
  simp only [Bool.not_true,cond_false,hd,Option.bind_some]
  cases c.kind==7
  · cases iG c.c 0 999
    · simp only [Bool.not_false,cond_true,cond_false,Option.bind_some,kW (show ((2:Int) != 0)=true from rfl) hc]
    · rfl
  · rfl
def mU (p:gE) (f:Int) (a:iB):Bool:=(jQ p.tree f a).2&&(kz p.dW (iB.mk 0 a.ij 0)).2
def v9 (p:gE) (f:Int) (a:iB):gE:=gE.mk p.label p.own (jQ p.tree f a).1 p.heap p.ic p.next p.want (kz p.dW (iB.mk 0 a.ij 0)).1 p.iz p.lost
theorem DA (p:gE) (f:Int) (a:iB):(v9 p f a).heap=p.heap:=rfl
theorem lf.b3 {p:gE} (h:lf p):p.tree.length<im:=(ny (p:=p) (Nat.lt_of_le_of_lt h.sz (by decide))).2.2.1
theorem Fo {N:Nat} (hN:im≤N) {x:iI} (hB:x.part.tree.length<im) (f:Int) (a:iB):mO N x f a=some (mU x.part f a,bif mU x.part f a then iI.mk (v9 x.part f a) x.me x.now x.iV else x):=by
  unfold mO mU
  simp only [vC hN hB,Et,Option.bind_some,kO]
  cases (jQ x.part.tree f a).2 <;> cases (kz x.part.dW (iB.mk 0 a.ij 0)).2 <;> rfl
def kA (p:gE) (me now:Int) (c:iS):Int×Int×gE :=
  bif jq p.heap.ag now me c.a 0 != 0 then (jq p.heap.ag now me c.a 0,0,p) else
  bif (iE p.heap.ag now me c.a==0) || (!iG c.b 1 1000 || decide (IntKind.i64.wrap ((nth p.heap.ag (iE p.heap.ag now me c.a)).iL+c.b) > 1000000)) then (2,0,p) else
  bif !mU p (pj p (nth p.heap.ag (iE p.heap.ag now me c.a)).res) (iB.mk 0 (IntKind.i64.wrap ((nth p.heap.ag (iE p.heap.ag now me c.a)).cd * c.b)) 0) then (6,0,p) else
  (0,0,sI (v9 p (pj p (nth p.heap.ag (iE p.heap.ag now me c.a)).res) (iB.mk 0 (IntKind.i64.wrap ((nth p.heap.ag (iE p.heap.ag now me c.a)).cd * c.b)) 0)) (p.heap.ag.set (iE p.heap.ag now me c.a).toNat (Du (nth p.heap.ag (iE p.heap.ag now me c.a)) (IntKind.i64.wrap ((nth p.heap.ag (iE p.heap.ag now me c.a)).iL+c.b)))))
theorem Gi {N:Nat} (hN:im≤N) {p:gE} (hp:lf p) (me now th:Int) (c:iS):mY N (iI.mk p me now th) c=some ((kA p me now c).1,iI.mk (kA p me now c).2.2 me now th):=by
  have h4:=hp.b4
  have h3:=hp.b3
  unfold mY kA
  simp only [uK hN,h4,mj,Option.bind_some,tK,tM,uc]
  cases q2:jq p.heap.ag now me c.a 0 != 0
  case true=>rfl
  have q2':=kj q2
  obtain ⟨ar,g0,g9,gk,_⟩:=lH q2'
  simp only [Bool.not_true,cond_false,q2',beq_self_eq_true,cond_true]
  generalize iE p.heap.ag now me c.a=i at *
  simp only [(ar.at g0 g9).1,Option.bind_some,kO,Ce hN,Fo hN,h3]
  cases ((i==0) || (!iG c.b 1 1000 || decide (IntKind.i64.wrap ((nth p.heap.ag i).iL+c.b) > 1000000)))
  · cases mU p (pj p (nth p.heap.ag i).res) (iB.mk 0 (IntKind.i64.wrap ((nth p.heap.ag i).cd * c.b)) 0) <;> rfl
  · rfl
theorem FF {N:Nat} (hN:im≤N) {p:gE} (hp:lf p) (me now:Int) {c:iS} (hc:(c.kind==1)=false):qa N p me now c=some (fin c p (kA p me now c)):=by
  have h4:=hp.b4
  have h3:=hp.b3
  unfold qa kA
  simp only [xR hN h4 hp.w,m6,Option.bind_some]
  cases q2:jq p.heap.ag now me c.a 0 != 0
  case true=>simp only [cond_true,kW q2 hc]
  have q2':=kj q2
  obtain ⟨ar,g0,g9,gk,_⟩:=lH q2'
  simp only [Bool.not_true,cond_false,q2',beq_self_eq_true,cond_true]
  generalize iE p.heap.ag now me c.a=i at *
  simp only [(ar.at g0 g9).1,Option.bind_some,kO,Ck hN,ub hN h3,tR]
  cases ((i==0) || (!iG c.b 1 1000 || decide (IntKind.i64.wrap ((nth p.heap.ag i).iL+c.b) > 1000000)))
  · unfold mU
    cases (jQ p.tree (pj p (nth p.heap.ag i).res) (iB.mk 0 (IntKind.i64.wrap ((nth p.heap.ag i).cd * c.b)) 0)).2 <;> cases (kz p.dW (iB.mk 0 (IntKind.i64.wrap ((nth p.heap.ag i).cd * c.b)) 0)).2 <;> simp only [Bool.not_true,Bool.not_false,Bool.and_self,Bool.and_false,Bool.false_and,Bool.or_self,Bool.or_true,Bool.true_or,Bool.false_or,Bool.or_false,Bool.true_and,Bool.and_true,cond_true,cond_false,kW (show ((6:Int) != 0)=true from rfl) hc,sW]
    rfl
  · simp only [cond_true,kW (show ((2:Int) != 0)=true from rfl) hc]
def mf (p:gE) (c:iS):Int×Int×gE :=
  bif c.kind==9 then
    bif !iG c.a 0 4 || !je (iB.mk c.b c.c c.d) then (2,0,p) else
    bif !(k6 p.tree c.a (iB.mk c.b c.c c.d)).2.2 then (6,0,p) else (0,(k6 p.tree c.a (iB.mk c.b c.c c.d)).2.1,ve p (k6 p.tree c.a (iB.mk c.b c.c c.d)).1)
  else bif c.kind==10 then
    bif !iG c.a 0 4 || (!iG c.b 0 4 || (!iG c.c 0 2 || !uL c.d)) then (2,0,p) else
    bif !(ml p.tree c.a c.b (qF c.c c.d)).2 then (6,0,p) else (0,0,ve p (ml p.tree c.a c.b (qF c.c c.d)).1)
  else bif !(mn p.tree c.a).2 then (2,0,p) else (0,0,ve p (mn p.tree c.a).1)
theorem D1 {N:Nat} (hN:im≤N) {p:gE} (hp:lf p) (me now th:Int) (c:iS):lU N (iI.mk p me now th) c=some ((mf p c).1,(mf p c).2.1,iI.mk (mf p c).2.2 me now th):=by
  have h3:=hp.b3
  unfold lU mf
  simp only [te,qn,mj,yh,Es,BF hN h3,C3 hN h3,CN hN h3,Option.bind_some,kO]
  cases c.kind==9
  · cases c.kind==10
    · cases (mn p.tree c.a).2 <;> rfl
    · cases (!iG c.a 0 4 || (!iG c.b 0 4 || (!iG c.c 0 2 || !uL c.d)))
      · cases (ml p.tree c.a c.b (qF c.c c.d)).2 <;> rfl
      · rfl
  · cases (!iG c.a 0 4 || !je (iB.mk c.b c.c c.d))
    · cases (k6 p.tree c.a (iB.mk c.b c.c c.d)).2.2 <;> rfl
    · rfl
theorem HG {N:Nat} (hN:im≤N) {p:gE} (hp:lf p) {c:iS} (hc:(c.kind==1)=false):su N p c=some (fin c p (mf p c)):=by
  have h3:=hp.b3
  have n2:=fun q=>kW (p:=p) (q:=q) (v:=0) (show ((2:Int) != 0)=true from rfl) hc
  have n6:=fun q=>kW (p:=p) (q:=q) (v:=0) (show ((6:Int) != 0)=true from rfl) hc
  unfold su mf
  simp only [tC,sK,m6,H2,ED,w9 hN h3,CJ hN h3,xI hN h3,Option.bind_some,kO]
  cases c.kind==9
  · cases c.kind==10
    · cases (mn p.tree c.a).2
      · simp only [Bool.not_false,cond_true,cond_false,n2]
      · rfl
    · cases (!iG c.a 0 4 || (!iG c.b 0 4 || (!iG c.c 0 2 || !uL c.d)))
      · cases (ml p.tree c.a c.b (qF c.c c.d)).2
        · simp only [Bool.not_false,cond_true,cond_false,n6]
        · rfl
      · simp only [cond_true,cond_false,n2]
  · cases (!iG c.a 0 4 || !je (iB.mk c.b c.c c.d))
    · cases (k6 p.tree c.a (iB.mk c.b c.c c.d)).2.2
      · simp only [Bool.not_false,cond_true,cond_false,n6]
      · rfl
    · simp only [cond_true,n2]
def r9 (p:gE) (th a:Int):Int×Int×gE :=
  bif a==0 then (0,(nth p.heap.ag th).iM,p) else bif a==1 then (0,(nth p.heap.ag th).iK,p) else
  bif (a==2) || ((a==3) || (a==4)) then (0,uS (xL p th) (IntKind.i64.wrap (a - 2)),p) else (2,0,p)
theorem yn (a b c:Bool):(bif a then some a else bif b then some b else some c)=some (a || (b || c)):=by cases a <;> cases b <;> rfl
theorem Gt (a b:Bool):(bif a then some a else some b)=some (a || b):=by cases a <;> rfl
theorem GK {N:Nat} (hN:im≤N) {p:gE} (hp:lf p) (me now:Int) {th:Int} (h0:0≤th) (h9:th≤9) (a:Int):nt N (iI.mk p me now th) a=some ((r9 p th a).1,(r9 p th a).2.1,iI.mk (r9 p th a).2.2 me now th):=by
  unfold nt r9
  simp only [(hp.ar.at h0 h9).1,FO hN hp.ok h0 h9,DN,Option.bind_some,yn]
  cases a==0
  · cases a==1
    · cases (a==2) || ((a==3) || (a==4)) <;> rfl
    · rfl
  · rfl
theorem Gu {N:Nat} (hN:im≤N) {p:gE} (hp:lf p) {th:Int} (h0:0≤th) (h9:th≤9) {c:iS} (hc:(c.kind==1)=false):qV N p th c=some (fin c p (r9 p th c.a)):=by
  unfold qV r9
  obtain ⟨r0,r4⟩:=yR p (nth p.heap.ag th).res
  simp only [(hp.ar.at h0 h9).1,Ck hN,Cs hp.ok r0 r4,DC,Option.bind_some,yn,He]
  cases c.a==0
  · cases c.a==1
    · cases (c.a==2) || ((c.a==3) || (c.a==4))
      · simp only [cond_false,kW (show ((2:Int) != 0)=true from rfl) hc]
      · rfl
    · rfl
  · rfl
theorem AR {l:List bh} {o:bh}:∀ (m:List bh) (k:Nat),ri l o k m=(l, -1)∨∃ (j:Nat) (g:Int),j<k+m.length∧ri l o k m=(l.set j (kl o g),(j:Int))∧ka (l.set j (kl o g))=true
  | [],k=>.inl rfl
  | x::m,k=>by
    unfold ri
    split
    · rcases AR (l:=l) (o:=o) m (k+1) with h | ⟨j,g,h1,h2,h3⟩
      · exact .inl h
      · exact .inr ⟨j,g,by simp only [List.length_cons];omega,h2,h3⟩
    · unfold putAt
      split
      · rename_i q
        simp only [Bool.and_eq_true] at q
        exact .inr ⟨k,_,by simp,rfl,q.1⟩
      · exact .inl rfl
theorem uC {l:List bh} {o:bh} (h:decide ((kf l o).2<0)=false):∃ (j:Nat) (g:Int),kf l o=(l.set j (kl o g),(j:Int))∧Ar (l.set j (kl o g))∧j<10:=by
  unfold kf at *
  cases ha:ka l
  · rw [ha] at h;simp at h
  · rw [ha] at h
    simp only [if_true] at *
    have hl:=(ko.1 ha).len
    rcases AR (l:=l) (o:=o) (l.drop 1) 1 with e | ⟨j,g,h1,h2,h3⟩
    · rw [e] at h;simp at h
    · exact ⟨j,g,h2,ko.1 h3,by simp only [List.length_drop] at h1;omega⟩
def newObj (now box:Int) (c:iS):bh:=bh.mk 0 c.a box c.e (IntKind.i64.wrap (now+c.d)) c.c 0 0 0 false [-1, -1] (bif c.a==2 then List.replicate c.c.toNat 0 else []) []
def ql (now:Int) (c:iS):Bool:=!iG c.a 1 4 || (!iG c.c 0 8 || (!iG c.d 1 1000 || (decide (IntKind.i64.wrap (now+c.d) > 1000000) || !iG c.e 0 4)))
def cost (c:iS):iB:=iB.mk c.c (IntKind.i64.wrap (c.c * c.d)) 0
def lG (p:gE) (me now:Int) (c:iS):Int×Int×gE :=
  bif ql now c then (2,0,p) else
  bif jq p.heap.ag now me c.b 1 != 0 then (jq p.heap.ag now me c.b 1,0,p) else
  bif !mU p c.e (cost c) then (6,0,p) else
  bif decide ((kf p.heap.ag (newObj now (iE p.heap.ag now me c.b) c)).2<0) then (7,0,v9 p c.e (cost c)) else
  (0,sM me (kf p.heap.ag (newObj now (iE p.heap.ag now me c.b) c)).2 (nth (kf p.heap.ag (newObj now (iE p.heap.ag now me c.b) c)).1 (kf p.heap.ag (newObj now (iE p.heap.ag now me c.b) c)).2).gen,
    lv (v9 p c.e (cost c)) (nn (iv.mk (kf p.heap.ag (newObj now (iE p.heap.ag now me c.b) c)).1 p.heap.gc) (kf p.heap.ag (newObj now (iE p.heap.ag now me c.b) c)).2))
theorem uy {now:Int} {c:iS} (h:ql now c=false):0≤c.c∧c.c≤8:=by
  unfold ql at h
  simp only [Bool.or_eq_false_iff,Bool.not_eq_false'] at h
  exact jv.1 h.2.1
theorem vZ {now box:Int} {c:iS} (h:0≤c.c∧c.c≤8):iA (newObj now box c)≤100:=by
  unfold iA newObj
  cases c.a==2
  · simp
  · simp only [cond_true,List.length_replicate,List.length_cons,List.length_nil]
    omega
theorem xn (now box:Int) (c:iS):my (newObj now box c):=by show (-9223372036854775808:Int)≤0;decide
theorem GV {c:Int} (h:0≤c∧c≤8):mk Int c=some (List.replicate c.toNat 0):=by
  have hB:(16777216:Nat)=im:=rfl
  unfold mk
  rw [if_pos ⟨h.1,by omega⟩]
  rfl
theorem Fg (a b c d e:Bool):(bif a then some true else bif b then some true else bif c then some true else bif d then some true else some e)=some (a || (b || (c || (d || e)))):=by cases a <;> cases b <;> cases c <;> cases d <;> rfl
theorem GF {N:Nat} (hN:im+1≤N) {p:gE} (hp:lf p) (me now th:Int) (c:iS):np N (iI.mk p me now th) c=some ((lG p me now c).1,(lG p me now c).2.1,iI.mk (lG p me now c).2.2 me now th):=by
  have hN':im≤N:=Nat.le_of_succ_le hN
  have h4:=hp.b4
  have h3:=hp.b3
  have h5:=hp.b5
  unfold np lG
  simp only [uK hN',h4,mj,te,Option.bind_some,tK,tM,uc,Fg]
  rw [show (!iG c.a 1 4 || (!iG c.c 0 8 || (!iG c.d 1 1000 || (decide (IntKind.i64.wrap (now+c.d) > 1000000) || !iG c.e 0 4))))=ql now c from rfl]
  cases q1:ql now c
  case true=>rfl
  have hc:=uy q1
  cases q2:jq p.heap.ag now me c.b 1 != 0
  case true=>rfl
  have q2':=kj q2
  simp only [cond_false,cond_true,q2',beq_self_eq_true]
  generalize iE p.heap.ag now me c.b=box
  rw [show iB.mk c.c (IntKind.i64.wrap (c.c * c.d)) 0=cost c from rfl]
  simp only [Fo hN' (x:=iI.mk p me now th) h3,Option.bind_some]
  cases q3:mU p c.e (cost c)
  · rfl
  simp only [Bool.not_true,cond_false,cond_true,GV hc,Option.bind_some,DA]
  rw [show (bif c.a==2 then some (List.replicate c.c.toNat 0) else some ([]:List Int))=some (bif c.a==2 then List.replicate c.c.toNat 0 else []) from od _ _ _]
  simp only [Option.bind_some]
  rw [show bh.mk 0 c.a box c.e (IntKind.i64.wrap (now+c.d)) c.c 0 0 0 false [-1, -1] (bif c.a==2 then List.replicate c.c.toNat 0 else []) []=newObj now box c from rfl]
  have ho:=vZ (now:=now) (box:=box) hc
  rw [Da hN h4 (o:=newObj now box c) (by omega)]
  simp only [Option.bind_some]
  cases q4:decide ((kf p.heap.ag (newObj now box c)).2<0)
  case true=>rfl
  obtain ⟨j,g,e,ar,hj⟩:=uC q4
  have h1:=ar.sz
  have hB:(16777216:Nat)=im:=rfl
  rw [e]
  simp only [cond_false,(ar.at (i:=(j:Int)) (by omega) (by omega)).1,Option.bind_some,xO]
  rw [ER hN' (h:=iv.mk (p.heap.ag.set j (kl (newObj now box c) g)) p.heap.gc) (by show jl iA (p.heap.ag.set j (kl (newObj now box c) g))<im;omega) (by show p.heap.gc.ia.length<im;omega)]
  rfl
theorem A1 (l:List bh) (now me h k:Int):(jq l now me h k==6)=false∧(jq l now me h k==7)=false:=by
  unfold jq
  cases mu h
  · exact ⟨rfl,rfl⟩
  cases m4 h != me
  case true=>exact ⟨rfl,rfl⟩
  cases decide (iE l now me h<0)
  case true=>exact ⟨rfl,rfl⟩
  cases (k != 0)&&((nth l (iE l now me h)).kind != k) <;> exact ⟨rfl,rfl⟩
theorem z0 {c:iS} {p q:gE} {k v:Int} (h:(k != 0)=true) (h6:(k==6)=false) (h7:(k==7)=false):fin c p (k,v,q)=(p,iR.mk k 0):=by
  unfold fin
  have:(k==0)=false:=by simpa [bne] using h
  rw [this]
  simp only [cond_false,h6,h7,Bool.or_self,Bool.and_false]
theorem zj {c:iS} {p q:gE} {k v:Int} (h:(k != 0)=true) (h6:((k==6) || (k==7))=true) (hc:(c.kind==1)=true):fin c p (k,v,q)=(BW p,iR.mk k 0):=by
  unfold fin
  have:(k==0)=false:=by simpa [bne] using h
  rw [this]
  simp only [cond_false,h6,hc,Bool.and_self,cond_true]
theorem Gw {N:Nat} (hN:im≤N) {p:gE} (hp:lf p) (me now:Int) {c:iS} (hc1:(c.kind==1)=true):qw N p me now c=some (fin c p (lG p me now c)):=by
  have h4:=hp.b4
  have h3:=hp.b3
  have h5:=hp.b5
  unfold qw lG
  simp only [xA hN h4 hp.w _ _ _ (show (0:Int)<1 by decide),m6,tC,Option.bind_some,Fg]
  rw [show (!iG c.a 1 4 || (!iG c.c 0 8 || (!iG c.d 1 1000 || (decide (IntKind.i64.wrap (now+c.d) > 1000000) || !iG c.e 0 4))))=ql now c from rfl]
  cases q1:ql now c
  case true=>simp only [cond_true,z0 (show ((2:Int) != 0)=true from rfl) rfl rfl]
  have hc:=uy q1
  cases q2:jq p.heap.ag now me c.b 1 != 0
  case true=>simp only [cond_true,cond_false,z0 q2 (A1 _ _ _ _ _).1 (A1 _ _ _ _ _).2]
  have q2':=kj q2
  simp only [cond_false,cond_true,q2',beq_self_eq_true]
  generalize iE p.heap.ag now me c.b=box
  rw [show iB.mk c.c (IntKind.i64.wrap (c.c * c.d)) 0=cost c from rfl]
  simp only [ub hN h3,tR,Option.bind_some,kO]
  rw [show (!(jQ p.tree c.e (cost c)).2 || !(kz p.dW (iB.mk 0 (IntKind.i64.wrap (c.c * c.d)) 0)).2)=!mU p c.e (cost c) by unfold mU;rw [Bool.not_and];rfl]
  cases q3:mU p c.e (cost c)
  · simp only [Bool.not_false,cond_true,zj (show ((6:Int) != 0)=true from rfl) rfl hc1]
    rfl
  simp only [Bool.not_true,cond_false,cond_true,GV hc,Option.bind_some]
  rw [show (bif c.a==2 then some (List.replicate c.c.toNat 0) else some ([]:List Int))=some (bif c.a==2 then List.replicate c.c.toNat 0 else []) from od _ _ _]
  simp only [Option.bind_some]
  rw [show bh.mk 0 c.a box c.e (IntKind.i64.wrap (now+c.d)) c.c 0 0 0 false [-1, -1] (bif c.a==2 then List.replicate c.c.toNat 0 else []) []=newObj now box c from rfl]
  have ho:=vZ (now:=now) (box:=box) hc
  rw [vm hN h4 hp.w (o:=newObj now box c) (by omega) (xn _ _ _)]
  simp only [Option.bind_some]
  cases q4:decide ((kf p.heap.ag (newObj now box c)).2<0)
  case true =>
    simp only [cond_true,zj (show ((7:Int) != 0)=true from rfl) rfl hc1]
    rfl
  obtain ⟨j,g,e,ar,hj⟩:=uC q4
  have h1:=ar.sz
  have hB:(16777216:Nat)=im:=rfl
  have hw':wA (p.heap.ag.set j (kl (newObj now box c) g)):=kC hp.w (vg (xn _ _ _))
  rw [e]
  simp only [cond_false,(ar.at (i:=(j:Int)) (by omega) (by omega)).1,Option.bind_some,tA]
  rw [AF hN (h:=iv.mk (p.heap.ag.set j (kl (newObj now box c) g)) p.heap.gc) (by show jl iA (p.heap.ag.set j (kl (newObj now box c) g))<im;omega) (by show p.heap.gc.ia.length<im;omega) hw']
  rfl
def u6 (l:List bh) (k w b:Int):List bh:=bif decide (k ≥ 0)&&((nth l k).wait==w) then (l.set k.toNat (waiting (nth l k) 0)).set k.toNat (xy (nth (l.set k.toNat (waiting (nth l k) 0)) k) b) else l
theorem yO {l:List bh} {k w b:Int} (h:0≤k→k<(l.length:Int)) {β:Type} (f:List bh→Option β) :
    ((bif decide (k ≥ 0) then ((idx l k).bind fun y=>some (y.wait==w)) else (some false):Option Bool).bind fun j=>(bif j then ((idx l k).bind fun y=>(some (l.set (k:Int).toNat (waiting y 0))).bind fun z=>(idx z k).bind fun x=>(some (z.set (k:Int).toNat (xy x b))).bind fun v=>some v) else (some l):Option (List bh)).bind f)=f (u6 l k w b):=by
  unfold u6
  cases hk:decide (k ≥ 0)
  · rfl
  have k0:0≤k:=by simpa using hk
  have e:=jj k0 (h k0)
  have e2:∀ z,idx (l.set k.toNat z) k=some (nth (l.set k.toNat z) k):=fun z=>jj k0 (by simp only [List.length_set];exact h k0)
  simp only [cond_true,e,e2,Option.bind_some,Bool.true_and]
  cases (nth l k).wait==w <;> rfl
def asked (l:List bh) (g me th:Int) (c:iS):List bh:=l.set g.toNat (pE (nth l g) ((nth l g).queue++[ji.mk (sM me th (nth l th).gen) c.b]))
def served (l:List bh) (g:Int):List bh:=l.set g.toNat (pE (nth l g) ((nth l g).queue.drop 1))
def k8 (p:gE) (me now th:Int) (c:iS):Int×Int×gE :=
  bif jq p.heap.ag now me c.a 3 != 0 then (jq p.heap.ag now me c.a 3,0,p) else
  bif !iG c.b 0 999 then (2,0,p) else
  bif c.kind==12 then
    bif decide (((nth p.heap.ag (iE p.heap.ag now me c.a)).queue.length:Int) ≥ 2) then (8,0,p) else
    (0,0,sI p ((asked p.heap.ag (iE p.heap.ag now me c.a) me th c).set th.toNat (waiting (nth (asked p.heap.ag (iE p.heap.ag now me c.a) me th c) th) (IntKind.i64.wrap (c.a+1)))))
  else
    bif ((nth p.heap.ag (iE p.heap.ag now me c.a)).queue.length:Int)==0 then (8,0,p) else
    (0,(nth (nth p.heap.ag (iE p.heap.ag now me c.a)).queue 0).n,sI p (u6 (served p.heap.ag (iE p.heap.ag now me c.a)) (iE (served p.heap.ag (iE p.heap.ag now me c.a)) now me (nth (nth p.heap.ag (iE p.heap.ag now me c.a)).queue 0).src) (IntKind.i64.wrap (c.a+1)) c.b))
theorem AM {α:Type} {l:List α} {k:Nat} (h:k≤l.length):sub l (k:Int) (l.length:Int)=some (l.drop k):=by
  unfold sub
  rw [if_pos ⟨by omega,by omega,by omega⟩]
  simp only [Int.toNat_natCast]
  rw [List.take_of_length_le (by simp)]
theorem vF {o:bh} (h:iA o≤12):o.queue.length≤12:=by unfold iA at h;omega
theorem zy {o:bh} {q:List ji} (h:iA o≤12) (hq:q.length≤20):iA (pE o q)≤100000:=by
  unfold iA at h
  unfold iA pE
  simp only
  omega
theorem wz {l:List bh} {now me h:Int} (hl:l.length=10) (h0:0≤iE l now me h):iE l now me h<(l.length:Int):=by
  obtain ⟨_,_,h9,_⟩:=wo (l:=l) (now:=now) (me:=me) (h:=h) (decide_eq_false (by omega))
  omega
theorem GY {N:Nat} (hN:im≤N) {p:gE} (hp:lf p) (me now:Int) {th:Int} (t0:0≤th) (t9:th≤9) {c:iS} (hk:(c.kind==13)=!(c.kind==12)):nw N (iI.mk p me now th) c=some ((k8 p me now th c).1,(k8 p me now th c).2.1,iI.mk (k8 p me now th c).2.2 me now th):=by
  have h4:=hp.b4
  unfold nw k8
  simp only [uK hN,h4,mj,Option.bind_some,tK,tM,uc]
  cases q2:jq p.heap.ag now me c.a 3 != 0
  case true=>rfl
  have q2':=kj q2
  obtain ⟨ar,g0,g9,gk,_⟩:=lH q2'
  simp only [Bool.not_true,cond_false,q2',beq_self_eq_true,cond_true]
  generalize iE p.heap.ag now me c.a=i at *
  have ho:=nZ ar g0 g9
  have hq:=vF ho
  have hl:=ar.len
  have hB:(16777216:Nat)=im:=rfl
  simp only [(ar.at g0 g9).1,(ar.at t0 t9).1,Option.bind_some]
  cases q3:iG c.b 0 999
  · rfl
  rw [hk]
  cases q4:c.kind==12
  · simp only [Bool.not_true,Bool.not_false,cond_false,cond_true,Option.bind_some]
    cases q5:((nth p.heap.ag i).queue.length:Int)==0
    case true=>rfl
    have l1:1≤(nth p.heap.ag i).queue.length:=by rw [beq_eq_false_iff_ne] at q5;omega
    have hsub:sub (nth p.heap.ag i).queue 1 ((nth p.heap.ag i).queue.length:Int)=some ((nth p.heap.ag i).queue.drop 1):=AM l1
    have happ:app ([]:List ji) ((nth p.heap.ag i).queue.drop 1)=some ((nth p.heap.ag i).queue.drop 1):=j9 (by simp only [List.length_drop];omega)
    have hi0:idx (nth p.heap.ag i).queue 0=some (nth (nth p.heap.ag i).queue 0):=jj (i:=0) (by decide) (by omega)
    simp only [cond_false,hsub,happ,hi0,Option.bind_some]
    have hs:jl iA (p.heap.ag.set i.toNat (pE (nth p.heap.ag i) ((nth p.heap.ag i).queue.drop 1)))<im:=wy ar (zy ho (by simp only [List.length_drop];omega))
    have e1:=vf hN hs now me (nth (nth p.heap.ag i).queue 0).src
    unfold pE at e1
    rw [e1,Option.bind_some]
    exact yO (l:=served p.heap.ag i) (wz (by unfold served;simp only [List.length_set];exact hl)) fun z=>some ((0:Int),(nth (nth p.heap.ag i).queue 0).n,iI.mk (sI p z) me now th)
  · simp only [Bool.not_true,Bool.not_false,cond_false,cond_true,Option.bind_some,kO,Bool.or_false]
    cases q5:decide (((nth p.heap.ag i).queue.length:Int) ≥ 2)
    case true=>rfl
    have happ:∀ m,app (nth p.heap.ag i).queue [m]=some ((nth p.heap.ag i).queue++[m]):=fun m=>kV hq (by omega)
    have e2:∀ z,idx (p.heap.ag.set i.toNat z) th=some (nth (p.heap.ag.set i.toNat z) th):=fun z=>jj t0 (by simp only [List.length_set];omega)
    simp only [cond_false,xO,happ,e2,Option.bind_some]
    rfl
theorem Hf {N:Nat} (hN:im≤N) {p:gE} (hp:lf p) (me now:Int) {th:Int} (t0:0≤th) (t9:th≤9) {c:iS} (hc:(c.kind==1)=false):qE N p me now th c=some (fin c p (k8 p me now th c)):=by
  have h4:=hp.b4
  unfold qE k8
  simp only [xA hN h4 hp.w _ _ _ (show (0:Int)<3 by decide),m6,Option.bind_some]
  cases q2:jq p.heap.ag now me c.a 3 != 0
  case true=>simp only [cond_true,kW q2 hc]
  have q2':=kj q2
  obtain ⟨ar,g0,g9,gk,_⟩:=lH q2'
  simp only [Bool.not_true,cond_false,q2',beq_self_eq_true,cond_true]
  generalize iE p.heap.ag now me c.a=i at *
  have ho:=nZ ar g0 g9
  have hq:=vF ho
  have hl:=ar.len
  have hB:(16777216:Nat)=im:=rfl
  simp only [(ar.at g0 g9).1,(ar.at t0 t9).1,Option.bind_some]
  cases q3:iG c.b 0 999
  · simp only [Bool.not_false,cond_true,kW (show ((2:Int) != 0)=true from rfl) hc]
  cases q4:c.kind==12
  · simp only [Bool.not_true,Bool.not_false,cond_false,cond_true,Option.bind_some]
    cases q5:((nth p.heap.ag i).queue.length:Int)==0
    case true=>simp only [cond_true,kW (show ((8:Int) != 0)=true from rfl) hc]
    have l1:1≤(nth p.heap.ag i).queue.length:=by rw [beq_eq_false_iff_ne] at q5;omega
    have hsub:sub (nth p.heap.ag i).queue 1 ((nth p.heap.ag i).queue.length:Int)=some ((nth p.heap.ag i).queue.drop 1):=AM l1
    have happ:app ([]:List ji) ((nth p.heap.ag i).queue.drop 1)=some ((nth p.heap.ag i).queue.drop 1):=j9 (by simp only [List.length_drop];omega)
    have hi0:idx (nth p.heap.ag i).queue 0=some (nth (nth p.heap.ag i).queue 0):=jj (i:=0) (by decide) (by omega)
    simp only [cond_false,hsub,happ,hi0,Option.bind_some,sW]
    have hs:jl iA (p.heap.ag.set i.toNat (pE (nth p.heap.ag i) ((nth p.heap.ag i).queue.drop 1)))<im:=wy ar (zy ho (by simp only [List.length_drop];omega))
    have hx:wA (p.heap.ag.set i.toNat (pE (nth p.heap.ag i) ((nth p.heap.ag i).queue.drop 1))):=kC hp.w (show my (nth p.heap.ag i) from hp.w _ (ar.at g0 g9).2)
    have e1:=xY hN hs hx now me (nth (nth p.heap.ag i).queue 0).src
    unfold pE at e1
    rw [e1,Option.bind_some]
    exact yO (l:=served p.heap.ag i) (wz (by unfold served;simp only [List.length_set];exact hl)) fun z=>some (sI p z,iR.mk 0 (nth (nth p.heap.ag i).queue 0).n)
  · simp only [Bool.not_true,Bool.not_false,cond_false,cond_true,Option.bind_some,kO,Bool.or_false]
    cases q5:decide (((nth p.heap.ag i).queue.length:Int) ≥ 2)
    case true=>simp only [cond_true,kW (show ((8:Int) != 0)=true from rfl) hc]
    have happ:∀ m,app (nth p.heap.ag i).queue [m]=some ((nth p.heap.ag i).queue++[m]):=fun m=>kV hq (by omega)
    have hap0:app ([]:List ji) (nth p.heap.ag i).queue=some (nth p.heap.ag i).queue:=j9 (by omega)
    have e2:∀ z,idx (p.heap.ag.set i.toNat z) th=some (nth (p.heap.ag.set i.toNat z) th):=fun z=>jj t0 (by simp only [List.length_set];omega)
    simp only [cond_false,tA,hap0,happ,e2,Option.bind_some,sW]
    rfl
def tF (p:gE) (c:iS):Int×Int×gE:=bif !iG c.a 0 ((p.ic.length:Int) - 1) then (2,0,p) else (0,0,E4 p (p.ic.take c.a.toNat++p.ic.drop (c.a.toNat+1)))
theorem AX {α:Type} {l:List α} {i j:Int} (h0:0≤i) (h1:i≤j) (h2:j≤(l.length:Int)):sub l i j=some ((l.drop i.toNat).take (j.toNat - i.toNat)):=by
  unfold sub
  rw [if_pos ⟨h0,h1,h2⟩]
theorem lf.b6 {p:gE} (h:lf p):p.ic.length<im:=(ny (p:=p) (Nat.lt_of_le_of_lt h.sz (by decide))).2.2.2.2.2
theorem DI {α:Type} {l:List α} (hl:l.length<im) {a:Int} (h:iG a 0 ((l.length:Int) - 1)=true):IntKind.i64.wrap (a+1)=a+1∧sub l 0 a=some (l.take a.toNat)∧sub l (a+1) (l.length:Int)=some (l.drop (a.toNat+1))∧∃ m,sub l a (a+1)=some m:=by
  have hB:(16777216:Nat)=im:=rfl
  rw [jv] at h
  refine ⟨iX (by omega) (by omega),?_,?_,_,AX h.1 (by omega) (by omega)⟩
  · rw [AX (Int.le_refl 0) h.1 (by omega)]
    simp
  · rw [AX (by omega) (by omega) (Int.le_refl _),show (a+1).toNat=a.toNat+1 by omega,List.take_of_length_le (by simp)]
theorem AS (N:Nat) {l:List jy} (hl:l.length<im) {a:Int} (h:iG a 0 ((l.length:Int) - 1)=true):nQ N l a (IntKind.i64.wrap (a+1))=some (l.take a.toNat++l.drop (a.toNat+1)):=by
  obtain ⟨h1,h2,h3,m,h4⟩:=DI hl h
  unfold nQ
  have hne:(a==a+1)=false:=by rw [beq_eq_false_iff_ne];omega
  simp only [h1,h2,h3,h4,hne,Option.bind_some,cond_false]
def kn (p:gE) (me now th:Int) (c:iS):Int×Int×gE :=
  bif c.kind==1 then lG p me now c else bif (c.kind==2) || (c.kind==3) then lV p me now c else bif (c.kind==4) || (c.kind==5) then l5 p me now c else
  bif (c.kind==6) || (c.kind==7) then jI p me now c else bif c.kind==8 then kA p me now c else bif (c.kind==9) || ((c.kind==10) || (c.kind==11)) then mf p c else
  bif (c.kind==12) || (c.kind==13) then k8 p me now th c else bif c.kind==14 then r9 p th c.a else bif c.kind==15 then tF p c else (2,0,p)
theorem yE (p:gE) (me now:Int) (c:iS):(lV p me now c).2.1=0∧gE.mk p.label p.own p.tree (lV p me now c).2.2.heap p.ic (lV p me now c).2.2.next (lV p me now c).2.2.want (lV p me now c).2.2.dW (lV p me now c).2.2.iz (lV p me now c).2.2.lost=(lV p me now c).2.2:=by
  unfold lV
  cases !iG c.b 0 1
  · cases jq p.heap.ag now me c.a 0 != 0
    · cases (c.kind==2)&&(jq p.heap.ag now me c.c 0 != 0) <;> exact ⟨rfl,rfl⟩
    · exact ⟨rfl,rfl⟩
  · exact ⟨rfl,rfl⟩
theorem yJ (p:gE) (me now:Int) (c:iS):(l5 p me now c).2.1=0∧gE.mk p.label p.own p.tree (l5 p me now c).2.2.heap p.ic (l5 p me now c).2.2.next (l5 p me now c).2.2.want (l5 p me now c).2.2.dW (l5 p me now c).2.2.iz (l5 p me now c).2.2.lost=(l5 p me now c).2.2:=by
  unfold l5
  cases jq p.heap.ag now me c.a 0 != 0
  · cases iE p.heap.ag now me c.a==0
    · cases (c.kind==4)&&(jq p.heap.ag now me c.b 1 != 0) <;> exact ⟨rfl,rfl⟩
    · exact ⟨rfl,rfl⟩
  · exact ⟨rfl,rfl⟩
theorem Cd (p:gE) (me now:Int) (c:iS):gE.mk p.label p.own p.tree (iv.mk (jI p me now c).2.2.heap.ag (jz.mk (jI p me now c).2.2.heap.gc.phase (jI p me now c).2.2.heap.gc.pos (jI p me now c).2.2.heap.gc.round p.heap.gc.ia)) p.ic (jI p me now c).2.2.next (jI p me now c).2.2.want (jI p me now c).2.2.dW (jI p me now c).2.2.iz (jI p me now c).2.2.lost=(jI p me now c).2.2:=by
  unfold jI
  cases jq p.heap.ag now me c.a 2 != 0
  · cases !iG c.b 0 (((nth p.heap.ag (iE p.heap.ag now me c.a)).data.length:Int) - 1)
    · cases c.kind==7
      · cases !iG c.c 0 999 <;> rfl
      · rfl
    · rfl
  · rfl
theorem xg (p:gE) (me now:Int) (c:iS):(kA p me now c).2.1=0∧gE.mk p.label p.own (kA p me now c).2.2.tree (iv.mk (kA p me now c).2.2.heap.ag (jz.mk (kA p me now c).2.2.heap.gc.phase (kA p me now c).2.2.heap.gc.pos (kA p me now c).2.2.heap.gc.round p.heap.gc.ia)) p.ic (kA p me now c).2.2.next (kA p me now c).2.2.want (kA p me now c).2.2.dW (kA p me now c).2.2.iz (kA p me now c).2.2.lost=(kA p me now c).2.2:=by
  unfold kA
  cases jq p.heap.ag now me c.a 0 != 0
  · cases (iE p.heap.ag now me c.a==0) || (!iG c.b 1 1000 || decide (IntKind.i64.wrap ((nth p.heap.ag (iE p.heap.ag now me c.a)).iL+c.b) > 1000000))
    · cases mU p (pj p (nth p.heap.ag (iE p.heap.ag now me c.a)).res) (iB.mk 0 (IntKind.i64.wrap ((nth p.heap.ag (iE p.heap.ag now me c.a)).cd * c.b)) 0) <;> exact ⟨rfl,rfl⟩
    · exact ⟨rfl,rfl⟩
  · exact ⟨rfl,rfl⟩
theorem DU (p:gE) (c:iS):gE.mk p.label p.own (mf p c).2.2.tree (iv.mk p.heap.ag (jz.mk (mf p c).2.2.heap.gc.phase (mf p c).2.2.heap.gc.pos (mf p c).2.2.heap.gc.round p.heap.gc.ia)) p.ic (mf p c).2.2.next (mf p c).2.2.want (mf p c).2.2.dW (mf p c).2.2.iz (mf p c).2.2.lost=(mf p c).2.2:=by
  unfold mf
  cases c.kind==9
  · cases c.kind==10
    · cases !(mn p.tree c.a).2 <;> rfl
    · cases (!iG c.a 0 4 || (!iG c.b 0 4 || (!iG c.c 0 2 || !uL c.d)))
      · cases !(ml p.tree c.a c.b (qF c.c c.d)).2 <;> rfl
      · rfl
  · cases (!iG c.a 0 4 || !je (iB.mk c.b c.c c.d))
    · cases !(k6 p.tree c.a (iB.mk c.b c.c c.d)).2.2 <;> rfl
    · rfl
theorem B7 (p:gE) (me now th:Int) (c:iS):gE.mk p.label p.own p.tree (iv.mk (k8 p me now th c).2.2.heap.ag (jz.mk (k8 p me now th c).2.2.heap.gc.phase (k8 p me now th c).2.2.heap.gc.pos (k8 p me now th c).2.2.heap.gc.round p.heap.gc.ia)) p.ic (k8 p me now th c).2.2.next (k8 p me now th c).2.2.want (k8 p me now th c).2.2.dW (k8 p me now th c).2.2.iz (k8 p me now th c).2.2.lost=(k8 p me now th c).2.2:=by
  unfold k8
  cases jq p.heap.ag now me c.a 3 != 0
  · cases !iG c.b 0 999
    · cases c.kind==12
      · cases ((nth p.heap.ag (iE p.heap.ag now me c.a)).queue.length:Int)==0 <;> rfl
      · cases decide (((nth p.heap.ag (iE p.heap.ag now me c.a)).queue.length:Int) ≥ 2) <;> rfl
    · rfl
  · rfl
theorem Ca (p:gE) (me now:Int) (c:iS):gE.mk p.label p.own (lG p me now c).2.2.tree (lG p me now c).2.2.heap p.ic (lG p me now c).2.2.next (lG p me now c).2.2.want (lG p me now c).2.2.dW (lG p me now c).2.2.iz (lG p me now c).2.2.lost=(lG p me now c).2.2:=by
  unfold lG
  cases ql now c
  · cases jq p.heap.ag now me c.b 1 != 0
    · cases !mU p c.e (cost c)
      · cases decide ((kf p.heap.ag (newObj now (iE p.heap.ag now me c.b) c)).2<0) <;> rfl
      · rfl
    · rfl
  · rfl
theorem wB (p:gE) (th a:Int):(r9 p th a).2.2=p:=by
  unfold r9
  cases a==0
  · cases a==1
    · cases (a==2) || ((a==3) || (a==4)) <;> rfl
    · rfl
  · rfl
theorem DK {a m n:Int} (hne:m ≠ n) (h:((a==m) || (a==n))=true):(a==m)=!(a==n):=by
  simp only [Bool.or_eq_true,beq_iff_eq] at h
  rcases h with h | h
  · subst h
    have:(a==n)=false:=by rw [beq_eq_false_iff_ne];exact hne
    rw [this];simp
  · subst h
    have:(a==m)=false:=by rw [beq_eq_false_iff_ne];exact fun q=>hne q.symm
    rw [this];simp
theorem Ie {N:Nat} (hN:im+1≤N) {p:gE} (hp:lf p) (me now:Int) {th:Int} (t0:0≤th) (t9:th≤9) (c:iS):oM N (iI.mk p me now th) c=some ((kn p me now th c).1,(kn p me now th c).2.1,iI.mk (kn p me now th c).2.2 me now th):=by
  have hN':im≤N:=Nat.le_of_succ_le hN
  unfold oM kn
  simp only [GF hN hp,Hn hN' hp,GB hN' hp,D2 hN' hp,Gi hN' hp,D1 hN' hp,GK hN' hp _ _ t0 t9,mj,Option.bind_some,Gt,yn,(yE p me now c).2,(yJ p me now c).2,Cd,(xg p me now c).2,DU,Ca,wB,tK,tM,uc]
  cases c.kind==1
  case true=>rfl
  cases (c.kind==2) || (c.kind==3)
  case true=>simp only [cond_false,cond_true,(yE p me now c).1]
  cases (c.kind==4) || (c.kind==5)
  case true=>simp only [cond_false,cond_true,(yJ p me now c).1]
  cases (c.kind==6) || (c.kind==7)
  case true=>rfl
  cases c.kind==8
  case true=>simp only [cond_false,cond_true,(xg p me now c).1]
  cases (c.kind==9) || ((c.kind==10) || (c.kind==11))
  case true=>rfl
  cases hg:(c.kind==12) || (c.kind==13)
  case true =>
    have:(c.kind==13)=!(c.kind==12):=by
      rw [Bool.or_comm] at hg
      exact DK (by decide) hg
    simp only [cond_false,cond_true,GY hN' hp me now t0 t9 this,Option.bind_some,B7]
  cases c.kind==14
  case true=>simp only [cond_false,cond_true,wB]
  cases c.kind==15
  case false=>rfl
  have h6:=hp.b6
  unfold tF
  simp only [cond_false,cond_true,zY h6]
  cases hi:iG c.a 0 ((p.ic.length:Int) - 1)
  · rfl
  simp only [Bool.not_true,cond_false,AS N h6 hi,Option.bind_some]
  rfl
theorem tw {p:gE} {now th:Int} (h:n4 p now th=true):kh p=true∧0≤th∧th≤9:=by
  unfold n4 at h
  simp only [Bool.and_eq_true] at h
  exact CF (now:=now) (by simpa using h.1)
def nH (p:gE) (me now th:Int) (c:iS):gE×iR :=
  bif !kh p || (!iG me 0 2 || !iG now 0 1000000) then (p,iR.mk 2 0) else bif !n4 p now th then (p,iR.mk 1 0) else fin c p (kn p me now th c)
theorem HN (p:gE) (me now th:Int) (c:iS):gE.mk p.label p.own (kn p me now th c).2.2.tree (kn p me now th c).2.2.heap (kn p me now th c).2.2.ic (kn p me now th c).2.2.next (kn p me now th c).2.2.want (kn p me now th c).2.2.dW (kn p me now th c).2.2.iz (kn p me now th c).2.2.lost=(kn p me now th c).2.2:=by
  unfold kn
  cases c.kind==1
  case true=>rw [cond_true, ← Ca]
  cases (c.kind==2) || (c.kind==3)
  case true=>rw [cond_false,cond_true, ← (yE p me now c).2]
  cases (c.kind==4) || (c.kind==5)
  case true=>rw [cond_false,cond_false,cond_true, ← (yJ p me now c).2]
  cases (c.kind==6) || (c.kind==7)
  case true=>rw [cond_false,cond_false,cond_false,cond_true, ← Cd]
  cases c.kind==8
  case true=>rw [cond_false,cond_false,cond_false,cond_false,cond_true, ← (xg p me now c).2]
  cases (c.kind==9) || ((c.kind==10) || (c.kind==11))
  case true=>simp only [cond_false,cond_true];rw [← DU]
  cases (c.kind==12) || (c.kind==13)
  case true=>simp only [cond_false,cond_true];rw [← B7]
  cases c.kind==14
  case true=>simp only [cond_false,cond_true,wB,uc]
  cases c.kind==15
  case false=>rfl
  simp only [cond_false,cond_true]
  unfold tF
  cases !iG c.a 0 ((p.ic.length:Int) - 1) <;> rfl
theorem Di {N:Nat} (hN:im+1≤N) {p:gE} (hb:jh p≤3000000) (hw:wP p) (me now th:Int) (c:iS):pB N p me now th c=some (nH p me now th c):=by
  have hN':im≤N:=Nat.le_of_succ_le hN
  have hB:jh p<im:=Nat.lt_of_le_of_lt hb (by decide)
  unfold pB nH
  simp only [xj hN' hB,xh,tJ,uZ hN' hB,yW hN' hB,Option.bind_some,kO]
  cases !kh p || (!iG me 0 2 || !iG now 0 1000000)
  case true=>rfl
  cases hc:n4 p now th
  · rfl
  obtain ⟨ok,t0,t9⟩:=tw hc
  simp only [Bool.not_true,cond_false,Ie hN ⟨ok,hb,hw⟩ me now t0 t9,Option.bind_some,HN,k5]
  unfold fin
  cases (kn p me now th c).1==0
  · simp only [cond_false]
    cases (c.kind==1)&&(((kn p me now th c).1==6) || ((kn p me now th c).1==7)) <;> rfl
  · rfl
theorem Dl (p:gE) (me now:Int) (c:iS) {β:Type} (x:Option β):nO p.label.levels (fin c p (jI p me now c)).1.label.levels (nO p.own (fin c p (jI p me now c)).1.own (nO p.tree (fin c p (jI p me now c)).1.tree (nO p.heap.ag (fin c p (jI p me now c)).1.heap.ag (nO p.heap.gc.ia (fin c p (jI p me now c)).1.heap.gc.ia (nO p.ic (fin c p (jI p me now c)).1.ic x)))))=x:=by
  have h:(jI p me now c).2.2.label=p.label∧(jI p me now c).2.2.own=p.own∧(jI p me now c).2.2.tree=p.tree∧(jI p me now c).2.2.heap.ag.length=p.heap.ag.length∧(jI p me now c).2.2.heap.gc=p.heap.gc∧(jI p me now c).2.2.ic=p.ic:=by
    unfold jI
    cases jq p.heap.ag now me c.a 2 != 0
    case true=>exact ⟨rfl,rfl,rfl,rfl,rfl,rfl⟩
    cases !iG c.b 0 (((nth p.heap.ag (iE p.heap.ag now me c.a)).data.length:Int) - 1)
    case true=>exact ⟨rfl,rfl,rfl,rfl,rfl,rfl⟩
    cases c.kind==7
    case true=>exact ⟨rfl,rfl,rfl,rfl,rfl,rfl⟩
    cases !iG c.c 0 999
    case true=>exact ⟨rfl,rfl,rfl,rfl,rfl,rfl⟩
    exact ⟨rfl,rfl,rfl,List.length_set,rfl,rfl⟩
  have g:(fin c p (jI p me now c)).1.label.levels.length=p.label.levels.length∧(fin c p (jI p me now c)).1.own.length=p.own.length∧(fin c p (jI p me now c)).1.tree.length=p.tree.length∧(fin c p (jI p me now c)).1.heap.ag.length=p.heap.ag.length∧(fin c p (jI p me now c)).1.heap.gc.ia.length=p.heap.gc.ia.length∧(fin c p (jI p me now c)).1.ic.length=p.ic.length:=by
    unfold fin
    cases (jI p me now c).1==0
    · cases (c.kind==1)&&(((jI p me now c).1==6) || ((jI p me now c).1==7)) <;> exact ⟨rfl,rfl,rfl,rfl,rfl,rfl⟩
    · simp only [cond_true]
      rw [h.1,h.2.1,h.2.2.1,h.2.2.2.2.1,h.2.2.2.2.2]
      exact ⟨rfl,rfl,rfl,h.2.2.2.1,rfl,rfl⟩
  rw [qd g.1,qd g.2.1,qd g.2.2.1,qd g.2.2.2.1,qd g.2.2.2.2.1,qd g.2.2.2.2.2]
theorem Dd {N:Nat} (hN:im≤N) {p:gE} (hb:jh p≤3000000) (hw:wP p) (me now th:Int) (c:iS):pR N p me now th c=some (nH p me now th c):=by
  have hB:jh p<im:=Nat.lt_of_le_of_lt hb (by decide)
  unfold pR nH
  simp only [Ak hN hB hw,m6,ze hN hB,Ep hN hB hw,Option.bind_some,kO,Gt,yn]
  cases !kh p || (!iG me 0 2 || !iG now 0 1000000)
  case true=>rfl
  cases hc:n4 p now th
  · rfl
  obtain ⟨ok,t0,t9⟩:=tw hc
  have hp:lf p:=⟨ok,hb,hw⟩
  simp only [Bool.not_true,cond_false]
  unfold kn
  cases hk:c.kind==1
  case true=>simp only [cond_true,Gw hN hp me now hk,Option.bind_some]
  simp only [cond_false]
  cases (c.kind==2) || (c.kind==3)
  case true=>simp only [cond_true,GX hN hp me now hk,Option.bind_some]
  simp only [cond_false]
  cases (c.kind==4) || (c.kind==5)
  case true=>simp only [cond_true,GR hN hp me now hk,Option.bind_some]
  simp only [cond_false]
  cases hd:(c.kind==6) || (c.kind==7)
  case true =>
    simp only [cond_true,GN hN hp me now hk (DK (by decide) hd),Option.bind_some]
    all_goals (rw [Dl];rfl)
  simp only [cond_false]
  cases c.kind==8
  case true=>simp only [cond_true,FF hN hp me now hk,Option.bind_some]
  simp only [cond_false]
  cases (c.kind==9) || ((c.kind==10) || (c.kind==11))
  case true=>simp only [cond_true,HG hN hp hk,Option.bind_some]
  simp only [cond_false]
  cases (c.kind==12) || (c.kind==13)
  case true=>simp only [cond_true,Hf hN hp me now t0 t9 hk,Option.bind_some]
  simp only [cond_false]
  cases c.kind==14
  case true=>simp only [cond_true,Gu hN hp t0 t9 hk,Option.bind_some]
  simp only [cond_false]
  cases c.kind==15
  case false=>simp only [cond_false,kW (show ((2:Int) != 0)=true from rfl) hk]
  have h6:=hp.b6
  unfold tF
  simp only [cond_true,zY h6]
  cases hi:iG c.a 0 ((p.ic.length:Int) - 1)
  · simp only [Bool.not_false,cond_true,kW (show ((2:Int) != 0)=true from rfl) hk]
  obtain ⟨h1,h2,h3,_⟩:=DI h6 hi
  have hB':(16777216:Nat)=im:=rfl
  have a1:app ([]:List jy) (p.ic.take c.a.toNat)=some (p.ic.take c.a.toNat):=j9 (by simp only [List.length_take];omega)
  have a2:app (p.ic.take c.a.toNat) (p.ic.drop (c.a.toNat+1))=some (p.ic.take c.a.toNat++p.ic.drop (c.a.toNat+1)):=by
    unfold app
    rw [if_pos (by simp only [List.length_take,List.length_drop];omega)]
  simp only [Bool.not_true,cond_false,h1,h2,h3,a1,a2,Option.bind_some,sW]
  rfl
structure sG (p q:gE):Prop where
  sz:jh q≤jh p+300
  w:wP q
  ln:q.heap.ag.length=p.heap.ag.length
theorem oP {p q:gE} (h1:q.label=p.label) (h2:q.own=p.own) (h3:q.tree.length=p.tree.length) (h4:jl iA q.heap.ag≤jl iA p.heap.ag+250) (h5:q.heap.gc.ia.length≤p.heap.gc.ia.length+1) (h6:q.ic.length≤p.ic.length) (h7:wA q.heap.ag) (h8:q.heap.ag.length=p.heap.ag.length):sG p q:=by
  refine ⟨?_,h7,h8⟩
  unfold jh ox tj lA
  rw [h1,h2]
  omega
theorem jH {p:gE} (h:lf p):sG p p:=⟨by omega,h.w,rfl⟩
theorem tO {l:List bh} {k:Nat} {o:bh} (ho:iA o≤100):jl iA (l.set k o)≤jl iA l+100:=Nat.le_trans wt (by omega)
theorem yj (h:iv) (c i:Int):(mg h c i).ag.length=h.ag.length:=by
  unfold mg sH m5
  cases decide (c ≥ 0)
  · rfl
  cases kq h&&iG i 0 9
  · rfl
  simp only [cond_true]
  split
  · simp only [List.length_set]
  · rfl
theorem xJ {h:iv} (hw:wA h.ag) (c i:Int):jl iA (mg h c i).ag=jl iA h.ag∧wA (mg h c i).ag∧(mg h c i).gc.ia.length≤h.gc.ia.length+1:=by
  unfold mg sH
  cases decide (c ≥ 0)
  · exact ⟨rfl,hw,Nat.le_succ _⟩
  cases q:kq h&&iG i 0 9
  · exact ⟨rfl,hw,Nat.le_succ _⟩
  simp only [Bool.and_eq_true,jv] at q
  have hl:=(nh q.1).len
  simp only [cond_true]
  refine ⟨?_,?_,uU h i⟩
  · unfold m5
    split
    · exact nL q.2.1 (by omega) rfl
    · rfl
  · unfold m5
    split
    · exact kC hw (show my (marked (nth h.ag i) true) from hw (nth h.ag i) (m7 q.2.1 (by omega)))
    · exact hw
theorem Gq {p:gE} (hp:lf p) (me now:Int) (c:iS):sG p (lV p me now c).2.2:=by
  unfold lV
  cases !iG c.b 0 1
  case true=>exact jH hp
  cases q2:jq p.heap.ag now me c.a 0 != 0
  case true=>exact jH hp
  obtain ⟨ar,g0,g9,_,_⟩:=lH (kj q2)
  cases (c.kind==2)&&(jq p.heap.ag now me c.c 0 != 0)
  case true=>exact jH hp
  simp only [cond_false]
  generalize (bif c.kind==2 then iE p.heap.ag now me c.c else -1)=x
  have ho:=nZ ar g0 g9
  obtain ⟨a,b,d⟩:=xJ (h:=iv.mk (p.heap.ag.set (iE p.heap.ag now me c.a).toNat (linked (nth p.heap.ag (iE p.heap.ag now me c.a)) c.b x)) p.heap.gc) (kC hp.w (show my (nth p.heap.ag (iE p.heap.ag now me c.a)) from hp.w _ (ar.at g0 g9).2)) x x
  refine oP rfl rfl rfl ?_ d (Nat.le_refl _) b (by show (mg _ _ _).ag.length=_;rw [yj];exact List.length_set)
  refine Nat.le_trans (Nat.le_of_eq a) (Nat.le_trans (tO (by rw [vN];omega)) (by omega))
theorem Gc {p:gE} (hp:lf p) (me now:Int) (c:iS):sG p (l5 p me now c).2.2:=by
  unfold l5
  cases q2:jq p.heap.ag now me c.a 0 != 0
  case true=>exact jH hp
  obtain ⟨ar,g0,g9,_,_⟩:=lH (kj q2)
  cases iE p.heap.ag now me c.a==0
  case true=>exact jH hp
  cases (c.kind==4)&&(jq p.heap.ag now me c.b 1 != 0)
  case true=>exact jH hp
  simp only [cond_false]
  generalize (bif c.kind==4 then iE p.heap.ag now me c.b else -1)=x
  have ho:=nZ ar g0 g9
  obtain ⟨a,b,d⟩:=xJ (h:=iv.mk (p.heap.ag.set (iE p.heap.ag now me c.a).toNat (boxed (nth p.heap.ag (iE p.heap.ag now me c.a)) x)) p.heap.gc) (kC hp.w (show my (nth p.heap.ag (iE p.heap.ag now me c.a)) from hp.w _ (ar.at g0 g9).2)) x (iE p.heap.ag now me c.a)
  refine oP rfl rfl rfl ?_ d (Nat.le_refl _) b (by show (mg _ _ _).ag.length=_;rw [yj];exact List.length_set)
  refine Nat.le_trans (Nat.le_of_eq a) (Nat.le_trans (tO (show iA (nth p.heap.ag (iE p.heap.ag now me c.a))≤100 by omega)) (by omega))
theorem Gf {p:gE} (hp:lf p) (me now:Int) (c:iS):sG p (jI p me now c).2.2:=by
  unfold jI
  cases q2:jq p.heap.ag now me c.a 2 != 0
  case true=>exact jH hp
  obtain ⟨ar,g0,g9,_,_⟩:=lH (kj q2)
  cases !iG c.b 0 (((nth p.heap.ag (iE p.heap.ag now me c.a)).data.length:Int) - 1)
  case true=>exact jH hp
  cases c.kind==7
  case true=>exact jH hp
  cases !iG c.c 0 999
  case true=>exact jH hp
  have ho:=nZ ar g0 g9
  refine oP rfl rfl rfl ?_ (Nat.le_succ _) (Nat.le_refl _) (kC hp.w (show my (nth p.heap.ag (iE p.heap.ag now me c.a)) from hp.w _ (ar.at g0 g9).2)) List.length_set
  refine Nat.le_trans (tO (o:=written (nth p.heap.ag (iE p.heap.ag now me c.a)) c.b c.c) ?_) (by omega)
  unfold iA written at *
  simp only [List.length_set]
  omega
theorem EH {p:gE} (hp:lf p) (me now:Int) (c:iS):sG p (kA p me now c).2.2:=by
  unfold kA
  cases q2:jq p.heap.ag now me c.a 0 != 0
  case true=>exact jH hp
  obtain ⟨ar,g0,g9,_,_⟩:=lH (kj q2)
  cases (iE p.heap.ag now me c.a==0) || (!iG c.b 1 1000 || decide (IntKind.i64.wrap ((nth p.heap.ag (iE p.heap.ag now me c.a)).iL+c.b) > 1000000))
  case true=>exact jH hp
  cases !mU p (pj p (nth p.heap.ag (iE p.heap.ag now me c.a)).res) (iB.mk 0 (IntKind.i64.wrap ((nth p.heap.ag (iE p.heap.ag now me c.a)).cd * c.b)) 0)
  case true=>exact jH hp
  have ho:=nZ ar g0 g9
  refine oP rfl rfl (lM _ _ _) ?_ (Nat.le_succ _) (Nat.le_refl _) (kC hp.w (show my (nth p.heap.ag (iE p.heap.ag now me c.a)) from hp.w _ (ar.at g0 g9).2)) List.length_set
  exact Nat.le_trans (tO (show iA (nth p.heap.ag (iE p.heap.ag now me c.a))≤100 by omega)) (by omega)
theorem yA {p:gE} (hp:lf p) {t:List iy} (h:t.length=p.tree.length):sG p (ve p t):=oP rfl rfl h (by show jl iA p.heap.ag≤_;omega) (Nat.le_succ _) (Nat.le_refl _) hp.w rfl
theorem GZ {p:gE} (hp:lf p) (c:iS):sG p (mf p c).2.2:=by
  unfold mf
  cases c.kind==9
  · cases c.kind==10
    · cases !(mn p.tree c.a).2
      · exact yA hp (we _ _)
      · exact jH hp
    · cases (!iG c.a 0 4 || (!iG c.b 0 4 || (!iG c.c 0 2 || !uL c.d)))
      · cases !(ml p.tree c.a c.b (qF c.c c.d)).2
        · exact yA hp (z5 _ _ _ _)
        · exact jH hp
      · exact jH hp
  · cases (!iG c.a 0 4 || !je (iB.mk c.b c.c c.d))
    · cases !(k6 p.tree c.a (iB.mk c.b c.c c.d)).2.2
      · exact yA hp (vu _ _ _)
      · exact jH hp
    · exact jH hp
theorem FP (h:iv) (i:Int):(nn h i).ag.length=h.ag.length:=by
  unfold nn
  split
  · simp only [List.length_set]
  · rfl
theorem GC (l:List bh) (k w b:Int):(u6 l k w b).length=l.length:=by
  unfold u6
  cases decide (k ≥ 0)&&((nth l k).wait==w)
  · rfl
  · simp only [cond_true,List.length_set]
theorem Gd {h:iv} (hw:wA h.ag) (i:Int):jl iA (nn h i).ag=jl iA h.ag∧wA (nn h i).ag∧(nn h i).gc.ia.length=h.gc.ia.length:=by
  unfold nn
  split
  · rename_i q
    simp only [Bool.and_eq_true,jv] at q
    have hl:=(nh q.1).len
    exact ⟨nL q.2.1.1 (by omega) rfl,kC hw (show my (nth h.ag i) from hw _ (m7 q.2.1.1 (by omega))),rfl⟩
  · exact ⟨rfl,hw,rfl⟩
theorem Gj {p:gE} (hp:lf p) (f:Int) (a:iB):sG p (v9 p f a):=oP rfl rfl (lM _ _ _) (by show jl iA p.heap.ag≤_;omega) (Nat.le_succ _) (Nat.le_refl _) hp.w rfl
theorem Gb {p:gE} (hp:lf p) (me now:Int) (c:iS):sG p (lG p me now c).2.2:=by
  unfold lG
  cases q1:ql now c
  case true=>exact jH hp
  cases jq p.heap.ag now me c.b 1 != 0
  case true=>exact jH hp
  cases !mU p c.e (cost c)
  case true=>exact jH hp
  generalize iE p.heap.ag now me c.b=box
  cases q4:decide ((kf p.heap.ag (newObj now box c)).2<0)
  case true=>exact Gj hp _ _
  obtain ⟨j,g,e,ar,hj⟩:=uC q4
  simp only [cond_false]
  rw [e]
  have ho:=vZ (now:=now) (box:=box) (uy q1)
  obtain ⟨a,b,d⟩:=Gd (h:=iv.mk (p.heap.ag.set j (kl (newObj now box c) g)) p.heap.gc) (kC hp.w (vg (xn _ _ _))) (j:Int)
  refine oP rfl rfl (lM _ _ _) ?_ (by show (nn _ _).gc.ia.length≤_;rw [d];exact Nat.le_succ _) (Nat.le_refl _) b (by show (nn _ _).ag.length=_;rw [FP];exact List.length_set)
  exact Nat.le_trans (Nat.le_of_eq a) (Nat.le_trans (tO (show iA (newObj now box c)≤100 from ho)) (by omega))
theorem EG {l:List bh} (h:wA l) {i:Int} (h0:0≤i) (h1:i<(l.length:Int)):my (nth l i):=h _ (m7 h0 h1)
theorem G9 {l:List bh} (hw:wA l) {k w b:Int} (h:0≤k→k<(l.length:Int)):jl iA (u6 l k w b)=jl iA l∧wA (u6 l k w b):=by
  unfold u6
  cases q:decide (k ≥ 0)&&((nth l k).wait==w)
  · exact ⟨rfl,hw⟩
  simp only [Bool.and_eq_true,decide_eq_true_eq] at q
  have k1:=h q.1
  have w0:my (waiting (nth l k) 0):=by show (-9223372036854775808:Int)≤0;decide
  have w1:=kC (k:=k.toNat) hw w0
  have k2:k<((l.set k.toNat (waiting (nth l k) 0)).length:Int):=by simp only [List.length_set];exact k1
  simp only [cond_true]
  exact ⟨(nL (z:=xy (nth (l.set k.toNat (waiting (nth l k) 0)) k) b) q.1 k2 rfl).trans (nL q.1 k1 rfl),kC w1 (show my (nth (l.set k.toNat (waiting (nth l k) 0)) k) from EG w1 q.1 k2)⟩
theorem Im (n:Int):-9223372036854775808≤IntKind.i64.wrap n:=by
  simp [IntKind.wrap,IntKind.signed,IntKind.bits]
  split <;> omega
theorem Gg {p:gE} (hp:lf p) (me now:Int) {th:Int} (t0:0≤th) (t9:th≤9) (c:iS):sG p (k8 p me now th c).2.2:=by
  unfold k8
  cases q2:jq p.heap.ag now me c.a 3 != 0
  case true=>exact jH hp
  obtain ⟨ar,g0,g9,_,_⟩:=lH (kj q2)
  cases !iG c.b 0 999
  case true=>exact jH hp
  simp only [cond_false]
  generalize iE p.heap.ag now me c.a=i at *
  have ho:=nZ ar g0 g9
  have hl:=ar.len
  have hwi:my (nth p.heap.ag i):=hp.w _ (ar.at g0 g9).2
  have qs:∀ q,q.length≤20→iA (pE (nth p.heap.ag i) q)≤100:=fun q hq=>by
    unfold iA at ho
    unfold iA pE
    simp only
    omega
  have hq:=vF ho
  cases c.kind==12
  · cases ((nth p.heap.ag i).queue.length:Int)==0
    case true=>exact jH hp
    have hw1:wA (served p.heap.ag i):=kC hp.w hwi
    obtain ⟨a,b⟩:=G9 (l:=served p.heap.ag i) hw1 (k:=iE (served p.heap.ag i) now me (nth (nth p.heap.ag i).queue 0).src) (w:=IntKind.i64.wrap (c.a+1)) (b:=c.b) (wz (by unfold served;simp only [List.length_set];exact hl))
    refine oP rfl rfl rfl ?_ (Nat.le_succ _) (Nat.le_refl _) b (by show (u6 _ _ _ _).length=_;rw [GC];exact List.length_set)
    refine Nat.le_trans (Nat.le_of_eq a) (Nat.le_trans (tO (qs _ (by simp only [List.length_drop];omega))) (by omega))
  · cases decide (((nth p.heap.ag i).queue.length:Int) ≥ 2)
    case true=>exact jH hp
    have hw1:wA (asked p.heap.ag i me th c):=kC hp.w hwi
    have hl1:(asked p.heap.ag i me th c).length=10:=by unfold asked;simp only [List.length_set];exact hl
    have e:jl iA ((asked p.heap.ag i me th c).set th.toNat (waiting (nth (asked p.heap.ag i me th c) th) (IntKind.i64.wrap (c.a+1))))=jl iA (asked p.heap.ag i me th c):=nL t0 (by omega) rfl
    refine oP rfl rfl rfl ?_ (Nat.le_succ _) (Nat.le_refl _) (kC hw1 (Im _)) (by show (List.set _ _ _).length=_;rw [List.length_set,hl1,hl])
    refine Nat.le_trans (Nat.le_of_eq e) (Nat.le_trans (tO (qs _ (by simp only [List.length_append,List.length_cons,List.length_nil];omega))) (by omega))
theorem EL {p:gE} (hp:lf p) (c:iS):sG p (tF p c).2.2:=by
  unfold tF
  cases hi:iG c.a 0 ((p.ic.length:Int) - 1)
  · exact jH hp
  · exact oP rfl rfl rfl (by show jl iA p.heap.ag≤_;omega) (Nat.le_succ _) (by show (p.ic.take c.a.toNat++p.ic.drop (c.a.toNat+1)).length≤_;simp only [List.length_append,List.length_take,List.length_drop];omega) hp.w rfl
theorem FB {p:gE} (hp:lf p) (me now:Int) {th:Int} (t0:0≤th) (t9:th≤9) (c:iS):sG p (kn p me now th c).2.2:=by
  unfold kn
  cases c.kind==1
  case true=>exact Gb hp _ _ _
  cases (c.kind==2) || (c.kind==3)
  case true=>exact Gq hp _ _ _
  cases (c.kind==4) || (c.kind==5)
  case true=>exact Gc hp _ _ _
  cases (c.kind==6) || (c.kind==7)
  case true=>exact Gf hp _ _ _
  cases c.kind==8
  case true=>exact EH hp _ _ _
  cases (c.kind==9) || ((c.kind==10) || (c.kind==11))
  case true=>exact GZ hp _
  cases (c.kind==12) || (c.kind==13)
  case true=>exact Gg hp _ _ t0 t9 _
  cases c.kind==14
  case true=>simp only [cond_false,cond_true,wB];exact jH hp
  cases c.kind==15
  case true=>exact EL hp _
  exact jH hp
theorem FN {p:gE} (hb:jh p≤3000000) (hw:wP p) (me now th:Int) (c:iS):jh (nH p me now th c).1≤jh p+300∧wP (nH p me now th c).1:=by
  unfold nH
  cases !kh p || (!iG me 0 2 || !iG now 0 1000000)
  case true=>exact ⟨Nat.le_add_right _ _,hw⟩
  cases hc:n4 p now th
  · exact ⟨Nat.le_add_right _ _,hw⟩
  obtain ⟨ok,t0,t9⟩:=tw hc
  have hp:lf p:=⟨ok,hb,hw⟩
  simp only [Bool.not_true,cond_false]
  unfold fin
  cases (kn p me now th c).1==0
  · cases (c.kind==1)&&(((kn p me now th c).1==6) || ((kn p me now th c).1==7)) <;> exact ⟨Nat.le_add_right (jh p) _,hw⟩
  · have h:=FB hp me now t0 t9 c
    exact ⟨h.sz,h.w⟩
theorem E2 {p:gE} (hb:jh p≤3000000) (hw:wP p) (me now th:Int) (c:iS):(nH p me now th c).1.heap.ag.length=p.heap.ag.length:=by
  unfold nH
  cases !kh p || (!iG me 0 2 || !iG now 0 1000000)
  case true=>rfl
  cases hc:n4 p now th
  · rfl
  obtain ⟨ok,t0,t9⟩:=tw hc
  simp only [Bool.not_true,cond_false]
  unfold fin
  cases (kn p me now th c).1==0
  · cases (c.kind==1)&&(((kn p me now th c).1==6) || ((kn p me now th c).1==7)) <;> rfl
  · exact (FB ⟨ok,hb,hw⟩ me now t0 t9 c).ln
end Go.Kx
