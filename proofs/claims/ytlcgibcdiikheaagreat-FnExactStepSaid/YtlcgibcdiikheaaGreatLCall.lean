import Derived.Test.YtlcgibcdiikheaaGreatLTaps
namespace Go.Kx
open Go
open Go.IntKind (i64)
set_option linter.unusedVariables false
set_option linter.unusedSimpArgs false
set_option maxRecDepth 10000
theorem Di (p:cd):cd.mk p.Vb p.own p.Vd p.U7 p.pU p.Vj p.Vk p.bh p.pZ p.Vi=p:=rfl
theorem CN (g:rl):rl.mk g.Ve g.Vn g.Vg g.pT=g:=rfl
theorem CK (h:qd):qd.mk h.ag h.gc=h:=rfl
theorem Sz (a:qj):qj.mk a.gE a.qa a.qg=a:=rfl
def rq (l:List j8) (now me h kind:Int):Int:=bif vx h then (bif vC h != me then 3 else (bif decide (ql l now me h<0) then 4 else (bif (kind != 0)&&((nth l (ql l now me h)).Vc != kind) then 5 else 0))) else 2
theorem FG {l:List j8} {now me h:Int} (q:decide (ql l now me h<0)=false):Ar l∧0≤ql l now me h∧ql l now me h≤9∧(nth l (ql l now me h)).Vc ≠ 0:=by
  unfold ql at *;cases hg:Gw l now me h
  · rw [hg] at q;simp at q
  · simp only [Vy];unfold Gw at hg;simp only [VB] at hg;obtain ⟨⟨h1,h2,_⟩,h3,_⟩:=hg;obtain ⟨a,b⟩:=Gg h2;exact ⟨sG.1 h1,a,b,by simpa using h3⟩
theorem uU {l:List j8} {now me h k:Int} (q:rq l now me h k=0):Ar l∧0≤ql l now me h∧ql l now me h≤9∧(nth l (ql l now me h)).Vc ≠ 0∧(k ≠ 0→(nth l (ql l now me h)).Vc=k):=by
  unfold rq at q;cases h1:vx h
  · rw [h1] at q;simp at q
  cases h2:vC h != me
  case true=>rw [h1,h2] at q;simp at q
  cases h3:decide (ql l now me h<0)
  case true=>rw [h1,h2,h3] at q;simp at q
  obtain ⟨a,b,c,d⟩:=FG h3;refine ⟨a,b,c,d,fun hk=>?_⟩;rw [h1,h2,h3] at q;simp only [Vy,Vx] at q
  have hk':(k != 0)=true:=by simpa using hk
  rw [hk'] at q;cases h4:(nth l (ql l now me h)).Vc != k
  · simpa using h4
  · rw [h4] at q;simp at q
theorem DR {N:Nat} (hN:pW≤N) {x:qu} (hb:qU qf x.U9.U7.ag<pW) (h k:Int):so N x h k=some (bif rq x.U9.U7.ag x.Vo x.me h k==0 then ql x.U9.U7.ag x.Vo x.me h else 0,rq x.U9.U7.ag x.Vo x.me h k,x):=by
  unfold so rq;simp only [xL,CV,CB hN hb,Vw];rw [show qn h 0 29999=vx h from rfl];cases vx h
  · rfl
  cases vC h != x.me
  case true=>rfl
  cases q:decide (ql x.U9.U7.ag x.Vo x.me h<0)
  case true=>rfl
  obtain ⟨ar,g0,g9,_⟩:=FG q;simp only [Vz,Vx,(ar.at g0 g9).1,Vw];cases k != 0<;>cases (nth x.U9.U7.ag (ql x.U9.U7.ag x.Vo x.me h)).Vc != k<;>rfl
theorem Gx {N:Nat} (hN:pW≤N) {p:cd} (hb:qU qf p.U7.ag<pW) (hw:wP p) (me now h:Int):u9 N p me now h=some (bif rq p.U7.ag now me h 0==0 then ql p.U7.ag now me h else -1,rq p.U7.ag now me h 0):=by
  unfold u9 rq;simp only [zn,De,Cf hN hb hw,Vw];rw [show qn h 0 29999=vx h from rfl];cases vx h
  · rfl
  cases vC h != me
  case true=>rfl
  cases q:decide (ql p.U7.ag now me h<0)<;>rfl
theorem GA {N:Nat} (hN:pW≤N) {p:cd} (hb:qU qf p.U7.ag<pW) (hw:wP p) (me now h:Int) {k:Int} (hk:0<k):vL N p me now h k=some (bif rq p.U7.ag now me h k==0 then ql p.U7.ag now me h else -1,rq p.U7.ag now me h k):=by
  unfold vL;rw [Gx hN hb hw];have k1:decide (k > 0)=true:=decide_eq_true hk
  have k2:(k != 0)=true:=by simp;omega
  simp only [Vw,k1,Vy];unfold rq;rw [k2];cases vx h
  · rfl
  cases vC h != me
  case true=>rfl
  cases q:decide (ql p.U7.ag now me h<0)
  case true=>rfl
  obtain ⟨ar,g0,g9,_⟩:=FG q;simp only [bne_self_eq_false,Bool.false_and,VA,Vy,Vx,beq_self_eq_true,(ar.at g0 g9).1,Vw];cases (nth p.U7.ag (ql p.U7.ag now me h)).Vc != k<;>rfl
def Bn (h:qd) (i:Int):qd:=bif sK h&&qn i 0 9 then wz h i else h
theorem NX {N:Nat} (hN:pW≤N) {h:qd} (h1:qU qf h.ag<pW) (h2:h.gc.pT.length+1<pW) (i:Int):xd N h i=some (Bn h i):=by
  have h2':h.gc.pT.length<pW:=by omega
  unfold xd Bn;simp only [Cg hN h1 h2',Eo hN h1 h2',Ah,Vw];cases q:sK h
  · rfl
  cases hi:qn i 0 9
  · rfl
  have ar:=vf q;have hl:=ar.len;rw [rk] at hi;simp only [Vy,Vw,Bool.and_self,LD hN hi.1 (show i<(h.ag.length:Int) by omega) h2]
theorem NT {N:Nat} (hN:pW≤N) {h:qd} (h1:qU qf h.ag<pW) (h2:h.gc.pT.length+1<pW) (hw:wA h.ag) (i:Int):w8 N h i=some (Bn h i):=by
  have h2':h.gc.pT.length<pW:=by omega
  unfold w8 Bn;simp only [Dv hN h1 h2',D9 hN h1 h2' hw,zj,Vw];cases q:sK h
  · rfl
  cases hi:qn i 0 9
  · rfl
  have ar:=vf q;have hl:=ar.len;rw [rk] at hi;simp only [Vz,Vy,Vx,Vw,Bool.and_self,G6 hN hi.1 (show i<(h.ag.length:Int) by omega) h2]
def linked (o:j8) (b x:Int):j8:=j8.mk o.Vr o.Vc o.box o.Vp o.qx o.gE o.Vl o.qw o.qq o.Vm (o.pX.set b.toNat x) o.Vh o.Vf
def boxed (o:j8) (b:Int):j8:=j8.mk o.Vr o.Vc b o.Vp o.qx o.gE o.Vl o.qw o.qq o.Vm o.pX o.Vh o.Vf
def written (o:j8) (b x:Int):j8:=j8.mk o.Vr o.Vc o.box o.Vp o.qx o.gE o.Vl o.qw o.qq o.Vm o.pX (o.Vh.set b.toNat x) o.Vf
def xz (o:j8) (q:List qM):j8:=j8.mk o.Vr o.Vc o.box o.Vp o.qx o.gE o.Vl o.qw o.qq o.Vm o.pX o.Vh q
def waiting (o:j8) (x:Int):j8:=j8.mk o.Vr o.Vc o.box o.Vp o.qx o.gE x o.qw o.qq o.Vm o.pX o.Vh o.Vf
def Gf (o:j8) (x:Int):j8:=j8.mk o.Vr o.Vc o.box o.Vp o.qx o.gE o.Vl x o.qq o.Vm o.pX o.Vh o.Vf
def xQ (p:cd) (h:qd):cd:=cd.mk p.Vb p.own p.Vd h p.pU p.Vj p.Vk p.bh p.pZ p.Vi
def D7 (p:cd) (t:List qc):cd:=cd.mk p.Vb p.own t p.U7 p.pU p.Vj p.Vk p.bh p.pZ p.Vi
def D3 (p:cd) (t:List qB):cd:=cd.mk p.Vb p.own p.Vd p.U7 t p.Vj p.Vk p.bh p.pZ p.Vi
def vq (h:qd) (c i:Int):qd:=bif decide (c ≥ 0) then Bn h i else h
def SW (p:cd) (i b x:Int):cd:=xQ p (vq (qd.mk (p.U7.ag.set i.toNat (linked (nth p.U7.ag i) b x)) p.U7.gc) x x)
def va (p:cd) (me now:Int) (c:qD):Int×Int×cd :=
  bif !qn c.b 0 1 then (2,0,p) else
  bif rq p.U7.ag now me c.a 0 != 0 then (rq p.U7.ag now me c.a 0,0,p) else
  bif (c.Vc==2)&&(rq p.U7.ag now me c.c 0 != 0) then (rq p.U7.ag now me c.c 0,0,p) else
  (0,0,SW p (ql p.U7.ag now me c.a) c.b (bif c.Vc==2 then ql p.U7.ag now me c.c else -1))
structure tT (p:cd):Prop where
  ok:rF p=true
  sz:qh p≤3000000
  w:wP p
theorem tT.ar {p:cd} (h:tT p):Ar p.U7.ag:=sg h.ok
theorem tT.b4 {p:cd} (h:tT p):qU qf p.U7.ag<pW:=(sm (p:=p) (Nat.lt_of_le_of_lt h.sz (by decide))).2.2.2.1
theorem tT.b5 {p:cd} (h:tT p):p.U7.gc.pT.length+1<pW:=by
  have:=h.sz;have hB:(16777216:Nat)=pW:=rfl;unfold qh sy vk at this;omega
theorem wO {l:List j8} (h:Ar l) {i:Int} (h0:0≤i) (h9:i≤9):qf (nth l i)≤12:=Ep (h.ok _ (h.at h0 h9).2)
theorem Fw {l:List j8} (h:Ar l) {i:Int} {o:j8} (ho:qf o≤100000):qU qf (l.set i.toNat o)<pW:=PU h ho _
theorem Ff (o:j8) (b x:Int):qf (linked o b x)=qf o:=by unfold qf linked;simp only [List.length_set]
theorem FI {l:List Int} (h:l.length=2) {b:Int} (hb:qn b 0 1=true):idx l b=some (nth l b):=by
  rw [rk] at hb;exact ri hb.1 (by omega)
theorem sH {a:Int} (h:(a != 0)=false):a=0:=by simpa using h
theorem LI {N:Nat} (hN:pW≤N) {h:qd} (h1:qU qf h.ag<pW) (h2:h.gc.pT.length+1<pW) (c i:Int) {β:Type} (f:qd→Option β):(bif decide (c ≥ 0) then (xd N h i).bind f else f h)=f (vq h c i):=by
  unfold vq;rw [NX hN h1 h2];cases decide (c ≥ 0)<;>rfl
theorem SD {N:Nat} (hN:pW≤N) {p:cd} (hp:tT p) (me now th:Int) (c:qD):wS N (qu.mk p me now th) c=some ((va p me now c).1,qu.mk (va p me now c).2.2 me now th):=by
  have h4:=hp.b4;unfold wS va;simp only [uA,DR hN,h4,Vw,CN,CK,Di];cases q1:qn c.b 0 1
  · rfl
  cases q2:rq p.U7.ag now me c.a 0 != 0
  case true=>rfl
  have q2':=sH q2;obtain ⟨ar,g0,g9,gk,_⟩:=uU q2';have l2:=Dm (ar.ok _ (ar.at g0 g9).2) (by simpa using gk);simp only [Vz,Vx,q2',beq_self_eq_true,Vy];generalize ql p.U7.ag now me c.a=i at *;have hs:∀ x,qU qf (p.U7.ag.set i.toNat (linked (nth p.U7.ag i) c.b x))<pW:=fun x=>Fw ar (by rw [Ff];have:=wO ar g0 g9;omega);cases hk:c.Vc==2
  · simp only [Vx,Vw,Sum.elim_inl,(ar.at g0 g9).1,FI l2 q1,Bool.false_and];rfl
  · cases q3:rq p.U7.ag now me c.c 0 != 0
    · have q3':=sH q3;simp only [Vy,Vx,Vw,Sum.elim_inl,(ar.at g0 g9).1,FI l2 q1,Bool.and_false,q3',beq_self_eq_true];generalize ql p.U7.ag now me c.c=x;exact LI (h:=qd.mk (p.U7.ag.set i.toNat (linked (nth p.U7.ag i) c.b x)) p.U7.gc) hN (hs x) hp.b5 x x fun y=>some ((0:Int),qu.mk (xQ p y) me now th)
    · rfl
def LH (p:cd):cd:=cd.mk p.Vb p.own p.Vd p.U7 p.pU p.Vj p.Vk p.bh (if 1000000<i64.wrap (p.pZ+1) then 1000000 else i64.wrap (p.pZ+1)) p.Vi
def fin (c:qD) (p:cd) (r:Int×Int×cd):cd×qo:=bif r.1==0 then (r.2.2,qo.mk 0 r.2.1) else (bif (c.Vc==1)&&((r.1==6) || (r.1==7)) then LH p else p,qo.mk r.1 0)
theorem BU (c:qD) (p q:cd) (v:Int):fin c p (0,v,q)=(q,qo.mk 0 v):=rfl
theorem tU {c:qD} {p q:cd} {k v:Int} (h:(k != 0)=true) (hc:(c.Vc==1)=false):fin c p (k,v,q)=(p,qo.mk k 0):=by
  unfold fin
  have:(k==0)=false:=by simpa [bne] using h
  rw [this,hc];rfl
theorem FC {N:Nat} (hN:pW≤N) {h:qd} (h1:qU qf h.ag<pW) (h2:h.gc.pT.length+1<pW) (hw:wA h.ag) (c i:Int) {β:Type} (f:qd→Option β):((bif decide (c ≥ 0) then ((w8 N h i).bind fun y=>some (y.ag,y.gc.Ve,y.gc.Vn,y.gc.Vg,y.gc.pT)) else (some (h.ag,h.gc.Ve,h.gc.Vn,h.gc.Vg,h.gc.pT)):Option ((List j8)×Int×Int×Int×(List Int))).bind fun j=>f (qd.mk j.1 (rl.mk j.2.1 j.2.2.1 j.2.2.2.1 j.2.2.2.2)))=f (vq h c i):=by
  unfold vq;rw [NT hN h1 h2 hw];cases decide (c ≥ 0)<;>rfl
theorem SV {N:Nat} (hN:pW≤N) {p:cd} (hp:tT p) (me now:Int) {c:qD} (hc:(c.Vc==1)=false):zP N p me now c=some (fin c p (va p me now c)):=by
  have h4:=hp.b4;unfold zP va;simp only [ua,Gx hN h4 hp.w,Vw];cases q1:qn c.b 0 1
  · simp only [Bool.not_false,Vy,tU (show ((2:Int) != 0)=true from rfl) hc]
  cases q2:rq p.U7.ag now me c.a 0 != 0
  case true=>simp only [Vz,Vx,Vy,tU q2 hc]
  have q2':=sH q2;obtain ⟨ar,g0,g9,gk,_⟩:=uU q2';have l2:=Dm (ar.ok _ (ar.at g0 g9).2) (by simpa using gk);simp only [Vz,Vx,q2',beq_self_eq_true,Vy];generalize ql p.U7.ag now me c.a=i at *;have hs:∀ x,qU qf (p.U7.ag.set i.toNat (linked (nth p.U7.ag i) c.b x))<pW:=fun x=>Fw ar (by rw [Ff];have:=wO ar g0 g9;omega);have hx:∀ x,wA (p.U7.ag.set i.toNat (linked (nth p.U7.ag i) c.b x)):=fun x=>s6 hp.w (show wg (nth p.U7.ag i) from hp.w _ (ar.at g0 g9).2);cases hk:c.Vc==2
  · simp only [Vx,Vw,Sum.elim_inl,(ar.at g0 g9).1,FI l2 q1,Bool.false_and,BU];exact FC (h:=qd.mk (p.U7.ag.set i.toNat (linked (nth p.U7.ag i) c.b (-1))) p.U7.gc) hN (hs (-1)) hp.b5 (hx (-1)) (-1) (-1) fun y=>some (xQ p y,qo.mk 0 0)
  · cases q3:rq p.U7.ag now me c.c 0 != 0
    · have q3':=sH q3;simp only [Vy,Vx,Vw,Sum.elim_inl,(ar.at g0 g9).1,FI l2 q1,Bool.and_false,q3',beq_self_eq_true,BU];generalize ql p.U7.ag now me c.c=x;exact FC (h:=qd.mk (p.U7.ag.set i.toNat (linked (nth p.U7.ag i) c.b x)) p.U7.gc) hN (hs x) hp.b5 (hx x) x x fun y=>some (xQ p y,qo.mk 0 0)
    · simp only [Vy,Vx,Vw,Sum.elim_inr,Bool.and_true,tU q3 hc]
def Sx (p:cd) (i x:Int):cd:=xQ p (vq (qd.mk (p.U7.ag.set i.toNat (boxed (nth p.U7.ag i) x)) p.U7.gc) x i)
def vc (p:cd) (me now:Int) (c:qD):Int×Int×cd :=
  bif rq p.U7.ag now me c.a 0 != 0 then (rq p.U7.ag now me c.a 0,0,p) else
  bif ql p.U7.ag now me c.a==0 then (5,0,p) else
  bif (c.Vc==4)&&(rq p.U7.ag now me c.b 1 != 0) then (rq p.U7.ag now me c.b 1,0,p) else
  (0,0,Sx p (ql p.U7.ag now me c.a) (bif c.Vc==4 then ql p.U7.ag now me c.b else -1))
theorem SE {N:Nat} (hN:pW≤N) {p:cd} (hp:tT p) (me now th:Int) (c:qD):wT N (qu.mk p me now th) c=some ((vc p me now c).1,qu.mk (vc p me now c).2.2 me now th):=by
  have h4:=hp.b4;unfold wT vc;simp only [DR hN,h4,Vw,CN,CK,Di];cases q2:rq p.U7.ag now me c.a 0 != 0
  case true=>rfl
  have q2':=sH q2;obtain ⟨ar,g0,g9,gk,_⟩:=uU q2';simp only [Vz,Vx,q2',beq_self_eq_true,Vy];generalize ql p.U7.ag now me c.a=i at *;cases hi:i==0
  case true=>rfl
  have hs:∀ x,qU qf (p.U7.ag.set i.toNat (boxed (nth p.U7.ag i) x))<pW:=fun x=>Fw ar (by have:qf (nth p.U7.ag i)≤12:=wO ar g0 g9;show qf (nth p.U7.ag i)≤_;omega);cases hk:c.Vc==4
  · simp only [Vx,Vw,Sum.elim_inl,(ar.at g0 g9).1,Bool.false_and];rfl
  · cases q3:rq p.U7.ag now me c.b 1 != 0
    · have q3':=sH q3;simp only [Vy,Vx,Vw,Sum.elim_inl,(ar.at g0 g9).1,Bool.and_false,q3',beq_self_eq_true];generalize ql p.U7.ag now me c.b=x;exact LI (h:=qd.mk (p.U7.ag.set i.toNat (boxed (nth p.U7.ag i) x)) p.U7.gc) hN (hs x) hp.b5 x i fun y=>some ((0:Int),qu.mk (xQ p y) me now th)
    · rfl
theorem Sh {N:Nat} (hN:pW≤N) {p:cd} (hp:tT p) (me now:Int) {c:qD} (hc:(c.Vc==1)=false):z0 N p me now c=some (fin c p (vc p me now c)):=by
  have h4:=hp.b4;unfold z0 vc;simp only [Gx hN h4 hp.w,GA hN h4 hp.w _ _ _ (show (0:Int)<1 by decide),Vw];cases q2:rq p.U7.ag now me c.a 0 != 0
  case true=>simp only [Vy,tU q2 hc]
  have q2':=sH q2;obtain ⟨ar,g0,g9,gk,_⟩:=uU q2';simp only [Vz,Vx,q2',beq_self_eq_true,Vy];generalize ql p.U7.ag now me c.a=i at *;cases hi:i==0
  case true=>simp only [Vy,tU (show ((5:Int) != 0)=true from rfl) hc]
  have hs:∀ x,qU qf (p.U7.ag.set i.toNat (boxed (nth p.U7.ag i) x))<pW:=fun x=>Fw ar (by have:qf (nth p.U7.ag i)≤12:=wO ar g0 g9;show qf (nth p.U7.ag i)≤_;omega);have hx:∀ x,wA (p.U7.ag.set i.toNat (boxed (nth p.U7.ag i) x)):=fun x=>s6 hp.w (show wg (nth p.U7.ag i) from hp.w _ (ar.at g0 g9).2);cases hk:c.Vc==4
  · simp only [Vx,Vw,Sum.elim_inl,(ar.at g0 g9).1,Bool.false_and,BU];exact FC (h:=qd.mk (p.U7.ag.set i.toNat (boxed (nth p.U7.ag i) (-1))) p.U7.gc) hN (hs (-1)) hp.b5 (hx (-1)) (-1) i fun y=>some (xQ p y,qo.mk 0 0)
  · cases q3:rq p.U7.ag now me c.b 1 != 0
    · have q3':=sH q3;simp only [Vy,Vx,Vw,Sum.elim_inl,(ar.at g0 g9).1,Bool.and_false,q3',beq_self_eq_true,BU];generalize ql p.U7.ag now me c.b=x;exact FC (h:=qd.mk (p.U7.ag.set i.toNat (boxed (nth p.U7.ag i) x)) p.U7.gc) hN (hs x) hp.b5 (hx x) x i fun y=>some (xQ p y,qo.mk 0 0)
    · simp only [Vy,Vx,Vw,Sum.elim_inr,Bool.and_true,tU q3 hc]
def RC (p:cd) (i b x:Int):cd:=v8 p (p.U7.ag.set i.toNat (written (nth p.U7.ag i) b x))
def rz (p:cd) (me now:Int) (c:qD):Int×Int×cd :=
  bif rq p.U7.ag now me c.a 2 != 0 then (rq p.U7.ag now me c.a 2,0,p) else
  bif !qn c.b 0 (((nth p.U7.ag (ql p.U7.ag now me c.a)).Vh.length:Int) - 1) then (2,0,p) else
  bif c.Vc==7 then (0,nth (nth p.U7.ag (ql p.U7.ag now me c.a)).Vh c.b,p) else
  bif !qn c.c 0 999 then (2,0,p) else (0,0,RC p (ql p.U7.ag now me c.a) c.b c.c)
theorem I5 {α:Type} {l:List α} (h:l.length<pW):i64.wrap ((l.length:Int) - 1)=(l.length:Int) - 1:=by
  have:l.length<16777216:=h;exact rG (by omega) (by omega)
theorem Kj {o:j8} (h:qf o≤12):o.Vh.length<pW:=by
  have hB:(16777216:Nat)=pW:=rfl;unfold qf at h;omega
theorem OR {N:Nat} (hN:pW≤N) {p:cd} (hp:tT p) (me now th:Int) (c:qD):vp N (qu.mk p me now th) c=some ((rz p me now c).1,(rz p me now c).2.1,qu.mk (rz p me now c).2.2 me now th):=by
  have h4:=hp.b4;unfold vp rz;simp only [DR hN,h4,uA,Vw,CN,CK,Di];cases q2:rq p.U7.ag now me c.a 2 != 0
  case true=>rfl
  have q2':=sH q2;obtain ⟨ar,g0,g9,gk,_⟩:=uU q2';simp only [Vz,Vx,q2',beq_self_eq_true,Vy];generalize ql p.U7.ag now me c.a=i at *;have ho:=wO ar g0 g9;simp only [(ar.at g0 g9).1,Vw,I5 (Kj ho)];cases q3:qn c.b 0 (((nth p.U7.ag i).Vh.length:Int) - 1)
  · rfl
  have hd:idx (nth p.U7.ag i).Vh c.b=some (nth (nth p.U7.ag i).Vh c.b):=by
    rw [rk] at q3;exact ri q3.1 (by omega)
  simp only [Vz,Vx,hd,Vw];cases c.Vc==7
  · cases qn c.c 0 999<;>rfl
  · rfl
theorem O4 {N:Nat} (hN:pW≤N) {p:cd} (hp:tT p) (me now:Int) {c:qD} (hc:(c.Vc==1)=false) (hk:(c.Vc==6)=!(c.Vc==7)):xx N p me now c=some (fin c p (rz p me now c)):=by
  have h4:=hp.b4;unfold xx rz;simp only [GA hN h4 hp.w _ _ _ (show (0:Int)<2 by decide),ua,Vw];cases q2:rq p.U7.ag now me c.a 2 != 0
  case true=>simp only [Vy,tU q2 hc]
  have q2':=sH q2;obtain ⟨ar,g0,g9,gk,_⟩:=uU q2';simp only [Vz,Vx,q2',beq_self_eq_true,Vy];generalize ql p.U7.ag now me c.a=i at *;have ho:=wO ar g0 g9;simp only [(ar.at g0 g9).1,Vw,I5 (Kj ho)];cases q3:qn c.b 0 (((nth p.U7.ag i).Vh.length:Int) - 1)
  · simp only [Bool.not_false,Vy,Vw,tU (show ((2:Int) != 0)=true from rfl) hc]
  have hd:idx (nth p.U7.ag i).Vh c.b=some (nth (nth p.U7.ag i).Vh c.b):=by
    rw [rk] at q3;exact ri q3.1 (by omega)
  rw [hk];simp only [Vz,Vx,hd,Vw];cases c.Vc==7
  · cases qn c.c 0 999
    · simp only [Bool.not_false,Vy,Vx,Vw,tU (show ((2:Int) != 0)=true from rfl) hc]
    · rfl
  · rfl
def vW (p:cd) (f:Int) (a:qj):Bool:=(rK p.Vd f a).2&&(v5 p.bh (qj.mk 0 a.qa 0)).2
def Fe (p:cd) (f:Int) (a:qj):cd:=cd.mk p.Vb p.own (rK p.Vd f a).1 p.U7 p.pU p.Vj p.Vk (v5 p.bh (qj.mk 0 a.qa 0)).1 p.pZ p.Vi
theorem On (p:cd) (f:Int) (a:qj):(Fe p f a).U7=p.U7:=rfl
theorem tT.b3 {p:cd} (h:tT p):p.Vd.length<pW:=(sm (p:=p) (Nat.lt_of_le_of_lt h.sz (by decide))).2.2.1
theorem Qs {N:Nat} (hN:pW≤N) {x:qu} (hB:x.U9.Vd.length<pW) (f:Int) (a:qj):vQ N x f a=some (vW x.U9 f a,bif vW x.U9 f a then qu.mk (Fe x.U9 f a) x.me x.Vo x.qA else x):=by
  unfold vQ vW;simp only [BV hN hB,Pu,Vw,sA];cases (rK x.U9.Vd f a).2<;>cases (v5 x.U9.bh (qj.mk 0 a.qa 0)).2<;>rfl
def ti (p:cd) (me now:Int) (c:qD):Int×Int×cd :=
  bif rq p.U7.ag now me c.a 0 != 0 then (rq p.U7.ag now me c.a 0,0,p) else
  bif (ql p.U7.ag now me c.a==0) || (!qn c.b 1 1000 || decide (i64.wrap ((nth p.U7.ag (ql p.U7.ag now me c.a)).qx+c.b) > 1000000)) then (2,0,p) else
  bif !vW p (we p (nth p.U7.ag (ql p.U7.ag now me c.a)).Vp) (qj.mk 0 (i64.wrap ((nth p.U7.ag (ql p.U7.ag now me c.a)).gE * c.b)) 0) then (6,0,p) else
  (0,0,v8 (Fe p (we p (nth p.U7.ag (ql p.U7.ag now me c.a)).Vp) (qj.mk 0 (i64.wrap ((nth p.U7.ag (ql p.U7.ag now me c.a)).gE * c.b)) 0)) (p.U7.ag.set (ql p.U7.ag now me c.a).toNat (Pl (nth p.U7.ag (ql p.U7.ag now me c.a)) (i64.wrap ((nth p.U7.ag (ql p.U7.ag now me c.a)).qx+c.b)))))
theorem Rw {N:Nat} (hN:pW≤N) {p:cd} (hp:tT p) (me now th:Int) (c:qD):wa N (qu.mk p me now th) c=some ((ti p me now c).1,qu.mk (ti p me now c).2.2 me now th):=by
  have h4:=hp.b4;have h3:=hp.b3;unfold wa ti;simp only [DR hN,h4,uA,Vw,CN,CK,Di];cases q2:rq p.U7.ag now me c.a 0 != 0
  case true=>rfl
  have q2':=sH q2;obtain ⟨ar,g0,g9,gk,_⟩:=uU q2';simp only [Vz,Vx,q2',beq_self_eq_true,Vy];generalize ql p.U7.ag now me c.a=i at *;simp only [(ar.at g0 g9).1,Vw,sA,Hw hN,Qs hN,h3];cases ((i==0) || (!qn c.b 1 1000 || decide (i64.wrap ((nth p.U7.ag i).qx+c.b) > 1000000)))
  · cases vW p (we p (nth p.U7.ag i).Vp) (qj.mk 0 (i64.wrap ((nth p.U7.ag i).gE * c.b)) 0)<;>rfl
  · rfl
theorem Ro {N:Nat} (hN:pW≤N) {p:cd} (hp:tT p) (me now:Int) {c:qD} (hc:(c.Vc==1)=false):yR N p me now c=some (fin c p (ti p me now c)):=by
  have h4:=hp.b4;have h3:=hp.b3;unfold yR ti;simp only [Gx hN h4 hp.w,ua,Vw];cases q2:rq p.U7.ag now me c.a 0 != 0
  case true=>simp only [Vy,tU q2 hc]
  have q2':=sH q2;obtain ⟨ar,g0,g9,gk,_⟩:=uU q2';simp only [Vz,Vx,q2',beq_self_eq_true,Vy];generalize ql p.U7.ag now me c.a=i at *;simp only [(ar.at g0 g9).1,Vw,sA,DJ hN,Az hN h3,Ev];cases ((i==0) || (!qn c.b 1 1000 || decide (i64.wrap ((nth p.U7.ag i).qx+c.b) > 1000000)))
  · unfold vW;cases (rK p.Vd (we p (nth p.U7.ag i).Vp) (qj.mk 0 (i64.wrap ((nth p.U7.ag i).gE * c.b)) 0)).2<;>cases (v5 p.bh (qj.mk 0 (i64.wrap ((nth p.U7.ag i).gE * c.b)) 0)).2<;>simp only [Vz,Bool.not_false,Bool.and_self,Bool.and_false,Bool.false_and,Bool.or_self,Bool.or_true,Bool.true_or,Bool.false_or,Bool.or_false,VA,Bool.and_true,Vy,Vx,tU (show ((6:Int) != 0)=true from rfl) hc,BU]
    rfl
  · simp only [Vy,tU (show ((2:Int) != 0)=true from rfl) hc]
def vn (p:cd) (c:qD):Int×Int×cd :=
  bif c.Vc==9 then
    bif !qn c.a 0 4 || !re (qj.mk c.b c.c c.d) then (2,0,p) else
    bif !(ud p.Vd c.a (qj.mk c.b c.c c.d)).2.2 then (6,0,p) else (0,(ud p.Vd c.a (qj.mk c.b c.c c.d)).2.1,D7 p (ud p.Vd c.a (qj.mk c.b c.c c.d)).1)
  else bif c.Vc==10 then
    bif !qn c.a 0 4 || (!qn c.b 0 4 || (!qn c.c 0 2 || !EA c.d)) then (2,0,p) else
    bif !(vu p.Vd c.a c.b (tW c.c c.d)).2 then (6,0,p) else (0,0,D7 p (vu p.Vd c.a c.b (tW c.c c.d)).1)
  else bif !(vt p.Vd c.a).2 then (2,0,p) else (0,0,D7 p (vt p.Vd c.a).1)
theorem N9 {N:Nat} (hN:pW≤N) {p:cd} (hp:tT p) (me now th:Int) (c:qD):vb N (qu.mk p me now th) c=some ((vn p c).1,(vn p c).2.1,qu.mk (vn p c).2.2 me now th):=by
  have h3:=hp.b3;unfold vb vn;simp only [BP,yr,uA,He,D6,KD hN h3,Ny hN h3,MY hN h3,Vw,sA];cases c.Vc==9
  · cases c.Vc==10
    · cases (vt p.Vd c.a).2<;>rfl
    · cases (!qn c.a 0 4 || (!qn c.b 0 4 || (!qn c.c 0 2 || !EA c.d)))
      · cases (vu p.Vd c.a c.b (tW c.c c.d)).2<;>rfl
      · rfl
  · cases (!qn c.a 0 4 || !re (qj.mk c.b c.c c.d))
    · cases (ud p.Vd c.a (qj.mk c.b c.c c.d)).2.2<;>rfl
    · rfl
theorem Tg {N:Nat} (hN:pW≤N) {p:cd} (hp:tT p) {c:qD} (hc:(c.Vc==1)=false):Bb N p c=some (fin c p (vn p c)):=by
  have h3:=hp.b3;have n2:=fun q=>tU (p:=p) (q:=q) (v:=0) (show ((2:Int) != 0)=true from rfl) hc;have n6:=fun q=>tU (p:=p) (q:=q) (v:=0) (show ((6:Int) != 0)=true from rfl) hc;unfold Bb vn;simp only [CC,zt,ua,Um,Kb,KG hN h3,Nu hN h3,Ng hN h3,Vw,sA];cases c.Vc==9
  · cases c.Vc==10
    · cases (vt p.Vd c.a).2
      · simp only [Bool.not_false,Vy,Vx,n2]
      · rfl
    · cases (!qn c.a 0 4 || (!qn c.b 0 4 || (!qn c.c 0 2 || !EA c.d)))
      · cases (vu p.Vd c.a c.b (tW c.c c.d)).2
        · simp only [Bool.not_false,Vy,Vx,n6]
        · rfl
      · simp only [Vy,Vx,n2]
  · cases (!qn c.a 0 4 || !re (qj.mk c.b c.c c.d))
    · cases (ud p.Vd c.a (qj.mk c.b c.c c.d)).2.2
      · simp only [Bool.not_false,Vy,Vx,n6]
      · rfl
    · simp only [Vy,n2]
def Ba (p:cd) (th a:Int):Int×Int×cd :=
  bif a==0 then (0,(nth p.U7.ag th).qq,p) else bif a==1 then (0,(nth p.U7.ag th).qw,p) else
  bif (a==2) || ((a==3) || (a==4)) then (0,te (z8 p th) (i64.wrap (a - 2)),p) else (2,0,p)
theorem GF (a b c:Bool):(bif a then some a else bif b then some b else some c)=some (a || (b || c)):=by cases a<;>cases b<;>rfl
theorem S8 (a b:Bool):(bif a then some a else some b)=some (a || b):=by cases a<;>rfl
theorem Sc {N:Nat} (hN:pW≤N) {p:cd} (hp:tT p) (me now:Int) {th:Int} (h0:0≤th) (h9:th≤9) (a:Int):wD N (qu.mk p me now th) a=some ((Ba p th a).1,(Ba p th a).2.1,qu.mk (Ba p th a).2.2 me now th):=by
  unfold wD Ba;simp only [(hp.ar.at h0 h9).1,Fy hN hp.ok h0 h9,H9,Vw,GF];cases a==0
  · cases a==1
    · cases (a==2) || ((a==3) || (a==4))<;>rfl
    · rfl
  · rfl
theorem Sg {N:Nat} (hN:pW≤N) {p:cd} (hp:tT p) {th:Int} (h0:0≤th) (h9:th≤9) {c:qD} (hc:(c.Vc==1)=false):z7 N p th c=some (fin c p (Ba p th c.a)):=by
  unfold z7 Ba;obtain ⟨r0,r4⟩:=BJ p (nth p.U7.ag th).Vp;simp only [(hp.ar.at h0 h9).1,DJ hN,DM hp.ok r0 r4,Il,Vw,GF,Sz];cases c.a==0
  · cases c.a==1
    · cases (c.a==2) || ((c.a==3) || (c.a==4))
      · simp only [Vx,tU (show ((2:Int) != 0)=true from rfl) hc]
      · rfl
    · rfl
  · rfl
theorem JU {l:List j8} {o:j8}:∀ (m:List j8) (k:Nat),Cy l o k m=(l, -1)∨∃ (j:Nat) (g:Int),j<k+m.length∧Cy l o k m=(l.set j (tH o g),(j:Int))∧sk (l.set j (tH o g))=true
  | [],k=>.inl rfl
  | x::m,k=>by
    unfold Cy;split
    · rcases JU (l:=l) (o:=o) m (k+1) with h | ⟨j,g,h1,h2,h3⟩
      · exact .inl h
      · exact .inr ⟨j,g,by simp only [List.length_cons];omega,h2,h3⟩
    · unfold putAt;split
      · rename_i q;simp only [VB] at q;exact .inr ⟨k,_,by simp,rfl,q.1⟩
      · exact .inl rfl
theorem DD {l:List j8} {o:j8} (h:decide ((tB l o).2<0)=false):∃ (j:Nat) (g:Int),tB l o=(l.set j (tH o g),(j:Int))∧Ar (l.set j (tH o g))∧j<10:=by
  unfold tB at *;cases ha:sk l
  · rw [ha] at h;simp at h
  · rw [ha] at h;simp only [if_true] at *;have hl:=(sG.1 ha).len
    rcases JU (l:=l) (o:=o) (l.drop 1) 1 with e | ⟨j,g,h1,h2,h3⟩
    · rw [e] at h;simp at h
    · exact ⟨j,g,h2,sG.1 h3,by simp only [List.length_drop] at h1;omega⟩
def newObj (now box:Int) (c:qD):j8:=j8.mk 0 c.a box c.e (i64.wrap (now+c.d)) c.c 0 0 0 false [-1, -1] (bif c.a==2 then List.replicate c.c.toNat 0 else []) []
def zp (now:Int) (c:qD):Bool:=!qn c.a 1 4 || (!qn c.c 0 8 || (!qn c.d 1 1000 || (decide (i64.wrap (now+c.d) > 1000000) || !qn c.e 0 4)))
def cost (c:qD):qj:=qj.mk c.c (i64.wrap (c.c * c.d)) 0
def uN (p:cd) (me now:Int) (c:qD):Int×Int×cd :=
  bif zp now c then (2,0,p) else
  bif rq p.U7.ag now me c.b 1 != 0 then (rq p.U7.ag now me c.b 1,0,p) else
  bif !vW p c.e (cost c) then (6,0,p) else
  bif decide ((tB p.U7.ag (newObj now (ql p.U7.ag now me c.b) c)).2<0) then (7,0,Fe p c.e (cost c)) else
  (0,Bt me (tB p.U7.ag (newObj now (ql p.U7.ag now me c.b) c)).2 (nth (tB p.U7.ag (newObj now (ql p.U7.ag now me c.b) c)).1 (tB p.U7.ag (newObj now (ql p.U7.ag now me c.b) c)).2).Vr,
    xQ (Fe p c.e (cost c)) (xo (qd.mk (tB p.U7.ag (newObj now (ql p.U7.ag now me c.b) c)).1 p.U7.gc) (tB p.U7.ag (newObj now (ql p.U7.ag now me c.b) c)).2))
theorem DC {now:Int} {c:qD} (h:zp now c=false):0≤c.c∧c.c≤8:=by
  unfold zp at h;simp only [Bool.or_eq_false_iff,Bool.not_eq_false'] at h;exact rk.1 h.2.1
theorem EG {now box:Int} {c:qD} (h:0≤c.c∧c.c≤8):qf (newObj now box c)≤100:=by
  unfold qf newObj;cases c.a==2
  · simp
  · simp only [Vy,List.length_replicate,List.length_cons,List.length_nil];omega
theorem Ga (now box:Int) (c:qD):wg (newObj now box c):=by show (-9223372036854775808:Int)≤0;decide
theorem Sk {c:Int} (h:0≤c∧c≤8):mk Int c=some (List.replicate c.toNat 0):=by
  have hB:(16777216:Nat)=pW:=rfl;unfold mk;rw [if_pos ⟨h.1,by omega⟩];rfl
theorem Qt (a b c d e:Bool):(bif a then some true else bif b then some true else bif c then some true else bif d then some true else some e)=some (a || (b || (c || (d || e)))):=by cases a<;>cases b<;>cases c<;>cases d<;>rfl
theorem Sl {N:Nat} (hN:pW+1≤N) {p:cd} (hp:tT p) (me now th:Int) (c:qD):wB N (qu.mk p me now th) c=some ((uN p me now c).1,(uN p me now c).2.1,qu.mk (uN p me now c).2.2 me now th):=by
  have hN':pW≤N:=Nat.le_of_succ_le hN;have h4:=hp.b4;have h3:=hp.b3;have h5:=hp.b5;unfold wB uN;simp only [DR hN',h4,uA,BP,Vw,CN,CK,Di,Qt];rw [show (!qn c.a 1 4 || (!qn c.c 0 8 || (!qn c.d 1 1000 || (decide (i64.wrap (now+c.d) > 1000000) || !qn c.e 0 4))))=zp now c from rfl];cases q1:zp now c
  case true=>rfl
  have hc:=DC q1;cases q2:rq p.U7.ag now me c.b 1 != 0
  case true=>rfl
  have q2':=sH q2;simp only [Vx,Vy,q2',beq_self_eq_true];generalize ql p.U7.ag now me c.b=box;rw [show qj.mk c.c (i64.wrap (c.c * c.d)) 0=cost c from rfl];simp only [Qs hN' (x:=qu.mk p me now th) h3,Vw];cases q3:vW p c.e (cost c)
  · rfl
  simp only [Vz,Vx,Vy,Sk hc,Vw,On];rw [show (bif c.a==2 then some (List.replicate c.c.toNat 0) else some ([]:List Int))=some (bif c.a==2 then List.replicate c.c.toNat 0 else []) from xI _ _ _];simp only [Vw];rw [show j8.mk 0 c.a box c.e (i64.wrap (now+c.d)) c.c 0 0 0 false [-1, -1] (bif c.a==2 then List.replicate c.c.toNat 0 else []) []=newObj now box c from rfl];have ho:=EG (now:=now) (box:=box) hc;rw [MS hN h4 (o:=newObj now box c) (by omega)];simp only [Vw];cases q4:decide ((tB p.U7.ag (newObj now box c)).2<0)
  case true=>rfl
  obtain ⟨j,g,e,ar,hj⟩:=DD q4;have h1:=ar.sz;have hB:(16777216:Nat)=pW:=rfl;rw [e];simp only [Vx,(ar.at (i:=(j:Int)) (by omega) (by omega)).1,Vw,Hg];rw [Qd hN' (h:=qd.mk (p.U7.ag.set j (tH (newObj now box c) g)) p.U7.gc) (by show qU qf (p.U7.ag.set j (tH (newObj now box c) g))<pW;omega) (by show p.U7.gc.pT.length<pW;omega)];rfl
theorem Jw (l:List j8) (now me h k:Int):(rq l now me h k==6)=false∧(rq l now me h k==7)=false:=by
  unfold rq;cases vx h
  · exact ⟨rfl,rfl⟩
  cases vC h != me
  case true=>exact ⟨rfl,rfl⟩
  cases decide (ql l now me h<0)
  case true=>exact ⟨rfl,rfl⟩
  cases (k != 0)&&((nth l (ql l now me h)).Vc != k)<;>exact ⟨rfl,rfl⟩
theorem Kg {c:qD} {p q:cd} {k v:Int} (h:(k != 0)=true) (h6:(k==6)=false) (h7:(k==7)=false):fin c p (k,v,q)=(p,qo.mk k 0):=by
  unfold fin
  have:(k==0)=false:=by simpa [bne] using h
  rw [this];simp only [Vx,h6,h7,Bool.or_self,Bool.and_false]
theorem Ia {c:qD} {p q:cd} {k v:Int} (h:(k != 0)=true) (h6:((k==6) || (k==7))=true) (hc:(c.Vc==1)=true):fin c p (k,v,q)=(LH p,qo.mk k 0):=by
  unfold fin
  have:(k==0)=false:=by simpa [bne] using h
  rw [this];simp only [Vx,h6,hc,Bool.and_self,Vy]
theorem Ss {N:Nat} (hN:pW≤N) {p:cd} (hp:tT p) (me now:Int) {c:qD} (hc1:(c.Vc==1)=true):zA N p me now c=some (fin c p (uN p me now c)):=by
  have h4:=hp.b4;have h3:=hp.b3;have h5:=hp.b5;unfold zA uN;simp only [GA hN h4 hp.w _ _ _ (show (0:Int)<1 by decide),ua,CC,Vw,Qt];rw [show (!qn c.a 1 4 || (!qn c.c 0 8 || (!qn c.d 1 1000 || (decide (i64.wrap (now+c.d) > 1000000) || !qn c.e 0 4))))=zp now c from rfl];cases q1:zp now c
  case true=>simp only [Vy,Kg (show ((2:Int) != 0)=true from rfl) rfl rfl]
  have hc:=DC q1;cases q2:rq p.U7.ag now me c.b 1 != 0
  case true=>simp only [Vy,Vx,Kg q2 (Jw _ _ _ _ _).1 (Jw _ _ _ _ _).2]
  have q2':=sH q2;simp only [Vx,Vy,q2',beq_self_eq_true];generalize ql p.U7.ag now me c.b=box;rw [show qj.mk c.c (i64.wrap (c.c * c.d)) 0=cost c from rfl];simp only [Az hN h3,Ev,Vw,sA];rw [show (!(rK p.Vd c.e (cost c)).2 || !(v5 p.bh (qj.mk 0 (i64.wrap (c.c * c.d)) 0)).2)=!vW p c.e (cost c) by unfold vW;rw [Bool.not_and];rfl];cases q3:vW p c.e (cost c)
  · simp only [Bool.not_false,Vy,Ia (show ((6:Int) != 0)=true from rfl) rfl hc1];rfl
  simp only [Vz,Vx,Vy,Sk hc,Vw];rw [show (bif c.a==2 then some (List.replicate c.c.toNat 0) else some ([]:List Int))=some (bif c.a==2 then List.replicate c.c.toNat 0 else []) from xI _ _ _];simp only [Vw];rw [show j8.mk 0 c.a box c.e (i64.wrap (now+c.d)) c.c 0 0 0 false [-1, -1] (bif c.a==2 then List.replicate c.c.toNat 0 else []) []=newObj now box c from rfl];have ho:=EG (now:=now) (box:=box) hc;rw [Nz hN h4 hp.w (o:=newObj now box c) (by omega) (Ga _ _ _)];simp only [Vw];cases q4:decide ((tB p.U7.ag (newObj now box c)).2<0)
  case true =>
    simp only [Vy,Ia (show ((7:Int) != 0)=true from rfl) rfl hc1];rfl
  obtain ⟨j,g,e,ar,hj⟩:=DD q4;have h1:=ar.sz;have hB:(16777216:Nat)=pW:=rfl;have hw':wA (p.U7.ag.set j (tH (newObj now box c) g)):=s6 hp.w (Gj (Ga _ _ _));rw [e];simp only [Vx,(ar.at (i:=(j:Int)) (by omega) (by omega)).1,Vw,GB];rw [PT hN (h:=qd.mk (p.U7.ag.set j (tH (newObj now box c) g)) p.U7.gc) (by show qU qf (p.U7.ag.set j (tH (newObj now box c) g))<pW;omega) (by show p.U7.gc.pT.length<pW;omega) hw'];rfl
def Ed (l:List j8) (k w b:Int):List j8:=bif decide (k ≥ 0)&&((nth l k).Vl==w) then (l.set k.toNat (waiting (nth l k) 0)).set k.toNat (Gf (nth (l.set k.toNat (waiting (nth l k) 0)) k) b) else l
theorem HU {l:List j8} {k w b:Int} (h:0≤k→k<(l.length:Int)) {β:Type} (f:List j8→Option β) :
    ((bif decide (k ≥ 0) then ((idx l k).bind fun y=>some (y.Vl==w)) else (some false):Option Bool).bind fun j=>(bif j then ((idx l k).bind fun y=>(some (l.set (k:Int).toNat (waiting y 0))).bind fun z=>(idx z k).bind fun x=>(some (z.set (k:Int).toNat (Gf x b))).bind fun v=>some v) else (some l):Option (List j8)).bind f)=f (Ed l k w b):=by
  unfold Ed;cases hk:decide (k ≥ 0)
  · rfl
  have k0:0≤k:=by simpa using hk
  have e:=ri k0 (h k0);have e2:∀ z,idx (l.set k.toNat z) k=some (nth (l.set k.toNat z) k):=fun z=>ri k0 (by simp only [List.length_set];exact h k0);simp only [Vy,e,e2,Vw,VA];cases (nth l k).Vl==w<;>rfl
def asked (l:List j8) (g me th:Int) (c:qD):List j8:=l.set g.toNat (xz (nth l g) ((nth l g).Vf++[qM.mk (Bt me th (nth l th).Vr) c.b]))
def served (l:List j8) (g:Int):List j8:=l.set g.toNat (xz (nth l g) ((nth l g).Vf.drop 1))
def uf (p:cd) (me now th:Int) (c:qD):Int×Int×cd :=
  bif rq p.U7.ag now me c.a 3 != 0 then (rq p.U7.ag now me c.a 3,0,p) else
  bif !qn c.b 0 999 then (2,0,p) else
  bif c.Vc==12 then
    bif decide (((nth p.U7.ag (ql p.U7.ag now me c.a)).Vf.length:Int) ≥ 2) then (8,0,p) else
    (0,0,v8 p ((asked p.U7.ag (ql p.U7.ag now me c.a) me th c).set th.toNat (waiting (nth (asked p.U7.ag (ql p.U7.ag now me c.a) me th c) th) (i64.wrap (c.a+1)))))
  else
    bif ((nth p.U7.ag (ql p.U7.ag now me c.a)).Vf.length:Int)==0 then (8,0,p) else
    (0,(nth (nth p.U7.ag (ql p.U7.ag now me c.a)).Vf 0).n,v8 p (Ed (served p.U7.ag (ql p.U7.ag now me c.a)) (ql (served p.U7.ag (ql p.U7.ag now me c.a)) now me (nth (nth p.U7.ag (ql p.U7.ag now me c.a)).Vf 0).Vu) (i64.wrap (c.a+1)) c.b))
theorem Kh {α:Type} {l:List α} {k:Nat} (h:k≤l.length):sub l (k:Int) (l.length:Int)=some (l.drop k):=by
  unfold sub;rw [if_pos ⟨by omega,by omega,by omega⟩];simp only [Int.toNat_natCast];rw [List.take_of_length_le (by simp)]
theorem ES {o:j8} (h:qf o≤12):o.Vf.length≤12:=by unfold qf at h;omega
theorem Ik {o:j8} {q:List qM} (h:qf o≤12) (hq:q.length≤20):qf (xz o q)≤100000:=by
  unfold qf at h;unfold qf xz;simp only;omega
theorem CG {l:List j8} {now me h:Int} (hl:l.length=10) (h0:0≤ql l now me h):ql l now me h<(l.length:Int):=by
  obtain ⟨_,_,h9,_⟩:=FG (l:=l) (now:=now) (me:=me) (h:=h) (decide_eq_false (by omega));omega
theorem S2 {N:Nat} (hN:pW≤N) {p:cd} (hp:tT p) (me now:Int) {th:Int} (t0:0≤th) (t9:th≤9) {c:qD} (hk:(c.Vc==13)=!(c.Vc==12)):wM N (qu.mk p me now th) c=some ((uf p me now th c).1,(uf p me now th c).2.1,qu.mk (uf p me now th c).2.2 me now th):=by
  have h4:=hp.b4;unfold wM uf;simp only [DR hN,h4,uA,Vw,CN,CK,Di];cases q2:rq p.U7.ag now me c.a 3 != 0
  case true=>rfl
  have q2':=sH q2;obtain ⟨ar,g0,g9,gk,_⟩:=uU q2';simp only [Vz,Vx,q2',beq_self_eq_true,Vy];generalize ql p.U7.ag now me c.a=i at *;have ho:=wO ar g0 g9;have hq:=ES ho;have hl:=ar.len;have hB:(16777216:Nat)=pW:=rfl;simp only [(ar.at g0 g9).1,(ar.at t0 t9).1,Vw];cases q3:qn c.b 0 999
  · rfl
  rw [hk];cases q4:c.Vc==12
  · simp only [Vz,Bool.not_false,Vx,Vy,Vw];cases q5:((nth p.U7.ag i).Vf.length:Int)==0
    case true=>rfl
    have l1:1≤(nth p.U7.ag i).Vf.length:=by rw [beq_eq_false_iff_ne] at q5;omega
    have hsub:sub (nth p.U7.ag i).Vf 1 ((nth p.U7.ag i).Vf.length:Int)=some ((nth p.U7.ag i).Vf.drop 1):=Kh l1;have happ:app ([]:List qM) ((nth p.U7.ag i).Vf.drop 1)=some ((nth p.U7.ag i).Vf.drop 1):=sh (by simp only [List.length_drop];omega);have hi0:idx (nth p.U7.ag i).Vf 0=some (nth (nth p.U7.ag i).Vf 0):=ri (i:=0) (by decide) (by omega);simp only [Vx,hsub,happ,hi0,Vw];have hs:qU qf (p.U7.ag.set i.toNat (xz (nth p.U7.ag i) ((nth p.U7.ag i).Vf.drop 1)))<pW:=Fw ar (Ik ho (by simp only [List.length_drop];omega));have e1:=CB hN hs now me (nth (nth p.U7.ag i).Vf 0).Vu;unfold xz at e1;rw [e1,Vw];exact HU (l:=served p.U7.ag i) (CG (by unfold served;simp only [List.length_set];exact hl)) fun z=>some ((0:Int),(nth (nth p.U7.ag i).Vf 0).n,qu.mk (v8 p z) me now th)
  · simp only [Vz,Bool.not_false,Vx,Vy,Vw,sA,Bool.or_false];cases q5:decide (((nth p.U7.ag i).Vf.length:Int) ≥ 2)
    case true=>rfl
    have happ:∀ m,app (nth p.U7.ag i).Vf [m]=some ((nth p.U7.ag i).Vf++[m]):=fun m=>tQ hq (by omega);have e2:∀ z,idx (p.U7.ag.set i.toNat z) th=some (nth (p.U7.ag.set i.toNat z) th):=fun z=>ri t0 (by simp only [List.length_set];omega);simp only [Vx,Hg,happ,e2,Vw];rfl
theorem Sa {N:Nat} (hN:pW≤N) {p:cd} (hp:tT p) (me now:Int) {th:Int} (t0:0≤th) (t9:th≤9) {c:qD} (hc:(c.Vc==1)=false):zE N p me now th c=some (fin c p (uf p me now th c)):=by
  have h4:=hp.b4;unfold zE uf;simp only [GA hN h4 hp.w _ _ _ (show (0:Int)<3 by decide),ua,Vw];cases q2:rq p.U7.ag now me c.a 3 != 0
  case true=>simp only [Vy,tU q2 hc]
  have q2':=sH q2;obtain ⟨ar,g0,g9,gk,_⟩:=uU q2';simp only [Vz,Vx,q2',beq_self_eq_true,Vy];generalize ql p.U7.ag now me c.a=i at *;have ho:=wO ar g0 g9;have hq:=ES ho;have hl:=ar.len;have hB:(16777216:Nat)=pW:=rfl;simp only [(ar.at g0 g9).1,(ar.at t0 t9).1,Vw];cases q3:qn c.b 0 999
  · simp only [Bool.not_false,Vy,tU (show ((2:Int) != 0)=true from rfl) hc]
  cases q4:c.Vc==12
  · simp only [Vz,Bool.not_false,Vx,Vy,Vw];cases q5:((nth p.U7.ag i).Vf.length:Int)==0
    case true=>simp only [Vy,tU (show ((8:Int) != 0)=true from rfl) hc]
    have l1:1≤(nth p.U7.ag i).Vf.length:=by rw [beq_eq_false_iff_ne] at q5;omega
    have hsub:sub (nth p.U7.ag i).Vf 1 ((nth p.U7.ag i).Vf.length:Int)=some ((nth p.U7.ag i).Vf.drop 1):=Kh l1;have happ:app ([]:List qM) ((nth p.U7.ag i).Vf.drop 1)=some ((nth p.U7.ag i).Vf.drop 1):=sh (by simp only [List.length_drop];omega);have hi0:idx (nth p.U7.ag i).Vf 0=some (nth (nth p.U7.ag i).Vf 0):=ri (i:=0) (by decide) (by omega);simp only [Vx,hsub,happ,hi0,Vw,BU];have hs:qU qf (p.U7.ag.set i.toNat (xz (nth p.U7.ag i) ((nth p.U7.ag i).Vf.drop 1)))<pW:=Fw ar (Ik ho (by simp only [List.length_drop];omega));have hx:wA (p.U7.ag.set i.toNat (xz (nth p.U7.ag i) ((nth p.U7.ag i).Vf.drop 1))):=s6 hp.w (show wg (nth p.U7.ag i) from hp.w _ (ar.at g0 g9).2);have e1:=Cf hN hs hx now me (nth (nth p.U7.ag i).Vf 0).Vu;unfold xz at e1;rw [e1,Vw];exact HU (l:=served p.U7.ag i) (CG (by unfold served;simp only [List.length_set];exact hl)) fun z=>some (v8 p z,qo.mk 0 (nth (nth p.U7.ag i).Vf 0).n)
  · simp only [Vz,Bool.not_false,Vx,Vy,Vw,sA,Bool.or_false];cases q5:decide (((nth p.U7.ag i).Vf.length:Int) ≥ 2)
    case true=>simp only [Vy,tU (show ((8:Int) != 0)=true from rfl) hc]
    have happ:∀ m,app (nth p.U7.ag i).Vf [m]=some ((nth p.U7.ag i).Vf++[m]):=fun m=>tQ hq (by omega);have hap0:app ([]:List qM) (nth p.U7.ag i).Vf=some (nth p.U7.ag i).Vf:=sh (by omega);have e2:∀ z,idx (p.U7.ag.set i.toNat z) th=some (nth (p.U7.ag.set i.toNat z) th):=fun z=>ri t0 (by simp only [List.length_set];omega);simp only [Vx,GB,hap0,happ,e2,Vw,BU];rfl
def CF (p:cd) (c:qD):Int×Int×cd:=bif !qn c.a 0 ((p.pU.length:Int) - 1) then (2,0,p) else (0,0,D3 p (p.pU.take c.a.toNat++p.pU.drop (c.a.toNat+1)))
theorem Ja {α:Type} {l:List α} {i j:Int} (h0:0≤i) (h1:i≤j) (h2:j≤(l.length:Int)):sub l i j=some ((l.drop i.toNat).take (j.toNat - i.toNat)):=by
  unfold sub;rw [if_pos ⟨h0,h1,h2⟩]
theorem tT.b6 {p:cd} (h:tT p):p.pU.length<pW:=(sm (p:=p) (Nat.lt_of_le_of_lt h.sz (by decide))).2.2.2.2.2
theorem Ow {α:Type} {l:List α} (hl:l.length<pW) {a:Int} (h:qn a 0 ((l.length:Int) - 1)=true):i64.wrap (a+1)=a+1∧sub l 0 a=some (l.take a.toNat)∧sub l (a+1) (l.length:Int)=some (l.drop (a.toNat+1))∧∃ m,sub l a (a+1)=some m:=by
  have hB:(16777216:Nat)=pW:=rfl;rw [rk] at h;refine ⟨rG (by omega) (by omega),?_,?_,_,Ja h.1 (by omega) (by omega)⟩
  · rw [Ja (Int.le_refl 0) h.1 (by omega)];simp
  · rw [Ja (by omega) (by omega) (Int.le_refl _),show (a+1).toNat=a.toNat+1 by omega,List.take_of_length_le (by simp)]
theorem JF (N:Nat) {l:List qB} (hl:l.length<pW) {a:Int} (h:qn a 0 ((l.length:Int) - 1)=true):xi N l a (i64.wrap (a+1))=some (l.take a.toNat++l.drop (a.toNat+1)):=by
  obtain ⟨h1,h2,h3,m,h4⟩:=Ow hl h;unfold xi
  have hne:(a==a+1)=false:=by rw [beq_eq_false_iff_ne];omega
  simp only [h1,h2,h3,h4,hne,Vw,Vx]
def sS (p:cd) (me now th:Int) (c:qD):Int×Int×cd :=
  bif c.Vc==1 then uN p me now c else bif (c.Vc==2) || (c.Vc==3) then va p me now c else bif (c.Vc==4) || (c.Vc==5) then vc p me now c else
  bif (c.Vc==6) || (c.Vc==7) then rz p me now c else bif c.Vc==8 then ti p me now c else bif (c.Vc==9) || ((c.Vc==10) || (c.Vc==11)) then vn p c else
  bif (c.Vc==12) || (c.Vc==13) then uf p me now th c else bif c.Vc==14 then Ba p th c.a else bif c.Vc==15 then CF p c else (2,0,p)
theorem HK (p:cd) (me now:Int) (c:qD):(va p me now c).2.1=0∧cd.mk p.Vb p.own p.Vd (va p me now c).2.2.U7 p.pU (va p me now c).2.2.Vj (va p me now c).2.2.Vk (va p me now c).2.2.bh (va p me now c).2.2.pZ (va p me now c).2.2.Vi=(va p me now c).2.2:=by
  unfold va;cases !qn c.b 0 1
  · cases rq p.U7.ag now me c.a 0 != 0
    · cases (c.Vc==2)&&(rq p.U7.ag now me c.c 0 != 0)<;>exact ⟨rfl,rfl⟩
    · exact ⟨rfl,rfl⟩
  · exact ⟨rfl,rfl⟩
theorem HR (p:cd) (me now:Int) (c:qD):(vc p me now c).2.1=0∧cd.mk p.Vb p.own p.Vd (vc p me now c).2.2.U7 p.pU (vc p me now c).2.2.Vj (vc p me now c).2.2.Vk (vc p me now c).2.2.bh (vc p me now c).2.2.pZ (vc p me now c).2.2.Vi=(vc p me now c).2.2:=by
  unfold vc;cases rq p.U7.ag now me c.a 0 != 0
  · cases ql p.U7.ag now me c.a==0
    · cases (c.Vc==4)&&(rq p.U7.ag now me c.b 1 != 0)<;>exact ⟨rfl,rfl⟩
    · exact ⟨rfl,rfl⟩
  · exact ⟨rfl,rfl⟩
theorem LU (p:cd) (me now:Int) (c:qD):cd.mk p.Vb p.own p.Vd (qd.mk (rz p me now c).2.2.U7.ag (rl.mk (rz p me now c).2.2.U7.gc.Ve (rz p me now c).2.2.U7.gc.Vn (rz p me now c).2.2.U7.gc.Vg p.U7.gc.pT)) p.pU (rz p me now c).2.2.Vj (rz p me now c).2.2.Vk (rz p me now c).2.2.bh (rz p me now c).2.2.pZ (rz p me now c).2.2.Vi=(rz p me now c).2.2:=by
  unfold rz;cases rq p.U7.ag now me c.a 2 != 0
  · cases !qn c.b 0 (((nth p.U7.ag (ql p.U7.ag now me c.a)).Vh.length:Int) - 1)
    · cases c.Vc==7
      · cases !qn c.c 0 999<;>rfl
      · rfl
    · rfl
  · rfl
theorem Gi (p:cd) (me now:Int) (c:qD):(ti p me now c).2.1=0∧cd.mk p.Vb p.own (ti p me now c).2.2.Vd (qd.mk (ti p me now c).2.2.U7.ag (rl.mk (ti p me now c).2.2.U7.gc.Ve (ti p me now c).2.2.U7.gc.Vn (ti p me now c).2.2.U7.gc.Vg p.U7.gc.pT)) p.pU (ti p me now c).2.2.Vj (ti p me now c).2.2.Vk (ti p me now c).2.2.bh (ti p me now c).2.2.pZ (ti p me now c).2.2.Vi=(ti p me now c).2.2:=by
  unfold ti;cases rq p.U7.ag now me c.a 0 != 0
  · cases (ql p.U7.ag now me c.a==0) || (!qn c.b 1 1000 || decide (i64.wrap ((nth p.U7.ag (ql p.U7.ag now me c.a)).qx+c.b) > 1000000))
    · cases vW p (we p (nth p.U7.ag (ql p.U7.ag now me c.a)).Vp) (qj.mk 0 (i64.wrap ((nth p.U7.ag (ql p.U7.ag now me c.a)).gE * c.b)) 0)<;>exact ⟨rfl,rfl⟩
    · exact ⟨rfl,rfl⟩
  · exact ⟨rfl,rfl⟩
theorem N5 (p:cd) (c:qD):cd.mk p.Vb p.own (vn p c).2.2.Vd (qd.mk p.U7.ag (rl.mk (vn p c).2.2.U7.gc.Ve (vn p c).2.2.U7.gc.Vn (vn p c).2.2.U7.gc.Vg p.U7.gc.pT)) p.pU (vn p c).2.2.Vj (vn p c).2.2.Vk (vn p c).2.2.bh (vn p c).2.2.pZ (vn p c).2.2.Vi=(vn p c).2.2:=by
  unfold vn;cases c.Vc==9
  · cases c.Vc==10
    · cases !(vt p.Vd c.a).2<;>rfl
    · cases (!qn c.a 0 4 || (!qn c.b 0 4 || (!qn c.c 0 2 || !EA c.d)))
      · cases !(vu p.Vd c.a c.b (tW c.c c.d)).2<;>rfl
      · rfl
  · cases (!qn c.a 0 4 || !re (qj.mk c.b c.c c.d))
    · cases !(ud p.Vd c.a (qj.mk c.b c.c c.d)).2.2<;>rfl
    · rfl
theorem LG (p:cd) (me now th:Int) (c:qD):cd.mk p.Vb p.own p.Vd (qd.mk (uf p me now th c).2.2.U7.ag (rl.mk (uf p me now th c).2.2.U7.gc.Ve (uf p me now th c).2.2.U7.gc.Vn (uf p me now th c).2.2.U7.gc.Vg p.U7.gc.pT)) p.pU (uf p me now th c).2.2.Vj (uf p me now th c).2.2.Vk (uf p me now th c).2.2.bh (uf p me now th c).2.2.pZ (uf p me now th c).2.2.Vi=(uf p me now th c).2.2:=by
  unfold uf;cases rq p.U7.ag now me c.a 3 != 0
  · cases !qn c.b 0 999
    · cases c.Vc==12
      · cases ((nth p.U7.ag (ql p.U7.ag now me c.a)).Vf.length:Int)==0<;>rfl
      · cases decide (((nth p.U7.ag (ql p.U7.ag now me c.a)).Vf.length:Int) ≥ 2)<;>rfl
    · rfl
  · rfl
theorem L4 (p:cd) (me now:Int) (c:qD):cd.mk p.Vb p.own (uN p me now c).2.2.Vd (uN p me now c).2.2.U7 p.pU (uN p me now c).2.2.Vj (uN p me now c).2.2.Vk (uN p me now c).2.2.bh (uN p me now c).2.2.pZ (uN p me now c).2.2.Vi=(uN p me now c).2.2:=by
  unfold uN;cases zp now c
  · cases rq p.U7.ag now me c.b 1 != 0
    · cases !vW p c.e (cost c)
      · cases decide ((tB p.U7.ag (newObj now (ql p.U7.ag now me c.b) c)).2<0)<;>rfl
      · rfl
    · rfl
  · rfl
theorem Ft (p:cd) (th a:Int):(Ba p th a).2.2=p:=by
  unfold Ba;cases a==0
  · cases a==1
    · cases (a==2) || ((a==3) || (a==4))<;>rfl
    · rfl
  · rfl
theorem Oa {a m n:Int} (hne:m ≠ n) (h:((a==m) || (a==n))=true):(a==m)=!(a==n):=by
  simp only [Bool.or_eq_true,beq_iff_eq] at h
  rcases h with h | h
  · subst h
    have:(a==n)=false:=by rw [beq_eq_false_iff_ne];exact hne
    rw [this];simp
  · subst h
    have:(a==m)=false:=by rw [beq_eq_false_iff_ne];exact fun q=>hne q.symm
    rw [this];simp
theorem UQ {N:Nat} (hN:pW+1≤N) {p:cd} (hp:tT p) (me now:Int) {th:Int} (t0:0≤th) (t9:th≤9) (c:qD):yf N (qu.mk p me now th) c=some ((sS p me now th c).1,(sS p me now th c).2.1,qu.mk (sS p me now th c).2.2 me now th):=by
  have hN':pW≤N:=Nat.le_of_succ_le hN;unfold yf sS;simp only [Sl hN hp,SD hN' hp,SE hN' hp,OR hN' hp,Rw hN' hp,N9 hN' hp,Sc hN' hp _ _ t0 t9,uA,Vw,S8,GF,(HK p me now c).2,(HR p me now c).2,LU,(Gi p me now c).2,N5,L4,Ft,CN,CK,Di];cases c.Vc==1
  case true=>rfl
  cases (c.Vc==2) || (c.Vc==3)
  case true=>simp only [Vx,Vy,(HK p me now c).1]
  cases (c.Vc==4) || (c.Vc==5)
  case true=>simp only [Vx,Vy,(HR p me now c).1]
  cases (c.Vc==6) || (c.Vc==7)
  case true=>rfl
  cases c.Vc==8
  case true=>simp only [Vx,Vy,(Gi p me now c).1]
  cases (c.Vc==9) || ((c.Vc==10) || (c.Vc==11))
  case true=>rfl
  cases hg:(c.Vc==12) || (c.Vc==13)
  case true =>
    have:(c.Vc==13)=!(c.Vc==12):=by
      rw [Bool.or_comm] at hg;exact Oa (by decide) hg
    simp only [Vx,Vy,S2 hN' hp me now t0 t9 this,Vw,LG]
  cases c.Vc==14
  case true=>simp only [Vx,Vy,Ft]
  cases c.Vc==15
  case false=>rfl
  have h6:=hp.b6;unfold CF;simp only [Vx,Vy,I5 h6];cases hi:qn c.a 0 ((p.pU.length:Int) - 1)
  · rfl
  simp only [Vz,Vx,JF N h6 hi,Vw];rfl
theorem Cz {p:cd} {now th:Int} (h:uT p now th=true):rF p=true∧0≤th∧th≤9:=by
  unfold uT at h;simp only [VB] at h;exact D5 (now:=now) (by simpa using h.1)
def vZ (p:cd) (me now th:Int) (c:qD):cd×qo :=
  bif !rF p || (!qn me 0 2 || !qn now 0 1000000) then (p,qo.mk 2 0) else bif !uT p now th then (p,qo.mk 1 0) else fin c p (sS p me now th c)
theorem TJ (p:cd) (me now th:Int) (c:qD):cd.mk p.Vb p.own (sS p me now th c).2.2.Vd (sS p me now th c).2.2.U7 (sS p me now th c).2.2.pU (sS p me now th c).2.2.Vj (sS p me now th c).2.2.Vk (sS p me now th c).2.2.bh (sS p me now th c).2.2.pZ (sS p me now th c).2.2.Vi=(sS p me now th c).2.2:=by
  unfold sS;cases c.Vc==1
  case true=>rw [Vy, ← L4]
  cases (c.Vc==2) || (c.Vc==3)
  case true=>rw [Vx,Vy, ← (HK p me now c).2]
  cases (c.Vc==4) || (c.Vc==5)
  case true=>rw [Vx,Vx,Vy, ← (HR p me now c).2]
  cases (c.Vc==6) || (c.Vc==7)
  case true=>rw [Vx,Vx,Vx,Vy, ← LU]
  cases c.Vc==8
  case true=>rw [Vx,Vx,Vx,Vx,Vy, ← (Gi p me now c).2]
  cases (c.Vc==9) || ((c.Vc==10) || (c.Vc==11))
  case true=>simp only [Vx,Vy];rw [← N5]
  cases (c.Vc==12) || (c.Vc==13)
  case true=>simp only [Vx,Vy];rw [← LG]
  cases c.Vc==14
  case true=>simp only [Vx,Vy,Ft,Di]
  cases c.Vc==15
  case false=>rfl
  simp only [Vx,Vy];unfold CF;cases !qn c.a 0 ((p.pU.length:Int) - 1)<;>rfl
theorem Mt {N:Nat} (hN:pW+1≤N) {p:cd} (hb:qh p≤3000000) (hw:wP p) (me now th:Int) (c:qD):yJ N p me now th c=some (vZ p me now th c):=by
  have hN':pW≤N:=Nat.le_of_succ_le hN;have hB:qh p<pW:=Nat.lt_of_le_of_lt hb (by decide);unfold yJ vZ;simp only [Ac hN' hB,Ei,CT,xR hN' hB,Io hN' hB,Vw,sA];cases !rF p || (!qn me 0 2 || !qn now 0 1000000)
  case true=>rfl
  cases hc:uT p now th
  · rfl
  obtain ⟨ok,t0,t9⟩:=Cz hc;simp only [Vz,Vx,UQ hN ⟨ok,hb,hw⟩ me now t0 t9,Vw,TJ,tz];unfold fin;cases (sS p me now th c).1==0
  · simp only [Vx];cases (c.Vc==1)&&(((sS p me now th c).1==6) || ((sS p me now th c).1==7))<;>rfl
  · rfl
theorem Ir (p:cd) (me now:Int) (c:qD) {β:Type} (x:Option β):sJ p.Vb.Va (fin c p (rz p me now c)).1.Vb.Va (sJ p.own (fin c p (rz p me now c)).1.own (sJ p.Vd (fin c p (rz p me now c)).1.Vd (sJ p.U7.ag (fin c p (rz p me now c)).1.U7.ag (sJ p.U7.gc.pT (fin c p (rz p me now c)).1.U7.gc.pT (sJ p.pU (fin c p (rz p me now c)).1.pU x)))))=x:=by
  have h:(rz p me now c).2.2.Vb=p.Vb∧(rz p me now c).2.2.own=p.own∧(rz p me now c).2.2.Vd=p.Vd∧(rz p me now c).2.2.U7.ag.length=p.U7.ag.length∧(rz p me now c).2.2.U7.gc=p.U7.gc∧(rz p me now c).2.2.pU=p.pU:=by
    unfold rz;cases rq p.U7.ag now me c.a 2 != 0
    case true=>exact ⟨rfl,rfl,rfl,rfl,rfl,rfl⟩
    cases !qn c.b 0 (((nth p.U7.ag (ql p.U7.ag now me c.a)).Vh.length:Int) - 1)
    case true=>exact ⟨rfl,rfl,rfl,rfl,rfl,rfl⟩
    cases c.Vc==7
    case true=>exact ⟨rfl,rfl,rfl,rfl,rfl,rfl⟩
    cases !qn c.c 0 999
    case true=>exact ⟨rfl,rfl,rfl,rfl,rfl,rfl⟩
    exact ⟨rfl,rfl,rfl,List.length_set,rfl,rfl⟩
  have g:(fin c p (rz p me now c)).1.Vb.Va.length=p.Vb.Va.length∧(fin c p (rz p me now c)).1.own.length=p.own.length∧(fin c p (rz p me now c)).1.Vd.length=p.Vd.length∧(fin c p (rz p me now c)).1.U7.ag.length=p.U7.ag.length∧(fin c p (rz p me now c)).1.U7.gc.pT.length=p.U7.gc.pT.length∧(fin c p (rz p me now c)).1.pU.length=p.pU.length:=by
    unfold fin;cases (rz p me now c).1==0
    · cases (c.Vc==1)&&(((rz p me now c).1==6) || ((rz p me now c).1==7))<;>exact ⟨rfl,rfl,rfl,rfl,rfl,rfl⟩
    · simp only [Vy];rw [h.1,h.2.1,h.2.2.1,h.2.2.2.2.1,h.2.2.2.2.2];exact ⟨rfl,rfl,rfl,h.2.2.2.1,rfl,rfl⟩
  rw [tw g.1,tw g.2.1,tw g.2.2.1,tw g.2.2.2.1,tw g.2.2.2.2.1,tw g.2.2.2.2.2]
theorem Mu {N:Nat} (hN:pW≤N) {p:cd} (hb:qh p≤3000000) (hw:wP p) (me now th:Int) (c:qD):zg N p me now th c=some (vZ p me now th c):=by
  have hB:qh p<pW:=Nat.lt_of_le_of_lt hb (by decide);unfold zg vZ;simp only [Ag hN hB hw,ua,At hN hB,It hN hB hw,Vw,sA,S8,GF];cases !rF p || (!qn me 0 2 || !qn now 0 1000000)
  case true=>rfl
  cases hc:uT p now th
  · rfl
  obtain ⟨ok,t0,t9⟩:=Cz hc;have hp:tT p:=⟨ok,hb,hw⟩;simp only [Vz,Vx];unfold sS;cases hk:c.Vc==1
  case true=>simp only [Vy,Ss hN hp me now hk,Vw]
  simp only [Vx];cases (c.Vc==2) || (c.Vc==3)
  case true=>simp only [Vy,SV hN hp me now hk,Vw]
  simp only [Vx];cases (c.Vc==4) || (c.Vc==5)
  case true=>simp only [Vy,Sh hN hp me now hk,Vw]
  simp only [Vx];cases hd:(c.Vc==6) || (c.Vc==7)
  case true =>
    simp only [Vy,O4 hN hp me now hk (Oa (by decide) hd),Vw]
    all_goals (rw [Ir];rfl)
  simp only [Vx];cases c.Vc==8
  case true=>simp only [Vy,Ro hN hp me now hk,Vw]
  simp only [Vx];cases (c.Vc==9) || ((c.Vc==10) || (c.Vc==11))
  case true=>simp only [Vy,Tg hN hp hk,Vw]
  simp only [Vx];cases (c.Vc==12) || (c.Vc==13)
  case true=>simp only [Vy,Sa hN hp me now t0 t9 hk,Vw]
  simp only [Vx];cases c.Vc==14
  case true=>simp only [Vy,Sg hN hp t0 t9 hk,Vw]
  simp only [Vx];cases c.Vc==15
  case false=>simp only [Vx,tU (show ((2:Int) != 0)=true from rfl) hk]
  have h6:=hp.b6;unfold CF;simp only [Vy,I5 h6];cases hi:qn c.a 0 ((p.pU.length:Int) - 1)
  · simp only [Bool.not_false,Vy,tU (show ((2:Int) != 0)=true from rfl) hk]
  obtain ⟨h1,h2,h3,_⟩:=Ow h6 hi;have hB':(16777216:Nat)=pW:=rfl;have a1:app ([]:List qB) (p.pU.take c.a.toNat)=some (p.pU.take c.a.toNat):=sh (by simp only [List.length_take];omega)
  have a2:app (p.pU.take c.a.toNat) (p.pU.drop (c.a.toNat+1))=some (p.pU.take c.a.toNat++p.pU.drop (c.a.toNat+1)):=by
    unfold app;rw [if_pos (by simp only [List.length_take,List.length_drop];omega)]
  simp only [Vz,Vx,h1,h2,h3,a1,a2,Vw,BU];rfl
structure yT (p q:cd):Prop where
  sz:qh q≤qh p+300
  w:wP q
  ln:q.U7.ag.length=p.U7.ag.length
theorem wv {p q:cd} (h1:q.Vb=p.Vb) (h2:q.own=p.own) (h3:q.Vd.length=p.Vd.length) (h4:qU qf q.U7.ag≤qU qf p.U7.ag+250) (h5:q.U7.gc.pT.length≤p.U7.gc.pT.length+1) (h6:q.pU.length≤p.pU.length) (h7:wA q.U7.ag) (h8:q.U7.ag.length=p.U7.ag.length):yT p q:=by
  refine ⟨?_,h7,h8⟩;unfold qh sy vk uh;rw [h1,h2];omega
theorem rV {p:cd} (h:tT p):yT p p:=⟨by omega,h.w,rfl⟩
theorem BR {l:List j8} {k:Nat} {o:j8} (ho:qf o≤100):qU qf (l.set k o)≤qU qf l+100:=Nat.le_trans Bh (by omega)
theorem GN (h:qd) (c i:Int):(vq h c i).ag.length=h.ag.length:=by
  unfold vq Bn wz;cases decide (c ≥ 0)
  · rfl
  cases sK h&&qn i 0 9
  · rfl
  simp only [Vy];split
  · simp only [List.length_set]
  · rfl
theorem Hl {h:qd} (hw:wA h.ag) (c i:Int):qU qf (vq h c i).ag=qU qf h.ag∧wA (vq h c i).ag∧(vq h c i).gc.pT.length≤h.gc.pT.length+1:=by
  unfold vq Bn;cases decide (c ≥ 0)
  · exact ⟨rfl,hw,Nat.le_succ _⟩
  cases q:sK h&&qn i 0 9
  · exact ⟨rfl,hw,Nat.le_succ _⟩
  simp only [VB,rk] at q;have hl:=(vf q.1).len;simp only [Vy];refine ⟨?_,?_,Eb h i⟩
  · unfold wz;split
    · exact xJ q.2.1 (by omega) rfl
    · rfl
  · unfold wz;split
    · exact s6 hw (show wg (marked (nth h.ag i) true) from hw (nth h.ag i) (tP q.2.1 (by omega)))
    · exact hw
theorem Rt {p:cd} (hp:tT p) (me now:Int) (c:qD):yT p (va p me now c).2.2:=by
  unfold va;cases !qn c.b 0 1
  case true=>exact rV hp
  cases q2:rq p.U7.ag now me c.a 0 != 0
  case true=>exact rV hp
  obtain ⟨ar,g0,g9,_,_⟩:=uU (sH q2);cases (c.Vc==2)&&(rq p.U7.ag now me c.c 0 != 0)
  case true=>exact rV hp
  simp only [Vx];generalize (bif c.Vc==2 then ql p.U7.ag now me c.c else -1)=x;have ho:=wO ar g0 g9;obtain ⟨a,b,d⟩:=Hl (h:=qd.mk (p.U7.ag.set (ql p.U7.ag now me c.a).toNat (linked (nth p.U7.ag (ql p.U7.ag now me c.a)) c.b x)) p.U7.gc) (s6 hp.w (show wg (nth p.U7.ag (ql p.U7.ag now me c.a)) from hp.w _ (ar.at g0 g9).2)) x x;refine wv rfl rfl rfl ?_ d (Nat.le_refl _) b (by show (vq _ _ _).ag.length=_;rw [GN];exact List.length_set);refine Nat.le_trans (Nat.le_of_eq a) (Nat.le_trans (BR (by rw [Ff];omega)) (by omega))
theorem Rz {p:cd} (hp:tT p) (me now:Int) (c:qD):yT p (vc p me now c).2.2:=by
  unfold vc;cases q2:rq p.U7.ag now me c.a 0 != 0
  case true=>exact rV hp
  obtain ⟨ar,g0,g9,_,_⟩:=uU (sH q2);cases ql p.U7.ag now me c.a==0
  case true=>exact rV hp
  cases (c.Vc==4)&&(rq p.U7.ag now me c.b 1 != 0)
  case true=>exact rV hp
  simp only [Vx];generalize (bif c.Vc==4 then ql p.U7.ag now me c.b else -1)=x;have ho:=wO ar g0 g9;obtain ⟨a,b,d⟩:=Hl (h:=qd.mk (p.U7.ag.set (ql p.U7.ag now me c.a).toNat (boxed (nth p.U7.ag (ql p.U7.ag now me c.a)) x)) p.U7.gc) (s6 hp.w (show wg (nth p.U7.ag (ql p.U7.ag now me c.a)) from hp.w _ (ar.at g0 g9).2)) x (ql p.U7.ag now me c.a);refine wv rfl rfl rfl ?_ d (Nat.le_refl _) b (by show (vq _ _ _).ag.length=_;rw [GN];exact List.length_set);refine Nat.le_trans (Nat.le_of_eq a) (Nat.le_trans (BR (show qf (nth p.U7.ag (ql p.U7.ag now me c.a))≤100 by omega)) (by omega))
theorem Rq {p:cd} (hp:tT p) (me now:Int) (c:qD):yT p (rz p me now c).2.2:=by
  unfold rz;cases q2:rq p.U7.ag now me c.a 2 != 0
  case true=>exact rV hp
  obtain ⟨ar,g0,g9,_,_⟩:=uU (sH q2);cases !qn c.b 0 (((nth p.U7.ag (ql p.U7.ag now me c.a)).Vh.length:Int) - 1)
  case true=>exact rV hp
  cases c.Vc==7
  case true=>exact rV hp
  cases !qn c.c 0 999
  case true=>exact rV hp
  have ho:=wO ar g0 g9;refine wv rfl rfl rfl ?_ (Nat.le_succ _) (Nat.le_refl _) (s6 hp.w (show wg (nth p.U7.ag (ql p.U7.ag now me c.a)) from hp.w _ (ar.at g0 g9).2)) List.length_set;refine Nat.le_trans (BR (o:=written (nth p.U7.ag (ql p.U7.ag now me c.a)) c.b c.c) ?_) (by omega);unfold qf written at *;simp only [List.length_set];omega
theorem Py {p:cd} (hp:tT p) (me now:Int) (c:qD):yT p (ti p me now c).2.2:=by
  unfold ti;cases q2:rq p.U7.ag now me c.a 0 != 0
  case true=>exact rV hp
  obtain ⟨ar,g0,g9,_,_⟩:=uU (sH q2);cases (ql p.U7.ag now me c.a==0) || (!qn c.b 1 1000 || decide (i64.wrap ((nth p.U7.ag (ql p.U7.ag now me c.a)).qx+c.b) > 1000000))
  case true=>exact rV hp
  cases !vW p (we p (nth p.U7.ag (ql p.U7.ag now me c.a)).Vp) (qj.mk 0 (i64.wrap ((nth p.U7.ag (ql p.U7.ag now me c.a)).gE * c.b)) 0)
  case true=>exact rV hp
  have ho:=wO ar g0 g9;refine wv rfl rfl (tL _ _ _) ?_ (Nat.le_succ _) (Nat.le_refl _) (s6 hp.w (show wg (nth p.U7.ag (ql p.U7.ag now me c.a)) from hp.w _ (ar.at g0 g9).2)) List.length_set;exact Nat.le_trans (BR (show qf (nth p.U7.ag (ql p.U7.ag now me c.a))≤100 by omega)) (by omega)
theorem HG {p:cd} (hp:tT p) {t:List qc} (h:t.length=p.Vd.length):yT p (D7 p t):=wv rfl rfl h (by show qU qf p.U7.ag≤_;omega) (Nat.le_succ _) (Nat.le_refl _) hp.w rfl
theorem SX {p:cd} (hp:tT p) (c:qD):yT p (vn p c).2.2:=by
  unfold vn;cases c.Vc==9
  · cases c.Vc==10
    · cases !(vt p.Vd c.a).2
      · exact HG hp (JL _ _)
      · exact rV hp
    · cases (!qn c.a 0 4 || (!qn c.b 0 4 || (!qn c.c 0 2 || !EA c.d)))
      · cases !(vu p.Vd c.a c.b (tW c.c c.d)).2
        · exact HG hp (Ke _ _ _ _)
        · exact rV hp
      · exact rV hp
  · cases (!qn c.a 0 4 || !re (qj.mk c.b c.c c.d))
    · cases !(ud p.Vd c.a (qj.mk c.b c.c c.d)).2.2
      · exact HG hp (IJ _ _ _)
      · exact rV hp
    · exact rV hp
theorem RE (h:qd) (i:Int):(xo h i).ag.length=h.ag.length:=by
  unfold xo;split
  · simp only [List.length_set]
  · rfl
theorem R7 (l:List j8) (k w b:Int):(Ed l k w b).length=l.length:=by
  unfold Ed;cases decide (k ≥ 0)&&((nth l k).Vl==w)
  · rfl
  · simp only [Vy,List.length_set]
theorem Q1 {h:qd} (hw:wA h.ag) (i:Int):qU qf (xo h i).ag=qU qf h.ag∧wA (xo h i).ag∧(xo h i).gc.pT.length=h.gc.pT.length:=by
  unfold xo;split
  · rename_i q;simp only [VB,rk] at q;have hl:=(vf q.1).len;exact ⟨xJ q.2.1.1 (by omega) rfl,s6 hw (show wg (nth h.ag i) from hw _ (tP q.2.1.1 (by omega))),rfl⟩
  · exact ⟨rfl,hw,rfl⟩
theorem RP {p:cd} (hp:tT p) (f:Int) (a:qj):yT p (Fe p f a):=wv rfl rfl (tL _ _ _) (by show qU qf p.U7.ag≤_;omega) (Nat.le_succ _) (Nat.le_refl _) hp.w rfl
theorem RG {p:cd} (hp:tT p) (me now:Int) (c:qD):yT p (uN p me now c).2.2:=by
  unfold uN;cases q1:zp now c
  case true=>exact rV hp
  cases rq p.U7.ag now me c.b 1 != 0
  case true=>exact rV hp
  cases !vW p c.e (cost c)
  case true=>exact rV hp
  generalize ql p.U7.ag now me c.b=box;cases q4:decide ((tB p.U7.ag (newObj now box c)).2<0)
  case true=>exact RP hp _ _
  obtain ⟨j,g,e,ar,hj⟩:=DD q4;simp only [Vx];rw [e];have ho:=EG (now:=now) (box:=box) (DC q1);obtain ⟨a,b,d⟩:=Q1 (h:=qd.mk (p.U7.ag.set j (tH (newObj now box c) g)) p.U7.gc) (s6 hp.w (Gj (Ga _ _ _))) (j:Int);refine wv rfl rfl (tL _ _ _) ?_ (by show (xo _ _).gc.pT.length≤_;rw [d];exact Nat.le_succ _) (Nat.le_refl _) b (by show (xo _ _).ag.length=_;rw [RE];exact List.length_set);exact Nat.le_trans (Nat.le_of_eq a) (Nat.le_trans (BR (show qf (newObj now box c)≤100 from ho)) (by omega))
theorem Qi {l:List j8} (h:wA l) {i:Int} (h0:0≤i) (h1:i<(l.length:Int)):wg (nth l i):=h _ (tP h0 h1)
theorem Sy {l:List j8} (hw:wA l) {k w b:Int} (h:0≤k→k<(l.length:Int)):qU qf (Ed l k w b)=qU qf l∧wA (Ed l k w b):=by
  unfold Ed;cases q:decide (k ≥ 0)&&((nth l k).Vl==w)
  · exact ⟨rfl,hw⟩
  simp only [VB,decide_eq_true_eq] at q;have k1:=h q.1
  have w0:wg (waiting (nth l k) 0):=by show (-9223372036854775808:Int)≤0;decide
  have w1:=s6 (k:=k.toNat) hw w0
  have k2:k<((l.set k.toNat (waiting (nth l k) 0)).length:Int):=by simp only [List.length_set];exact k1
  simp only [Vy];exact ⟨(xJ (z:=Gf (nth (l.set k.toNat (waiting (nth l k) 0)) k) b) q.1 k2 rfl).trans (xJ q.1 k1 rfl),s6 w1 (show wg (nth (l.set k.toNat (waiting (nth l k) 0)) k) from Qi w1 q.1 k2)⟩
theorem Up (n:Int):-9223372036854775808≤i64.wrap n:=by
  simp [IntKind.wrap,IntKind.signed,IntKind.bits];split<;>omega
theorem Ri {p:cd} (hp:tT p) (me now:Int) {th:Int} (t0:0≤th) (t9:th≤9) (c:qD):yT p (uf p me now th c).2.2:=by
  unfold uf;cases q2:rq p.U7.ag now me c.a 3 != 0
  case true=>exact rV hp
  obtain ⟨ar,g0,g9,_,_⟩:=uU (sH q2);cases !qn c.b 0 999
  case true=>exact rV hp
  simp only [Vx];generalize ql p.U7.ag now me c.a=i at *;have ho:=wO ar g0 g9;have hl:=ar.len;have hwi:wg (nth p.U7.ag i):=hp.w _ (ar.at g0 g9).2
  have qs:∀ q,q.length≤20→qf (xz (nth p.U7.ag i) q)≤100:=fun q hq=>by
    unfold qf at ho;unfold qf xz;simp only;omega
  have hq:=ES ho;cases c.Vc==12
  · cases ((nth p.U7.ag i).Vf.length:Int)==0
    case true=>exact rV hp
    have hw1:wA (served p.U7.ag i):=s6 hp.w hwi;obtain ⟨a,b⟩:=Sy (l:=served p.U7.ag i) hw1 (k:=ql (served p.U7.ag i) now me (nth (nth p.U7.ag i).Vf 0).Vu) (w:=i64.wrap (c.a+1)) (b:=c.b) (CG (by unfold served;simp only [List.length_set];exact hl));refine wv rfl rfl rfl ?_ (Nat.le_succ _) (Nat.le_refl _) b (by show (Ed _ _ _ _).length=_;rw [R7];exact List.length_set);refine Nat.le_trans (Nat.le_of_eq a) (Nat.le_trans (BR (qs _ (by simp only [List.length_drop];omega))) (by omega))
  · cases decide (((nth p.U7.ag i).Vf.length:Int) ≥ 2)
    case true=>exact rV hp
    have hw1:wA (asked p.U7.ag i me th c):=s6 hp.w hwi
    have hl1:(asked p.U7.ag i me th c).length=10:=by unfold asked;simp only [List.length_set];exact hl
    have e:qU qf ((asked p.U7.ag i me th c).set th.toNat (waiting (nth (asked p.U7.ag i me th c) th) (i64.wrap (c.a+1))))=qU qf (asked p.U7.ag i me th c):=xJ t0 (by omega) rfl;refine wv rfl rfl rfl ?_ (Nat.le_succ _) (Nat.le_refl _) (s6 hw1 (Up _)) (by show (List.set _ _ _).length=_;rw [List.length_set,hl1,hl]);refine Nat.le_trans (Nat.le_of_eq e) (Nat.le_trans (BR (qs _ (by simp only [List.length_append,List.length_cons,List.length_nil];omega))) (by omega))
theorem Qg {p:cd} (hp:tT p) (c:qD):yT p (CF p c).2.2:=by
  unfold CF;cases hi:qn c.a 0 ((p.pU.length:Int) - 1)
  · exact rV hp
  · exact wv rfl rfl rfl (by show qU qf p.U7.ag≤_;omega) (Nat.le_succ _) (by show (p.pU.take c.a.toNat++p.pU.drop (c.a.toNat+1)).length≤_;simp only [List.length_append,List.length_take,List.length_drop];omega) hp.w rfl
theorem QU {p:cd} (hp:tT p) (me now:Int) {th:Int} (t0:0≤th) (t9:th≤9) (c:qD):yT p (sS p me now th c).2.2:=by
  unfold sS;cases c.Vc==1
  case true=>exact RG hp _ _ _
  cases (c.Vc==2) || (c.Vc==3)
  case true=>exact Rt hp _ _ _
  cases (c.Vc==4) || (c.Vc==5)
  case true=>exact Rz hp _ _ _
  cases (c.Vc==6) || (c.Vc==7)
  case true=>exact Rq hp _ _ _
  cases c.Vc==8
  case true=>exact Py hp _ _ _
  cases (c.Vc==9) || ((c.Vc==10) || (c.Vc==11))
  case true=>exact SX hp _
  cases (c.Vc==12) || (c.Vc==13)
  case true=>exact Ri hp _ _ t0 t9 _
  cases c.Vc==14
  case true=>simp only [Vx,Vy,Ft];exact rV hp
  cases c.Vc==15
  case true=>exact Qg hp _
  exact rV hp
theorem RS {p:cd} (hb:qh p≤3000000) (hw:wP p) (me now th:Int) (c:qD):qh (vZ p me now th c).1≤qh p+300∧wP (vZ p me now th c).1:=by
  unfold vZ;cases !rF p || (!qn me 0 2 || !qn now 0 1000000)
  case true=>exact ⟨Nat.le_add_right _ _,hw⟩
  cases hc:uT p now th
  · exact ⟨Nat.le_add_right _ _,hw⟩
  obtain ⟨ok,t0,t9⟩:=Cz hc;have hp:tT p:=⟨ok,hb,hw⟩;simp only [Vz,Vx];unfold fin;cases (sS p me now th c).1==0
  · cases (c.Vc==1)&&(((sS p me now th c).1==6) || ((sS p me now th c).1==7))<;>exact ⟨Nat.le_add_right (qh p) _,hw⟩
  · have h:=QU hp me now t0 t9 c;exact ⟨h.sz,h.w⟩
theorem PH {p:cd} (hb:qh p≤3000000) (hw:wP p) (me now th:Int) (c:qD):(vZ p me now th c).1.U7.ag.length=p.U7.ag.length:=by
  unfold vZ;cases !rF p || (!qn me 0 2 || !qn now 0 1000000)
  case true=>rfl
  cases hc:uT p now th
  · rfl
  obtain ⟨ok,t0,t9⟩:=Cz hc;simp only [Vz,Vx];unfold fin;cases (sS p me now th c).1==0
  · cases (c.Vc==1)&&(((sS p me now th c).1==6) || ((sS p me now th c).1==7))<;>rfl
  · exact (QU ⟨ok,hb,hw⟩ me now t0 t9 c).ln
end Go.Kx
