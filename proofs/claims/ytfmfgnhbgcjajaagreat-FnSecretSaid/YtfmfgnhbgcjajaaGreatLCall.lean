import Derived.Test.YtfmfgnhbgcjajaaGreatLTaps
namespace Go.Kx
open Go
open Go.IntKind (i64)
set_option linter.unusedVariables false
set_option linter.unusedSimpArgs false
set_option maxRecDepth 10000
theorem wa(p:bh):bh.mk p.Rp p.own p.Rr p.py p.db p.RA p.Rz p.dc p.du p.Rx=p:=rfl
theorem vM(g:eS):eS.mk g.Ru g.RD g.Rv g.da=g:=rfl
theorem vO(h:dm):dm.mk h.ag h.gc=h:=rfl
theorem Pf(a:de):de.mk a.cd a.dg a.dn=a:=rfl
def eO(l:List c6)(now me h kind:Int):Int:=bif lh h then(bif lR h != me then 3 else(bif decide (dq l now me h<0)then 4 else(bif(kind != 0)&&((nth l (dq l now me h)).Rq != kind)then 5 else 0)))else 2
theorem zh{l:List c6}{now me h:Int}(q:decide (dq l now me h<0)=false):Ar l/\0<=dq l now me h/\dq l now me h<=9/\(nth l (dq l now me h)).Rq ≠ 0:=by
  unfold dq at *;cases hg:Br l now me h
  · rw[hg]at q;simp at q
  · simp only[RM];unfold Br at hg;simp only[RP]at hg;obtain⟨⟨h1,h2,_⟩,h3,_⟩:=hg;obtain⟨a,b⟩:=As h2;exact⟨fF.1 h1,a,b,by simpa using h3⟩
theorem ij{l:List c6}{now me h k:Int}(q:eO l now me h k=0):Ar l/\0<=dq l now me h/\dq l now me h<=9/\(nth l (dq l now me h)).Rq ≠ 0/\(k ≠ 0->(nth l (dq l now me h)).Rq=k):=by
  unfold eO at q;cases h1:lh h
  · rw[h1]at q;simp at q
  cases h2:lR h != me
  case true=>rw[h1,h2]at q;simp at q
  cases h3:decide (dq l now me h<0)
  case true=>rw[h1,h2,h3]at q;simp at q
  obtain⟨a,b,c,d⟩:=zh h3;refine⟨a,b,c,d,fun hk=>?_⟩;rw[h1,h2,h3]at q;simp only[RM,RL]at q
  have hk':(k != 0)=true:=by simpa using hk
  rw[hk']at q;cases h4:(nth l (dq l now me h)).Rq != k
  · simpa using h4
  · rw[h4]at q;simp at q
theorem xf{N:Nat}(hN:df<=N){x:dN}(hb:eE dw x.Rn.py.ag<df)(h k:Int):gH N x h k=some (bif eO x.Rn.py.ag x.RB x.me h k==0 then dq x.Rn.py.ag x.RB x.me h else 0,eO x.Rn.py.ag x.RB x.me h k,x):=by
  unfold gH eO;simp only[ox,vA,uZ hN hb,RK];rw[show dv h 0 29999=lh h from rfl];cases lh h
  · rfl
  cases lR h != x.me
  case true=>rfl
  cases q:decide (dq x.Rn.py.ag x.RB x.me h<0)
  case true=>rfl
  obtain⟨ar,g0,g9,_⟩:=zh q;simp only[RN,RL,(ar.at g0 g9).1,RK];cases k != 0<;>cases(nth x.Rn.py.ag (dq x.Rn.py.ag x.RB x.me h)).Rq != k<;>rfl
theorem Bs{N:Nat}(hN:df<=N){p:bh}(hb:eE dw p.py.ag<df)(hw:wP p)(me now h:Int):kP N p me now h=some (bif eO p.py.ag now me h 0==0 then dq p.py.ag now me h else -1,eO p.py.ag now me h 0):=by
  unfold kP eO;simp only[qt,vD,vc hN hb hw,RK];rw[show dv h 0 29999=lh h from rfl];cases lh h
  · rfl
  cases lR h != me
  case true=>rfl
  cases q:decide (dq p.py.ag now me h<0)<;>rfl
theorem AF{N:Nat}(hN:df<=N){p:bh}(hb:eE dw p.py.ag<df)(hw:wP p)(me now h:Int){k:Int}(hk:0<k):lW N p me now h k=some (bif eO p.py.ag now me h k==0 then dq p.py.ag now me h else -1,eO p.py.ag now me h k):=by
  unfold lW;rw[Bs hN hb hw];have k1:decide (k>0)=true:=decide_eq_true hk
  have k2:(k != 0)=true:=by simp;omega
  simp only[RK,k1,RM];unfold eO;rw[k2];cases lh h
  · rfl
  cases lR h != me
  case true=>rfl
  cases q:decide (dq p.py.ag now me h<0)
  case true=>rfl
  obtain⟨ar,g0,g9,_⟩:=zh q;simp only[bne_self_eq_false,Bool.false_and,RO,RM,RL,beq_self_eq_true,(ar.at g0 g9).1,RK];cases(nth p.py.ag (dq p.py.ag now me h)).Rq != k<;>rfl
def o4(h:dm)(i:Int):dm:=bif gn h&&dv i 0 9 then jH h i else h
theorem Lu{N:Nat}(hN:df<=N){h:dm}(h1:eE dw h.ag<df)(h2:h.gc.da.length+1<df)(i:Int):nn N h i=some (o4 h i):=by
  have h2':h.gc.da.length<df:=by omega
  unfold nn o4;simp only[uV hN h1 h2',xI hN h1 h2',sc,RK];cases q:gn h
  · rfl
  cases hi:dv i 0 9
  · rfl
  have ar:=k8 q;have hl:=ar.len;rw[dI]at hi;simp only[RM,RK,Bool.and_self,HO hN hi.1 (show i<(h.ag.length:Int) by omega) h2]
theorem J9{N:Nat}(hN:df<=N){h:dm}(h1:eE dw h.ag<df)(h2:h.gc.da.length+1<df)(hw:wA h.ag)(i:Int):ns N h i=some (o4 h i):=by
  have h2':h.gc.da.length<df:=by omega
  unfold ns o4;simp only[wo hN h1 h2',xF hN h1 h2' hw,qe,RK];cases q:gn h
  · rfl
  cases hi:dv i 0 9
  · rfl
  have ar:=k8 q;have hl:=ar.len;rw[dI]at hi;simp only[RN,RM,RL,RK,Bool.and_self,A9 hN hi.1 (show i<(h.ag.length:Int) by omega) h2]
def linked(o:c6)(b x:Int):c6:=c6.mk o.RG o.Rq o.box o.RF o.dY o.cd o.Ry o.ee o.ed o.mark (o.dk.set b.toNat x) o.Rw o.Rs
def boxed(o:c6)(b:Int):c6:=c6.mk o.RG o.Rq b o.RF o.dY o.cd o.Ry o.ee o.ed o.mark o.dk o.Rw o.Rs
def written(o:c6)(b x:Int):c6:=c6.mk o.RG o.Rq o.box o.RF o.dY o.cd o.Ry o.ee o.ed o.mark o.dk (o.Rw.set b.toNat x) o.Rs
def lN(o:c6)(q:List eL):c6:=c6.mk o.RG o.Rq o.box o.RF o.dY o.cd o.Ry o.ee o.ed o.mark o.dk o.Rw q
def waiting(o:c6)(x:Int):c6:=c6.mk o.RG o.Rq o.box o.RF o.dY o.cd x o.ee o.ed o.mark o.dk o.Rw o.Rs
def xO(o:c6)(x:Int):c6:=c6.mk o.RG o.Rq o.box o.RF o.dY o.cd o.Ry x o.ed o.mark o.dk o.Rw o.Rs
def ny(p:bh)(h:dm):bh:=bh.mk p.Rp p.own p.Rr h p.db p.RA p.Rz p.dc p.du p.Rx
def vt(p:bh)(t:List dj):bh:=bh.mk p.Rp p.own t p.py p.db p.RA p.Rz p.dc p.du p.Rx
def vC(p:bh)(t:List ef):bh:=bh.mk p.Rp p.own p.Rr p.py t p.RA p.Rz p.dc p.du p.Rx
def jX(h:dm)(c i:Int):dm:=bif decide (c>=0)then o4 h i else h
def OQ(p:bh)(i b x:Int):bh:=ny p (jX (dm.mk (p.py.ag.set i.toNat (linked (nth p.py.ag i) b x)) p.py.gc) x x)
def kn(p:bh)(me now:Int)(c:dD):Int×Int×bh :=
  bif !dv c.b 0 1 then(2,0,p)else
  bif eO p.py.ag now me c.a 0 != 0 then(eO p.py.ag now me c.a 0,0,p)else
  bif(c.Rq==2)&&(eO p.py.ag now me c.c 0 != 0)then(eO p.py.ag now me c.c 0,0,p)else
  (0,0,OQ p (dq p.py.ag now me c.a) c.b (bif c.Rq==2 then dq p.py.ag now me c.c else -1))
structure ik (p:bh):Prop where
  ok:dH p=true
  sz:dC p<=3000000
  w:wP p
theorem ik.ar{p:bh}(h:ik p):Ar p.py.ag:=fb h.ok
theorem ik.b4{p:bh}(h:ik p):eE dw p.py.ag<df:=(gm (p:=p) (Nat.lt_of_le_of_lt h.sz (by decide))).2.2.2.1
theorem ik.b5{p:bh}(h:ik p):p.py.gc.da.length+1<df:=by
  have:=h.sz;have hB:(16777216:Nat)=df:=rfl;unfold dC mu vX at this;omega
theorem m3{l:List c6}(h:Ar l){i:Int}(h0:0<=i)(h9:i<=9):dw (nth l i)<=12:=xH (h.ok _ (h.at h0 h9).2)
theorem zo{l:List c6}(h:Ar l){i:Int}{o:c6}(ho:dw o<=100000):eE dw (l.set i.toNat o)<df:=Mv h ho _
theorem xY(o:c6)(b x:Int):dw (linked o b x)=dw o:=by unfold dw linked;simp only[List.length_set]
theorem zj{l:List Int}(h:l.length=2){b:Int}(hb:dv b 0 1=true):idx l b=some (nth l b):=by
  rw[dI]at hb;exact eK hb.1 (by omega)
theorem fJ{a:Int}(h:(a != 0)=false):a=0:=by simpa using h
theorem Ia{N:Nat}(hN:df<=N){h:dm}(h1:eE dw h.ag<df)(h2:h.gc.da.length+1<df)(c i:Int){β:Type}(f:dm->Option β):(bif decide (c>=0)then(nn N h i).bind f else f h)=f (jX h c i):=by
  unfold jX;rw[Lu hN h1 h2];cases decide (c>=0)<;>rfl
theorem ON{N:Nat}(hN:df<=N){p:bh}(hp:ik p)(me now th:Int)(c:dD):nb N (dN.mk p me now th) c=some ((kn p me now c).1,dN.mk (kn p me now c).2.2 me now th):=by
  have h4:=hp.b4;unfold nb kn;simp only[jK,xf hN,h4,RK,vM,vO,wa];cases q1:dv c.b 0 1
  · rfl
  cases q2:eO p.py.ag now me c.a 0 != 0
  case true=>rfl
  have q2':=fJ q2;obtain⟨ar,g0,g9,gk,_⟩:=ij q2';have l2:=v5 (ar.ok _ (ar.at g0 g9).2) (by simpa using gk);simp only[RN,RL,q2',beq_self_eq_true,RM];generalize dq p.py.ag now me c.a=i at *;have hs:∀x,eE dw (p.py.ag.set i.toNat (linked (nth p.py.ag i) c.b x))<df:=fun x=>zo ar (by rw[xY];have:=m3 ar g0 g9;omega);cases hk:c.Rq==2
  · simp only[RL,RK,Sum.elim_inl,(ar.at g0 g9).1,zj l2 q1,Bool.false_and];rfl
  · cases q3:eO p.py.ag now me c.c 0 != 0
    · have q3':=fJ q3;simp only[RM,RL,RK,Sum.elim_inl,(ar.at g0 g9).1,zj l2 q1,Bool.and_false,q3',beq_self_eq_true];generalize dq p.py.ag now me c.c=x;exact Ia (h:=dm.mk (p.py.ag.set i.toNat (linked (nth p.py.ag i) c.b x)) p.py.gc) hN (hs x) hp.b5 x x fun y=>some ((0:Int),dN.mk (ny p y) me now th)
    · rfl
def B1(p:bh):bh:=bh.mk p.Rp p.own p.Rr p.py p.db p.RA p.Rz p.dc (if 1000000<i64.wrap (p.du+1)then 1000000 else i64.wrap (p.du+1)) p.Rx
def fin(c:dD)(p:bh)(r:Int×Int×bh):bh×dt:=bif r.1==0 then(r.2.2,dt.mk 0 r.2.1)else(bif(c.Rq==1)&&((r.1==6) || (r.1==7))then B1 p else p,dt.mk r.1 0)
theorem ug(c:dD)(p q:bh)(v:Int):fin c p (0,v,q)=(q,dt.mk 0 v):=rfl
theorem jy{c:dD}{p q:bh}{k v:Int}(h:(k != 0)=true)(hc:(c.Rq==1)=false):fin c p (k,v,q)=(p,dt.mk k 0):=by
  unfold fin
  have:(k==0)=false:=by simpa[bne]using h
  rw[this,hc];rfl
theorem yV{N:Nat}(hN:df<=N){h:dm}(h1:eE dw h.ag<df)(h2:h.gc.da.length+1<df)(hw:wA h.ag)(c i:Int){β:Type}(f:dm->Option β):((bif decide (c>=0)then((ns N h i).bind fun y=>some (y.ag,y.gc.Ru,y.gc.RD,y.gc.Rv,y.gc.da))else(some (h.ag,h.gc.Ru,h.gc.RD,h.gc.Rv,h.gc.da)):Option ((List c6)×Int×Int×Int×(List Int))).bind fun j=>f (dm.mk j.1 (eS.mk j.2.1 j.2.2.1 j.2.2.2.1 j.2.2.2.2)))=f (jX h c i):=by
  unfold jX;rw[J9 hN h1 h2 hw];cases decide (c>=0)<;>rfl
theorem O3{N:Nat}(hN:df<=N){p:bh}(hp:ik p)(me now:Int){c:dD}(hc:(c.Rq==1)=false):rp N p me now c=some (fin c p (kn p me now c)):=by
  have h4:=hp.b4;unfold rp kn;simp only[jj,Bs hN h4 hp.w,RK];cases q1:dv c.b 0 1
  · simp only[Bool.not_false,RM,jy (show((2:Int) != 0)=true from rfl) hc]
  cases q2:eO p.py.ag now me c.a 0 != 0
  case true=>simp only[RN,RL,RM,jy q2 hc]
  have q2':=fJ q2;obtain⟨ar,g0,g9,gk,_⟩:=ij q2';have l2:=v5 (ar.ok _ (ar.at g0 g9).2) (by simpa using gk);simp only[RN,RL,q2',beq_self_eq_true,RM];generalize dq p.py.ag now me c.a=i at *;have hs:∀x,eE dw (p.py.ag.set i.toNat (linked (nth p.py.ag i) c.b x))<df:=fun x=>zo ar (by rw[xY];have:=m3 ar g0 g9;omega);have hx:∀x,wA (p.py.ag.set i.toNat (linked (nth p.py.ag i) c.b x)):=fun x=>iH hp.w (show mo (nth p.py.ag i) from hp.w _ (ar.at g0 g9).2);cases hk:c.Rq==2
  · simp only[RL,RK,Sum.elim_inl,(ar.at g0 g9).1,zj l2 q1,Bool.false_and,ug];exact yV (h:=dm.mk (p.py.ag.set i.toNat (linked (nth p.py.ag i) c.b (-1))) p.py.gc) hN (hs (-1)) hp.b5 (hx (-1)) (-1) (-1) fun y=>some (ny p y,dt.mk 0 0)
  · cases q3:eO p.py.ag now me c.c 0 != 0
    · have q3':=fJ q3;simp only[RM,RL,RK,Sum.elim_inl,(ar.at g0 g9).1,zj l2 q1,Bool.and_false,q3',beq_self_eq_true,ug];generalize dq p.py.ag now me c.c=x;exact yV (h:=dm.mk (p.py.ag.set i.toNat (linked (nth p.py.ag i) c.b x)) p.py.gc) hN (hs x) hp.b5 (hx x) x x fun y=>some (ny p y,dt.mk 0 0)
    · simp only[RM,RL,RK,Sum.elim_inr,Bool.and_true,jy q3 hc]
def OM(p:bh)(i x:Int):bh:=ny p (jX (dm.mk (p.py.ag.set i.toNat (boxed (nth p.py.ag i) x)) p.py.gc) x i)
def kb(p:bh)(me now:Int)(c:dD):Int×Int×bh :=
  bif eO p.py.ag now me c.a 0 != 0 then(eO p.py.ag now me c.a 0,0,p)else
  bif dq p.py.ag now me c.a==0 then(5,0,p)else
  bif(c.Rq==4)&&(eO p.py.ag now me c.b 1 != 0)then(eO p.py.ag now me c.b 1,0,p)else
  (0,0,OM p (dq p.py.ag now me c.a) (bif c.Rq==4 then dq p.py.ag now me c.b else -1))
theorem Px{N:Nat}(hN:df<=N){p:bh}(hp:ik p)(me now th:Int)(c:dD):m6 N (dN.mk p me now th) c=some ((kb p me now c).1,dN.mk (kb p me now c).2.2 me now th):=by
  have h4:=hp.b4;unfold m6 kb;simp only[xf hN,h4,RK,vM,vO,wa];cases q2:eO p.py.ag now me c.a 0 != 0
  case true=>rfl
  have q2':=fJ q2;obtain⟨ar,g0,g9,gk,_⟩:=ij q2';simp only[RN,RL,q2',beq_self_eq_true,RM];generalize dq p.py.ag now me c.a=i at *;cases hi:i==0
  case true=>rfl
  have hs:∀x,eE dw (p.py.ag.set i.toNat (boxed (nth p.py.ag i) x))<df:=fun x=>zo ar (by have:dw (nth p.py.ag i)<=12:=m3 ar g0 g9;show dw (nth p.py.ag i)<=_;omega);cases hk:c.Rq==4
  · simp only[RL,RK,Sum.elim_inl,(ar.at g0 g9).1,Bool.false_and];rfl
  · cases q3:eO p.py.ag now me c.b 1 != 0
    · have q3':=fJ q3;simp only[RM,RL,RK,Sum.elim_inl,(ar.at g0 g9).1,Bool.and_false,q3',beq_self_eq_true];generalize dq p.py.ag now me c.b=x;exact Ia (h:=dm.mk (p.py.ag.set i.toNat (boxed (nth p.py.ag i) x)) p.py.gc) hN (hs x) hp.b5 x i fun y=>some ((0:Int),dN.mk (ny p y) me now th)
    · rfl
theorem Pg{N:Nat}(hN:df<=N){p:bh}(hp:ik p)(me now:Int){c:dD}(hc:(c.Rq==1)=false):re N p me now c=some (fin c p (kb p me now c)):=by
  have h4:=hp.b4;unfold re kb;simp only[Bs hN h4 hp.w,AF hN h4 hp.w _ _ _ (show(0:Int)<1 by decide),RK];cases q2:eO p.py.ag now me c.a 0 != 0
  case true=>simp only[RM,jy q2 hc]
  have q2':=fJ q2;obtain⟨ar,g0,g9,gk,_⟩:=ij q2';simp only[RN,RL,q2',beq_self_eq_true,RM];generalize dq p.py.ag now me c.a=i at *;cases hi:i==0
  case true=>simp only[RM,jy (show((5:Int) != 0)=true from rfl) hc]
  have hs:∀x,eE dw (p.py.ag.set i.toNat (boxed (nth p.py.ag i) x))<df:=fun x=>zo ar (by have:dw (nth p.py.ag i)<=12:=m3 ar g0 g9;show dw (nth p.py.ag i)<=_;omega);have hx:∀x,wA (p.py.ag.set i.toNat (boxed (nth p.py.ag i) x)):=fun x=>iH hp.w (show mo (nth p.py.ag i) from hp.w _ (ar.at g0 g9).2);cases hk:c.Rq==4
  · simp only[RL,RK,Sum.elim_inl,(ar.at g0 g9).1,Bool.false_and,ug];exact yV (h:=dm.mk (p.py.ag.set i.toNat (boxed (nth p.py.ag i) (-1))) p.py.gc) hN (hs (-1)) hp.b5 (hx (-1)) (-1) i fun y=>some (ny p y,dt.mk 0 0)
  · cases q3:eO p.py.ag now me c.b 1 != 0
    · have q3':=fJ q3;simp only[RM,RL,RK,Sum.elim_inl,(ar.at g0 g9).1,Bool.and_false,q3',beq_self_eq_true,ug];generalize dq p.py.ag now me c.b=x;exact yV (h:=dm.mk (p.py.ag.set i.toNat (boxed (nth p.py.ag i) x)) p.py.gc) hN (hs x) hp.b5 (hx x) x i fun y=>some (ny p y,dt.mk 0 0)
    · simp only[RM,RL,RK,Sum.elim_inr,Bool.and_true,jy q3 hc]
def Ot(p:bh)(i b x:Int):bh:=jM p (p.py.ag.set i.toNat (written (nth p.py.ag i) b x))
def eX(p:bh)(me now:Int)(c:dD):Int×Int×bh :=
  bif eO p.py.ag now me c.a 2 != 0 then(eO p.py.ag now me c.a 2,0,p)else
  bif !dv c.b 0 (((nth p.py.ag (dq p.py.ag now me c.a)).Rw.length:Int)-1)then(2,0,p)else
  bif c.Rq==7 then(0,nth (nth p.py.ag (dq p.py.ag now me c.a)).Rw c.b,p)else
  bif !dv c.c 0 999 then(2,0,p)else(0,0,Ot p (dq p.py.ag now me c.a) c.b c.c)
theorem DJ{α:Type}{l:List α}(h:l.length<df):i64.wrap ((l.length:Int)-1)=(l.length:Int)-1:=by
  have:l.length<16777216:=h;exact dB (by omega) (by omega)
theorem FC{o:c6}(h:dw o<=12):o.Rw.length<df:=by
  have hB:(16777216:Nat)=df:=rfl;unfold dw at h;omega
theorem KB{N:Nat}(hN:df<=N){p:bh}(hp:ik p)(me now th:Int)(c:dD):lB N (dN.mk p me now th) c=some ((eX p me now c).1,(eX p me now c).2.1,dN.mk (eX p me now c).2.2 me now th):=by
  have h4:=hp.b4;unfold lB eX;simp only[xf hN,h4,jK,RK,vM,vO,wa];cases q2:eO p.py.ag now me c.a 2 != 0
  case true=>rfl
  have q2':=fJ q2;obtain⟨ar,g0,g9,gk,_⟩:=ij q2';simp only[RN,RL,q2',beq_self_eq_true,RM];generalize dq p.py.ag now me c.a=i at *;have ho:=m3 ar g0 g9;simp only[(ar.at g0 g9).1,RK,DJ (FC ho)];cases q3:dv c.b 0 (((nth p.py.ag i).Rw.length:Int)-1)
  · rfl
  have hd:idx (nth p.py.ag i).Rw c.b=some (nth (nth p.py.ag i).Rw c.b):=by
    rw[dI]at q3;exact eK q3.1 (by omega)
  simp only[RN,RL,hd,RK];cases c.Rq==7
  · cases dv c.c 0 999<;>rfl
  · rfl
theorem Ku{N:Nat}(hN:df<=N){p:bh}(hp:ik p)(me now:Int){c:dD}(hc:(c.Rq==1)=false)(hk:(c.Rq==6)=!(c.Rq==7)):nF N p me now c=some (fin c p (eX p me now c)):=by
  have h4:=hp.b4;unfold nF eX;simp only[AF hN h4 hp.w _ _ _ (show(0:Int)<2 by decide),jj,RK];cases q2:eO p.py.ag now me c.a 2 != 0
  case true=>simp only[RM,jy q2 hc]
  have q2':=fJ q2;obtain⟨ar,g0,g9,gk,_⟩:=ij q2';simp only[RN,RL,q2',beq_self_eq_true,RM];generalize dq p.py.ag now me c.a=i at *;have ho:=m3 ar g0 g9;simp only[(ar.at g0 g9).1,RK,DJ (FC ho)];cases q3:dv c.b 0 (((nth p.py.ag i).Rw.length:Int)-1)
  · simp only[Bool.not_false,RM,RK,jy (show((2:Int) != 0)=true from rfl) hc]
  have hd:idx (nth p.py.ag i).Rw c.b=some (nth (nth p.py.ag i).Rw c.b):=by
    rw[dI]at q3;exact eK q3.1 (by omega)
  rw[hk];simp only[RN,RL,hd,RK];cases c.Rq==7
  · cases dv c.c 0 999
    · simp only[Bool.not_false,RM,RL,RK,jy (show((2:Int) != 0)=true from rfl) hc]
    · rfl
  · rfl
def jw(p:bh)(f:Int)(a:de):Bool:=(eD p.Rr f a).2&&(fH p.dc (de.mk 0 a.dg 0)).2
def nT(p:bh)(f:Int)(a:de):bh:=bh.mk p.Rp p.own (eD p.Rr f a).1 p.py p.db p.RA p.Rz (fH p.dc (de.mk 0 a.dg 0)).1 p.du p.Rx
theorem Cc(p:bh)(f:Int)(a:de):(nT p f a).py=p.py:=rfl
theorem ik.b3{p:bh}(h:ik p):p.Rr.length<df:=(gm (p:=p) (Nat.lt_of_le_of_lt h.sz (by decide))).2.2.1
theorem Nj{N:Nat}(hN:df<=N){x:dN}(hB:x.Rn.Rr.length<df)(f:Int)(a:de):mg N x f a=some (jw x.Rn f a,bif jw x.Rn f a then dN.mk (nT x.Rn f a) x.me x.RB x.dS else x):=by
  unfold mg jw;simp only[uq hN hB,DM,RK,gv];cases(eD x.Rn.Rr f a).2<;>cases(fH x.Rn.dc (de.mk 0 a.dg 0)).2<;>rfl
def ic(p:bh)(me now:Int)(c:dD):Int×Int×bh :=
  bif eO p.py.ag now me c.a 0 != 0 then(eO p.py.ag now me c.a 0,0,p)else
  bif(dq p.py.ag now me c.a==0) || (!dv c.b 1 1000 || decide (i64.wrap ((nth p.py.ag (dq p.py.ag now me c.a)).dY+c.b)>1000000))then(2,0,p)else
  bif !jw p (hZ p (nth p.py.ag (dq p.py.ag now me c.a)).RF) (de.mk 0 (i64.wrap ((nth p.py.ag (dq p.py.ag now me c.a)).cd*c.b)) 0)then(6,0,p)else
  (0,0,jM (nT p (hZ p (nth p.py.ag (dq p.py.ag now me c.a)).RF) (de.mk 0 (i64.wrap ((nth p.py.ag (dq p.py.ag now me c.a)).cd*c.b)) 0)) (p.py.ag.set (dq p.py.ag now me c.a).toNat (AJ (nth p.py.ag (dq p.py.ag now me c.a)) (i64.wrap ((nth p.py.ag (dq p.py.ag now me c.a)).dY+c.b)))))
theorem N8{N:Nat}(hN:df<=N){p:bh}(hp:ik p)(me now th:Int)(c:dD):mz N (dN.mk p me now th) c=some ((ic p me now c).1,dN.mk (ic p me now c).2.2 me now th):=by
  have h4:=hp.b4;have h3:=hp.b3;unfold mz ic;simp only[xf hN,h4,jK,RK,vM,vO,wa];cases q2:eO p.py.ag now me c.a 0 != 0
  case true=>rfl
  have q2':=fJ q2;obtain⟨ar,g0,g9,gk,_⟩:=ij q2';simp only[RN,RL,q2',beq_self_eq_true,RM];generalize dq p.py.ag now me c.a=i at *;simp only[(ar.at g0 g9).1,RK,gv,BI hN,Nj hN,h3];cases((i==0) || (!dv c.b 1 1000 || decide (i64.wrap ((nth p.py.ag i).dY+c.b)>1000000)))
  · cases jw p (hZ p (nth p.py.ag i).RF) (de.mk 0 (i64.wrap ((nth p.py.ag i).cd*c.b)) 0)<;>rfl
  · rfl
theorem Nl{N:Nat}(hN:df<=N){p:bh}(hp:ik p)(me now:Int){c:dD}(hc:(c.Rq==1)=false):ql N p me now c=some (fin c p (ic p me now c)):=by
  have h4:=hp.b4;have h3:=hp.b3;unfold ql ic;simp only[Bs hN h4 hp.w,jj,RK];cases q2:eO p.py.ag now me c.a 0 != 0
  case true=>simp only[RM,jy q2 hc]
  have q2':=fJ q2;obtain⟨ar,g0,g9,gk,_⟩:=ij q2';simp only[RN,RL,q2',beq_self_eq_true,RM];generalize dq p.py.ag now me c.a=i at *;simp only[(ar.at g0 g9).1,RK,gv,xb hN,sm hN h3,vK];cases((i==0) || (!dv c.b 1 1000 || decide (i64.wrap ((nth p.py.ag i).dY+c.b)>1000000)))
  · unfold jw;cases(eD p.Rr (hZ p (nth p.py.ag i).RF) (de.mk 0 (i64.wrap ((nth p.py.ag i).cd*c.b)) 0)).2<;>cases(fH p.dc (de.mk 0 (i64.wrap ((nth p.py.ag i).cd*c.b)) 0)).2<;>simp only[RN,Bool.not_false,Bool.and_self,Bool.and_false,Bool.false_and,Bool.or_self,Bool.or_true,Bool.true_or,Bool.false_or,Bool.or_false,RO,Bool.and_true,RM,RL,jy (show((6:Int) != 0)=true from rfl) hc,ug]
    rfl
  · simp only[RM,jy (show((2:Int) != 0)=true from rfl) hc]
def kz(p:bh)(c:dD):Int×Int×bh :=
  bif c.Rq==9 then
    bif !dv c.a 0 4 || !dP (de.mk c.b c.c c.d)then(2,0,p)else
    bif !(iq p.Rr c.a (de.mk c.b c.c c.d)).2.2 then(6,0,p)else(0,(iq p.Rr c.a (de.mk c.b c.c c.d)).2.1,vt p (iq p.Rr c.a (de.mk c.b c.c c.d)).1)
  else bif c.Rq==10 then
    bif !dv c.a 0 4 || (!dv c.b 0 4 || (!dv c.c 0 2 || !uQ c.d))then(2,0,p)else
    bif !(jh p.Rr c.a c.b (g6 c.c c.d)).2 then(6,0,p)else(0,0,vt p (jh p.Rr c.a c.b (g6 c.c c.d)).1)
  else bif !(ji p.Rr c.a).2 then(2,0,p)else(0,0,vt p (ji p.Rr c.a).1)
theorem JU{N:Nat}(hN:df<=N){p:bh}(hp:ik p)(me now th:Int)(c:dD):kZ N (dN.mk p me now th) c=some ((kz p c).1,(kz p c).2.1,dN.mk (kz p c).2.2 me now th):=by
  have h3:=hp.b3;unfold kZ kz;simp only[uo,oV,jK,Be,xL,GV hN h3,Ik hN h3,I4 hN h3,RK,gv];cases c.Rq==9
  · cases c.Rq==10
    · cases(ji p.Rr c.a).2<;>rfl
    · cases(!dv c.a 0 4 || (!dv c.b 0 4 || (!dv c.c 0 2 || !uQ c.d)))
      · cases(jh p.Rr c.a c.b (g6 c.c c.d)).2<;>rfl
      · rfl
  · cases(!dv c.a 0 4 || !dP (de.mk c.b c.c c.d))
    · cases(iq p.Rr c.a (de.mk c.b c.c c.d)).2.2<;>rfl
    · rfl
theorem P4{N:Nat}(hN:df<=N){p:bh}(hp:ik p){c:dD}(hc:(c.Rq==1)=false):tG N p c=some (fin c p (kz p c)):=by
  have h3:=hp.b3;have n2:=fun q=>jy (p:=p) (q:=q) (v:=0) (show((2:Int) != 0)=true from rfl) hc;have n6:=fun q=>jy (p:=p) (q:=q) (v:=0) (show((6:Int) != 0)=true from rfl) hc;unfold tG kz;simp only[vj,o8,jj,Qj,Fp,GL hN h3,I7 hN h3,Jq hN h3,RK,gv];cases c.Rq==9
  · cases c.Rq==10
    · cases(ji p.Rr c.a).2
      · simp only[Bool.not_false,RM,RL,n2]
      · rfl
    · cases(!dv c.a 0 4 || (!dv c.b 0 4 || (!dv c.c 0 2 || !uQ c.d)))
      · cases(jh p.Rr c.a c.b (g6 c.c c.d)).2
        · simp only[Bool.not_false,RM,RL,n6]
        · rfl
      · simp only[RM,RL,n2]
  · cases(!dv c.a 0 4 || !dP (de.mk c.b c.c c.d))
    · cases(iq p.Rr c.a (de.mk c.b c.c c.d)).2.2
      · simp only[Bool.not_false,RM,RL,n6]
      · rfl
    · simp only[RM,n2]
def tg(p:bh)(th a:Int):Int×Int×bh :=
  bif a==0 then(0,(nth p.py.ag th).ed,p)else bif a==1 then(0,(nth p.py.ag th).ee,p)else
  bif(a==2) || ((a==3) || (a==4))then(0,iL (rU p th) (i64.wrap (a-2)),p)else(2,0,p)
theorem AH(a b c:Bool):(bif a then some a else bif b then some b else some c)=some (a || (b || c)):=by cases a<;>cases b<;>rfl
theorem O1(a b:Bool):(bif a then some a else some b)=some (a || b):=by cases a<;>rfl
theorem OG{N:Nat}(hN:df<=N){p:bh}(hp:ik p)(me now:Int){th:Int}(h0:0<=th)(h9:th<=9)(a:Int):mT N (dN.mk p me now th) a=some ((tg p th a).1,(tg p th a).2.1,dN.mk (tg p th a).2.2 me now th):=by
  unfold mT tg;simp only[(hp.ar.at h0 h9).1,zs hN hp.ok h0 h9,C9,RK,AH];cases a==0
  · cases a==1
    · cases(a==2) || ((a==3) || (a==4))<;>rfl
    · rfl
  · rfl
theorem OW{N:Nat}(hN:df<=N){p:bh}(hp:ik p){th:Int}(h0:0<=th)(h9:th<=9){c:dD}(hc:(c.Rq==1)=false):rq N p th c=some (fin c p (tg p th c.a)):=by
  unfold rq tg;obtain⟨r0,r4⟩:=si p (nth p.py.ag th).RF;simp only[(hp.ar.at h0 h9).1,xb hN,w7 hp.ok r0 r4,Cf,RK,AH,Pf];cases c.a==0
  · cases c.a==1
    · cases(c.a==2) || ((c.a==3) || (c.a==4))
      · simp only[RL,jy (show((2:Int) != 0)=true from rfl) hc]
      · rfl
    · rfl
  · rfl
theorem Ei{l:List c6}{o:c6}:∀(m:List c6) (k:Nat),qJ l o k m=(l, -1)\/∃(j:Nat) (g:Int),j<k+m.length/\qJ l o k m=(l.set j (gD o g),(j:Int))/\gh (l.set j (gD o g))=true
  | [],k=>.inl rfl
  | x::m,k=>by
    unfold qJ;split
    · rcases Ei (l:=l) (o:=o) m (k+1)with h|⟨j,g,h1,h2,h3⟩
      · exact .inl h
      · exact .inr ⟨j,g,by simp only[List.length_cons];omega,h2,h3⟩
    · unfold putAt;split
      · rename_i q;simp only[RP]at q;exact .inr ⟨k,_,by simp,rfl,q.1⟩
      · exact .inl rfl
theorem wQ{l:List c6}{o:c6}(h:decide ((gT l o).2<0)=false):∃(j:Nat) (g:Int),gT l o=(l.set j (gD o g),(j:Int))/\Ar (l.set j (gD o g))/\j<10:=by
  unfold gT at *;cases ha:gh l
  · rw[ha]at h;simp at h
  · rw[ha]at h;simp only[if_true]at *;have hl:=(fF.1 ha).len
    rcases Ei (l:=l) (o:=o) (l.drop 1) 1 with e|⟨j,g,h1,h2,h3⟩
    · rw[e]at h;simp at h
    · exact⟨j,g,h2,fF.1 h3,by simp only[List.length_drop]at h1;omega⟩
def newObj(now box:Int)(c:dD):c6:=c6.mk 0 c.a box c.e (i64.wrap (now+c.d)) c.c 0 0 0 false [-1, -1] (bif c.a==2 then List.replicate c.c.toNat 0 else[]) []
def oW(now:Int)(c:dD):Bool:=!dv c.a 1 4 || (!dv c.c 0 8 || (!dv c.d 1 1000 || (decide (i64.wrap (now+c.d)>1000000) || !dv c.e 0 4)))
def cost(c:dD):de:=de.mk c.c (i64.wrap (c.c*c.d)) 0
def jv(p:bh)(me now:Int)(c:dD):Int×Int×bh :=
  bif oW now c then(2,0,p)else
  bif eO p.py.ag now me c.b 1 != 0 then(eO p.py.ag now me c.b 1,0,p)else
  bif !jw p c.e (cost c)then(6,0,p)else
  bif decide ((gT p.py.ag (newObj now (dq p.py.ag now me c.b) c)).2<0)then(7,0,nT p c.e (cost c))else
  (0,mA me (gT p.py.ag (newObj now (dq p.py.ag now me c.b) c)).2 (nth (gT p.py.ag (newObj now (dq p.py.ag now me c.b) c)).1 (gT p.py.ag (newObj now (dq p.py.ag now me c.b) c)).2).RG,
    ny (nT p c.e (cost c)) (km (dm.mk (gT p.py.ag (newObj now (dq p.py.ag now me c.b) c)).1 p.py.gc) (gT p.py.ag (newObj now (dq p.py.ag now me c.b) c)).2))
theorem tZ{now:Int}{c:dD}(h:oW now c=false):0<=c.c/\c.c<=8:=by
  unfold oW at h;simp only[Bool.or_eq_false_iff,Bool.not_eq_false']at h;exact dI.1 h.2.1
theorem yA{now box:Int}{c:dD}(h:0<=c.c/\c.c<=8):dw (newObj now box c)<=100:=by
  unfold dw newObj;cases c.a==2
  · simp
  · simp only[RM,List.length_replicate,List.length_cons,List.length_nil];omega
theorem At(now box:Int)(c:dD):mo (newObj now box c):=by show(-9223372036854775808:Int)<=0;decide
theorem O8{c:Int}(h:0<=c/\c<=8):mk Int c=some (List.replicate c.toNat 0):=by
  have hB:(16777216:Nat)=df:=rfl;unfold mk;rw[if_pos ⟨h.1,by omega⟩];rfl
theorem Nc(a b c d e:Bool):(bif a then some true else bif b then some true else bif c then some true else bif d then some true else some e)=some (a || (b || (c || (d || e)))):=by cases a<;>cases b<;>cases c<;>cases d<;>rfl
theorem OR{N:Nat}(hN:df+1<=N){p:bh}(hp:ik p)(me now th:Int)(c:dD):m7 N (dN.mk p me now th) c=some ((jv p me now c).1,(jv p me now c).2.1,dN.mk (jv p me now c).2.2 me now th):=by
  have hN':df<=N:=Nat.le_of_succ_le hN;have h4:=hp.b4;have h3:=hp.b3;have h5:=hp.b5;unfold m7 jv;simp only[xf hN',h4,jK,uo,RK,vM,vO,wa,Nc];rw[show(!dv c.a 1 4 || (!dv c.c 0 8 || (!dv c.d 1 1000 || (decide (i64.wrap (now+c.d)>1000000) || !dv c.e 0 4))))=oW now c from rfl];cases q1:oW now c
  case true=>rfl
  have hc:=tZ q1;cases q2:eO p.py.ag now me c.b 1 != 0
  case true=>rfl
  have q2':=fJ q2;simp only[RL,RM,q2',beq_self_eq_true];generalize dq p.py.ag now me c.b=box;rw[show de.mk c.c (i64.wrap (c.c*c.d)) 0=cost c from rfl];simp only[Nj hN' (x:=dN.mk p me now th) h3,RK];cases q3:jw p c.e (cost c)
  · rfl
  simp only[RN,RL,RM,O8 hc,RK,Cc];rw[show(bif c.a==2 then some (List.replicate c.c.toNat 0)else some ([]:List Int))=some (bif c.a==2 then List.replicate c.c.toNat 0 else[]) from oc _ _ _];simp only[RK];rw[show c6.mk 0 c.a box c.e (i64.wrap (now+c.d)) c.c 0 0 0 false [-1, -1] (bif c.a==2 then List.replicate c.c.toNat 0 else[]) []=newObj now box c from rfl];have ho:=yA (now:=now) (box:=box) hc;rw[Bb hN h4 (o:=newObj now box c) (by omega)];simp only[RK];cases q4:decide ((gT p.py.ag (newObj now box c)).2<0)
  case true=>rfl
  obtain⟨j,g,e,ar,hj⟩:=wQ q4;have h1:=ar.sz;have hB:(16777216:Nat)=df:=rfl;rw[e];simp only[RL,(ar.at (i:=(j:Int)) (by omega) (by omega)).1,RK,Bc];rw[EZ hN' (h:=dm.mk (p.py.ag.set j (gD (newObj now box c) g)) p.py.gc) (by show eE dw (p.py.ag.set j (gD (newObj now box c) g))<df;omega) (by show p.py.gc.da.length<df;omega)];rfl
theorem FH(l:List c6)(now me h k:Int):(eO l now me h k==6)=false/\(eO l now me h k==7)=false:=by
  unfold eO;cases lh h
  · exact⟨rfl,rfl⟩
  cases lR h != me
  case true=>exact⟨rfl,rfl⟩
  cases decide (dq l now me h<0)
  case true=>exact⟨rfl,rfl⟩
  cases(k != 0)&&((nth l (dq l now me h)).Rq != k)<;>exact⟨rfl,rfl⟩
theorem EP{c:dD}{p q:bh}{k v:Int}(h:(k != 0)=true)(h6:(k==6)=false)(h7:(k==7)=false):fin c p (k,v,q)=(p,dt.mk k 0):=by
  unfold fin
  have:(k==0)=false:=by simpa[bne]using h
  rw[this];simp only[RL,h6,h7,Bool.or_self,Bool.and_false]
theorem Cj{c:dD}{p q:bh}{k v:Int}(h:(k != 0)=true)(h6:((k==6) || (k==7))=true)(hc:(c.Rq==1)=true):fin c p (k,v,q)=(B1 p,dt.mk k 0):=by
  unfold fin
  have:(k==0)=false:=by simpa[bne]using h
  rw[this];simp only[RL,h6,hc,Bool.and_self,RM]
theorem PB{N:Nat}(hN:df<=N){p:bh}(hp:ik p)(me now:Int){c:dD}(hc1:(c.Rq==1)=true):qX N p me now c=some (fin c p (jv p me now c)):=by
  have h4:=hp.b4;have h3:=hp.b3;have h5:=hp.b5;unfold qX jv;simp only[AF hN h4 hp.w _ _ _ (show(0:Int)<1 by decide),jj,vj,RK,Nc];rw[show(!dv c.a 1 4 || (!dv c.c 0 8 || (!dv c.d 1 1000 || (decide (i64.wrap (now+c.d)>1000000) || !dv c.e 0 4))))=oW now c from rfl];cases q1:oW now c
  case true=>simp only[RM,EP (show((2:Int) != 0)=true from rfl) rfl rfl]
  have hc:=tZ q1;cases q2:eO p.py.ag now me c.b 1 != 0
  case true=>simp only[RM,RL,EP q2 (FH _ _ _ _ _).1 (FH _ _ _ _ _).2]
  have q2':=fJ q2;simp only[RL,RM,q2',beq_self_eq_true];generalize dq p.py.ag now me c.b=box;rw[show de.mk c.c (i64.wrap (c.c*c.d)) 0=cost c from rfl];simp only[sm hN h3,vK,RK,gv];rw[show(!(eD p.Rr c.e (cost c)).2 || !(fH p.dc (de.mk 0 (i64.wrap (c.c*c.d)) 0)).2)=!jw p c.e (cost c) by unfold jw;rw[Bool.not_and];rfl];cases q3:jw p c.e (cost c)
  · simp only[Bool.not_false,RM,Cj (show((6:Int) != 0)=true from rfl) rfl hc1];rfl
  simp only[RN,RL,RM,O8 hc,RK];rw[show(bif c.a==2 then some (List.replicate c.c.toNat 0)else some ([]:List Int))=some (bif c.a==2 then List.replicate c.c.toNat 0 else[]) from oc _ _ _];simp only[RK];rw[show c6.mk 0 c.a box c.e (i64.wrap (now+c.d)) c.c 0 0 0 false [-1, -1] (bif c.a==2 then List.replicate c.c.toNat 0 else[]) []=newObj now box c from rfl];have ho:=yA (now:=now) (box:=box) hc;rw[AV hN h4 hp.w (o:=newObj now box c) (by omega) (At _ _ _)];simp only[RK];cases q4:decide ((gT p.py.ag (newObj now box c)).2<0)
  case true =>
    simp only[RM,Cj (show((7:Int) != 0)=true from rfl) rfl hc1];rfl
  obtain⟨j,g,e,ar,hj⟩:=wQ q4;have h1:=ar.sz;have hB:(16777216:Nat)=df:=rfl;have hw':wA (p.py.ag.set j (gD (newObj now box c) g)):=iH hp.w (z8 (At _ _ _));rw[e];simp only[RL,(ar.at (i:=(j:Int)) (by omega) (by omega)).1,RK,u7];rw[FQ hN (h:=dm.mk (p.py.ag.set j (gD (newObj now box c) g)) p.py.gc) (by show eE dw (p.py.ag.set j (gD (newObj now box c) g))<df;omega) (by show p.py.gc.da.length<df;omega) hw'];rfl
def uK(l:List c6)(k w b:Int):List c6:=bif decide (k>=0)&&((nth l k).Ry==w)then(l.set k.toNat (waiting (nth l k) 0)).set k.toNat (xO (nth (l.set k.toNat (waiting (nth l k) 0)) k) b)else l
theorem CN{l:List c6}{k w b:Int}(h:0<=k->k<(l.length:Int)){β:Type}(f:List c6->Option β):
    ((bif decide (k>=0)then((idx l k).bind fun y=>some (y.Ry==w))else(some false):Option Bool).bind fun j=>(bif j then((idx l k).bind fun y=>(some (l.set (k:Int).toNat (waiting y 0))).bind fun z=>(idx z k).bind fun x=>(some (z.set (k:Int).toNat (xO x b))).bind fun v=>some v)else(some l):Option (List c6)).bind f)=f (uK l k w b):=by
  unfold uK;cases hk:decide (k>=0)
  · rfl
  have k0:0<=k:=by simpa using hk
  have e:=eK k0 (h k0);have e2:∀z,idx (l.set k.toNat z) k=some (nth (l.set k.toNat z) k):=fun z=>eK k0 (by simp only[List.length_set];exact h k0);simp only[RM,e,e2,RK,RO];cases(nth l k).Ry==w<;>rfl
def asked(l:List c6)(g me th:Int)(c:dD):List c6:=l.set g.toNat (lN (nth l g) ((nth l g).Rs++[eL.mk (mA me th (nth l th).RG) c.b]))
def served(l:List c6)(g:Int):List c6:=l.set g.toNat (lN (nth l g) ((nth l g).Rs.drop 1))
def jf(p:bh)(me now th:Int)(c:dD):Int×Int×bh :=
  bif eO p.py.ag now me c.a 3 != 0 then(eO p.py.ag now me c.a 3,0,p)else
  bif !dv c.b 0 999 then(2,0,p)else
  bif c.Rq==12 then
    bif decide (((nth p.py.ag (dq p.py.ag now me c.a)).Rs.length:Int)>=2)then(8,0,p)else
    (0,0,jM p ((asked p.py.ag (dq p.py.ag now me c.a) me th c).set th.toNat (waiting (nth (asked p.py.ag (dq p.py.ag now me c.a) me th c) th) (i64.wrap (c.a+1)))))
  else
    bif((nth p.py.ag (dq p.py.ag now me c.a)).Rs.length:Int)==0 then(8,0,p)else
    (0,(nth (nth p.py.ag (dq p.py.ag now me c.a)).Rs 0).n,jM p (uK (served p.py.ag (dq p.py.ag now me c.a)) (dq (served p.py.ag (dq p.py.ag now me c.a)) now me (nth (nth p.py.ag (dq p.py.ag now me c.a)).Rs 0).RJ) (i64.wrap (c.a+1)) c.b))
theorem EK{α:Type}{l:List α}{k:Nat}(h:k<=l.length):sub l (k:Int) (l.length:Int)=some (l.drop k):=by
  unfold sub;rw[if_pos ⟨by omega,by omega,by omega⟩];simp only[Int.toNat_natCast];rw[List.take_of_length_le (by simp)]
theorem yg{o:c6}(h:dw o<=12):o.Rs.length<=12:=by unfold dw at h;omega
theorem CT{o:c6}{q:List eL}(h:dw o<=12)(hq:q.length<=20):dw (lN o q)<=100000:=by
  unfold dw at h;unfold dw lN;simp only;omega
theorem sA{l:List c6}{now me h:Int}(hl:l.length=10)(h0:0<=dq l now me h):dq l now me h<(l.length:Int):=by
  obtain⟨_,_,h9,_⟩:=zh (l:=l) (now:=now) (me:=me) (h:=h) (decide_eq_false (by omega));omega
theorem OU{N:Nat}(hN:df<=N){p:bh}(hp:ik p)(me now:Int){th:Int}(t0:0<=th)(t9:th<=9){c:dD}(hk:(c.Rq==13)=!(c.Rq==12)):mM N (dN.mk p me now th) c=some ((jf p me now th c).1,(jf p me now th c).2.1,dN.mk (jf p me now th c).2.2 me now th):=by
  have h4:=hp.b4;unfold mM jf;simp only[xf hN,h4,jK,RK,vM,vO,wa];cases q2:eO p.py.ag now me c.a 3 != 0
  case true=>rfl
  have q2':=fJ q2;obtain⟨ar,g0,g9,gk,_⟩:=ij q2';simp only[RN,RL,q2',beq_self_eq_true,RM];generalize dq p.py.ag now me c.a=i at *;have ho:=m3 ar g0 g9;have hq:=yg ho;have hl:=ar.len;have hB:(16777216:Nat)=df:=rfl;simp only[(ar.at g0 g9).1,(ar.at t0 t9).1,RK];cases q3:dv c.b 0 999
  · rfl
  rw[hk];cases q4:c.Rq==12
  · simp only[RN,Bool.not_false,RL,RM,RK];cases q5:((nth p.py.ag i).Rs.length:Int)==0
    case true=>rfl
    have l1:1<=(nth p.py.ag i).Rs.length:=by rw[beq_eq_false_iff_ne]at q5;omega
    have hsub:sub (nth p.py.ag i).Rs 1 ((nth p.py.ag i).Rs.length:Int)=some ((nth p.py.ag i).Rs.drop 1):=EK l1;have happ:app ([]:List eL) ((nth p.py.ag i).Rs.drop 1)=some ((nth p.py.ag i).Rs.drop 1):=fM (by simp only[List.length_drop];omega);have hi0:idx (nth p.py.ag i).Rs 0=some (nth (nth p.py.ag i).Rs 0):=eK (i:=0) (by decide) (by omega);simp only[RL,hsub,happ,hi0,RK];have hs:eE dw (p.py.ag.set i.toNat (lN (nth p.py.ag i) ((nth p.py.ag i).Rs.drop 1)))<df:=zo ar (CT ho (by simp only[List.length_drop];omega));have e1:=uZ hN hs now me (nth (nth p.py.ag i).Rs 0).RJ;unfold lN at e1;rw[e1,RK];exact CN (l:=served p.py.ag i) (sA (by unfold served;simp only[List.length_set];exact hl)) fun z=>some ((0:Int),(nth (nth p.py.ag i).Rs 0).n,dN.mk (jM p z) me now th)
  · simp only[RN,Bool.not_false,RL,RM,RK,gv,Bool.or_false];cases q5:decide (((nth p.py.ag i).Rs.length:Int)>=2)
    case true=>rfl
    have happ:∀m,app (nth p.py.ag i).Rs [m]=some ((nth p.py.ag i).Rs++[m]):=fun m=>fZ hq (by omega);have e2:∀z,idx (p.py.ag.set i.toNat z) th=some (nth (p.py.ag.set i.toNat z) th):=fun z=>eK t0 (by simp only[List.length_set];omega);simp only[RL,Bc,happ,e2,RK];rfl
theorem OX{N:Nat}(hN:df<=N){p:bh}(hp:ik p)(me now:Int){th:Int}(t0:0<=th)(t9:th<=9){c:dD}(hc:(c.Rq==1)=false):rF N p me now th c=some (fin c p (jf p me now th c)):=by
  have h4:=hp.b4;unfold rF jf;simp only[AF hN h4 hp.w _ _ _ (show(0:Int)<3 by decide),jj,RK];cases q2:eO p.py.ag now me c.a 3 != 0
  case true=>simp only[RM,jy q2 hc]
  have q2':=fJ q2;obtain⟨ar,g0,g9,gk,_⟩:=ij q2';simp only[RN,RL,q2',beq_self_eq_true,RM];generalize dq p.py.ag now me c.a=i at *;have ho:=m3 ar g0 g9;have hq:=yg ho;have hl:=ar.len;have hB:(16777216:Nat)=df:=rfl;simp only[(ar.at g0 g9).1,(ar.at t0 t9).1,RK];cases q3:dv c.b 0 999
  · simp only[Bool.not_false,RM,jy (show((2:Int) != 0)=true from rfl) hc]
  cases q4:c.Rq==12
  · simp only[RN,Bool.not_false,RL,RM,RK];cases q5:((nth p.py.ag i).Rs.length:Int)==0
    case true=>simp only[RM,jy (show((8:Int) != 0)=true from rfl) hc]
    have l1:1<=(nth p.py.ag i).Rs.length:=by rw[beq_eq_false_iff_ne]at q5;omega
    have hsub:sub (nth p.py.ag i).Rs 1 ((nth p.py.ag i).Rs.length:Int)=some ((nth p.py.ag i).Rs.drop 1):=EK l1;have happ:app ([]:List eL) ((nth p.py.ag i).Rs.drop 1)=some ((nth p.py.ag i).Rs.drop 1):=fM (by simp only[List.length_drop];omega);have hi0:idx (nth p.py.ag i).Rs 0=some (nth (nth p.py.ag i).Rs 0):=eK (i:=0) (by decide) (by omega);simp only[RL,hsub,happ,hi0,RK,ug];have hs:eE dw (p.py.ag.set i.toNat (lN (nth p.py.ag i) ((nth p.py.ag i).Rs.drop 1)))<df:=zo ar (CT ho (by simp only[List.length_drop];omega));have hx:wA (p.py.ag.set i.toNat (lN (nth p.py.ag i) ((nth p.py.ag i).Rs.drop 1))):=iH hp.w (show mo (nth p.py.ag i) from hp.w _ (ar.at g0 g9).2);have e1:=vc hN hs hx now me (nth (nth p.py.ag i).Rs 0).RJ;unfold lN at e1;rw[e1,RK];exact CN (l:=served p.py.ag i) (sA (by unfold served;simp only[List.length_set];exact hl)) fun z=>some (jM p z,dt.mk 0 (nth (nth p.py.ag i).Rs 0).n)
  · simp only[RN,Bool.not_false,RL,RM,RK,gv,Bool.or_false];cases q5:decide (((nth p.py.ag i).Rs.length:Int)>=2)
    case true=>simp only[RM,jy (show((8:Int) != 0)=true from rfl) hc]
    have happ:∀m,app (nth p.py.ag i).Rs [m]=some ((nth p.py.ag i).Rs++[m]):=fun m=>fZ hq (by omega);have hap0:app ([]:List eL) (nth p.py.ag i).Rs=some (nth p.py.ag i).Rs:=fM (by omega);have e2:∀z,idx (p.py.ag.set i.toNat z) th=some (nth (p.py.ag.set i.toNat z) th):=fun z=>eK t0 (by simp only[List.length_set];omega);simp only[RL,u7,hap0,happ,e2,RK,ug];rfl
def qD(p:bh)(c:dD):Int×Int×bh:=bif !dv c.a 0 ((p.db.length:Int)-1)then(2,0,p)else(0,0,vC p (p.db.take c.a.toNat++p.db.drop (c.a.toNat+1)))
theorem ER{α:Type}{l:List α}{i j:Int}(h0:0<=i)(h1:i<=j)(h2:j<=(l.length:Int)):sub l i j=some ((l.drop i.toNat).take (j.toNat-i.toNat)):=by
  unfold sub;rw[if_pos ⟨h0,h1,h2⟩]
theorem ik.b6{p:bh}(h:ik p):p.db.length<df:=(gm (p:=p) (Nat.lt_of_le_of_lt h.sz (by decide))).2.2.2.2.2
theorem Kf{α:Type}{l:List α}(hl:l.length<df){a:Int}(h:dv a 0 ((l.length:Int)-1)=true):i64.wrap (a+1)=a+1/\sub l 0 a=some (l.take a.toNat)/\sub l (a+1) (l.length:Int)=some (l.drop (a.toNat+1))/\∃m,sub l a (a+1)=some m:=by
  have hB:(16777216:Nat)=df:=rfl;rw[dI]at h;refine⟨dB (by omega) (by omega),?_,?_,_,ER h.1 (by omega) (by omega)⟩
  · rw[ER (Int.le_refl 0) h.1 (by omega)];simp
  · rw[ER (by omega) (by omega) (Int.le_refl _),show(a+1).toNat=a.toNat+1 by omega,List.take_of_length_le (by simp)]
theorem D8(N:Nat){l:List ef}(hl:l.length<df){a:Int}(h:dv a 0 ((l.length:Int)-1)=true):nI N l a (i64.wrap (a+1))=some (l.take a.toNat++l.drop (a.toNat+1)):=by
  obtain⟨h1,h2,h3,m,h4⟩:=Kf hl h;unfold nI
  have hne:(a==a+1)=false:=by rw[beq_eq_false_iff_ne];omega
  simp only[h1,h2,h3,h4,hne,RK,RL]
def fU(p:bh)(me now th:Int)(c:dD):Int×Int×bh :=
  bif c.Rq==1 then jv p me now c else bif(c.Rq==2) || (c.Rq==3)then kn p me now c else bif(c.Rq==4) || (c.Rq==5)then kb p me now c else
  bif(c.Rq==6) || (c.Rq==7)then eX p me now c else bif c.Rq==8 then ic p me now c else bif(c.Rq==9) || ((c.Rq==10) || (c.Rq==11))then kz p c else
  bif(c.Rq==12) || (c.Rq==13)then jf p me now th c else bif c.Rq==14 then tg p th c.a else bif c.Rq==15 then qD p c else(2,0,p)
theorem zf(p:bh)(me now:Int)(c:dD):(kn p me now c).2.1=0/\bh.mk p.Rp p.own p.Rr (kn p me now c).2.2.py p.db (kn p me now c).2.2.RA (kn p me now c).2.2.Rz (kn p me now c).2.2.dc (kn p me now c).2.2.du (kn p me now c).2.2.Rx=(kn p me now c).2.2:=by
  unfold kn;cases !dv c.b 0 1
  · cases eO p.py.ag now me c.a 0 != 0
    · cases(c.Rq==2)&&(eO p.py.ag now me c.c 0 != 0)<;>exact⟨rfl,rfl⟩
    · exact⟨rfl,rfl⟩
  · exact⟨rfl,rfl⟩
theorem zq(p:bh)(me now:Int)(c:dD):(kb p me now c).2.1=0/\bh.mk p.Rp p.own p.Rr (kb p me now c).2.2.py p.db (kb p me now c).2.2.RA (kb p me now c).2.2.Rz (kb p me now c).2.2.dc (kb p me now c).2.2.du (kb p me now c).2.2.Rx=(kb p me now c).2.2:=by
  unfold kb;cases eO p.py.ag now me c.a 0 != 0
  · cases dq p.py.ag now me c.a==0
    · cases(c.Rq==4)&&(eO p.py.ag now me c.b 1 != 0)<;>exact⟨rfl,rfl⟩
    · exact⟨rfl,rfl⟩
  · exact⟨rfl,rfl⟩
theorem B9(p:bh)(me now:Int)(c:dD):bh.mk p.Rp p.own p.Rr (dm.mk (eX p me now c).2.2.py.ag (eS.mk (eX p me now c).2.2.py.gc.Ru (eX p me now c).2.2.py.gc.RD (eX p me now c).2.2.py.gc.Rv p.py.gc.da)) p.db (eX p me now c).2.2.RA (eX p me now c).2.2.Rz (eX p me now c).2.2.dc (eX p me now c).2.2.du (eX p me now c).2.2.Rx=(eX p me now c).2.2:=by
  unfold eX;cases eO p.py.ag now me c.a 2 != 0
  · cases !dv c.b 0 (((nth p.py.ag (dq p.py.ag now me c.a)).Rw.length:Int)-1)
    · cases c.Rq==7
      · cases !dv c.c 0 999<;>rfl
      · rfl
    · rfl
  · rfl
theorem xw(p:bh)(me now:Int)(c:dD):(ic p me now c).2.1=0/\bh.mk p.Rp p.own (ic p me now c).2.2.Rr (dm.mk (ic p me now c).2.2.py.ag (eS.mk (ic p me now c).2.2.py.gc.Ru (ic p me now c).2.2.py.gc.RD (ic p me now c).2.2.py.gc.Rv p.py.gc.da)) p.db (ic p me now c).2.2.RA (ic p me now c).2.2.Rz (ic p me now c).2.2.dc (ic p me now c).2.2.du (ic p me now c).2.2.Rx=(ic p me now c).2.2:=by
  unfold ic;cases eO p.py.ag now me c.a 0 != 0
  · cases(dq p.py.ag now me c.a==0) || (!dv c.b 1 1000 || decide (i64.wrap ((nth p.py.ag (dq p.py.ag now me c.a)).dY+c.b)>1000000))
    · cases jw p (hZ p (nth p.py.ag (dq p.py.ag now me c.a)).RF) (de.mk 0 (i64.wrap ((nth p.py.ag (dq p.py.ag now me c.a)).cd*c.b)) 0)<;>exact⟨rfl,rfl⟩
    · exact⟨rfl,rfl⟩
  · exact⟨rfl,rfl⟩
theorem DS(p:bh)(c:dD):bh.mk p.Rp p.own (kz p c).2.2.Rr (dm.mk p.py.ag (eS.mk (kz p c).2.2.py.gc.Ru (kz p c).2.2.py.gc.RD (kz p c).2.2.py.gc.Rv p.py.gc.da)) p.db (kz p c).2.2.RA (kz p c).2.2.Rz (kz p c).2.2.dc (kz p c).2.2.du (kz p c).2.2.Rx=(kz p c).2.2:=by
  unfold kz;cases c.Rq==9
  · cases c.Rq==10
    · cases !(ji p.Rr c.a).2<;>rfl
    · cases(!dv c.a 0 4 || (!dv c.b 0 4 || (!dv c.c 0 2 || !uQ c.d)))
      · cases !(jh p.Rr c.a c.b (g6 c.c c.d)).2<;>rfl
      · rfl
  · cases(!dv c.a 0 4 || !dP (de.mk c.b c.c c.d))
    · cases !(iq p.Rr c.a (de.mk c.b c.c c.d)).2.2<;>rfl
    · rfl
theorem B6(p:bh)(me now th:Int)(c:dD):bh.mk p.Rp p.own p.Rr (dm.mk (jf p me now th c).2.2.py.ag (eS.mk (jf p me now th c).2.2.py.gc.Ru (jf p me now th c).2.2.py.gc.RD (jf p me now th c).2.2.py.gc.Rv p.py.gc.da)) p.db (jf p me now th c).2.2.RA (jf p me now th c).2.2.Rz (jf p me now th c).2.2.dc (jf p me now th c).2.2.du (jf p me now th c).2.2.Rx=(jf p me now th c).2.2:=by
  unfold jf;cases eO p.py.ag now me c.a 3 != 0
  · cases !dv c.b 0 999
    · cases c.Rq==12
      · cases((nth p.py.ag (dq p.py.ag now me c.a)).Rs.length:Int)==0<;>rfl
      · cases decide (((nth p.py.ag (dq p.py.ag now me c.a)).Rs.length:Int)>=2)<;>rfl
    · rfl
  · rfl
theorem BO(p:bh)(me now:Int)(c:dD):bh.mk p.Rp p.own (jv p me now c).2.2.Rr (jv p me now c).2.2.py p.db (jv p me now c).2.2.RA (jv p me now c).2.2.Rz (jv p me now c).2.2.dc (jv p me now c).2.2.du (jv p me now c).2.2.Rx=(jv p me now c).2.2:=by
  unfold jv;cases oW now c
  · cases eO p.py.ag now me c.b 1 != 0
    · cases !jw p c.e (cost c)
      · cases decide ((gT p.py.ag (newObj now (dq p.py.ag now me c.b) c)).2<0)<;>rfl
      · rfl
    · rfl
  · rfl
theorem vk(p:bh)(th a:Int):(tg p th a).2.2=p:=by
  unfold tg;cases a==0
  · cases a==1
    · cases(a==2) || ((a==3) || (a==4))<;>rfl
    · rfl
  · rfl
theorem Kc{a m n:Int}(hne:m ≠ n)(h:((a==m) || (a==n))=true):(a==m)=!(a==n):=by
  simp only[Bool.or_eq_true,beq_iff_eq]at h
  rcases h with h|h
  · subst h
    have:(a==n)=false:=by rw[beq_eq_false_iff_ne];exact hne
    rw[this];simp
  · subst h
    have:(a==m)=false:=by rw[beq_eq_false_iff_ne];exact fun q=>hne q.symm
    rw[this];simp
theorem QG{N:Nat}(hN:df+1<=N){p:bh}(hp:ik p)(me now:Int){th:Int}(t0:0<=th)(t9:th<=9)(c:dD):oO N (dN.mk p me now th) c=some ((fU p me now th c).1,(fU p me now th c).2.1,dN.mk (fU p me now th c).2.2 me now th):=by
  have hN':df<=N:=Nat.le_of_succ_le hN;unfold oO fU;simp only[OR hN hp,ON hN' hp,Px hN' hp,KB hN' hp,N8 hN' hp,JU hN' hp,OG hN' hp _ _ t0 t9,jK,RK,O1,AH,(zf p me now c).2,(zq p me now c).2,B9,(xw p me now c).2,DS,BO,vk,vM,vO,wa];cases c.Rq==1
  case true=>rfl
  cases(c.Rq==2) || (c.Rq==3)
  case true=>simp only[RL,RM,(zf p me now c).1]
  cases(c.Rq==4) || (c.Rq==5)
  case true=>simp only[RL,RM,(zq p me now c).1]
  cases(c.Rq==6) || (c.Rq==7)
  case true=>rfl
  cases c.Rq==8
  case true=>simp only[RL,RM,(xw p me now c).1]
  cases(c.Rq==9) || ((c.Rq==10) || (c.Rq==11))
  case true=>rfl
  cases hg:(c.Rq==12) || (c.Rq==13)
  case true =>
    have:(c.Rq==13)=!(c.Rq==12):=by
      rw[Bool.or_comm]at hg;exact Kc (by decide) hg
    simp only[RL,RM,OU hN' hp me now t0 t9 this,RK,B6]
  cases c.Rq==14
  case true=>simp only[RL,RM,vk]
  cases c.Rq==15
  case false=>rfl
  have h6:=hp.b6;unfold qD;simp only[RL,RM,DJ h6];cases hi:dv c.a 0 ((p.db.length:Int)-1)
  · rfl
  simp only[RN,RL,D8 N h6 hi,RK];rfl
theorem tz{p:bh}{now th:Int}(h:ig p now th=true):dH p=true/\0<=th/\th<=9:=by
  unfold ig at h;simp only[RP]at h;exact sX (now:=now) (by simpa using h.1)
def jJ(p:bh)(me now th:Int)(c:dD):bh×dt :=
  bif !dH p || (!dv me 0 2 || !dv now 0 1000000)then(p,dt.mk 2 0)else bif !ig p now th then(p,dt.mk 1 0)else fin c p (fU p me now th c)
theorem MU(p:bh)(me now th:Int)(c:dD):bh.mk p.Rp p.own (fU p me now th c).2.2.Rr (fU p me now th c).2.2.py (fU p me now th c).2.2.db (fU p me now th c).2.2.RA (fU p me now th c).2.2.Rz (fU p me now th c).2.2.dc (fU p me now th c).2.2.du (fU p me now th c).2.2.Rx=(fU p me now th c).2.2:=by
  unfold fU;cases c.Rq==1
  case true=>rw[RM, <- BO]
  cases(c.Rq==2) || (c.Rq==3)
  case true=>rw[RL,RM, <- (zf p me now c).2]
  cases(c.Rq==4) || (c.Rq==5)
  case true=>rw[RL,RL,RM, <- (zq p me now c).2]
  cases(c.Rq==6) || (c.Rq==7)
  case true=>rw[RL,RL,RL,RM, <- B9]
  cases c.Rq==8
  case true=>rw[RL,RL,RL,RL,RM, <- (xw p me now c).2]
  cases(c.Rq==9) || ((c.Rq==10) || (c.Rq==11))
  case true=>simp only[RL,RM];rw[<- DS]
  cases(c.Rq==12) || (c.Rq==13)
  case true=>simp only[RL,RM];rw[<- B6]
  cases c.Rq==14
  case true=>simp only[RL,RM,vk,wa]
  cases c.Rq==15
  case false=>rfl
  simp only[RL,RM];unfold qD;cases !dv c.a 0 ((p.db.length:Int)-1)<;>rfl
theorem Ic{N:Nat}(hN:df+1<=N){p:bh}(hb:dC p<=3000000)(hw:wP p)(me now th:Int)(c:dD):qi N p me now th c=some (jJ p me now th c):=by
  have hN':df<=N:=Nat.le_of_succ_le hN;have hB:dC p<df:=Nat.lt_of_le_of_lt hb (by decide);unfold qi jJ;simp only[sb hN' hB,xz,vB,mW hN' hB,CF hN' hB,RK,gv];cases !dH p || (!dv me 0 2 || !dv now 0 1000000)
  case true=>rfl
  cases hc:ig p now th
  · rfl
  obtain⟨ok,t0,t9⟩:=tz hc;simp only[RN,RL,QG hN ⟨ok,hb,hw⟩ me now t0 t9,RK,MU,iB];unfold fin;cases(fU p me now th c).1==0
  · simp only[RL];cases(c.Rq==1)&&(((fU p me now th c).1==6) || ((fU p me now th c).1==7))<;>rfl
  · rfl
theorem CR(p:bh)(me now:Int)(c:dD){β:Type}(x:Option β):kA p.Rp.Ro (fin c p (eX p me now c)).1.Rp.Ro (kA p.own (fin c p (eX p me now c)).1.own (kA p.Rr (fin c p (eX p me now c)).1.Rr (kA p.py.ag (fin c p (eX p me now c)).1.py.ag (kA p.py.gc.da (fin c p (eX p me now c)).1.py.gc.da (kA p.db (fin c p (eX p me now c)).1.db x)))))=x:=by
  have h:(eX p me now c).2.2.Rp=p.Rp/\(eX p me now c).2.2.own=p.own/\(eX p me now c).2.2.Rr=p.Rr/\(eX p me now c).2.2.py.ag.length=p.py.ag.length/\(eX p me now c).2.2.py.gc=p.py.gc/\(eX p me now c).2.2.db=p.db:=by
    unfold eX;cases eO p.py.ag now me c.a 2 != 0
    case true=>exact⟨rfl,rfl,rfl,rfl,rfl,rfl⟩
    cases !dv c.b 0 (((nth p.py.ag (dq p.py.ag now me c.a)).Rw.length:Int)-1)
    case true=>exact⟨rfl,rfl,rfl,rfl,rfl,rfl⟩
    cases c.Rq==7
    case true=>exact⟨rfl,rfl,rfl,rfl,rfl,rfl⟩
    cases !dv c.c 0 999
    case true=>exact⟨rfl,rfl,rfl,rfl,rfl,rfl⟩
    exact⟨rfl,rfl,rfl,List.length_set,rfl,rfl⟩
  have g:(fin c p (eX p me now c)).1.Rp.Ro.length=p.Rp.Ro.length/\(fin c p (eX p me now c)).1.own.length=p.own.length/\(fin c p (eX p me now c)).1.Rr.length=p.Rr.length/\(fin c p (eX p me now c)).1.py.ag.length=p.py.ag.length/\(fin c p (eX p me now c)).1.py.gc.da.length=p.py.gc.da.length/\(fin c p (eX p me now c)).1.db.length=p.db.length:=by
    unfold fin;cases(eX p me now c).1==0
    · cases(c.Rq==1)&&(((eX p me now c).1==6) || ((eX p me now c).1==7))<;>exact⟨rfl,rfl,rfl,rfl,rfl,rfl⟩
    · simp only[RM];rw[h.1,h.2.1,h.2.2.1,h.2.2.2.2.1,h.2.2.2.2.2];exact⟨rfl,rfl,rfl,h.2.2.2.1,rfl,rfl⟩
  rw[qM g.1,qM g.2.1,qM g.2.2.1,qM g.2.2.2.1,qM g.2.2.2.2.1,qM g.2.2.2.2.2]
theorem Ib{N:Nat}(hN:df<=N){p:bh}(hb:dC p<=3000000)(hw:wP p)(me now th:Int)(c:dD):qb N p me now th c=some (jJ p me now th c):=by
  have hB:dC p<df:=Nat.lt_of_le_of_lt hb (by decide);unfold qb jJ;simp only[sd hN hB hw,jj,qa hN hB,Co hN hB hw,RK,gv,O1,AH];cases !dH p || (!dv me 0 2 || !dv now 0 1000000)
  case true=>rfl
  cases hc:ig p now th
  · rfl
  obtain⟨ok,t0,t9⟩:=tz hc;have hp:ik p:=⟨ok,hb,hw⟩;simp only[RN,RL];unfold fU;cases hk:c.Rq==1
  case true=>simp only[RM,PB hN hp me now hk,RK]
  simp only[RL];cases(c.Rq==2) || (c.Rq==3)
  case true=>simp only[RM,O3 hN hp me now hk,RK]
  simp only[RL];cases(c.Rq==4) || (c.Rq==5)
  case true=>simp only[RM,Pg hN hp me now hk,RK]
  simp only[RL];cases hd:(c.Rq==6) || (c.Rq==7)
  case true =>
    simp only[RM,Ku hN hp me now hk (Kc (by decide) hd),RK]
    all_goals (rw[CR];rfl)
  simp only[RL];cases c.Rq==8
  case true=>simp only[RM,Nl hN hp me now hk,RK]
  simp only[RL];cases(c.Rq==9) || ((c.Rq==10) || (c.Rq==11))
  case true=>simp only[RM,P4 hN hp hk,RK]
  simp only[RL];cases(c.Rq==12) || (c.Rq==13)
  case true=>simp only[RM,OX hN hp me now t0 t9 hk,RK]
  simp only[RL];cases c.Rq==14
  case true=>simp only[RM,OW hN hp t0 t9 hk,RK]
  simp only[RL];cases c.Rq==15
  case false=>simp only[RL,jy (show((2:Int) != 0)=true from rfl) hk]
  have h6:=hp.b6;unfold qD;simp only[RM,DJ h6];cases hi:dv c.a 0 ((p.db.length:Int)-1)
  · simp only[Bool.not_false,RM,jy (show((2:Int) != 0)=true from rfl) hk]
  obtain⟨h1,h2,h3,_⟩:=Kf h6 hi;have hB':(16777216:Nat)=df:=rfl;have a1:app ([]:List ef) (p.db.take c.a.toNat)=some (p.db.take c.a.toNat):=fM (by simp only[List.length_take];omega)
  have a2:app (p.db.take c.a.toNat) (p.db.drop (c.a.toNat+1))=some (p.db.take c.a.toNat++p.db.drop (c.a.toNat+1)):=by
    unfold app;rw[if_pos (by simp only[List.length_take,List.length_drop];omega)]
  simp only[RN,RL,h1,h2,h3,a1,a2,RK,ug];rfl
structure pO (p q:bh):Prop where
  sz:dC q<=dC p+300
  w:wP q
  ln:q.py.ag.length=p.py.ag.length
theorem mL{p q:bh}(h1:q.Rp=p.Rp)(h2:q.own=p.own)(h3:q.Rr.length=p.Rr.length)(h4:eE dw q.py.ag<=eE dw p.py.ag+250)(h5:q.py.gc.da.length<=p.py.gc.da.length+1)(h6:q.db.length<=p.db.length)(h7:wA q.py.ag)(h8:q.py.ag.length=p.py.ag.length):pO p q:=by
  refine⟨?_,h7,h8⟩;unfold dC mu vX iN;rw[h1,h2];omega
theorem fB{p:bh}(h:ik p):pO p p:=⟨by omega,h.w,rfl⟩
theorem ur{l:List c6}{k:Nat}{o:c6}(ho:dw o<=100):eE dw (l.set k o)<=eE dw l+100:=Nat.le_trans wZ (by omega)
theorem A8(h:dm)(c i:Int):(jX h c i).ag.length=h.ag.length:=by
  unfold jX o4 jH;cases decide (c>=0)
  · rfl
  cases gn h&&dv i 0 9
  · rfl
  simp only[RM];split
  · simp only[List.length_set]
  · rfl
theorem A2{h:dm}(hw:wA h.ag)(c i:Int):eE dw (jX h c i).ag=eE dw h.ag/\wA (jX h c i).ag/\(jX h c i).gc.da.length<=h.gc.da.length+1:=by
  unfold jX o4;cases decide (c>=0)
  · exact⟨rfl,hw,Nat.le_succ _⟩
  cases q:gn h&&dv i 0 9
  · exact⟨rfl,hw,Nat.le_succ _⟩
  simp only[RP,dI]at q;have hl:=(k8 q.1).len;simp only[RM];refine⟨?_,?_,xi h i⟩
  · unfold jH;split
    · exact ou q.2.1 (by omega) rfl
    · rfl
  · unfold jH;split
    · exact iH hw (show mo (marked (nth h.ag i) true) from hw (nth h.ag i) (gg q.2.1 (by omega)))
    · exact hw
theorem Ov{p:bh}(hp:ik p)(me now:Int)(c:dD):pO p (kn p me now c).2.2:=by
  unfold kn;cases !dv c.b 0 1
  case true=>exact fB hp
  cases q2:eO p.py.ag now me c.a 0 != 0
  case true=>exact fB hp
  obtain⟨ar,g0,g9,_,_⟩:=ij (fJ q2);cases(c.Rq==2)&&(eO p.py.ag now me c.c 0 != 0)
  case true=>exact fB hp
  simp only[RL];generalize (bif c.Rq==2 then dq p.py.ag now me c.c else -1)=x;have ho:=m3 ar g0 g9;obtain⟨a,b,d⟩:=A2 (h:=dm.mk (p.py.ag.set (dq p.py.ag now me c.a).toNat (linked (nth p.py.ag (dq p.py.ag now me c.a)) c.b x)) p.py.gc) (iH hp.w (show mo (nth p.py.ag (dq p.py.ag now me c.a)) from hp.w _ (ar.at g0 g9).2)) x x;refine mL rfl rfl rfl ?_ d (Nat.le_refl _) b (by show(jX _ _ _).ag.length=_;rw[A8];exact List.length_set);refine Nat.le_trans (Nat.le_of_eq a) (Nat.le_trans (ur (by rw[xY];omega)) (by omega))
theorem NM{p:bh}(hp:ik p)(me now:Int)(c:dD):pO p (kb p me now c).2.2:=by
  unfold kb;cases q2:eO p.py.ag now me c.a 0 != 0
  case true=>exact fB hp
  obtain⟨ar,g0,g9,_,_⟩:=ij (fJ q2);cases dq p.py.ag now me c.a==0
  case true=>exact fB hp
  cases(c.Rq==4)&&(eO p.py.ag now me c.b 1 != 0)
  case true=>exact fB hp
  simp only[RL];generalize (bif c.Rq==4 then dq p.py.ag now me c.b else -1)=x;have ho:=m3 ar g0 g9;obtain⟨a,b,d⟩:=A2 (h:=dm.mk (p.py.ag.set (dq p.py.ag now me c.a).toNat (boxed (nth p.py.ag (dq p.py.ag now me c.a)) x)) p.py.gc) (iH hp.w (show mo (nth p.py.ag (dq p.py.ag now me c.a)) from hp.w _ (ar.at g0 g9).2)) x (dq p.py.ag now me c.a);refine mL rfl rfl rfl ?_ d (Nat.le_refl _) b (by show(jX _ _ _).ag.length=_;rw[A8];exact List.length_set);refine Nat.le_trans (Nat.le_of_eq a) (Nat.le_trans (ur (show dw (nth p.py.ag (dq p.py.ag now me c.a))<=100 by omega)) (by omega))
theorem NB{p:bh}(hp:ik p)(me now:Int)(c:dD):pO p (eX p me now c).2.2:=by
  unfold eX;cases q2:eO p.py.ag now me c.a 2 != 0
  case true=>exact fB hp
  obtain⟨ar,g0,g9,_,_⟩:=ij (fJ q2);cases !dv c.b 0 (((nth p.py.ag (dq p.py.ag now me c.a)).Rw.length:Int)-1)
  case true=>exact fB hp
  cases c.Rq==7
  case true=>exact fB hp
  cases !dv c.c 0 999
  case true=>exact fB hp
  have ho:=m3 ar g0 g9;refine mL rfl rfl rfl ?_ (Nat.le_succ _) (Nat.le_refl _) (iH hp.w (show mo (nth p.py.ag (dq p.py.ag now me c.a)) from hp.w _ (ar.at g0 g9).2)) List.length_set;refine Nat.le_trans (ur (o:=written (nth p.py.ag (dq p.py.ag now me c.a)) c.b c.c) ?_) (by omega);unfold dw written at *;simp only[List.length_set];omega
theorem Mk{p:bh}(hp:ik p)(me now:Int)(c:dD):pO p (ic p me now c).2.2:=by
  unfold ic;cases q2:eO p.py.ag now me c.a 0 != 0
  case true=>exact fB hp
  obtain⟨ar,g0,g9,_,_⟩:=ij (fJ q2);cases(dq p.py.ag now me c.a==0) || (!dv c.b 1 1000 || decide (i64.wrap ((nth p.py.ag (dq p.py.ag now me c.a)).dY+c.b)>1000000))
  case true=>exact fB hp
  cases !jw p (hZ p (nth p.py.ag (dq p.py.ag now me c.a)).RF) (de.mk 0 (i64.wrap ((nth p.py.ag (dq p.py.ag now me c.a)).cd*c.b)) 0)
  case true=>exact fB hp
  have ho:=m3 ar g0 g9;refine mL rfl rfl (i7 _ _ _) ?_ (Nat.le_succ _) (Nat.le_refl _) (iH hp.w (show mo (nth p.py.ag (dq p.py.ag now me c.a)) from hp.w _ (ar.at g0 g9).2)) List.length_set;exact Nat.le_trans (ur (show dw (nth p.py.ag (dq p.py.ag now me c.a))<=100 by omega)) (by omega)
theorem BC{p:bh}(hp:ik p){t:List dj}(h:t.length=p.Rr.length):pO p (vt p t):=mL rfl rfl h (by show eE dw p.py.ag<=_;omega) (Nat.le_succ _) (Nat.le_refl _) hp.w rfl
theorem PF{p:bh}(hp:ik p)(c:dD):pO p (kz p c).2.2:=by
  unfold kz;cases c.Rq==9
  · cases c.Rq==10
    · cases !(ji p.Rr c.a).2
      · exact BC hp (EI _ _)
      · exact fB hp
    · cases(!dv c.a 0 4 || (!dv c.b 0 4 || (!dv c.c 0 2 || !uQ c.d)))
      · cases !(jh p.Rr c.a c.b (g6 c.c c.d)).2
        · exact BC hp (D0 _ _ _ _)
        · exact fB hp
      · exact fB hp
  · cases(!dv c.a 0 4 || !dP (de.mk c.b c.c c.d))
    · cases !(iq p.Rr c.a (de.mk c.b c.c c.d)).2.2
      · exact BC hp (Dz _ _ _)
      · exact fB hp
    · exact fB hp
theorem Ox(h:dm)(i:Int):(km h i).ag.length=h.ag.length:=by
  unfold km;split
  · simp only[List.length_set]
  · rfl
theorem Py(l:List c6)(k w b:Int):(uK l k w b).length=l.length:=by
  unfold uK;cases decide (k>=0)&&((nth l k).Ry==w)
  · rfl
  · simp only[RM,List.length_set]
theorem N3{h:dm}(hw:wA h.ag)(i:Int):eE dw (km h i).ag=eE dw h.ag/\wA (km h i).ag/\(km h i).gc.da.length=h.gc.da.length:=by
  unfold km;split
  · rename_i q;simp only[RP,dI]at q;have hl:=(k8 q.1).len;exact⟨ou q.2.1.1 (by omega) rfl,iH hw (show mo (nth h.ag i) from hw _ (gg q.2.1.1 (by omega))),rfl⟩
  · exact⟨rfl,hw,rfl⟩
theorem Oa{p:bh}(hp:ik p)(f:Int)(a:de):pO p (nT p f a):=mL rfl rfl (i7 _ _ _) (by show eE dw p.py.ag<=_;omega) (Nat.le_succ _) (Nat.le_refl _) hp.w rfl
theorem Np{p:bh}(hp:ik p)(me now:Int)(c:dD):pO p (jv p me now c).2.2:=by
  unfold jv;cases q1:oW now c
  case true=>exact fB hp
  cases eO p.py.ag now me c.b 1 != 0
  case true=>exact fB hp
  cases !jw p c.e (cost c)
  case true=>exact fB hp
  generalize dq p.py.ag now me c.b=box;cases q4:decide ((gT p.py.ag (newObj now box c)).2<0)
  case true=>exact Oa hp _ _
  obtain⟨j,g,e,ar,hj⟩:=wQ q4;simp only[RL];rw[e];have ho:=yA (now:=now) (box:=box) (tZ q1);obtain⟨a,b,d⟩:=N3 (h:=dm.mk (p.py.ag.set j (gD (newObj now box c) g)) p.py.gc) (iH hp.w (z8 (At _ _ _))) (j:Int);refine mL rfl rfl (i7 _ _ _) ?_ (by show(km _ _).gc.da.length<=_;rw[d];exact Nat.le_succ _) (Nat.le_refl _) b (by show(km _ _).ag.length=_;rw[Ox];exact List.length_set);exact Nat.le_trans (Nat.le_of_eq a) (Nat.le_trans (ur (show dw (newObj now box c)<=100 from ho)) (by omega))
theorem MI{l:List c6}(h:wA l){i:Int}(h0:0<=i)(h1:i<(l.length:Int)):mo (nth l i):=h _ (gg h0 h1)
theorem Pr{l:List c6}(hw:wA l){k w b:Int}(h:0<=k->k<(l.length:Int)):eE dw (uK l k w b)=eE dw l/\wA (uK l k w b):=by
  unfold uK;cases q:decide (k>=0)&&((nth l k).Ry==w)
  · exact⟨rfl,hw⟩
  simp only[RP,decide_eq_true_eq]at q;have k1:=h q.1
  have w0:mo (waiting (nth l k) 0):=by show(-9223372036854775808:Int)<=0;decide
  have w1:=iH (k:=k.toNat) hw w0
  have k2:k<((l.set k.toNat (waiting (nth l k) 0)).length:Int):=by simp only[List.length_set];exact k1
  simp only[RM];exact⟨(ou (z:=xO (nth (l.set k.toNat (waiting (nth l k) 0)) k) b) q.1 k2 rfl).trans (ou q.1 k1 rfl),iH w1 (show mo (nth (l.set k.toNat (waiting (nth l k) 0)) k) from MI w1 q.1 k2)⟩
theorem QI(n:Int):-9223372036854775808<=i64.wrap n:=by
  simp[IntKind.wrap,IntKind.signed,IntKind.bits];split<;>omega
theorem Ol{p:bh}(hp:ik p)(me now:Int){th:Int}(t0:0<=th)(t9:th<=9)(c:dD):pO p (jf p me now th c).2.2:=by
  unfold jf;cases q2:eO p.py.ag now me c.a 3 != 0
  case true=>exact fB hp
  obtain⟨ar,g0,g9,_,_⟩:=ij (fJ q2);cases !dv c.b 0 999
  case true=>exact fB hp
  simp only[RL];generalize dq p.py.ag now me c.a=i at *;have ho:=m3 ar g0 g9;have hl:=ar.len;have hwi:mo (nth p.py.ag i):=hp.w _ (ar.at g0 g9).2
  have qs:∀q,q.length<=20->dw (lN (nth p.py.ag i) q)<=100:=fun q hq=>by
    unfold dw at ho;unfold dw lN;simp only;omega
  have hq:=yg ho;cases c.Rq==12
  · cases((nth p.py.ag i).Rs.length:Int)==0
    case true=>exact fB hp
    have hw1:wA (served p.py.ag i):=iH hp.w hwi;obtain⟨a,b⟩:=Pr (l:=served p.py.ag i) hw1 (k:=dq (served p.py.ag i) now me (nth (nth p.py.ag i).Rs 0).RJ) (w:=i64.wrap (c.a+1)) (b:=c.b) (sA (by unfold served;simp only[List.length_set];exact hl));refine mL rfl rfl rfl ?_ (Nat.le_succ _) (Nat.le_refl _) b (by show(uK _ _ _ _).length=_;rw[Py];exact List.length_set);refine Nat.le_trans (Nat.le_of_eq a) (Nat.le_trans (ur (qs _ (by simp only[List.length_drop];omega))) (by omega))
  · cases decide (((nth p.py.ag i).Rs.length:Int)>=2)
    case true=>exact fB hp
    have hw1:wA (asked p.py.ag i me th c):=iH hp.w hwi
    have hl1:(asked p.py.ag i me th c).length=10:=by unfold asked;simp only[List.length_set];exact hl
    have e:eE dw ((asked p.py.ag i me th c).set th.toNat (waiting (nth (asked p.py.ag i me th c) th) (i64.wrap (c.a+1))))=eE dw (asked p.py.ag i me th c):=ou t0 (by omega) rfl;refine mL rfl rfl rfl ?_ (Nat.le_succ _) (Nat.le_refl _) (iH hw1 (QI _)) (by show(List.set _ _ _).length=_;rw[List.length_set,hl1,hl]);refine Nat.le_trans (Nat.le_of_eq e) (Nat.le_trans (ur (qs _ (by simp only[List.length_append,List.length_cons,List.length_nil];omega))) (by omega))
theorem Mt{p:bh}(hp:ik p)(c:dD):pO p (qD p c).2.2:=by
  unfold qD;cases hi:dv c.a 0 ((p.db.length:Int)-1)
  · exact fB hp
  · exact mL rfl rfl rfl (by show eE dw p.py.ag<=_;omega) (Nat.le_succ _) (by show(p.db.take c.a.toNat++p.db.drop (c.a.toNat+1)).length<=_;simp only[List.length_append,List.length_take,List.length_drop];omega) hp.w rfl
theorem ML{p:bh}(hp:ik p)(me now:Int){th:Int}(t0:0<=th)(t9:th<=9)(c:dD):pO p (fU p me now th c).2.2:=by
  unfold fU;cases c.Rq==1
  case true=>exact Np hp _ _ _
  cases(c.Rq==2) || (c.Rq==3)
  case true=>exact Ov hp _ _ _
  cases(c.Rq==4) || (c.Rq==5)
  case true=>exact NM hp _ _ _
  cases(c.Rq==6) || (c.Rq==7)
  case true=>exact NB hp _ _ _
  cases c.Rq==8
  case true=>exact Mk hp _ _ _
  cases(c.Rq==9) || ((c.Rq==10) || (c.Rq==11))
  case true=>exact PF hp _
  cases(c.Rq==12) || (c.Rq==13)
  case true=>exact Ol hp _ _ t0 t9 _
  cases c.Rq==14
  case true=>simp only[RL,RM,vk];exact fB hp
  cases c.Rq==15
  case true=>exact Mt hp _
  exact fB hp
theorem H5{p:bh}(hb:dC p<=3000000)(hw:wP p)(me now th:Int)(c:dD):dC (jJ p me now th c).1<=dC p+300/\wP (jJ p me now th c).1:=by
  unfold jJ;cases !dH p || (!dv me 0 2 || !dv now 0 1000000)
  case true=>exact⟨Nat.le_add_right _ _,hw⟩
  cases hc:ig p now th
  · exact⟨Nat.le_add_right _ _,hw⟩
  obtain⟨ok,t0,t9⟩:=tz hc;have hp:ik p:=⟨ok,hb,hw⟩;simp only[RN,RL];unfold fin;cases(fU p me now th c).1==0
  · cases(c.Rq==1)&&(((fU p me now th c).1==6) || ((fU p me now th c).1==7))<;>exact⟨Nat.le_add_right (dC p) _,hw⟩
  · have h:=ML hp me now t0 t9 c;exact⟨h.sz,h.w⟩
theorem DX{p:bh}(hb:dC p<=3000000)(hw:wP p)(me now th:Int)(c:dD):(jJ p me now th c).1.py.ag.length=p.py.ag.length:=by
  unfold jJ;cases !dH p || (!dv me 0 2 || !dv now 0 1000000)
  case true=>rfl
  cases hc:ig p now th
  · rfl
  obtain⟨ok,t0,t9⟩:=tz hc;simp only[RN,RL];unfold fin;cases(fU p me now th c).1==0
  · cases(c.Rq==1)&&(((fU p me now th c).1==6) || ((fU p me now th c).1==7))<;>rfl
  · exact(ML ⟨ok,hb,hw⟩ me now t0 t9 c).ln
end Go.Kx
