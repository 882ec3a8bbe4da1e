import Derived.Test.YtfmfgnhbgcjajaaGreatLTaps
namespace Go.Kx
open Go
open Go.IntKind (i64)
set_option linter.unusedVariables false
set_option linter.unusedSimpArgs false
set_option maxRecDepth 10000
theorem wG(p:bh):bh.mk p.Rg p.own p.Rh p.heap p.dc p.Rr p.Rq p.db p.dx p.Rp=p:=rfl
theorem v8(g:eS):eS.mk g.Rj g.Rs g.Rk g.da=g:=rfl
theorem vD(h:df):df.mk h.ag h.gc=h:=rfl
theorem O1(a:de):de.mk a.c6 a.dh a.du=a:=rfl
def eM(l:List cd)(now me h kind:Int):Int:=bif kP h then(bif iU h != me then 3 else(bif decide (dt l now me h<0)then 4 else(bif(kind != 0)&&((nth l (dt l now me h)).so != kind)then 5 else 0)))else 2
theorem xj{l:List cd}{now me h:Int}(q:decide (dt l now me h<0)=false):Ar l/\0<=dt l now me h/\dt l now me h<=9/\(nth l (dt l now me h)).so ≠ 0:=by
  unfold dt at *;cases hg:xK l now me h
  · rw[hg]at q;simp at q
  · simp only[RD];unfold xK at hg;simp only[RG]at hg;obtain⟨⟨h1,h2,_⟩,h3,_⟩:=hg;obtain⟨a,b⟩:=As h2;exact⟨fu.1 h1,a,b,by simpa using h3⟩
theorem gL{l:List cd}{now me h k:Int}(q:eM l now me h k=0):Ar l/\0<=dt l now me h/\dt l now me h<=9/\(nth l (dt l now me h)).so ≠ 0/\(k ≠ 0->(nth l (dt l now me h)).so=k):=by
  unfold eM at q;cases h1:kP h
  · rw[h1]at q;simp at q
  cases h2:iU h != me
  case true=>rw[h1,h2]at q;simp at q
  cases h3:decide (dt l now me h<0)
  case true=>rw[h1,h2,h3]at q;simp at q
  obtain⟨a,b,c,d⟩:=xj h3;refine⟨a,b,c,d,fun hk=>?_⟩;rw[h1,h2,h3]at q;simp only[RD,RC]at q
  have hk':(k != 0)=true:=by simpa using hk
  rw[hk']at q;cases h4:(nth l (dt l now me h)).so != k
  · simpa using h4
  · rw[h4]at q;simp at q
theorem xq{N:Nat}(hN:dg<=N){x:dN}(hb:eQ dA x.py.heap.ag<dg)(h k:Int):g7 N x h k=some (bif eM x.py.heap.ag x.Rn x.me h k==0 then dt x.py.heap.ag x.Rn x.me h else 0,eM x.py.heap.ag x.Rn x.me h k,x):=by
  unfold g7 eM;simp only[oE,tm,vk hN hb,RB];rw[show dy h 0 29999=kP h from rfl];cases kP h
  · rfl
  cases iU h != x.me
  case true=>rfl
  cases q:decide (dt x.py.heap.ag x.Rn x.me h<0)
  case true=>rfl
  obtain⟨ar,g0,g9,_⟩:=xj q;simp only[RE,RC,(ar.at g0 g9).1,RB];cases k != 0<;>cases(nth x.py.heap.ag (dt x.py.heap.ag x.Rn x.me h)).so != k<;>rfl
theorem A2{N:Nat}(hN:dg<=N){p:bh}(hb:eQ dA p.heap.ag<dg)(hw:wP p)(me now h:Int):ly N p me now h=some (bif eM p.heap.ag now me h 0==0 then dt p.heap.ag now me h else -1,eM p.heap.ag now me h 0):=by
  unfold ly eM;simp only[qz,tW,vt hN hb hw,RB];rw[show dy h 0 29999=kP h from rfl];cases kP h
  · rfl
  cases iU h != me
  case true=>rfl
  cases q:decide (dt p.heap.ag now me h<0)<;>rfl
theorem Bg{N:Nat}(hN:dg<=N){p:bh}(hb:eQ dA p.heap.ag<dg)(hw:wP p)(me now h:Int){k:Int}(hk:0<k):mj N p me now h k=some (bif eM p.heap.ag now me h k==0 then dt p.heap.ag now me h else -1,eM p.heap.ag now me h k):=by
  unfold mj;rw[A2 hN hb hw];have k1:decide (k>0)=true:=decide_eq_true hk
  have k2:(k != 0)=true:=by simp;omega
  simp only[RB,k1,RD];unfold eM;rw[k2];cases kP h
  · rfl
  cases iU h != me
  case true=>rfl
  cases q:decide (dt p.heap.ag now me h<0)
  case true=>rfl
  obtain⟨ar,g0,g9,_⟩:=xj q;simp only[bne_self_eq_false,Bool.false_and,RF,RD,RC,beq_self_eq_true,(ar.at g0 g9).1,RB];cases(nth p.heap.ag (dt p.heap.ag now me h)).so != k<;>rfl
def mU(h:df)(i:Int):df:=bif fW h&&dy i 0 9 then fP h i else h
theorem K6{N:Nat}(hN:dg<=N){h:df}(h1:eQ dA h.ag<dg)(h2:h.gc.da.length+1<dg)(i:Int):nH N h i=some (mU h i):=by
  have h2':h.gc.da.length<dg:=by omega
  unfold nH mU;simp only[vm hN h1 h2',xw hN h1 h2',sn,RB];cases q:fW h
  · rfl
  cases hi:dy i 0 9
  · rfl
  have ar:=lH q;have hl:=ar.len;rw[dI]at hi;simp only[RD,RB,Bool.and_self,HE hN hi.1 (show i<(h.ag.length:Int) by omega) h2]
theorem JD{N:Nat}(hN:dg<=N){h:df}(h1:eQ dA h.ag<dg)(h2:h.gc.da.length+1<dg)(hw:wA h.ag)(i:Int):nB N h i=some (mU h i):=by
  have h2':h.gc.da.length<dg:=by omega
  unfold nB mU;simp only[wF hN h1 h2',xR hN h1 h2' hw,pM,RB];cases q:fW h
  · rfl
  cases hi:dy i 0 9
  · rfl
  have ar:=lH q;have hl:=ar.len;rw[dI]at hi;simp only[RE,RD,RC,RB,Bool.and_self,BD hN hi.1 (show i<(h.ag.length:Int) by omega) h2]
def linked(o:cd)(b x:Int):cd:=cd.mk o.Rt o.so o.box o.Rx o.dV o.c6 o.Ro o.eh o.ef o.mark (o.dk.set b.toNat x) o.Rm o.Ri
def boxed(o:cd)(b:Int):cd:=cd.mk o.Rt o.so b o.Rx o.dV o.c6 o.Ro o.eh o.ef o.mark o.dk o.Rm o.Ri
def written(o:cd)(b x:Int):cd:=cd.mk o.Rt o.so o.box o.Rx o.dV o.c6 o.Ro o.eh o.ef o.mark o.dk (o.Rm.set b.toNat x) o.Ri
def kZ(o:cd)(q:List eR):cd:=cd.mk o.Rt o.so o.box o.Rx o.dV o.c6 o.Ro o.eh o.ef o.mark o.dk o.Rm q
def waiting(o:cd)(x:Int):cd:=cd.mk o.Rt o.so o.box o.Rx o.dV o.c6 x o.eh o.ef o.mark o.dk o.Rm o.Ri
def xx(o:cd)(x:Int):cd:=cd.mk o.Rt o.so o.box o.Rx o.dV o.c6 o.Ro x o.ef o.mark o.dk o.Rm o.Ri
def mA(p:bh)(h:df):bh:=bh.mk p.Rg p.own p.Rh h p.dc p.Rr p.Rq p.db p.dx p.Rp
def vN(p:bh)(t:List dp):bh:=bh.mk p.Rg p.own t p.heap p.dc p.Rr p.Rq p.db p.dx p.Rp
def ue(p:bh)(t:List ez):bh:=bh.mk p.Rg p.own p.Rh p.heap t p.Rr p.Rq p.db p.dx p.Rp
def iY(h:df)(c i:Int):df:=bif decide (c>=0)then mU h i else h
def Lq(p:bh)(i b x:Int):bh:=mA p (iY (df.mk (p.heap.ag.set i.toNat (linked (nth p.heap.ag i) b x)) p.heap.gc) x x)
def jS(p:bh)(me now:Int)(c:dG):Int×Int×bh :=
  bif !dy c.b 0 1 then(2,0,p)else
  bif eM p.heap.ag now me c.a 0 != 0 then(eM p.heap.ag now me c.a 0,0,p)else
  bif(c.so==2)&&(eM p.heap.ag now me c.c 0 != 0)then(eM p.heap.ag now me c.c 0,0,p)else
  (0,0,Lq p (dt p.heap.ag now me c.a) c.b (bif c.so==2 then dt p.heap.ag now me c.c else -1))
structure hD (p:bh):Prop where
  ok:dJ p=true
  sz:dH p<=3000000
  w:wP p
theorem hD.ar{p:bh}(h:hD p):Ar p.heap.ag:=eX h.ok
theorem hD.b4{p:bh}(h:hD p):eQ dA p.heap.ag<dg:=(gO (p:=p) (Nat.lt_of_le_of_lt h.sz (by decide))).2.2.2.1
theorem hD.b5{p:bh}(h:hD p):p.heap.gc.da.length+1<dg:=by
  have:=h.sz;have hB:(16777216:Nat)=dg:=rfl;unfold dH mH vQ at this;omega
theorem nm{l:List cd}(h:Ar l){i:Int}(h0:0<=i)(h9:i<=9):dA (nth l i)<=12:=xX (h.ok _ (h.at h0 h9).2)
theorem zv{l:List cd}(h:Ar l){i:Int}{o:cd}(ho:dA o<=100000):eQ dA (l.set i.toNat o)<dg:=LS h ho _
theorem yv(o:cd)(b x:Int):dA (linked o b x)=dA o:=by unfold dA linked;simp only[List.length_set]
theorem zq{l:List Int}(h:l.length=2){b:Int}(hb:dy b 0 1=true):idx l b=some (nth l b):=by
  rw[dI]at hb;exact eU hb.1 (by omega)
theorem fp{a:Int}(h:(a != 0)=false):a=0:=by simpa using h
theorem Ht{N:Nat}(hN:dg<=N){h:df}(h1:eQ dA h.ag<dg)(h2:h.gc.da.length+1<dg)(c i:Int){β:Type}(f:df->Option β):(bif decide (c>=0)then(nH N h i).bind f else f h)=f (iY h c i):=by
  unfold iY;rw[K6 hN h1 h2];cases decide (c>=0)<;>rfl
theorem On{N:Nat}(hN:dg<=N){p:bh}(hp:hD p)(me now th:Int)(c:dG):m5 N (dN.mk p me now th) c=some ((jS p me now c).1,dN.mk (jS p me now c).2.2 me now th):=by
  have h4:=hp.b4;unfold m5 jS;simp only[kq,xq hN,h4,RB,v8,vD,wG];cases q1:dy c.b 0 1
  · rfl
  cases q2:eM p.heap.ag now me c.a 0 != 0
  case true=>rfl
  have q2':=fp q2;obtain⟨ar,g0,g9,gk,_⟩:=gL q2';have l2:=wD (ar.ok _ (ar.at g0 g9).2) (by simpa using gk);simp only[RE,RC,q2',beq_self_eq_true,RD];generalize dt p.heap.ag now me c.a=i at *;have hs:∀x,eQ dA (p.heap.ag.set i.toNat (linked (nth p.heap.ag i) c.b x))<dg:=fun x=>zv ar (by rw[yv];have:=nm ar g0 g9;omega);cases hk:c.so==2
  · simp only[RC,RB,Sum.elim_inl,(ar.at g0 g9).1,zq l2 q1,Bool.false_and];rfl
  · cases q3:eM p.heap.ag now me c.c 0 != 0
    · have q3':=fp q3;simp only[RD,RC,RB,Sum.elim_inl,(ar.at g0 g9).1,zq l2 q1,Bool.and_false,q3',beq_self_eq_true];generalize dt p.heap.ag now me c.c=x;exact Ht (h:=df.mk (p.heap.ag.set i.toNat (linked (nth p.heap.ag i) c.b x)) p.heap.gc) hN (hs x) hp.b5 x x fun y=>some ((0:Int),dN.mk (mA p y) me now th)
    · rfl
def B0(p:bh):bh:=bh.mk p.Rg p.own p.Rh p.heap p.dc p.Rr p.Rq p.db (if 1000000<i64.wrap (p.dx+1)then 1000000 else i64.wrap (p.dx+1)) p.Rp
def fin(c:dG)(p:bh)(r:Int×Int×bh):bh×dD:=bif r.1==0 then(r.2.2,dD.mk 0 r.2.1)else(bif(c.so==1)&&((r.1==6) || (r.1==7))then B0 p else p,dD.mk r.1 0)
theorem uM(c:dG)(p q:bh)(v:Int):fin c p (0,v,q)=(q,dD.mk 0 v):=rfl
theorem j5{c:dG}{p q:bh}{k v:Int}(h:(k != 0)=true)(hc:(c.so==1)=false):fin c p (k,v,q)=(p,dD.mk k 0):=by
  unfold fin
  have:(k==0)=false:=by simpa[bne]using h
  rw[this,hc];rfl
theorem zr{N:Nat}(hN:dg<=N){h:df}(h1:eQ dA h.ag<dg)(h2:h.gc.da.length+1<dg)(hw:wA h.ag)(c i:Int){β:Type}(f:df->Option β):((bif decide (c>=0)then((nB N h i).bind fun y=>some (y.ag,y.gc.Rj,y.gc.Rs,y.gc.Rk,y.gc.da))else(some (h.ag,h.gc.Rj,h.gc.Rs,h.gc.Rk,h.gc.da)):Option ((List cd)×Int×Int×Int×(List Int))).bind fun j=>f (df.mk j.1 (eS.mk j.2.1 j.2.2.1 j.2.2.2.1 j.2.2.2.2)))=f (iY h c i):=by
  unfold iY;rw[JD hN h1 h2 hw];cases decide (c>=0)<;>rfl
theorem PL{N:Nat}(hN:dg<=N){p:bh}(hp:hD p)(me now:Int){c:dG}(hc:(c.so==1)=false):rC N p me now c=some (fin c p (jS p me now c)):=by
  have h4:=hp.b4;unfold rC jS;simp only[jK,A2 hN h4 hp.w,RB];cases q1:dy c.b 0 1
  · simp only[Bool.not_false,RD,j5 (show((2:Int) != 0)=true from rfl) hc]
  cases q2:eM p.heap.ag now me c.a 0 != 0
  case true=>simp only[RE,RC,RD,j5 q2 hc]
  have q2':=fp q2;obtain⟨ar,g0,g9,gk,_⟩:=gL q2';have l2:=wD (ar.ok _ (ar.at g0 g9).2) (by simpa using gk);simp only[RE,RC,q2',beq_self_eq_true,RD];generalize dt p.heap.ag now me c.a=i at *;have hs:∀x,eQ dA (p.heap.ag.set i.toNat (linked (nth p.heap.ag i) c.b x))<dg:=fun x=>zv ar (by rw[yv];have:=nm ar g0 g9;omega);have hx:∀x,wA (p.heap.ag.set i.toNat (linked (nth p.heap.ag i) c.b x)):=fun x=>iS hp.w (show mK (nth p.heap.ag i) from hp.w _ (ar.at g0 g9).2);cases hk:c.so==2
  · simp only[RC,RB,Sum.elim_inl,(ar.at g0 g9).1,zq l2 q1,Bool.false_and,uM];exact zr (h:=df.mk (p.heap.ag.set i.toNat (linked (nth p.heap.ag i) c.b (-1))) p.heap.gc) hN (hs (-1)) hp.b5 (hx (-1)) (-1) (-1) fun y=>some (mA p y,dD.mk 0 0)
  · cases q3:eM p.heap.ag now me c.c 0 != 0
    · have q3':=fp q3;simp only[RD,RC,RB,Sum.elim_inl,(ar.at g0 g9).1,zq l2 q1,Bool.and_false,q3',beq_self_eq_true,uM];generalize dt p.heap.ag now me c.c=x;exact zr (h:=df.mk (p.heap.ag.set i.toNat (linked (nth p.heap.ag i) c.b x)) p.heap.gc) hN (hs x) hp.b5 (hx x) x x fun y=>some (mA p y,dD.mk 0 0)
    · simp only[RD,RC,RB,Sum.elim_inr,Bool.and_true,j5 q3 hc]
def JE(p:bh)(i x:Int):bh:=mA p (iY (df.mk (p.heap.ag.set i.toNat (boxed (nth p.heap.ag i) x)) p.heap.gc) x i)
def j7(p:bh)(me now:Int)(c:dG):Int×Int×bh :=
  bif eM p.heap.ag now me c.a 0 != 0 then(eM p.heap.ag now me c.a 0,0,p)else
  bif dt p.heap.ag now me c.a==0 then(5,0,p)else
  bif(c.so==4)&&(eM p.heap.ag now me c.b 1 != 0)then(eM p.heap.ag now me c.b 1,0,p)else
  (0,0,JE p (dt p.heap.ag now me c.a) (bif c.so==4 then dt p.heap.ag now me c.b else -1))
theorem OR{N:Nat}(hN:dg<=N){p:bh}(hp:hD p)(me now th:Int)(c:dG):nj N (dN.mk p me now th) c=some ((j7 p me now c).1,dN.mk (j7 p me now c).2.2 me now th):=by
  have h4:=hp.b4;unfold nj j7;simp only[xq hN,h4,RB,v8,vD,wG];cases q2:eM p.heap.ag now me c.a 0 != 0
  case true=>rfl
  have q2':=fp q2;obtain⟨ar,g0,g9,gk,_⟩:=gL q2';simp only[RE,RC,q2',beq_self_eq_true,RD];generalize dt p.heap.ag now me c.a=i at *;cases hi:i==0
  case true=>rfl
  have hs:∀x,eQ dA (p.heap.ag.set i.toNat (boxed (nth p.heap.ag i) x))<dg:=fun x=>zv ar (by have:dA (nth p.heap.ag i)<=12:=nm ar g0 g9;show dA (nth p.heap.ag i)<=_;omega);cases hk:c.so==4
  · simp only[RC,RB,Sum.elim_inl,(ar.at g0 g9).1,Bool.false_and];rfl
  · cases q3:eM p.heap.ag now me c.b 1 != 0
    · have q3':=fp q3;simp only[RD,RC,RB,Sum.elim_inl,(ar.at g0 g9).1,Bool.and_false,q3',beq_self_eq_true];generalize dt p.heap.ag now me c.b=x;exact Ht (h:=df.mk (p.heap.ag.set i.toNat (boxed (nth p.heap.ag i) x)) p.heap.gc) hN (hs x) hp.b5 x i fun y=>some ((0:Int),dN.mk (mA p y) me now th)
    · rfl
theorem Pg{N:Nat}(hN:dg<=N){p:bh}(hp:hD p)(me now:Int){c:dG}(hc:(c.so==1)=false):sa N p me now c=some (fin c p (j7 p me now c)):=by
  have h4:=hp.b4;unfold sa j7;simp only[A2 hN h4 hp.w,Bg hN h4 hp.w _ _ _ (show(0:Int)<1 by decide),RB];cases q2:eM p.heap.ag now me c.a 0 != 0
  case true=>simp only[RD,j5 q2 hc]
  have q2':=fp q2;obtain⟨ar,g0,g9,gk,_⟩:=gL q2';simp only[RE,RC,q2',beq_self_eq_true,RD];generalize dt p.heap.ag now me c.a=i at *;cases hi:i==0
  case true=>simp only[RD,j5 (show((5:Int) != 0)=true from rfl) hc]
  have hs:∀x,eQ dA (p.heap.ag.set i.toNat (boxed (nth p.heap.ag i) x))<dg:=fun x=>zv ar (by have:dA (nth p.heap.ag i)<=12:=nm ar g0 g9;show dA (nth p.heap.ag i)<=_;omega);have hx:∀x,wA (p.heap.ag.set i.toNat (boxed (nth p.heap.ag i) x)):=fun x=>iS hp.w (show mK (nth p.heap.ag i) from hp.w _ (ar.at g0 g9).2);cases hk:c.so==4
  · simp only[RC,RB,Sum.elim_inl,(ar.at g0 g9).1,Bool.false_and,uM];exact zr (h:=df.mk (p.heap.ag.set i.toNat (boxed (nth p.heap.ag i) (-1))) p.heap.gc) hN (hs (-1)) hp.b5 (hx (-1)) (-1) i fun y=>some (mA p y,dD.mk 0 0)
  · cases q3:eM p.heap.ag now me c.b 1 != 0
    · have q3':=fp q3;simp only[RD,RC,RB,Sum.elim_inl,(ar.at g0 g9).1,Bool.and_false,q3',beq_self_eq_true,uM];generalize dt p.heap.ag now me c.b=x;exact zr (h:=df.mk (p.heap.ag.set i.toNat (boxed (nth p.heap.ag i) x)) p.heap.gc) hN (hs x) hp.b5 (hx x) x i fun y=>some (mA p y,dD.mk 0 0)
    · simp only[RD,RC,RB,Sum.elim_inr,Bool.and_true,j5 q3 hc]
def Ny(p:bh)(i b x:Int):bh:=jy p (p.heap.ag.set i.toNat (written (nth p.heap.ag i) b x))
def eZ(p:bh)(me now:Int)(c:dG):Int×Int×bh :=
  bif eM p.heap.ag now me c.a 2 != 0 then(eM p.heap.ag now me c.a 2,0,p)else
  bif !dy c.b 0 (((nth p.heap.ag (dt p.heap.ag now me c.a)).Rm.length:Int)-1)then(2,0,p)else
  bif c.so==7 then(0,nth (nth p.heap.ag (dt p.heap.ag now me c.a)).Rm c.b,p)else
  bif !dy c.c 0 999 then(2,0,p)else(0,0,Ny p (dt p.heap.ag now me c.a) c.b c.c)
theorem DI{α:Type}{l:List α}(h:l.length<dg):i64.wrap ((l.length:Int)-1)=(l.length:Int)-1:=by
  have:l.length<16777216:=h;exact dE (by omega) (by omega)
theorem FB{o:cd}(h:dA o<=12):o.Rm.length<dg:=by
  have hB:(16777216:Nat)=dg:=rfl;unfold dA at h;omega
theorem K2{N:Nat}(hN:dg<=N){p:bh}(hp:hD p)(me now th:Int)(c:dG):lP N (dN.mk p me now th) c=some ((eZ p me now c).1,(eZ p me now c).2.1,dN.mk (eZ p me now c).2.2 me now th):=by
  have h4:=hp.b4;unfold lP eZ;simp only[xq hN,h4,kq,RB,v8,vD,wG];cases q2:eM p.heap.ag now me c.a 2 != 0
  case true=>rfl
  have q2':=fp q2;obtain⟨ar,g0,g9,gk,_⟩:=gL q2';simp only[RE,RC,q2',beq_self_eq_true,RD];generalize dt p.heap.ag now me c.a=i at *;have ho:=nm ar g0 g9;simp only[(ar.at g0 g9).1,RB,DI (FB ho)];cases q3:dy c.b 0 (((nth p.heap.ag i).Rm.length:Int)-1)
  · rfl
  have hd:idx (nth p.heap.ag i).Rm c.b=some (nth (nth p.heap.ag i).Rm c.b):=by
    rw[dI]at q3;exact eU q3.1 (by omega)
  simp only[RE,RC,hd,RB];cases c.so==7
  · cases dy c.c 0 999<;>rfl
  · rfl
theorem Lo{N:Nat}(hN:dg<=N){p:bh}(hp:hD p)(me now:Int){c:dG}(hc:(c.so==1)=false)(hk:(c.so==6)=!(c.so==7)):nY N p me now c=some (fin c p (eZ p me now c)):=by
  have h4:=hp.b4;unfold nY eZ;simp only[Bg hN h4 hp.w _ _ _ (show(0:Int)<2 by decide),jK,RB];cases q2:eM p.heap.ag now me c.a 2 != 0
  case true=>simp only[RD,j5 q2 hc]
  have q2':=fp q2;obtain⟨ar,g0,g9,gk,_⟩:=gL q2';simp only[RE,RC,q2',beq_self_eq_true,RD];generalize dt p.heap.ag now me c.a=i at *;have ho:=nm ar g0 g9;simp only[(ar.at g0 g9).1,RB,DI (FB ho)];cases q3:dy c.b 0 (((nth p.heap.ag i).Rm.length:Int)-1)
  · simp only[Bool.not_false,RD,RB,j5 (show((2:Int) != 0)=true from rfl) hc]
  have hd:idx (nth p.heap.ag i).Rm c.b=some (nth (nth p.heap.ag i).Rm c.b):=by
    rw[dI]at q3;exact eU q3.1 (by omega)
  rw[hk];simp only[RE,RC,hd,RB];cases c.so==7
  · cases dy c.c 0 999
    · simp only[Bool.not_false,RD,RC,RB,j5 (show((2:Int) != 0)=true from rfl) hc]
    · rfl
  · rfl
def jw(p:bh)(f:Int)(a:de):Bool:=(eI p.Rh f a).2&&(gn p.db (de.mk 0 a.dh 0)).2
def nU(p:bh)(f:Int)(a:de):bh:=bh.mk p.Rg p.own (eI p.Rh f a).1 p.heap p.dc p.Rr p.Rq (gn p.db (de.mk 0 a.dh 0)).1 p.dx p.Rp
theorem CF(p:bh)(f:Int)(a:de):(nU p f a).heap=p.heap:=rfl
theorem hD.b3{p:bh}(h:hD p):p.Rh.length<dg:=(gO (p:=p) (Nat.lt_of_le_of_lt h.sz (by decide))).2.2.1
theorem MQ{N:Nat}(hN:dg<=N){x:dN}(hB:x.py.Rh.length<dg)(f:Int)(a:de):mw N x f a=some (jw x.py f a,bif jw x.py f a then dN.mk (nU x.py f a) x.me x.Rn x.dS else x):=by
  unfold mw jw;simp only[uD hN hB,FD,RB,gX];cases(eI x.py.Rh f a).2<;>cases(gn x.py.db (de.mk 0 a.dh 0)).2<;>rfl
def ic(p:bh)(me now:Int)(c:dG):Int×Int×bh :=
  bif eM p.heap.ag now me c.a 0 != 0 then(eM p.heap.ag now me c.a 0,0,p)else
  bif(dt p.heap.ag now me c.a==0) || (!dy c.b 1 1000 || decide (i64.wrap ((nth p.heap.ag (dt p.heap.ag now me c.a)).dV+c.b)>1000000))then(2,0,p)else
  bif !jw p (iq p (nth p.heap.ag (dt p.heap.ag now me c.a)).Rx) (de.mk 0 (i64.wrap ((nth p.heap.ag (dt p.heap.ag now me c.a)).c6*c.b)) 0)then(6,0,p)else
  (0,0,jy (nU p (iq p (nth p.heap.ag (dt p.heap.ag now me c.a)).Rx) (de.mk 0 (i64.wrap ((nth p.heap.ag (dt p.heap.ag now me c.a)).c6*c.b)) 0)) (p.heap.ag.set (dt p.heap.ag now me c.a).toNat (k6 (nth p.heap.ag (dt p.heap.ag now me c.a)) (i64.wrap ((nth p.heap.ag (dt p.heap.ag now me c.a)).dV+c.b)))))
theorem NQ{N:Nat}(hN:dg<=N){p:bh}(hp:hD p)(me now th:Int)(c:dG):mG N (dN.mk p me now th) c=some ((ic p me now c).1,dN.mk (ic p me now c).2.2 me now th):=by
  have h4:=hp.b4;have h3:=hp.b3;unfold mG ic;simp only[xq hN,h4,kq,RB,v8,vD,wG];cases q2:eM p.heap.ag now me c.a 0 != 0
  case true=>rfl
  have q2':=fp q2;obtain⟨ar,g0,g9,gk,_⟩:=gL q2';simp only[RE,RC,q2',beq_self_eq_true,RD];generalize dt p.heap.ag now me c.a=i at *;simp only[(ar.at g0 g9).1,RB,gX,BW hN,MQ hN,h3];cases((i==0) || (!dy c.b 1 1000 || decide (i64.wrap ((nth p.heap.ag i).dV+c.b)>1000000)))
  · cases jw p (iq p (nth p.heap.ag i).Rx) (de.mk 0 (i64.wrap ((nth p.heap.ag i).c6*c.b)) 0)<;>rfl
  · rfl
theorem NN{N:Nat}(hN:dg<=N){p:bh}(hp:hD p)(me now:Int){c:dG}(hc:(c.so==1)=false):qa N p me now c=some (fin c p (ic p me now c)):=by
  have h4:=hp.b4;have h3:=hp.b3;unfold qa ic;simp only[A2 hN h4 hp.w,jK,RB];cases q2:eM p.heap.ag now me c.a 0 != 0
  case true=>simp only[RD,j5 q2 hc]
  have q2':=fp q2;obtain⟨ar,g0,g9,gk,_⟩:=gL q2';simp only[RE,RC,q2',beq_self_eq_true,RD];generalize dt p.heap.ag now me c.a=i at *;simp only[(ar.at g0 g9).1,RB,gX,xh hN,sR hN h3,wm];cases((i==0) || (!dy c.b 1 1000 || decide (i64.wrap ((nth p.heap.ag i).dV+c.b)>1000000)))
  · unfold jw;cases(eI p.Rh (iq p (nth p.heap.ag i).Rx) (de.mk 0 (i64.wrap ((nth p.heap.ag i).c6*c.b)) 0)).2<;>cases(gn p.db (de.mk 0 (i64.wrap ((nth p.heap.ag i).c6*c.b)) 0)).2<;>simp only[RE,Bool.not_false,Bool.and_self,Bool.and_false,Bool.false_and,Bool.or_self,Bool.or_true,Bool.true_or,Bool.false_or,Bool.or_false,RF,Bool.and_true,RD,RC,j5 (show((6:Int) != 0)=true from rfl) hc,uM]
    rfl
  · simp only[RD,j5 (show((2:Int) != 0)=true from rfl) hc]
def kp(p:bh)(c:dG):Int×Int×bh :=
  bif c.so==9 then
    bif !dy c.a 0 4 || !dT (de.mk c.b c.c c.d)then(2,0,p)else
    bif !(iE p.Rh c.a (de.mk c.b c.c c.d)).2.2 then(6,0,p)else(0,(iE p.Rh c.a (de.mk c.b c.c c.d)).2.1,vN p (iE p.Rh c.a (de.mk c.b c.c c.d)).1)
  else bif c.so==10 then
    bif !dy c.a 0 4 || (!dy c.b 0 4 || (!dy c.c 0 2 || !uW c.d))then(2,0,p)else
    bif !(ju p.Rh c.a c.b (iA c.c c.d)).2 then(6,0,p)else(0,0,vN p (ju p.Rh c.a c.b (iA c.c c.d)).1)
  else bif !(jo p.Rh c.a).2 then(2,0,p)else(0,0,vN p (jo p.Rh c.a).1)
theorem Lp{N:Nat}(hN:dg<=N){p:bh}(hp:hD p)(me now th:Int)(c:dG):lM N (dN.mk p me now th) c=some ((kp p c).1,(kp p c).2.1,dN.mk (kp p c).2.2 me now th):=by
  have h3:=hp.b3;unfold lM kp;simp only[uY,pD,kq,BH,xI,Ga hN h3,Jw hN h3,I2 hN h3,RB,gX];cases c.so==9
  · cases c.so==10
    · cases(jo p.Rh c.a).2<;>rfl
    · cases(!dy c.a 0 4 || (!dy c.b 0 4 || (!dy c.c 0 2 || !uW c.d)))
      · cases(ju p.Rh c.a c.b (iA c.c c.d)).2<;>rfl
      · rfl
  · cases(!dy c.a 0 4 || !dT (de.mk c.b c.c c.d))
    · cases(iE p.Rh c.a (de.mk c.b c.c c.d)).2.2<;>rfl
    · rfl
theorem P6{N:Nat}(hN:dg<=N){p:bh}(hp:hD p){c:dG}(hc:(c.so==1)=false):tI N p c=some (fin c p (kp p c)):=by
  have h3:=hp.b3;have n2:=fun q=>j5 (p:=p) (q:=q) (v:=0) (show((2:Int) != 0)=true from rfl) hc;have n6:=fun q=>j5 (p:=p) (q:=q) (v:=0) (show((6:Int) != 0)=true from rfl) hc;unfold tI kp;simp only[vy,pC,jK,Qh,FP,GK hN h3,IJ hN h3,Ii hN h3,RB,gX];cases c.so==9
  · cases c.so==10
    · cases(jo p.Rh c.a).2
      · simp only[Bool.not_false,RD,RC,n2]
      · rfl
    · cases(!dy c.a 0 4 || (!dy c.b 0 4 || (!dy c.c 0 2 || !uW c.d)))
      · cases(ju p.Rh c.a c.b (iA c.c c.d)).2
        · simp only[Bool.not_false,RD,RC,n6]
        · rfl
      · simp only[RD,RC,n2]
  · cases(!dy c.a 0 4 || !dT (de.mk c.b c.c c.d))
    · cases(iE p.Rh c.a (de.mk c.b c.c c.d)).2.2
      · simp only[Bool.not_false,RD,RC,n6]
      · rfl
    · simp only[RD,n2]
def tV(p:bh)(th a:Int):Int×Int×bh :=
  bif a==0 then(0,(nth p.heap.ag th).ef,p)else bif a==1 then(0,(nth p.heap.ag th).eh,p)else
  bif(a==2) || ((a==3) || (a==4))then(0,iW (sc p th) (i64.wrap (a-2)),p)else(2,0,p)
theorem Bv(a b c:Bool):(bif a then some a else bif b then some b else some c)=some (a || (b || c)):=by cases a<;>cases b<;>rfl
theorem OZ(a b:Bool):(bif a then some a else some b)=some (a || b):=by cases a<;>rfl
theorem OD{N:Nat}(hN:dg<=N){p:bh}(hp:hD p)(me now:Int){th:Int}(h0:0<=th)(h9:th<=9)(a:Int):m7 N (dN.mk p me now th) a=some ((tV p th a).1,(tV p th a).2.1,dN.mk (tV p th a).2.2 me now th):=by
  unfold m7 tV;simp only[(hp.ar.at h0 h9).1,zE hN hp.ok h0 h9,CC,RB,Bv];cases a==0
  · cases a==1
    · cases(a==2) || ((a==3) || (a==4))<;>rfl
    · rfl
  · rfl
theorem OT{N:Nat}(hN:dg<=N){p:bh}(hp:hD p){th:Int}(h0:0<=th)(h9:th<=9){c:dG}(hc:(c.so==1)=false):rU N p th c=some (fin c p (tV p th c.a)):=by
  unfold rU tV;obtain⟨r0,r4⟩:=sK p (nth p.heap.ag th).Rx;simp only[(hp.ar.at h0 h9).1,xh hN,w9 hp.ok r0 r4,Cs,RB,Bv,O1];cases c.a==0
  · cases c.a==1
    · cases(c.a==2) || ((c.a==3) || (c.a==4))
      · simp only[RC,j5 (show((2:Int) != 0)=true from rfl) hc]
      · rfl
    · rfl
  · rfl
theorem DT{l:List cd}{o:cd}:∀(m:List cd) (k:Nat),qN l o k m=(l, -1)\/∃(j:Nat) (g:Int),j<k+m.length/\qN l o k m=(l.set j (gv o g),(j:Int))/\fT (l.set j (gv o g))=true
  | [],k=>.inl rfl
  | x::m,k=>by
    unfold qN;split
    · rcases DT (l:=l) (o:=o) m (k+1)with h|⟨j,g,h1,h2,h3⟩
      · exact .inl h
      · exact .inr ⟨j,g,by simp only[List.length_cons];omega,h2,h3⟩
    · unfold putAt;split
      · rename_i q;simp only[RG]at q;exact .inr ⟨k,_,by simp,rfl,q.1⟩
      · exact .inl rfl
theorem w6{l:List cd}{o:cd}(h:decide ((hO l o).2<0)=false):∃(j:Nat) (g:Int),hO l o=(l.set j (gv o g),(j:Int))/\Ar (l.set j (gv o g))/\j<10:=by
  unfold hO at *;cases ha:fT l
  · rw[ha]at h;simp at h
  · rw[ha]at h;simp only[if_true]at *;have hl:=(fu.1 ha).len
    rcases DT (l:=l) (o:=o) (l.drop 1) 1 with e|⟨j,g,h1,h2,h3⟩
    · rw[e]at h;simp at h
    · exact⟨j,g,h2,fu.1 h3,by simp only[List.length_drop]at h1;omega⟩
def newObj(now box:Int)(c:dG):cd:=cd.mk 0 c.a box c.e (i64.wrap (now+c.d)) c.c 0 0 0 false [-1, -1] (bif c.a==2 then List.replicate c.c.toNat 0 else[]) []
def mV(now:Int)(c:dG):Bool:=!dy c.a 1 4 || (!dy c.c 0 8 || (!dy c.d 1 1000 || (decide (i64.wrap (now+c.d)>1000000) || !dy c.e 0 4)))
def cost(c:dG):de:=de.mk c.c (i64.wrap (c.c*c.d)) 0
def ji(p:bh)(me now:Int)(c:dG):Int×Int×bh :=
  bif mV now c then(2,0,p)else
  bif eM p.heap.ag now me c.b 1 != 0 then(eM p.heap.ag now me c.b 1,0,p)else
  bif !jw p c.e (cost c)then(6,0,p)else
  bif decide ((hO p.heap.ag (newObj now (dt p.heap.ag now me c.b) c)).2<0)then(7,0,nU p c.e (cost c))else
  (0,ga me (hO p.heap.ag (newObj now (dt p.heap.ag now me c.b) c)).2 (nth (hO p.heap.ag (newObj now (dt p.heap.ag now me c.b) c)).1 (hO p.heap.ag (newObj now (dt p.heap.ag now me c.b) c)).2).Rt,
    mA (nU p c.e (cost c)) (j6 (df.mk (hO p.heap.ag (newObj now (dt p.heap.ag now me c.b) c)).1 p.heap.gc) (hO p.heap.ag (newObj now (dt p.heap.ag now me c.b) c)).2))
theorem uv{now:Int}{c:dG}(h:mV now c=false):0<=c.c/\c.c<=8:=by
  unfold mV at h;simp only[Bool.or_eq_false_iff,Bool.not_eq_false']at h;exact dI.1 h.2.1
theorem yi{now box:Int}{c:dG}(h:0<=c.c/\c.c<=8):dA (newObj now box c)<=100:=by
  unfold dA newObj;cases c.a==2
  · simp
  · simp only[RD,List.length_replicate,List.length_cons,List.length_nil];omega
theorem Ak(now box:Int)(c:dG):mK (newObj now box c):=by show(-9223372036854775808:Int)<=0;decide
theorem Pu{c:Int}(h:0<=c/\c<=8):mk Int c=some (List.replicate c.toNat 0):=by
  have hB:(16777216:Nat)=dg:=rfl;unfold mk;rw[if_pos ⟨h.1,by omega⟩];rfl
theorem MR(a b c d e:Bool):(bif a then some true else bif b then some true else bif c then some true else bif d then some true else some e)=some (a || (b || (c || (d || e)))):=by cases a<;>cases b<;>cases c<;>cases d<;>rfl
theorem Pt{N:Nat}(hN:dg+1<=N){p:bh}(hp:hD p)(me now th:Int)(c:dG):na N (dN.mk p me now th) c=some ((ji p me now c).1,(ji p me now c).2.1,dN.mk (ji p me now c).2.2 me now th):=by
  have hN':dg<=N:=Nat.le_of_succ_le hN;have h4:=hp.b4;have h3:=hp.b3;have h5:=hp.b5;unfold na ji;simp only[xq hN',h4,kq,uY,RB,v8,vD,wG,MR];rw[show(!dy c.a 1 4 || (!dy c.c 0 8 || (!dy c.d 1 1000 || (decide (i64.wrap (now+c.d)>1000000) || !dy c.e 0 4))))=mV now c from rfl];cases q1:mV now c
  case true=>rfl
  have hc:=uv q1;cases q2:eM p.heap.ag now me c.b 1 != 0
  case true=>rfl
  have q2':=fp q2;simp only[RC,RD,q2',beq_self_eq_true];generalize dt p.heap.ag now me c.b=box;rw[show de.mk c.c (i64.wrap (c.c*c.d)) 0=cost c from rfl];simp only[MQ hN' (x:=dN.mk p me now th) h3,RB];cases q3:jw p c.e (cost c)
  · rfl
  simp only[RE,RC,RD,Pu hc,RB,CF];rw[show(bif c.a==2 then some (List.replicate c.c.toNat 0)else some ([]:List Int))=some (bif c.a==2 then List.replicate c.c.toNat 0 else[]) from oq _ _ _];simp only[RB];rw[show cd.mk 0 c.a box c.e (i64.wrap (now+c.d)) c.c 0 0 0 false [-1, -1] (bif c.a==2 then List.replicate c.c.toNat 0 else[]) []=newObj now box c from rfl];have ho:=yi (now:=now) (box:=box) hc;rw[A3 hN h4 (o:=newObj now box c) (by omega)];simp only[RB];cases q4:decide ((hO p.heap.ag (newObj now box c)).2<0)
  case true=>rfl
  obtain⟨j,g,e,ar,hj⟩:=w6 q4;have h1:=ar.sz;have hB:(16777216:Nat)=dg:=rfl;rw[e];simp only[RC,(ar.at (i:=(j:Int)) (by omega) (by omega)).1,RB,Bc];rw[D0 hN' (h:=df.mk (p.heap.ag.set j (gv (newObj now box c) g)) p.heap.gc) (by show eQ dA (p.heap.ag.set j (gv (newObj now box c) g))<dg;omega) (by show p.heap.gc.da.length<dg;omega)];rfl
theorem Eu(l:List cd)(now me h k:Int):(eM l now me h k==6)=false/\(eM l now me h k==7)=false:=by
  unfold eM;cases kP h
  · exact⟨rfl,rfl⟩
  cases iU h != me
  case true=>exact⟨rfl,rfl⟩
  cases decide (dt l now me h<0)
  case true=>exact⟨rfl,rfl⟩
  cases(k != 0)&&((nth l (dt l now me h)).so != k)<;>exact⟨rfl,rfl⟩
theorem D2{c:dG}{p q:bh}{k v:Int}(h:(k != 0)=true)(h6:(k==6)=false)(h7:(k==7)=false):fin c p (k,v,q)=(p,dD.mk k 0):=by
  unfold fin
  have:(k==0)=false:=by simpa[bne]using h
  rw[this];simp only[RC,h6,h7,Bool.or_self,Bool.and_false]
theorem Cz{c:dG}{p q:bh}{k v:Int}(h:(k != 0)=true)(h6:((k==6) || (k==7))=true)(hc:(c.so==1)=true):fin c p (k,v,q)=(B0 p,dD.mk k 0):=by
  unfold fin
  have:(k==0)=false:=by simpa[bne]using h
  rw[this];simp only[RC,h6,hc,Bool.and_self,RD]
theorem Pn{N:Nat}(hN:dg<=N){p:bh}(hp:hD p)(me now:Int){c:dG}(hc1:(c.so==1)=true):r9 N p me now c=some (fin c p (ji p me now c)):=by
  have h4:=hp.b4;have h3:=hp.b3;have h5:=hp.b5;unfold r9 ji;simp only[Bg hN h4 hp.w _ _ _ (show(0:Int)<1 by decide),jK,vy,RB,MR];rw[show(!dy c.a 1 4 || (!dy c.c 0 8 || (!dy c.d 1 1000 || (decide (i64.wrap (now+c.d)>1000000) || !dy c.e 0 4))))=mV now c from rfl];cases q1:mV now c
  case true=>simp only[RD,D2 (show((2:Int) != 0)=true from rfl) rfl rfl]
  have hc:=uv q1;cases q2:eM p.heap.ag now me c.b 1 != 0
  case true=>simp only[RD,RC,D2 q2 (Eu _ _ _ _ _).1 (Eu _ _ _ _ _).2]
  have q2':=fp q2;simp only[RC,RD,q2',beq_self_eq_true];generalize dt p.heap.ag now me c.b=box;rw[show de.mk c.c (i64.wrap (c.c*c.d)) 0=cost c from rfl];simp only[sR hN h3,wm,RB,gX];rw[show(!(eI p.Rh c.e (cost c)).2 || !(gn p.db (de.mk 0 (i64.wrap (c.c*c.d)) 0)).2)=!jw p c.e (cost c) by unfold jw;rw[Bool.not_and];rfl];cases q3:jw p c.e (cost c)
  · simp only[Bool.not_false,RD,Cz (show((6:Int) != 0)=true from rfl) rfl hc1];rfl
  simp only[RE,RC,RD,Pu hc,RB];rw[show(bif c.a==2 then some (List.replicate c.c.toNat 0)else some ([]:List Int))=some (bif c.a==2 then List.replicate c.c.toNat 0 else[]) from oq _ _ _];simp only[RB];rw[show cd.mk 0 c.a box c.e (i64.wrap (now+c.d)) c.c 0 0 0 false [-1, -1] (bif c.a==2 then List.replicate c.c.toNat 0 else[]) []=newObj now box c from rfl];have ho:=yi (now:=now) (box:=box) hc;rw[Bw hN h4 hp.w (o:=newObj now box c) (by omega) (Ak _ _ _)];simp only[RB];cases q4:decide ((hO p.heap.ag (newObj now box c)).2<0)
  case true =>
    simp only[RD,Cz (show((7:Int) != 0)=true from rfl) rfl hc1];rfl
  obtain⟨j,g,e,ar,hj⟩:=w6 q4;have h1:=ar.sz;have hB:(16777216:Nat)=dg:=rfl;have hw':wA (p.heap.ag.set j (gv (newObj now box c) g)):=iS hp.w (Az (Ak _ _ _));rw[e];simp only[RC,(ar.at (i:=(j:Int)) (by omega) (by omega)).1,RB,tb];rw[D5 hN (h:=df.mk (p.heap.ag.set j (gv (newObj now box c) g)) p.heap.gc) (by show eQ dA (p.heap.ag.set j (gv (newObj now box c) g))<dg;omega) (by show p.heap.gc.da.length<dg;omega) hw'];rfl
def te(l:List cd)(k w b:Int):List cd:=bif decide (k>=0)&&((nth l k).Ro==w)then(l.set k.toNat (waiting (nth l k) 0)).set k.toNat (xx (nth (l.set k.toNat (waiting (nth l k) 0)) k) b)else l
theorem CR{l:List cd}{k w b:Int}(h:0<=k->k<(l.length:Int)){β:Type}(f:List cd->Option β):
    ((bif decide (k>=0)then((idx l k).bind fun y=>some (y.Ro==w))else(some false):Option Bool).bind fun j=>(bif j then((idx l k).bind fun y=>(some (l.set (k:Int).toNat (waiting y 0))).bind fun z=>(idx z k).bind fun x=>(some (z.set (k:Int).toNat (xx x b))).bind fun v=>some v)else(some l):Option (List cd)).bind f)=f (te l k w b):=by
  unfold te;cases hk:decide (k>=0)
  · rfl
  have k0:0<=k:=by simpa using hk
  have e:=eU k0 (h k0);have e2:∀z,idx (l.set k.toNat z) k=some (nth (l.set k.toNat z) k):=fun z=>eU k0 (by simp only[List.length_set];exact h k0);simp only[RD,e,e2,RB,RF];cases(nth l k).Ro==w<;>rfl
def asked(l:List cd)(g me th:Int)(c:dG):List cd:=l.set g.toNat (kZ (nth l g) ((nth l g).Ri++[eR.mk (ga me th (nth l th).Rt) c.b]))
def served(l:List cd)(g:Int):List cd:=l.set g.toNat (kZ (nth l g) ((nth l g).Ri.drop 1))
def jb(p:bh)(me now th:Int)(c:dG):Int×Int×bh :=
  bif eM p.heap.ag now me c.a 3 != 0 then(eM p.heap.ag now me c.a 3,0,p)else
  bif !dy c.b 0 999 then(2,0,p)else
  bif c.so==12 then
    bif decide (((nth p.heap.ag (dt p.heap.ag now me c.a)).Ri.length:Int)>=2)then(8,0,p)else
    (0,0,jy p ((asked p.heap.ag (dt p.heap.ag now me c.a) me th c).set th.toNat (waiting (nth (asked p.heap.ag (dt p.heap.ag now me c.a) me th c) th) (i64.wrap (c.a+1)))))
  else
    bif((nth p.heap.ag (dt p.heap.ag now me c.a)).Ri.length:Int)==0 then(8,0,p)else
    (0,(nth (nth p.heap.ag (dt p.heap.ag now me c.a)).Ri 0).n,jy p (te (served p.heap.ag (dt p.heap.ag now me c.a)) (dt (served p.heap.ag (dt p.heap.ag now me c.a)) now me (nth (nth p.heap.ag (dt p.heap.ag now me c.a)).Ri 0).RA) (i64.wrap (c.a+1)) c.b))
theorem At{α:Type}{l:List α}{k:Nat}(h:k<=l.length):sub l (k:Int) (l.length:Int)=some (l.drop k):=by
  unfold sub;rw[if_pos ⟨by omega,by omega,by omega⟩];simp only[Int.toNat_natCast];rw[List.take_of_length_le (by simp)]
theorem zi{o:cd}(h:dA o<=12):o.Ri.length<=12:=by unfold dA at h;omega
theorem Da{o:cd}{q:List eR}(h:dA o<=12)(hq:q.length<=20):dA (kZ o q)<=100000:=by
  unfold dA at h;unfold dA kZ;simp only;omega
theorem pt{l:List cd}{now me h:Int}(hl:l.length=10)(h0:0<=dt l now me h):dt l now me h<(l.length:Int):=by
  obtain⟨_,_,h9,_⟩:=xj (l:=l) (now:=now) (me:=me) (h:=h) (decide_eq_false (by omega));omega
theorem Pe{N:Nat}(hN:dg<=N){p:bh}(hp:hD p)(me now:Int){th:Int}(t0:0<=th)(t9:th<=9){c:dG}(hk:(c.so==13)=!(c.so==12)):nv N (dN.mk p me now th) c=some ((jb p me now th c).1,(jb p me now th c).2.1,dN.mk (jb p me now th c).2.2 me now th):=by
  have h4:=hp.b4;unfold nv jb;simp only[xq hN,h4,kq,RB,v8,vD,wG];cases q2:eM p.heap.ag now me c.a 3 != 0
  case true=>rfl
  have q2':=fp q2;obtain⟨ar,g0,g9,gk,_⟩:=gL q2';simp only[RE,RC,q2',beq_self_eq_true,RD];generalize dt p.heap.ag now me c.a=i at *;have ho:=nm ar g0 g9;have hq:=zi ho;have hl:=ar.len;have hB:(16777216:Nat)=dg:=rfl;simp only[(ar.at g0 g9).1,(ar.at t0 t9).1,RB];cases q3:dy c.b 0 999
  · rfl
  rw[hk];cases q4:c.so==12
  · simp only[RE,Bool.not_false,RC,RD,RB];cases q5:((nth p.heap.ag i).Ri.length:Int)==0
    case true=>rfl
    have l1:1<=(nth p.heap.ag i).Ri.length:=by rw[beq_eq_false_iff_ne]at q5;omega
    have hsub:sub (nth p.heap.ag i).Ri 1 ((nth p.heap.ag i).Ri.length:Int)=some ((nth p.heap.ag i).Ri.drop 1):=At l1;have happ:app ([]:List eR) ((nth p.heap.ag i).Ri.drop 1)=some ((nth p.heap.ag i).Ri.drop 1):=fX (by simp only[List.length_drop];omega);have hi0:idx (nth p.heap.ag i).Ri 0=some (nth (nth p.heap.ag i).Ri 0):=eU (i:=0) (by decide) (by omega);simp only[RC,hsub,happ,hi0,RB];have hs:eQ dA (p.heap.ag.set i.toNat (kZ (nth p.heap.ag i) ((nth p.heap.ag i).Ri.drop 1)))<dg:=zv ar (Da ho (by simp only[List.length_drop];omega));have e1:=vk hN hs now me (nth (nth p.heap.ag i).Ri 0).RA;unfold kZ at e1;rw[e1,RB];exact CR (l:=served p.heap.ag i) (pt (by unfold served;simp only[List.length_set];exact hl)) fun z=>some ((0:Int),(nth (nth p.heap.ag i).Ri 0).n,dN.mk (jy p z) me now th)
  · simp only[RE,Bool.not_false,RC,RD,RB,gX,Bool.or_false];cases q5:decide (((nth p.heap.ag i).Ri.length:Int)>=2)
    case true=>rfl
    have happ:∀m,app (nth p.heap.ag i).Ri [m]=some ((nth p.heap.ag i).Ri++[m]):=fun m=>gE hq (by omega);have e2:∀z,idx (p.heap.ag.set i.toNat z) th=some (nth (p.heap.ag.set i.toNat z) th):=fun z=>eU t0 (by simp only[List.length_set];omega);simp only[RC,Bc,happ,e2,RB];rfl
theorem Pv{N:Nat}(hN:dg<=N){p:bh}(hp:hD p)(me now:Int){th:Int}(t0:0<=th)(t9:th<=9){c:dG}(hc:(c.so==1)=false):rz N p me now th c=some (fin c p (jb p me now th c)):=by
  have h4:=hp.b4;unfold rz jb;simp only[Bg hN h4 hp.w _ _ _ (show(0:Int)<3 by decide),jK,RB];cases q2:eM p.heap.ag now me c.a 3 != 0
  case true=>simp only[RD,j5 q2 hc]
  have q2':=fp q2;obtain⟨ar,g0,g9,gk,_⟩:=gL q2';simp only[RE,RC,q2',beq_self_eq_true,RD];generalize dt p.heap.ag now me c.a=i at *;have ho:=nm ar g0 g9;have hq:=zi ho;have hl:=ar.len;have hB:(16777216:Nat)=dg:=rfl;simp only[(ar.at g0 g9).1,(ar.at t0 t9).1,RB];cases q3:dy c.b 0 999
  · simp only[Bool.not_false,RD,j5 (show((2:Int) != 0)=true from rfl) hc]
  cases q4:c.so==12
  · simp only[RE,Bool.not_false,RC,RD,RB];cases q5:((nth p.heap.ag i).Ri.length:Int)==0
    case true=>simp only[RD,j5 (show((8:Int) != 0)=true from rfl) hc]
    have l1:1<=(nth p.heap.ag i).Ri.length:=by rw[beq_eq_false_iff_ne]at q5;omega
    have hsub:sub (nth p.heap.ag i).Ri 1 ((nth p.heap.ag i).Ri.length:Int)=some ((nth p.heap.ag i).Ri.drop 1):=At l1;have happ:app ([]:List eR) ((nth p.heap.ag i).Ri.drop 1)=some ((nth p.heap.ag i).Ri.drop 1):=fX (by simp only[List.length_drop];omega);have hi0:idx (nth p.heap.ag i).Ri 0=some (nth (nth p.heap.ag i).Ri 0):=eU (i:=0) (by decide) (by omega);simp only[RC,hsub,happ,hi0,RB,uM];have hs:eQ dA (p.heap.ag.set i.toNat (kZ (nth p.heap.ag i) ((nth p.heap.ag i).Ri.drop 1)))<dg:=zv ar (Da ho (by simp only[List.length_drop];omega));have hx:wA (p.heap.ag.set i.toNat (kZ (nth p.heap.ag i) ((nth p.heap.ag i).Ri.drop 1))):=iS hp.w (show mK (nth p.heap.ag i) from hp.w _ (ar.at g0 g9).2);have e1:=vt hN hs hx now me (nth (nth p.heap.ag i).Ri 0).RA;unfold kZ at e1;rw[e1,RB];exact CR (l:=served p.heap.ag i) (pt (by unfold served;simp only[List.length_set];exact hl)) fun z=>some (jy p z,dD.mk 0 (nth (nth p.heap.ag i).Ri 0).n)
  · simp only[RE,Bool.not_false,RC,RD,RB,gX,Bool.or_false];cases q5:decide (((nth p.heap.ag i).Ri.length:Int)>=2)
    case true=>simp only[RD,j5 (show((8:Int) != 0)=true from rfl) hc]
    have happ:∀m,app (nth p.heap.ag i).Ri [m]=some ((nth p.heap.ag i).Ri++[m]):=fun m=>gE hq (by omega);have hap0:app ([]:List eR) (nth p.heap.ag i).Ri=some (nth p.heap.ag i).Ri:=fX (by omega);have e2:∀z,idx (p.heap.ag.set i.toNat z) th=some (nth (p.heap.ag.set i.toNat z) th):=fun z=>eU t0 (by simp only[List.length_set];omega);simp only[RC,tb,hap0,happ,e2,RB,uM];rfl
def o7(p:bh)(c:dG):Int×Int×bh:=bif !dy c.a 0 ((p.dc.length:Int)-1)then(2,0,p)else(0,0,ue p (p.dc.take c.a.toNat++p.dc.drop (c.a.toNat+1)))
theorem Eh{α:Type}{l:List α}{i j:Int}(h0:0<=i)(h1:i<=j)(h2:j<=(l.length:Int)):sub l i j=some ((l.drop i.toNat).take (j.toNat-i.toNat)):=by
  unfold sub;rw[if_pos ⟨h0,h1,h2⟩]
theorem hD.b6{p:bh}(h:hD p):p.dc.length<dg:=(gO (p:=p) (Nat.lt_of_le_of_lt h.sz (by decide))).2.2.2.2.2
theorem K3{α:Type}{l:List α}(hl:l.length<dg){a:Int}(h:dy a 0 ((l.length:Int)-1)=true):i64.wrap (a+1)=a+1/\sub l 0 a=some (l.take a.toNat)/\sub l (a+1) (l.length:Int)=some (l.drop (a.toNat+1))/\∃m,sub l a (a+1)=some m:=by
  have hB:(16777216:Nat)=dg:=rfl;rw[dI]at h;refine⟨dE (by omega) (by omega),?_,?_,_,Eh h.1 (by omega) (by omega)⟩
  · rw[Eh (Int.le_refl 0) h.1 (by omega)];simp
  · rw[Eh (by omega) (by omega) (Int.le_refl _),show(a+1).toNat=a.toNat+1 by omega,List.take_of_length_le (by simp)]
theorem Fb(N:Nat){l:List ez}(hl:l.length<dg){a:Int}(h:dy a 0 ((l.length:Int)-1)=true):og N l a (i64.wrap (a+1))=some (l.take a.toNat++l.drop (a.toNat+1)):=by
  obtain⟨h1,h2,h3,m,h4⟩:=K3 hl h;unfold og
  have hne:(a==a+1)=false:=by rw[beq_eq_false_iff_ne];omega
  simp only[h1,h2,h3,h4,hne,RB,RC]
def gm(p:bh)(me now th:Int)(c:dG):Int×Int×bh :=
  bif c.so==1 then ji p me now c else bif(c.so==2) || (c.so==3)then jS p me now c else bif(c.so==4) || (c.so==5)then j7 p me now c else
  bif(c.so==6) || (c.so==7)then eZ p me now c else bif c.so==8 then ic p me now c else bif(c.so==9) || ((c.so==10) || (c.so==11))then kp p c else
  bif(c.so==12) || (c.so==13)then jb p me now th c else bif c.so==14 then tV p th c.a else bif c.so==15 then o7 p c else(2,0,p)
theorem BY(p:bh)(me now:Int)(c:dG):(jS p me now c).2.1=0/\bh.mk p.Rg p.own p.Rh (jS p me now c).2.2.heap p.dc (jS p me now c).2.2.Rr (jS p me now c).2.2.Rq (jS p me now c).2.2.db (jS p me now c).2.2.dx (jS p me now c).2.2.Rp=(jS p me now c).2.2:=by
  unfold jS;cases !dy c.b 0 1
  · cases eM p.heap.ag now me c.a 0 != 0
    · cases(c.so==2)&&(eM p.heap.ag now me c.c 0 != 0)<;>exact⟨rfl,rfl⟩
    · exact⟨rfl,rfl⟩
  · exact⟨rfl,rfl⟩
theorem Cc(p:bh)(me now:Int)(c:dG):(j7 p me now c).2.1=0/\bh.mk p.Rg p.own p.Rh (j7 p me now c).2.2.heap p.dc (j7 p me now c).2.2.Rr (j7 p me now c).2.2.Rq (j7 p me now c).2.2.db (j7 p me now c).2.2.dx (j7 p me now c).2.2.Rp=(j7 p me now c).2.2:=by
  unfold j7;cases eM p.heap.ag now me c.a 0 != 0
  · cases dt p.heap.ag now me c.a==0
    · cases(c.so==4)&&(eM p.heap.ag now me c.b 1 != 0)<;>exact⟨rfl,rfl⟩
    · exact⟨rfl,rfl⟩
  · exact⟨rfl,rfl⟩
theorem Hr(p:bh)(me now:Int)(c:dG):bh.mk p.Rg p.own p.Rh (df.mk (eZ p me now c).2.2.heap.ag (eS.mk (eZ p me now c).2.2.heap.gc.Rj (eZ p me now c).2.2.heap.gc.Rs (eZ p me now c).2.2.heap.gc.Rk p.heap.gc.da)) p.dc (eZ p me now c).2.2.Rr (eZ p me now c).2.2.Rq (eZ p me now c).2.2.db (eZ p me now c).2.2.dx (eZ p me now c).2.2.Rp=(eZ p me now c).2.2:=by
  unfold eZ;cases eM p.heap.ag now me c.a 2 != 0
  · cases !dy c.b 0 (((nth p.heap.ag (dt p.heap.ag now me c.a)).Rm.length:Int)-1)
    · cases c.so==7
      · cases !dy c.c 0 999<;>rfl
      · rfl
    · rfl
  · rfl
theorem AF(p:bh)(me now:Int)(c:dG):(ic p me now c).2.1=0/\bh.mk p.Rg p.own (ic p me now c).2.2.Rh (df.mk (ic p me now c).2.2.heap.ag (eS.mk (ic p me now c).2.2.heap.gc.Rj (ic p me now c).2.2.heap.gc.Rs (ic p me now c).2.2.heap.gc.Rk p.heap.gc.da)) p.dc (ic p me now c).2.2.Rr (ic p me now c).2.2.Rq (ic p me now c).2.2.db (ic p me now c).2.2.dx (ic p me now c).2.2.Rp=(ic p me now c).2.2:=by
  unfold ic;cases eM p.heap.ag now me c.a 0 != 0
  · cases(dt p.heap.ag now me c.a==0) || (!dy c.b 1 1000 || decide (i64.wrap ((nth p.heap.ag (dt p.heap.ag now me c.a)).dV+c.b)>1000000))
    · cases jw p (iq p (nth p.heap.ag (dt p.heap.ag now me c.a)).Rx) (de.mk 0 (i64.wrap ((nth p.heap.ag (dt p.heap.ag now me c.a)).c6*c.b)) 0)<;>exact⟨rfl,rfl⟩
    · exact⟨rfl,rfl⟩
  · exact⟨rfl,rfl⟩
theorem KF(p:bh)(c:dG):bh.mk p.Rg p.own (kp p c).2.2.Rh (df.mk p.heap.ag (eS.mk (kp p c).2.2.heap.gc.Rj (kp p c).2.2.heap.gc.Rs (kp p c).2.2.heap.gc.Rk p.heap.gc.da)) p.dc (kp p c).2.2.Rr (kp p c).2.2.Rq (kp p c).2.2.db (kp p c).2.2.dx (kp p c).2.2.Rp=(kp p c).2.2:=by
  unfold kp;cases c.so==9
  · cases c.so==10
    · cases !(jo p.Rh c.a).2<;>rfl
    · cases(!dy c.a 0 4 || (!dy c.b 0 4 || (!dy c.c 0 2 || !uW c.d)))
      · cases !(ju p.Rh c.a c.b (iA c.c c.d)).2<;>rfl
      · rfl
  · cases(!dy c.a 0 4 || !dT (de.mk c.b c.c c.d))
    · cases !(iE p.Rh c.a (de.mk c.b c.c c.d)).2.2<;>rfl
    · rfl
theorem Hp(p:bh)(me now th:Int)(c:dG):bh.mk p.Rg p.own p.Rh (df.mk (jb p me now th c).2.2.heap.ag (eS.mk (jb p me now th c).2.2.heap.gc.Rj (jb p me now th c).2.2.heap.gc.Rs (jb p me now th c).2.2.heap.gc.Rk p.heap.gc.da)) p.dc (jb p me now th c).2.2.Rr (jb p me now th c).2.2.Rq (jb p me now th c).2.2.db (jb p me now th c).2.2.dx (jb p me now th c).2.2.Rp=(jb p me now th c).2.2:=by
  unfold jb;cases eM p.heap.ag now me c.a 3 != 0
  · cases !dy c.b 0 999
    · cases c.so==12
      · cases((nth p.heap.ag (dt p.heap.ag now me c.a)).Ri.length:Int)==0<;>rfl
      · cases decide (((nth p.heap.ag (dt p.heap.ag now me c.a)).Ri.length:Int)>=2)<;>rfl
    · rfl
  · rfl
theorem HM(p:bh)(me now:Int)(c:dG):bh.mk p.Rg p.own (ji p me now c).2.2.Rh (ji p me now c).2.2.heap p.dc (ji p me now c).2.2.Rr (ji p me now c).2.2.Rq (ji p me now c).2.2.db (ji p me now c).2.2.dx (ji p me now c).2.2.Rp=(ji p me now c).2.2:=by
  unfold ji;cases mV now c
  · cases eM p.heap.ag now me c.b 1 != 0
    · cases !jw p c.e (cost c)
      · cases decide ((hO p.heap.ag (newObj now (dt p.heap.ag now me c.b) c)).2<0)<;>rfl
      · rfl
    · rfl
  · rfl
theorem vz(p:bh)(th a:Int):(tV p th a).2.2=p:=by
  unfold tV;cases a==0
  · cases a==1
    · cases(a==2) || ((a==3) || (a==4))<;>rfl
    · rfl
  · rfl
theorem J0{a m n:Int}(hne:m ≠ n)(h:((a==m) || (a==n))=true):(a==m)=!(a==n):=by
  simp only[Bool.or_eq_true,beq_iff_eq]at h
  rcases h with h|h
  · subst h
    have:(a==n)=false:=by rw[beq_eq_false_iff_ne];exact hne
    rw[this];simp
  · subst h
    have:(a==m)=false:=by rw[beq_eq_false_iff_ne];exact fun q=>hne q.symm
    rw[this];simp
theorem QJ{N:Nat}(hN:dg+1<=N){p:bh}(hp:hD p)(me now:Int){th:Int}(t0:0<=th)(t9:th<=9)(c:dG):oR N (dN.mk p me now th) c=some ((gm p me now th c).1,(gm p me now th c).2.1,dN.mk (gm p me now th c).2.2 me now th):=by
  have hN':dg<=N:=Nat.le_of_succ_le hN;unfold oR gm;simp only[Pt hN hp,On hN' hp,OR hN' hp,K2 hN' hp,NQ hN' hp,Lp hN' hp,OD hN' hp _ _ t0 t9,kq,RB,OZ,Bv,(BY p me now c).2,(Cc p me now c).2,Hr,(AF p me now c).2,KF,HM,vz,v8,vD,wG];cases c.so==1
  case true=>rfl
  cases(c.so==2) || (c.so==3)
  case true=>simp only[RC,RD,(BY p me now c).1]
  cases(c.so==4) || (c.so==5)
  case true=>simp only[RC,RD,(Cc p me now c).1]
  cases(c.so==6) || (c.so==7)
  case true=>rfl
  cases c.so==8
  case true=>simp only[RC,RD,(AF p me now c).1]
  cases(c.so==9) || ((c.so==10) || (c.so==11))
  case true=>rfl
  cases hg:(c.so==12) || (c.so==13)
  case true =>
    have:(c.so==13)=!(c.so==12):=by
      rw[Bool.or_comm]at hg;exact J0 (by decide) hg
    simp only[RC,RD,Pe hN' hp me now t0 t9 this,RB,Hp]
  cases c.so==14
  case true=>simp only[RC,RD,vz]
  cases c.so==15
  case false=>rfl
  have h6:=hp.b6;unfold o7;simp only[RC,RD,DI h6];cases hi:dy c.a 0 ((p.dc.length:Int)-1)
  · rfl
  simp only[RE,RC,Fb N h6 hi,RB];rfl
theorem qM{p:bh}{now th:Int}(h:iX p now th=true):dJ p=true/\0<=th/\th<=9:=by
  unfold iX at h;simp only[RG]at h;exact qS (now:=now) (by simpa using h.1)
def kh(p:bh)(me now th:Int)(c:dG):bh×dD :=
  bif !dJ p || (!dy me 0 2 || !dy now 0 1000000)then(p,dD.mk 2 0)else bif !iX p now th then(p,dD.mk 1 0)else fin c p (gm p me now th c)
theorem PY(p:bh)(me now th:Int)(c:dG):bh.mk p.Rg p.own (gm p me now th c).2.2.Rh (gm p me now th c).2.2.heap (gm p me now th c).2.2.dc (gm p me now th c).2.2.Rr (gm p me now th c).2.2.Rq (gm p me now th c).2.2.db (gm p me now th c).2.2.dx (gm p me now th c).2.2.Rp=(gm p me now th c).2.2:=by
  unfold gm;cases c.so==1
  case true=>rw[RD, <- HM]
  cases(c.so==2) || (c.so==3)
  case true=>rw[RC,RD, <- (BY p me now c).2]
  cases(c.so==4) || (c.so==5)
  case true=>rw[RC,RC,RD, <- (Cc p me now c).2]
  cases(c.so==6) || (c.so==7)
  case true=>rw[RC,RC,RC,RD, <- Hr]
  cases c.so==8
  case true=>rw[RC,RC,RC,RC,RD, <- (AF p me now c).2]
  cases(c.so==9) || ((c.so==10) || (c.so==11))
  case true=>simp only[RC,RD];rw[<- KF]
  cases(c.so==12) || (c.so==13)
  case true=>simp only[RC,RD];rw[<- Hp]
  cases c.so==14
  case true=>simp only[RC,RD,vz,wG]
  cases c.so==15
  case false=>rfl
  simp only[RC,RD];unfold o7;cases !dy c.a 0 ((p.dc.length:Int)-1)<;>rfl
theorem Jb{N:Nat}(hN:dg+1<=N){p:bh}(hb:dH p<=3000000)(hw:wP p)(me now th:Int)(c:dG):qf N p me now th c=some (kh p me now th c):=by
  have hN':dg<=N:=Nat.le_of_succ_le hN;have hB:dH p<dg:=Nat.lt_of_le_of_lt hb (by decide);unfold qf kh;simp only[sv hN' hB,x5,vF,oH hN' hB,C8 hN' hB,RB,gX];cases !dJ p || (!dy me 0 2 || !dy now 0 1000000)
  case true=>rfl
  cases hc:iX p now th
  · rfl
  obtain⟨ok,t0,t9⟩:=qM hc;simp only[RE,RC,QJ hN ⟨ok,hb,hw⟩ me now t0 t9,RB,PY,iI];unfold fin;cases(gm p me now th c).1==0
  · simp only[RC];cases(c.so==1)&&(((gm p me now th c).1==6) || ((gm p me now th c).1==7))<;>rfl
  · rfl
theorem CQ(p:bh)(me now:Int)(c:dG){β:Type}(x:Option β):kW p.Rg.Rf (fin c p (eZ p me now c)).1.Rg.Rf (kW p.own (fin c p (eZ p me now c)).1.own (kW p.Rh (fin c p (eZ p me now c)).1.Rh (kW p.heap.ag (fin c p (eZ p me now c)).1.heap.ag (kW p.heap.gc.da (fin c p (eZ p me now c)).1.heap.gc.da (kW p.dc (fin c p (eZ p me now c)).1.dc x)))))=x:=by
  have h:(eZ p me now c).2.2.Rg=p.Rg/\(eZ p me now c).2.2.own=p.own/\(eZ p me now c).2.2.Rh=p.Rh/\(eZ p me now c).2.2.heap.ag.length=p.heap.ag.length/\(eZ p me now c).2.2.heap.gc=p.heap.gc/\(eZ p me now c).2.2.dc=p.dc:=by
    unfold eZ;cases eM p.heap.ag now me c.a 2 != 0
    case true=>exact⟨rfl,rfl,rfl,rfl,rfl,rfl⟩
    cases !dy c.b 0 (((nth p.heap.ag (dt p.heap.ag now me c.a)).Rm.length:Int)-1)
    case true=>exact⟨rfl,rfl,rfl,rfl,rfl,rfl⟩
    cases c.so==7
    case true=>exact⟨rfl,rfl,rfl,rfl,rfl,rfl⟩
    cases !dy c.c 0 999
    case true=>exact⟨rfl,rfl,rfl,rfl,rfl,rfl⟩
    exact⟨rfl,rfl,rfl,List.length_set,rfl,rfl⟩
  have g:(fin c p (eZ p me now c)).1.Rg.Rf.length=p.Rg.Rf.length/\(fin c p (eZ p me now c)).1.own.length=p.own.length/\(fin c p (eZ p me now c)).1.Rh.length=p.Rh.length/\(fin c p (eZ p me now c)).1.heap.ag.length=p.heap.ag.length/\(fin c p (eZ p me now c)).1.heap.gc.da.length=p.heap.gc.da.length/\(fin c p (eZ p me now c)).1.dc.length=p.dc.length:=by
    unfold fin;cases(eZ p me now c).1==0
    · cases(c.so==1)&&(((eZ p me now c).1==6) || ((eZ p me now c).1==7))<;>exact⟨rfl,rfl,rfl,rfl,rfl,rfl⟩
    · simp only[RD];rw[h.1,h.2.1,h.2.2.1,h.2.2.2.2.1,h.2.2.2.2.2];exact⟨rfl,rfl,rfl,h.2.2.2.1,rfl,rfl⟩
  rw[qA g.1,qA g.2.1,qA g.2.2.1,qA g.2.2.2.1,qA g.2.2.2.2.1,qA g.2.2.2.2.2]
theorem Il{N:Nat}(hN:dg<=N){p:bh}(hb:dH p<=3000000)(hw:wP p)(me now th:Int)(c:dG):ql N p me now th c=some (kh p me now th c):=by
  have hB:dH p<dg:=Nat.lt_of_le_of_lt hb (by decide);unfold ql kh;simp only[sr hN hB hw,jK,pZ hN hB,CO hN hB hw,RB,gX,OZ,Bv];cases !dJ p || (!dy me 0 2 || !dy now 0 1000000)
  case true=>rfl
  cases hc:iX p now th
  · rfl
  obtain⟨ok,t0,t9⟩:=qM hc;have hp:hD p:=⟨ok,hb,hw⟩;simp only[RE,RC];unfold gm;cases hk:c.so==1
  case true=>simp only[RD,Pn hN hp me now hk,RB]
  simp only[RC];cases(c.so==2) || (c.so==3)
  case true=>simp only[RD,PL hN hp me now hk,RB]
  simp only[RC];cases(c.so==4) || (c.so==5)
  case true=>simp only[RD,Pg hN hp me now hk,RB]
  simp only[RC];cases hd:(c.so==6) || (c.so==7)
  case true =>
    simp only[RD,Lo hN hp me now hk (J0 (by decide) hd),RB]
    all_goals (rw[CQ];rfl)
  simp only[RC];cases c.so==8
  case true=>simp only[RD,NN hN hp me now hk,RB]
  simp only[RC];cases(c.so==9) || ((c.so==10) || (c.so==11))
  case true=>simp only[RD,P6 hN hp hk,RB]
  simp only[RC];cases(c.so==12) || (c.so==13)
  case true=>simp only[RD,Pv hN hp me now t0 t9 hk,RB]
  simp only[RC];cases c.so==14
  case true=>simp only[RD,OT hN hp t0 t9 hk,RB]
  simp only[RC];cases c.so==15
  case false=>simp only[RC,j5 (show((2:Int) != 0)=true from rfl) hk]
  have h6:=hp.b6;unfold o7;simp only[RD,DI h6];cases hi:dy c.a 0 ((p.dc.length:Int)-1)
  · simp only[Bool.not_false,RD,j5 (show((2:Int) != 0)=true from rfl) hk]
  obtain⟨h1,h2,h3,_⟩:=K3 h6 hi;have hB':(16777216:Nat)=dg:=rfl;have a1:app ([]:List ez) (p.dc.take c.a.toNat)=some (p.dc.take c.a.toNat):=fX (by simp only[List.length_take];omega)
  have a2:app (p.dc.take c.a.toNat) (p.dc.drop (c.a.toNat+1))=some (p.dc.take c.a.toNat++p.dc.drop (c.a.toNat+1)):=by
    unfold app;rw[if_pos (by simp only[List.length_take,List.length_drop];omega)]
  simp only[RE,RC,h1,h2,h3,a1,a2,RB,uM];rfl
structure qb (p q:bh):Prop where
  sz:dH q<=dH p+300
  w:wP q
  ln:q.heap.ag.length=p.heap.ag.length
theorem mX{p q:bh}(h1:q.Rg=p.Rg)(h2:q.own=p.own)(h3:q.Rh.length=p.Rh.length)(h4:eQ dA q.heap.ag<=eQ dA p.heap.ag+250)(h5:q.heap.gc.da.length<=p.heap.gc.da.length+1)(h6:q.dc.length<=p.dc.length)(h7:wA q.heap.ag)(h8:q.heap.ag.length=p.heap.ag.length):qb p q:=by
  refine⟨?_,h7,h8⟩;unfold dH mH vQ jz;rw[h1,h2];omega
theorem fR{p:bh}(h:hD p):qb p p:=⟨by omega,h.w,rfl⟩
theorem u5{l:List cd}{k:Nat}{o:cd}(ho:dA o<=100):eQ dA (l.set k o)<=eQ dA l+100:=Nat.le_trans xl (by omega)
theorem A0(h:df)(c i:Int):(iY h c i).ag.length=h.ag.length:=by
  unfold iY mU fP;cases decide (c>=0)
  · rfl
  cases fW h&&dy i 0 9
  · rfl
  simp only[RD];split
  · simp only[List.length_set]
  · rfl
theorem BM{h:df}(hw:wA h.ag)(c i:Int):eQ dA (iY h c i).ag=eQ dA h.ag/\wA (iY h c i).ag/\(iY h c i).gc.da.length<=h.gc.da.length+1:=by
  unfold iY mU;cases decide (c>=0)
  · exact⟨rfl,hw,Nat.le_succ _⟩
  cases q:fW h&&dy i 0 9
  · exact⟨rfl,hw,Nat.le_succ _⟩
  simp only[RG,dI]at q;have hl:=(lH q.1).len;simp only[RD];refine⟨?_,?_,xC h i⟩
  · unfold fP;split
    · exact oD q.2.1 (by omega) rfl
    · rfl
  · unfold fP;split
    · exact iS hw (show mK (marked (nth h.ag i) true) from hw (nth h.ag i) (gy q.2.1 (by omega)))
    · exact hw
theorem NU{p:bh}(hp:hD p)(me now:Int)(c:dG):qb p (jS p me now c).2.2:=by
  unfold jS;cases !dy c.b 0 1
  case true=>exact fR hp
  cases q2:eM p.heap.ag now me c.a 0 != 0
  case true=>exact fR hp
  obtain⟨ar,g0,g9,_,_⟩:=gL (fp q2);cases(c.so==2)&&(eM p.heap.ag now me c.c 0 != 0)
  case true=>exact fR hp
  simp only[RC];generalize (bif c.so==2 then dt p.heap.ag now me c.c else -1)=x;have ho:=nm ar g0 g9;obtain⟨a,b,d⟩:=BM (h:=df.mk (p.heap.ag.set (dt p.heap.ag now me c.a).toNat (linked (nth p.heap.ag (dt p.heap.ag now me c.a)) c.b x)) p.heap.gc) (iS hp.w (show mK (nth p.heap.ag (dt p.heap.ag now me c.a)) from hp.w _ (ar.at g0 g9).2)) x x;refine mX rfl rfl rfl ?_ d (Nat.le_refl _) b (by show(iY _ _ _).ag.length=_;rw[A0];exact List.length_set);refine Nat.le_trans (Nat.le_of_eq a) (Nat.le_trans (u5 (by rw[yv];omega)) (by omega))
theorem Of{p:bh}(hp:hD p)(me now:Int)(c:dG):qb p (j7 p me now c).2.2:=by
  unfold j7;cases q2:eM p.heap.ag now me c.a 0 != 0
  case true=>exact fR hp
  obtain⟨ar,g0,g9,_,_⟩:=gL (fp q2);cases dt p.heap.ag now me c.a==0
  case true=>exact fR hp
  cases(c.so==4)&&(eM p.heap.ag now me c.b 1 != 0)
  case true=>exact fR hp
  simp only[RC];generalize (bif c.so==4 then dt p.heap.ag now me c.b else -1)=x;have ho:=nm ar g0 g9;obtain⟨a,b,d⟩:=BM (h:=df.mk (p.heap.ag.set (dt p.heap.ag now me c.a).toNat (boxed (nth p.heap.ag (dt p.heap.ag now me c.a)) x)) p.heap.gc) (iS hp.w (show mK (nth p.heap.ag (dt p.heap.ag now me c.a)) from hp.w _ (ar.at g0 g9).2)) x (dt p.heap.ag now me c.a);refine mX rfl rfl rfl ?_ d (Nat.le_refl _) b (by show(iY _ _ _).ag.length=_;rw[A0];exact List.length_set);refine Nat.le_trans (Nat.le_of_eq a) (Nat.le_trans (u5 (show dA (nth p.heap.ag (dt p.heap.ag now me c.a))<=100 by omega)) (by omega))
theorem Nn{p:bh}(hp:hD p)(me now:Int)(c:dG):qb p (eZ p me now c).2.2:=by
  unfold eZ;cases q2:eM p.heap.ag now me c.a 2 != 0
  case true=>exact fR hp
  obtain⟨ar,g0,g9,_,_⟩:=gL (fp q2);cases !dy c.b 0 (((nth p.heap.ag (dt p.heap.ag now me c.a)).Rm.length:Int)-1)
  case true=>exact fR hp
  cases c.so==7
  case true=>exact fR hp
  cases !dy c.c 0 999
  case true=>exact fR hp
  have ho:=nm ar g0 g9;refine mX rfl rfl rfl ?_ (Nat.le_succ _) (Nat.le_refl _) (iS hp.w (show mK (nth p.heap.ag (dt p.heap.ag now me c.a)) from hp.w _ (ar.at g0 g9).2)) List.length_set;refine Nat.le_trans (u5 (o:=written (nth p.heap.ag (dt p.heap.ag now me c.a)) c.b c.c) ?_) (by omega);unfold dA written at *;simp only[List.length_set];omega
theorem LY{p:bh}(hp:hD p)(me now:Int)(c:dG):qb p (ic p me now c).2.2:=by
  unfold ic;cases q2:eM p.heap.ag now me c.a 0 != 0
  case true=>exact fR hp
  obtain⟨ar,g0,g9,_,_⟩:=gL (fp q2);cases(dt p.heap.ag now me c.a==0) || (!dy c.b 1 1000 || decide (i64.wrap ((nth p.heap.ag (dt p.heap.ag now me c.a)).dV+c.b)>1000000))
  case true=>exact fR hp
  cases !jw p (iq p (nth p.heap.ag (dt p.heap.ag now me c.a)).Rx) (de.mk 0 (i64.wrap ((nth p.heap.ag (dt p.heap.ag now me c.a)).c6*c.b)) 0)
  case true=>exact fR hp
  have ho:=nm ar g0 g9;refine mX rfl rfl (jD _ _ _) ?_ (Nat.le_succ _) (Nat.le_refl _) (iS hp.w (show mK (nth p.heap.ag (dt p.heap.ag now me c.a)) from hp.w _ (ar.at g0 g9).2)) List.length_set;exact Nat.le_trans (u5 (show dA (nth p.heap.ag (dt p.heap.ag now me c.a))<=100 by omega)) (by omega)
theorem Cf{p:bh}(hp:hD p){t:List dp}(h:t.length=p.Rh.length):qb p (vN p t):=mX rfl rfl h (by show eQ dA p.heap.ag<=_;omega) (Nat.le_succ _) (Nat.le_refl _) hp.w rfl
theorem Ox{p:bh}(hp:hD p)(c:dG):qb p (kp p c).2.2:=by
  unfold kp;cases c.so==9
  · cases c.so==10
    · cases !(jo p.Rh c.a).2
      · exact Cf hp (DY _ _)
      · exact fR hp
    · cases(!dy c.a 0 4 || (!dy c.b 0 4 || (!dy c.c 0 2 || !uW c.d)))
      · cases !(ju p.Rh c.a c.b (iA c.c c.d)).2
        · exact Cf hp (DN _ _ _ _)
        · exact fR hp
      · exact fR hp
  · cases(!dy c.a 0 4 || !dT (de.mk c.b c.c c.d))
    · cases !(iE p.Rh c.a (de.mk c.b c.c c.d)).2.2
      · exact Cf hp (De _ _ _)
      · exact fR hp
    · exact fR hp
theorem ND(h:df)(i:Int):(j6 h i).ag.length=h.ag.length:=by
  unfold j6;split
  · simp only[List.length_set]
  · rfl
theorem Pa(l:List cd)(k w b:Int):(te l k w b).length=l.length:=by
  unfold te;cases decide (k>=0)&&((nth l k).Ro==w)
  · rfl
  · simp only[RD,List.length_set]
theorem N1{h:df}(hw:wA h.ag)(i:Int):eQ dA (j6 h i).ag=eQ dA h.ag/\wA (j6 h i).ag/\(j6 h i).gc.da.length=h.gc.da.length:=by
  unfold j6;split
  · rename_i q;simp only[RG,dI]at q;have hl:=(lH q.1).len;exact⟨oD q.2.1.1 (by omega) rfl,iS hw (show mK (nth h.ag i) from hw _ (gy q.2.1.1 (by omega))),rfl⟩
  · exact⟨rfl,hw,rfl⟩
theorem NG{p:bh}(hp:hD p)(f:Int)(a:de):qb p (nU p f a):=mX rfl rfl (jD _ _ _) (by show eQ dA p.heap.ag<=_;omega) (Nat.le_succ _) (Nat.le_refl _) hp.w rfl
theorem M7{p:bh}(hp:hD p)(me now:Int)(c:dG):qb p (ji p me now c).2.2:=by
  unfold ji;cases q1:mV now c
  case true=>exact fR hp
  cases eM p.heap.ag now me c.b 1 != 0
  case true=>exact fR hp
  cases !jw p c.e (cost c)
  case true=>exact fR hp
  generalize dt p.heap.ag now me c.b=box;cases q4:decide ((hO p.heap.ag (newObj now box c)).2<0)
  case true=>exact NG hp _ _
  obtain⟨j,g,e,ar,hj⟩:=w6 q4;simp only[RC];rw[e];have ho:=yi (now:=now) (box:=box) (uv q1);obtain⟨a,b,d⟩:=N1 (h:=df.mk (p.heap.ag.set j (gv (newObj now box c) g)) p.heap.gc) (iS hp.w (Az (Ak _ _ _))) (j:Int);refine mX rfl rfl (jD _ _ _) ?_ (by show(j6 _ _).gc.da.length<=_;rw[d];exact Nat.le_succ _) (Nat.le_refl _) b (by show(j6 _ _).ag.length=_;rw[ND];exact List.length_set);exact Nat.le_trans (Nat.le_of_eq a) (Nat.le_trans (u5 (show dA (newObj now box c)<=100 from ho)) (by omega))
theorem L9{l:List cd}(h:wA l){i:Int}(h0:0<=i)(h1:i<(l.length:Int)):mK (nth l i):=h _ (gy h0 h1)
theorem Ps{l:List cd}(hw:wA l){k w b:Int}(h:0<=k->k<(l.length:Int)):eQ dA (te l k w b)=eQ dA l/\wA (te l k w b):=by
  unfold te;cases q:decide (k>=0)&&((nth l k).Ro==w)
  · exact⟨rfl,hw⟩
  simp only[RG,decide_eq_true_eq]at q;have k1:=h q.1
  have w0:mK (waiting (nth l k) 0):=by show(-9223372036854775808:Int)<=0;decide
  have w1:=iS (k:=k.toNat) hw w0
  have k2:k<((l.set k.toNat (waiting (nth l k) 0)).length:Int):=by simp only[List.length_set];exact k1
  simp only[RD];exact⟨(oD (z:=xx (nth (l.set k.toNat (waiting (nth l k) 0)) k) b) q.1 k2 rfl).trans (oD q.1 k1 rfl),iS w1 (show mK (nth (l.set k.toNat (waiting (nth l k) 0)) k) from L9 w1 q.1 k2)⟩
theorem QH(n:Int):-9223372036854775808<=i64.wrap n:=by
  simp[IntKind.wrap,IntKind.signed,IntKind.bits];split<;>omega
theorem NY{p:bh}(hp:hD p)(me now:Int){th:Int}(t0:0<=th)(t9:th<=9)(c:dG):qb p (jb p me now th c).2.2:=by
  unfold jb;cases q2:eM p.heap.ag now me c.a 3 != 0
  case true=>exact fR hp
  obtain⟨ar,g0,g9,_,_⟩:=gL (fp q2);cases !dy c.b 0 999
  case true=>exact fR hp
  simp only[RC];generalize dt p.heap.ag now me c.a=i at *;have ho:=nm ar g0 g9;have hl:=ar.len;have hwi:mK (nth p.heap.ag i):=hp.w _ (ar.at g0 g9).2
  have qs:∀q,q.length<=20->dA (kZ (nth p.heap.ag i) q)<=100:=fun q hq=>by
    unfold dA at ho;unfold dA kZ;simp only;omega
  have hq:=zi ho;cases c.so==12
  · cases((nth p.heap.ag i).Ri.length:Int)==0
    case true=>exact fR hp
    have hw1:wA (served p.heap.ag i):=iS hp.w hwi;obtain⟨a,b⟩:=Ps (l:=served p.heap.ag i) hw1 (k:=dt (served p.heap.ag i) now me (nth (nth p.heap.ag i).Ri 0).RA) (w:=i64.wrap (c.a+1)) (b:=c.b) (pt (by unfold served;simp only[List.length_set];exact hl));refine mX rfl rfl rfl ?_ (Nat.le_succ _) (Nat.le_refl _) b (by show(te _ _ _ _).length=_;rw[Pa];exact List.length_set);refine Nat.le_trans (Nat.le_of_eq a) (Nat.le_trans (u5 (qs _ (by simp only[List.length_drop];omega))) (by omega))
  · cases decide (((nth p.heap.ag i).Ri.length:Int)>=2)
    case true=>exact fR hp
    have hw1:wA (asked p.heap.ag i me th c):=iS hp.w hwi
    have hl1:(asked p.heap.ag i me th c).length=10:=by unfold asked;simp only[List.length_set];exact hl
    have e:eQ dA ((asked p.heap.ag i me th c).set th.toNat (waiting (nth (asked p.heap.ag i me th c) th) (i64.wrap (c.a+1))))=eQ dA (asked p.heap.ag i me th c):=oD t0 (by omega) rfl;refine mX rfl rfl rfl ?_ (Nat.le_succ _) (Nat.le_refl _) (iS hw1 (QH _)) (by show(List.set _ _ _).length=_;rw[List.length_set,hl1,hl]);refine Nat.le_trans (Nat.le_of_eq e) (Nat.le_trans (u5 (qs _ (by simp only[List.length_append,List.length_cons,List.length_nil];omega))) (by omega))
theorem Mx{p:bh}(hp:hD p)(c:dG):qb p (o7 p c).2.2:=by
  unfold o7;cases hi:dy c.a 0 ((p.dc.length:Int)-1)
  · exact fR hp
  · exact mX rfl rfl rfl (by show eQ dA p.heap.ag<=_;omega) (Nat.le_succ _) (by show(p.dc.take c.a.toNat++p.dc.drop (c.a.toNat+1)).length<=_;simp only[List.length_append,List.length_take,List.length_drop];omega) hp.w rfl
theorem MA{p:bh}(hp:hD p)(me now:Int){th:Int}(t0:0<=th)(t9:th<=9)(c:dG):qb p (gm p me now th c).2.2:=by
  unfold gm;cases c.so==1
  case true=>exact M7 hp _ _ _
  cases(c.so==2) || (c.so==3)
  case true=>exact NU hp _ _ _
  cases(c.so==4) || (c.so==5)
  case true=>exact Of hp _ _ _
  cases(c.so==6) || (c.so==7)
  case true=>exact Nn hp _ _ _
  cases c.so==8
  case true=>exact LY hp _ _ _
  cases(c.so==9) || ((c.so==10) || (c.so==11))
  case true=>exact Ox hp _
  cases(c.so==12) || (c.so==13)
  case true=>exact NY hp _ _ t0 t9 _
  cases c.so==14
  case true=>simp only[RC,RD,vz];exact fR hp
  cases c.so==15
  case true=>exact Mx hp _
  exact fR hp
theorem Hm{p:bh}(hb:dH p<=3000000)(hw:wP p)(me now th:Int)(c:dG):dH (kh p me now th c).1<=dH p+300/\wP (kh p me now th c).1:=by
  unfold kh;cases !dJ p || (!dy me 0 2 || !dy now 0 1000000)
  case true=>exact⟨Nat.le_add_right _ _,hw⟩
  cases hc:iX p now th
  · exact⟨Nat.le_add_right _ _,hw⟩
  obtain⟨ok,t0,t9⟩:=qM hc;have hp:hD p:=⟨ok,hb,hw⟩;simp only[RE,RC];unfold fin;cases(gm p me now th c).1==0
  · cases(c.so==1)&&(((gm p me now th c).1==6) || ((gm p me now th c).1==7))<;>exact⟨Nat.le_add_right (dH p) _,hw⟩
  · have h:=MA hp me now t0 t9 c;exact⟨h.sz,h.w⟩
theorem EI{p:bh}(hb:dH p<=3000000)(hw:wP p)(me now th:Int)(c:dG):(kh p me now th c).1.heap.ag.length=p.heap.ag.length:=by
  unfold kh;cases !dJ p || (!dy me 0 2 || !dy now 0 1000000)
  case true=>rfl
  cases hc:iX p now th
  · rfl
  obtain⟨ok,t0,t9⟩:=qM hc;simp only[RE,RC];unfold fin;cases(gm p me now th c).1==0
  · cases(c.so==1)&&(((gm p me now th c).1==6) || ((gm p me now th c).1==7))<;>rfl
  · exact(MA ⟨ok,hb,hw⟩ me now t0 t9 c).ln
end Go.Kx
