import Derived.Test.YtfmfgnhbgcjajaaGreatLTaps
namespace Go.Kx
open Go
open Go.IntKind (i64)
set_option linter.unusedVariables false
set_option linter.unusedSimpArgs false
set_option maxRecDepth 10000
theorem wm(p:bh):bh.mk p.Rd p.own p.Re p.heap p.dc p.Ro p.Rn p.db p.dx p.Rk=p:=rfl
theorem vW(g:eT):eT.mk g.Rg g.Rp g.Rh g.da=g:=rfl
theorem vx(h:df):df.mk h.ag h.gc=h:=rfl
theorem OT(a:de):de.mk a.cd a.dg a.du=a:=rfl
def eL(l:List c6)(now me h kind:Int):Int:=bif lC h then(bif lZ h != me then 3 else(bif decide (dt l now me h<0)then 4 else(bif(kind != 0)&&((nth l (dt l now me h)).so != kind)then 5 else 0)))else 2
theorem xi{l:List c6}{now me h:Int}(q:decide (dt l now me h<0)=false):Ar l/\0<=dt l now me h/\dt l now me h<=9/\(nth l (dt l now me h)).so ≠ 0:=by
  unfold dt at *;cases hg:xN l now me h
  · rw[hg]at q;simp at q
  · simp only[RA];unfold xN at hg;simp only[RD]at hg;obtain⟨⟨h1,h2,_⟩,h3,_⟩:=hg;obtain⟨a,b⟩:=Ae h2;exact⟨fO.1 h1,a,b,by simpa using h3⟩
theorem gO{l:List c6}{now me h k:Int}(q:eL l now me h k=0):Ar l/\0<=dt l now me h/\dt l now me h<=9/\(nth l (dt l now me h)).so ≠ 0/\(k ≠ 0->(nth l (dt l now me h)).so=k):=by
  unfold eL at q;cases h1:lC h
  · rw[h1]at q;simp at q
  cases h2:lZ h != me
  case true=>rw[h1,h2]at q;simp at q
  cases h3:decide (dt l now me h<0)
  case true=>rw[h1,h2,h3]at q;simp at q
  obtain⟨a,b,c,d⟩:=xi h3;refine⟨a,b,c,d,fun hk=>?_⟩;rw[h1,h2,h3]at q;simp only[RA,Rz]at q
  have hk':(k != 0)=true:=by simpa using hk
  rw[hk']at q;cases h4:(nth l (dt l now me h)).so != k
  · simpa using h4
  · rw[h4]at q;simp at q
theorem xc{N:Nat}(hN:dh<=N){x:dO}(hb:eK dA x.py.heap.ag<dh)(h k:Int):g6 N x h k=some (bif eL x.py.heap.ag x.Rj x.me h k==0 then dt x.py.heap.ag x.Rj x.me h else 0,eL x.py.heap.ag x.Rj x.me h k,x):=by
  unfold g6 eL;simp only[oE,wc,vj hN hb,Ry];rw[show dy h 0 29999=lC h from rfl];cases lC h
  · rfl
  cases lZ h != x.me
  case true=>rfl
  cases q:decide (dt x.py.heap.ag x.Rj x.me h<0)
  case true=>rfl
  obtain⟨ar,g0,g9,_⟩:=xi q;simp only[RB,Rz,(ar.at g0 g9).1,Ry];cases k != 0<;>cases(nth x.py.heap.ag (dt x.py.heap.ag x.Rj x.me h)).so != k<;>rfl
theorem A6{N:Nat}(hN:dh<=N){p:bh}(hb:eK dA p.heap.ag<dh)(hw:wP p)(me now h:Int):lg N p me now h=some (bif eL p.heap.ag now me h 0==0 then dt p.heap.ag now me h else -1,eL p.heap.ag now me h 0):=by
  unfold lg eL;simp only[qV,vH,ve hN hb hw,Ry];rw[show dy h 0 29999=lC h from rfl];cases lC h
  · rfl
  cases lZ h != me
  case true=>rfl
  cases q:decide (dt p.heap.ag now me h<0)<;>rfl
theorem AA{N:Nat}(hN:dh<=N){p:bh}(hb:eK dA p.heap.ag<dh)(hw:wP p)(me now h:Int){k:Int}(hk:0<k):mj N p me now h k=some (bif eL p.heap.ag now me h k==0 then dt p.heap.ag now me h else -1,eL p.heap.ag now me h k):=by
  unfold mj;rw[A6 hN hb hw];have k1:decide (k>0)=true:=decide_eq_true hk
  have k2:(k != 0)=true:=by simp;omega
  simp only[Ry,k1,RA];unfold eL;rw[k2];cases lC h
  · rfl
  cases lZ h != me
  case true=>rfl
  cases q:decide (dt p.heap.ag now me h<0)
  case true=>rfl
  obtain⟨ar,g0,g9,_⟩:=xi q;simp only[bne_self_eq_false,Bool.false_and,RC,RA,Rz,beq_self_eq_true,(ar.at g0 g9).1,Ry];cases(nth p.heap.ag (dt p.heap.ag now me h)).so != k<;>rfl
def mW(h:df)(i:Int):df:=bif fR h&&dy i 0 9 then fN h i else h
theorem Kg{N:Nat}(hN:dh<=N){h:df}(h1:eK dA h.ag<dh)(h2:h.gc.da.length+1<dh)(i:Int):nB N h i=some (mW h i):=by
  have h2':h.gc.da.length<dh:=by omega
  unfold nB mW;simp only[vg hN h1 h2',vU hN h1 h2',sr,Ry];cases q:fR h
  · rfl
  cases hi:dy i 0 9
  · rfl
  have ar:=kl q;have hl:=ar.len;rw[dM]at hi;simp only[RA,Ry,Bool.and_self,Hh hN hi.1 (show i<(h.ag.length:Int) by omega) h2]
theorem Ko{N:Nat}(hN:dh<=N){h:df}(h1:eK dA h.ag<dh)(h2:h.gc.da.length+1<dh)(hw:wA h.ag)(i:Int):nv N h i=some (mW h i):=by
  have h2':h.gc.da.length<dh:=by omega
  unfold nv mW;simp only[wg hN h1 h2',vZ hN h1 h2' hw,qc,Ry];cases q:fR h
  · rfl
  cases hi:dy i 0 9
  · rfl
  have ar:=kl q;have hl:=ar.len;rw[dM]at hi;simp only[RB,RA,Rz,Ry,Bool.and_self,AV hN hi.1 (show i<(h.ag.length:Int) by omega) h2]
def linked(o:c6)(b x:Int):c6:=c6.mk o.Rs o.so o.box o.Rt o.dX o.cd o.Rm o.ef o.ee o.mark (o.dp.set b.toNat x) o.Ri o.Rf
def boxed(o:c6)(b:Int):c6:=c6.mk o.Rs o.so b o.Rt o.dX o.cd o.Rm o.ef o.ee o.mark o.dp o.Ri o.Rf
def written(o:c6)(b x:Int):c6:=c6.mk o.Rs o.so o.box o.Rt o.dX o.cd o.Rm o.ef o.ee o.mark o.dp (o.Ri.set b.toNat x) o.Rf
def kR(o:c6)(q:List eS):c6:=c6.mk o.Rs o.so o.box o.Rt o.dX o.cd o.Rm o.ef o.ee o.mark o.dp o.Ri q
def waiting(o:c6)(x:Int):c6:=c6.mk o.Rs o.so o.box o.Rt o.dX o.cd x o.ef o.ee o.mark o.dp o.Ri o.Rf
def xQ(o:c6)(x:Int):c6:=c6.mk o.Rs o.so o.box o.Rt o.dX o.cd o.Rm x o.ee o.mark o.dp o.Ri o.Rf
def mD(p:bh)(h:df):bh:=bh.mk p.Rd p.own p.Re h p.dc p.Ro p.Rn p.db p.dx p.Rk
def vF(p:bh)(t:List dk):bh:=bh.mk p.Rd p.own t p.heap p.dc p.Ro p.Rn p.db p.dx p.Rk
def tY(p:bh)(t:List eA):bh:=bh.mk p.Rd p.own p.Re p.heap t p.Ro p.Rn p.db p.dx p.Rk
def iW(h:df)(c i:Int):df:=bif decide (c>=0)then mW h i else h
def Jz(p:bh)(i b x:Int):bh:=mD p (iW (df.mk (p.heap.ag.set i.toNat (linked (nth p.heap.ag i) b x)) p.heap.gc) x x)
def j6(p:bh)(me now:Int)(c:dH):Int×Int×bh :=
  bif !dy c.b 0 1 then(2,0,p)else
  bif eL p.heap.ag now me c.a 0 != 0 then(eL p.heap.ag now me c.a 0,0,p)else
  bif(c.so==2)&&(eL p.heap.ag now me c.c 0 != 0)then(eL p.heap.ag now me c.c 0,0,p)else
  (0,0,Jz p (dt p.heap.ag now me c.a) c.b (bif c.so==2 then dt p.heap.ag now me c.c else -1))
structure g7 (p:bh):Prop where
  ok:dI p=true
  sz:dG p<=3000000
  w:wP p
theorem g7.ar{p:bh}(h:g7 p):Ar p.heap.ag:=fe h.ok
theorem g7.b4{p:bh}(h:g7 p):eK dA p.heap.ag<dh:=(gE (p:=p) (Nat.lt_of_le_of_lt h.sz (by decide))).2.2.2.1
theorem g7.b5{p:bh}(h:g7 p):p.heap.gc.da.length+1<dh:=by
  have:=h.sz;have hB:(16777216:Nat)=dh:=rfl;unfold dG mw vP at this;omega
theorem mY{l:List c6}(h:Ar l){i:Int}(h0:0<=i)(h9:i<=9):dA (nth l i)<=12:=xm (h.ok _ (h.at h0 h9).2)
theorem za{l:List c6}(h:Ar l){i:Int}{o:c6}(ho:dA o<=100000):eK dA (l.set i.toNat o)<dh:=Mq h ho _
theorem yg(o:c6)(b x:Int):dA (linked o b x)=dA o:=by unfold dA linked;simp only[List.length_set]
theorem ze{l:List Int}(h:l.length=2){b:Int}(hb:dy b 0 1=true):idx l b=some (nth l b):=by
  rw[dM]at hb;exact eP hb.1 (by omega)
theorem fq{a:Int}(h:(a != 0)=false):a=0:=by simpa using h
theorem G8{N:Nat}(hN:dh<=N){h:df}(h1:eK dA h.ag<dh)(h2:h.gc.da.length+1<dh)(c i:Int){β:Type}(f:df->Option β):(bif decide (c>=0)then(nB N h i).bind f else f h)=f (iW h c i):=by
  unfold iW;rw[Kg hN h1 h2];cases decide (c>=0)<;>rfl
theorem OM{N:Nat}(hN:dh<=N){p:bh}(hp:g7 p)(me now th:Int)(c:dH):ni N (dO.mk p me now th) c=some ((j6 p me now c).1,dO.mk (j6 p me now c).2.2 me now th):=by
  have h4:=hp.b4;unfold ni j6;simp only[ko,xc hN,h4,Ry,vW,vx,wm];cases q1:dy c.b 0 1
  · rfl
  cases q2:eL p.heap.ag now me c.a 0 != 0
  case true=>rfl
  have q2':=fq q2;obtain⟨ar,g0,g9,gk,_⟩:=gO q2';have l2:=wq (ar.ok _ (ar.at g0 g9).2) (by simpa using gk);simp only[RB,Rz,q2',beq_self_eq_true,RA];generalize dt p.heap.ag now me c.a=i at *;have hs:∀x,eK dA (p.heap.ag.set i.toNat (linked (nth p.heap.ag i) c.b x))<dh:=fun x=>za ar (by rw[yg];have:=mY ar g0 g9;omega);cases hk:c.so==2
  · simp only[Rz,Ry,Sum.elim_inl,(ar.at g0 g9).1,ze l2 q1,Bool.false_and];rfl
  · cases q3:eL p.heap.ag now me c.c 0 != 0
    · have q3':=fq q3;simp only[RA,Rz,Ry,Sum.elim_inl,(ar.at g0 g9).1,ze l2 q1,Bool.and_false,q3',beq_self_eq_true];generalize dt p.heap.ag now me c.c=x;exact G8 (h:=df.mk (p.heap.ag.set i.toNat (linked (nth p.heap.ag i) c.b x)) p.heap.gc) hN (hs x) hp.b5 x x fun y=>some ((0:Int),dO.mk (mD p y) me now th)
    · rfl
def BJ(p:bh):bh:=bh.mk p.Rd p.own p.Re p.heap p.dc p.Ro p.Rn p.db (if 1000000<i64.wrap (p.dx+1)then 1000000 else i64.wrap (p.dx+1)) p.Rk
def fin(c:dH)(p:bh)(r:Int×Int×bh):bh×dE:=bif r.1==0 then(r.2.2,dE.mk 0 r.2.1)else(bif(c.so==1)&&((r.1==6) || (r.1==7))then BJ p else p,dE.mk r.1 0)
theorem uF(c:dH)(p q:bh)(v:Int):fin c p (0,v,q)=(q,dE.mk 0 v):=rfl
theorem jU{c:dH}{p q:bh}{k v:Int}(h:(k != 0)=true)(hc:(c.so==1)=false):fin c p (k,v,q)=(p,dE.mk k 0):=by
  unfold fin
  have:(k==0)=false:=by simpa[bne]using h
  rw[this,hc];rfl
theorem zt{N:Nat}(hN:dh<=N){h:df}(h1:eK dA h.ag<dh)(h2:h.gc.da.length+1<dh)(hw:wA h.ag)(c i:Int){β:Type}(f:df->Option β):((bif decide (c>=0)then((nv N h i).bind fun y=>some (y.ag,y.gc.Rg,y.gc.Rp,y.gc.Rh,y.gc.da))else(some (h.ag,h.gc.Rg,h.gc.Rp,h.gc.Rh,h.gc.da)):Option ((List c6)×Int×Int×Int×(List Int))).bind fun j=>f (df.mk j.1 (eT.mk j.2.1 j.2.2.1 j.2.2.2.1 j.2.2.2.2)))=f (iW h c i):=by
  unfold iW;rw[Ko hN h1 h2 hw];cases decide (c>=0)<;>rfl
theorem OK{N:Nat}(hN:dh<=N){p:bh}(hp:g7 p)(me now:Int){c:dH}(hc:(c.so==1)=false):rv N p me now c=some (fin c p (j6 p me now c)):=by
  have h4:=hp.b4;unfold rv j6;simp only[jV,A6 hN h4 hp.w,Ry];cases q1:dy c.b 0 1
  · simp only[Bool.not_false,RA,jU (show((2:Int) != 0)=true from rfl) hc]
  cases q2:eL p.heap.ag now me c.a 0 != 0
  case true=>simp only[RB,Rz,RA,jU q2 hc]
  have q2':=fq q2;obtain⟨ar,g0,g9,gk,_⟩:=gO q2';have l2:=wq (ar.ok _ (ar.at g0 g9).2) (by simpa using gk);simp only[RB,Rz,q2',beq_self_eq_true,RA];generalize dt p.heap.ag now me c.a=i at *;have hs:∀x,eK dA (p.heap.ag.set i.toNat (linked (nth p.heap.ag i) c.b x))<dh:=fun x=>za ar (by rw[yg];have:=mY ar g0 g9;omega);have hx:∀x,wA (p.heap.ag.set i.toNat (linked (nth p.heap.ag i) c.b x)):=fun x=>iR hp.w (show mG (nth p.heap.ag i) from hp.w _ (ar.at g0 g9).2);cases hk:c.so==2
  · simp only[Rz,Ry,Sum.elim_inl,(ar.at g0 g9).1,ze l2 q1,Bool.false_and,uF];exact zt (h:=df.mk (p.heap.ag.set i.toNat (linked (nth p.heap.ag i) c.b (-1))) p.heap.gc) hN (hs (-1)) hp.b5 (hx (-1)) (-1) (-1) fun y=>some (mD p y,dE.mk 0 0)
  · cases q3:eL p.heap.ag now me c.c 0 != 0
    · have q3':=fq q3;simp only[RA,Rz,Ry,Sum.elim_inl,(ar.at g0 g9).1,ze l2 q1,Bool.and_false,q3',beq_self_eq_true,uF];generalize dt p.heap.ag now me c.c=x;exact zt (h:=df.mk (p.heap.ag.set i.toNat (linked (nth p.heap.ag i) c.b x)) p.heap.gc) hN (hs x) hp.b5 (hx x) x x fun y=>some (mD p y,dE.mk 0 0)
    · simp only[RA,Rz,Ry,Sum.elim_inr,Bool.and_true,jU q3 hc]
def Lh(p:bh)(i x:Int):bh:=mD p (iW (df.mk (p.heap.ag.set i.toNat (boxed (nth p.heap.ag i) x)) p.heap.gc) x i)
def jM(p:bh)(me now:Int)(c:dH):Int×Int×bh :=
  bif eL p.heap.ag now me c.a 0 != 0 then(eL p.heap.ag now me c.a 0,0,p)else
  bif dt p.heap.ag now me c.a==0 then(5,0,p)else
  bif(c.so==4)&&(eL p.heap.ag now me c.b 1 != 0)then(eL p.heap.ag now me c.b 1,0,p)else
  (0,0,Lh p (dt p.heap.ag now me c.a) (bif c.so==4 then dt p.heap.ag now me c.b else -1))
theorem Pz{N:Nat}(hN:dh<=N){p:bh}(hp:g7 p)(me now th:Int)(c:dH):m6 N (dO.mk p me now th) c=some ((jM p me now c).1,dO.mk (jM p me now c).2.2 me now th):=by
  have h4:=hp.b4;unfold m6 jM;simp only[xc hN,h4,Ry,vW,vx,wm];cases q2:eL p.heap.ag now me c.a 0 != 0
  case true=>rfl
  have q2':=fq q2;obtain⟨ar,g0,g9,gk,_⟩:=gO q2';simp only[RB,Rz,q2',beq_self_eq_true,RA];generalize dt p.heap.ag now me c.a=i at *;cases hi:i==0
  case true=>rfl
  have hs:∀x,eK dA (p.heap.ag.set i.toNat (boxed (nth p.heap.ag i) x))<dh:=fun x=>za ar (by have:dA (nth p.heap.ag i)<=12:=mY ar g0 g9;show dA (nth p.heap.ag i)<=_;omega);cases hk:c.so==4
  · simp only[Rz,Ry,Sum.elim_inl,(ar.at g0 g9).1,Bool.false_and];rfl
  · cases q3:eL p.heap.ag now me c.b 1 != 0
    · have q3':=fq q3;simp only[RA,Rz,Ry,Sum.elim_inl,(ar.at g0 g9).1,Bool.and_false,q3',beq_self_eq_true];generalize dt p.heap.ag now me c.b=x;exact G8 (h:=df.mk (p.heap.ag.set i.toNat (boxed (nth p.heap.ag i) x)) p.heap.gc) hN (hs x) hp.b5 x i fun y=>some ((0:Int),dO.mk (mD p y) me now th)
    · rfl
theorem Oi{N:Nat}(hN:dh<=N){p:bh}(hp:g7 p)(me now:Int){c:dH}(hc:(c.so==1)=false):rK N p me now c=some (fin c p (jM p me now c)):=by
  have h4:=hp.b4;unfold rK jM;simp only[A6 hN h4 hp.w,AA hN h4 hp.w _ _ _ (show(0:Int)<1 by decide),Ry];cases q2:eL p.heap.ag now me c.a 0 != 0
  case true=>simp only[RA,jU q2 hc]
  have q2':=fq q2;obtain⟨ar,g0,g9,gk,_⟩:=gO q2';simp only[RB,Rz,q2',beq_self_eq_true,RA];generalize dt p.heap.ag now me c.a=i at *;cases hi:i==0
  case true=>simp only[RA,jU (show((5:Int) != 0)=true from rfl) hc]
  have hs:∀x,eK dA (p.heap.ag.set i.toNat (boxed (nth p.heap.ag i) x))<dh:=fun x=>za ar (by have:dA (nth p.heap.ag i)<=12:=mY ar g0 g9;show dA (nth p.heap.ag i)<=_;omega);have hx:∀x,wA (p.heap.ag.set i.toNat (boxed (nth p.heap.ag i) x)):=fun x=>iR hp.w (show mG (nth p.heap.ag i) from hp.w _ (ar.at g0 g9).2);cases hk:c.so==4
  · simp only[Rz,Ry,Sum.elim_inl,(ar.at g0 g9).1,Bool.false_and,uF];exact zt (h:=df.mk (p.heap.ag.set i.toNat (boxed (nth p.heap.ag i) (-1))) p.heap.gc) hN (hs (-1)) hp.b5 (hx (-1)) (-1) i fun y=>some (mD p y,dE.mk 0 0)
  · cases q3:eL p.heap.ag now me c.b 1 != 0
    · have q3':=fq q3;simp only[RA,Rz,Ry,Sum.elim_inl,(ar.at g0 g9).1,Bool.and_false,q3',beq_self_eq_true,uF];generalize dt p.heap.ag now me c.b=x;exact zt (h:=df.mk (p.heap.ag.set i.toNat (boxed (nth p.heap.ag i) x)) p.heap.gc) hN (hs x) hp.b5 (hx x) x i fun y=>some (mD p y,dE.mk 0 0)
    · simp only[RA,Rz,Ry,Sum.elim_inr,Bool.and_true,jU q3 hc]
def N4(p:bh)(i b x:Int):bh:=jz p (p.heap.ag.set i.toNat (written (nth p.heap.ag i) b x))
def eZ(p:bh)(me now:Int)(c:dH):Int×Int×bh :=
  bif eL p.heap.ag now me c.a 2 != 0 then(eL p.heap.ag now me c.a 2,0,p)else
  bif !dy c.b 0 (((nth p.heap.ag (dt p.heap.ag now me c.a)).Ri.length:Int)-1)then(2,0,p)else
  bif c.so==7 then(0,nth (nth p.heap.ag (dt p.heap.ag now me c.a)).Ri c.b,p)else
  bif !dy c.c 0 999 then(2,0,p)else(0,0,N4 p (dt p.heap.ag now me c.a) c.b c.c)
theorem Dx{α:Type}{l:List α}(h:l.length<dh):i64.wrap ((l.length:Int)-1)=(l.length:Int)-1:=by
  have:l.length<16777216:=h;exact dF (by omega) (by omega)
theorem Fp{o:c6}(h:dA o<=12):o.Ri.length<dh:=by
  have hB:(16777216:Nat)=dh:=rfl;unfold dA at h;omega
theorem JD{N:Nat}(hN:dh<=N){p:bh}(hp:g7 p)(me now th:Int)(c:dH):lK N (dO.mk p me now th) c=some ((eZ p me now c).1,(eZ p me now c).2.1,dO.mk (eZ p me now c).2.2 me now th):=by
  have h4:=hp.b4;unfold lK eZ;simp only[xc hN,h4,ko,Ry,vW,vx,wm];cases q2:eL p.heap.ag now me c.a 2 != 0
  case true=>rfl
  have q2':=fq q2;obtain⟨ar,g0,g9,gk,_⟩:=gO q2';simp only[RB,Rz,q2',beq_self_eq_true,RA];generalize dt p.heap.ag now me c.a=i at *;have ho:=mY ar g0 g9;simp only[(ar.at g0 g9).1,Ry,Dx (Fp ho)];cases q3:dy c.b 0 (((nth p.heap.ag i).Ri.length:Int)-1)
  · rfl
  have hd:idx (nth p.heap.ag i).Ri c.b=some (nth (nth p.heap.ag i).Ri c.b):=by
    rw[dM]at q3;exact eP q3.1 (by omega)
  simp only[RB,Rz,hd,Ry];cases c.so==7
  · cases dy c.c 0 999<;>rfl
  · rfl
theorem Lk{N:Nat}(hN:dh<=N){p:bh}(hp:g7 p)(me now:Int){c:dH}(hc:(c.so==1)=false)(hk:(c.so==6)=!(c.so==7)):n8 N p me now c=some (fin c p (eZ p me now c)):=by
  have h4:=hp.b4;unfold n8 eZ;simp only[AA hN h4 hp.w _ _ _ (show(0:Int)<2 by decide),jV,Ry];cases q2:eL p.heap.ag now me c.a 2 != 0
  case true=>simp only[RA,jU q2 hc]
  have q2':=fq q2;obtain⟨ar,g0,g9,gk,_⟩:=gO q2';simp only[RB,Rz,q2',beq_self_eq_true,RA];generalize dt p.heap.ag now me c.a=i at *;have ho:=mY ar g0 g9;simp only[(ar.at g0 g9).1,Ry,Dx (Fp ho)];cases q3:dy c.b 0 (((nth p.heap.ag i).Ri.length:Int)-1)
  · simp only[Bool.not_false,RA,Ry,jU (show((2:Int) != 0)=true from rfl) hc]
  have hd:idx (nth p.heap.ag i).Ri c.b=some (nth (nth p.heap.ag i).Ri c.b):=by
    rw[dM]at q3;exact eP q3.1 (by omega)
  rw[hk];simp only[RB,Rz,hd,Ry];cases c.so==7
  · cases dy c.c 0 999
    · simp only[Bool.not_false,RA,Rz,Ry,jU (show((2:Int) != 0)=true from rfl) hc]
    · rfl
  · rfl
def ju(p:bh)(f:Int)(a:de):Bool:=(eF p.Re f a).2&&(ga p.db (de.mk 0 a.dg 0)).2
def oe(p:bh)(f:Int)(a:de):bh:=bh.mk p.Rd p.own (eF p.Re f a).1 p.heap p.dc p.Ro p.Rn (ga p.db (de.mk 0 a.dg 0)).1 p.dx p.Rk
theorem Cs(p:bh)(f:Int)(a:de):(oe p f a).heap=p.heap:=rfl
theorem g7.b3{p:bh}(h:g7 p):p.Re.length<dh:=(gE (p:=p) (Nat.lt_of_le_of_lt h.sz (by decide))).2.2.1
theorem My{N:Nat}(hN:dh<=N){x:dO}(hB:x.py.Re.length<dh)(f:Int)(a:de):mq N x f a=some (ju x.py f a,bif ju x.py f a then dO.mk (oe x.py f a) x.me x.Rj x.dU else x):=by
  unfold mq ju;simp only[uK hN hB,EV,Ry,gW];cases(eF x.py.Re f a).2<;>cases(ga x.py.db (de.mk 0 a.dg 0)).2<;>rfl
def ij(p:bh)(me now:Int)(c:dH):Int×Int×bh :=
  bif eL p.heap.ag now me c.a 0 != 0 then(eL p.heap.ag now me c.a 0,0,p)else
  bif(dt p.heap.ag now me c.a==0) || (!dy c.b 1 1000 || decide (i64.wrap ((nth p.heap.ag (dt p.heap.ag now me c.a)).dX+c.b)>1000000))then(2,0,p)else
  bif !ju p (iw p (nth p.heap.ag (dt p.heap.ag now me c.a)).Rt) (de.mk 0 (i64.wrap ((nth p.heap.ag (dt p.heap.ag now me c.a)).cd*c.b)) 0)then(6,0,p)else
  (0,0,jz (oe p (iw p (nth p.heap.ag (dt p.heap.ag now me c.a)).Rt) (de.mk 0 (i64.wrap ((nth p.heap.ag (dt p.heap.ag now me c.a)).cd*c.b)) 0)) (p.heap.ag.set (dt p.heap.ag now me c.a).toNat (kP (nth p.heap.ag (dt p.heap.ag now me c.a)) (i64.wrap ((nth p.heap.ag (dt p.heap.ag now me c.a)).dX+c.b)))))
theorem M6{N:Nat}(hN:dh<=N){p:bh}(hp:g7 p)(me now th:Int)(c:dH):mu N (dO.mk p me now th) c=some ((ij p me now c).1,dO.mk (ij p me now c).2.2 me now th):=by
  have h4:=hp.b4;have h3:=hp.b3;unfold mu ij;simp only[xc hN,h4,ko,Ry,vW,vx,wm];cases q2:eL p.heap.ag now me c.a 0 != 0
  case true=>rfl
  have q2':=fq q2;obtain⟨ar,g0,g9,gk,_⟩:=gO q2';simp only[RB,Rz,q2',beq_self_eq_true,RA];generalize dt p.heap.ag now me c.a=i at *;simp only[(ar.at g0 g9).1,Ry,gW,Bw hN,My hN,h3];cases((i==0) || (!dy c.b 1 1000 || decide (i64.wrap ((nth p.heap.ag i).dX+c.b)>1000000)))
  · cases ju p (iw p (nth p.heap.ag i).Rt) (de.mk 0 (i64.wrap ((nth p.heap.ag i).cd*c.b)) 0)<;>rfl
  · rfl
theorem NQ{N:Nat}(hN:dh<=N){p:bh}(hp:g7 p)(me now:Int){c:dH}(hc:(c.so==1)=false):qu N p me now c=some (fin c p (ij p me now c)):=by
  have h4:=hp.b4;have h3:=hp.b3;unfold qu ij;simp only[A6 hN h4 hp.w,jV,Ry];cases q2:eL p.heap.ag now me c.a 0 != 0
  case true=>simp only[RA,jU q2 hc]
  have q2':=fq q2;obtain⟨ar,g0,g9,gk,_⟩:=gO q2';simp only[RB,Rz,q2',beq_self_eq_true,RA];generalize dt p.heap.ag now me c.a=i at *;simp only[(ar.at g0 g9).1,Ry,gW,xh hN,sL hN h3,uf];cases((i==0) || (!dy c.b 1 1000 || decide (i64.wrap ((nth p.heap.ag i).dX+c.b)>1000000)))
  · unfold ju;cases(eF p.Re (iw p (nth p.heap.ag i).Rt) (de.mk 0 (i64.wrap ((nth p.heap.ag i).cd*c.b)) 0)).2<;>cases(ga p.db (de.mk 0 (i64.wrap ((nth p.heap.ag i).cd*c.b)) 0)).2<;>simp only[RB,Bool.not_false,Bool.and_self,Bool.and_false,Bool.false_and,Bool.or_self,Bool.or_true,Bool.true_or,Bool.false_or,Bool.or_false,RC,Bool.and_true,RA,Rz,jU (show((6:Int) != 0)=true from rfl) hc,uF]
    rfl
  · simp only[RA,jU (show((2:Int) != 0)=true from rfl) hc]
def kn(p:bh)(c:dH):Int×Int×bh :=
  bif c.so==9 then
    bif !dy c.a 0 4 || !dT (de.mk c.b c.c c.d)then(2,0,p)else
    bif !(iG p.Re c.a (de.mk c.b c.c c.d)).2.2 then(6,0,p)else(0,(iG p.Re c.a (de.mk c.b c.c c.d)).2.1,vF p (iG p.Re c.a (de.mk c.b c.c c.d)).1)
  else bif c.so==10 then
    bif !dy c.a 0 4 || (!dy c.b 0 4 || (!dy c.c 0 2 || !uJ c.d))then(2,0,p)else
    bif !(jo p.Re c.a c.b (iB c.c c.d)).2 then(6,0,p)else(0,0,vF p (jo p.Re c.a c.b (iB c.c c.d)).1)
  else bif !(jm p.Re c.a).2 then(2,0,p)else(0,0,vF p (jm p.Re c.a).1)
theorem Ku{N:Nat}(hN:dh<=N){p:bh}(hp:g7 p)(me now th:Int)(c:dH):lr N (dO.mk p me now th) c=some ((kn p c).1,(kn p c).2.1,dO.mk (kn p c).2.2 me now th):=by
  have h3:=hp.b3;unfold lr kn;simp only[uz,pE,ko,AP,xJ,FV hN h3,Io hN h3,IS hN h3,Ry,gW];cases c.so==9
  · cases c.so==10
    · cases(jm p.Re c.a).2<;>rfl
    · cases(!dy c.a 0 4 || (!dy c.b 0 4 || (!dy c.c 0 2 || !uJ c.d)))
      · cases(jo p.Re c.a c.b (iB c.c c.d)).2<;>rfl
      · rfl
  · cases(!dy c.a 0 4 || !dT (de.mk c.b c.c c.d))
    · cases(iG p.Re c.a (de.mk c.b c.c c.d)).2.2<;>rfl
    · rfl
theorem P2{N:Nat}(hN:dh<=N){p:bh}(hp:g7 p){c:dH}(hc:(c.so==1)=false):tO N p c=some (fin c p (kn p c)):=by
  have h3:=hp.b3;have n2:=fun q=>jU (p:=p) (q:=q) (v:=0) (show((2:Int) != 0)=true from rfl) hc;have n6:=fun q=>jU (p:=p) (q:=q) (v:=0) (show((6:Int) != 0)=true from rfl) hc;unfold tO kn;simp only[vr,o7,jV,Ql,EZ,Gy hN h3,I8 hN h3,H7 hN h3,Ry,gW];cases c.so==9
  · cases c.so==10
    · cases(jm p.Re c.a).2
      · simp only[Bool.not_false,RA,Rz,n2]
      · rfl
    · cases(!dy c.a 0 4 || (!dy c.b 0 4 || (!dy c.c 0 2 || !uJ c.d)))
      · cases(jo p.Re c.a c.b (iB c.c c.d)).2
        · simp only[Bool.not_false,RA,Rz,n6]
        · rfl
      · simp only[RA,Rz,n2]
  · cases(!dy c.a 0 4 || !dT (de.mk c.b c.c c.d))
    · cases(iG p.Re c.a (de.mk c.b c.c c.d)).2.2
      · simp only[Bool.not_false,RA,Rz,n6]
      · rfl
    · simp only[RA,n2]
def tD(p:bh)(th a:Int):Int×Int×bh :=
  bif a==0 then(0,(nth p.heap.ag th).ee,p)else bif a==1 then(0,(nth p.heap.ag th).ef,p)else
  bif(a==2) || ((a==3) || (a==4))then(0,iX (sn p th) (i64.wrap (a-2)),p)else(2,0,p)
theorem AQ(a b c:Bool):(bif a then some a else bif b then some b else some c)=some (a || (b || c)):=by cases a<;>cases b<;>rfl
theorem Pd(a b:Bool):(bif a then some a else some b)=some (a || b):=by cases a<;>rfl
theorem Pa{N:Nat}(hN:dh<=N){p:bh}(hp:g7 p)(me now:Int){th:Int}(h0:0<=th)(h9:th<=9)(a:Int):nm N (dO.mk p me now th) a=some ((tD p th a).1,(tD p th a).2.1,dO.mk (tD p th a).2.2 me now th):=by
  unfold nm tD;simp only[(hp.ar.at h0 h9).1,zk hN hp.ok h0 h9,CI,Ry,AQ];cases a==0
  · cases a==1
    · cases(a==2) || ((a==3) || (a==4))<;>rfl
    · rfl
  · rfl
theorem Pt{N:Nat}(hN:dh<=N){p:bh}(hp:g7 p){th:Int}(h0:0<=th)(h9:th<=9){c:dH}(hc:(c.so==1)=false):rJ N p th c=some (fin c p (tD p th c.a)):=by
  unfold rJ tD;obtain⟨r0,r4⟩:=sD p (nth p.heap.ag th).Rt;simp only[(hp.ar.at h0 h9).1,xh hN,xf hp.ok r0 r4,CA,Ry,AQ,OT];cases c.a==0
  · cases c.a==1
    · cases(c.a==2) || ((c.a==3) || (c.a==4))
      · simp only[Rz,jU (show((2:Int) != 0)=true from rfl) hc]
      · rfl
    · rfl
  · rfl
theorem EA{l:List c6}{o:c6}:∀(m:List c6) (k:Nat),qM l o k m=(l, -1)\/∃(j:Nat) (g:Int),j<k+m.length/\qM l o k m=(l.set j (gq o g),(j:Int))/\gC (l.set j (gq o g))=true
  | [],k=>.inl rfl
  | x::m,k=>by
    unfold qM;split
    · rcases EA (l:=l) (o:=o) m (k+1)with h|⟨j,g,h1,h2,h3⟩
      · exact .inl h
      · exact .inr ⟨j,g,by simp only[List.length_cons];omega,h2,h3⟩
    · unfold putAt;split
      · rename_i q;simp only[RD]at q;exact .inr ⟨k,_,by simp,rfl,q.1⟩
      · exact .inl rfl
theorem wM{l:List c6}{o:c6}(h:decide ((hD l o).2<0)=false):∃(j:Nat) (g:Int),hD l o=(l.set j (gq o g),(j:Int))/\Ar (l.set j (gq o g))/\j<10:=by
  unfold hD at *;cases ha:gC l
  · rw[ha]at h;simp at h
  · rw[ha]at h;simp only[if_true]at *;have hl:=(fO.1 ha).len
    rcases EA (l:=l) (o:=o) (l.drop 1) 1 with e|⟨j,g,h1,h2,h3⟩
    · rw[e]at h;simp at h
    · exact⟨j,g,h2,fO.1 h3,by simp only[List.length_drop]at h1;omega⟩
def newObj(now box:Int)(c:dH):c6:=c6.mk 0 c.a box c.e (i64.wrap (now+c.d)) c.c 0 0 0 false [-1, -1] (bif c.a==2 then List.replicate c.c.toNat 0 else[]) []
def mR(now:Int)(c:dH):Bool:=!dy c.a 1 4 || (!dy c.c 0 8 || (!dy c.d 1 1000 || (decide (i64.wrap (now+c.d)>1000000) || !dy c.e 0 4)))
def cost(c:dH):de:=de.mk c.c (i64.wrap (c.c*c.d)) 0
def jf(p:bh)(me now:Int)(c:dH):Int×Int×bh :=
  bif mR now c then(2,0,p)else
  bif eL p.heap.ag now me c.b 1 != 0 then(eL p.heap.ag now me c.b 1,0,p)else
  bif !ju p c.e (cost c)then(6,0,p)else
  bif decide ((hD p.heap.ag (newObj now (dt p.heap.ag now me c.b) c)).2<0)then(7,0,oe p c.e (cost c))else
  (0,kW me (hD p.heap.ag (newObj now (dt p.heap.ag now me c.b) c)).2 (nth (hD p.heap.ag (newObj now (dt p.heap.ag now me c.b) c)).1 (hD p.heap.ag (newObj now (dt p.heap.ag now me c.b) c)).2).Rs,
    mD (oe p c.e (cost c)) (jS (df.mk (hD p.heap.ag (newObj now (dt p.heap.ag now me c.b) c)).1 p.heap.gc) (hD p.heap.ag (newObj now (dt p.heap.ag now me c.b) c)).2))
theorem uk{now:Int}{c:dH}(h:mR now c=false):0<=c.c/\c.c<=8:=by
  unfold mR at h;simp only[Bool.or_eq_false_iff,Bool.not_eq_false']at h;exact dM.1 h.2.1
theorem yU{now box:Int}{c:dH}(h:0<=c.c/\c.c<=8):dA (newObj now box c)<=100:=by
  unfold dA newObj;cases c.a==2
  · simp
  · simp only[RA,List.length_replicate,List.length_cons,List.length_nil];omega
theorem Ab(now box:Int)(c:dH):mG (newObj now box c):=by show(-9223372036854775808:Int)<=0;decide
theorem Pu{c:Int}(h:0<=c/\c<=8):mk Int c=some (List.replicate c.toNat 0):=by
  have hB:(16777216:Nat)=dh:=rfl;unfold mk;rw[if_pos ⟨h.1,by omega⟩];rfl
theorem Mz(a b c d e:Bool):(bif a then some true else bif b then some true else bif c then some true else bif d then some true else some e)=some (a || (b || (c || (d || e)))):=by cases a<;>cases b<;>cases c<;>cases d<;>rfl
theorem Pj{N:Nat}(hN:dh+1<=N){p:bh}(hp:g7 p)(me now th:Int)(c:dH):nb N (dO.mk p me now th) c=some ((jf p me now c).1,(jf p me now c).2.1,dO.mk (jf p me now c).2.2 me now th):=by
  have hN':dh<=N:=Nat.le_of_succ_le hN;have h4:=hp.b4;have h3:=hp.b3;have h5:=hp.b5;unfold nb jf;simp only[xc hN',h4,ko,uz,Ry,vW,vx,wm,Mz];rw[show(!dy c.a 1 4 || (!dy c.c 0 8 || (!dy c.d 1 1000 || (decide (i64.wrap (now+c.d)>1000000) || !dy c.e 0 4))))=mR now c from rfl];cases q1:mR now c
  case true=>rfl
  have hc:=uk q1;cases q2:eL p.heap.ag now me c.b 1 != 0
  case true=>rfl
  have q2':=fq q2;simp only[Rz,RA,q2',beq_self_eq_true];generalize dt p.heap.ag now me c.b=box;rw[show de.mk c.c (i64.wrap (c.c*c.d)) 0=cost c from rfl];simp only[My hN' (x:=dO.mk p me now th) h3,Ry];cases q3:ju p c.e (cost c)
  · rfl
  simp only[RB,Rz,RA,Pu hc,Ry,Cs];rw[show(bif c.a==2 then some (List.replicate c.c.toNat 0)else some ([]:List Int))=some (bif c.a==2 then List.replicate c.c.toNat 0 else[]) from oy _ _ _];simp only[Ry];rw[show c6.mk 0 c.a box c.e (i64.wrap (now+c.d)) c.c 0 0 0 false [-1, -1] (bif c.a==2 then List.replicate c.c.toNat 0 else[]) []=newObj now box c from rfl];have ho:=yU (now:=now) (box:=box) hc;rw[Bh hN h4 (o:=newObj now box c) (by omega)];simp only[Ry];cases q4:decide ((hD p.heap.ag (newObj now box c)).2<0)
  case true=>rfl
  obtain⟨j,g,e,ar,hj⟩:=wM q4;have h1:=ar.sz;have hB:(16777216:Nat)=dh:=rfl;rw[e];simp only[Rz,(ar.at (i:=(j:Int)) (by omega) (by omega)).1,Ry,Ax];rw[Fm hN' (h:=df.mk (p.heap.ag.set j (gq (newObj now box c) g)) p.heap.gc) (by show eK dA (p.heap.ag.set j (gq (newObj now box c) g))<dh;omega) (by show p.heap.gc.da.length<dh;omega)];rfl
theorem DC(l:List c6)(now me h k:Int):(eL l now me h k==6)=false/\(eL l now me h k==7)=false:=by
  unfold eL;cases lC h
  · exact⟨rfl,rfl⟩
  cases lZ h != me
  case true=>exact⟨rfl,rfl⟩
  cases decide (dt l now me h<0)
  case true=>exact⟨rfl,rfl⟩
  cases(k != 0)&&((nth l (dt l now me h)).so != k)<;>exact⟨rfl,rfl⟩
theorem Eu{c:dH}{p q:bh}{k v:Int}(h:(k != 0)=true)(h6:(k==6)=false)(h7:(k==7)=false):fin c p (k,v,q)=(p,dE.mk k 0):=by
  unfold fin
  have:(k==0)=false:=by simpa[bne]using h
  rw[this];simp only[Rz,h6,h7,Bool.or_self,Bool.and_false]
theorem Co{c:dH}{p q:bh}{k v:Int}(h:(k != 0)=true)(h6:((k==6) || (k==7))=true)(hc:(c.so==1)=true):fin c p (k,v,q)=(BJ p,dE.mk k 0):=by
  unfold fin
  have:(k==0)=false:=by simpa[bne]using h
  rw[this];simp only[Rz,h6,hc,Bool.and_self,RA]
theorem PD{N:Nat}(hN:dh<=N){p:bh}(hp:g7 p)(me now:Int){c:dH}(hc1:(c.so==1)=true):rO N p me now c=some (fin c p (jf p me now c)):=by
  have h4:=hp.b4;have h3:=hp.b3;have h5:=hp.b5;unfold rO jf;simp only[AA hN h4 hp.w _ _ _ (show(0:Int)<1 by decide),jV,vr,Ry,Mz];rw[show(!dy c.a 1 4 || (!dy c.c 0 8 || (!dy c.d 1 1000 || (decide (i64.wrap (now+c.d)>1000000) || !dy c.e 0 4))))=mR now c from rfl];cases q1:mR now c
  case true=>simp only[RA,Eu (show((2:Int) != 0)=true from rfl) rfl rfl]
  have hc:=uk q1;cases q2:eL p.heap.ag now me c.b 1 != 0
  case true=>simp only[RA,Rz,Eu q2 (DC _ _ _ _ _).1 (DC _ _ _ _ _).2]
  have q2':=fq q2;simp only[Rz,RA,q2',beq_self_eq_true];generalize dt p.heap.ag now me c.b=box;rw[show de.mk c.c (i64.wrap (c.c*c.d)) 0=cost c from rfl];simp only[sL hN h3,uf,Ry,gW];rw[show(!(eF p.Re c.e (cost c)).2 || !(ga p.db (de.mk 0 (i64.wrap (c.c*c.d)) 0)).2)=!ju p c.e (cost c) by unfold ju;rw[Bool.not_and];rfl];cases q3:ju p c.e (cost c)
  · simp only[Bool.not_false,RA,Co (show((6:Int) != 0)=true from rfl) rfl hc1];rfl
  simp only[RB,Rz,RA,Pu hc,Ry];rw[show(bif c.a==2 then some (List.replicate c.c.toNat 0)else some ([]:List Int))=some (bif c.a==2 then List.replicate c.c.toNat 0 else[]) from oy _ _ _];simp only[Ry];rw[show c6.mk 0 c.a box c.e (i64.wrap (now+c.d)) c.c 0 0 0 false [-1, -1] (bif c.a==2 then List.replicate c.c.toNat 0 else[]) []=newObj now box c from rfl];have ho:=yU (now:=now) (box:=box) hc;rw[A8 hN h4 hp.w (o:=newObj now box c) (by omega) (Ab _ _ _)];simp only[Ry];cases q4:decide ((hD p.heap.ag (newObj now box c)).2<0)
  case true =>
    simp only[RA,Co (show((7:Int) != 0)=true from rfl) rfl hc1];rfl
  obtain⟨j,g,e,ar,hj⟩:=wM q4;have h1:=ar.sz;have hB:(16777216:Nat)=dh:=rfl;have hw':wA (p.heap.ag.set j (gq (newObj now box c) g)):=iR hp.w (z8 (Ab _ _ _));rw[e];simp only[Rz,(ar.at (i:=(j:Int)) (by omega) (by omega)).1,Ry,vh];rw[DK hN (h:=df.mk (p.heap.ag.set j (gq (newObj now box c) g)) p.heap.gc) (by show eK dA (p.heap.ag.set j (gq (newObj now box c) g))<dh;omega) (by show p.heap.gc.da.length<dh;omega) hw'];rfl
def sY(l:List c6)(k w b:Int):List c6:=bif decide (k>=0)&&((nth l k).Rm==w)then(l.set k.toNat (waiting (nth l k) 0)).set k.toNat (xQ (nth (l.set k.toNat (waiting (nth l k) 0)) k) b)else l
theorem Cv{l:List c6}{k w b:Int}(h:0<=k->k<(l.length:Int)){β:Type}(f:List c6->Option β):
    ((bif decide (k>=0)then((idx l k).bind fun y=>some (y.Rm==w))else(some false):Option Bool).bind fun j=>(bif j then((idx l k).bind fun y=>(some (l.set (k:Int).toNat (waiting y 0))).bind fun z=>(idx z k).bind fun x=>(some (z.set (k:Int).toNat (xQ x b))).bind fun v=>some v)else(some l):Option (List c6)).bind f)=f (sY l k w b):=by
  unfold sY;cases hk:decide (k>=0)
  · rfl
  have k0:0<=k:=by simpa using hk
  have e:=eP k0 (h k0);have e2:∀z,idx (l.set k.toNat z) k=some (nth (l.set k.toNat z) k):=fun z=>eP k0 (by simp only[List.length_set];exact h k0);simp only[RA,e,e2,Ry,RC];cases(nth l k).Rm==w<;>rfl
def asked(l:List c6)(g me th:Int)(c:dH):List c6:=l.set g.toNat (kR (nth l g) ((nth l g).Rf++[eS.mk (kW me th (nth l th).Rs) c.b]))
def served(l:List c6)(g:Int):List c6:=l.set g.toNat (kR (nth l g) ((nth l g).Rf.drop 1))
def jc(p:bh)(me now th:Int)(c:dH):Int×Int×bh :=
  bif eL p.heap.ag now me c.a 3 != 0 then(eL p.heap.ag now me c.a 3,0,p)else
  bif !dy c.b 0 999 then(2,0,p)else
  bif c.so==12 then
    bif decide (((nth p.heap.ag (dt p.heap.ag now me c.a)).Rf.length:Int)>=2)then(8,0,p)else
    (0,0,jz p ((asked p.heap.ag (dt p.heap.ag now me c.a) me th c).set th.toNat (waiting (nth (asked p.heap.ag (dt p.heap.ag now me c.a) me th c) th) (i64.wrap (c.a+1)))))
  else
    bif((nth p.heap.ag (dt p.heap.ag now me c.a)).Rf.length:Int)==0 then(8,0,p)else
    (0,(nth (nth p.heap.ag (dt p.heap.ag now me c.a)).Rf 0).n,jz p (sY (served p.heap.ag (dt p.heap.ag now me c.a)) (dt (served p.heap.ag (dt p.heap.ag now me c.a)) now me (nth (nth p.heap.ag (dt p.heap.ag now me c.a)).Rf 0).Rx) (i64.wrap (c.a+1)) c.b))
theorem Fc{α:Type}{l:List α}{k:Nat}(h:k<=l.length):sub l (k:Int) (l.length:Int)=some (l.drop k):=by
  unfold sub;rw[if_pos ⟨by omega,by omega,by omega⟩];simp only[Int.toNat_natCast];rw[List.take_of_length_le (by simp)]
theorem yM{o:c6}(h:dA o<=12):o.Rf.length<=12:=by unfold dA at h;omega
theorem CX{o:c6}{q:List eS}(h:dA o<=12)(hq:q.length<=20):dA (kR o q)<=100000:=by
  unfold dA at h;unfold dA kR;simp only;omega
theorem pc{l:List c6}{now me h:Int}(hl:l.length=10)(h0:0<=dt l now me h):dt l now me h<(l.length:Int):=by
  obtain⟨_,_,h9,_⟩:=xi (l:=l) (now:=now) (me:=me) (h:=h) (decide_eq_false (by omega));omega
theorem Ps{N:Nat}(hN:dh<=N){p:bh}(hp:g7 p)(me now:Int){th:Int}(t0:0<=th)(t9:th<=9){c:dH}(hk:(c.so==13)=!(c.so==12)):nn N (dO.mk p me now th) c=some ((jc p me now th c).1,(jc p me now th c).2.1,dO.mk (jc p me now th c).2.2 me now th):=by
  have h4:=hp.b4;unfold nn jc;simp only[xc hN,h4,ko,Ry,vW,vx,wm];cases q2:eL p.heap.ag now me c.a 3 != 0
  case true=>rfl
  have q2':=fq q2;obtain⟨ar,g0,g9,gk,_⟩:=gO q2';simp only[RB,Rz,q2',beq_self_eq_true,RA];generalize dt p.heap.ag now me c.a=i at *;have ho:=mY ar g0 g9;have hq:=yM ho;have hl:=ar.len;have hB:(16777216:Nat)=dh:=rfl;simp only[(ar.at g0 g9).1,(ar.at t0 t9).1,Ry];cases q3:dy c.b 0 999
  · rfl
  rw[hk];cases q4:c.so==12
  · simp only[RB,Bool.not_false,Rz,RA,Ry];cases q5:((nth p.heap.ag i).Rf.length:Int)==0
    case true=>rfl
    have l1:1<=(nth p.heap.ag i).Rf.length:=by rw[beq_eq_false_iff_ne]at q5;omega
    have hsub:sub (nth p.heap.ag i).Rf 1 ((nth p.heap.ag i).Rf.length:Int)=some ((nth p.heap.ag i).Rf.drop 1):=Fc l1;have happ:app ([]:List eS) ((nth p.heap.ag i).Rf.drop 1)=some ((nth p.heap.ag i).Rf.drop 1):=gg (by simp only[List.length_drop];omega);have hi0:idx (nth p.heap.ag i).Rf 0=some (nth (nth p.heap.ag i).Rf 0):=eP (i:=0) (by decide) (by omega);simp only[Rz,hsub,happ,hi0,Ry];have hs:eK dA (p.heap.ag.set i.toNat (kR (nth p.heap.ag i) ((nth p.heap.ag i).Rf.drop 1)))<dh:=za ar (CX ho (by simp only[List.length_drop];omega));have e1:=vj hN hs now me (nth (nth p.heap.ag i).Rf 0).Rx;unfold kR at e1;rw[e1,Ry];exact Cv (l:=served p.heap.ag i) (pc (by unfold served;simp only[List.length_set];exact hl)) fun z=>some ((0:Int),(nth (nth p.heap.ag i).Rf 0).n,dO.mk (jz p z) me now th)
  · simp only[RB,Bool.not_false,Rz,RA,Ry,gW,Bool.or_false];cases q5:decide (((nth p.heap.ag i).Rf.length:Int)>=2)
    case true=>rfl
    have happ:∀m,app (nth p.heap.ag i).Rf [m]=some ((nth p.heap.ag i).Rf++[m]):=fun m=>hY hq (by omega);have e2:∀z,idx (p.heap.ag.set i.toNat z) th=some (nth (p.heap.ag.set i.toNat z) th):=fun z=>eP t0 (by simp only[List.length_set];omega);simp only[Rz,Ax,happ,e2,Ry];rfl
theorem OQ{N:Nat}(hN:dh<=N){p:bh}(hp:g7 p)(me now:Int){th:Int}(t0:0<=th)(t9:th<=9){c:dH}(hc:(c.so==1)=false):si N p me now th c=some (fin c p (jc p me now th c)):=by
  have h4:=hp.b4;unfold si jc;simp only[AA hN h4 hp.w _ _ _ (show(0:Int)<3 by decide),jV,Ry];cases q2:eL p.heap.ag now me c.a 3 != 0
  case true=>simp only[RA,jU q2 hc]
  have q2':=fq q2;obtain⟨ar,g0,g9,gk,_⟩:=gO q2';simp only[RB,Rz,q2',beq_self_eq_true,RA];generalize dt p.heap.ag now me c.a=i at *;have ho:=mY ar g0 g9;have hq:=yM ho;have hl:=ar.len;have hB:(16777216:Nat)=dh:=rfl;simp only[(ar.at g0 g9).1,(ar.at t0 t9).1,Ry];cases q3:dy c.b 0 999
  · simp only[Bool.not_false,RA,jU (show((2:Int) != 0)=true from rfl) hc]
  cases q4:c.so==12
  · simp only[RB,Bool.not_false,Rz,RA,Ry];cases q5:((nth p.heap.ag i).Rf.length:Int)==0
    case true=>simp only[RA,jU (show((8:Int) != 0)=true from rfl) hc]
    have l1:1<=(nth p.heap.ag i).Rf.length:=by rw[beq_eq_false_iff_ne]at q5;omega
    have hsub:sub (nth p.heap.ag i).Rf 1 ((nth p.heap.ag i).Rf.length:Int)=some ((nth p.heap.ag i).Rf.drop 1):=Fc l1;have happ:app ([]:List eS) ((nth p.heap.ag i).Rf.drop 1)=some ((nth p.heap.ag i).Rf.drop 1):=gg (by simp only[List.length_drop];omega);have hi0:idx (nth p.heap.ag i).Rf 0=some (nth (nth p.heap.ag i).Rf 0):=eP (i:=0) (by decide) (by omega);simp only[Rz,hsub,happ,hi0,Ry,uF];have hs:eK dA (p.heap.ag.set i.toNat (kR (nth p.heap.ag i) ((nth p.heap.ag i).Rf.drop 1)))<dh:=za ar (CX ho (by simp only[List.length_drop];omega));have hx:wA (p.heap.ag.set i.toNat (kR (nth p.heap.ag i) ((nth p.heap.ag i).Rf.drop 1))):=iR hp.w (show mG (nth p.heap.ag i) from hp.w _ (ar.at g0 g9).2);have e1:=ve hN hs hx now me (nth (nth p.heap.ag i).Rf 0).Rx;unfold kR at e1;rw[e1,Ry];exact Cv (l:=served p.heap.ag i) (pc (by unfold served;simp only[List.length_set];exact hl)) fun z=>some (jz p z,dE.mk 0 (nth (nth p.heap.ag i).Rf 0).n)
  · simp only[RB,Bool.not_false,Rz,RA,Ry,gW,Bool.or_false];cases q5:decide (((nth p.heap.ag i).Rf.length:Int)>=2)
    case true=>simp only[RA,jU (show((8:Int) != 0)=true from rfl) hc]
    have happ:∀m,app (nth p.heap.ag i).Rf [m]=some ((nth p.heap.ag i).Rf++[m]):=fun m=>hY hq (by omega);have hap0:app ([]:List eS) (nth p.heap.ag i).Rf=some (nth p.heap.ag i).Rf:=gg (by omega);have e2:∀z,idx (p.heap.ag.set i.toNat z) th=some (nth (p.heap.ag.set i.toNat z) th):=fun z=>eP t0 (by simp only[List.length_set];omega);simp only[Rz,vh,hap0,happ,e2,Ry,uF];rfl
def pe(p:bh)(c:dH):Int×Int×bh:=bif !dy c.a 0 ((p.dc.length:Int)-1)then(2,0,p)else(0,0,tY p (p.dc.take c.a.toNat++p.dc.drop (c.a.toNat+1)))
theorem FB{α:Type}{l:List α}{i j:Int}(h0:0<=i)(h1:i<=j)(h2:j<=(l.length:Int)):sub l i j=some ((l.drop i.toNat).take (j.toNat-i.toNat)):=by
  unfold sub;rw[if_pos ⟨h0,h1,h2⟩]
theorem g7.b6{p:bh}(h:g7 p):p.dc.length<dh:=(gE (p:=p) (Nat.lt_of_le_of_lt h.sz (by decide))).2.2.2.2.2
theorem KG{α:Type}{l:List α}(hl:l.length<dh){a:Int}(h:dy a 0 ((l.length:Int)-1)=true):i64.wrap (a+1)=a+1/\sub l 0 a=some (l.take a.toNat)/\sub l (a+1) (l.length:Int)=some (l.drop (a.toNat+1))/\∃m,sub l a (a+1)=some m:=by
  have hB:(16777216:Nat)=dh:=rfl;rw[dM]at h;refine⟨dF (by omega) (by omega),?_,?_,_,FB h.1 (by omega) (by omega)⟩
  · rw[FB (Int.le_refl 0) h.1 (by omega)];simp
  · rw[FB (by omega) (by omega) (Int.le_refl _),show(a+1).toNat=a.toNat+1 by omega,List.take_of_length_le (by simp)]
theorem ED(N:Nat){l:List eA}(hl:l.length<dh){a:Int}(h:dy a 0 ((l.length:Int)-1)=true):nT N l a (i64.wrap (a+1))=some (l.take a.toNat++l.drop (a.toNat+1)):=by
  obtain⟨h1,h2,h3,m,h4⟩:=KG hl h;unfold nT
  have hne:(a==a+1)=false:=by rw[beq_eq_false_iff_ne];omega
  simp only[h1,h2,h3,h4,hne,Ry,Rz]
def gm(p:bh)(me now th:Int)(c:dH):Int×Int×bh :=
  bif c.so==1 then jf p me now c else bif(c.so==2) || (c.so==3)then j6 p me now c else bif(c.so==4) || (c.so==5)then jM p me now c else
  bif(c.so==6) || (c.so==7)then eZ p me now c else bif c.so==8 then ij p me now c else bif(c.so==9) || ((c.so==10) || (c.so==11))then kn p c else
  bif(c.so==12) || (c.so==13)then jc p me now th c else bif c.so==14 then tD p th c.a else bif c.so==15 then pe p c else(2,0,p)
theorem BZ(p:bh)(me now:Int)(c:dH):(j6 p me now c).2.1=0/\bh.mk p.Rd p.own p.Re (j6 p me now c).2.2.heap p.dc (j6 p me now c).2.2.Ro (j6 p me now c).2.2.Rn (j6 p me now c).2.2.db (j6 p me now c).2.2.dx (j6 p me now c).2.2.Rk=(j6 p me now c).2.2:=by
  unfold j6;cases !dy c.b 0 1
  · cases eL p.heap.ag now me c.a 0 != 0
    · cases(c.so==2)&&(eL p.heap.ag now me c.c 0 != 0)<;>exact⟨rfl,rfl⟩
    · exact⟨rfl,rfl⟩
  · exact⟨rfl,rfl⟩
theorem B2(p:bh)(me now:Int)(c:dH):(jM p me now c).2.1=0/\bh.mk p.Rd p.own p.Re (jM p me now c).2.2.heap p.dc (jM p me now c).2.2.Ro (jM p me now c).2.2.Rn (jM p me now c).2.2.db (jM p me now c).2.2.dx (jM p me now c).2.2.Rk=(jM p me now c).2.2:=by
  unfold jM;cases eL p.heap.ag now me c.a 0 != 0
  · cases dt p.heap.ag now me c.a==0
    · cases(c.so==4)&&(eL p.heap.ag now me c.b 1 != 0)<;>exact⟨rfl,rfl⟩
    · exact⟨rfl,rfl⟩
  · exact⟨rfl,rfl⟩
theorem HP(p:bh)(me now:Int)(c:dH):bh.mk p.Rd p.own p.Re (df.mk (eZ p me now c).2.2.heap.ag (eT.mk (eZ p me now c).2.2.heap.gc.Rg (eZ p me now c).2.2.heap.gc.Rp (eZ p me now c).2.2.heap.gc.Rh p.heap.gc.da)) p.dc (eZ p me now c).2.2.Ro (eZ p me now c).2.2.Rn (eZ p me now c).2.2.db (eZ p me now c).2.2.dx (eZ p me now c).2.2.Rk=(eZ p me now c).2.2:=by
  unfold eZ;cases eL p.heap.ag now me c.a 2 != 0
  · cases !dy c.b 0 (((nth p.heap.ag (dt p.heap.ag now me c.a)).Ri.length:Int)-1)
    · cases c.so==7
      · cases !dy c.c 0 999<;>rfl
      · rfl
    · rfl
  · rfl
theorem z7(p:bh)(me now:Int)(c:dH):(ij p me now c).2.1=0/\bh.mk p.Rd p.own (ij p me now c).2.2.Re (df.mk (ij p me now c).2.2.heap.ag (eT.mk (ij p me now c).2.2.heap.gc.Rg (ij p me now c).2.2.heap.gc.Rp (ij p me now c).2.2.heap.gc.Rh p.heap.gc.da)) p.dc (ij p me now c).2.2.Ro (ij p me now c).2.2.Rn (ij p me now c).2.2.db (ij p me now c).2.2.dx (ij p me now c).2.2.Rk=(ij p me now c).2.2:=by
  unfold ij;cases eL p.heap.ag now me c.a 0 != 0
  · cases(dt p.heap.ag now me c.a==0) || (!dy c.b 1 1000 || decide (i64.wrap ((nth p.heap.ag (dt p.heap.ag now me c.a)).dX+c.b)>1000000))
    · cases ju p (iw p (nth p.heap.ag (dt p.heap.ag now me c.a)).Rt) (de.mk 0 (i64.wrap ((nth p.heap.ag (dt p.heap.ag now me c.a)).cd*c.b)) 0)<;>exact⟨rfl,rfl⟩
    · exact⟨rfl,rfl⟩
  · exact⟨rfl,rfl⟩
theorem J8(p:bh)(c:dH):bh.mk p.Rd p.own (kn p c).2.2.Re (df.mk p.heap.ag (eT.mk (kn p c).2.2.heap.gc.Rg (kn p c).2.2.heap.gc.Rp (kn p c).2.2.heap.gc.Rh p.heap.gc.da)) p.dc (kn p c).2.2.Ro (kn p c).2.2.Rn (kn p c).2.2.db (kn p c).2.2.dx (kn p c).2.2.Rk=(kn p c).2.2:=by
  unfold kn;cases c.so==9
  · cases c.so==10
    · cases !(jm p.Re c.a).2<;>rfl
    · cases(!dy c.a 0 4 || (!dy c.b 0 4 || (!dy c.c 0 2 || !uJ c.d)))
      · cases !(jo p.Re c.a c.b (iB c.c c.d)).2<;>rfl
      · rfl
  · cases(!dy c.a 0 4 || !dT (de.mk c.b c.c c.d))
    · cases !(iG p.Re c.a (de.mk c.b c.c c.d)).2.2<;>rfl
    · rfl
theorem HF(p:bh)(me now th:Int)(c:dH):bh.mk p.Rd p.own p.Re (df.mk (jc p me now th c).2.2.heap.ag (eT.mk (jc p me now th c).2.2.heap.gc.Rg (jc p me now th c).2.2.heap.gc.Rp (jc p me now th c).2.2.heap.gc.Rh p.heap.gc.da)) p.dc (jc p me now th c).2.2.Ro (jc p me now th c).2.2.Rn (jc p me now th c).2.2.db (jc p me now th c).2.2.dx (jc p me now th c).2.2.Rk=(jc p me now th c).2.2:=by
  unfold jc;cases eL p.heap.ag now me c.a 3 != 0
  · cases !dy c.b 0 999
    · cases c.so==12
      · cases((nth p.heap.ag (dt p.heap.ag now me c.a)).Rf.length:Int)==0<;>rfl
      · cases decide (((nth p.heap.ag (dt p.heap.ag now me c.a)).Rf.length:Int)>=2)<;>rfl
    · rfl
  · rfl
theorem Hv(p:bh)(me now:Int)(c:dH):bh.mk p.Rd p.own (jf p me now c).2.2.Re (jf p me now c).2.2.heap p.dc (jf p me now c).2.2.Ro (jf p me now c).2.2.Rn (jf p me now c).2.2.db (jf p me now c).2.2.dx (jf p me now c).2.2.Rk=(jf p me now c).2.2:=by
  unfold jf;cases mR now c
  · cases eL p.heap.ag now me c.b 1 != 0
    · cases !ju p c.e (cost c)
      · cases decide ((hD p.heap.ag (newObj now (dt p.heap.ag now me c.b) c)).2<0)<;>rfl
      · rfl
    · rfl
  · rfl
theorem vq(p:bh)(th a:Int):(tD p th a).2.2=p:=by
  unfold tD;cases a==0
  · cases a==1
    · cases(a==2) || ((a==3) || (a==4))<;>rfl
    · rfl
  · rfl
theorem K5{a m n:Int}(hne:m ≠ n)(h:((a==m) || (a==n))=true):(a==m)=!(a==n):=by
  simp only[Bool.or_eq_true,beq_iff_eq]at h
  rcases h with h|h
  · subst h
    have:(a==n)=false:=by rw[beq_eq_false_iff_ne];exact hne
    rw[this];simp
  · subst h
    have:(a==m)=false:=by rw[beq_eq_false_iff_ne];exact fun q=>hne q.symm
    rw[this];simp
theorem QC{N:Nat}(hN:dh+1<=N){p:bh}(hp:g7 p)(me now:Int){th:Int}(t0:0<=th)(t9:th<=9)(c:dH):oU N (dO.mk p me now th) c=some ((gm p me now th c).1,(gm p me now th c).2.1,dO.mk (gm p me now th c).2.2 me now th):=by
  have hN':dh<=N:=Nat.le_of_succ_le hN;unfold oU gm;simp only[Pj hN hp,OM hN' hp,Pz hN' hp,JD hN' hp,M6 hN' hp,Ku hN' hp,Pa hN' hp _ _ t0 t9,ko,Ry,Pd,AQ,(BZ p me now c).2,(B2 p me now c).2,HP,(z7 p me now c).2,J8,Hv,vq,vW,vx,wm];cases c.so==1
  case true=>rfl
  cases(c.so==2) || (c.so==3)
  case true=>simp only[Rz,RA,(BZ p me now c).1]
  cases(c.so==4) || (c.so==5)
  case true=>simp only[Rz,RA,(B2 p me now c).1]
  cases(c.so==6) || (c.so==7)
  case true=>rfl
  cases c.so==8
  case true=>simp only[Rz,RA,(z7 p me now c).1]
  cases(c.so==9) || ((c.so==10) || (c.so==11))
  case true=>rfl
  cases hg:(c.so==12) || (c.so==13)
  case true =>
    have:(c.so==13)=!(c.so==12):=by
      rw[Bool.or_comm]at hg;exact K5 (by decide) hg
    simp only[Rz,RA,Ps hN' hp me now t0 t9 this,Ry,HF]
  cases c.so==14
  case true=>simp only[Rz,RA,vq]
  cases c.so==15
  case false=>rfl
  have h6:=hp.b6;unfold pe;simp only[Rz,RA,Dx h6];cases hi:dy c.a 0 ((p.dc.length:Int)-1)
  · rfl
  simp only[RB,Rz,ED N h6 hi,Ry];rfl
theorem rj{p:bh}{now th:Int}(h:iV p now th=true):dI p=true/\0<=th/\th<=9:=by
  unfold iV at h;simp only[RD]at h;exact qS (now:=now) (by simpa using h.1)
def kc(p:bh)(me now th:Int)(c:dH):bh×dE :=
  bif !dI p || (!dy me 0 2 || !dy now 0 1000000)then(p,dE.mk 2 0)else bif !iV p now th then(p,dE.mk 1 0)else fin c p (gm p me now th c)
theorem PO(p:bh)(me now th:Int)(c:dH):bh.mk p.Rd p.own (gm p me now th c).2.2.Re (gm p me now th c).2.2.heap (gm p me now th c).2.2.dc (gm p me now th c).2.2.Ro (gm p me now th c).2.2.Rn (gm p me now th c).2.2.db (gm p me now th c).2.2.dx (gm p me now th c).2.2.Rk=(gm p me now th c).2.2:=by
  unfold gm;cases c.so==1
  case true=>rw[RA, <- Hv]
  cases(c.so==2) || (c.so==3)
  case true=>rw[Rz,RA, <- (BZ p me now c).2]
  cases(c.so==4) || (c.so==5)
  case true=>rw[Rz,Rz,RA, <- (B2 p me now c).2]
  cases(c.so==6) || (c.so==7)
  case true=>rw[Rz,Rz,Rz,RA, <- HP]
  cases c.so==8
  case true=>rw[Rz,Rz,Rz,Rz,RA, <- (z7 p me now c).2]
  cases(c.so==9) || ((c.so==10) || (c.so==11))
  case true=>simp only[Rz,RA];rw[<- J8]
  cases(c.so==12) || (c.so==13)
  case true=>simp only[Rz,RA];rw[<- HF]
  cases c.so==14
  case true=>simp only[Rz,RA,vq,wm]
  cases c.so==15
  case false=>rfl
  simp only[Rz,RA];unfold pe;cases !dy c.a 0 ((p.dc.length:Int)-1)<;>rfl
theorem IP{N:Nat}(hN:dh+1<=N){p:bh}(hb:dG p<=3000000)(hw:wP p)(me now th:Int)(c:dH):qh N p me now th c=some (kc p me now th c):=by
  have hN':dh<=N:=Nat.le_of_succ_le hN;have hB:dG p<dh:=Nat.lt_of_le_of_lt hb (by decide);unfold qh kc;simp only[sA hN' hB,xO,vD,oH hN' hB,CQ hN' hB,Ry,gW];cases !dI p || (!dy me 0 2 || !dy now 0 1000000)
  case true=>rfl
  cases hc:iV p now th
  · rfl
  obtain⟨ok,t0,t9⟩:=rj hc;simp only[RB,Rz,QC hN ⟨ok,hb,hw⟩ me now t0 t9,Ry,PO,iK];unfold fin;cases(gm p me now th c).1==0
  · simp only[Rz];cases(c.so==1)&&(((gm p me now th c).1==6) || ((gm p me now th c).1==7))<;>rfl
  · rfl
theorem Ch(p:bh)(me now:Int)(c:dH){β:Type}(x:Option β):kO p.Rd.Rb (fin c p (eZ p me now c)).1.Rd.Rb (kO p.own (fin c p (eZ p me now c)).1.own (kO p.Re (fin c p (eZ p me now c)).1.Re (kO p.heap.ag (fin c p (eZ p me now c)).1.heap.ag (kO p.heap.gc.da (fin c p (eZ p me now c)).1.heap.gc.da (kO p.dc (fin c p (eZ p me now c)).1.dc x)))))=x:=by
  have h:(eZ p me now c).2.2.Rd=p.Rd/\(eZ p me now c).2.2.own=p.own/\(eZ p me now c).2.2.Re=p.Re/\(eZ p me now c).2.2.heap.ag.length=p.heap.ag.length/\(eZ p me now c).2.2.heap.gc=p.heap.gc/\(eZ p me now c).2.2.dc=p.dc:=by
    unfold eZ;cases eL p.heap.ag now me c.a 2 != 0
    case true=>exact⟨rfl,rfl,rfl,rfl,rfl,rfl⟩
    cases !dy c.b 0 (((nth p.heap.ag (dt p.heap.ag now me c.a)).Ri.length:Int)-1)
    case true=>exact⟨rfl,rfl,rfl,rfl,rfl,rfl⟩
    cases c.so==7
    case true=>exact⟨rfl,rfl,rfl,rfl,rfl,rfl⟩
    cases !dy c.c 0 999
    case true=>exact⟨rfl,rfl,rfl,rfl,rfl,rfl⟩
    exact⟨rfl,rfl,rfl,List.length_set,rfl,rfl⟩
  have g:(fin c p (eZ p me now c)).1.Rd.Rb.length=p.Rd.Rb.length/\(fin c p (eZ p me now c)).1.own.length=p.own.length/\(fin c p (eZ p me now c)).1.Re.length=p.Re.length/\(fin c p (eZ p me now c)).1.heap.ag.length=p.heap.ag.length/\(fin c p (eZ p me now c)).1.heap.gc.da.length=p.heap.gc.da.length/\(fin c p (eZ p me now c)).1.dc.length=p.dc.length:=by
    unfold fin;cases(eZ p me now c).1==0
    · cases(c.so==1)&&(((eZ p me now c).1==6) || ((eZ p me now c).1==7))<;>exact⟨rfl,rfl,rfl,rfl,rfl,rfl⟩
    · simp only[RA];rw[h.1,h.2.1,h.2.2.1,h.2.2.2.2.1,h.2.2.2.2.2];exact⟨rfl,rfl,rfl,h.2.2.2.1,rfl,rfl⟩
  rw[ri g.1,ri g.2.1,ri g.2.2.1,ri g.2.2.2.1,ri g.2.2.2.2.1,ri g.2.2.2.2.2]
theorem I4{N:Nat}(hN:dh<=N){p:bh}(hb:dG p<=3000000)(hw:wP p)(me now th:Int)(c:dH):pR N p me now th c=some (kc p me now th c):=by
  have hB:dG p<dh:=Nat.lt_of_le_of_lt hb (by decide);unfold pR kc;simp only[ss hN hB hw,jV,qG hN hB,B9 hN hB hw,Ry,gW,Pd,AQ];cases !dI p || (!dy me 0 2 || !dy now 0 1000000)
  case true=>rfl
  cases hc:iV p now th
  · rfl
  obtain⟨ok,t0,t9⟩:=rj hc;have hp:g7 p:=⟨ok,hb,hw⟩;simp only[RB,Rz];unfold gm;cases hk:c.so==1
  case true=>simp only[RA,PD hN hp me now hk,Ry]
  simp only[Rz];cases(c.so==2) || (c.so==3)
  case true=>simp only[RA,OK hN hp me now hk,Ry]
  simp only[Rz];cases(c.so==4) || (c.so==5)
  case true=>simp only[RA,Oi hN hp me now hk,Ry]
  simp only[Rz];cases hd:(c.so==6) || (c.so==7)
  case true =>
    simp only[RA,Lk hN hp me now hk (K5 (by decide) hd),Ry]
    all_goals (rw[Ch];rfl)
  simp only[Rz];cases c.so==8
  case true=>simp only[RA,NQ hN hp me now hk,Ry]
  simp only[Rz];cases(c.so==9) || ((c.so==10) || (c.so==11))
  case true=>simp only[RA,P2 hN hp hk,Ry]
  simp only[Rz];cases(c.so==12) || (c.so==13)
  case true=>simp only[RA,OQ hN hp me now t0 t9 hk,Ry]
  simp only[Rz];cases c.so==14
  case true=>simp only[RA,Pt hN hp t0 t9 hk,Ry]
  simp only[Rz];cases c.so==15
  case false=>simp only[Rz,jU (show((2:Int) != 0)=true from rfl) hk]
  have h6:=hp.b6;unfold pe;simp only[RA,Dx h6];cases hi:dy c.a 0 ((p.dc.length:Int)-1)
  · simp only[Bool.not_false,RA,jU (show((2:Int) != 0)=true from rfl) hk]
  obtain⟨h1,h2,h3,_⟩:=KG h6 hi;have hB':(16777216:Nat)=dh:=rfl;have a1:app ([]:List eA) (p.dc.take c.a.toNat)=some (p.dc.take c.a.toNat):=gg (by simp only[List.length_take];omega)
  have a2:app (p.dc.take c.a.toNat) (p.dc.drop (c.a.toNat+1))=some (p.dc.take c.a.toNat++p.dc.drop (c.a.toNat+1)):=by
    unfold app;rw[if_pos (by simp only[List.length_take,List.length_drop];omega)]
  simp only[RB,Rz,h1,h2,h3,a1,a2,Ry,uF];rfl
structure qn (p q:bh):Prop where
  sz:dG q<=dG p+300
  w:wP q
  ln:q.heap.ag.length=p.heap.ag.length
theorem mV{p q:bh}(h1:q.Rd=p.Rd)(h2:q.own=p.own)(h3:q.Re.length=p.Re.length)(h4:eK dA q.heap.ag<=eK dA p.heap.ag+250)(h5:q.heap.gc.da.length<=p.heap.gc.da.length+1)(h6:q.dc.length<=p.dc.length)(h7:wA q.heap.ag)(h8:q.heap.ag.length=p.heap.ag.length):qn p q:=by
  refine⟨?_,h7,h8⟩;unfold dG mw vP jx;rw[h1,h2];omega
theorem fT{p:bh}(h:g7 p):qn p p:=⟨by omega,h.w,rfl⟩
theorem ur{l:List c6}{k:Nat}{o:c6}(ho:dA o<=100):eK dA (l.set k o)<=eK dA l+100:=Nat.le_trans w7 (by omega)
theorem Be(h:df)(c i:Int):(iW h c i).ag.length=h.ag.length:=by
  unfold iW mW fN;cases decide (c>=0)
  · rfl
  cases fR h&&dy i 0 9
  · rfl
  simp only[RA];split
  · simp only[List.length_set]
  · rfl
theorem Bp{h:df}(hw:wA h.ag)(c i:Int):eK dA (iW h c i).ag=eK dA h.ag/\wA (iW h c i).ag/\(iW h c i).gc.da.length<=h.gc.da.length+1:=by
  unfold iW mW;cases decide (c>=0)
  · exact⟨rfl,hw,Nat.le_succ _⟩
  cases q:fR h&&dy i 0 9
  · exact⟨rfl,hw,Nat.le_succ _⟩
  simp only[RD,dM]at q;have hl:=(kl q.1).len;simp only[RA];refine⟨?_,?_,xV h i⟩
  · unfold fN;split
    · exact oF q.2.1 (by omega) rfl
    · rfl
  · unfold fN;split
    · exact iR hw (show mG (marked (nth h.ag i) true) from hw (nth h.ag i) (gJ q.2.1 (by omega)))
    · exact hw
theorem NM{p:bh}(hp:g7 p)(me now:Int)(c:dH):qn p (j6 p me now c).2.2:=by
  unfold j6;cases !dy c.b 0 1
  case true=>exact fT hp
  cases q2:eL p.heap.ag now me c.a 0 != 0
  case true=>exact fT hp
  obtain⟨ar,g0,g9,_,_⟩:=gO (fq q2);cases(c.so==2)&&(eL p.heap.ag now me c.c 0 != 0)
  case true=>exact fT hp
  simp only[Rz];generalize (bif c.so==2 then dt p.heap.ag now me c.c else -1)=x;have ho:=mY ar g0 g9;obtain⟨a,b,d⟩:=Bp (h:=df.mk (p.heap.ag.set (dt p.heap.ag now me c.a).toNat (linked (nth p.heap.ag (dt p.heap.ag now me c.a)) c.b x)) p.heap.gc) (iR hp.w (show mG (nth p.heap.ag (dt p.heap.ag now me c.a)) from hp.w _ (ar.at g0 g9).2)) x x;refine mV rfl rfl rfl ?_ d (Nat.le_refl _) b (by show(iW _ _ _).ag.length=_;rw[Be];exact List.length_set);refine Nat.le_trans (Nat.le_of_eq a) (Nat.le_trans (ur (by rw[yg];omega)) (by omega))
theorem Nc{p:bh}(hp:g7 p)(me now:Int)(c:dH):qn p (jM p me now c).2.2:=by
  unfold jM;cases q2:eL p.heap.ag now me c.a 0 != 0
  case true=>exact fT hp
  obtain⟨ar,g0,g9,_,_⟩:=gO (fq q2);cases dt p.heap.ag now me c.a==0
  case true=>exact fT hp
  cases(c.so==4)&&(eL p.heap.ag now me c.b 1 != 0)
  case true=>exact fT hp
  simp only[Rz];generalize (bif c.so==4 then dt p.heap.ag now me c.b else -1)=x;have ho:=mY ar g0 g9;obtain⟨a,b,d⟩:=Bp (h:=df.mk (p.heap.ag.set (dt p.heap.ag now me c.a).toNat (boxed (nth p.heap.ag (dt p.heap.ag now me c.a)) x)) p.heap.gc) (iR hp.w (show mG (nth p.heap.ag (dt p.heap.ag now me c.a)) from hp.w _ (ar.at g0 g9).2)) x (dt p.heap.ag now me c.a);refine mV rfl rfl rfl ?_ d (Nat.le_refl _) b (by show(iW _ _ _).ag.length=_;rw[Be];exact List.length_set);refine Nat.le_trans (Nat.le_of_eq a) (Nat.le_trans (ur (show dA (nth p.heap.ag (dt p.heap.ag now me c.a))<=100 by omega)) (by omega))
theorem Nh{p:bh}(hp:g7 p)(me now:Int)(c:dH):qn p (eZ p me now c).2.2:=by
  unfold eZ;cases q2:eL p.heap.ag now me c.a 2 != 0
  case true=>exact fT hp
  obtain⟨ar,g0,g9,_,_⟩:=gO (fq q2);cases !dy c.b 0 (((nth p.heap.ag (dt p.heap.ag now me c.a)).Ri.length:Int)-1)
  case true=>exact fT hp
  cases c.so==7
  case true=>exact fT hp
  cases !dy c.c 0 999
  case true=>exact fT hp
  have ho:=mY ar g0 g9;refine mV rfl rfl rfl ?_ (Nat.le_succ _) (Nat.le_refl _) (iR hp.w (show mG (nth p.heap.ag (dt p.heap.ag now me c.a)) from hp.w _ (ar.at g0 g9).2)) List.length_set;refine Nat.le_trans (ur (o:=written (nth p.heap.ag (dt p.heap.ag now me c.a)) c.b c.c) ?_) (by omega);unfold dA written at *;simp only[List.length_set];omega
theorem Mg{p:bh}(hp:g7 p)(me now:Int)(c:dH):qn p (ij p me now c).2.2:=by
  unfold ij;cases q2:eL p.heap.ag now me c.a 0 != 0
  case true=>exact fT hp
  obtain⟨ar,g0,g9,_,_⟩:=gO (fq q2);cases(dt p.heap.ag now me c.a==0) || (!dy c.b 1 1000 || decide (i64.wrap ((nth p.heap.ag (dt p.heap.ag now me c.a)).dX+c.b)>1000000))
  case true=>exact fT hp
  cases !ju p (iw p (nth p.heap.ag (dt p.heap.ag now me c.a)).Rt) (de.mk 0 (i64.wrap ((nth p.heap.ag (dt p.heap.ag now me c.a)).cd*c.b)) 0)
  case true=>exact fT hp
  have ho:=mY ar g0 g9;refine mV rfl rfl (jA _ _ _) ?_ (Nat.le_succ _) (Nat.le_refl _) (iR hp.w (show mG (nth p.heap.ag (dt p.heap.ag now me c.a)) from hp.w _ (ar.at g0 g9).2)) List.length_set;exact Nat.le_trans (ur (show dA (nth p.heap.ag (dt p.heap.ag now me c.a))<=100 by omega)) (by omega)
theorem Bv{p:bh}(hp:g7 p){t:List dk}(h:t.length=p.Re.length):qn p (vF p t):=mV rfl rfl h (by show eK dA p.heap.ag<=_;omega) (Nat.le_succ _) (Nat.le_refl _) hp.w rfl
theorem Pf{p:bh}(hp:g7 p)(c:dH):qn p (kn p c).2.2:=by
  unfold kn;cases c.so==9
  · cases c.so==10
    · cases !(jm p.Re c.a).2
      · exact Bv hp (E0 _ _)
      · exact fT hp
    · cases(!dy c.a 0 4 || (!dy c.b 0 4 || (!dy c.c 0 2 || !uJ c.d)))
      · cases !(jo p.Re c.a c.b (iB c.c c.d)).2
        · exact Bv hp (EM _ _ _ _)
        · exact fT hp
      · exact fT hp
  · cases(!dy c.a 0 4 || !dT (de.mk c.b c.c c.d))
    · cases !(iG p.Re c.a (de.mk c.b c.c c.d)).2.2
      · exact Bv hp (Dh _ _ _)
      · exact fT hp
    · exact fT hp
theorem Nt(h:df)(i:Int):(jS h i).ag.length=h.ag.length:=by
  unfold jS;split
  · simp only[List.length_set]
  · rfl
theorem OV(l:List c6)(k w b:Int):(sY l k w b).length=l.length:=by
  unfold sY;cases decide (k>=0)&&((nth l k).Rm==w)
  · rfl
  · simp only[RA,List.length_set]
theorem Ng{h:df}(hw:wA h.ag)(i:Int):eK dA (jS h i).ag=eK dA h.ag/\wA (jS h i).ag/\(jS h i).gc.da.length=h.gc.da.length:=by
  unfold jS;split
  · rename_i q;simp only[RD,dM]at q;have hl:=(kl q.1).len;exact⟨oF q.2.1.1 (by omega) rfl,iR hw (show mG (nth h.ag i) from hw _ (gJ q.2.1.1 (by omega))),rfl⟩
  · exact⟨rfl,hw,rfl⟩
theorem M3{p:bh}(hp:g7 p)(f:Int)(a:de):qn p (oe p f a):=mV rfl rfl (jA _ _ _) (by show eK dA p.heap.ag<=_;omega) (Nat.le_succ _) (Nat.le_refl _) hp.w rfl
theorem Nq{p:bh}(hp:g7 p)(me now:Int)(c:dH):qn p (jf p me now c).2.2:=by
  unfold jf;cases q1:mR now c
  case true=>exact fT hp
  cases eL p.heap.ag now me c.b 1 != 0
  case true=>exact fT hp
  cases !ju p c.e (cost c)
  case true=>exact fT hp
  generalize dt p.heap.ag now me c.b=box;cases q4:decide ((hD p.heap.ag (newObj now box c)).2<0)
  case true=>exact M3 hp _ _
  obtain⟨j,g,e,ar,hj⟩:=wM q4;simp only[Rz];rw[e];have ho:=yU (now:=now) (box:=box) (uk q1);obtain⟨a,b,d⟩:=Ng (h:=df.mk (p.heap.ag.set j (gq (newObj now box c) g)) p.heap.gc) (iR hp.w (z8 (Ab _ _ _))) (j:Int);refine mV rfl rfl (jA _ _ _) ?_ (by show(jS _ _).gc.da.length<=_;rw[d];exact Nat.le_succ _) (Nat.le_refl _) b (by show(jS _ _).ag.length=_;rw[Nt];exact List.length_set);exact Nat.le_trans (Nat.le_of_eq a) (Nat.le_trans (ur (show dA (newObj now box c)<=100 from ho)) (by omega))
theorem LI{l:List c6}(h:wA l){i:Int}(h0:0<=i)(h1:i<(l.length:Int)):mG (nth l i):=h _ (gJ h0 h1)
theorem Pm{l:List c6}(hw:wA l){k w b:Int}(h:0<=k->k<(l.length:Int)):eK dA (sY l k w b)=eK dA l/\wA (sY l k w b):=by
  unfold sY;cases q:decide (k>=0)&&((nth l k).Rm==w)
  · exact⟨rfl,hw⟩
  simp only[RD,decide_eq_true_eq]at q;have k1:=h q.1
  have w0:mG (waiting (nth l k) 0):=by show(-9223372036854775808:Int)<=0;decide
  have w1:=iR (k:=k.toNat) hw w0
  have k2:k<((l.set k.toNat (waiting (nth l k) 0)).length:Int):=by simp only[List.length_set];exact k1
  simp only[RA];exact⟨(oF (z:=xQ (nth (l.set k.toNat (waiting (nth l k) 0)) k) b) q.1 k2 rfl).trans (oF q.1 k1 rfl),iR w1 (show mG (nth (l.set k.toNat (waiting (nth l k) 0)) k) from LI w1 q.1 k2)⟩
theorem Qz(n:Int):-9223372036854775808<=i64.wrap n:=by
  simp[IntKind.wrap,IntKind.signed,IntKind.bits];split<;>omega
theorem NL{p:bh}(hp:g7 p)(me now:Int){th:Int}(t0:0<=th)(t9:th<=9)(c:dH):qn p (jc p me now th c).2.2:=by
  unfold jc;cases q2:eL p.heap.ag now me c.a 3 != 0
  case true=>exact fT hp
  obtain⟨ar,g0,g9,_,_⟩:=gO (fq q2);cases !dy c.b 0 999
  case true=>exact fT hp
  simp only[Rz];generalize dt p.heap.ag now me c.a=i at *;have ho:=mY ar g0 g9;have hl:=ar.len;have hwi:mG (nth p.heap.ag i):=hp.w _ (ar.at g0 g9).2
  have qs:∀q,q.length<=20->dA (kR (nth p.heap.ag i) q)<=100:=fun q hq=>by
    unfold dA at ho;unfold dA kR;simp only;omega
  have hq:=yM ho;cases c.so==12
  · cases((nth p.heap.ag i).Rf.length:Int)==0
    case true=>exact fT hp
    have hw1:wA (served p.heap.ag i):=iR hp.w hwi;obtain⟨a,b⟩:=Pm (l:=served p.heap.ag i) hw1 (k:=dt (served p.heap.ag i) now me (nth (nth p.heap.ag i).Rf 0).Rx) (w:=i64.wrap (c.a+1)) (b:=c.b) (pc (by unfold served;simp only[List.length_set];exact hl));refine mV rfl rfl rfl ?_ (Nat.le_succ _) (Nat.le_refl _) b (by show(sY _ _ _ _).length=_;rw[OV];exact List.length_set);refine Nat.le_trans (Nat.le_of_eq a) (Nat.le_trans (ur (qs _ (by simp only[List.length_drop];omega))) (by omega))
  · cases decide (((nth p.heap.ag i).Rf.length:Int)>=2)
    case true=>exact fT hp
    have hw1:wA (asked p.heap.ag i me th c):=iR hp.w hwi
    have hl1:(asked p.heap.ag i me th c).length=10:=by unfold asked;simp only[List.length_set];exact hl
    have e:eK dA ((asked p.heap.ag i me th c).set th.toNat (waiting (nth (asked p.heap.ag i me th c) th) (i64.wrap (c.a+1))))=eK dA (asked p.heap.ag i me th c):=oF t0 (by omega) rfl;refine mV rfl rfl rfl ?_ (Nat.le_succ _) (Nat.le_refl _) (iR hw1 (Qz _)) (by show(List.set _ _ _).length=_;rw[List.length_set,hl1,hl]);refine Nat.le_trans (Nat.le_of_eq e) (Nat.le_trans (ur (qs _ (by simp only[List.length_append,List.length_cons,List.length_nil];omega))) (by omega))
theorem Ma{p:bh}(hp:g7 p)(c:dH):qn p (pe p c).2.2:=by
  unfold pe;cases hi:dy c.a 0 ((p.dc.length:Int)-1)
  · exact fT hp
  · exact mV rfl rfl rfl (by show eK dA p.heap.ag<=_;omega) (Nat.le_succ _) (by show(p.dc.take c.a.toNat++p.dc.drop (c.a.toNat+1)).length<=_;simp only[List.length_append,List.length_take,List.length_drop];omega) hp.w rfl
theorem MO{p:bh}(hp:g7 p)(me now:Int){th:Int}(t0:0<=th)(t9:th<=9)(c:dH):qn p (gm p me now th c).2.2:=by
  unfold gm;cases c.so==1
  case true=>exact Nq hp _ _ _
  cases(c.so==2) || (c.so==3)
  case true=>exact NM hp _ _ _
  cases(c.so==4) || (c.so==5)
  case true=>exact Nc hp _ _ _
  cases(c.so==6) || (c.so==7)
  case true=>exact Nh hp _ _ _
  cases c.so==8
  case true=>exact Mg hp _ _ _
  cases(c.so==9) || ((c.so==10) || (c.so==11))
  case true=>exact Pf hp _
  cases(c.so==12) || (c.so==13)
  case true=>exact NL hp _ _ t0 t9 _
  cases c.so==14
  case true=>simp only[Rz,RA,vq];exact fT hp
  cases c.so==15
  case true=>exact Ma hp _
  exact fT hp
theorem G5{p:bh}(hb:dG p<=3000000)(hw:wP p)(me now th:Int)(c:dH):dG (kc p me now th c).1<=dG p+300/\wP (kc p me now th c).1:=by
  unfold kc;cases !dI p || (!dy me 0 2 || !dy now 0 1000000)
  case true=>exact⟨Nat.le_add_right _ _,hw⟩
  cases hc:iV p now th
  · exact⟨Nat.le_add_right _ _,hw⟩
  obtain⟨ok,t0,t9⟩:=rj hc;have hp:g7 p:=⟨ok,hb,hw⟩;simp only[RB,Rz];unfold fin;cases(gm p me now th c).1==0
  · cases(c.so==1)&&(((gm p me now th c).1==6) || ((gm p me now th c).1==7))<;>exact⟨Nat.le_add_right (dG p) _,hw⟩
  · have h:=MO hp me now t0 t9 c;exact⟨h.sz,h.w⟩
theorem E4{p:bh}(hb:dG p<=3000000)(hw:wP p)(me now th:Int)(c:dH):(kc p me now th c).1.heap.ag.length=p.heap.ag.length:=by
  unfold kc;cases !dI p || (!dy me 0 2 || !dy now 0 1000000)
  case true=>rfl
  cases hc:iV p now th
  · rfl
  obtain⟨ok,t0,t9⟩:=rj hc;simp only[RB,Rz];unfold fin;cases(gm p me now th c).1==0
  · cases(c.so==1)&&(((gm p me now th c).1==6) || ((gm p me now th c).1==7))<;>rfl
  · exact(MO ⟨ok,hb,hw⟩ me now t0 t9 c).ln
end Go.Kx
