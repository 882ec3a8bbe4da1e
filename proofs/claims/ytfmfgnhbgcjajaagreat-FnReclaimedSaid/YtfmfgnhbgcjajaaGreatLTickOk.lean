import Derived.Test.YtfmfgnhbgcjajaaGreatLSafeOp
namespace Go.Kx
open Go
set_option linter.unusedVariables false
set_option linter.unusedSimpArgs false
set_option maxRecDepth 10000
theorem MT{p q:bh}(hp:dJ p=true)(hq:dJ q=true)(h:iu q=iu p):sp q=sp p:=by
  rw[<- (zG hp).1, <- (zG hq).1,h]
theorem J1{o:cd}(h:eG o=true)(hk:(o.so==0)=false){t:Int}(h0:0<=t)(h1:t<=1000000):eG (k6 o t)=true :=
  nb h hk rfl rfl (km h (yq hk)).1 rfl (dI.2 ⟨h0,h1⟩) rfl (show jm o=true from lp h hk) rfl rfl rfl
theorem yF{p:bh}(h:dJ p=true)(now:Int):dJ (fQ p now)=true/\sp (fQ p now)=sp p:=by
  unfold fQ;split
  · rename_i c;simp only[RG,dI]at c;have ar:=eX h
    have key:Ar (oe p now)/\iz (oe p now)=iz p.heap.ag:=by
      unfold oe;cases v:decide (ma p now>=0)
      · exact⟨ar,rfl⟩
      · simp only[if_true];have hv:=qR v;obtain⟨v0,v9⟩:=zH hv;have hk:=(xT hv).1
        have hk0:((nth p.heap.ag (ma p now)).so==0)=false:=by rw[hk];rfl
        refine⟨ar.swap v0 v9 rfl rfl rfl (fun e=>?_) (J1 (ar.ok _ (ar.at v0 v9).2) hk0 ?_ ?_),?_⟩
        · rw[e,ar.sd]at hk;exact absurd hk (by decide)
        · rw[dE (by omega) (by omega)];omega
        · rw[dE (by omega) (by omega)];omega
        · rw[sE v0 (by have:=ar.len;omega)]
          show _-_+(nth p.heap.ag (ma p now)).c6=_
          omega
    refine⟨?_,?_⟩
    · have hA:=fu.2 key.1;unfold dJ fW nZ at *;simp only[RG]at h⊢;obtain⟨a,b,c,⟨_,d⟩,e,f,g1,g2,g3,g4,g5⟩:=h;exact⟨a,b,c,⟨hA,d⟩,e,f,g1,g2,g3,by decide,g5⟩
    · unfold sp;dsimp only;rw[key.2]
  · exact⟨h,rfl⟩
theorem yr{p:bh}(h:dJ p=true)(me now:Int):dJ (gD p me now)=true/\sp (gD p me now)=sp p:=by
  unfold gD;split
  · exact⟨MG h me now,MT h (MG h me now) (OY h me now)⟩
  · exact⟨h,rfl⟩
theorem Fs{p:bh}(h:dJ p=true)(now:Int):dJ (iL p now).1=true/\sp (iL p now).1=sp p/\(iL p now).1.Rq=0:=by
  cases hr:pH p now
  · rw[Pm h hr];exact⟨Eg h hr,MT h (Eg h hr) (NP h hr),rfl⟩
  · have e:iL p now=(bh.mk p.Rg p.own p.Rh p.heap p.dc p.Rr 0 p.db p.dx p.Rp, -1):=by
      unfold iL;rw[if_pos h,hr];rfl
    rw[e];refine⟨?_,rfl,rfl⟩;unfold dJ nZ at *;simp only[RG]at h⊢;obtain⟨a,b,c,d,e,f,g1,g2,g3⟩:=h;exact⟨a,b,c,d,e,f,g1,show dy 0 0 10=true by decide,g3⟩
structure mO (p q:bh):Prop where
  Rg:q.Rg=p.Rg
  own:q.own=p.own
  Rp:q.Rp=p.Rp
theorem mO.refl(p:bh):mO p p:=⟨rfl,rfl,rfl⟩
theorem mO.trans{p q r:bh}(h:mO p q)(k:mO q r):mO p r:=⟨k.Rg.trans h.Rg,k.own.trans h.own,k.Rp.trans h.Rp⟩
theorem Oq(p:bh)(now:Int):mO p (fQ p now):=by unfold fQ;split<;>exact⟨rfl,rfl,rfl⟩
theorem Ow(p:bh)(me now:Int):mO p (gD p me now):=by unfold gD;split<;>exact⟨rfl,rfl,rfl⟩
theorem JK(p:bh)(now n:Int):mO p (gF p now n).1:=by unfold gF;split<;>exact⟨rfl,rfl,rfl⟩
theorem P0(p:bh)(now:Int):mO p (iL p now).1:=by
  unfold iL;split
  · split<;>exact⟨rfl,rfl,rfl⟩
  · exact⟨rfl,rfl,rfl⟩
theorem Du{n:Nat}{p:bh}(h:dJ p=true)(hw:wP p)(hs:(sp p).c6<=1000000)(i now:Int):dJ (iO n p i now)=true/\sp (iO n p i now)=sp p/\mO p (iO n p i now)/\(Int.tmod now (n:Int)=i->(iO n p i now).Rq=0):=by
  obtain⟨k1,k2⟩:=yF h now;obtain⟨w1,w2⟩:=yr k1 i now;have e:sp (gD (fQ p now) i now)=sp p:=w2.trans k2;obtain⟨c1,c2⟩:=yC w1 (yw (xi hw now) i now) (by rw[e];exact hs) now 3;have kk:mO p (kn p i now):=((Oq p now).trans (Ow _ i now)).trans (JK _ now 3);have m1:dJ (kn p i now)=true:=c1;have m2:sp (kn p i now)=sp p:=c2.trans e;unfold iO;cases hc:Int.tmod now (n:Int)==i
  · exact⟨m1,m2,kk,fun q=>by rw[q]at hc;simp at hc⟩
  · obtain⟨r1,r2,r3⟩:=Fs m1 now;exact⟨r1,r2.trans m2,kk.trans (P0 _ now),fun _=>r3⟩
def lY(f:de->Int):List (List dp)->Int
  | []=>0
  | t::l=>eN f t+lY f l
theorem AD(f:de->Int):∀(l:List (List dp)) (k:Nat) (y z:List dp),l[k]?=some y->lY f (l.set k z)=lY f l-eN f y+eN f z
  | [],k,y,z,h=>by simp at h
  | x::l,0,y,z,h=>by
    simp at h;subst h
    show eN f z+lY f l=(eN f x+lY f l)-eN f x+eN f z
    omega
  | x::l,k+1,y,z,h=>by
    show eN f x+lY f (l.set k z)=eN f x+lY f l-eN f y+eN f z
    rw[AD f l k y z (by simpa using h)];omega
theorem OU{ts:List dU}{p:Int}(h0:0<=p)(h1:p<(ts.length:Int)):(fh ts)[p.toNat]?=some (nth ts p).Ry:=by
  unfold fh;rw[List.getElem?_map,fO h0 h1];rfl
theorem OX{ts:List dU}(k:Nat)(t:List dp):fh (ts.set k (dU.mk t))=(fh ts).set k t:=by
  unfold fh;rw[List.map_set]
theorem L8{ts:List dU}{i j:Int}{z:dU}(h0:0<=i)(h1:i<(ts.length:Int))(hj:0<=j):nth (ts.set i.toNat z) j=if i=j then z else nth ts j:=by
  unfold nth
  by_cases e:i=j
  · subst e;rw[if_pos rfl,List.getElem?_set_self (by omega)];rfl
  · rw[if_neg e,List.getElem?_set_ne (by omega)]
structure Tk (ts us:List dU):Prop where
  ok:jl us=true
  pg:lY de.c6 (fh us)=lY de.c6 (fh ts)
  rt:lY de.dh (fh us)=lY de.dh (fh ts)
  cp:lY de.du (fh us)=lY de.du (fh ts)
theorem JC{ts:List dU}(h:jl ts=true)(p:Int)(t:ez):Tk ts (iw ts p t).1:=by
  unfold iw;split
  · rename_i c;rw[RG]at c;obtain⟨c1,c2⟩:=c;obtain⟨_,_,⟨p0,p1⟩,⟨q0,q1⟩,_⟩:=tC c1;obtain⟨k1,k2,k3⟩:=um (KC c1);have e1:=k3 de.c6 fun _ _=>rfl;have e2:=k3 de.dh fun _ _=>rfl;have e3:=k3 de.du fun _ _=>rfl;unfold kK at c2;have hpl:=uk ts p t;have hpt:ir ts p t=ts.set p.toNat (dU.mk (eI (nth ts p).Ry t.Rx (iA t.iG (ra ts p t))).1):=rfl
    have hq:fH (nth (ir ts p t) t.fY).Ry=true:=by
      rw[hpt,L8 p0 p1 q0];split
      · exact fK.2 k1
      · exact zA h q0 q1
    have hT:=fK.1 hq;obtain⟨t1,t2,t3⟩:=hT.eN;have hS:=eO.1 hT.sum;rw[t1,t2,t3]at hS;have ha:=eO.1 k2
    have hts:fV (nth (ir ts p t) t.fY).Ry=⟨eN de.c6 (nth (ir ts p t) t.fY).Ry,eN de.dh (nth (ir ts p t) t.fY).Ry,eN de.du (nth (ir ts p t) t.fY).Ry⟩:=by
      unfold fV;rw[if_pos hq, <- t1, <- t2, <- t3]
    have hfit:eN de.c6 (nth (ir ts p t) t.fY).Ry+(iA t.iG (ra ts p t)).c6<=1000000/\eN de.dh (nth (ir ts p t) t.fY).Ry+(iA t.iG (ra ts p t)).dh<=1000000/\eN de.du (nth (ir ts p t) t.fY).Ry+(iA t.iG (ra ts p t)).du<=1000000:=by
      unfold jM at c2;rw[hq,k2,hts]at c2;simp only[RF]at c2;split at c2
      · rename_i ok;have:=eO.1 ok;unfold dX at this;dsimp only at this;rw[dE (by omega) (by omega),dE (by omega) (by omega),dE (by omega) (by omega)]at this;omega
      · cases c2
    obtain⟨_,b1,b2,b3,b4⟩:=yU hT t.nN k2 hfit.1 hfit.2.1 hfit.2.2
    have hne:t.fY<((ir ts p t).length:Int):=by rw[hpl];exact q1
    have tt:∀f:de->Int,lY f (fh ((ir ts p t).set t.fY.toNat (dU.mk (kK ts p t).1)))=lY f (fh ts)-eN f (nth ts p).Ry+eN f (eI (nth ts p).Ry t.Rx (iA t.iG (ra ts p t))).1-eN f (nth (ir ts p t) t.fY).Ry+eN f (kK ts p t).1:=fun f=>by
      rw[OX,AD f _ _ _ _ (OU q0 hne),hpt,OX,AD f _ _ _ _ (OU p0 p1)]
    refine⟨?_,?_,?_,?_⟩
    · unfold jl at h⊢;rw[List.all_eq_true]at h⊢;intro y hy
      rcases List.mem_or_eq_of_mem_set hy with q|rfl
      · rcases List.mem_or_eq_of_mem_set (show y∈ts.set _ _ from q)with q|rfl
        · exact h y q
        · exact fK.2 k1
      · exact fK.2 b1
    · dsimp only;rw[tt,show eN de.c6 (kK ts p t).1=_ from b2];omega
    · dsimp only;rw[tt,show eN de.dh (kK ts p t).1=_ from b3];omega
    · dsimp only;rw[tt,show eN de.du (kK ts p t).1=_ from b4];omega
  · exact⟨h,rfl,rfl,rfl⟩
theorem z0(p:Int):∀(dc:List ez) (ts:List dU),jl ts=true->Tk ts (oS ts p dc)
  | [],ts,h=>⟨h,rfl,rfl,rfl⟩
  | t::dc,ts,h=>by
    have a:=JC h p t;have b:=z0 p dc _ a.ok;exact⟨b.ok,b.pg.trans a.pg,b.rt.trans a.rt,b.cp.trans a.cp⟩
def iD:List bh->de
  | []=>⟨0,0,0⟩
  | p::l=>⟨(sp p).c6+(iD l).c6,(sp p).dh+(iD l).dh,(sp p).du+(iD l).du⟩
theorem EC:∀(l:List bh) (s:de) (n:Nat),(∀p,p∈l->dJ p=true)->l.length<=n->n<=3->vg s (3000000*(3-(n:Int))) ->
    lZ s l=⟨s.c6+(iD l).c6,s.dh+(iD l).dh,s.du+(iD l).du⟩/\(0<=(iD l).c6/\0<=(iD l).dh/\0<=(iD l).du)
  | [],s,n,_,_,_,_=>by
    refine⟨?_,by decide⟩
    show s=_
    unfold iD;simp only[Int.add_zero]
  | p::l,s,n,h,hl,hn,hs=>by
    obtain⟨e,⟨r1,r2,r3⟩,_⟩:=zG (h p (by simp));simp only[List.length_cons]at hl;unfold vg at hs
    have e2:dX s (iu p)=⟨s.c6+(sp p).c6,s.dh+(sp p).dh,s.du+(sp p).du⟩:=by
      rw[e];unfold dX;rw[dE (by omega) (by omega),dE (by omega) (by omega),dE (by omega) (by omega)]
    have hb:vg ⟨s.c6+(sp p).c6,s.dh+(sp p).dh,s.du+(sp p).du⟩ (3000000*(3-((n-1:Nat):Int))):=by
      unfold vg;dsimp only;omega
    obtain⟨a,b⟩:=EC l _ (n-1) (fun q hq=>h q (by simp[hq])) (by omega) (by omega) hb;have e3:lZ s (p::l)=lZ (dX s (iu p)) l:=rfl;rw[e3,e2,a];have e4:iD (p::l)=⟨(sp p).c6+(iD l).c6,(sp p).dh+(iD l).dh,(sp p).du+(iD l).du⟩:=rfl;rw[e4];dsimp only;refine⟨by rw[Int.add_assoc,Int.add_assoc,Int.add_assoc],by omega,by omega,by omega⟩
structure Wk (w:dq):Prop where
  Rn:0<=w.Rn/\w.Rn<=1000000
  len:1<=w.parts.length/\w.parts.length<=3
  ok:∀p,p∈w.parts->dJ p=true
  sum:dT (iD w.parts)=true
theorem Ef{l:List bh}(h:∀p,p∈l->dJ p=true)(h3:l.length<=3):lZ ⟨0,0,0⟩ l=iD l:=by
  have:=(EC l ⟨0,0,0⟩ 3 h h3 (by decide) (by unfold vg;decide)).1;rw[this];simp only[Int.zero_add]
theorem lB{w:dq}:eP w=true <-> Wk w:=by
  unfold eP;simp only[RG,dI,List.all_eq_true];constructor
  · rintro⟨a,b,c,d⟩;rw[Ef c (by omega)]at d;exact⟨a,by omega,c,d⟩
  · rintro⟨a,b,c,d⟩;refine⟨a,by omega,c,?_⟩;rw[Ef c b.2];exact d
theorem E7:∀(l:List bh),(∀p,p∈l->dJ p=true)->(0<=(iD l).c6)/\∀p,p∈l->(sp p).c6<=(iD l).c6
  | [],_=>⟨by decide,fun p hp=>by simp at hp⟩
  | q::l,h=>by
    obtain⟨_,⟨r1,_,_⟩,_⟩:=zG (h q (by simp));obtain⟨a,b⟩:=E7 l fun p hp=>h p (by simp[hp]);have e:(iD (q::l)).c6=(sp q).c6+(iD l).c6:=rfl;rw[e];refine⟨by omega,fun p hp=>?_⟩
    rcases List.mem_cons.1 hp with rfl|hp
    · omega
    · have:=b p hp;omega
theorem BO:∀(l:List bh) (k:Nat) (y z:bh),l[k]?=some y->sp z=sp y->iD (l.set k z)=iD l
  | [],k,y,z,h,_=>by simp at h
  | x::l,0,y,z,h,e=>by
    simp at h;subst h
    show de.mk ((sp z).c6+(iD l).c6) _ _=_
    rw[e];rfl
  | x::l,k+1,y,z,h,e=>by
    show de.mk ((sp x).c6+(iD (l.set k z)).c6) _ _=_
    rw[BO l k y z (by simpa using h) e];rfl
theorem Qf{p:bh}(h:dJ p=true){t:List dp}(ht:fH t=true):dJ (lR p t)=true:=by
  unfold dJ at h⊢;simp only[RG]at h⊢;exact⟨h.1,h.2.1,ht,h.2.2.2⟩
theorem G9:∀(l:List bh) (ts:List (List dp)),ts.length=l.length ->
    (iD (fb l ts)).c6=(iD l).c6-lY de.c6 (gR l)+lY de.c6 ts/\(iD (fb l ts)).dh=(iD l).dh-lY de.dh (gR l)+lY de.dh ts/\(iD (fb l ts)).du=(iD l).du-lY de.du (gR l)+lY de.du ts
  | [],[],_=>by decide
  | [],_::_,h=>by simp at h
  | _::_,[],h=>by simp at h
  | p::l,t::ts,h=>by
    obtain⟨a,b,c⟩:=G9 l ts (by simpa using h);have e:fb (p::l) (t::ts)=lR p t::fb l ts:=rfl;have e1:∀f:de->Int,lY f (gR (p::l))=eN f p.Rh+lY f (gR l):=fun f=>rfl;have e2:∀f:de->Int,lY f (t::ts)=eN f t+lY f ts:=fun f=>rfl;have e3:∀q m,iD (q::m)=⟨(sp q).c6+(iD m).c6,(sp q).dh+(iD m).dh,(sp q).du+(iD m).du⟩:=fun q m=>rfl;have e4:sp (lR p t)=⟨eN de.c6 t+iz p.heap.ag+p.db.c6,eN de.dh t+p.db.dh,eN de.du t+p.db.du⟩:=rfl;have e5:sp p=⟨eN de.c6 p.Rh+iz p.heap.ag+p.db.c6,eN de.dh p.Rh+p.db.dh,eN de.du p.Rh+p.db.du⟩:=rfl;rw[e,e3,e3,e4,e5,e1,e1,e1,e2,e2,e2];dsimp only;omega
theorem Ej:∀(l:List bh) (ts:List (List dp)),ts.length=l.length->(fb l ts).length=l.length/\∀(k:Nat) (q:bh),(fb l ts)[k]?=some q->∃p t,l[k]?=some p/\t∈ts/\q=lR p t
  | [],[],_=>⟨rfl,fun k q h=>by simp[fb]at h⟩
  | [],_::_,h=>by simp at h
  | _::_,[],h=>by simp at h
  | p::l,t::ts,h=>by
    obtain⟨a,b⟩:=Ej l ts (by simpa using h);have e:fb (p::l) (t::ts)=lR p t::fb l ts:=rfl;rw[e];refine⟨by simp[a],fun k q hq=>?_⟩
    cases k with
    | zero=>simp at hq;exact⟨p,t,rfl,by simp,hq.symm⟩
    | succ k =>
      obtain⟨p',t',h1,h2,h3⟩:=b k q (by simpa using hq);exact⟨p',t',by simpa using h1,by simp[h2],h3⟩
theorem LB(l:List bh):fh (gx l)=gR l:=by
  unfold fh gx;rw[List.map_map];exact(List.map_congr_left fun _ _=>rfl).trans (List.map_id _)
structure QL (t u:dq):Prop where
  wk:Wk u
  sum:iD u.parts=iD t.parts
  Rn:u.Rn=t.Rn
  len:u.parts.length=t.parts.length
  iJ:∀j,0<=j->j<(t.parts.length:Int)->mO (nth t.parts j) (nth u.parts j)/\(nth u.parts j).Rq=(nth t.parts j).Rq
  w:wW t.parts->wW u.parts
theorem HG{t:dq}(h:Wk t)(k:Int):QL t (dC t k):=by
  unfold dC;split
  · have h0:jl (gx t.parts)=true:=by
      unfold jl;rw[List.all_eq_true];intro y hy;obtain⟨x,hx,rfl⟩:=List.mem_map.1 (show y∈(gR t.parts).map dU.mk from hy);obtain⟨p,hp,rfl⟩:=List.mem_map.1 (show x∈t.parts.map _ from hx);exact jF (h.ok p hp)
    have hk:=z0 k (nth t.parts k).dc (gx t.parts) h0
    have hlen:(fh (oS (gx t.parts) k (nth t.parts k).dc)).length=t.parts.length:=by
      unfold fh;rw[List.length_map];exact tu
    generalize hu:fh (oS (gx t.parts) k (nth t.parts k).dc)=ts at *
    have hts:∀x,x∈ts->fH x=true:=fun x hx=>by
      rw[<- hu]at hx;obtain⟨y,hy,rfl⟩:=List.mem_map.1 (show x∈(oS (gx t.parts) k (nth t.parts k).dc).map _ from hx);have:=hk.ok;unfold jl at this;rw[List.all_eq_true]at this;exact this y hy
    have e1:=hk.pg;have e2:=hk.rt;have e3:=hk.cp;rw[LB,hu]at e1 e2 e3;obtain⟨s1,s2,s3⟩:=G9 t.parts ts hlen;obtain⟨l1,l2⟩:=Ej t.parts ts hlen
    have hs:iD (fb t.parts ts)=iD t.parts:=by
      generalize iD (fb t.parts ts)=a at *;generalize iD t.parts=b at *;obtain⟨a1,a2,a3⟩:=a;obtain⟨b1,b2,b3⟩:=b;dsimp only at *
      have:a1=b1:=by omega
      have:a2=b2:=by omega
      have:a3=b3:=by omega
      subst_vars;rfl
    have hall:∀q,q∈fb t.parts ts->∃p x,p∈t.parts/\x∈ts/\q=lR p x:=fun q hq=>by
      obtain⟨i,hi⟩:=List.getElem?_of_mem hq;obtain⟨p,x,a,b,c⟩:=l2 i q hi;exact⟨p,x,List.mem_of_getElem? a,b,c⟩
    refine⟨⟨h.Rn,by show 1<=(fb t.parts ts).length/\(fb t.parts ts).length<=3;rw[l1];exact h.len,fun q hq=>?_,by show dT (iD (fb t.parts ts))=true;rw[hs];exact h.sum⟩,hs,rfl,l1,fun j j0 j1=>?_,fun hw q hq=>?_⟩
    · obtain⟨p,x,hp,hx,rfl⟩:=hall q hq;exact Qf (h.ok p hp) (hts x hx)
    · have hg:=fO (l:=fb t.parts ts) j0 (by omega);obtain⟨p,x,a,b,c⟩:=l2 _ _ hg
      have hp:nth t.parts j=p:=by
        rw[fO j0 j1]at a;exact Option.some.inj a
      rw[hp]
      show mO p (nth (fb t.parts ts) j)/\(nth (fb t.parts ts) j).Rq=p.Rq
      rw[c];exact⟨⟨rfl,rfl,rfl⟩,rfl⟩
    · obtain⟨p,x,hp,hx,rfl⟩:=hall q hq;exact hw p hp
  · exact⟨h,rfl,rfl,rfl,fun j _ _=>⟨mO.refl _,rfl⟩,fun h=>h⟩
structure Jt (w:dq) (now:Int) (k:Nat) (t:dq):Prop where
  wk:Wk t
  at_:t.Rn=now
  len:t.parts.length=w.parts.length
  sum:iD t.parts=iD w.parts
  iJ:∀j,0<=j->j<(w.parts.length:Int)->mO (nth w.parts j) (nth t.parts j)
  Rq:∀j:Nat,j<k->Int.tmod now (w.parts.length:Int)=(j:Int)->(nth t.parts (j:Int)).Rq=0
  w:wW t.parts
theorem xZ{l:List bh}{i j:Int}{z:bh}(h0:0<=i)(h1:i<(l.length:Int))(hj:0<=j):nth (l.set i.toNat z) j=if i=j then z else nth l j:=by
  unfold nth
  by_cases e:i=j
  · subst e;rw[if_pos rfl,List.getElem?_set_self (by omega)];rfl
  · rw[if_neg e,List.getElem?_set_ne (by omega)]
theorem IW{n:Nat}{p:bh}(hw:wP p)(hb:dH p<=2000000)(i now:Int):wP (iO n p i now):=(wN (n:=n) hb (Nat.le_refl _) hw i now).2
theorem Jt.step{w:dq}{now:Int}{k:Nat}{t:dq}(h:Jt w now k t)(hk:k<w.parts.length)(hn:w.parts.length<=3)(hsz:∀p,p∈(dC t (k:Int)).parts->dH p<=2000000):Jt w now (k+1) (iP w.parts.length k t):=by
  have hT:=HG h.wk (k:Int);have hlen:=hT.len.trans h.len;have hm:=gy (l:=(dC t (k:Int)).parts) (i:=(k:Int)) (by omega) (by omega);have hok:=hT.wk.ok _ hm;have hww:=hT.w h.w;have hsum:=eO.1 hT.wk.sum;have hge:=(E7 _ hT.wk.ok).2 _ hm;obtain⟨a1,a2,a3,a4⟩:=Du (n:=w.parts.length) hok (hww _ hm) (by omega) (k:Int) (dC t (k:Int)).Rn;have hnow:(dC t (k:Int)).Rn=now:=hT.Rn.trans h.at_;have hg:=fO (l:=(dC t (k:Int)).parts) (i:=(k:Int)) (by omega) (by omega);rw[Int.toNat_natCast]at hg;have hs:=BO _ k _ _ hg a2
  have hset:∀j,0<=j->nth ((dC t (k:Int)).parts.set k (iO w.parts.length (nth (dC t (k:Int)).parts (k:Int)) (k:Int) (dC t (k:Int)).Rn)) j=if(k:Int)=j then iO w.parts.length (nth (dC t (k:Int)).parts (k:Int)) (k:Int) (dC t (k:Int)).Rn else nth (dC t (k:Int)).parts j:=fun j hj=>by
    have:=xZ (l:=(dC t (k:Int)).parts) (i:=(k:Int)) (z:=iO w.parts.length (nth (dC t (k:Int)).parts (k:Int)) (k:Int) (dC t (k:Int)).Rn) (by omega) (by omega) hj
    rwa[Int.toNat_natCast]at this
  unfold iP;refine⟨⟨hT.wk.Rn,?_,fun q hq=>?_,?_⟩,hnow,?_,?_,fun j j0 j1=>?_,fun j hj e=>?_,fun q hq=>?_⟩
  · show 1<=(List.set _ _ _).length/\(List.set _ _ _).length<=3
    rw[List.length_set];exact hT.wk.len
  · rcases List.mem_or_eq_of_mem_set (show q∈List.set _ _ _ from hq)with q1|rfl
    · exact hT.wk.ok q q1
    · exact a1
  · show dT (iD (List.set _ _ _))=true
    rw[hs];exact hT.wk.sum
  · show(List.set _ _ _).length=_
    rw[List.length_set];exact hlen
  · show iD (List.set _ _ _)=_
    rw[hs,hT.sum];exact h.sum
  · show mO (nth w.parts j) (nth (List.set _ _ _) j)
    have b1:=h.iJ j j0 j1;have b2:=(hT.iJ j j0 (by have:=h.len;omega)).1;rw[hset j j0];split
    · rename_i ej;subst ej;exact(b1.trans b2).trans a3
    · exact b1.trans b2
  · show(nth ((dC t (k:Int)).parts.set k (iO w.parts.length (nth (dC t (k:Int)).parts (k:Int)) (k:Int) (dC t (k:Int)).Rn)) (j:Int)).Rq=0
    rw[hset (j:Int) (by omega)];split
    · rename_i ej;exact a4 (by rw[hnow,e];exact ej.symm)
    · rename_i ej
      have hjk:j<k:=by omega
      rw[(hT.iJ (j:Int) (by omega) (by have:=h.len;omega)).2];exact h.Rq j hjk e
  · rcases List.mem_or_eq_of_mem_set (show q∈List.set _ _ _ from hq)with q1|rfl
    · exact hww q q1
    · exact IW (hww _ hm) (hsz _ hm) _ _
theorem CL{α τ:Type}{P:Nat->τ->Prop}{f:Nat->τ->α->τ}:∀(l:List α) (k n:Nat) (t:τ),k+l.length=n->(∀j t y,k<=j->j<n->P j t->P (j+1) (f j t y))->P k t->P n (foldI f k t l)
  | [],k,n,t,e,_,h=>by
    simp at e;subst e;exact h
  | y::l,k,n,t,e,hs,h=>by
    simp only[List.length_cons]at e;unfold foldI;exact CL l (k+1) n _ (by omega) (fun j t y hj hn hp=>hs j t y (by omega) hn hp) (hs k t y (Nat.le_refl _) (by omega) h)
theorem Mp{l:List cd}(h10:l.length=10){i t:Int}(i0:0<=i)(i9:i<=9){j k:Int}(j0:0<=j)(q:k∈fx (l.set i.toNat (k6 (nth l i) t)) j):k∈fx l j:=by
  have hn:∀j,0<=j->nth (l.set i.toNat (k6 (nth l i) t)) j=if i=j then k6 (nth l i) t else nth l j:=fun j hj=>gJ i0 (by omega) hj
  have hb:∀j,0<=j->(nth (l.set i.toNat (k6 (nth l i) t)) j).box=(nth l j).box/\(nth (l.set i.toNat (k6 (nth l i) t)) j).so=(nth l j).so/\(nth (l.set i.toNat (k6 (nth l i) t)) j).dk=(nth l j).dk:=fun j hj=>by
    rw[hn j hj];split
    · rename_i e;subst e;exact⟨rfl,rfl,rfl⟩
    · exact⟨rfl,rfl,rfl⟩
  obtain⟨⟨k0,k9⟩,u⟩:=(iZ (by rw[List.length_set];exact h10)).1 q;rw[(hb k k0).1,(hb k k0).2.1,(hb j j0).2.1,(hb j j0).2.2]at u;exact(iZ h10).2 ⟨⟨k0,k9⟩,u⟩
theorem N3{p:bh}(ok:dJ p=true){now:Int}(hn:1<=now/\now<=1000000):Kp now p (fQ p now):=by
  have hk:=jE (yF ok now).1;unfold fQ at *;split
  · rename_i c;rw[if_pos c]at hk;intro g D n r;dsimp only at hk⊢;unfold oe at *;split
    · rename_i hv;rw[if_pos hv]at hk;obtain⟨_,v0,v9⟩:=qS (qR hv);have h4:=(xT (qR hv)).1;have h10:=(eX ok).len;generalize ma p now=i at *;refine Rec.put (h:=p.heap) r v0 v9 (fun o=>k6 o (IntKind.i64.wrap (now-1))) rfl rfl rfl (fun q=>?_) hk fun j k j0 j9 q=>.inl (Mp h10 v0 v9 j0 q);unfold ey at q
      have e:((k6 (nth p.heap.ag i) (IntKind.i64.wrap (now-1))).so==0)=false:=by
        show((nth p.heap.ag i).so==0)=false
        rw[h4];rfl
      rw[e,RC]at q;have q:=of_decide_eq_false q;have q:¬ IntKind.i64.wrap (now-1)<now:=q;rw[dE (by omega) (by omega)]at q;omega
    · exact r
  · exact Kp.self _ _
theorem NT{p:bh}(ok:dJ p=true)(me now:Int):Kp now p (gD p me now):=by
  have hk:=(yr ok me now).1;unfold gD at *;split
  · rename_i c;rw[if_pos c]at hk;refine Kp.bm hk rfl ⟨A9 p me now,fun j j0 j9=>?_⟩
    show(nth (nw p me now) j).mark=_
    unfold nw;rw[Cb _ j0 (by have:=(eX ok).len;omega)];split<;>rfl
  · exact Kp.self _ _
theorem PG{p:bh}(ok:dJ p=true)(now:Int):Kp now p (iL p now).1:=by
  have hk:=(Fs ok now).1;unfold iL at *;rw[if_pos ok]at hk⊢;split
  · exact Kp.heap rfl
  · rename_i c;rw[if_neg c]at hk
    have hx:decide (gS p now<0)=false:=by
      unfold pH at c;cases q:decide (gS p now<0)
      · rfl
      · rw[q]at c;simp at c
    obtain⟨_,n0,n9⟩:=wL hx;exact Kp.bm hk rfl (Bm.set (eX ok).len n0 n9 rfl rfl)
theorem Ev{g:Int->Int}{D:Int->Prop}{now:Int}:∀(k n:Nat) (h:df),Rec g D h now (n+k)->Rec g D (MS now k h) now n
  | 0,n,h,r=>r
  | k+1,n,h,r=>Ev k n _ r.step
theorem Md{m:Nat}{p:bh}(ok:dJ p=true)(hw:wP p)(hs:(sp p).c6<=1000000)(i:Int){now:Int}(hn:1<=now/\now<=1000000){g:Int->Int}{D:Int->Prop}{n:Nat}(r:Rec g D p.heap now (n+3)):Rec g D (iO m p i now).heap now n:=by
  obtain⟨k1,k2⟩:=yF ok now;obtain⟨w1,w2⟩:=yr k1 i now;have e:sp (gD (fQ p now) i now)=sp p:=w2.trans k2;obtain⟨c1,c2⟩:=yC w1 (yw (xi hw now) i now) (by rw[e];exact hs) now 3;have r1:=NT k1 i now _ _ _ (N3 ok hn _ _ _ r)
  have eC:(kn p i now).heap=MS now 3 (gD (fQ p now) i now).heap:=by
    unfold kn gF;rw[if_pos (by rw[w1];rfl)];exact CT now 3 _
  have r2:Rec g D (kn p i now).heap now n:=by rw[eC];exact Ev 3 n _ r1
  unfold iO;cases Int.tmod now (m:Int)==i
  · exact r2
  · exact PG c1 now _ _ _ r2
theorem E0{w:dq}(ok:eP w=true){q:Int}(hq:eJ w q=true){z:bh}(h:Gd (nth w.parts q) z):eP (la w q z)=true/\iD (la w q z).parts=iD w.parts:=by
  have k:=lB.1 ok;have r:=xm hq;have e:iD (w.parts.set q.toNat z)=iD w.parts:=BO _ _ _ _ (fO r.1 r.2) h.sp;refine⟨lB.2 ⟨k.Rn,by show 1<=(w.parts.set _ _).length/\(w.parts.set _ _).length<=3;rw[List.length_set];exact k.len,fun y hy=>?_,by show dT (iD (w.parts.set _ _))=true;rw[e];exact k.sum⟩,e⟩
  rcases List.mem_or_eq_of_mem_set hy with a|rfl
  · exact k.ok y a
  · exact h.ok
theorem Nw{w:dq}(hw:Wq w)(ok:eP w=true)(p th:Int)(c:dG):eP (ik w p th c).1=true/\iD (ik w p th c).1.parts=iD w.parts:=by
  rcases K9 hw ok p th c with e|⟨q,z,hq,_,hg,e⟩
  · rw[e];exact⟨ok,rfl⟩
  · rw[e];exact E0 ok hq hg
theorem D9{w:dq}(hw:Wq w)(ok:eP w=true)(p th:Int)(c:dG):(ik w p th c).1=w\/∃q z,eJ w q=true/\Kp w.Rn (nth w.parts q) z/\(ik w p th c).1=la w q z:=by
  have hn:=(lB.1 ok).Rn.2;unfold ik;cases hok:!eP w || !eJ w p
  case true=>exact .inl rfl
  have hp:eJ w p=true:=by rw[ok]at hok;simpa using hok
  obtain⟨p1,p2⟩:=fe hp;have pp:=hw.BA ok p2;cases hc:iX (nth w.parts p) w.Rn th
  case false=>exact .inl rfl
  cases ho:decide (other w p c<0)
  case true=>exact .inl rfl
  have hq:=qv ho;generalize other w p c=q at *;obtain⟨q1,q2⟩:=fe hq;have pq:=hw.BA ok q2;simp only[RC,RE]
  have f3:∀r:Int×Int×dq,(rf r).1=r.2.2:=fun r=>by unfold rf;cases r.1 != 0<;>rfl
  cases c.so==7
  case true=>rw[RD,f3,BF];exact .inl rfl
  cases c.so==17
  case true =>
    rw[RC,RD,f3];unfold rN;cases hb:dy c.b 0 999
    case false=>exact .inl rfl
    cases mg w p p q
    case false=>exact .inl rfl
    exact .inr ⟨q,_,hq,N2 pq hb,rfl⟩
  cases c.so==16
  case true =>
    rw[RC,RC,RD,f3];unfold wz;cases decide (c.d<0) || !ig (pF c)
    case true=>exact .inl rfl
    cases mg w p p q
    case false=>exact .inl rfl
    cases ei (nth w.parts p).Rh c.a
    case false=>exact .inl rfl
    cases decide (((nth w.parts p).dc.length:Int)>=3)
    case true=>exact .inl rfl
    exact .inr ⟨p,ue (nth w.parts p) ((nth w.parts p).dc++[pF c]),hp,Kp.heap rfl,rfl⟩
  exact .inr ⟨p,_,hp,NC pp p hn th c,rfl⟩
theorem JT{t:dq}(h:Wk t)(k j:Int)(j0:0<=j)(j1:j<(t.parts.length:Int)):(nth (dC t k).parts j).heap=(nth t.parts j).heap:=by
  unfold dC;split
  · have hlen:(fh (oS (gx t.parts) k (nth t.parts k).dc)).length=t.parts.length:=by
      unfold fh;rw[List.length_map];exact tu
    generalize fh (oS (gx t.parts) k (nth t.parts k).dc)=ts at *;obtain⟨l1,l2⟩:=Ej t.parts ts hlen;have hg:=fO (l:=fb t.parts ts) j0 (by omega);obtain⟨p,x,a,b,c⟩:=l2 _ _ hg
    have hp:nth t.parts j=p:=by
      rw[fO j0 j1]at a;exact Option.some.inj a
    show(nth (fb t.parts ts) j).heap=_
    rw[c,hp];rfl
  · rfl
theorem Kn{w:dq}{q:Int}(h:eJ w q=true):0<=q/\q<(w.parts.length:Int):=by
  unfold eJ at h;have:=dI.1 h;omega
def Rw(g:Int->Int->Int)(D:Int->Int->Prop)(w:dq)(now:Int)(n:Nat):Prop:=∀p,0<=p->p<(w.parts.length:Int)->Rec (g p) (D p) (nth w.parts p).heap now n
theorem Rw.call{g:Int->Int->Int}{D:Int->Int->Prop}{w:dq}{n:Nat}(hw:Wq w)(ok:eP w=true)(r:Rw g D w w.Rn n)(p th:Int)(c:dG):Rw g D (ik w p th c).1 w.Rn n:=by
  rcases D9 hw ok p th c with e|⟨q,z,hq,hk,e⟩
  · rw[e];exact r
  · rw[e];have q01:0<=q/\q<(w.parts.length:Int):=Kn hq;intro j j0 j1
    have hl:(la w q z).parts.length=w.parts.length:=by unfold la;dsimp only;rw[List.length_set]
    rw[hl]at j1
    show Rec (g j) (D j) (nth (w.parts.set q.toNat z) j).heap w.Rn n
    rw[xZ (by omega) (by omega) j0];split
    · rename_i e;subst e;exact hk _ _ _ (r q j0 j1)
    · exact r j j0 j1
theorem Rw.tick{g:Int->Int->Int}{D:Int->Int->Prop}{w:dq}{n:Nat}(hT0:tK w.parts.length 0 (dq.mk (w.Rn+1) w.parts))(ok:eP w=true)(hm:(w.Rn==1000000)=false)(r:Rw g D w (w.Rn+1) (n+3)):Jt w (w.Rn+1) w.parts.length (tick w)/\Rw g D (tick w) (w.Rn+1) n:=by
  have hk:=lB.1 ok
  have hm:w.Rn ≠ 1000000:=by simpa using hm
  have hn:=hk.Rn;have hl:=hT0.small;unfold Kx.tick;rw[ok,show(w.Rn==1000000)=false from by simpa using hm];simp only[Bool.not_false,Bool.and_self,if_true];rw[dE (by omega) (by omega)];have h0:Jt w (w.Rn+1) 0 (dq.mk (w.Rn+1) w.parts):=⟨⟨⟨by dsimp only;omega,by dsimp only;omega⟩,hk.len,hk.ok,hk.sum⟩,rfl,rfl,rfl,fun j _ _=>mO.refl _,fun j hj=>absurd hj (Nat.not_lt_zero _),hT0.w⟩;have key:=CL (P:=fun k t=>(Jt w (w.Rn+1) k t/\tK w.parts.length k t)/\∀p,0<=p->p<(w.parts.length:Int)->Rec (g p) (D p) (nth t.parts p).heap (w.Rn+1) (if p<(k:Int)then n else n+3)) (f:=fun k t (_:bh)=>iP w.parts.length k t) w.parts 0 w.parts.length (dq.mk (w.Rn+1) w.parts) (by simp) (fun k t y _ hk' hp=>?_) ⟨⟨h0,hT0⟩,fun p p0 p1=>by rw[if_neg (by omega)];exact r p p0 p1⟩
  · obtain⟨⟨a,_⟩,b⟩:=key;refine⟨a,fun p p0 p1=>?_⟩;rw[a.len]at p1;have:=b p p0 p1
    rwa[if_pos p1]at this
  · obtain⟨⟨a,a'⟩,b⟩:=hp;have hsz:∀p,p∈(dC t (k:Int)).parts->dH p<=2000000:=fun p hp'=>Nat.le_trans ((a'.dc (k:Int)).sz p hp').1 (by omega);refine⟨⟨a.step hk' hl hsz,a'.step hk'⟩,fun p p0 p1=>?_⟩;have hT:=HG a.wk (k:Int);have hlen:=hT.len.trans a.len;have hm':=gy (l:=(dC t (k:Int)).parts) (i:=(k:Int)) (by omega) (by omega);have hnow:(dC t (k:Int)).Rn=w.Rn+1:=hT.Rn.trans a.at_;have hsum:=eO.1 hT.wk.sum;have hge:=(E7 _ hT.wk.ok).2 _ hm';have bp:=b p p0 p1;rw[<- JT a.wk (k:Int) p p0 (by have:=a.len;omega)]at bp;unfold iP;dsimp only;have hset:=xZ (l:=(dC t (k:Int)).parts) (i:=(k:Int)) (z:=iO w.parts.length (nth (dC t (k:Int)).parts (k:Int)) (k:Int) (dC t (k:Int)).Rn) (by omega) (by omega) p0;rw[Int.toNat_natCast]at hset;rw[hset];split
    · rename_i e;subst e;rw[if_neg (by omega)]at bp;rw[if_pos (by omega),hnow];exact Md (hT.wk.ok _ hm') (hT.w a.w _ hm') (by omega) _ ⟨by omega,by omega⟩ bp
    · rename_i e
      have:(p<((k+1:Nat):Int))=(p<(k:Int)):=by apply propext;omega
      simp only[this];exact bp
theorem Nb{p:bh}(h:dJ p=true){x:Int}(x0:0<=x)(x9:x<=9):Gd p (u9 p x):=by
  refine⟨?_,rfl⟩;unfold dJ nZ at *;simp only[RG]at h⊢;obtain⟨a,b,c,d,e,f,g1,g2,g3⟩:=h;refine⟨a,b,c,d,e,f,g1,?_,g3⟩
  show dy (u9 p x).Rq 0 10=true
  unfold u9;dsimp only;rw[dE (by omega) (by omega),dI];omega
structure Tp (S:de) (m:Nat) (w:dq):Prop where
  ok:eP w=true
  sum:iD w.parts=S
  len:w.parts.length=m
theorem Nm{S:de}{m:Nat}{w:dq}(h:Tp S m w)(hw:Wt w){g:Int->Int->Int}{D:Int->Int->Prop}{n:Nat}(r:Rw g D w w.Rn n)(e:dY):Tp S m (mJ w e).1/\(mJ w e).1.Rn=(if e.so=1/\w.Rn ≠ 1000000 then w.Rn+1 else w.Rn)/\(mJ w e).1.Rn>=w.Rn /\
    ((e.so ≠ 1\/w.Rn=1000000)->Rw g D (mJ w e).1 (mJ w e).1.Rn n)/\(e.so=1->w.Rn ≠ 1000000->Rw g D (mJ w e).1 (mJ w e).1.Rn (n-3)):=by
  have hk:=lB.1 h.ok;unfold mJ;cases k1:e.so==1
  · have k1:e.so ≠ 1:=by simpa using k1
    have hl:∀(q:Int) (z:bh),(la w q z).parts.length=w.parts.length:=fun q z=>by unfold la;dsimp only;rw[List.length_set]
    have fin:∀v:dq,Tp S m v->v.Rn=w.Rn->Rw g D v w.Rn n->Tp S m v/\v.Rn=(if e.so=1/\w.Rn ≠ 1000000 then w.Rn+1 else w.Rn)/\v.Rn>=w.Rn/\((e.so ≠ 1\/w.Rn=1000000)->Rw g D v v.Rn n)/\(e.so=1->w.Rn ≠ 1000000->Rw g D v v.Rn (n-3)):=fun v a b c =>
      ⟨a,by rw[if_neg (fun q=>k1 q.1)];exact b,by omega,fun _=>by rw[b];exact c,fun q=>absurd q k1⟩
    simp only[RC];cases k2:e.so==2
    · simp only[RC];cases k3:e.so==3
      · exact fin w h rfl r
      · simp only[RD]
        rcases B2 w e with q|⟨q1,q2,q3,q⟩
        · rw[q];exact fin w h rfl r
        · rw[q];have pq:=hw.q.BA h.ok (fe q2).2;obtain⟨a,b⟩:=E0 h.ok q2 (Nb pq.ok q3.1 q3.2);refine fin _ ⟨a,b.trans h.sum,(hl _ _).trans h.len⟩ rfl fun j j0 j1=>?_;rw[hl]at j1;have q01:=Kn q2
          show Rec (g j) (D j) (nth (w.parts.set e.py.toNat (u9 (nth w.parts e.py) e.dS)) j).heap w.Rn n
          rw[xZ q01.1 q01.2 j0];split
          · rename_i e';rw[<- e'];exact r _ q01.1 q01.2
          · exact r j j0 j1
    · simp only[RD];obtain⟨a,b⟩:=Nw hw.q h.ok e.py e.dS e.call;have rc:=Rw.call hw.q h.ok r e.py e.dS e.call
      rcases D9 hw.q h.ok e.py e.dS e.call with q|⟨q,z,_,_,q'⟩
      · rw[q];exact fin w h rfl r
      · refine fin _ ⟨a,b.trans h.sum,by rw[q',hl];exact h.len⟩ (by rw[q'];rfl) rc
  · have k1:e.so=1:=by simpa using k1
    simp only[RD]
    by_cases hm:w.Rn=1000000
    · have et:tick w=w:=by
        unfold tick;rw[if_neg (by rw[hm];simp)]
      rw[et];exact⟨h,by rw[if_neg (fun q=>q.2 hm)],by omega,fun _=>r,fun _ q=>absurd hm q⟩
    · have hT:=hw.t h.ok;have hn:=hk.Rn;rw[dE (by omega) (by omega)]at hT;have rn:Rw g D w (w.Rn+1) (n-3+3):=fun p p0 p1=>((r p p0 p1).mono (by omega)).more (by omega);obtain⟨J,R⟩:=Rw.tick hT h.ok (by simpa using hm) rn;refine⟨⟨lB.2 J.wk,J.sum.trans h.sum,J.len.trans h.len⟩,?_,?_,fun q=>?_,fun _ _=>?_⟩
      · rw[if_pos ⟨k1,hm⟩];exact J.at_
      · rw[J.at_];omega
      · rcases q with q|q
        · exact absurd k1 q
        · exact absurd q hm
      · rw[J.at_];exact R
end Go.Kx
