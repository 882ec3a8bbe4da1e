import Derived.Test.YtfmfgnhbgcjajaaGreatLSafeOp
namespace Go.Kx
open Go
set_option linter.unusedVariables false
set_option linter.unusedSimpArgs false
set_option maxRecDepth 10000
theorem MC{p q:bh}(hp:dI p=true)(hq:dI q=true)(h:ig q=ig p):sp q=sp p:=by
  rw[<- (zs hp).1, <- (zs hq).1,h]
theorem KH{o:c6}(h:eG o=true)(hk:(o.so==0)=false){t:Int}(h0:0<=t)(h1:t<=1000000):eG (kP o t)=true :=
  ng h hk rfl rfl (kh h (yd hk)).1 rfl (dM.2 ⟨h0,h1⟩) rfl (show ji o=true from lj h hk) rfl rfl rfl
theorem yb{p:bh}(h:dI p=true)(now:Int):dI (fP p now)=true/\sp (fP p now)=sp p:=by
  unfold fP;split
  · rename_i c;simp only[RD,dM]at c;have ar:=fe h
    have key:Ar (nW p now)/\iA (nW p now)=iA p.heap.ag:=by
      unfold nW;cases v:decide (lQ p now>=0)
      · exact⟨ar,rfl⟩
      · simp only[if_true];have hv:=qR v;obtain⟨v0,v9⟩:=zh hv;have hk:=(xz hv).1
        have hk0:((nth p.heap.ag (lQ p now)).so==0)=false:=by rw[hk];rfl
        refine⟨ar.swap v0 v9 rfl rfl rfl (fun e=>?_) (KH (ar.ok _ (ar.at v0 v9).2) hk0 ?_ ?_),?_⟩
        · rw[e,ar.sm]at hk;exact absurd hk (by decide)
        · rw[dF (by omega) (by omega)];omega
        · rw[dF (by omega) (by omega)];omega
        · rw[sG v0 (by have:=ar.len;omega)]
          show _-_+(nth p.heap.ag (lQ p now)).cd=_
          omega
    refine⟨?_,?_⟩
    · have hA:=fO.2 key.1;unfold dI fR og at *;simp only[RD]at h⊢;obtain⟨a,b,c,⟨_,d⟩,e,f,g1,g2,g3,g4,g5⟩:=h;exact⟨a,b,c,⟨hA,d⟩,e,f,g1,g2,g3,by decide,g5⟩
    · unfold sp;dsimp only;rw[key.2]
  · exact⟨h,rfl⟩
theorem yi{p:bh}(h:dI p=true)(me now:Int):dI (gz p me now)=true/\sp (gz p me now)=sp p:=by
  unfold gz;split
  · exact⟨MK h me now,MC h (MK h me now) (Px h me now)⟩
  · exact⟨h,rfl⟩
theorem Fj{p:bh}(h:dI p=true)(now:Int):dI (iN p now).1=true/\sp (iN p now).1=sp p/\(iN p now).1.Rn=0:=by
  cases hr:pK p now
  · rw[O7 h hr];exact⟨D8 h hr,MC h (D8 h hr) (ND h hr),rfl⟩
  · have e:iN p now=(bh.mk p.Rd p.own p.Re p.heap p.dc p.Ro 0 p.db p.dx p.Rk, -1):=by
      unfold iN;rw[if_pos h,hr];rfl
    rw[e];refine⟨?_,rfl,rfl⟩;unfold dI og at *;simp only[RD]at h⊢;obtain⟨a,b,c,d,e,f,g1,g2,g3⟩:=h;exact⟨a,b,c,d,e,f,g1,show dy 0 0 10=true by decide,g3⟩
structure mJ (p q:bh):Prop where
  Rd:q.Rd=p.Rd
  own:q.own=p.own
  Rk:q.Rk=p.Rk
theorem mJ.refl(p:bh):mJ p p:=⟨rfl,rfl,rfl⟩
theorem mJ.trans{p q r:bh}(h:mJ p q)(k:mJ q r):mJ p r:=⟨k.Rd.trans h.Rd,k.own.trans h.own,k.Rk.trans h.Rk⟩
theorem PA(p:bh)(now:Int):mJ p (fP p now):=by unfold fP;split<;>exact⟨rfl,rfl,rfl⟩
theorem OH(p:bh)(me now:Int):mJ p (gz p me now):=by unfold gz;split<;>exact⟨rfl,rfl,rfl⟩
theorem Ll(p:bh)(now n:Int):mJ p (gH p now n).1:=by unfold gH;split<;>exact⟨rfl,rfl,rfl⟩
theorem PW(p:bh)(now:Int):mJ p (iN p now).1:=by
  unfold iN;split
  · split<;>exact⟨rfl,rfl,rfl⟩
  · exact⟨rfl,rfl,rfl⟩
theorem C7{n:Nat}{p:bh}(h:dI p=true)(hw:wP p)(hs:(sp p).cd<=1000000)(i now:Int):dI (iP n p i now)=true/\sp (iP n p i now)=sp p/\mJ p (iP n p i now)/\(Int.tmod now (n:Int)=i->(iP n p i now).Rn=0):=by
  obtain⟨k1,k2⟩:=yb h now;obtain⟨w1,w2⟩:=yi k1 i now;have e:sp (gz (fP p now) i now)=sp p:=w2.trans k2;obtain⟨c1,c2⟩:=yj w1 (yv (xj hw now) i now) (by rw[e];exact hs) now 3;have kk:mJ p (ki p i now):=((PA p now).trans (OH _ i now)).trans (Ll _ now 3);have m1:dI (ki p i now)=true:=c1;have m2:sp (ki p i now)=sp p:=c2.trans e;unfold iP;cases hc:Int.tmod now (n:Int)==i
  · exact⟨m1,m2,kk,fun q=>by rw[q]at hc;simp at hc⟩
  · obtain⟨r1,r2,r3⟩:=Fj m1 now;exact⟨r1,r2.trans m2,kk.trans (PW _ now),fun _=>r3⟩
def lO(f:de->Int):List (List dk)->Int
  | []=>0
  | t::l=>eM f t+lO f l
theorem Ag(f:de->Int):∀(l:List (List dk)) (k:Nat) (y z:List dk),l[k]?=some y->lO f (l.set k z)=lO f l-eM f y+eM f z
  | [],k,y,z,h=>by simp at h
  | x::l,0,y,z,h=>by
    simp at h;subst h
    show eM f z+lO f l=(eM f x+lO f l)-eM f x+eM f z
    omega
  | x::l,k+1,y,z,h=>by
    show eM f x+lO f (l.set k z)=eM f x+lO f l-eM f y+eM f z
    rw[Ag f l k y z (by simpa using h)];omega
theorem PC{ts:List dV}{p:Int}(h0:0<=p)(h1:p<(ts.length:Int)):(fp ts)[p.toNat]?=some (nth ts p).Ru:=by
  unfold fp;rw[List.getElem?_map,fM h0 h1];rfl
theorem OO{ts:List dV}(k:Nat)(t:List dk):fp (ts.set k (dV.mk t))=(fp ts).set k t:=by
  unfold fp;rw[List.map_set]
theorem L0{ts:List dV}{i j:Int}{z:dV}(h0:0<=i)(h1:i<(ts.length:Int))(hj:0<=j):nth (ts.set i.toNat z) j=if i=j then z else nth ts j:=by
  unfold nth
  by_cases e:i=j
  · subst e;rw[if_pos rfl,List.getElem?_set_self (by omega)];rfl
  · rw[if_neg e,List.getElem?_set_ne (by omega)]
structure Tk (ts us:List dV):Prop where
  ok:jh us=true
  pg:lO de.cd (fp us)=lO de.cd (fp ts)
  rt:lO de.dg (fp us)=lO de.dg (fp ts)
  cp:lO de.du (fp us)=lO de.du (fp ts)
theorem Ki{ts:List dV}(h:jh ts=true)(p:Int)(t:eA):Tk ts (iu ts p t).1:=by
  unfold iu;split
  · rename_i c;rw[RD]at c;obtain⟨c1,c2⟩:=c;obtain⟨_,_,⟨p0,p1⟩,⟨q0,q1⟩,_⟩:=tz c1;obtain⟨k1,k2,k3⟩:=ub (Le c1);have e1:=k3 de.cd fun _ _=>rfl;have e2:=k3 de.dg fun _ _=>rfl;have e3:=k3 de.du fun _ _=>rfl;unfold kG at c2;have hpl:=tX ts p t;have hpt:iy ts p t=ts.set p.toNat (dV.mk (eF (nth ts p).Ru t.Rt (iB t.iH (rk ts p t))).1):=rfl
    have hq:fF (nth (iy ts p t) t.fW).Ru=true:=by
      rw[hpt,L0 p0 p1 q0];split
      · exact fI.2 k1
      · exact zj h q0 q1
    have hT:=fI.1 hq;obtain⟨t1,t2,t3⟩:=hT.eM;have hS:=eN.1 hT.sum;rw[t1,t2,t3]at hS;have ha:=eN.1 k2
    have hts:fX (nth (iy ts p t) t.fW).Ru=⟨eM de.cd (nth (iy ts p t) t.fW).Ru,eM de.dg (nth (iy ts p t) t.fW).Ru,eM de.du (nth (iy ts p t) t.fW).Ru⟩:=by
      unfold fX;rw[if_pos hq, <- t1, <- t2, <- t3]
    have hfit:eM de.cd (nth (iy ts p t) t.fW).Ru+(iB t.iH (rk ts p t)).cd<=1000000/\eM de.dg (nth (iy ts p t) t.fW).Ru+(iB t.iH (rk ts p t)).dg<=1000000/\eM de.du (nth (iy ts p t) t.fW).Ru+(iB t.iH (rk ts p t)).du<=1000000:=by
      unfold jJ at c2;rw[hq,k2,hts]at c2;simp only[RC]at c2;split at c2
      · rename_i ok;have:=eN.1 ok;unfold dY at this;dsimp only at this;rw[dF (by omega) (by omega),dF (by omega) (by omega),dF (by omega) (by omega)]at this;omega
      · cases c2
    obtain⟨_,b1,b2,b3,b4⟩:=x6 hT t.nG k2 hfit.1 hfit.2.1 hfit.2.2
    have hne:t.fW<((iy ts p t).length:Int):=by rw[hpl];exact q1
    have tt:∀f:de->Int,lO f (fp ((iy ts p t).set t.fW.toNat (dV.mk (kG ts p t).1)))=lO f (fp ts)-eM f (nth ts p).Ru+eM f (eF (nth ts p).Ru t.Rt (iB t.iH (rk ts p t))).1-eM f (nth (iy ts p t) t.fW).Ru+eM f (kG ts p t).1:=fun f=>by
      rw[OO,Ag f _ _ _ _ (PC q0 hne),hpt,OO,Ag f _ _ _ _ (PC p0 p1)]
    refine⟨?_,?_,?_,?_⟩
    · unfold jh at h⊢;rw[List.all_eq_true]at h⊢;intro y hy
      rcases List.mem_or_eq_of_mem_set hy with q|rfl
      · rcases List.mem_or_eq_of_mem_set (show y∈ts.set _ _ from q)with q|rfl
        · exact h y q
        · exact fI.2 k1
      · exact fI.2 b1
    · dsimp only;rw[tt,show eM de.cd (kG ts p t).1=_ from b2];omega
    · dsimp only;rw[tt,show eM de.dg (kG ts p t).1=_ from b3];omega
    · dsimp only;rw[tt,show eM de.du (kG ts p t).1=_ from b4];omega
  · exact⟨h,rfl,rfl,rfl⟩
theorem zA(p:Int):∀(dc:List eA) (ts:List dV),jh ts=true->Tk ts (oW ts p dc)
  | [],ts,h=>⟨h,rfl,rfl,rfl⟩
  | t::dc,ts,h=>by
    have a:=Ki h p t;have b:=zA p dc _ a.ok;exact⟨b.ok,b.pg.trans a.pg,b.rt.trans a.rt,b.cp.trans a.cp⟩
def iE:List bh->de
  | []=>⟨0,0,0⟩
  | p::l=>⟨(sp p).cd+(iE l).cd,(sp p).dg+(iE l).dg,(sp p).du+(iE l).du⟩
theorem FE:∀(l:List bh) (s:de) (n:Nat),(∀p,p∈l->dI p=true)->l.length<=n->n<=3->u6 s (3000000*(3-(n:Int))) ->
    kY s l=⟨s.cd+(iE l).cd,s.dg+(iE l).dg,s.du+(iE l).du⟩/\(0<=(iE l).cd/\0<=(iE l).dg/\0<=(iE l).du)
  | [],s,n,_,_,_,_=>by
    refine⟨?_,by decide⟩
    show s=_
    unfold iE;simp only[Int.add_zero]
  | p::l,s,n,h,hl,hn,hs=>by
    obtain⟨e,⟨r1,r2,r3⟩,_⟩:=zs (h p (by simp));simp only[List.length_cons]at hl;unfold u6 at hs
    have e2:dY s (ig p)=⟨s.cd+(sp p).cd,s.dg+(sp p).dg,s.du+(sp p).du⟩:=by
      rw[e];unfold dY;rw[dF (by omega) (by omega),dF (by omega) (by omega),dF (by omega) (by omega)]
    have hb:u6 ⟨s.cd+(sp p).cd,s.dg+(sp p).dg,s.du+(sp p).du⟩ (3000000*(3-((n-1:Nat):Int))):=by
      unfold u6;dsimp only;omega
    obtain⟨a,b⟩:=FE l _ (n-1) (fun q hq=>h q (by simp[hq])) (by omega) (by omega) hb;have e3:kY s (p::l)=kY (dY s (ig p)) l:=rfl;rw[e3,e2,a];have e4:iE (p::l)=⟨(sp p).cd+(iE l).cd,(sp p).dg+(iE l).dg,(sp p).du+(iE l).du⟩:=rfl;rw[e4];dsimp only;refine⟨by rw[Int.add_assoc,Int.add_assoc,Int.add_assoc],by omega,by omega,by omega⟩
structure Wk (w:dq):Prop where
  Rj:0<=w.Rj/\w.Rj<=1000000
  len:1<=w.parts.length/\w.parts.length<=3
  ok:∀p,p∈w.parts->dI p=true
  sum:dT (iE w.parts)=true
theorem Ay{l:List bh}(h:∀p,p∈l->dI p=true)(h3:l.length<=3):kY ⟨0,0,0⟩ l=iE l:=by
  have:=(FE l ⟨0,0,0⟩ 3 h h3 (by decide) (by unfold u6;decide)).1;rw[this];simp only[Int.zero_add]
theorem mo{w:dq}:eO w=true <-> Wk w:=by
  unfold eO;simp only[RD,dM,List.all_eq_true];constructor
  · rintro⟨a,b,c,d⟩;rw[Ay c (by omega)]at d;exact⟨a,by omega,c,d⟩
  · rintro⟨a,b,c,d⟩;refine⟨a,by omega,c,?_⟩;rw[Ay c b.2];exact d
theorem DU:∀(l:List bh),(∀p,p∈l->dI p=true)->(0<=(iE l).cd)/\∀p,p∈l->(sp p).cd<=(iE l).cd
  | [],_=>⟨by decide,fun p hp=>by simp at hp⟩
  | q::l,h=>by
    obtain⟨_,⟨r1,_,_⟩,_⟩:=zs (h q (by simp));obtain⟨a,b⟩:=DU l fun p hp=>h p (by simp[hp]);have e:(iE (q::l)).cd=(sp q).cd+(iE l).cd:=rfl;rw[e];refine⟨by omega,fun p hp=>?_⟩
    rcases List.mem_cons.1 hp with rfl|hp
    · omega
    · have:=b p hp;omega
theorem BO:∀(l:List bh) (k:Nat) (y z:bh),l[k]?=some y->sp z=sp y->iE (l.set k z)=iE l
  | [],k,y,z,h,_=>by simp at h
  | x::l,0,y,z,h,e=>by
    simp at h;subst h
    show de.mk ((sp z).cd+(iE l).cd) _ _=_
    rw[e];rfl
  | x::l,k+1,y,z,h,e=>by
    show de.mk ((sp x).cd+(iE (l.set k z)).cd) _ _=_
    rw[BO l k y z (by simpa using h) e];rfl
theorem Qb{p:bh}(h:dI p=true){t:List dk}(ht:fF t=true):dI (lD p t)=true:=by
  unfold dI at h⊢;simp only[RD]at h⊢;exact⟨h.1,h.2.1,ht,h.2.2.2⟩
theorem HV:∀(l:List bh) (ts:List (List dk)),ts.length=l.length ->
    (iE (fb l ts)).cd=(iE l).cd-lO de.cd (gQ l)+lO de.cd ts/\(iE (fb l ts)).dg=(iE l).dg-lO de.dg (gQ l)+lO de.dg ts/\(iE (fb l ts)).du=(iE l).du-lO de.du (gQ l)+lO de.du ts
  | [],[],_=>by decide
  | [],_::_,h=>by simp at h
  | _::_,[],h=>by simp at h
  | p::l,t::ts,h=>by
    obtain⟨a,b,c⟩:=HV l ts (by simpa using h);have e:fb (p::l) (t::ts)=lD p t::fb l ts:=rfl;have e1:∀f:de->Int,lO f (gQ (p::l))=eM f p.Re+lO f (gQ l):=fun f=>rfl;have e2:∀f:de->Int,lO f (t::ts)=eM f t+lO f ts:=fun f=>rfl;have e3:∀q m,iE (q::m)=⟨(sp q).cd+(iE m).cd,(sp q).dg+(iE m).dg,(sp q).du+(iE m).du⟩:=fun q m=>rfl;have e4:sp (lD p t)=⟨eM de.cd t+iA p.heap.ag+p.db.cd,eM de.dg t+p.db.dg,eM de.du t+p.db.du⟩:=rfl;have e5:sp p=⟨eM de.cd p.Re+iA p.heap.ag+p.db.cd,eM de.dg p.Re+p.db.dg,eM de.du p.Re+p.db.du⟩:=rfl;rw[e,e3,e3,e4,e5,e1,e1,e1,e2,e2,e2];dsimp only;omega
theorem Ec:∀(l:List bh) (ts:List (List dk)),ts.length=l.length->(fb l ts).length=l.length/\∀(k:Nat) (q:bh),(fb l ts)[k]?=some q->∃p t,l[k]?=some p/\t∈ts/\q=lD p t
  | [],[],_=>⟨rfl,fun k q h=>by simp[fb]at h⟩
  | [],_::_,h=>by simp at h
  | _::_,[],h=>by simp at h
  | p::l,t::ts,h=>by
    obtain⟨a,b⟩:=Ec l ts (by simpa using h);have e:fb (p::l) (t::ts)=lD p t::fb l ts:=rfl;rw[e];refine⟨by simp[a],fun k q hq=>?_⟩
    cases k with
    | zero=>simp at hq;exact⟨p,t,rfl,by simp,hq.symm⟩
    | succ k =>
      obtain⟨p',t',h1,h2,h3⟩:=b k q (by simpa using hq);exact⟨p',t',by simpa using h1,by simp[h2],h3⟩
theorem LK(l:List bh):fp (gw l)=gQ l:=by
  unfold fp gw;rw[List.map_map];exact(List.map_congr_left fun _ _=>rfl).trans (List.map_id _)
structure Qq (t u:dq):Prop where
  wk:Wk u
  sum:iE u.parts=iE t.parts
  Rj:u.Rj=t.Rj
  len:u.parts.length=t.parts.length
  iJ:∀j,0<=j->j<(t.parts.length:Int)->mJ (nth t.parts j) (nth u.parts j)/\(nth u.parts j).Rn=(nth t.parts j).Rn
  w:wW t.parts->wW u.parts
theorem HE{t:dq}(h:Wk t)(k:Int):Qq t (dD t k):=by
  unfold dD;split
  · have h0:jh (gw t.parts)=true:=by
      unfold jh;rw[List.all_eq_true];intro y hy;obtain⟨x,hx,rfl⟩:=List.mem_map.1 (show y∈(gQ t.parts).map dV.mk from hy);obtain⟨p,hp,rfl⟩:=List.mem_map.1 (show x∈t.parts.map _ from hx);exact jB (h.ok p hp)
    have hk:=zA k (nth t.parts k).dc (gw t.parts) h0
    have hlen:(fp (oW (gw t.parts) k (nth t.parts k).dc)).length=t.parts.length:=by
      unfold fp;rw[List.length_map];exact tI
    generalize hu:fp (oW (gw t.parts) k (nth t.parts k).dc)=ts at *
    have hts:∀x,x∈ts->fF x=true:=fun x hx=>by
      rw[<- hu]at hx;obtain⟨y,hy,rfl⟩:=List.mem_map.1 (show x∈(oW (gw t.parts) k (nth t.parts k).dc).map _ from hx);have:=hk.ok;unfold jh at this;rw[List.all_eq_true]at this;exact this y hy
    have e1:=hk.pg;have e2:=hk.rt;have e3:=hk.cp;rw[LK,hu]at e1 e2 e3;obtain⟨s1,s2,s3⟩:=HV t.parts ts hlen;obtain⟨l1,l2⟩:=Ec t.parts ts hlen
    have hs:iE (fb t.parts ts)=iE t.parts:=by
      generalize iE (fb t.parts ts)=a at *;generalize iE t.parts=b at *;obtain⟨a1,a2,a3⟩:=a;obtain⟨b1,b2,b3⟩:=b;dsimp only at *
      have:a1=b1:=by omega
      have:a2=b2:=by omega
      have:a3=b3:=by omega
      subst_vars;rfl
    have hall:∀q,q∈fb t.parts ts->∃p x,p∈t.parts/\x∈ts/\q=lD p x:=fun q hq=>by
      obtain⟨i,hi⟩:=List.getElem?_of_mem hq;obtain⟨p,x,a,b,c⟩:=l2 i q hi;exact⟨p,x,List.mem_of_getElem? a,b,c⟩
    refine⟨⟨h.Rj,by show 1<=(fb t.parts ts).length/\(fb t.parts ts).length<=3;rw[l1];exact h.len,fun q hq=>?_,by show dT (iE (fb t.parts ts))=true;rw[hs];exact h.sum⟩,hs,rfl,l1,fun j j0 j1=>?_,fun hw q hq=>?_⟩
    · obtain⟨p,x,hp,hx,rfl⟩:=hall q hq;exact Qb (h.ok p hp) (hts x hx)
    · have hg:=fM (l:=fb t.parts ts) j0 (by omega);obtain⟨p,x,a,b,c⟩:=l2 _ _ hg
      have hp:nth t.parts j=p:=by
        rw[fM j0 j1]at a;exact Option.some.inj a
      rw[hp]
      show mJ p (nth (fb t.parts ts) j)/\(nth (fb t.parts ts) j).Rn=p.Rn
      rw[c];exact⟨⟨rfl,rfl,rfl⟩,rfl⟩
    · obtain⟨p,x,hp,hx,rfl⟩:=hall q hq;exact hw p hp
  · exact⟨h,rfl,rfl,rfl,fun j _ _=>⟨mJ.refl _,rfl⟩,fun h=>h⟩
structure Jt (w:dq) (now:Int) (k:Nat) (t:dq):Prop where
  wk:Wk t
  at_:t.Rj=now
  len:t.parts.length=w.parts.length
  sum:iE t.parts=iE w.parts
  iJ:∀j,0<=j->j<(w.parts.length:Int)->mJ (nth w.parts j) (nth t.parts j)
  Rn:∀j:Nat,j<k->Int.tmod now (w.parts.length:Int)=(j:Int)->(nth t.parts (j:Int)).Rn=0
  w:wW t.parts
theorem xC{l:List bh}{i j:Int}{z:bh}(h0:0<=i)(h1:i<(l.length:Int))(hj:0<=j):nth (l.set i.toNat z) j=if i=j then z else nth l j:=by
  unfold nth
  by_cases e:i=j
  · subst e;rw[if_pos rfl,List.getElem?_set_self (by omega)];rfl
  · rw[if_neg e,List.getElem?_set_ne (by omega)]
theorem Ie{n:Nat}{p:bh}(hw:wP p)(hb:dG p<=2000000)(i now:Int):wP (iP n p i now):=(wL (n:=n) hb (Nat.le_refl _) hw i now).2
theorem Jt.step{w:dq}{now:Int}{k:Nat}{t:dq}(h:Jt w now k t)(hk:k<w.parts.length)(hn:w.parts.length<=3)(hsz:∀p,p∈(dD t (k:Int)).parts->dG p<=2000000):Jt w now (k+1) (iQ w.parts.length k t):=by
  have hT:=HE h.wk (k:Int);have hlen:=hT.len.trans h.len;have hm:=gJ (l:=(dD t (k:Int)).parts) (i:=(k:Int)) (by omega) (by omega);have hok:=hT.wk.ok _ hm;have hww:=hT.w h.w;have hsum:=eN.1 hT.wk.sum;have hge:=(DU _ hT.wk.ok).2 _ hm;obtain⟨a1,a2,a3,a4⟩:=C7 (n:=w.parts.length) hok (hww _ hm) (by omega) (k:Int) (dD t (k:Int)).Rj;have hnow:(dD t (k:Int)).Rj=now:=hT.Rj.trans h.at_;have hg:=fM (l:=(dD t (k:Int)).parts) (i:=(k:Int)) (by omega) (by omega);rw[Int.toNat_natCast]at hg;have hs:=BO _ k _ _ hg a2
  have hset:∀j,0<=j->nth ((dD t (k:Int)).parts.set k (iP w.parts.length (nth (dD t (k:Int)).parts (k:Int)) (k:Int) (dD t (k:Int)).Rj)) j=if(k:Int)=j then iP w.parts.length (nth (dD t (k:Int)).parts (k:Int)) (k:Int) (dD t (k:Int)).Rj else nth (dD t (k:Int)).parts j:=fun j hj=>by
    have:=xC (l:=(dD t (k:Int)).parts) (i:=(k:Int)) (z:=iP w.parts.length (nth (dD t (k:Int)).parts (k:Int)) (k:Int) (dD t (k:Int)).Rj) (by omega) (by omega) hj
    rwa[Int.toNat_natCast]at this
  unfold iQ;refine⟨⟨hT.wk.Rj,?_,fun q hq=>?_,?_⟩,hnow,?_,?_,fun j j0 j1=>?_,fun j hj e=>?_,fun q hq=>?_⟩
  · show 1<=(List.set _ _ _).length/\(List.set _ _ _).length<=3
    rw[List.length_set];exact hT.wk.len
  · rcases List.mem_or_eq_of_mem_set (show q∈List.set _ _ _ from hq)with q1|rfl
    · exact hT.wk.ok q q1
    · exact a1
  · show dT (iE (List.set _ _ _))=true
    rw[hs];exact hT.wk.sum
  · show(List.set _ _ _).length=_
    rw[List.length_set];exact hlen
  · show iE (List.set _ _ _)=_
    rw[hs,hT.sum];exact h.sum
  · show mJ (nth w.parts j) (nth (List.set _ _ _) j)
    have b1:=h.iJ j j0 j1;have b2:=(hT.iJ j j0 (by have:=h.len;omega)).1;rw[hset j j0];split
    · rename_i ej;subst ej;exact(b1.trans b2).trans a3
    · exact b1.trans b2
  · show(nth ((dD t (k:Int)).parts.set k (iP w.parts.length (nth (dD t (k:Int)).parts (k:Int)) (k:Int) (dD t (k:Int)).Rj)) (j:Int)).Rn=0
    rw[hset (j:Int) (by omega)];split
    · rename_i ej;exact a4 (by rw[hnow,e];exact ej.symm)
    · rename_i ej
      have hjk:j<k:=by omega
      rw[(hT.iJ (j:Int) (by omega) (by have:=h.len;omega)).2];exact h.Rn j hjk e
  · rcases List.mem_or_eq_of_mem_set (show q∈List.set _ _ _ from hq)with q1|rfl
    · exact hww q q1
    · exact Ie (hww _ hm) (hsz _ hm) _ _
theorem CH{α τ:Type}{P:Nat->τ->Prop}{f:Nat->τ->α->τ}:∀(l:List α) (k n:Nat) (t:τ),k+l.length=n->(∀j t y,k<=j->j<n->P j t->P (j+1) (f j t y))->P k t->P n (foldI f k t l)
  | [],k,n,t,e,_,h=>by
    simp at e;subst e;exact h
  | y::l,k,n,t,e,hs,h=>by
    simp only[List.length_cons]at e;unfold foldI;exact CH l (k+1) n _ (by omega) (fun j t y hj hn hp=>hs j t y (by omega) hn hp) (hs k t y (Nat.le_refl _) (by omega) h)
theorem Md{l:List c6}(h10:l.length=10){i t:Int}(i0:0<=i)(i9:i<=9){j k:Int}(j0:0<=j)(q:k∈eY (l.set i.toNat (kP (nth l i) t)) j):k∈eY l j:=by
  have hn:∀j,0<=j->nth (l.set i.toNat (kP (nth l i) t)) j=if i=j then kP (nth l i) t else nth l j:=fun j hj=>gM i0 (by omega) hj
  have hb:∀j,0<=j->(nth (l.set i.toNat (kP (nth l i) t)) j).box=(nth l j).box/\(nth (l.set i.toNat (kP (nth l i) t)) j).so=(nth l j).so/\(nth (l.set i.toNat (kP (nth l i) t)) j).dp=(nth l j).dp:=fun j hj=>by
    rw[hn j hj];split
    · rename_i e;subst e;exact⟨rfl,rfl,rfl⟩
    · exact⟨rfl,rfl,rfl⟩
  obtain⟨⟨k0,k9⟩,u⟩:=(i7 (by rw[List.length_set];exact h10)).1 q;rw[(hb k k0).1,(hb k k0).2.1,(hb j j0).2.1,(hb j j0).2.2]at u;exact(i7 h10).2 ⟨⟨k0,k9⟩,u⟩
theorem N6{p:bh}(ok:dI p=true){now:Int}(hn:1<=now/\now<=1000000):Kp now p (fP p now):=by
  have hk:=jD (yb ok now).1;unfold fP at *;split
  · rename_i c;rw[if_pos c]at hk;intro g D n r;dsimp only at hk⊢;unfold nW at *;split
    · rename_i hv;rw[if_pos hv]at hk;obtain⟨_,v0,v9⟩:=qS (qR hv);have h4:=(xz (qR hv)).1;have h10:=(fe ok).len;generalize lQ p now=i at *;refine Rec.put (h:=p.heap) r v0 v9 (fun o=>kP o (IntKind.i64.wrap (now-1))) rfl rfl rfl (fun q=>?_) hk fun j k j0 j9 q=>.inl (Md h10 v0 v9 j0 q);unfold ep at q
      have e:((kP (nth p.heap.ag i) (IntKind.i64.wrap (now-1))).so==0)=false:=by
        show((nth p.heap.ag i).so==0)=false
        rw[h4];rfl
      rw[e,Rz]at q;have q:=of_decide_eq_false q;have q:¬ IntKind.i64.wrap (now-1)<now:=q;rw[dF (by omega) (by omega)]at q;omega
    · exact r
  · exact Kp.self _ _
theorem NN{p:bh}(ok:dI p=true)(me now:Int):Kp now p (gz p me now):=by
  have hk:=(yi ok me now).1;unfold gz at *;split
  · rename_i c;rw[if_pos c]at hk;refine Kp.bm hk rfl ⟨Bj p me now,fun j j0 j9=>?_⟩
    show(nth (m8 p me now) j).mark=_
    unfold m8;rw[B1 _ j0 (by have:=(fe ok).len;omega)];split<;>rfl
  · exact Kp.self _ _
theorem Oc{p:bh}(ok:dI p=true)(now:Int):Kp now p (iN p now).1:=by
  have hk:=(Fj ok now).1;unfold iN at *;rw[if_pos ok]at hk⊢;split
  · exact Kp.heap rfl
  · rename_i c;rw[if_neg c]at hk
    have hx:decide (gS p now<0)=false:=by
      unfold pK at c;cases q:decide (gS p now<0)
      · rfl
      · rw[q]at c;simp at c
    obtain⟨_,n0,n9⟩:=wE hx;exact Kp.bm hk rfl (Bm.set (fe ok).len n0 n9 rfl rfl)
theorem Em{g:Int->Int}{D:Int->Prop}{now:Int}:∀(k n:Nat) (h:df),Rec g D h now (n+k)->Rec g D (Mx now k h) now n
  | 0,n,h,r=>r
  | k+1,n,h,r=>Em k n _ r.step
theorem LV{m:Nat}{p:bh}(ok:dI p=true)(hw:wP p)(hs:(sp p).cd<=1000000)(i:Int){now:Int}(hn:1<=now/\now<=1000000){g:Int->Int}{D:Int->Prop}{n:Nat}(r:Rec g D p.heap now (n+3)):Rec g D (iP m p i now).heap now n:=by
  obtain⟨k1,k2⟩:=yb ok now;obtain⟨w1,w2⟩:=yi k1 i now;have e:sp (gz (fP p now) i now)=sp p:=w2.trans k2;obtain⟨c1,c2⟩:=yj w1 (yv (xj hw now) i now) (by rw[e];exact hs) now 3;have r1:=NN k1 i now _ _ _ (N6 ok hn _ _ _ r)
  have eC:(ki p i now).heap=Mx now 3 (gz (fP p now) i now).heap:=by
    unfold ki gH;rw[if_pos (by rw[w1];rfl)];exact CD now 3 _
  have r2:Rec g D (ki p i now).heap now n:=by rw[eC];exact Em 3 n _ r1
  unfold iP;cases Int.tmod now (m:Int)==i
  · exact r2
  · exact Oc c1 now _ _ _ r2
theorem Ef{w:dq}(ok:eO w=true){q:Int}(hq:eR w q=true){z:bh}(h:Gd (nth w.parts q) z):eO (kX w q z)=true/\iE (kX w q z).parts=iE w.parts:=by
  have k:=mo.1 ok;have r:=xg hq;have e:iE (w.parts.set q.toNat z)=iE w.parts:=BO _ _ _ _ (fM r.1 r.2) h.sp;refine⟨mo.2 ⟨k.Rj,by show 1<=(w.parts.set _ _).length/\(w.parts.set _ _).length<=3;rw[List.length_set];exact k.len,fun y hy=>?_,by show dT (iE (w.parts.set _ _))=true;rw[e];exact k.sum⟩,e⟩
  rcases List.mem_or_eq_of_mem_set hy with a|rfl
  · exact k.ok y a
  · exact h.ok
theorem N3{w:dq}(hw:Wq w)(ok:eO w=true)(p th:Int)(c:dH):eO (im w p th c).1=true/\iE (im w p th c).1.parts=iE w.parts:=by
  rcases J9 hw ok p th c with e|⟨q,z,hq,_,hg,e⟩
  · rw[e];exact⟨ok,rfl⟩
  · rw[e];exact Ef ok hq hg
theorem EJ{w:dq}(hw:Wq w)(ok:eO w=true)(p th:Int)(c:dH):(im w p th c).1=w\/∃q z,eR w q=true/\Kp w.Rj (nth w.parts q) z/\(im w p th c).1=kX w q z:=by
  have hn:=(mo.1 ok).Rj.2;unfold im;cases hok:!eO w || !eR w p
  case true=>exact .inl rfl
  have hp:eR w p=true:=by rw[ok]at hok;simpa using hok
  obtain⟨p1,p2⟩:=fx hp;have pp:=hw.AE ok p2;cases hc:iV (nth w.parts p) w.Rj th
  case false=>exact .inl rfl
  cases ho:decide (other w p c<0)
  case true=>exact .inl rfl
  have hq:=qo ho;generalize other w p c=q at *;obtain⟨q1,q2⟩:=fx hq;have pq:=hw.AE ok q2;simp only[Rz,RB]
  have f3:∀r:Int×Int×dq,(rl r).1=r.2.2:=fun r=>by unfold rl;cases r.1 != 0<;>rfl
  cases c.so==7
  case true=>rw[RA,f3,AG];exact .inl rfl
  cases c.so==17
  case true =>
    rw[Rz,RA,f3];unfold rq;cases hb:dy c.b 0 999
    case false=>exact .inl rfl
    cases l8 w p p q
    case false=>exact .inl rfl
    exact .inr ⟨q,_,hq,N1 pq hb,rfl⟩
  cases c.so==16
  case true =>
    rw[Rz,Rz,RA,f3];unfold wj;cases decide (c.d<0) || !il (pI c)
    case true=>exact .inl rfl
    cases l8 w p p q
    case false=>exact .inl rfl
    cases ei (nth w.parts p).Re c.a
    case false=>exact .inl rfl
    cases decide (((nth w.parts p).dc.length:Int)>=3)
    case true=>exact .inl rfl
    exact .inr ⟨p,tY (nth w.parts p) ((nth w.parts p).dc++[pI c]),hp,Kp.heap rfl,rfl⟩
  exact .inr ⟨p,_,hp,Nz pp p hn th c,rfl⟩
theorem Lf{t:dq}(h:Wk t)(k j:Int)(j0:0<=j)(j1:j<(t.parts.length:Int)):(nth (dD t k).parts j).heap=(nth t.parts j).heap:=by
  unfold dD;split
  · have hlen:(fp (oW (gw t.parts) k (nth t.parts k).dc)).length=t.parts.length:=by
      unfold fp;rw[List.length_map];exact tI
    generalize fp (oW (gw t.parts) k (nth t.parts k).dc)=ts at *;obtain⟨l1,l2⟩:=Ec t.parts ts hlen;have hg:=fM (l:=fb t.parts ts) j0 (by omega);obtain⟨p,x,a,b,c⟩:=l2 _ _ hg
    have hp:nth t.parts j=p:=by
      rw[fM j0 j1]at a;exact Option.some.inj a
    show(nth (fb t.parts ts) j).heap=_
    rw[c,hp];rfl
  · rfl
theorem Lg{w:dq}{q:Int}(h:eR w q=true):0<=q/\q<(w.parts.length:Int):=by
  unfold eR at h;have:=dM.1 h;omega
def Rw(g:Int->Int->Int)(D:Int->Int->Prop)(w:dq)(now:Int)(n:Nat):Prop:=∀p,0<=p->p<(w.parts.length:Int)->Rec (g p) (D p) (nth w.parts p).heap now n
theorem Rw.call{g:Int->Int->Int}{D:Int->Int->Prop}{w:dq}{n:Nat}(hw:Wq w)(ok:eO w=true)(r:Rw g D w w.Rj n)(p th:Int)(c:dH):Rw g D (im w p th c).1 w.Rj n:=by
  rcases EJ hw ok p th c with e|⟨q,z,hq,hk,e⟩
  · rw[e];exact r
  · rw[e];have q01:0<=q/\q<(w.parts.length:Int):=Lg hq;intro j j0 j1
    have hl:(kX w q z).parts.length=w.parts.length:=by unfold kX;dsimp only;rw[List.length_set]
    rw[hl]at j1
    show Rec (g j) (D j) (nth (w.parts.set q.toNat z) j).heap w.Rj n
    rw[xC (by omega) (by omega) j0];split
    · rename_i e;subst e;exact hk _ _ _ (r q j0 j1)
    · exact r j j0 j1
theorem Rw.tick{g:Int->Int->Int}{D:Int->Int->Prop}{w:dq}{n:Nat}(hT0:tx w.parts.length 0 (dq.mk (w.Rj+1) w.parts))(ok:eO w=true)(hm:(w.Rj==1000000)=false)(r:Rw g D w (w.Rj+1) (n+3)):Jt w (w.Rj+1) w.parts.length (tick w)/\Rw g D (tick w) (w.Rj+1) n:=by
  have hk:=mo.1 ok
  have hm:w.Rj ≠ 1000000:=by simpa using hm
  have hn:=hk.Rj;have hl:=hT0.small;unfold Kx.tick;rw[ok,show(w.Rj==1000000)=false from by simpa using hm];simp only[Bool.not_false,Bool.and_self,if_true];rw[dF (by omega) (by omega)];have h0:Jt w (w.Rj+1) 0 (dq.mk (w.Rj+1) w.parts):=⟨⟨⟨by dsimp only;omega,by dsimp only;omega⟩,hk.len,hk.ok,hk.sum⟩,rfl,rfl,rfl,fun j _ _=>mJ.refl _,fun j hj=>absurd hj (Nat.not_lt_zero _),hT0.w⟩;have key:=CH (P:=fun k t=>(Jt w (w.Rj+1) k t/\tx w.parts.length k t)/\∀p,0<=p->p<(w.parts.length:Int)->Rec (g p) (D p) (nth t.parts p).heap (w.Rj+1) (if p<(k:Int)then n else n+3)) (f:=fun k t (_:bh)=>iQ w.parts.length k t) w.parts 0 w.parts.length (dq.mk (w.Rj+1) w.parts) (by simp) (fun k t y _ hk' hp=>?_) ⟨⟨h0,hT0⟩,fun p p0 p1=>by rw[if_neg (by omega)];exact r p p0 p1⟩
  · obtain⟨⟨a,_⟩,b⟩:=key;refine⟨a,fun p p0 p1=>?_⟩;rw[a.len]at p1;have:=b p p0 p1
    rwa[if_pos p1]at this
  · obtain⟨⟨a,a'⟩,b⟩:=hp;have hsz:∀p,p∈(dD t (k:Int)).parts->dG p<=2000000:=fun p hp'=>Nat.le_trans ((a'.dc (k:Int)).sz p hp').1 (by omega);refine⟨⟨a.step hk' hl hsz,a'.step hk'⟩,fun p p0 p1=>?_⟩;have hT:=HE a.wk (k:Int);have hlen:=hT.len.trans a.len;have hm':=gJ (l:=(dD t (k:Int)).parts) (i:=(k:Int)) (by omega) (by omega);have hnow:(dD t (k:Int)).Rj=w.Rj+1:=hT.Rj.trans a.at_;have hsum:=eN.1 hT.wk.sum;have hge:=(DU _ hT.wk.ok).2 _ hm';have bp:=b p p0 p1;rw[<- Lf a.wk (k:Int) p p0 (by have:=a.len;omega)]at bp;unfold iQ;dsimp only;have hset:=xC (l:=(dD t (k:Int)).parts) (i:=(k:Int)) (z:=iP w.parts.length (nth (dD t (k:Int)).parts (k:Int)) (k:Int) (dD t (k:Int)).Rj) (by omega) (by omega) p0;rw[Int.toNat_natCast]at hset;rw[hset];split
    · rename_i e;subst e;rw[if_neg (by omega)]at bp;rw[if_pos (by omega),hnow];exact LV (hT.wk.ok _ hm') (hT.w a.w _ hm') (by omega) _ ⟨by omega,by omega⟩ bp
    · rename_i e
      have:(p<((k+1:Nat):Int))=(p<(k:Int)):=by apply propext;omega
      simp only[this];exact bp
theorem Nn{p:bh}(h:dI p=true){x:Int}(x0:0<=x)(x9:x<=9):Gd p (uC p x):=by
  refine⟨?_,rfl⟩;unfold dI og at *;simp only[RD]at h⊢;obtain⟨a,b,c,d,e,f,g1,g2,g3⟩:=h;refine⟨a,b,c,d,e,f,g1,?_,g3⟩
  show dy (uC p x).Rn 0 10=true
  unfold uC;dsimp only;rw[dF (by omega) (by omega),dM];omega
structure Tp (S:de) (m:Nat) (w:dq):Prop where
  ok:eO w=true
  sum:iE w.parts=S
  len:w.parts.length=m
theorem NP{S:de}{m:Nat}{w:dq}(h:Tp S m w)(hw:Wt w){g:Int->Int->Int}{D:Int->Int->Prop}{n:Nat}(r:Rw g D w w.Rj n)(e:eQ):Tp S m (mA w e).1/\(mA w e).1.Rj=(if e.so=1/\w.Rj ≠ 1000000 then w.Rj+1 else w.Rj)/\(mA w e).1.Rj>=w.Rj /\
    ((e.so ≠ 1\/w.Rj=1000000)->Rw g D (mA w e).1 (mA w e).1.Rj n)/\(e.so=1->w.Rj ≠ 1000000->Rw g D (mA w e).1 (mA w e).1.Rj (n-3)):=by
  have hk:=mo.1 h.ok;unfold mA;cases k1:e.so==1
  · have k1:e.so ≠ 1:=by simpa using k1
    have hl:∀(q:Int) (z:bh),(kX w q z).parts.length=w.parts.length:=fun q z=>by unfold kX;dsimp only;rw[List.length_set]
    have fin:∀v:dq,Tp S m v->v.Rj=w.Rj->Rw g D v w.Rj n->Tp S m v/\v.Rj=(if e.so=1/\w.Rj ≠ 1000000 then w.Rj+1 else w.Rj)/\v.Rj>=w.Rj/\((e.so ≠ 1\/w.Rj=1000000)->Rw g D v v.Rj n)/\(e.so=1->w.Rj ≠ 1000000->Rw g D v v.Rj (n-3)):=fun v a b c =>
      ⟨a,by rw[if_neg (fun q=>k1 q.1)];exact b,by omega,fun _=>by rw[b];exact c,fun q=>absurd q k1⟩
    simp only[Rz];cases k2:e.so==2
    · simp only[Rz];cases k3:e.so==3
      · exact fin w h rfl r
      · simp only[RA]
        rcases BD w e with q|⟨q1,q2,q3,q⟩
        · rw[q];exact fin w h rfl r
        · rw[q];have pq:=hw.q.AE h.ok (fx q2).2;obtain⟨a,b⟩:=Ef h.ok q2 (Nn pq.ok q3.1 q3.2);refine fin _ ⟨a,b.trans h.sum,(hl _ _).trans h.len⟩ rfl fun j j0 j1=>?_;rw[hl]at j1;have q01:=Lg q2
          show Rec (g j) (D j) (nth (w.parts.set e.py.toNat (uC (nth w.parts e.py) e.dU)) j).heap w.Rj n
          rw[xC q01.1 q01.2 j0];split
          · rename_i e';rw[<- e'];exact r _ q01.1 q01.2
          · exact r j j0 j1
    · simp only[RA];obtain⟨a,b⟩:=N3 hw.q h.ok e.py e.dU e.call;have rc:=Rw.call hw.q h.ok r e.py e.dU e.call
      rcases EJ hw.q h.ok e.py e.dU e.call with q|⟨q,z,_,_,q'⟩
      · rw[q];exact fin w h rfl r
      · refine fin _ ⟨a,b.trans h.sum,by rw[q',hl];exact h.len⟩ (by rw[q'];rfl) rc
  · have k1:e.so=1:=by simpa using k1
    simp only[RA]
    by_cases hm:w.Rj=1000000
    · have et:tick w=w:=by
        unfold tick;rw[if_neg (by rw[hm];simp)]
      rw[et];exact⟨h,by rw[if_neg (fun q=>q.2 hm)],by omega,fun _=>r,fun _ q=>absurd hm q⟩
    · have hT:=hw.t h.ok;have hn:=hk.Rj;rw[dF (by omega) (by omega)]at hT;have rn:Rw g D w (w.Rj+1) (n-3+3):=fun p p0 p1=>((r p p0 p1).mono (by omega)).more (by omega);obtain⟨J,R⟩:=Rw.tick hT h.ok (by simpa using hm) rn;refine⟨⟨mo.2 J.wk,J.sum.trans h.sum,J.len.trans h.len⟩,?_,?_,fun q=>?_,fun _ _=>?_⟩
      · rw[if_pos ⟨k1,hm⟩];exact J.at_
      · rw[J.at_];omega
      · rcases q with q|q
        · exact absurd k1 q
        · exact absurd q hm
      · rw[J.at_];exact R
end Go.Kx
