import Derived.Test.YtfmfgnhbgcjajaaGreatLNew
namespace Go.Kx
open Go
open Go.IntKind (i64)
set_option linter.unusedVariables false
set_option linter.unusedSimpArgs false
set_option maxRecDepth 10000
def eN(f:de->Int):List dp->Int
  | []=>0
  | r::t=>(if r.Ru then f r.dP else 0)+eN f t
def oI(f:de->Int)(r:dp):Int:=if r.Ru then f r.dP else 0
theorem xb(f:de->Int):∀(t:List dp) (k:Nat) (r z:dp),t[k]?=some r->eN f (t.set k z)=eN f t-oI f r+oI f z
  | [],k,r,z,h=>by simp at h
  | x::t,0,r,z,h=>by
    simp only[List.getElem?_cons_zero,Option.some.injEq]at h;subst h
    show oI f z+eN f t=oI f x+eN f t-oI f x+oI f z
    omega
  | x::t,k+1,r,z,h=>by
    rw[List.getElem?_cons_succ]at h;have:=xb f t k r z h
    show oI f x+eN f (t.set k z)=oI f x+eN f t-oI f r+oI f z
    omega
theorem r8:∀(t:List dp) (s:de) (B:Int),(∀r,r∈t->dT r.dP=true)->0<=B->B+1000000*(t.length:Int)<=1000000000->vg s B ->
    (eY s t).c6=s.c6+eN de.c6 t/\(eY s t).dh=s.dh+eN de.dh t/\(eY s t).du=s.du+eN de.du t
  | [],s,B,_,_,_,_=>⟨(Int.add_zero _).symm,(Int.add_zero _).symm,(Int.add_zero _).symm⟩
  | x::t,s,B,h,hB,hL,hs=>by
    have hx:=h x (by simp);simp only[List.length_cons]at hL;obtain⟨w1,w2,w3,w4⟩:=y6 hs hx (by omega);have e:eY s (x::t)=eY (if x.Ru then dX s x.dP else s) t:=rfl;have ht:∀r,r∈t->dT r.dP=true:=fun r hr=>h r (by simp[hr]);have d:∀f:de->Int,eN f (x::t)=(if x.Ru then f x.dP else 0)+eN f t:=fun f=>rfl;rw[e,d,d,d];cases hxl:x.Ru
    · obtain⟨a1,a2,a3⟩:=r8 t s B ht hB (by omega) hs;simp only[Bool.false_eq_true,if_false];exact⟨by omega,by omega,by omega⟩
    · obtain⟨a1,a2,a3⟩:=r8 t (dX s x.dP) (B+1000000) ht (by omega) (by omega) w4;simp only[if_true];exact⟨by omega,by omega,by omega⟩
theorem Cj:vg ⟨0,0,0⟩ 0:=by unfold vg;decide
theorem Tr.eN{t:List dp}(h:Tr t):(eY ⟨0,0,0⟩ t).c6=eN de.c6 t/\(eY ⟨0,0,0⟩ t).dh=eN de.dh t/\(eY ⟨0,0,0⟩ t).du=eN de.du t:=by
  have hl:=h.len;obtain⟨a,b,c⟩:=r8 t ⟨0,0,0⟩ 0 h.dP (by omega) (by omega) Cj;simp only[Int.zero_add]at a b c;exact⟨a,b,c⟩
theorem xE{t:List dp}{i j:Int}{z:dp}(h0:0<=i)(h1:i<(t.length:Int))(hj:0<=j):nth (t.set i.toNat z) j=if i=j then z else nth t j:=by
  unfold nth
  by_cases e:i=j
  · subst e;rw[if_pos rfl,List.getElem?_set_self (by omega)];rfl
  · rw[if_neg e,List.getElem?_set_ne (by omega)]
theorem ug{t:List dp}{i:Int}(h0:0<=i)(h1:i<(t.length:Int))(b:de){j:Int}(hj:0<=j):(nth (t.set i.toNat (jR (nth t i) b)) j).Ru=(nth t j).Ru/\(nth (t.set i.toNat (jR (nth t i) b)) j).Rv=(nth t j).Rv:=by
  rw[xE h0 h1 hj];split
  · rename_i e;subst e;exact⟨rfl,rfl⟩
  · exact⟨rfl,rfl⟩
theorem Ix{t:List dp}{i:Int}(h0:0<=i)(h1:i<(t.length:Int))(b:de)(j:Int):ei (t.set i.toNat (jR (nth t i) b)) j=ei t j:=by
  unfold ei;cases hj:dy j 0 4
  · rfl
  · rw[(ug h0 h1 b (dI.1 hj).1).1]
theorem CZ{t:List dp}{i:Int}(h0:0<=i)(h1:i<(t.length:Int))(b:de):∀(n:Nat) (j:Int),leads (t.set i.toNat (jR (nth t i) b)) n j=leads t n j
  | 0,j=>rfl
  | n+1,j=>by
    unfold leads;rw[Ix h0 h1];cases hv:ei t j
    · rfl
    · have:=(hY hv).1;have e:up (t.set i.toNat (jR (nth t i) b)) j=up t j:=(ug h0 h1 b this).2;rw[e,CZ h0 h1 b n (up t j)]
theorem Tr.set{t:List dp}(h:Tr t){i:Int}(h0:0<=i)(h4:i<=4)(hv:(nth t i).Ru=true){b:de}(hb:dT b=true)
    (hs:dT ⟨Kx.eN de.c6 t-(nth t i).dP.c6+b.c6,Kx.eN de.dh t-(nth t i).dP.dh+b.dh,Kx.eN de.du t-(nth t i).dP.du+b.du⟩=true) :
    Tr (t.set i.toNat (jR (nth t i) b))/\∀f:de->Int,Kx.eN f (t.set i.toNat (jR (nth t i) b))=Kx.eN f t-f (nth t i).dP+f b:=by
  have hl:=h.len
  have hi:i<(t.length:Int):=by omega
  have hg:=fO (l:=t) h0 hi
  have ht:∀f:de->Int,Kx.eN f (t.set i.toNat (jR (nth t i) b))=Kx.eN f t-f (nth t i).dP+f b:=fun f=>by
    rw[xb f t i.toNat _ _ hg];have e1:oI f (nth t i)=f (nth t i).dP:=if_pos hv;have e2:oI f (jR (nth t i) b)=f b:=if_pos hv;rw[e1,e2]
  have hbal:∀r,r∈t.set i.toNat (jR (nth t i) b)->dT r.dP=true:=fun r hr=>by
    rcases List.mem_or_eq_of_mem_set hr with q|q
    · exact h.dP r q
    · rw[q];exact hb
  have hl':(t.set i.toNat (jR (nth t i) b)).length=5:=by rw[List.length_set];exact hl
  refine⟨⟨hl',?_,?_,?_,hbal,?_,?_⟩,ht⟩
  · rw[(ug h0 hi b (by omega)).1];exact h.pJ
  · rw[(ug h0 hi b (by omega)).2];exact h.B5
  · intro r hr hd
    rcases List.mem_or_eq_of_mem_set hr with q|q
    · exact h.dead r q hd
    · rw[q]at hd;have:(nth t i).Ru=false:=hd;rw[hv]at this;cases this
  · intro k r hr hlv;rw[CZ h0 hi];have hk:k<(t.set i.toNat (jR (nth t i) b)).length:=eA hr;have e1:=nW hr;have e2:=(ug h0 hi b (j:=(k:Int)) (by omega)).1;rw[e1,hlv]at e2;exact h.lead k (nth t (k:Int)) (fO (l:=t) (i:=(k:Int)) (by omega) (by omega)) e2.symm
  · obtain⟨a1,a2,a3⟩:=r8 _ ⟨0,0,0⟩ 0 hbal (by omega) (by omega) Cj
    have e:eY ⟨0,0,0⟩ (t.set i.toNat (jR (nth t i) b))=⟨Kx.eN de.c6 t-(nth t i).dP.c6+b.c6,Kx.eN de.dh t-(nth t i).dP.dh+b.dh,Kx.eN de.du t-(nth t i).dP.du+b.du⟩:=by
      generalize eY ⟨0,0,0⟩ (t.set i.toNat (jR (nth t i) b))=q at *;obtain⟨q1,q2,q3⟩:=q;simp only[Int.zero_add,ht]at a1 a2 a3;subst a1 a2 a3;rfl
    rw[e];exact hs
theorem LI{a b:de}(h:jH a b=true):(xB b a)=⟨b.c6-a.c6,b.dh-a.dh,b.du-a.du⟩/\dT ⟨b.c6-a.c6,b.dh-a.dh,b.du-a.du⟩=true:=by
  unfold jH at h;simp only[RG,decide_eq_true_eq]at h;obtain⟨h1,h2,h3,h4,h5⟩:=h;have a1:=eO.1 h1;have a2:=eO.1 h2;refine⟨?_,eO.2 ⟨by simp only;omega,by simp only;omega,by simp only;omega⟩⟩;unfold xB;rw[dE (by omega) (by omega),dE (by omega) (by omega),dE (by omega) (by omega)]
theorem um{t:List dp}{f:Int}{a:de}(h:(eI t f a).2=true):Tr (eI t f a).1/\dT a=true/\∀g:de->Int,(∀x y:de,g ⟨x.c6-y.c6,x.dh-y.dh,x.du-y.du⟩=g x-g y)->eN g (eI t f a).1=eN g t-g a:=by
  obtain⟨h1,h2⟩:=uc h;have hT:=fK.1 h1;obtain⟨f0,f4⟩:=hY h2
  have hlv:(nth t f).Ru=true:=by
    unfold ei at h2;simp only[RG]at h2;exact h2.2
  unfold eI at *;rw[h1,h2]at *;simp only[Bool.and_self,if_true]at *;cases hf:jH a (nth t f).dP
  · rw[hf]at h;simp at h
  · simp only[if_true];obtain⟨e,ok⟩:=LI hf
    have ha:dT a=true:=by
      unfold jH at hf;simp only[RG]at hf;exact hf.1
    rw[e];have hl:=hT.len;have hm:nth t f∈t:=gy f0 (by omega);have hS:=eO.1 hT.sum;obtain⟨t1,t2,t3⟩:=hT.eN;have ha':=eO.1 ha;have ok':=eO.1 ok;obtain⟨_,q⟩:=qQ t ⟨0,0,0⟩ 0 hT.dP (by omega) (by omega) ⟨by decide,by decide⟩ ⟨by decide,by decide⟩ ⟨by decide,by decide⟩;obtain⟨q1,q2,q3⟩:=q _ hm hlv;simp only at ok';obtain⟨r1,r2⟩:=hT.set f0 f4 hlv ok (eO.2 ⟨by simp only;omega,by simp only;omega,by simp only;omega⟩);refine⟨r1,ha,fun g hg=>?_⟩;rw[r2 g,hg];omega
theorem zH{p:bh}{now y:Int}(h:y∈threads p now):0<=y/\y<=9:=(qS h).2
theorem xT{p:bh}{now y:Int}(h:y∈threads p now):(nth p.heap.ag y).so=4/\ey (nth p.heap.ag y) now=false:=by
  obtain⟨ok,y0,y9⟩:=qS h;have ar:=eX ok;unfold threads at h;rw[if_pos ok]at h;obtain⟨i,b,h1,h2,h3⟩:=ot.1 h;simp only[Nat.zero_add,RG,beq_iff_eq]at h2 h3;obtain⟨hb,hk⟩:=h2;subst h3;rw[hb]at h1;refine⟨hk,np ar (((vG ar now).2 i).1 h1) fun q=>?_⟩;rw[q,ar.sd]at hk;cases hk
theorem Mu{p:bh}(h:dJ p=true)(i:Int):ei p.Rh (iq p i)=true:=by
  have hT:=fK.1 (jF h);unfold iq;split
  · rename_i q;simp only[RG]at q;exact q.2
  · unfold ei;rw[hT.pJ];rfl
theorem qY{p:bh}{now:Int}(h:pH p now=false):gS p now∈runnable p now:=by
  unfold pH at h;simp only[Bool.or_eq_false_iff]at h;exact zR _ _ _ h.1
theorem HT{p:bh}{now:Int}(ok:dJ p=true){i:Int}(h:i∈runnable p now):(eI p.Rh (iq p (nth p.heap.ag i).Rx) ⟨0,0,1⟩).2=true:=by
  unfold runnable at h;obtain⟨_,hm⟩:=List.mem_filter.1 h;unfold uZ at hm;simp only[RG,decide_eq_true_eq]at hm;have hT:=fK.1 (jF ok);obtain⟨r0,r4⟩:=sK p (nth p.heap.ag i).Rx;have hl:=hT.len;have hb:=hT.dP _ (gy (l:=p.Rh) (i:=iq p (nth p.heap.ag i).Rx) r0 (by omega));have hb':=eO.1 hb;have hc:(nth p.Rh (iq p (nth p.heap.ag i).Rx)).dP.du>0:=hm.2
  have hf:jH ⟨0,0,1⟩ (nth p.Rh (iq p (nth p.heap.ag i).Rx)).dP=true:=by
    unfold jH;rw[hb];simp only[show dT ⟨0,0,1⟩=true from by decide,RF,RG,decide_eq_true_eq];exact⟨by omega,by omega,by omega⟩
  unfold eI;rw[jF ok,Mu ok,hf];rfl
theorem NI{p:bh}{now:Int}(ok:dJ p=true){i:Int}(h:i∈runnable p now):(fV (eI p.Rh (iq p (nth p.heap.ag i).Rx) ⟨0,0,1⟩).1).du=(fV p.Rh).du-1/\(fV (eI p.Rh (iq p (nth p.heap.ag i).Rx) ⟨0,0,1⟩).1).c6=(fV p.Rh).c6/\(fV (eI p.Rh (iq p (nth p.heap.ag i).Rx) ⟨0,0,1⟩).1).dh=(fV p.Rh).dh:=by
  have hT:=fK.1 (jF ok);obtain⟨q,_,k⟩:=um (HT ok h);unfold fV;rw[if_pos (fK.2 q),if_pos (jF ok),q.eN.1,q.eN.2.1,q.eN.2.2,hT.eN.1,hT.eN.2.1,hT.eN.2.2,k de.du (fun _ _=>rfl),k de.c6 (fun _ _=>rfl),k de.dh (fun _ _=>rfl)];exact⟨rfl,Int.sub_zero _,Int.sub_zero _⟩
structure Sk where
  Rt:Int
  so:Int
  box:Int
  dV:Int
  dk:List Int
def gf(o:cd):Sk:=⟨o.Rt,o.so,o.box,o.dV,o.dk⟩
theorem DZ{α γ β:Type}{s:α->γ}{p:Nat->α->Bool}{q:Nat->γ->Bool}{h:Nat->α->β}{r:Nat->γ->β}(hp:∀k y,p k y=q k (s y))(hh:∀k y,h k y=r k (s y)):∀(l:List α) (k:Nat),jd p h k l=jd q r k (l.map s)
  | [],_=>rfl
  | y::l,k=>by
    unfold jd;simp only[List.map_cons,jd];rw[hp,hh,DZ hp hh l (k+1)]
theorem xF{l:List cd}(i:Int)(h0:0<=i)(h1:i<(l.length:Int)):(l.map gf)[i.toNat]?=some (gf (nth l i)):=by
  rw[List.getElem?_map,fO h0 h1];rfl
theorem jt{l m:List cd}(h:l.map gf=m.map gf){i:Int}(h0:0<=i)(h1:i<(l.length:Int)):gf (nth l i)=gf (nth m i):=by
  have hl:l.length=m.length:=by simpa using congrArg List.length h
  have a:=xF i h0 h1;rw[h,xF i h0 (by omega)]at a;exact(Option.some.inj a).symm
theorem tO{l m:List cd}(h:l.map gf=m.map gf){i:Int}(h0:0<=i)(h1:i<(l.length:Int)):fx l i=fx m i:=by
  have e:=jt h h0 h1;have ek:(nth l i).so=(nth m i).so:=congrArg Sk.so e;have el:(nth l i).dk=(nth m i).dk:=congrArg Sk.dk e;unfold fx;have key:∀x:List cd,jd (vU x i) (fun k _=>(k:Int)) 0 x=jd (fun(k:Nat) (y:Sk)=>(decide ((k:Int)>0)&&(y.so != 0&&((y.box==i)&&((nth x i).so==1)))) || (nth x i).dk.contains (k:Int)) (fun k _=>(k:Int)) 0 (x.map gf):=fun x=>DZ (s:=gf) (p:=vU x i) (q:=fun(k:Nat) (y:Sk)=>(decide ((k:Int)>0)&&(y.so != 0&&((y.box==i)&&((nth x i).so==1)))) || (nth x i).dk.contains (k:Int)) (h:=fun k _=>(k:Int)) (r:=fun k _=>(k:Int)) (fun k y=>rfl) (fun k y=>rfl) x 0;rw[key l,key m,h,ek,el]
theorem pN{a b:cd}(h:gf a=gf b)(now:Int):ey a now=ey b now:=by
  unfold ey;rw[show a.so=b.so from congrArg Sk.so h,show a.dV=b.dV from congrArg Sk.dV h]
theorem lL{l m:List cd}(hl:Ar l)(h:l.map gf=m.map gf){now k:Int}(r:Reaches l now k):Reaches m now k:=by
  have hlen:=hl.len
  induction r with
  | root=>exact .root
  | step q1 q2 q3 ih =>
    obtain⟨i0,i9⟩:=q1.kT hl;obtain⟨k0,k1⟩:=jv q2;rw[tO h i0 (by omega)]at q2;rw[pN (jt h k0 k1)]at q3;exact .step ih q2 q3
theorem Ar.gf{l m:List cd}(hl:Ar l)(h:l.map gf=m.map gf)(ok:∀o,o∈m->eG o=true):Ar m:=by
  have hlen:l.length=m.length:=by simpa using congrArg List.length h
  have h10:=hl.len;have e0:=jt h (i:=0) (by omega) (by omega);refine⟨by omega,?_,?_,?_,ok,?_,?_⟩
  · rw[<- hl.sd];exact(congrArg Sk.so e0).symm
  · rw[<- hl.yX];exact(congrArg Sk.box e0).symm
  · rw[<- hl.yM];exact(congrArg Sk.dV e0).symm
  · intro o ho y hy y0;obtain⟨k,hk⟩:=List.getElem?_of_mem ho;have hkl:=eA hk;have e:=jt h (i:=(k:Int)) (by omega) (by omega)
    have el:(nth l (k:Int)).dk=o.dk:=by rw[show o=nth m (k:Int) from(nW hk).symm];exact congrArg Sk.dk e
    have hm:=(hl.at (i:=(k:Int)) (by omega) (by omega)).2;have y9:=((pB (ok o ho)).2 y hy).2;have:=hl.dk _ hm y (by rw[el];exact hy) y0
    rwa[show(nth l y).so=(nth m y).so from congrArg Sk.so (jt h y0 (by omega))]at this
  · intro k o hk k0 hne b0;have hkl:=eA hk;have e:=jt h (i:=(k:Int)) (by omega) (by omega);have eo:o=nth m (k:Int):=(nW hk).symm
    have eb:(nth l (k:Int)).box=o.box:=by rw[eo];exact congrArg Sk.box e
    have ek:(nth l (k:Int)).so=o.so:=by rw[eo];exact congrArg Sk.so e
    have b9:=dI.1 (km (ok o (List.mem_of_getElem? hk)) (by simpa using hne)).1;have:=hl.box k (nth l (k:Int)) (fO (l:=l) (i:=(k:Int)) (by omega) (by omega)) k0 (by rw[ek];exact hne) (by rw[eb];exact b0);rw[eb]at this
    rwa[show(nth l o.box).so=(nth m o.box).so from congrArg Sk.so (jt h b0 (by omega))]at this
theorem A9(p:bh)(me now:Int):p.heap.ag.map gf=(nw p me now).map gf:=by
  unfold nw;rw[List.map_map];refine List.map_congr_left fun o _=>?_
  show gf o=gf (if uw p me now o then xH o else o)
  split<;>rfl
theorem Ms{p:bh}{me now:Int}(h:∀o,o∈p.heap.ag->eG o=true):∀o,o∈nw p me now->eG o=true:=by
  intro o ho;obtain⟨x,hx,rfl⟩:=List.mem_map.1 (show o∈p.heap.ag.map _ from ho);have hok:=h x hx;split
  · rename_i q;unfold uw at q;simp only[RG,decide_eq_true_eq]at q
    have hk:(x.so==0)=false:=by
      cases hk:x.so==0
      · rfl
      · unfold eG at hok;simp only[hk,RD,RG,decide_eq_true_eq]at hok;rw[hok.2.2]at q;simp[blank]at q
    unfold eG at hok⊢;have hk':((xH x).so==0)=false:=hk;rw[hk]at hok;rw[hk'];simp only[RC,RG]at hok⊢;obtain⟨a1,a2,a3,a4,a5,a6,a7,a8⟩:=hok;refine⟨a1,a2,a3,a4,a5,a6,a7,?_⟩;cases h4:x.so != 4
    · rw[h4]at a8;have h4':((xH x).so != 4)=false:=h4;rw[h4'];simp only[RC,RG]at a8⊢;exact⟨rfl,show dy (-1) (-1) 999=true by decide,a8.2.2⟩
    · rw[h4]at a8;simp only[RD,RG,beq_iff_eq]at a8;omega
  · exact hok
theorem MB{p:bh}(h:dJ p=true)(me now:Int):Ar (nw p me now):=by
  have ar:=eX h;exact ar.gf (A9 p me now) (Ms ar.ok)
theorem MG{p:bh}(h:dJ p=true)(me now:Int):dJ (jy p (nw p me now))=true:=by
  have hw:=fu.2 (MB h me now);unfold dJ fW at *;simp only[RG]at h⊢;obtain⟨a,b,c,⟨_,d⟩,e⟩:=h;exact⟨a,b,c,⟨hw,d⟩,e⟩
theorem NS{l m:List cd}(h:l.map cd.c6=m.map cd.c6)(hl:∀o,o∈l->eG o=true)(hm:∀o,o∈m->eG o=true):((l.take 10).filter eG).foldl (fun n o=>i64.wrap (n+o.c6)) 0=((m.take 10).filter eG).foldl (fun n o=>i64.wrap (n+o.c6)) 0:=by
  rw[List.filter_eq_self.2 fun o ho=>hl o (List.mem_of_mem_take ho),List.filter_eq_self.2 fun o ho=>hm o (List.mem_of_mem_take ho)]
  have key:∀(x:List cd) (s:Int),x.foldl (fun n o=>i64.wrap (n+o.c6)) s=(x.map cd.c6).foldl (fun n k=>i64.wrap (n+k)) s:=fun x s=>by rw[List.foldl_map]
  rw[key,key,List.map_take,List.map_take,h]
theorem OY{p:bh}(h:dJ p=true)(me now:Int):iu (jy p (nw p me now))=iu p:=by
  have ar:=eX h
  have hp:(nw p me now).map cd.c6=p.heap.ag.map cd.c6:=by
    unfold nw;rw[List.map_map];refine List.map_congr_left fun o _=>?_
    show cd.c6 (if uw p me now o then xH o else o)=o.c6
    split<;>rfl
  have e:held (jy p (nw p me now))=held p:=NS hp (MB h me now).ok ar.ok;unfold iu;rw[e];rfl
theorem LG{l:List cd}{i:Int}{z:cd}(h0:0<=i)(h1:i<(l.length:Int))(e:gf z=gf (nth l i)):(l.set i.toNat z).map gf=l.map gf:=by
  rw[List.map_set,e];exact kJ (xF i h0 h1)
theorem N0{o:cd}(h:eG o=true)(hk:o.so=4)(hr:o.ef<1000000):eG (sX o)=true:=by
  have r0:=(JQ h).1
  have hk0:(o.so==0)=false:=by rw[hk];rfl
  have hk4:(o.so != 4)=false:=by rw[hk];rfl
  unfold eG at h⊢;have hk0':((sX o).so==0)=false:=hk0;have hk4':((sX o).so != 4)=false:=hk4;rw[hk0]at h;rw[hk0'];simp only[RC,RG]at h⊢;obtain⟨a1,a2,a3,a4,a5,a6,a7,a8⟩:=h;rw[hk4]at a8;rw[hk4'];simp only[RC,RG]at a8⊢;exact⟨a1,a2,a3,a4,a5,a6,a7,a8.1,a8.2.1,dI.2 ⟨by show 0<=i64.wrap (o.ef+1);rw[dE (by omega) (by omega)];omega,by show i64.wrap (o.ef+1)<=1000000;rw[dE (by omega) (by omega)];omega⟩⟩
def tZ(p : bh)(now : Int): bh:=bh.mk p.Rg p.own (eI p.Rh (iq p (nth p.heap.ag (gS p now)).Rx) ⟨0, 0, 1⟩).1 (df.mk (p.heap.ag.set (gS p now).toNat (sX (nth p.heap.ag (gS p now)))) p.heap.gc) p.dc (gS p now) 0
        (de.mk p.db.c6 p.db.dh (i64.wrap (p.db.du+1))) p.dx p.Rp
theorem Pm{p:bh}{now:Int}(ok:dJ p=true)(hr:pH p now=false):iL p now=(tZ p now,gS p now):=by
  unfold iL;rw[if_pos ok,hr];rfl
theorem AB{p:bh}{now:Int}(hr:pH p now=false):p.db.du<1000000/\(nth p.heap.ag (gS p now)).ef<1000000:=by
  unfold pH at hr;simp only[Bool.or_eq_false_iff,decide_eq_false_iff_not]at hr;omega
theorem CJ{p:bh}{now:Int}(ok:dJ p=true)(hr:pH p now=false):(tZ p now).heap.ag.map gf=p.heap.ag.map gf/\Ar (tZ p now).heap.ag:=by
  have ar:=eX ok;obtain⟨q0,q9⟩:=zH (List.mem_filter.1 (qY hr)).1;have hk:=(xT (List.mem_filter.1 (qY hr)).1).1;have hl:=ar.len;have hs:=LG (l:=p.heap.ag) (z:=sX (nth p.heap.ag (gS p now))) q0 (by omega) rfl;refine⟨hs,ar.gf hs.symm fun o ho=>?_⟩
  rcases List.mem_or_eq_of_mem_set ho with q|q
  · exact ar.ok o q
  · rw[q];exact N0 (ar.ok _ (ar.at q0 q9).2) hk (AB hr).2
theorem Eg{p:bh}{now:Int}(ok:dJ p=true)(hr:pH p now=false):dJ (tZ p now)=true:=by
  have hA:=fu.2 (CJ ok hr).2;have hT:=fK.2 (um (HT ok (qY hr))).1;obtain⟨q0,q9⟩:=zH (List.mem_filter.1 (qY hr)).1;have hc:=(AB hr).1;have sp:=uX (mI ok);unfold dJ fW nZ at *;simp only[RG]at ok⊢;obtain⟨a,b,c,⟨_,d⟩,e,f,g1,g2,g3,g4⟩:=ok;refine⟨a,b,hT,⟨hA,d⟩,e,f,dI.2 ⟨q0,q9⟩,rfl,?_,g4⟩;refine eO.2 ⟨sp.1,sp.2.1,?_⟩
  show 0<=i64.wrap (p.db.du+1)/\i64.wrap (p.db.du+1)<=1000000
  rw[dE (by omega) (by omega)];omega
theorem Nt{l m:List cd}(h:l.map cd.c6=m.map cd.c6)(hl:∀o,o∈l->eG o=true)(hm:∀o,o∈m->eG o=true):((l.take 10).filter eG).foldl (fun n o=>i64.wrap (n+o.c6)) 0=((m.take 10).filter eG).foldl (fun n o=>i64.wrap (n+o.c6)) 0:=by
  rw[List.filter_eq_self.2 fun o ho=>hl o (List.mem_of_mem_take ho),List.filter_eq_self.2 fun o ho=>hm o (List.mem_of_mem_take ho)]
  have key:∀(x:List cd) (s:Int),x.foldl (fun n o=>i64.wrap (n+o.c6)) s=(x.map cd.c6).foldl (fun n k=>i64.wrap (n+k)) s:=fun x s=>by rw[List.foldl_map]
  rw[key,key,List.map_take,List.map_take,h]
theorem NP{p:bh}{now:Int}(ok:dJ p=true)(hr:pH p now=false):iu (tZ p now)=iu p:=by
  have ar:=eX ok;obtain⟨q0,q9⟩:=zH (List.mem_filter.1 (qY hr)).1;have hl:=ar.len
  have hp:(tZ p now).heap.ag.map cd.c6=p.heap.ag.map cd.c6:=by
    show(p.heap.ag.set (gS p now).toNat (sX (nth p.heap.ag (gS p now)))).map cd.c6=_
    rw[List.map_set];exact kJ (by rw[List.getElem?_map,fO q0 (by omega)];rfl)
  have e:held (tZ p now)=held p:=Nt hp (CJ ok hr).2.ok ar.ok;obtain⟨s1,s2,s3⟩:=NI ok (qY hr);have o1:=mI ok;have o2:=mI (Eg ok hr);have hc:=(AB hr).1;have sp:=uX o1;unfold iu;rw[o1,o2,e];simp only[if_true]
  show dX ⟨i64.wrap ((fV (eI p.Rh (iq p (nth p.heap.ag (gS p now)).Rx) ⟨0,0,1⟩).1).c6+held p),(fV (eI p.Rh (iq p (nth p.heap.ag (gS p now)).Rx) ⟨0,0,1⟩).1).dh,(fV (eI p.Rh (iq p (nth p.heap.ag (gS p now)).Rx) ⟨0,0,1⟩).1).du⟩ ⟨p.db.c6,p.db.dh,i64.wrap (p.db.du+1)⟩=_
  rw[s1,s2,s3,dE (n:=p.db.du+1) (by omega) (by omega)];unfold dX;simp only;rw[show(fV p.Rh).du-1+(p.db.du+1)=(fV p.Rh).du+p.db.du by omega]
theorem nb{o z:cd}(h:eG o=true)(hk:(o.so==0)=false)(e1:z.Rt=o.Rt)(e2:z.so=o.so)(hb:dy z.box (-1) 9=true)(e3:z.Rx=o.Rx)(ht:dy z.dV 0 1000000=true)(e4:z.c6=o.c6)(hl:jm z=true)(e5:z.Ro=o.Ro)(e6:z.eh=o.eh)(e7:z.ef=o.ef):eG z=true:=by
  unfold eG at h⊢;rw[e1,e2,e3,e4,e5,e6,e7,hk];rw[hk]at h;simp only[RC,RG]at h⊢;obtain⟨a1,a2,a3,a4,a5,a6,a7,a8⟩:=h;exact⟨a1,a2,hb,a4,ht,a6,hl,a8⟩
theorem lp{o:cd}(h:eG o=true)(hk:(o.so==0)=false):jm o=true:=by
  unfold eG at h;rw[hk]at h;simp only[RC,RG]at h;exact h.2.2.2.2.2.2.1
theorem yq{o:cd}(hk:(o.so==0)=false):(o.so != 0)=true:=by unfold bne;rw[hk];rfl
theorem N8{o:cd}(h:eG o=true)(hk:(o.so==0)=false)(b:Bool):eG (marked o b)=true :=
  nb h hk rfl rfl (km h (yq hk)).1 rfl (km h (yq hk)).2.2.1 rfl (show jm o=true from lp h hk) rfl rfl rfl
theorem pc{o:cd}(h:eG o=true)(hk:(o.so==0)=true):o=blank o.Rt:=by
  unfold eG at h;rw[hk]at h;simp only[RD,RG,decide_eq_true_eq]at h;exact h.2.2
theorem Lw{o:cd}(h:eG o=true):eG (blank o.Rt)=true:=by
  unfold eG at h⊢;simp only[RG]at h
  show(dy o.Rt 0 999&&(dy 0 0 4&&decide (blank o.Rt=blank o.Rt)))=true
  rw[h.1,decide_eq_true rfl];rfl
theorem OM{o:cd}(h:eG o=true)(i:Int):eG (kR i o)=true:=by
  unfold kR;cases hk:o.so==0
  · simp only[Bool.false_eq_true,if_false];have hb:=(km h (yq hk));refine nb h hk rfl rfl ?_ rfl hb.2.2.1 rfl ?_ rfl rfl rfl
    · show dy (if o.box==i then -1 else o.box) (-1) 9=true
      split
      · decide
      · exact hb.1
    · have hl:=lp h hk;unfold jm at hl⊢;simp only[RG,List.length_map,List.all_map,List.all_eq_true]at hl⊢;refine⟨fun y hy=>?_,hl.2⟩
      show dy (tG i y) (-1) 9=true
      unfold tG;split
      · decide
      · exact hl.1 y hy
  · simp only[if_true];exact h
theorem oG(i:Int)(o:cd):(kR i o).so=o.so:=by unfold kR;split<;>rfl
theorem Lb(i:Int)(o:cd):(kR i o).c6=o.c6:=by unfold kR;split<;>rfl
theorem HZ(i:Int)(o:cd):(kR i o).dV=o.dV:=by unfold kR;split<;>rfl
theorem Ar.swap{l:List cd}(h:Ar l){i:Int}(h0:0<=i)(h9:i<=9){z:cd}(hk:z.so=(nth l i).so)(hb:z.box=(nth l i).box)(hl:z.dk=(nth l i).dk)(ht:i=0->z.dV=(nth l i).dV)(ok:eG z=true):Ar (l.set i.toNat z):=by
  have h10:=h.len
  have hn:∀j,0<=j->nth (l.set i.toNat z) j=if i=j then z else nth l j:=fun j hj=>gJ h0 (by omega) hj
  have hkind:∀j,0<=j->(nth (l.set i.toNat z) j).so=(nth l j).so:=fun j hj=>by
    rw[hn j hj];split
    · rename_i e;rw[<- e];exact hk
    · rfl
  have hi:=(h.at h0 h9).2;refine⟨by rw[List.length_set];exact h10,by rw[hkind 0 (by omega)];exact h.sd,?_,?_,?_,?_,?_⟩
  · rw[hn 0 (by omega)];split
    · rename_i e;rw[hb,e];exact h.yX
    · exact h.yX
  · rw[hn 0 (by omega)];split
    · rename_i e;rw[ht e,e];exact h.yM
    · exact h.yM
  · intro o ho
    rcases List.mem_or_eq_of_mem_set ho with q|rfl
    · exact h.ok o q
    · exact ok
  · intro o ho y hy y0;rw[hkind y y0]
    rcases List.mem_or_eq_of_mem_set ho with q|rfl
    · exact h.dk o q y hy y0
    · rw[hl]at hy;exact h.dk _ hi y hy y0
  · intro k o hko k0 hne b0;rw[hkind o.box b0]
    by_cases e:k=i.toNat
    · subst e;rw[List.getElem?_set_self (by omega)]at hko;have:z=o:=Option.some.inj hko;subst this;have:=h.box i.toNat (nth l i) (fO h0 (by omega)) k0 (by rw[<- hk];exact hne) (by rw[<- hb];exact b0)
      rwa[hb]
    · rw[List.getElem?_set_ne (Ne.symm e)]at hko;exact h.box k o hko k0 hne b0
theorem Ar.mark{l:List cd}(h:Ar l){i:Int}(h0:0<=i)(h9:i<=9)(b:Bool)(hk:b=true->((nth l i).so==0)=false):Ar (l.set i.toNat (marked (nth l i) b)):=by
  refine h.swap h0 h9 rfl rfl rfl (fun _=>rfl) ?_;have ho:=h.ok _ (h.at h0 h9).2;cases hq:(nth l i).so==0
  · exact N8 ho hq b
  · cases b
    · have e:=pc ho hq
      have:marked (nth l i) false=nth l i:=by rw[e];rfl
      rw[this];exact ho
    · rw[hk rfl]at hq;cases hq
theorem Cb{l:List cd}(f:cd->cd){j:Int}(h0:0<=j)(h1:j<(l.length:Int)):nth (l.map f) j=f (nth l j):=by
  have:=fO (l:=l) h0 h1;unfold nth;rw[List.getElem?_map];unfold nth at this;rw[this];rfl
theorem Ar.free{l:List cd}(h:Ar l){i:Int}(h1:1<=i)(h9:i<=9):Ar ((l.set i.toNat (blank (nth l i).Rt)).map (kR i)):=by
  have h10:=h.len;have hi:=(h.at (i:=i) (by omega) h9).2
  have hn:∀j,0<=j->j<=9->nth ((l.set i.toNat (blank (nth l i).Rt)).map (kR i)) j=kR i (if i=j then blank (nth l i).Rt else nth l j):=fun j hj h9=>by
    rw[Cb _ hj (by rw[List.length_set];omega),gJ (by omega) (by omega) hj]
  have hkind:∀j,0<=j->j<=9->j ≠ i->(nth ((l.set i.toNat (blank (nth l i).Rt)).map (kR i)) j).so=(nth l j).so:=fun j hj h9 hne=>by
    rw[hn j hj h9,if_neg (Ne.symm hne),oG]
  have hmem:∀o,o∈l.set i.toNat (blank (nth l i).Rt)->eG o=true:=fun o ho=>by
    rcases List.mem_or_eq_of_mem_set ho with q|rfl
    · exact h.ok o q
    · exact Lw (h.ok _ hi)
  refine⟨by rw[List.length_map,List.length_set];exact h10,by rw[hkind 0 (by omega) (by omega) (by omega)];exact h.sd,?_,?_,?_,?_,?_⟩
  · rw[hn 0 (by omega) (by omega),if_neg (by omega)];unfold kR;rw[h.sd]
    show(if(nth l 0).box==i then -1 else(nth l 0).box)=-1
    rw[h.yX];split<;>rfl
  · rw[hn 0 (by omega) (by omega),if_neg (by omega),HZ];exact h.yM
  · intro o ho;obtain⟨x,hx,rfl⟩:=List.mem_map.1 ho;exact OM (hmem x hx) i
  · intro o ho y hy y0;obtain⟨x,hx,rfl⟩:=List.mem_map.1 ho;have hok:=hmem x hx;cases hq:x.so==0
    · unfold kR at hy;rw[hq]at hy;simp only[Bool.false_eq_true,if_false]at hy;obtain⟨v,hv,rfl⟩:=List.mem_map.1 hy;unfold tG at y0⊢;split at y0
      · omega
      · rename_i hne
        have hne:v ≠ i:=by simpa using hne
        have v9:=((pB hok).2 v hv).2;rw[if_neg (by simpa using hne),hkind v y0 v9 hne]
        rcases List.mem_or_eq_of_mem_set hx with q|q
        · exact h.dk x q v hv y0
        · rw[q]at hq;simp[blank]at hq
    · have e:=pc hok hq;unfold kR at hy;rw[hq]at hy;simp only[if_true]at hy;rw[e]at hy;simp[blank]at hy
  · intro k o hko k0 hne b0;rw[List.getElem?_map]at hko;obtain⟨x,hx,rfl⟩:=Option.map_eq_some_iff.1 hko;rw[oG]at hne
    have hq:(x.so==0)=false:=by simpa using hne
    have hb:(kR i x).box=if x.box==i then -1 else x.box:=by unfold kR;rw[hq];rfl
    rw[hb]at b0⊢;split at b0
    · omega
    · rename_i hnb
      have hnb:x.box ≠ i:=by simpa using hnb
      rw[if_neg (by simpa using hnb)];have hxm:=List.mem_of_getElem? hx;have b9:=dI.1 (km (hmem x hxm) (yq hq)).1;rw[hkind x.box b0 b9.2 hnb]
      by_cases e:k=i.toNat
      · subst e;rw[List.getElem?_set_self (by omega)]at hx;have:=Option.some.inj hx;rw[<- this]at hq;simp[blank]at hq
      · rw[List.getElem?_set_ne (Ne.symm e)]at hx;exact h.box k x hx k0 hne b0
structure Hk (h:df):Prop where
  ar:Ar h.ag
  ph:lg h.gc=true
  rd:0<=h.gc.Rk/\h.gc.Rk<=1000000
  gr:∀y,y∈h.gc.da->0<=y/\y<=9
  nd:h.gc.da.Nodup
theorem Kf{g:List Int}:allI (qy g) 0 g=true <-> (∀y,y∈g->0<=y/\y<=9)/\g.Nodup:=by
  rw[jL];constructor
  · intro h;refine⟨fun y hy=>?_,?_⟩
    · obtain⟨k,hk⟩:=List.getElem?_of_mem hy;have:=h k y hk;unfold qy at this;simp only[RG,dI]at this;exact this.1
    · refine List.pairwise_iff_getElem.2 fun i j hi hj hij e=>?_;have:=h j g[j] (List.getElem?_eq_getElem hj);unfold qy at this;simp only[Nat.zero_add,RG,Bool.not_eq_true']at this
      have hm:g[j]∈g.take j:=by
        rw[<- e];exact List.mem_iff_getElem.2 ⟨i,by rw[List.length_take];omega,by rw[List.getElem_take]⟩
      have hc:(g.take j).contains g[j]=true:=by simpa using hm
      rw[this.2]at hc;cases hc
  · rintro⟨h1,h2⟩ i y hy;unfold qy;simp only[Nat.zero_add,RG,Bool.not_eq_true',dI];refine⟨h1 y (List.mem_of_getElem? hy),?_⟩;cases hc:(g.take i).contains y
    · rfl
    · have hm:y∈g.take i:=by simpa using hc
      obtain⟨j,hj,e⟩:=List.mem_iff_getElem.1 hm;rw[List.length_take]at hj;rw[List.getElem_take]at e;have hi:=eA hy;have:=List.pairwise_iff_getElem.1 h2 j i (by omega) hi (by omega);rw[List.getElem?_eq_getElem hi]at hy;exact absurd (e.trans (Option.some.inj hy).symm) this
theorem gG{h:df}:fW h=true <-> Hk h:=by
  unfold fW;simp only[RG,Kf,dI,fu];exact⟨fun⟨a,b,c,d,e⟩=>⟨a,b,c,d,e⟩,fun q=>⟨q.ar,q.ph,q.rd,q.gr,q.nd⟩⟩
theorem mz(h:df):∀y,y∈gw h->y∈h.gc.da:=fun y hy=>List.mem_of_mem_take hy
theorem wS{h:df}(q:h.gc.da.Nodup):(gw h).Nodup:=List.Sublist.nodup (List.take_sublist _ _) q
theorem Hk.Q8{h:df}(q:Hk h){ph:h.gc.Rj=0}(g:List Int):lg (eS.mk h.gc.Rj h.gc.Rs h.gc.Rk g)=true:=by
  have hph:=q.ph;unfold lg at hph⊢;simp only[Bool.or_eq_true,RG,beq_iff_eq]at hph⊢
  rcases hph with e|e
  · exact .inl e
  · rw[ph]at e;exact absurd e.1 (by decide)
theorem Hk.fP{h:df}(q:Hk h){k:Int}(k0:0<=k)(k9:k<=9):Hk (fP h k):=by
  unfold Kx.fP;split
  · rename_i c;simp only[RG,bne_iff_ne,ne_eq]at c;refine⟨q.ar.mark k0 k9 true fun _=>by simpa using c.2.1,q.Q8 (ph:=by simpa using c.1) _,q.rd,?_,?_⟩
    · intro y hy;simp only at hy;split at hy
      · exact q.gr y hy
      · rcases List.mem_append.1 hy with e|e
        · exact q.gr y e
        · rw[List.mem_singleton]at e;subst e;exact⟨k0,k9⟩
    · simp only;split
      · exact q.nd
      · rename_i hc;refine List.nodup_append.2 ⟨q.nd,by simp,fun a ha b hb e=>?_⟩;rw[List.mem_singleton]at hb;subst hb;subst e;exact hc (by simpa using ha)
  · exact q
theorem Hk.Ls{l:List cd}{now:Int}:∀(e:List Int) (h:df),(∀y,y∈e->0<=y/\y<=9)->Hk h->Hk (e.foldl (fM l now) h)
  | [],h,_,q=>q
  | k::e,h,he,q=>by
    rw[List.foldl_cons];refine Hk.Ls e _ (fun y hy=>he y (by simp[hy])) ?_;unfold fM;split
    · exact q
    · exact q.fP (he k (by simp)).1 (he k (by simp)).2
theorem ub{h:df}(q:Hk h)(p0:0<=h.gc.Rs)(p9:h.gc.Rs<=9)(now:Int):Ar (fJ h now):=by
  unfold fJ;split
  · rename_i c;unfold gp at c;simp only[RG,bne_iff_ne,ne_eq]at c;unfold jx;split
    · exact q.ar.free (by omega) p9
    · exact q.ar
  · exact q.ar.mark p0 p9 false fun h=>by cases h
theorem Hk.step{h:df}(q:Hk h)(now:Int):Hk (fA h now).1:=by
  unfold fA;rw[if_pos (gG.2 q)];have hph:=q.ph;unfold lg at hph;simp only[Bool.or_eq_true,RG,beq_iff_eq,dI]at hph;split
  · rename_i c
    have c:h.gc.Rj=1:=by simpa using c
    have hp:(0<=h.gc.Rs/\h.gc.Rs<=9)/\(h.gc.da.length:Int)=0:=by
      rcases hph with e|e
      · rw[c]at e;exact absurd e.1 (by decide)
      · exact e.2
    have hs:=ub q hp.1.1 hp.1.2 now;unfold iC;simp only;split
    · refine⟨hs.mark (i:=0) (by omega) (by omega) true fun _=>by rw[hs.sd];rfl,rfl,?_,by simp,by simp⟩;have hr:=q.rd;simp only;rw[dE (by omega) (by omega)];split<;>omega
    · rename_i c9
      have c9:h.gc.Rs ≠ 9:=by simpa using c9
      refine⟨hs,?_,q.rd,q.gr,q.nd⟩;unfold lg;simp only[Bool.or_eq_true,RG,beq_iff_eq,dI];exact .inr ⟨c,⟨by omega,by omega⟩,hp.2⟩
  · rename_i c
    have c:h.gc.Rj ≠ 1:=by simpa using c
    have hp:h.gc.Rj=0/\h.gc.Rs=0:=by
      rcases hph with e|e
      · exact e
      · exact absurd e.1 c
    have hph':∀g,lg (eS.mk h.gc.Rj h.gc.Rs h.gc.Rk g)=true:=fun g=>by
      unfold lg;simp[hp.1,hp.2]
    unfold mM;simp only;split
    · rename_i hg;refine⟨q.ar,?_,q.rd,q.gr,q.nd⟩;unfold lg;simp[hg,dy]
    · rename_i hg;obtain⟨l0,l9⟩:=kF (gG.2 q) hg;split
      · exact⟨q.ar,hph' _,q.rd,fun y hy=>q.gr y (mz h y hy),wS q.nd⟩
      · rename_i he;refine Hk.Ls _ _ (kz q.ar (dw h)).1 ⟨?_,hph' _,q.rd,fun y hy=>q.gr y (mz h y hy),wS q.nd⟩;refine q.ar.mark l0 l9 true fun _=>?_
        by_cases e0:dw h=0
        · rw[e0,q.ar.sd];rfl
        · cases hq:(nth h.ag (dw h)).so==0
          · rfl
          · refine absurd ?_ he;unfold ey;rw[hq];simp[e0]
def yR:List Int->Int
  | []=>0
  | y::l=>y+yR l
theorem EW:∀(l:List Int) (k:Nat) (y z:Int),l[k]?=some y->yR (l.set k z)=yR l-y+z
  | [],k,y,z,h=>by simp at h
  | x::l,0,y,z,h=>by
    simp at h;subst h
    show z+yR l=(x+yR l)-x+z
    omega
  | x::l,k+1,y,z,h=>by
    show x+yR (l.set k z)=x+yR l-y+z
    rw[EW l k y z (by simpa using h)];omega
def iz(l:List cd):Int:=yR (l.map cd.c6)
theorem sE{l:List cd}{i:Int}(h0:0<=i)(h1:i<(l.length:Int))(z:cd):iz (l.set i.toNat z)=iz l-(nth l i).c6+z.c6:=by
  unfold iz;rw[List.map_set,EW _ _ (nth l i).c6 _ (by rw[List.getElem?_map,fO h0 h1];rfl)]
theorem Na{l:List cd}{f:cd->cd}(h:∀o,(f o).c6=o.c6):iz (l.map f)=iz l:=by
  unfold iz;rw[List.map_map];congr 1;exact List.map_congr_left fun o _=>h o
theorem C4{o:cd}(h:eG o=true):0<=o.c6/\o.c6<=8:=by
  cases hk:o.so==0
  · exact dI.1 (km h (yq hk)).2.2.2
  · rw[pc h hk];exact⟨Int.le_refl 0,show(0:Int)<=8 by decide⟩
theorem Eb:∀(l:List cd) (s:Int),(∀o,o∈l->eG o=true)->0<=s->s+8*(l.length:Int)<=1000000->l.foldl (fun n o=>i64.wrap (n+o.c6)) s=s+iz l/\0<=iz l/\iz l<=8*(l.length:Int)
  | [],s,_,_,_=>⟨(Int.add_zero s).symm,Int.le_refl _,Int.le_refl _⟩
  | o::l,s,h,h0,hB=>by
    have ho:=C4 (h o (by simp));simp only[List.length_cons]at hB;obtain⟨a,b,c⟩:=Eb l (s+o.c6) (fun x hx=>h x (by simp[hx])) (by omega) (by omega);rw[List.foldl_cons,dE (by omega) (by omega),a];have e:iz (o::l)=o.c6+iz l:=rfl;rw[e];simp only[List.length_cons];omega
theorem ED{p:bh}(h:Ar p.heap.ag):held p=iz p.heap.ag/\0<=iz p.heap.ag/\iz p.heap.ag<=80:=by
  have h10:=h.len;unfold held;rw[List.take_of_length_le (by omega),List.filter_eq_self.2 h.ok];obtain⟨a,b,c⟩:=Eb p.heap.ag 0 h.ok (by decide) (by omega);exact⟨by rw[a];omega,b,by omega⟩
theorem C5{h:df}(q:Ar h.ag){k:Int}(k0:0<=k)(k9:k<=9):iz (fP h k).ag=iz h.ag:=by
  unfold fP;split
  · show iz (h.ag.set _ _)=_
    rw[sE k0 (by have:=q.len;omega)]
    show _-_+(nth h.ag k).c6=_
    omega
  · rfl
theorem AL{l:List cd}{now:Int}:∀(e:List Int) (h:df),(∀y,y∈e->0<=y/\y<=9)->Hk h->iz (e.foldl (fM l now) h).ag=iz h.ag
  | [],h,_,q=>rfl
  | k::e,h,he,q=>by
    have hk:=he k (by simp);rw[List.foldl_cons]
    have q1:Hk (fM l now h k):=by
      unfold fM;split
      · exact q
      · exact q.fP hk.1 hk.2
    rw[AL e _ (fun y hy=>he y (by simp[hy])) q1];unfold fM;split
    · rfl
    · exact C5 q.ar hk.1 hk.2
theorem L4{h:df}(q:Hk h)(now:Int):iz (fA h now).1.ag=iz h.ag-(if decide ((fA h now).2>=0)then(nth h.ag (fA h now).2).c6 else 0):=by
  have h10:=q.ar.len;unfold fA;rw[if_pos (gG.2 q)];split
  · rename_i c
    have c:h.gc.Rj=1:=by simpa using c
    have hph:=q.ph;unfold lg at hph;simp only[Bool.or_eq_true,RG,beq_iff_eq,dI]at hph
    have hp:0<=h.gc.Rs/\h.gc.Rs<=9:=by
      rcases hph with e|e
      · rw[c]at e;exact absurd e.1 (by decide)
      · exact e.2.1
    have hs:=ub q hp.1 hp.2 now;have hs10:=hs.len
    have key:iz (fJ h now)=iz h.ag-(if gp h now then(nth h.ag h.gc.Rs).c6 else 0):=by
      unfold fJ;cases hf:gp h now
      · simp only[Bool.false_eq_true,if_false];rw[sE hp.1 (by omega)]
        show _-_+(nth h.ag h.gc.Rs).c6=_
        omega
      · simp only[if_true];unfold gp at hf;simp only[RG,bne_iff_ne,ne_eq]at hf;unfold jx
        rw[if_pos (by
          rw[fu.2 q.ar];simp only[RF,RG,dI,bne_iff_ne,ne_eq]
          exact⟨⟨by omega,hp.2⟩,hf.2.1⟩)]
        simp only;rw[Na (Lb _),sE hp.1 (by omega)]
        show _-_+0=_
        omega
    have ke:(iC h now).2=if gp h now then h.gc.Rs else -1:=rfl
    rw[ke]
    have e2:iz (iC h now).1.ag=iz (fJ h now):=by
      unfold iC;simp only;split
      · show iz ((fJ h now).set (0:Int).toNat (marked (nth (fJ h now) 0) true))=_
        rw[sE (by omega) (by omega)]
        show _-_+(nth (fJ h now) 0).c6=_
        omega
      · rfl
    rw[e2,key];cases hf:gp h now
    · simp
    · simp only[if_true];rw[show decide (h.gc.Rs>=0)=true from decide_eq_true hp.1];rfl
  · simp only[show decide ((-1:Int)>=0)=false from rfl,Bool.false_eq_true,if_false,Int.sub_zero];unfold mM;split
    · rfl
    · rename_i hg;obtain⟨l0,l9⟩:=kF (gG.2 q) hg;split
      · rfl
      · rename_i he
        have hb:Hk (df.mk (h.ag.set (dw h).toNat (marked (nth h.ag (dw h)) true)) (eS.mk h.gc.Rj h.gc.Rs h.gc.Rk (gw h))):=by
          have:=q.step now;refine⟨?_,?_,q.rd,fun y hy=>q.gr y (mz h y hy),wS q.nd⟩
          · refine q.ar.mark l0 l9 true fun _=>?_
            by_cases e0:dw h=0
            · rw[e0,q.ar.sd];rfl
            · cases hq:(nth h.ag (dw h)).so==0
              · rfl
              · refine absurd ?_ he;unfold ey;rw[hq];simp[e0]
          · have hph:=q.ph;unfold lg at hph⊢;rename_i c
            have c:h.gc.Rj ≠ 1:=by simpa using c
            simp only[Bool.or_eq_true,RG,beq_iff_eq]at hph⊢
            rcases hph with e|e
            · exact .inl e
            · exact absurd e.1 c
        rw[AL _ _ (kz q.ar (dw h)).1 hb]
        show iz (h.ag.set _ _)=_
        rw[sE l0 (by omega)]
        show _-_+(nth h.ag (dw h)).c6=_
        omega
theorem yU{t:List dp}{a:de}(hT:Tr t)(f:Int)(ha:dT a=true)(hp:eN de.c6 t+a.c6<=1000000)(hr:eN de.dh t+a.dh<=1000000)(hc:eN de.du t+a.du<=1000000):
    (jM t f a).2=true/\Tr (jM t f a).1/\eN de.c6 (jM t f a).1=eN de.c6 t+a.c6/\eN de.dh (jM t f a).1=eN de.dh t+a.dh/\eN de.du (jM t f a).1=eN de.du t+a.du:=by
  have ht:=fK.2 hT;obtain⟨t1,t2,t3⟩:=hT.eN;have hS:=eO.1 hT.sum;have ha':=eO.1 ha
  have hsum:dX (fV t) a=⟨eN de.c6 t+a.c6,eN de.dh t+a.dh,eN de.du t+a.du⟩:=by
    unfold fV dX;rw[if_pos ht,t1,t2,t3,dE (by omega) (by omega),dE (by omega) (by omega),dE (by omega) (by omega)]
  have hok:dT (dX (fV t) a)=true:=by
    rw[hsum];exact eO.2 ⟨by dsimp only;omega,by dsimp only;omega,by dsimp only;omega⟩
  have hi:0<=(if ei t f then f else 0)/\(if ei t f then f else 0)<=4/\(nth t (if ei t f then f else 0)).Ru=true:=by
    split
    · rename_i q;have:=hY q;unfold ei at q;simp only[RG]at q;exact⟨this.1,this.2,q.2⟩
    · exact⟨Int.le_refl _,by decide,hT.pJ⟩
  unfold jM;rw[if_pos (by rw[ht,ha,hok];rfl)];simp only;generalize (if ei t f then f else 0)=i at *;obtain⟨i0,i4,hv⟩:=hi;have hl:=hT.len;have hm:=gy (l:=t) i0 (by omega);have hb:=eO.1 (hT.dP _ hm)
  have e:dX (nth t i).dP a=⟨(nth t i).dP.c6+a.c6,(nth t i).dP.dh+a.dh,(nth t i).dP.du+a.du⟩:=by
    unfold dX;rw[dE (by omega) (by omega),dE (by omega) (by omega),dE (by omega) (by omega)]
  obtain⟨_,q⟩:=qQ t ⟨0,0,0⟩ 0 hT.dP (by omega) (by omega) ⟨by decide,by decide⟩ ⟨by decide,by decide⟩ ⟨by decide,by decide⟩;obtain⟨q1,q2,q3⟩:=q _ hm hv;rw[t1]at q1;rw[t2]at q2;rw[t3]at q3;rw[e];obtain⟨w1,w2⟩:=hT.set i0 i4 hv (b:=⟨(nth t i).dP.c6+a.c6,(nth t i).dP.dh+a.dh,(nth t i).dP.du+a.du⟩) (eO.2 ⟨by dsimp only;omega,by dsimp only;omega,by dsimp only;omega⟩) (eO.2 ⟨by dsimp only;omega,by dsimp only;omega,by dsimp only;omega⟩);refine⟨trivial,w1,?_,?_,?_⟩
  · rw[w2];dsimp only;omega
  · rw[w2];dsimp only;omega
  · rw[w2];dsimp only;omega
def sp(p:bh):de:=⟨eN de.c6 p.Rh+iz p.heap.ag+p.db.c6,eN de.dh p.Rh+p.db.dh,eN de.du p.Rh+p.db.du⟩
theorem zG{p:bh}(h:dJ p=true):iu p=sp p/\((0<=(sp p).c6/\(sp p).c6<=2000080)/\(0<=(sp p).dh/\(sp p).dh<=2000000)/\(0<=(sp p).du/\(sp p).du<=2000000))/\0<=eN de.c6 p.Rh/\0<=eN de.dh p.Rh/\0<=eN de.du p.Rh:=by
  have hT:=fK.1 (jF h);obtain⟨t1,t2,t3⟩:=hT.eN;have hS:=eO.1 hT.sum;rw[t1,t2,t3]at hS;have hsp:=uX (mI h);obtain⟨g1,g2,g3⟩:=ED (eX h)
  have hts:fV p.Rh=⟨eN de.c6 p.Rh,eN de.dh p.Rh,eN de.du p.Rh⟩:=by
    unfold fV;rw[if_pos (jF h), <- t1, <- t2, <- t3]
  unfold iu;rw[mI h,g1,hts];simp only[if_true];unfold dX sp;dsimp only;rw[dE (n:=eN de.c6 p.Rh+iz p.heap.ag) (by omega) (by omega),dE (by omega) (by omega),dE (by omega) (by omega),dE (by omega) (by omega)];exact⟨rfl,⟨by omega,by omega,by omega⟩,by omega,by omega,by omega⟩
structure Ck (S R C:Int) (c:vZ):Prop where
  tr:Tr c.Rh
  hp:Hk c.heap
  pg:eN de.c6 c.Rh+iz c.heap.ag=S
  rt:eN de.dh c.Rh=R
  cp:eN de.du c.Rh=C
  w:wA c.heap.ag
theorem Ck.step{S R C:Int}{c:vZ}(h:Ck S R C c)(hS:S<=1000000)(now:Int):Ck S R C (lV now c):=by
  have hq:=h.hp.step now;have hg:=L4 h.hp now;obtain⟨t1,t2,t3⟩:=h.tr.eN;have hSm:=eO.1 h.tr.sum;rw[t1,t2,t3]at hSm;have h1:=h.pg;have h2:=h.rt;have h3:=h.cp;obtain⟨_,hw,_,hr⟩:=vo h.w now;unfold lV;cases hd:decide ((fA c.heap now).2>=0)
  · rw[hd]at hg;simp only[Bool.false_eq_true,if_false]at hg⊢;exact⟨h.tr,hq,by dsimp only;omega,h2,h3,hw⟩
  · rw[hd]at hg;simp only[if_true]at hg⊢;obtain⟨_,d0,d9⟩:=hr hd;have hpr:=C4 (h.hp.ar.ok _ (h.hp.ar.at d0 d9).2);have hp':0<=iz (fA c.heap now).1.ag:=(ED (p:=⟨⟨[]⟩,[],[],(fA c.heap now).1,[],0,0,⟨0,0,0⟩,0,0⟩) hq.ar).2.1;obtain⟨_,b1,b2,b3,b4⟩:=yU h.tr (nth c.heap.ag (fA c.heap now).2).Rx (a:=⟨(nth c.heap.ag (fA c.heap now).2).c6,0,0⟩) (eO.2 ⟨by dsimp only;omega,show(0:Int)<=0/\(0:Int)<=1000000 by decide,show(0:Int)<=0/\(0:Int)<=1000000 by decide⟩) (by dsimp only;omega) (by dsimp only;omega) (by dsimp only;omega);exact⟨b1,hq,by dsimp only at *;omega,by dsimp only at *;omega,by dsimp only at *;omega,hw⟩
theorem Ck.steps{S R C:Int}(hS:S<=1000000){now:Int}:∀(k:Nat) (c:vZ),Ck S R C c->Ck S R C (wc now k c)
  | 0,c,h=>h
  | k+1,c,h=>Ck.steps hS k _ (h.step hS now)
theorem yC{p:bh}(h:dJ p=true)(hw:wP p)(hs:(sp p).c6<=1000000)(now steps:Int):dJ (gF p now steps).1=true/\sp (gF p now steps).1=sp p:=by
  unfold gF;split
  · have hh:Hk p.heap:=gG.1 (by
      unfold dJ at h;simp only[RG]at h
      exact h.2.2.2.1)
    have hsp:=uX (mI h);have c0:Ck (eN de.c6 p.Rh+iz p.heap.ag) (eN de.dh p.Rh) (eN de.du p.Rh) ⟨0,p.Rh,p.heap⟩:=⟨fK.1 (jF h),hh,rfl,rfl,rfl,hw⟩;have c1:=Ck.steps (by unfold sp at hs;dsimp only at hs;omega) (now:=now) steps.toNat _ c0;refine⟨?_,?_⟩
    · unfold dJ at h⊢;simp only[RG]at h⊢;exact⟨h.1,h.2.1,fK.2 c1.tr,gG.2 c1.hp,h.2.2.2.2⟩
    · have a:=c1.pg;have b:=c1.rt;have d:=c1.cp;unfold sp;dsimp only;rw[a,b,d]
  · exact⟨h,rfl⟩
end Go.Kx
