import Derived.Test.YtfmfgnhbgcjajaaGreatLNew
namespace Go.Kx
open Go
open Go.IntKind (i64)
set_option linter.unusedVariables false
set_option linter.unusedSimpArgs false
set_option maxRecDepth 10000
def eM(f:de->Int):List dk->Int
  | []=>0
  | r::t=>(if r.Rq then f r.dQ else 0)+eM f t
def oD(f:de->Int)(r:dk):Int:=if r.Rq then f r.dQ else 0
theorem xk(f:de->Int):∀(t:List dk) (k:Nat) (r z:dk),t[k]?=some r->eM f (t.set k z)=eM f t-oD f r+oD f z
  | [],k,r,z,h=>by simp at h
  | x::t,0,r,z,h=>by
    simp only[List.getElem?_cons_zero,Option.some.injEq]at h;subst h
    show oD f z+eM f t=oD f x+eM f t-oD f x+oD f z
    omega
  | x::t,k+1,r,z,h=>by
    rw[List.getElem?_cons_succ]at h;have:=xk f t k r z h
    show oD f x+eM f (t.set k z)=oD f x+eM f t-oD f r+oD f z
    omega
theorem rL:∀(t:List dk) (s:de) (B:Int),(∀r,r∈t->dT r.dQ=true)->0<=B->B+1000000*(t.length:Int)<=1000000000->u6 s B ->
    (eX s t).cd=s.cd+eM de.cd t/\(eX s t).dg=s.dg+eM de.dg t/\(eX s t).du=s.du+eM de.du t
  | [],s,B,_,_,_,_=>⟨(Int.add_zero _).symm,(Int.add_zero _).symm,(Int.add_zero _).symm⟩
  | x::t,s,B,h,hB,hL,hs=>by
    have hx:=h x (by simp);simp only[List.length_cons]at hL;obtain⟨w1,w2,w3,w4⟩:=yZ hs hx (by omega);have e:eX s (x::t)=eX (if x.Rq then dY s x.dQ else s) t:=rfl;have ht:∀r,r∈t->dT r.dQ=true:=fun r hr=>h r (by simp[hr]);have d:∀f:de->Int,eM f (x::t)=(if x.Rq then f x.dQ else 0)+eM f t:=fun f=>rfl;rw[e,d,d,d];cases hxl:x.Rq
    · obtain⟨a1,a2,a3⟩:=rL t s B ht hB (by omega) hs;simp only[Bool.false_eq_true,if_false];exact⟨by omega,by omega,by omega⟩
    · obtain⟨a1,a2,a3⟩:=rL t (dY s x.dQ) (B+1000000) ht (by omega) (by omega) w4;simp only[if_true];exact⟨by omega,by omega,by omega⟩
theorem BN:u6 ⟨0,0,0⟩ 0:=by unfold u6;decide
theorem Tr.eM{t:List dk}(h:Tr t):(eX ⟨0,0,0⟩ t).cd=eM de.cd t/\(eX ⟨0,0,0⟩ t).dg=eM de.dg t/\(eX ⟨0,0,0⟩ t).du=eM de.du t:=by
  have hl:=h.len;obtain⟨a,b,c⟩:=rL t ⟨0,0,0⟩ 0 h.dQ (by omega) (by omega) BN;simp only[Int.zero_add]at a b c;exact⟨a,b,c⟩
theorem xl{t:List dk}{i j:Int}{z:dk}(h0:0<=i)(h1:i<(t.length:Int))(hj:0<=j):nth (t.set i.toNat z) j=if i=j then z else nth t j:=by
  unfold nth
  by_cases e:i=j
  · subst e;rw[if_pos rfl,List.getElem?_set_self (by omega)];rfl
  · rw[if_neg e,List.getElem?_set_ne (by omega)]
theorem ug{t:List dk}{i:Int}(h0:0<=i)(h1:i<(t.length:Int))(b:de){j:Int}(hj:0<=j):(nth (t.set i.toNat (jL (nth t i) b)) j).Rq=(nth t j).Rq/\(nth (t.set i.toNat (jL (nth t i) b)) j).Rr=(nth t j).Rr:=by
  rw[xl h0 h1 hj];split
  · rename_i e;subst e;exact⟨rfl,rfl⟩
  · exact⟨rfl,rfl⟩
theorem I0{t:List dk}{i:Int}(h0:0<=i)(h1:i<(t.length:Int))(b:de)(j:Int):ei (t.set i.toNat (jL (nth t i) b)) j=ei t j:=by
  unfold ei;cases hj:dy j 0 4
  · rfl
  · rw[(ug h0 h1 b (dM.1 hj).1).1]
theorem CL{t:List dk}{i:Int}(h0:0<=i)(h1:i<(t.length:Int))(b:de):∀(n:Nat) (j:Int),leads (t.set i.toNat (jL (nth t i) b)) n j=leads t n j
  | 0,j=>rfl
  | n+1,j=>by
    unfold leads;rw[I0 h0 h1];cases hv:ei t j
    · rfl
    · have:=(hO hv).1;have e:up (t.set i.toNat (jL (nth t i) b)) j=up t j:=(ug h0 h1 b this).2;rw[e,CL h0 h1 b n (up t j)]
theorem Tr.set{t:List dk}(h:Tr t){i:Int}(h0:0<=i)(h4:i<=4)(hv:(nth t i).Rq=true){b:de}(hb:dT b=true)
    (hs:dT ⟨Kx.eM de.cd t-(nth t i).dQ.cd+b.cd,Kx.eM de.dg t-(nth t i).dQ.dg+b.dg,Kx.eM de.du t-(nth t i).dQ.du+b.du⟩=true) :
    Tr (t.set i.toNat (jL (nth t i) b))/\∀f:de->Int,Kx.eM f (t.set i.toNat (jL (nth t i) b))=Kx.eM f t-f (nth t i).dQ+f b:=by
  have hl:=h.len
  have hi:i<(t.length:Int):=by omega
  have hg:=fM (l:=t) h0 hi
  have ht:∀f:de->Int,Kx.eM f (t.set i.toNat (jL (nth t i) b))=Kx.eM f t-f (nth t i).dQ+f b:=fun f=>by
    rw[xk f t i.toNat _ _ hg];have e1:oD f (nth t i)=f (nth t i).dQ:=if_pos hv;have e2:oD f (jL (nth t i) b)=f b:=if_pos hv;rw[e1,e2]
  have hbal:∀r,r∈t.set i.toNat (jL (nth t i) b)->dT r.dQ=true:=fun r hr=>by
    rcases List.mem_or_eq_of_mem_set hr with q|q
    · exact h.dQ r q
    · rw[q];exact hb
  have hl':(t.set i.toNat (jL (nth t i) b)).length=5:=by rw[List.length_set];exact hl
  refine⟨⟨hl',?_,?_,?_,hbal,?_,?_⟩,ht⟩
  · rw[(ug h0 hi b (by omega)).1];exact h.pM
  · rw[(ug h0 hi b (by omega)).2];exact h.BB
  · intro r hr hd
    rcases List.mem_or_eq_of_mem_set hr with q|q
    · exact h.dead r q hd
    · rw[q]at hd;have:(nth t i).Rq=false:=hd;rw[hv]at this;cases this
  · intro k r hr hlv;rw[CL h0 hi];have hk:k<(t.set i.toNat (jL (nth t i) b)).length:=eJ hr;have e1:=nK hr;have e2:=(ug h0 hi b (j:=(k:Int)) (by omega)).1;rw[e1,hlv]at e2;exact h.lead k (nth t (k:Int)) (fM (l:=t) (i:=(k:Int)) (by omega) (by omega)) e2.symm
  · obtain⟨a1,a2,a3⟩:=rL _ ⟨0,0,0⟩ 0 hbal (by omega) (by omega) BN
    have e:eX ⟨0,0,0⟩ (t.set i.toNat (jL (nth t i) b))=⟨Kx.eM de.cd t-(nth t i).dQ.cd+b.cd,Kx.eM de.dg t-(nth t i).dQ.dg+b.dg,Kx.eM de.du t-(nth t i).dQ.du+b.du⟩:=by
      generalize eX ⟨0,0,0⟩ (t.set i.toNat (jL (nth t i) b))=q at *;obtain⟨q1,q2,q3⟩:=q;simp only[Int.zero_add,ht]at a1 a2 a3;subst a1 a2 a3;rfl
    rw[e];exact hs
theorem LR{a b:de}(h:jF a b=true):(xv b a)=⟨b.cd-a.cd,b.dg-a.dg,b.du-a.du⟩/\dT ⟨b.cd-a.cd,b.dg-a.dg,b.du-a.du⟩=true:=by
  unfold jF at h;simp only[RD,decide_eq_true_eq]at h;obtain⟨h1,h2,h3,h4,h5⟩:=h;have a1:=eN.1 h1;have a2:=eN.1 h2;refine⟨?_,eN.2 ⟨by simp only;omega,by simp only;omega,by simp only;omega⟩⟩;unfold xv;rw[dF (by omega) (by omega),dF (by omega) (by omega),dF (by omega) (by omega)]
theorem ub{t:List dk}{f:Int}{a:de}(h:(eF t f a).2=true):Tr (eF t f a).1/\dT a=true/\∀g:de->Int,(∀x y:de,g ⟨x.cd-y.cd,x.dg-y.dg,x.du-y.du⟩=g x-g y)->eM g (eF t f a).1=eM g t-g a:=by
  obtain⟨h1,h2⟩:=tU h;have hT:=fI.1 h1;obtain⟨f0,f4⟩:=hO h2
  have hlv:(nth t f).Rq=true:=by
    unfold ei at h2;simp only[RD]at h2;exact h2.2
  unfold eF at *;rw[h1,h2]at *;simp only[Bool.and_self,if_true]at *;cases hf:jF a (nth t f).dQ
  · rw[hf]at h;simp at h
  · simp only[if_true];obtain⟨e,ok⟩:=LR hf
    have ha:dT a=true:=by
      unfold jF at hf;simp only[RD]at hf;exact hf.1
    rw[e];have hl:=hT.len;have hm:nth t f∈t:=gJ f0 (by omega);have hS:=eN.1 hT.sum;obtain⟨t1,t2,t3⟩:=hT.eM;have ha':=eN.1 ha;have ok':=eN.1 ok;obtain⟨_,q⟩:=rf t ⟨0,0,0⟩ 0 hT.dQ (by omega) (by omega) ⟨by decide,by decide⟩ ⟨by decide,by decide⟩ ⟨by decide,by decide⟩;obtain⟨q1,q2,q3⟩:=q _ hm hlv;simp only at ok';obtain⟨r1,r2⟩:=hT.set f0 f4 hlv ok (eN.2 ⟨by simp only;omega,by simp only;omega,by simp only;omega⟩);refine⟨r1,ha,fun g hg=>?_⟩;rw[r2 g,hg];omega
theorem zh{p:bh}{now y:Int}(h:y∈threads p now):0<=y/\y<=9:=(qS h).2
theorem xz{p:bh}{now y:Int}(h:y∈threads p now):(nth p.heap.ag y).so=4/\ep (nth p.heap.ag y) now=false:=by
  obtain⟨ok,y0,y9⟩:=qS h;have ar:=fe ok;unfold threads at h;rw[if_pos ok]at h;obtain⟨i,b,h1,h2,h3⟩:=sP.1 h;simp only[Nat.zero_add,RD,beq_iff_eq]at h2 h3;obtain⟨hb,hk⟩:=h2;subst h3;rw[hb]at h1;refine⟨hk,ns ar (((xL ar now).2 i).1 h1) fun q=>?_⟩;rw[q,ar.sm]at hk;cases hk
theorem Lw{p:bh}(h:dI p=true)(i:Int):ei p.Re (iw p i)=true:=by
  have hT:=fI.1 (jB h);unfold iw;split
  · rename_i q;simp only[RD]at q;exact q.2
  · unfold ei;rw[hT.pM];rfl
theorem qK{p:bh}{now:Int}(h:pK p now=false):gS p now∈runnable p now:=by
  unfold pK at h;simp only[Bool.or_eq_false_iff]at h;exact zJ _ _ _ h.1
theorem Hx{p:bh}{now:Int}(ok:dI p=true){i:Int}(h:i∈runnable p now):(eF p.Re (iw p (nth p.heap.ag i).Rt) ⟨0,0,1⟩).2=true:=by
  unfold runnable at h;obtain⟨_,hm⟩:=List.mem_filter.1 h;unfold uR at hm;simp only[RD,decide_eq_true_eq]at hm;have hT:=fI.1 (jB ok);obtain⟨r0,r4⟩:=sD p (nth p.heap.ag i).Rt;have hl:=hT.len;have hb:=hT.dQ _ (gJ (l:=p.Re) (i:=iw p (nth p.heap.ag i).Rt) r0 (by omega));have hb':=eN.1 hb;have hc:(nth p.Re (iw p (nth p.heap.ag i).Rt)).dQ.du>0:=hm.2
  have hf:jF ⟨0,0,1⟩ (nth p.Re (iw p (nth p.heap.ag i).Rt)).dQ=true:=by
    unfold jF;rw[hb];simp only[show dT ⟨0,0,1⟩=true from by decide,RC,RD,decide_eq_true_eq];exact⟨by omega,by omega,by omega⟩
  unfold eF;rw[jB ok,Lw ok,hf];rfl
theorem MZ{p:bh}{now:Int}(ok:dI p=true){i:Int}(h:i∈runnable p now):(fX (eF p.Re (iw p (nth p.heap.ag i).Rt) ⟨0,0,1⟩).1).du=(fX p.Re).du-1/\(fX (eF p.Re (iw p (nth p.heap.ag i).Rt) ⟨0,0,1⟩).1).cd=(fX p.Re).cd/\(fX (eF p.Re (iw p (nth p.heap.ag i).Rt) ⟨0,0,1⟩).1).dg=(fX p.Re).dg:=by
  have hT:=fI.1 (jB ok);obtain⟨q,_,k⟩:=ub (Hx ok h);unfold fX;rw[if_pos (fI.2 q),if_pos (jB ok),q.eM.1,q.eM.2.1,q.eM.2.2,hT.eM.1,hT.eM.2.1,hT.eM.2.2,k de.du (fun _ _=>rfl),k de.cd (fun _ _=>rfl),k de.dg (fun _ _=>rfl)];exact⟨rfl,Int.sub_zero _,Int.sub_zero _⟩
structure Sk where
  Rs:Int
  so:Int
  box:Int
  dX:Int
  dp:List Int
def fZ(o:c6):Sk:=⟨o.Rs,o.so,o.box,o.dX,o.dp⟩
theorem Ej{α γ β:Type}{s:α->γ}{p:Nat->α->Bool}{q:Nat->γ->Bool}{h:Nat->α->β}{r:Nat->γ->β}(hp:∀k y,p k y=q k (s y))(hh:∀k y,h k y=r k (s y)):∀(l:List α) (k:Nat),jj p h k l=jj q r k (l.map s)
  | [],_=>rfl
  | y::l,k=>by
    unfold jj;simp only[List.map_cons,jj];rw[hp,hh,Ej hp hh l (k+1)]
theorem xw{l:List c6}(i:Int)(h0:0<=i)(h1:i<(l.length:Int)):(l.map fZ)[i.toNat]?=some (fZ (nth l i)):=by
  rw[List.getElem?_map,fM h0 h1];rfl
theorem jq{l m:List c6}(h:l.map fZ=m.map fZ){i:Int}(h0:0<=i)(h1:i<(l.length:Int)):fZ (nth l i)=fZ (nth m i):=by
  have hl:l.length=m.length:=by simpa using congrArg List.length h
  have a:=xw i h0 h1;rw[h,xw i h0 (by omega)]at a;exact(Option.some.inj a).symm
theorem tm{l m:List c6}(h:l.map fZ=m.map fZ){i:Int}(h0:0<=i)(h1:i<(l.length:Int)):eY l i=eY m i:=by
  have e:=jq h h0 h1;have ek:(nth l i).so=(nth m i).so:=congrArg Sk.so e;have el:(nth l i).dp=(nth m i).dp:=congrArg Sk.dp e;unfold eY;have key:∀x:List c6,jj (vC x i) (fun k _=>(k:Int)) 0 x=jj (fun(k:Nat) (y:Sk)=>(decide ((k:Int)>0)&&(y.so != 0&&((y.box==i)&&((nth x i).so==1)))) || (nth x i).dp.contains (k:Int)) (fun k _=>(k:Int)) 0 (x.map fZ):=fun x=>Ej (s:=fZ) (p:=vC x i) (q:=fun(k:Nat) (y:Sk)=>(decide ((k:Int)>0)&&(y.so != 0&&((y.box==i)&&((nth x i).so==1)))) || (nth x i).dp.contains (k:Int)) (h:=fun k _=>(k:Int)) (r:=fun k _=>(k:Int)) (fun k y=>rfl) (fun k y=>rfl) x 0;rw[key l,key m,h,ek,el]
theorem pX{a b:c6}(h:fZ a=fZ b)(now:Int):ep a now=ep b now:=by
  unfold ep;rw[show a.so=b.so from congrArg Sk.so h,show a.dX=b.dX from congrArg Sk.dX h]
theorem lA{l m:List c6}(hl:Ar l)(h:l.map fZ=m.map fZ){now k:Int}(r:Reaches l now k):Reaches m now k:=by
  have hlen:=hl.len
  induction r with
  | root=>exact .root
  | step q1 q2 q3 ih =>
    obtain⟨i0,i9⟩:=q1.kH hl;obtain⟨k0,k1⟩:=jw q2;rw[tm h i0 (by omega)]at q2;rw[pX (jq h k0 k1)]at q3;exact .step ih q2 q3
theorem Ar.fZ{l m:List c6}(hl:Ar l)(h:l.map fZ=m.map fZ)(ok:∀o,o∈m->eG o=true):Ar m:=by
  have hlen:l.length=m.length:=by simpa using congrArg List.length h
  have h10:=hl.len;have e0:=jq h (i:=0) (by omega) (by omega);refine⟨by omega,?_,?_,?_,ok,?_,?_⟩
  · rw[<- hl.sm];exact(congrArg Sk.so e0).symm
  · rw[<- hl.yV];exact(congrArg Sk.box e0).symm
  · rw[<- hl.yJ];exact(congrArg Sk.dX e0).symm
  · intro o ho y hy y0;obtain⟨k,hk⟩:=List.getElem?_of_mem ho;have hkl:=eJ hk;have e:=jq h (i:=(k:Int)) (by omega) (by omega)
    have el:(nth l (k:Int)).dp=o.dp:=by rw[show o=nth m (k:Int) from(nK hk).symm];exact congrArg Sk.dp e
    have hm:=(hl.at (i:=(k:Int)) (by omega) (by omega)).2;have y9:=((pF (ok o ho)).2 y hy).2;have:=hl.dp _ hm y (by rw[el];exact hy) y0
    rwa[show(nth l y).so=(nth m y).so from congrArg Sk.so (jq h y0 (by omega))]at this
  · intro k o hk k0 hne b0;have hkl:=eJ hk;have e:=jq h (i:=(k:Int)) (by omega) (by omega);have eo:o=nth m (k:Int):=(nK hk).symm
    have eb:(nth l (k:Int)).box=o.box:=by rw[eo];exact congrArg Sk.box e
    have ek:(nth l (k:Int)).so=o.so:=by rw[eo];exact congrArg Sk.so e
    have b9:=dM.1 (kh (ok o (List.mem_of_getElem? hk)) (by simpa using hne)).1;have:=hl.box k (nth l (k:Int)) (fM (l:=l) (i:=(k:Int)) (by omega) (by omega)) k0 (by rw[ek];exact hne) (by rw[eb];exact b0);rw[eb]at this
    rwa[show(nth l o.box).so=(nth m o.box).so from congrArg Sk.so (jq h b0 (by omega))]at this
theorem Bj(p:bh)(me now:Int):p.heap.ag.map fZ=(m8 p me now).map fZ:=by
  unfold m8;rw[List.map_map];refine List.map_congr_left fun o _=>?_
  show fZ o=fZ (if uo p me now o then xM o else o)
  split<;>rfl
theorem Lr{p:bh}{me now:Int}(h:∀o,o∈p.heap.ag->eG o=true):∀o,o∈m8 p me now->eG o=true:=by
  intro o ho;obtain⟨x,hx,rfl⟩:=List.mem_map.1 (show o∈p.heap.ag.map _ from ho);have hok:=h x hx;split
  · rename_i q;unfold uo at q;simp only[RD,decide_eq_true_eq]at q
    have hk:(x.so==0)=false:=by
      cases hk:x.so==0
      · rfl
      · unfold eG at hok;simp only[hk,RA,RD,decide_eq_true_eq]at hok;rw[hok.2.2]at q;simp[blank]at q
    unfold eG at hok⊢;have hk':((xM x).so==0)=false:=hk;rw[hk]at hok;rw[hk'];simp only[Rz,RD]at hok⊢;obtain⟨a1,a2,a3,a4,a5,a6,a7,a8⟩:=hok;refine⟨a1,a2,a3,a4,a5,a6,a7,?_⟩;cases h4:x.so != 4
    · rw[h4]at a8;have h4':((xM x).so != 4)=false:=h4;rw[h4'];simp only[Rz,RD]at a8⊢;exact⟨rfl,show dy (-1) (-1) 999=true by decide,a8.2.2⟩
    · rw[h4]at a8;simp only[RA,RD,beq_iff_eq]at a8;omega
  · exact hok
theorem MJ{p:bh}(h:dI p=true)(me now:Int):Ar (m8 p me now):=by
  have ar:=fe h;exact ar.fZ (Bj p me now) (Lr ar.ok)
theorem MK{p:bh}(h:dI p=true)(me now:Int):dI (jz p (m8 p me now))=true:=by
  have hw:=fO.2 (MJ h me now);unfold dI fR at *;simp only[RD]at h⊢;obtain⟨a,b,c,⟨_,d⟩,e⟩:=h;exact⟨a,b,c,⟨hw,d⟩,e⟩
theorem Np{l m:List c6}(h:l.map c6.cd=m.map c6.cd)(hl:∀o,o∈l->eG o=true)(hm:∀o,o∈m->eG o=true):((l.take 10).filter eG).foldl (fun n o=>i64.wrap (n+o.cd)) 0=((m.take 10).filter eG).foldl (fun n o=>i64.wrap (n+o.cd)) 0:=by
  rw[List.filter_eq_self.2 fun o ho=>hl o (List.mem_of_mem_take ho),List.filter_eq_self.2 fun o ho=>hm o (List.mem_of_mem_take ho)]
  have key:∀(x:List c6) (s:Int),x.foldl (fun n o=>i64.wrap (n+o.cd)) s=(x.map c6.cd).foldl (fun n k=>i64.wrap (n+k)) s:=fun x s=>by rw[List.foldl_map]
  rw[key,key,List.map_take,List.map_take,h]
theorem Px{p:bh}(h:dI p=true)(me now:Int):ig (jz p (m8 p me now))=ig p:=by
  have ar:=fe h
  have hp:(m8 p me now).map c6.cd=p.heap.ag.map c6.cd:=by
    unfold m8;rw[List.map_map];refine List.map_congr_left fun o _=>?_
    show c6.cd (if uo p me now o then xM o else o)=o.cd
    split<;>rfl
  have e:held (jz p (m8 p me now))=held p:=Np hp (MJ h me now).ok ar.ok;unfold ig;rw[e];rfl
theorem L9{l:List c6}{i:Int}{z:c6}(h0:0<=i)(h1:i<(l.length:Int))(e:fZ z=fZ (nth l i)):(l.set i.toNat z).map fZ=l.map fZ:=by
  rw[List.map_set,e];exact kD (xw i h0 h1)
theorem M1{o:c6}(h:eG o=true)(hk:o.so=4)(hr:o.ee<1000000):eG (sE o)=true:=by
  have r0:=(K2 h).1
  have hk0:(o.so==0)=false:=by rw[hk];rfl
  have hk4:(o.so != 4)=false:=by rw[hk];rfl
  unfold eG at h⊢;have hk0':((sE o).so==0)=false:=hk0;have hk4':((sE o).so != 4)=false:=hk4;rw[hk0]at h;rw[hk0'];simp only[Rz,RD]at h⊢;obtain⟨a1,a2,a3,a4,a5,a6,a7,a8⟩:=h;rw[hk4]at a8;rw[hk4'];simp only[Rz,RD]at a8⊢;exact⟨a1,a2,a3,a4,a5,a6,a7,a8.1,a8.2.1,dM.2 ⟨by show 0<=i64.wrap (o.ee+1);rw[dF (by omega) (by omega)];omega,by show i64.wrap (o.ee+1)<=1000000;rw[dF (by omega) (by omega)];omega⟩⟩
def tS(p : bh)(now : Int): bh:=bh.mk p.Rd p.own (eF p.Re (iw p (nth p.heap.ag (gS p now)).Rt) ⟨0, 0, 1⟩).1 (df.mk (p.heap.ag.set (gS p now).toNat (sE (nth p.heap.ag (gS p now)))) p.heap.gc) p.dc (gS p now) 0
        (de.mk p.db.cd p.db.dg (i64.wrap (p.db.du+1))) p.dx p.Rk
theorem O7{p:bh}{now:Int}(ok:dI p=true)(hr:pK p now=false):iN p now=(tS p now,gS p now):=by
  unfold iN;rw[if_pos ok,hr];rfl
theorem Ah{p:bh}{now:Int}(hr:pK p now=false):p.db.du<1000000/\(nth p.heap.ag (gS p now)).ee<1000000:=by
  unfold pK at hr;simp only[Bool.or_eq_false_iff,decide_eq_false_iff_not]at hr;omega
theorem CB{p:bh}{now:Int}(ok:dI p=true)(hr:pK p now=false):(tS p now).heap.ag.map fZ=p.heap.ag.map fZ/\Ar (tS p now).heap.ag:=by
  have ar:=fe ok;obtain⟨q0,q9⟩:=zh (List.mem_filter.1 (qK hr)).1;have hk:=(xz (List.mem_filter.1 (qK hr)).1).1;have hl:=ar.len;have hs:=L9 (l:=p.heap.ag) (z:=sE (nth p.heap.ag (gS p now))) q0 (by omega) rfl;refine⟨hs,ar.fZ hs.symm fun o ho=>?_⟩
  rcases List.mem_or_eq_of_mem_set ho with q|q
  · exact ar.ok o q
  · rw[q];exact M1 (ar.ok _ (ar.at q0 q9).2) hk (Ah hr).2
theorem D8{p:bh}{now:Int}(ok:dI p=true)(hr:pK p now=false):dI (tS p now)=true:=by
  have hA:=fO.2 (CB ok hr).2;have hT:=fI.2 (ub (Hx ok (qK hr))).1;obtain⟨q0,q9⟩:=zh (List.mem_filter.1 (qK hr)).1;have hc:=(Ah hr).1;have sp:=uu (mF ok);unfold dI fR og at *;simp only[RD]at ok⊢;obtain⟨a,b,c,⟨_,d⟩,e,f,g1,g2,g3,g4⟩:=ok;refine⟨a,b,hT,⟨hA,d⟩,e,f,dM.2 ⟨q0,q9⟩,rfl,?_,g4⟩;refine eN.2 ⟨sp.1,sp.2.1,?_⟩
  show 0<=i64.wrap (p.db.du+1)/\i64.wrap (p.db.du+1)<=1000000
  rw[dF (by omega) (by omega)];omega
theorem NX{l m:List c6}(h:l.map c6.cd=m.map c6.cd)(hl:∀o,o∈l->eG o=true)(hm:∀o,o∈m->eG o=true):((l.take 10).filter eG).foldl (fun n o=>i64.wrap (n+o.cd)) 0=((m.take 10).filter eG).foldl (fun n o=>i64.wrap (n+o.cd)) 0:=by
  rw[List.filter_eq_self.2 fun o ho=>hl o (List.mem_of_mem_take ho),List.filter_eq_self.2 fun o ho=>hm o (List.mem_of_mem_take ho)]
  have key:∀(x:List c6) (s:Int),x.foldl (fun n o=>i64.wrap (n+o.cd)) s=(x.map c6.cd).foldl (fun n k=>i64.wrap (n+k)) s:=fun x s=>by rw[List.foldl_map]
  rw[key,key,List.map_take,List.map_take,h]
theorem ND{p:bh}{now:Int}(ok:dI p=true)(hr:pK p now=false):ig (tS p now)=ig p:=by
  have ar:=fe ok;obtain⟨q0,q9⟩:=zh (List.mem_filter.1 (qK hr)).1;have hl:=ar.len
  have hp:(tS p now).heap.ag.map c6.cd=p.heap.ag.map c6.cd:=by
    show(p.heap.ag.set (gS p now).toNat (sE (nth p.heap.ag (gS p now)))).map c6.cd=_
    rw[List.map_set];exact kD (by rw[List.getElem?_map,fM q0 (by omega)];rfl)
  have e:held (tS p now)=held p:=NX hp (CB ok hr).2.ok ar.ok;obtain⟨s1,s2,s3⟩:=MZ ok (qK hr);have o1:=mF ok;have o2:=mF (D8 ok hr);have hc:=(Ah hr).1;have sp:=uu o1;unfold ig;rw[o1,o2,e];simp only[if_true]
  show dY ⟨i64.wrap ((fX (eF p.Re (iw p (nth p.heap.ag (gS p now)).Rt) ⟨0,0,1⟩).1).cd+held p),(fX (eF p.Re (iw p (nth p.heap.ag (gS p now)).Rt) ⟨0,0,1⟩).1).dg,(fX (eF p.Re (iw p (nth p.heap.ag (gS p now)).Rt) ⟨0,0,1⟩).1).du⟩ ⟨p.db.cd,p.db.dg,i64.wrap (p.db.du+1)⟩=_
  rw[s1,s2,s3,dF (n:=p.db.du+1) (by omega) (by omega)];unfold dY;simp only;rw[show(fX p.Re).du-1+(p.db.du+1)=(fX p.Re).du+p.db.du by omega]
theorem ng{o z:c6}(h:eG o=true)(hk:(o.so==0)=false)(e1:z.Rs=o.Rs)(e2:z.so=o.so)(hb:dy z.box (-1) 9=true)(e3:z.Rt=o.Rt)(ht:dy z.dX 0 1000000=true)(e4:z.cd=o.cd)(hl:ji z=true)(e5:z.Rm=o.Rm)(e6:z.ef=o.ef)(e7:z.ee=o.ee):eG z=true:=by
  unfold eG at h⊢;rw[e1,e2,e3,e4,e5,e6,e7,hk];rw[hk]at h;simp only[Rz,RD]at h⊢;obtain⟨a1,a2,a3,a4,a5,a6,a7,a8⟩:=h;exact⟨a1,a2,hb,a4,ht,a6,hl,a8⟩
theorem lj{o:c6}(h:eG o=true)(hk:(o.so==0)=false):ji o=true:=by
  unfold eG at h;rw[hk]at h;simp only[Rz,RD]at h;exact h.2.2.2.2.2.2.1
theorem yd{o:c6}(hk:(o.so==0)=false):(o.so != 0)=true:=by unfold bne;rw[hk];rfl
theorem NJ{o:c6}(h:eG o=true)(hk:(o.so==0)=false)(b:Bool):eG (marked o b)=true :=
  ng h hk rfl rfl (kh h (yd hk)).1 rfl (kh h (yd hk)).2.2.1 rfl (show ji o=true from lj h hk) rfl rfl rfl
theorem pC{o:c6}(h:eG o=true)(hk:(o.so==0)=true):o=blank o.Rs:=by
  unfold eG at h;rw[hk]at h;simp only[RA,RD,decide_eq_true_eq]at h;exact h.2.2
theorem Mr{o:c6}(h:eG o=true):eG (blank o.Rs)=true:=by
  unfold eG at h⊢;simp only[RD]at h
  show(dy o.Rs 0 999&&(dy 0 0 4&&decide (blank o.Rs=blank o.Rs)))=true
  rw[h.1,decide_eq_true rfl];rfl
theorem OJ{o:c6}(h:eG o=true)(i:Int):eG (kM i o)=true:=by
  unfold kM;cases hk:o.so==0
  · simp only[Bool.false_eq_true,if_false];have hb:=(kh h (yd hk));refine ng h hk rfl rfl ?_ rfl hb.2.2.1 rfl ?_ rfl rfl rfl
    · show dy (if o.box==i then -1 else o.box) (-1) 9=true
      split
      · decide
      · exact hb.1
    · have hl:=lj h hk;unfold ji at hl⊢;simp only[RD,List.length_map,List.all_map,List.all_eq_true]at hl⊢;refine⟨fun y hy=>?_,hl.2⟩
      show dy (tL i y) (-1) 9=true
      unfold tL;split
      · decide
      · exact hl.1 y hy
  · simp only[if_true];exact h
theorem oG(i:Int)(o:c6):(kM i o).so=o.so:=by unfold kM;split<;>rfl
theorem Kd(i:Int)(o:c6):(kM i o).cd=o.cd:=by unfold kM;split<;>rfl
theorem HA(i:Int)(o:c6):(kM i o).dX=o.dX:=by unfold kM;split<;>rfl
theorem Ar.swap{l:List c6}(h:Ar l){i:Int}(h0:0<=i)(h9:i<=9){z:c6}(hk:z.so=(nth l i).so)(hb:z.box=(nth l i).box)(hl:z.dp=(nth l i).dp)(ht:i=0->z.dX=(nth l i).dX)(ok:eG z=true):Ar (l.set i.toNat z):=by
  have h10:=h.len
  have hn:∀j,0<=j->nth (l.set i.toNat z) j=if i=j then z else nth l j:=fun j hj=>gM h0 (by omega) hj
  have hkind:∀j,0<=j->(nth (l.set i.toNat z) j).so=(nth l j).so:=fun j hj=>by
    rw[hn j hj];split
    · rename_i e;rw[<- e];exact hk
    · rfl
  have hi:=(h.at h0 h9).2;refine⟨by rw[List.length_set];exact h10,by rw[hkind 0 (by omega)];exact h.sm,?_,?_,?_,?_,?_⟩
  · rw[hn 0 (by omega)];split
    · rename_i e;rw[hb,e];exact h.yV
    · exact h.yV
  · rw[hn 0 (by omega)];split
    · rename_i e;rw[ht e,e];exact h.yJ
    · exact h.yJ
  · intro o ho
    rcases List.mem_or_eq_of_mem_set ho with q|rfl
    · exact h.ok o q
    · exact ok
  · intro o ho y hy y0;rw[hkind y y0]
    rcases List.mem_or_eq_of_mem_set ho with q|rfl
    · exact h.dp o q y hy y0
    · rw[hl]at hy;exact h.dp _ hi y hy y0
  · intro k o hko k0 hne b0;rw[hkind o.box b0]
    by_cases e:k=i.toNat
    · subst e;rw[List.getElem?_set_self (by omega)]at hko;have:z=o:=Option.some.inj hko;subst this;have:=h.box i.toNat (nth l i) (fM h0 (by omega)) k0 (by rw[<- hk];exact hne) (by rw[<- hb];exact b0)
      rwa[hb]
    · rw[List.getElem?_set_ne (Ne.symm e)]at hko;exact h.box k o hko k0 hne b0
theorem Ar.mark{l:List c6}(h:Ar l){i:Int}(h0:0<=i)(h9:i<=9)(b:Bool)(hk:b=true->((nth l i).so==0)=false):Ar (l.set i.toNat (marked (nth l i) b)):=by
  refine h.swap h0 h9 rfl rfl rfl (fun _=>rfl) ?_;have ho:=h.ok _ (h.at h0 h9).2;cases hq:(nth l i).so==0
  · exact NJ ho hq b
  · cases b
    · have e:=pC ho hq
      have:marked (nth l i) false=nth l i:=by rw[e];rfl
      rw[this];exact ho
    · rw[hk rfl]at hq;cases hq
theorem B1{l:List c6}(f:c6->c6){j:Int}(h0:0<=j)(h1:j<(l.length:Int)):nth (l.map f) j=f (nth l j):=by
  have:=fM (l:=l) h0 h1;unfold nth;rw[List.getElem?_map];unfold nth at this;rw[this];rfl
theorem Ar.free{l:List c6}(h:Ar l){i:Int}(h1:1<=i)(h9:i<=9):Ar ((l.set i.toNat (blank (nth l i).Rs)).map (kM i)):=by
  have h10:=h.len;have hi:=(h.at (i:=i) (by omega) h9).2
  have hn:∀j,0<=j->j<=9->nth ((l.set i.toNat (blank (nth l i).Rs)).map (kM i)) j=kM i (if i=j then blank (nth l i).Rs else nth l j):=fun j hj h9=>by
    rw[B1 _ hj (by rw[List.length_set];omega),gM (by omega) (by omega) hj]
  have hkind:∀j,0<=j->j<=9->j ≠ i->(nth ((l.set i.toNat (blank (nth l i).Rs)).map (kM i)) j).so=(nth l j).so:=fun j hj h9 hne=>by
    rw[hn j hj h9,if_neg (Ne.symm hne),oG]
  have hmem:∀o,o∈l.set i.toNat (blank (nth l i).Rs)->eG o=true:=fun o ho=>by
    rcases List.mem_or_eq_of_mem_set ho with q|rfl
    · exact h.ok o q
    · exact Mr (h.ok _ hi)
  refine⟨by rw[List.length_map,List.length_set];exact h10,by rw[hkind 0 (by omega) (by omega) (by omega)];exact h.sm,?_,?_,?_,?_,?_⟩
  · rw[hn 0 (by omega) (by omega),if_neg (by omega)];unfold kM;rw[h.sm]
    show(if(nth l 0).box==i then -1 else(nth l 0).box)=-1
    rw[h.yV];split<;>rfl
  · rw[hn 0 (by omega) (by omega),if_neg (by omega),HA];exact h.yJ
  · intro o ho;obtain⟨x,hx,rfl⟩:=List.mem_map.1 ho;exact OJ (hmem x hx) i
  · intro o ho y hy y0;obtain⟨x,hx,rfl⟩:=List.mem_map.1 ho;have hok:=hmem x hx;cases hq:x.so==0
    · unfold kM at hy;rw[hq]at hy;simp only[Bool.false_eq_true,if_false]at hy;obtain⟨v,hv,rfl⟩:=List.mem_map.1 hy;unfold tL at y0⊢;split at y0
      · omega
      · rename_i hne
        have hne:v ≠ i:=by simpa using hne
        have v9:=((pF hok).2 v hv).2;rw[if_neg (by simpa using hne),hkind v y0 v9 hne]
        rcases List.mem_or_eq_of_mem_set hx with q|q
        · exact h.dp x q v hv y0
        · rw[q]at hq;simp[blank]at hq
    · have e:=pC hok hq;unfold kM at hy;rw[hq]at hy;simp only[if_true]at hy;rw[e]at hy;simp[blank]at hy
  · intro k o hko k0 hne b0;rw[List.getElem?_map]at hko;obtain⟨x,hx,rfl⟩:=Option.map_eq_some_iff.1 hko;rw[oG]at hne
    have hq:(x.so==0)=false:=by simpa using hne
    have hb:(kM i x).box=if x.box==i then -1 else x.box:=by unfold kM;rw[hq];rfl
    rw[hb]at b0⊢;split at b0
    · omega
    · rename_i hnb
      have hnb:x.box ≠ i:=by simpa using hnb
      rw[if_neg (by simpa using hnb)];have hxm:=List.mem_of_getElem? hx;have b9:=dM.1 (kh (hmem x hxm) (yd hq)).1;rw[hkind x.box b0 b9.2 hnb]
      by_cases e:k=i.toNat
      · subst e;rw[List.getElem?_set_self (by omega)]at hx;have:=Option.some.inj hx;rw[<- this]at hq;simp[blank]at hq
      · rw[List.getElem?_set_ne (Ne.symm e)]at hx;exact h.box k x hx k0 hne b0
structure Hk (h:df):Prop where
  ar:Ar h.ag
  ph:kU h.gc=true
  rd:0<=h.gc.Rh/\h.gc.Rh<=1000000
  gr:∀y,y∈h.gc.da->0<=y/\y<=9
  nd:h.gc.da.Nodup
theorem Kh{g:List Int}:allI (qU g) 0 g=true <-> (∀y,y∈g->0<=y/\y<=9)/\g.Nodup:=by
  rw[jI];constructor
  · intro h;refine⟨fun y hy=>?_,?_⟩
    · obtain⟨k,hk⟩:=List.getElem?_of_mem hy;have:=h k y hk;unfold qU at this;simp only[RD,dM]at this;exact this.1
    · refine List.pairwise_iff_getElem.2 fun i j hi hj hij e=>?_;have:=h j g[j] (List.getElem?_eq_getElem hj);unfold qU at this;simp only[Nat.zero_add,RD,Bool.not_eq_true']at this
      have hm:g[j]∈g.take j:=by
        rw[<- e];exact List.mem_iff_getElem.2 ⟨i,by rw[List.length_take];omega,by rw[List.getElem_take]⟩
      have hc:(g.take j).contains g[j]=true:=by simpa using hm
      rw[this.2]at hc;cases hc
  · rintro⟨h1,h2⟩ i y hy;unfold qU;simp only[Nat.zero_add,RD,Bool.not_eq_true',dM];refine⟨h1 y (List.mem_of_getElem? hy),?_⟩;cases hc:(g.take i).contains y
    · rfl
    · have hm:y∈g.take i:=by simpa using hc
      obtain⟨j,hj,e⟩:=List.mem_iff_getElem.1 hm;rw[List.length_take]at hj;rw[List.getElem_take]at e;have hi:=eJ hy;have:=List.pairwise_iff_getElem.1 h2 j i (by omega) hi (by omega);rw[List.getElem?_eq_getElem hi]at hy;exact absurd (e.trans (Option.some.inj hy).symm) this
theorem gG{h:df}:fR h=true <-> Hk h:=by
  unfold fR;simp only[RD,Kh,dM,fO];exact⟨fun⟨a,b,c,d,e⟩=>⟨a,b,c,d,e⟩,fun q=>⟨q.ar,q.ph,q.rd,q.gr,q.nd⟩⟩
theorem my(h:df):∀y,y∈gv h->y∈h.gc.da:=fun y hy=>List.mem_of_mem_take hy
theorem wJ{h:df}(q:h.gc.da.Nodup):(gv h).Nodup:=List.Sublist.nodup (List.take_sublist _ _) q
theorem Hk.QX{h:df}(q:Hk h){ph:h.gc.Rg=0}(g:List Int):kU (eT.mk h.gc.Rg h.gc.Rp h.gc.Rh g)=true:=by
  have hph:=q.ph;unfold kU at hph⊢;simp only[Bool.or_eq_true,RD,beq_iff_eq]at hph⊢
  rcases hph with e|e
  · exact .inl e
  · rw[ph]at e;exact absurd e.1 (by decide)
theorem Hk.fN{h:df}(q:Hk h){k:Int}(k0:0<=k)(k9:k<=9):Hk (fN h k):=by
  unfold Kx.fN;split
  · rename_i c;simp only[RD,bne_iff_ne,ne_eq]at c;refine⟨q.ar.mark k0 k9 true fun _=>by simpa using c.2.1,q.QX (ph:=by simpa using c.1) _,q.rd,?_,?_⟩
    · intro y hy;simp only at hy;split at hy
      · exact q.gr y hy
      · rcases List.mem_append.1 hy with e|e
        · exact q.gr y e
        · rw[List.mem_singleton]at e;subst e;exact⟨k0,k9⟩
    · simp only;split
      · exact q.nd
      · rename_i hc;refine List.nodup_append.2 ⟨q.nd,by simp,fun a ha b hb e=>?_⟩;rw[List.mem_singleton]at hb;subst hb;subst e;exact hc (by simpa using ha)
  · exact q
theorem Hk.KC{l:List c6}{now:Int}:∀(e:List Int) (h:df),(∀y,y∈e->0<=y/\y<=9)->Hk h->Hk (e.foldl (fL l now) h)
  | [],h,_,q=>q
  | k::e,h,he,q=>by
    rw[List.foldl_cons];refine Hk.KC e _ (fun y hy=>he y (by simp[hy])) ?_;unfold fL;split
    · exact q
    · exact q.fN (he k (by simp)).1 (he k (by simp)).2
theorem uc{h:df}(q:Hk h)(p0:0<=h.gc.Rp)(p9:h.gc.Rp<=9)(now:Int):Ar (fJ h now):=by
  unfold fJ;split
  · rename_i c;unfold gn at c;simp only[RD,bne_iff_ne,ne_eq]at c;unfold jl;split
    · exact q.ar.free (by omega) p9
    · exact q.ar
  · exact q.ar.mark p0 p9 false fun h=>by cases h
theorem Hk.step{h:df}(q:Hk h)(now:Int):Hk (fy h now).1:=by
  unfold fy;rw[if_pos (gG.2 q)];have hph:=q.ph;unfold kU at hph;simp only[Bool.or_eq_true,RD,beq_iff_eq,dM]at hph;split
  · rename_i c
    have c:h.gc.Rg=1:=by simpa using c
    have hp:(0<=h.gc.Rp/\h.gc.Rp<=9)/\(h.gc.da.length:Int)=0:=by
      rcases hph with e|e
      · rw[c]at e;exact absurd e.1 (by decide)
      · exact e.2
    have hs:=uc q hp.1.1 hp.1.2 now;unfold iC;simp only;split
    · refine⟨hs.mark (i:=0) (by omega) (by omega) true fun _=>by rw[hs.sm];rfl,rfl,?_,by simp,by simp⟩;have hr:=q.rd;simp only;rw[dF (by omega) (by omega)];split<;>omega
    · rename_i c9
      have c9:h.gc.Rp ≠ 9:=by simpa using c9
      refine⟨hs,?_,q.rd,q.gr,q.nd⟩;unfold kU;simp only[Bool.or_eq_true,RD,beq_iff_eq,dM];exact .inr ⟨c,⟨by omega,by omega⟩,hp.2⟩
  · rename_i c
    have c:h.gc.Rg ≠ 1:=by simpa using c
    have hp:h.gc.Rg=0/\h.gc.Rp=0:=by
      rcases hph with e|e
      · exact e
      · exact absurd e.1 c
    have hph':∀g,kU (eT.mk h.gc.Rg h.gc.Rp h.gc.Rh g)=true:=fun g=>by
      unfold kU;simp[hp.1,hp.2]
    unfold mz;simp only;split
    · rename_i hg;refine⟨q.ar,?_,q.rd,q.gr,q.nd⟩;unfold kU;simp[hg,dy]
    · rename_i hg;obtain⟨l0,l9⟩:=kB (gG.2 q) hg;split
      · exact⟨q.ar,hph' _,q.rd,fun y hy=>q.gr y (my h y hy),wJ q.nd⟩
      · rename_i he;refine Hk.KC _ _ (jH q.ar (dw h)).1 ⟨?_,hph' _,q.rd,fun y hy=>q.gr y (my h y hy),wJ q.nd⟩;refine q.ar.mark l0 l9 true fun _=>?_
        by_cases e0:dw h=0
        · rw[e0,q.ar.sm];rfl
        · cases hq:(nth h.ag (dw h)).so==0
          · rfl
          · refine absurd ?_ he;unfold ep;rw[hq];simp[e0]
def yI:List Int->Int
  | []=>0
  | y::l=>y+yI l
theorem Fq:∀(l:List Int) (k:Nat) (y z:Int),l[k]?=some y->yI (l.set k z)=yI l-y+z
  | [],k,y,z,h=>by simp at h
  | x::l,0,y,z,h=>by
    simp at h;subst h
    show z+yI l=(x+yI l)-x+z
    omega
  | x::l,k+1,y,z,h=>by
    show x+yI (l.set k z)=x+yI l-y+z
    rw[Fq l k y z (by simpa using h)];omega
def iA(l:List c6):Int:=yI (l.map c6.cd)
theorem sG{l:List c6}{i:Int}(h0:0<=i)(h1:i<(l.length:Int))(z:c6):iA (l.set i.toNat z)=iA l-(nth l i).cd+z.cd:=by
  unfold iA;rw[List.map_set,Fq _ _ (nth l i).cd _ (by rw[List.getElem?_map,fM h0 h1];rfl)]
theorem NG{l:List c6}{f:c6->c6}(h:∀o,(f o).cd=o.cd):iA (l.map f)=iA l:=by
  unfold iA;rw[List.map_map];congr 1;exact List.map_congr_left fun o _=>h o
theorem CG{o:c6}(h:eG o=true):0<=o.cd/\o.cd<=8:=by
  cases hk:o.so==0
  · exact dM.1 (kh h (yd hk)).2.2.2
  · rw[pC h hk];exact⟨Int.le_refl 0,show(0:Int)<=8 by decide⟩
theorem DV:∀(l:List c6) (s:Int),(∀o,o∈l->eG o=true)->0<=s->s+8*(l.length:Int)<=1000000->l.foldl (fun n o=>i64.wrap (n+o.cd)) s=s+iA l/\0<=iA l/\iA l<=8*(l.length:Int)
  | [],s,_,_,_=>⟨(Int.add_zero s).symm,Int.le_refl _,Int.le_refl _⟩
  | o::l,s,h,h0,hB=>by
    have ho:=CG (h o (by simp));simp only[List.length_cons]at hB;obtain⟨a,b,c⟩:=DV l (s+o.cd) (fun x hx=>h x (by simp[hx])) (by omega) (by omega);rw[List.foldl_cons,dF (by omega) (by omega),a];have e:iA (o::l)=o.cd+iA l:=rfl;rw[e];simp only[List.length_cons];omega
theorem DD{p:bh}(h:Ar p.heap.ag):held p=iA p.heap.ag/\0<=iA p.heap.ag/\iA p.heap.ag<=80:=by
  have h10:=h.len;unfold held;rw[List.take_of_length_le (by omega),List.filter_eq_self.2 h.ok];obtain⟨a,b,c⟩:=DV p.heap.ag 0 h.ok (by decide) (by omega);exact⟨by rw[a];omega,b,by omega⟩
theorem B7{h:df}(q:Ar h.ag){k:Int}(k0:0<=k)(k9:k<=9):iA (fN h k).ag=iA h.ag:=by
  unfold fN;split
  · show iA (h.ag.set _ _)=_
    rw[sG k0 (by have:=q.len;omega)]
    show _-_+(nth h.ag k).cd=_
    omega
  · rfl
theorem AF{l:List c6}{now:Int}:∀(e:List Int) (h:df),(∀y,y∈e->0<=y/\y<=9)->Hk h->iA (e.foldl (fL l now) h).ag=iA h.ag
  | [],h,_,q=>rfl
  | k::e,h,he,q=>by
    have hk:=he k (by simp);rw[List.foldl_cons]
    have q1:Hk (fL l now h k):=by
      unfold fL;split
      · exact q
      · exact q.fN hk.1 hk.2
    rw[AF e _ (fun y hy=>he y (by simp[hy])) q1];unfold fL;split
    · rfl
    · exact B7 q.ar hk.1 hk.2
theorem L5{h:df}(q:Hk h)(now:Int):iA (fy h now).1.ag=iA h.ag-(if decide ((fy h now).2>=0)then(nth h.ag (fy h now).2).cd else 0):=by
  have h10:=q.ar.len;unfold fy;rw[if_pos (gG.2 q)];split
  · rename_i c
    have c:h.gc.Rg=1:=by simpa using c
    have hph:=q.ph;unfold kU at hph;simp only[Bool.or_eq_true,RD,beq_iff_eq,dM]at hph
    have hp:0<=h.gc.Rp/\h.gc.Rp<=9:=by
      rcases hph with e|e
      · rw[c]at e;exact absurd e.1 (by decide)
      · exact e.2.1
    have hs:=uc q hp.1 hp.2 now;have hs10:=hs.len
    have key:iA (fJ h now)=iA h.ag-(if gn h now then(nth h.ag h.gc.Rp).cd else 0):=by
      unfold fJ;cases hf:gn h now
      · simp only[Bool.false_eq_true,if_false];rw[sG hp.1 (by omega)]
        show _-_+(nth h.ag h.gc.Rp).cd=_
        omega
      · simp only[if_true];unfold gn at hf;simp only[RD,bne_iff_ne,ne_eq]at hf;unfold jl
        rw[if_pos (by
          rw[fO.2 q.ar];simp only[RC,RD,dM,bne_iff_ne,ne_eq]
          exact⟨⟨by omega,hp.2⟩,hf.2.1⟩)]
        simp only;rw[NG (Kd _),sG hp.1 (by omega)]
        show _-_+0=_
        omega
    have ke:(iC h now).2=if gn h now then h.gc.Rp else -1:=rfl
    rw[ke]
    have e2:iA (iC h now).1.ag=iA (fJ h now):=by
      unfold iC;simp only;split
      · show iA ((fJ h now).set (0:Int).toNat (marked (nth (fJ h now) 0) true))=_
        rw[sG (by omega) (by omega)]
        show _-_+(nth (fJ h now) 0).cd=_
        omega
      · rfl
    rw[e2,key];cases hf:gn h now
    · simp
    · simp only[if_true];rw[show decide (h.gc.Rp>=0)=true from decide_eq_true hp.1];rfl
  · simp only[show decide ((-1:Int)>=0)=false from rfl,Bool.false_eq_true,if_false,Int.sub_zero];unfold mz;split
    · rfl
    · rename_i hg;obtain⟨l0,l9⟩:=kB (gG.2 q) hg;split
      · rfl
      · rename_i he
        have hb:Hk (df.mk (h.ag.set (dw h).toNat (marked (nth h.ag (dw h)) true)) (eT.mk h.gc.Rg h.gc.Rp h.gc.Rh (gv h))):=by
          have:=q.step now;refine⟨?_,?_,q.rd,fun y hy=>q.gr y (my h y hy),wJ q.nd⟩
          · refine q.ar.mark l0 l9 true fun _=>?_
            by_cases e0:dw h=0
            · rw[e0,q.ar.sm];rfl
            · cases hq:(nth h.ag (dw h)).so==0
              · rfl
              · refine absurd ?_ he;unfold ep;rw[hq];simp[e0]
          · have hph:=q.ph;unfold kU at hph⊢;rename_i c
            have c:h.gc.Rg ≠ 1:=by simpa using c
            simp only[Bool.or_eq_true,RD,beq_iff_eq]at hph⊢
            rcases hph with e|e
            · exact .inl e
            · exact absurd e.1 c
        rw[AF _ _ (jH q.ar (dw h)).1 hb]
        show iA (h.ag.set _ _)=_
        rw[sG l0 (by omega)]
        show _-_+(nth h.ag (dw h)).cd=_
        omega
theorem x6{t:List dk}{a:de}(hT:Tr t)(f:Int)(ha:dT a=true)(hp:eM de.cd t+a.cd<=1000000)(hr:eM de.dg t+a.dg<=1000000)(hc:eM de.du t+a.du<=1000000):
    (jJ t f a).2=true/\Tr (jJ t f a).1/\eM de.cd (jJ t f a).1=eM de.cd t+a.cd/\eM de.dg (jJ t f a).1=eM de.dg t+a.dg/\eM de.du (jJ t f a).1=eM de.du t+a.du:=by
  have ht:=fI.2 hT;obtain⟨t1,t2,t3⟩:=hT.eM;have hS:=eN.1 hT.sum;have ha':=eN.1 ha
  have hsum:dY (fX t) a=⟨eM de.cd t+a.cd,eM de.dg t+a.dg,eM de.du t+a.du⟩:=by
    unfold fX dY;rw[if_pos ht,t1,t2,t3,dF (by omega) (by omega),dF (by omega) (by omega),dF (by omega) (by omega)]
  have hok:dT (dY (fX t) a)=true:=by
    rw[hsum];exact eN.2 ⟨by dsimp only;omega,by dsimp only;omega,by dsimp only;omega⟩
  have hi:0<=(if ei t f then f else 0)/\(if ei t f then f else 0)<=4/\(nth t (if ei t f then f else 0)).Rq=true:=by
    split
    · rename_i q;have:=hO q;unfold ei at q;simp only[RD]at q;exact⟨this.1,this.2,q.2⟩
    · exact⟨Int.le_refl _,by decide,hT.pM⟩
  unfold jJ;rw[if_pos (by rw[ht,ha,hok];rfl)];simp only;generalize (if ei t f then f else 0)=i at *;obtain⟨i0,i4,hv⟩:=hi;have hl:=hT.len;have hm:=gJ (l:=t) i0 (by omega);have hb:=eN.1 (hT.dQ _ hm)
  have e:dY (nth t i).dQ a=⟨(nth t i).dQ.cd+a.cd,(nth t i).dQ.dg+a.dg,(nth t i).dQ.du+a.du⟩:=by
    unfold dY;rw[dF (by omega) (by omega),dF (by omega) (by omega),dF (by omega) (by omega)]
  obtain⟨_,q⟩:=rf t ⟨0,0,0⟩ 0 hT.dQ (by omega) (by omega) ⟨by decide,by decide⟩ ⟨by decide,by decide⟩ ⟨by decide,by decide⟩;obtain⟨q1,q2,q3⟩:=q _ hm hv;rw[t1]at q1;rw[t2]at q2;rw[t3]at q3;rw[e];obtain⟨w1,w2⟩:=hT.set i0 i4 hv (b:=⟨(nth t i).dQ.cd+a.cd,(nth t i).dQ.dg+a.dg,(nth t i).dQ.du+a.du⟩) (eN.2 ⟨by dsimp only;omega,by dsimp only;omega,by dsimp only;omega⟩) (eN.2 ⟨by dsimp only;omega,by dsimp only;omega,by dsimp only;omega⟩);refine⟨trivial,w1,?_,?_,?_⟩
  · rw[w2];dsimp only;omega
  · rw[w2];dsimp only;omega
  · rw[w2];dsimp only;omega
def sp(p:bh):de:=⟨eM de.cd p.Re+iA p.heap.ag+p.db.cd,eM de.dg p.Re+p.db.dg,eM de.du p.Re+p.db.du⟩
theorem zs{p:bh}(h:dI p=true):ig p=sp p/\((0<=(sp p).cd/\(sp p).cd<=2000080)/\(0<=(sp p).dg/\(sp p).dg<=2000000)/\(0<=(sp p).du/\(sp p).du<=2000000))/\0<=eM de.cd p.Re/\0<=eM de.dg p.Re/\0<=eM de.du p.Re:=by
  have hT:=fI.1 (jB h);obtain⟨t1,t2,t3⟩:=hT.eM;have hS:=eN.1 hT.sum;rw[t1,t2,t3]at hS;have hsp:=uu (mF h);obtain⟨g1,g2,g3⟩:=DD (fe h)
  have hts:fX p.Re=⟨eM de.cd p.Re,eM de.dg p.Re,eM de.du p.Re⟩:=by
    unfold fX;rw[if_pos (jB h), <- t1, <- t2, <- t3]
  unfold ig;rw[mF h,g1,hts];simp only[if_true];unfold dY sp;dsimp only;rw[dF (n:=eM de.cd p.Re+iA p.heap.ag) (by omega) (by omega),dF (by omega) (by omega),dF (by omega) (by omega),dF (by omega) (by omega)];exact⟨rfl,⟨by omega,by omega,by omega⟩,by omega,by omega,by omega⟩
structure Ck (S R C:Int) (c:wa):Prop where
  tr:Tr c.Re
  hp:Hk c.heap
  pg:eM de.cd c.Re+iA c.heap.ag=S
  rt:eM de.dg c.Re=R
  cp:eM de.du c.Re=C
  w:wA c.heap.ag
theorem Ck.step{S R C:Int}{c:wa}(h:Ck S R C c)(hS:S<=1000000)(now:Int):Ck S R C (lG now c):=by
  have hq:=h.hp.step now;have hg:=L5 h.hp now;obtain⟨t1,t2,t3⟩:=h.tr.eM;have hSm:=eN.1 h.tr.sum;rw[t1,t2,t3]at hSm;have h1:=h.pg;have h2:=h.rt;have h3:=h.cp;obtain⟨_,hw,_,hr⟩:=va h.w now;unfold lG;cases hd:decide ((fy c.heap now).2>=0)
  · rw[hd]at hg;simp only[Bool.false_eq_true,if_false]at hg⊢;exact⟨h.tr,hq,by dsimp only;omega,h2,h3,hw⟩
  · rw[hd]at hg;simp only[if_true]at hg⊢;obtain⟨_,d0,d9⟩:=hr hd;have hpr:=CG (h.hp.ar.ok _ (h.hp.ar.at d0 d9).2);have hp':0<=iA (fy c.heap now).1.ag:=(DD (p:=⟨⟨[]⟩,[],[],(fy c.heap now).1,[],0,0,⟨0,0,0⟩,0,0⟩) hq.ar).2.1;obtain⟨_,b1,b2,b3,b4⟩:=x6 h.tr (nth c.heap.ag (fy c.heap now).2).Rt (a:=⟨(nth c.heap.ag (fy c.heap now).2).cd,0,0⟩) (eN.2 ⟨by dsimp only;omega,show(0:Int)<=0/\(0:Int)<=1000000 by decide,show(0:Int)<=0/\(0:Int)<=1000000 by decide⟩) (by dsimp only;omega) (by dsimp only;omega) (by dsimp only;omega);exact⟨b1,hq,by dsimp only at *;omega,by dsimp only at *;omega,by dsimp only at *;omega,hw⟩
theorem Ck.steps{S R C:Int}(hS:S<=1000000){now:Int}:∀(k:Nat) (c:wa),Ck S R C c->Ck S R C (vA now k c)
  | 0,c,h=>h
  | k+1,c,h=>Ck.steps hS k _ (h.step hS now)
theorem yj{p:bh}(h:dI p=true)(hw:wP p)(hs:(sp p).cd<=1000000)(now steps:Int):dI (gH p now steps).1=true/\sp (gH p now steps).1=sp p:=by
  unfold gH;split
  · have hh:Hk p.heap:=gG.1 (by
      unfold dI at h;simp only[RD]at h
      exact h.2.2.2.1)
    have hsp:=uu (mF h);have c0:Ck (eM de.cd p.Re+iA p.heap.ag) (eM de.dg p.Re) (eM de.du p.Re) ⟨0,p.Re,p.heap⟩:=⟨fI.1 (jB h),hh,rfl,rfl,rfl,hw⟩;have c1:=Ck.steps (by unfold sp at hs;dsimp only at hs;omega) (now:=now) steps.toNat _ c0;refine⟨?_,?_⟩
    · unfold dI at h⊢;simp only[RD]at h⊢;exact⟨h.1,h.2.1,fI.2 c1.tr,gG.2 c1.hp,h.2.2.2.2⟩
    · have a:=c1.pg;have b:=c1.rt;have d:=c1.cp;unfold sp;dsimp only;rw[a,b,d]
  · exact⟨h,rfl⟩
end Go.Kx
