import Derived.Test.YtfmfgnhbgcjajaaGreatLTickOk
namespace Go.Kx
open Go
set_option linter.unusedVariables false
set_option linter.unusedSimpArgs false
set_option maxRecDepth 10000
theorem Pl.t{k:Nat}{t:dq×List dD}(h:Pl 200 k t)(hk:k<200):Wt t.1:=h.sg.t (by omega)
theorem G7{b:List er}(h:iT b=true):Pl 200 0 (fI b,([]:List dD)):=⟨by simpa using Np h,rfl⟩
theorem Bf{b:List er}{l:List dY}(h:(!iT b || decide ((l.length:Int)>200))=false):iT b=true/\l.length<=200:=by
  simp only[Bool.or_eq_false_iff,Bool.not_eq_false',decide_eq_false_iff_not]at h;exact⟨h.1,by omega⟩
theorem Kq{N:Nat}(hN:dg+1<=N){b:List er}{l:List dY}(hb:eQ fB b<dg):ui N b l=some (jj b l):=by
  have hN':dg<=N:=Nat.le_of_succ_le hN;have hB:(16777216:Nat)=dg:=rfl;unfold ui jj;simp only[FJ hN' hb,RB,gX];cases h:!iT b || decide ((l.length:Int)>200)
  case true=>rfl
  obtain⟨ok,hl⟩:=Bf h;simp only[RC,Jl hN hb,RB];refine Eq.trans (congrArg (fun o=>Option.bind o _) (gC l (fun k (t:dq×List dD)=>(t.2,(k:Int),t.1.Rn,t.1.parts)) (fun _ t e=>kY t e) (fun t=>(t.2,(l.length:Int),t.1.Rn,t.1.parts)) (Pl 200) ?_ ?_ (show l.length<N by omega) (t:=(fI b,[])) (G7 ok))) (by rw[HP];rfl)
  · intro k t e hy hk hI;refine⟨?_,hI.step (by decide) (by omega) e⟩;have h2:=hI.len;simp only[eD hk,RD,dQ,hy,RB,show dq.mk t.1.Rn t.1.parts=t.1 from rfl,Px hN (hI.t (by omega)),Ez (t:=t.2) (by omega),eL (show k<dg by omega)];rfl
  · intro t _;simp only[eE,RC]
theorem zw{l:List dY}:∀(m:List dY) (k:Nat) (t:dq×List dD),k+m.length<=200->Pl 200 k t->Pl 200 (k+m.length) (m.foldl kY t)
  | [],k,t,_,h=>h
  | e::m,k,t,hk,h=>by
    simp only[List.length_cons]at hk⊢;have:=zw (l:=l) m (k+1) (kY t e) (by omega) (h.step (by decide) (by omega) e)
    rwa[show k+(m.length+1)=k+1+m.length by omega]
theorem He(b:List er)(l:List dY):Sg 780200 (jj b l).1/\(jj b l).2.length<=l.length:=by
  unfold jj;cases h:!iT b || decide ((l.length:Int)>200)
  · obtain⟨ok,hl⟩:=Bf h;have:=zw (l:=l) l 0 (fI b,[]) (by omega) (G7 ok);rw[Nat.zero_add]at this;exact⟨this.sg.mono (by omega),Nat.le_of_eq this.len⟩
  · exact⟨⟨Nat.zero_le _,fun p hp=>by simp at hp⟩,Nat.zero_le _⟩
theorem Ir:fW nP=true:=by decide +kernel
theorem Iy{b:er}(h:tz b=true):dJ (lQ b)=true:=by
  unfold tz at h;simp only[RG]at h;obtain⟨h1,h2,h3⟩:=h;unfold dJ
  show(fv b.Rg&&(jh b.own&&(fH (lO b.fG)&&(fW nP&&(!decide (((([]:List ez)).length:Int)>3)&&(([]:List ez).all ig&&nZ (lQ b)))))))=true
  rw[h2,h3,xU,h1,Ir];rfl
theorem LP:Et nP 0=true:=by decide +kernel
theorem LV(b:er):held (lQ b)=0:=by
  show((nP.ag.take 10).filter eG).foldl (fun n o=>IntKind.i64.wrap (n+o.c6)) 0=0
  decide +kernel
theorem Nq{b:er}(h:tz b=true):iu (lQ b)=b.fG:=by
  have h1:dT b.fG=true:=by
    unfold tz at h;simp only[RG]at h;exact h.1
  have h2:=DS h1;unfold iu;rw[LV]
  have ht:fV (lQ b).Rh=b.fG:=by
    unfold fV;rw[show(lQ b).Rh=lO b.fG from rfl,xU,h1,if_pos rfl]
    show dX ⟨0,0,0⟩ b.fG=b.fG
    exact h2
  rw[ht,show(lQ b).db=⟨0,0,0⟩ from rfl,if_pos (by decide)];unfold dT uW at h1;simp only[RG,dI]at h1;unfold dX;simp only[Int.add_zero];rw[dE (n:=b.fG.c6) (by omega) (by omega),dE (n:=b.fG.c6) (by omega) (by omega),dE (by omega) (by omega),dE (by omega) (by omega)]
theorem EH:∀(l:List er) (a:de),(∀x,x∈l->tz x=true)->lZ a (iM l)=l.foldl (fun a b=>dX a b.fG) a
  | [],a,_=>rfl
  | x::l,a,h=>by
    have e:(lS x).1=lQ x:=by unfold lS;rw[if_pos (h x (by simp))]
    show lZ (dX a (iu (lS x).1)) (iM l)=_
    rw[e,Nq (h x (by simp)),EH l _ fun y hy=>h y (by simp[hy])];rfl
theorem CS:∀(l:List er) (a:de),dT a=true->nQ a l=true->dT (l.foldl (fun a b=>(gn a b.fG).1) a)=true
  | [],a,h,_=>h
  | x::l,a,_,h=>by
    unfold nQ at h;simp only[RG]at h;exact CS l _ (Ll h.1).2.1 h.2.2.2
theorem OS{b:List er}(h:iT b=true):(Wk (fI b)/\iD (fI b).parts=sG b/\(fI b).parts.length=b.length/\(fI b).Rn=0)/\∀p,p∈(fI b).parts->∃x,tz x=true/\p=lQ x:=by
  have h':=h;unfold iT at h';rw[RG,dI]at h';have hk:=yV b _ h'.1
  have hl:(iM b).length=b.length:=by unfold iM;rw[List.length_map]
  have hp:∀p,p∈iM b->∃x,tz x=true/\p=lQ x:=fun p hp=>by
    obtain⟨x,hx,rfl⟩:=List.mem_map.1 (show p∈b.map _ from hp);exact⟨x,hk x hx,by unfold lS;rw[if_pos (hk x hx)]⟩
  have hok:∀p,p∈iM b->dJ p=true:=fun p q=>by
    obtain⟨x,hx,rfl⟩:=hp p q;exact Iy hx
  have hs:lZ ⟨0,0,0⟩ (iM b)=sG b:=by
    rw[EH b _ hk];unfold sG;rw[if_pos h]
  have ha:dT (sG b)=true:=by
    unfold sG;rw[if_pos h, <- Ai b _ h'.1];exact CS b _ (by decide) h'.1
  have e:iD (iM b)=sG b:=by rw[<- Ef hok (by omega),hs]
  have ew:fI b=⟨0,iM b⟩:=by unfold fI;rw[if_pos h]
  rw[ew];exact⟨⟨⟨⟨by dsimp only;omega,by dsimp only;omega⟩,⟨by show 1<=(iM b).length;omega,by show(iM b).length<=3;omega⟩,hok,by show dT (iD (iM b))=true;rw[e];exact ha⟩,e,hl,rfl⟩,hp⟩
theorem Pf{b:List er}(h:iT b=true):Tp (sG b) b.length (fI b)/\(fI b).Rn=0/\∀p,0<=p->p<((fI b).parts.length:Int)->Sf (nth (fI b).parts p).heap 0:=by
  obtain⟨⟨a,c,d,e⟩,hp⟩:=OS h;refine⟨⟨lB.2 a,c,d⟩,e,fun p p0 p1=>?_⟩;obtain⟨x,hx,e'⟩:=hp _ (gy p0 p1);rw[e'];exact H8.1 LP
theorem Sf.rc{h:df}{now:Int}(s:Sf h now):Rec (fun _=>0) (fun _=>False) h now 0 :=
  ⟨s,⟨fun _ f=>f.elim,fun _ f=>f.elim,fun _ _ _ _ _ a=>a.1.elim⟩,.inl fun _ a=>a.1.elim⟩
theorem zs{S:de}{m:Nat}{g:Int->Int->Int}{D:Int->Int->Prop}:∀(l:List dY) (k n:Nat) (t:dq×List dD),k+l.length<=200->Pl 200 k t->Tp S m t.1->t.1.Rn+l.length<=1000000->Rw g D t.1 t.1.Rn n ->
    Tp S m (l.foldl kY t).1/\Rw g D (l.foldl kY t).1 (l.foldl kY t).1.Rn (n-3*(l.filter fun e=>e.so==1).length)/\(l.foldl kY t).1.Rn<=t.1.Rn+l.length/\t.1.Rn<=(l.foldl kY t).1.Rn
  | [],k,n,t,_,_,h,_,r=>⟨h,r,by simp,Int.le_refl _⟩
  | e::l,k,n,t,hl,hp,h,hn,r=>by
    simp only[List.length_cons]at hl hn;obtain⟨a,b,c,d1,d2⟩:=Nm h (hp.t (by omega)) r e
    have hm:t.1.Rn ≠ 1000000:=by omega
    rw[List.foldl_cons];have et:(kY t e).1=(mJ t.1 e).1:=rfl;have ps:=hp.step (by decide) (by omega) e;cases k1:e.so==1
    · have k1':e.so ≠ 1:=by simpa using k1
      rw[if_neg (fun q=>k1' q.1)]at b;obtain⟨x1,x2,x3,x4⟩:=zs l (k+1) n (kY t e) (by omega) ps a (by rw[et,b];omega) (d1 (.inl k1'));rw[List.filter_cons,k1];rw[et,b]at x3 x4;exact⟨x1,x2,by simp only[List.length_cons];omega,x4⟩
    · have k1':e.so=1:=by simpa using k1
      rw[if_pos ⟨k1',hm⟩]at b;obtain⟨x1,x2,x3,x4⟩:=zs l (k+1) (n-3) (kY t e) (by omega) ps a (by rw[et,b];omega) (d2 k1' hm);rw[List.filter_cons,k1];rw[et,b]at x3 x4;simp only[if_true,List.length_cons];refine⟨x1,?_,by omega,by omega⟩
      have:n-3-3*(l.filter fun e=>e.so==1).length=n-3*((l.filter fun e=>e.so==1).length+1):=by omega
      rw[<- this];exact x2
theorem Ce{b:List er}{l:List dY}(h:iT b=true)(hl:l.length<=200):Tp (sG b) b.length (jj b l).1/\(jj b l).2.length=l.length/\(0<=(jj b l).1.Rn/\(jj b l).1.Rn<=200)/\∀p,0<=p->p<((jj b l).1.parts.length:Int)->Sf (nth (jj b l).1.parts p).heap (jj b l).1.Rn:=by
  obtain⟨t,n0,s⟩:=Pf h
  have e:jj b l=l.foldl kY (fI b,[]):=by
    unfold jj Av;rw[h,decide_eq_false (by omega)];rfl
  have hp:=zw (l:=l) l 0 (fI b,[]) (by omega) (G7 h)
  obtain⟨a,r,c,d⟩:=zs (g:=fun _ _=>0) (D:=fun _ _=>False) l 0 0 (fI b,[]) (by omega) (G7 h) t (by show(fI b).Rn+_<=_;rw[n0];omega) fun p p0 p1=>by
    show Rec _ _ _ (fI b).Rn 0
    rw[n0];exact(s p p0 p1).rc
  rw[e];refine⟨a,by have:=hp.len;omega,?_,fun p p0 p1=>(r p p0 p1).sf⟩;have c:(l.foldl kY (fI b,[])).1.Rn<=(fI b).Rn+l.length:=c;have d:(fI b).Rn<=(l.foldl kY (fI b,[])).1.Rn:=d;rw[n0]at c d;omega
theorem WD.yes{α:Type}{o:Option Bool}{a b:Option α}{Q:α->Prop}(e:o=some true)(k:WD a Q):WD (o.bind fun y=>bif y then a else b) Q:=by rw[e];exact k
theorem WD.no{α:Type}{o:Option Bool}{a b:Option α}{Q:α->Prop}(e:o=some false)(k:WD b Q):WD (o.bind fun y=>bif y then a else b) Q:=by rw[e];exact k
theorem PQ{N:Nat}{x:List U8}(hx:Fit.fit x)(hl:x.length<=1048576){i:Int}(h0:0<=i)(h1:i<=100):WD (yf N x i) (fun r=>0<=r/\r<=255):=by
  unfold yf;refine WD.ite (fun c=>WD.bind (oo h0 (of_decide_eq_true c)) fun y hy=>WD.ret ?_) fun c=>WD.ret ?_
  · have h2:0<=y.v/\y.v<=255:=hx.2 y hy;rw[dE (by omega) (by omega)];exact h2
  · rw[dE (n:=i*37) (by omega) (by omega),dE (n:=(x.length:Int)*11) (by omega) (by omega),dE (by omega) (by omega)];have:=Aq (a:=i*37+(x.length:Int)*11) (n:=256) (by omega) (by decide);omega
theorem JV{w:dq}(hw:Wq w)(e:dY):(mJ w e).1.parts.length=w.parts.length:=by
  unfold Kx.mJ;cases e.so==1
  case true =>
    show(tick w).parts.length=_
    unfold Kx.tick;split
    · have key:∀(l:List bh) (k:Nat) (t:dq),(foldI (fun k t (_:bh)=>iP w.parts.length k t) k t l).parts.length=t.parts.length:=by
        intro l
        induction l with
        | nil=>intro k t;rfl
        | cons y l ih =>
          intro k t;unfold foldI;rw[ih]
          show((dC t (k:Int)).parts.set k _).length=_
          rw[List.length_set];exact(zh t _).2.1
      exact key _ _ _
    · rfl
  cases e.so==2
  case true =>
    show(ik w e.py e.dS e.call).1.parts.length=_
    rcases HH hw e.py e.dS e.call with q|⟨q,z,_,_,e2⟩
    · rw[q]
    · rw[e2];exact List.length_set
  cases e.so==3
  case false=>rfl
  show(uG w e).parts.length=_
  rcases B2 w e with q|⟨_,_,_,q⟩
  · rw[q]
  · rw[q];exact List.length_set
theorem ID{N:Nat}(hN:dg<=N){b:List U8}{i h:Int}(hb:b.length<=1048576)(hi:0<=i):WD (nR N ⟨b,i,h⟩) (fun r=>0<=r.2.i/\r.1.length<=4/\∀x,x∈r.1->fB x<=2000):=by
  unfold nR;dsimp only;refine WD.bind (DM hN hb hi) fun l ⟨l1,l2,l3,l4⟩=>WD.bind (im hb l1 16 (by decide)) fun k ⟨k1,_,_⟩=>?_;have l5:∀x,x∈l.1->fB x<=1000:=fun x hx=>(l4 x hx).sz
  have l6:∀(z:er),fB z<=2000->∀x,x∈l.1.set (0:Int).toNat z->fB x<=2000:=fun z hz x hx=>by
    rcases List.mem_or_eq_of_mem_set hx with q|rfl
    · exact Nat.le_trans (l5 x q) (by decide)
    · exact hz
  have l7:∀(z:er),(l.1.set (0:Int).toNat z).length<=4:=fun z=>by rw[List.length_set];omega
  refine WD.ite (fun _=>WD.ret ⟨k1,by simp,by simp⟩) fun _=>WD.ite (fun _=>?_) fun _=>WD.ite (fun _=>?_) fun _=>WD.ite (fun _=>?_) fun _=>WD.ite (fun _=>?_) fun _=>WD.ret ⟨k1,by dsimp only;omega,fun x hx=>Nat.le_trans (l5 x hx) (by decide)⟩
  · refine WD.bind (WD.loop (fun s=>0<=s.2.1/\s.1.length<=4/\∀x,x∈s.1->fB x<=2000) (fun r=>0<=r.2.1/\r.1.length<=4/\∀x,x∈r.1->fB x<=2000) (fun s=>4-s.1.length) ⟨k1,by dsimp only;omega,fun x hx=>Nat.le_trans (l5 x hx) (by decide)⟩ (AE hN (by dsimp only;omega)) ?_) fun r hr=>WD.ret ⟨hr.1,hr.2.1,hr.2.2⟩;rintro⟨s,i,h⟩ ⟨s1,s2,s3⟩;dsimp only at *;refine WD.ite (fun c=>?_) fun _=>WD.inr ⟨s1,s2,s3⟩;have c:=of_decide_eq_true c;refine WD.bind (G6 hN hb s1) fun q ⟨q1,q2,q3,_⟩=>WD.step (wZ (by omega)) (WD.inl ⟨q1,by simp only[List.length_append,List.length_cons,List.length_nil];omega,fun x hx=>?_⟩ (by simp only[List.length_append,List.length_cons,List.length_nil];omega))
    rcases List.mem_append.1 hx with q|q
    · exact s3 x q
    · rw[List.mem_singleton]at q;rw[q];exact Nat.le_trans q3 (by decide)
  · refine WD.bind (F8 hN hb k1) fun u ⟨u1,u2⟩=>WD.bind (oo (by decide) (by omega)) fun z hz=>WD.ret ⟨u1,l7 _,l6 _ ?_⟩;have:=l5 z hz;unfold fB jz at *;dsimp only at *;omega
  · refine WD.bind (JS hb k1) fun u u1=>WD.bind (oo (by decide) (by omega)) fun z hz=>WD.step rfl (WD.ret ⟨u1,l7 _,l6 _ ?_⟩);have:=l5 z hz;unfold fB jz at *;dsimp only at *;omega
  · refine WD.bind (O0 hN hb k1) fun u ⟨u1,u2⟩=>WD.bind (oo (by decide) (by omega)) fun z hz=>WD.ret ⟨u1,l7 _,l6 _ ?_⟩;have:=l5 z hz;unfold fB jz at *;dsimp only at *;omega
theorem Mi{N:Nat}(hN:dg<=N){b:List U8}{i h:Int}(hb:b.length<=1048576)(hi:0<=i){w:dq}(hw:Wq w)(hA:∀q,q∈w.parts->q.heap.ag.length<=1000000)(hn:0<w.parts.length):WD (qj N ⟨b,i,h⟩ w) (fun r=>0<=r.2.i):=by
  unfold qj;dsimp only;refine WD.bind (im hb hi _ (by omega)) fun p ⟨p1,p2,p3⟩=>WD.bind (im hb p1 10 (by decide)) fun k ⟨k1,_,_⟩=>WD.ite (fun _=>WD.ret k1) fun _=>?_;refine WD.bind (P:=fun(j:Bool×Int×Int)=>0<=j.2.1) (WD.ite (fun _=>WD.bind (m4 hb k1 2) fun y y1=>WD.ret y1) fun _=>WD.ret k1) fun j j1=>WD.ite (fun _=>WD.bind (im hb j1 10 (by decide)) fun y ⟨y1,_,_⟩=>WD.ret y1) fun _=>?_;refine WD.bind (oo p2 p3) fun q hq=>WD.bind (Oe hN hb j1 (hA q hq) _) fun x x1=>WD.bind (im hb x1 _ (by omega)) fun z ⟨z1,z2,z3⟩=>?_;refine WD.bind (P:=fun(j:Bool×Int×Int)=>0<=j.2.1) (WD.ite (fun _=>WD.bind (m4 hb z1 2) fun y y1=>WD.ret y1) fun _=>WD.ret z1) fun j j1=>?_;refine WD.bind (P:=fun(j:Int×Int×Int)=>0<=j.1) (WD.ite (fun _=>WD.bind (oo z2 z3) fun u hu=>WD.bind (I9 hN hb j1 (hA u hu) _ _) fun v v1=>WD.ret v1) fun _=>WD.ret j1) fun j j1=>?_;refine WD.bind (P:=fun(j:Int×Int×Int)=>0<=j.1) (WD.ite (fun _=>WD.bind (oo z2 z3) fun u hu=>WD.bind (I9 hN hb j1 (hA u hu) _ _) fun v v1=>WD.ret v1) fun _=>WD.ret j1) fun j j1=>?_;refine WD.bind (m4 hb j1 4) fun y y1=>WD.bind (P:=fun(j:Int×Int×Int)=>0<=j.2.1) (WD.ite (fun _=>WD.step (wo hN (fN hw.lU hq) (hw.w q hq) _) (WD.ite (fun c=>?_) fun _=>WD.ret y1)) fun _=>WD.ret y1) fun j j1=>WD.ret j1;have c:=of_decide_eq_true c;exact WD.bind (im hb y1 _ c) fun u ⟨u1,u2,u3⟩=>WD.bind (oo u2 u3) fun v _=>WD.ret u1
theorem Jd{N:Nat}(hN:dg<=N){b:List U8}{i h:Int}(hb:b.length<=1048576)(hi:0<=i){l:List er}(hl:eQ fB l<=1048576){m:Int}(m0:0<=m)(m9:m<=80):WD (n7 N ⟨b,i,h⟩ l m) (fun r=>0<=r.2.i/\r.1.length<=80):=by
  unfold n7;dsimp only;refine WD.step (Ia hN hl) (WD.ite (fun _=>WD.ret ⟨hi,by simp⟩) fun c=>?_)
  have c:((fI l).parts.length:Int) ≠ 0:=by simpa using c
  have hok:iT l=true:=by
    cases q:iT l
    · exfalso
      unfold fI at c;rw[q]at c;exact c rfl
    · rfl
  rw[dE (n:=m+1) (by omega) (by omega)];refine WD.bind (im hb hi _ (by omega)) fun k ⟨k1,k2,k3⟩=>?_;refine WD.bind (WD.loop (fun s=>0<=s.2.1/\(s.1.length:Int)+s.2.1=k.1/\0<=s.2.2.1/\(∃r,Pl 200 s.1.length (dq.mk s.2.2.2.2.1 s.2.2.2.2.2,r))/\0<s.2.2.2.2.2.length) (fun r=>r.1.length<=80/\0<=r.2.2.1) (fun s=>s.2.1.toNat) ⟨k2,by simp,k1,⟨[],G7 hok⟩,by dsimp only;omega⟩ (AE hN (by dsimp only;omega)) ?_) fun r hr=>WD.ret ⟨hr.2,hr.1⟩;rintro⟨s,n,i,h,now,ps⟩ ⟨s1,s2,s3,⟨r,s4⟩,s5⟩;dsimp only at *;refine WD.ite (fun c=>?_) fun c=>WD.inr ⟨by dsimp only;omega,s3⟩;have c:=of_decide_eq_true c;have ht:=s4.t (by omega)
  have hA:∀q,q∈ps->q.heap.ag.length<=1000000:=fun q hq=>by
    have h1:=(s4.sg.sz q hq).1;unfold dH mH eQ at h1;omega
  refine WD.bind (Mi hN hb s3 ht.q hA s5) fun e e1=>WD.step (Pj hN ht e.1) (WD.step (wZ (by omega)) ?_);rw[dE (n:=n-1) (by omega) (by omega)];have pn:=s4.step (by decide) (by omega) e.1;refine WD.inl ⟨by dsimp only;omega,by simp only[List.length_append,List.length_cons,List.length_nil];omega,e1,⟨r++[(mJ (dq.mk now ps) e.1).2],?_⟩,?_⟩ (by dsimp only;omega)
  · rw[show(s++[e.1]).length=s.length+1 from by simp];exact pn
  · show 0<(mJ _ e.1).1.parts.length
    rw[JV ht.q];exact s5
theorem OL{N:Nat}(hN:dg<=N){b:List U8}{i h:Int}(hb:b.length<=1048576)(hi:0<=i){m:Int}(m0:0<=m)(m9:m<=80):WD (tq N ⟨b,i,h⟩ m) (fun r=>0<=r.2.2.i/\eQ fB r.1<=1048576/\r.2.1.length<=201):=by
  unfold tq;dsimp only;refine WD.bind (DM hN hb hi) fun l ⟨l1,l2,l3,l4⟩=>WD.bind (m4 hb l1 20) fun y y1=>?_;refine WD.bind (P:=fun(j:(List er)×Int×Int)=>0<=j.2.1/\eQ fB j.1<=1048576) (WD.ite (fun _=>WD.bind (ID hN hb y1) fun z ⟨z1,z2,z3⟩=>WD.ret ⟨z1,?_⟩) fun _=>WD.ret ⟨y1,?_⟩) fun j ⟨j1,j2⟩=>?_
  · have:=vx (f:=fB) (c:=2000) z3;unfold eQ;dsimp only at *;omega
  · have:=vx (f:=fB) (c:=1000) fun y hy=>(l4 y hy).sz;unfold eQ;dsimp only at *;omega
  refine WD.bind (Jd hN hb j1 j2 m0 m9) fun e ⟨e1,e2⟩=>WD.bind (im hb e1 20 (by decide)) fun k ⟨k1,_,_⟩=>WD.ite (fun _=>?_) fun _=>WD.ite (fun _=>?_) fun _=>WD.ret ⟨k1,j2,by dsimp only;omega⟩
  · refine WD.bind (zB hb k1 (by decide)) fun u ⟨u1,_⟩=>WD.step (a:=e.1++[dY.mk u.1 1 0 (dG.mk 0 0 0 0 0 0),dY.mk 2 3 0 (dG.mk 0 0 0 0 0 0),dY.mk 3 (-1) 0 (dG.mk 0 0 0 0 0 0),dY.mk 3 0 10 (dG.mk 0 0 0 0 0 0)]) ?_ (WD.ret ⟨u1,j2,by simp only[List.length_append,List.length_cons,List.length_nil];omega⟩);have:(16777216:Nat)=dg:=rfl;unfold app;rw[if_pos (by simp only[List.length_cons,List.length_nil];omega)]
  · refine WD.bind (WD.loop (fun s=>0<=s.2.1/\s.1.length<=201) (fun r=>0<=r.2.1/\r.1.length<=201) (fun s=>201-s.1.length) ⟨k1,by dsimp only;omega⟩ (AE hN (by dsimp only;omega)) ?_) fun r hr=>WD.ret ⟨hr.1,j2,hr.2⟩;rintro⟨s,i,h⟩ ⟨s1,s2⟩;dsimp only at *;refine WD.bind (im hb s1 2 (by decide)) fun u ⟨u1,u2,u3⟩=>?_;rw[dE (n:=200+u.1) (by omega) (by omega)];refine WD.ite (fun c=>?_) fun _=>WD.inr ⟨u1,s2⟩;have c:=of_decide_eq_true c;exact WD.step (wZ (by omega)) (WD.inl ⟨u1,by simp only[List.length_append,List.length_cons,List.length_nil];omega⟩ (by simp only[List.length_append,List.length_cons,List.length_nil];omega))
theorem GB{N:Nat}(hN:dg<=N){l:List U8}(hl:l.length<=1048576):WD (qc N l) (fun r=>eQ fB r.1<=1048576/\r.2.length<=201):=by
  unfold qc;refine WD.bind (OW hN hl) fun c c1=>WD.bind (P:=fun r=>0<=r/\r<=60) ?_ fun k ⟨k0,k9⟩=>?_
  · unfold vn;have e:Int.tdiv (l.length:Int) 20=(l.length:Int) / 20:=Int.tdiv_eq_ediv_of_nonneg (by omega);rw[e,dE (n:=(l.length:Int) / 20) (by omega) (by omega),dE (by omega) (by omega)];exact WD.ite (fun _=>WD.ret (by decide)) fun c=>WD.ret (by have:=of_decide_eq_false c;omega)
  · rw[dE (n:=20+k) (by omega) (by omega)];exact WD.bind (OL hN hl c1 (by omega) (by omega)) fun r ⟨_,r2,r3⟩=>WD.ret ⟨r2,r3⟩
theorem Gr{p i g:Int}(p0:0<=p)(p2:p<=2)(i0:0<=i)(i9:i<=9)(g0:0<=g)(g9:g<=999):kP (ga p i g)=true/\iU (ga p i g)=p/\kD (ga p i g)=i/\sB (ga p i g)=g:=by
  have e:ga p i g=(g*10+i)*3+p:=by
    unfold ga;rw[dI.2 ⟨p0,p2⟩,dI.2 ⟨i0,i9⟩,dI.2 ⟨g0,g9⟩,Bool.and_self,Bool.and_self,if_pos rfl,dE (n:=g*10) (by omega) (by omega),dE (n:=g*10+i) (by omega) (by omega),dE (n:=(g*10+i)*3) (by omega) (by omega),dE (by omega) (by omega)]
  have h:kP (ga p i g)=true:=xu.2 (by rw[e];omega);unfold iU kD sB;rw[h,if_pos rfl,if_pos rfl,if_pos rfl,e];exact⟨rfl,by omega,by omega,by omega⟩
theorem Nz{l:List cd}(ar:Ar l){k:Int}(k0:0<=k)(k9:k<=9):0<=(nth l k).Rt/\(nth l k).Rt<=999:=by
  have h:=ar.ok _ (ar.at k0 k9).2;unfold eG at h;rw[RG,dI]at h;exact h.1
theorem Ey{w:dq}{h:Int}(q:h∈oW w):∃(p:Nat) (i:Int),p<w.parts.length/\(1<=i/\i<=9)/\¬ Reaches (nth w.parts p).heap.ag w.Rn i/\(nth (nth w.parts p).heap.ag i).so ≠ 0/\h=ga p i (nth (nth w.parts p).heap.ag i).Rt:=by
  unfold oW at q;split at q
  · have key:∀(l:List bh) (k:Nat) (acc:List Int),h∈foldI (fun k acc p=>acc++qt w.Rn k p) k acc l->h∈acc\/∃(j:Nat) (p:bh),l[j]?=some p/\h∈qt w.Rn (k+j) p:=by
      intro l
      induction l with
      | nil=>intro k acc q;exact .inl q
      | cons y l ih =>
        intro k acc q;unfold foldI at q
        rcases ih _ _ q with a|⟨j,p,a,b⟩
        · rcases List.mem_append.1 a with a|a
          · exact .inl a
          · exact .inr ⟨0,y,rfl,a⟩
        · exact .inr ⟨j+1,p,a,by rw[show k+(j+1)=k+1+j by omega];exact b⟩
    rcases key _ _ _ q with a|⟨j,p,a,b⟩
    · simp at a
    · rw[Nat.zero_add]at b;have hj:=eA a
      have e:nth w.parts (j:Int)=p:=by
        have:=fO (l:=w.parts) (i:=(j:Int)) (by omega) (by omega);rw[Int.toNat_natCast,a]at this;exact(Option.some.inj this).symm
      obtain⟨i,hi,rfl⟩:=List.mem_map.1 b;obtain⟨ar,i0,i9⟩:=zW hi;unfold lN at hi;obtain⟨x,c,h1,h2,h3⟩:=ot.1 hi;rw[Nat.zero_add]at h2 h3;have h3:i=(x:Int):=h3;subst h3;unfold AV at h2;rw[RG]at h2
      have hr:¬ Reaches p.heap.ag w.Rn (x:Int):=fun r=>by
        have:=((vG ar w.Rn).2 x).2 r;rw[h1]at this;cases this;simp at h2
      refine⟨j,x,hj,⟨?_,i9⟩,by rw[e];exact hr,by rw[e];simpa using h2.2,by rw[e]⟩
      by_cases z:x=0
      · subst z;exact absurd Reaches.root hr
      · omega
  · simp at q
theorem Jm(l m:List dY):mB (l++m)=mB l+mB m:=by unfold mB;rw[List.filter_append,List.length_append]
theorem Jq(j:Nat):mB (List.replicate j (dY.mk 1 0 0 (dG.mk 0 0 0 0 0 0)))=j:=by
  unfold mB;rw[List.filter_replicate];simp
theorem Ch{b:List er}{l:List dY}(h:iT b=true)(hl:l.length<=200):jj b l=l.foldl kY (fI b,[]):=by
  unfold jj Av;rw[h,decide_eq_false (by omega)];rfl
theorem JB{b:List er}{l m:List dY}(ok:iT b=true)(hl:(l++m).length<=200)(ht:15<=mB m):
    ni (jj b (l++m)).1 (oW (jj b l).1)=[]/\ni (jj b l).1 (oW (jj b l).1)=oW (jj b l).1:=by
  have hl':=hl;rw[List.length_append]at hl';obtain⟨t2,n2,m2,s2⟩:=Ce (l:=l) ok (by omega);obtain⟨t1,n1,m1,s1⟩:=Ce (l:=l++m) ok hl
  have hs:jj b (l++m)=m.foldl kY (jj b l):=by rw[Ch ok hl,Ch ok (by omega),List.foldl_append]
  have pk:Pl 200 l.length (jj b l):=by
    rw[Ch ok (by omega)];have:=zw (l:=l) l 0 (fI b,[]) (by omega) (G7 ok)
    rwa[Nat.zero_add]at this
  have hk:=lB.1 t2.ok;have hk1:=lB.1 t1.ok
  have rw0:Rw (fun p i=>(nth (nth (jj b l).1.parts p).heap.ag i).Rt) (fun p i=>(1<=i/\i<=9)/\¬ Reaches (nth (jj b l).1.parts p).heap.ag (jj b l).1.Rn i) (jj b l).1 (jj b l).1.Rn 42 :=
    fun p p0 p1=>Rec.start (s2 p p0 p1) (Nd (eX (hk.ok _ (gy p0 p1))) (jj b l).1.Rn)
  obtain⟨_,r,_,_⟩:=zs m l.length 42 (jj b l) (by omega) pk t2 (by omega) rw0;rw[<- hs]at r
  have hn:42-3*(m.filter fun e=>e.so==1).length=0:=by unfold mB at ht;omega
  rw[hn]at r;have hlen1:=t1.len;have hlen2:=t2.len;generalize (jj b (l++m)).1=x at *;generalize (jj b l).1=w at *
  have back:∀(p:Nat) (i:Int),p<w.parts.length->(1<=i/\i<=9)->kP (ga p i (nth (nth w.parts p).heap.ag i).Rt)=true/\iU (ga p i (nth (nth w.parts p).heap.ag i).Rt)=p/\kD (ga p i (nth (nth w.parts p).heap.ag i).Rt)=i/\sB (ga p i (nth (nth w.parts p).heap.ag i).Rt)=(nth (nth w.parts p).heap.ag i).Rt:=fun p i hp hi=>by
    have ar:=eX (hk.ok _ (gy (l:=w.parts) (i:=(p:Int)) (by omega) (by omega)));obtain⟨g0,g9⟩:=Nz ar (k:=i) (by omega) (by omega);have h3:=hk.len;exact Gr (by omega) (by omega) (by omega) (by omega) g0 g9
  constructor
  · unfold ni;split
    · rw[List.filter_eq_nil_iff];intro h hh q;obtain⟨p,i,hp,hi,hr,hkd,rfl⟩:=Ey hh;obtain⟨h1,h2,h3,h4⟩:=back p i hp hi;unfold vP si at q;rw[h2,h3,h4]at q;simp only[RG,bne_iff_ne,beq_iff_eq]at q;exact(r p (by omega) (by omega)).done i ⟨⟨hi,hr⟩,q.2.1,q.2.2⟩
    · rfl
  · unfold ni;rw[if_pos t2.ok,List.filter_eq_self];intro h hh;obtain⟨p,i,hp,hi,hr,hkd,rfl⟩:=Ey hh;obtain⟨h1,h2,h3,h4⟩:=back p i hp hi;unfold vP si eJ;rw[h2,h3,h4];simp only[RG,bne_iff_ne,beq_iff_eq,dI];exact⟨by omega,hkd,trivial⟩
theorem Q4(N:Nat):rH N 3=some 15:=by
  unfold rH;rw[jK];rfl
theorem Di{x:List U8}(hx:Fit.fit x):∃N,ns N x=some true:=by
  obtain⟨N,hN1⟩:∃N,dg+1<=N:=⟨dg+1,Nat.le_refl _⟩;have hN:dg<=N:=Nat.le_of_succ_le hN1
  suffices h:WD (ns N x) (fun r=>r=true) by
    obtain⟨_,e,rfl⟩:=h;exact⟨N,e⟩
  unfold ns zu;refine WD.step rfl (WD.ite (fun _=>WD.ret rfl) fun c=>?_)
  have hl:x.length<=1048576:=by have:=of_decide_eq_false c;omega
  refine WD.bind (GB hN hl) fun d ⟨d1,d2⟩=>?_;obtain⟨b,l⟩:=d;dsimp only at *;have hB:(16777216:Nat)=dg:=rfl
  have hb:eQ fB b<dg:=by omega
  refine WD.bind (P:=fun j=>j=false->iT b=true/\l.length<=150) (WD.step (Es hN hb) (WD.ite (fun c=>WD.ret (by simp)) fun c=>WD.ret fun q=>⟨by simpa using c,by have:=of_decide_eq_false q;omega⟩)) fun j hj=>WD.ite (fun _=>WD.ret rfl) fun cj=>?_;obtain⟨ok,hl2⟩:=hj cj;refine WD.bind (PQ hx hl (by decide) (by decide)) fun y ⟨y1,y2⟩=>?_;have hk:0<=y*(l.length:Int)/\y*(l.length:Int)<=255*(l.length:Int):=⟨Int.mul_nonneg y1 (by omega),Int.mul_le_mul_of_nonneg_right y2 (by omega)⟩;rw[dE (n:=y*(l.length:Int)) (by omega) (by omega),Int.tdiv_eq_ediv_of_nonneg hk.1,dE (n:=y*(l.length:Int) / 255) (by omega) (by omega)];obtain⟨k,ek,hk2⟩:∃k:Nat,y*(l.length:Int) / 255=(k:Int)/\k<=l.length:=⟨(y*(l.length:Int) / 255).toNat,by omega,by omega⟩;rw[ek];refine WD.step (vC hk2) (WD.step (Kq hN1 hb) ?_);have z2:=(He b (l.take k)).1;refine WD.step (Mv hN (z2.lU (by decide)) fun p hp=>(z2.sz p hp).2) ?_;refine WD.step (show app ([]:List dY) l=some l from by unfold app;rw[if_pos (by simp;omega)];rfl) ?_;refine WD.bind (WD.loop (fun s=>∃j:Nat,s=l++List.replicate j (dY.mk 1 0 0 (dG.mk 0 0 0 0 0 0))/\j<=15) (fun r=>∃j:Nat,r=l++List.replicate j (dY.mk 1 0 0 (dG.mk 0 0 0 0 0 0))/\j<=15/\15<=mB (r.drop k)) (fun s=>200-s.length) ⟨0,by simp,by omega⟩ (AE hN (by omega)) ?_) fun m hm=>?_
  · rintro s ⟨j,rfl,hj⟩
    have hlen:(l++List.replicate j (dY.mk 1 0 0 (dG.mk 0 0 0 0 0 0))).length=l.length+j:=by simp
    have htk:j<=mB ((l++List.replicate j (dY.mk 1 0 0 (dG.mk 0 0 0 0 0 0))).drop k):=by
      rw[List.drop_append_of_le_length hk2,Jm,Jq];omega
    refine WD.step (At (k:=k) (by omega)) (WD.step (NH hN (by rw[List.length_drop];omega)) (WD.step (Q4 N) ?_));refine WD.ite (fun c=>?_) fun c=>WD.inr ⟨j,rfl,hj,by have:=of_decide_eq_false c;omega⟩;have c:=of_decide_eq_true c;exact WD.step (wZ (by omega)) (WD.inl ⟨j+1,by rw[List.replicate_succ',List.append_assoc],by omega⟩ (by simp only[List.length_append,List.length_cons,List.length_nil,List.length_replicate];omega))
  obtain⟨j,rfl,hj,ht⟩:=hm;refine WD.step (Kq hN1 hb) ?_
  have em:l++List.replicate j (dY.mk 1 0 0 (dG.mk 0 0 0 0 0 0))=l.take k++(l++List.replicate j (dY.mk 1 0 0 (dG.mk 0 0 0 0 0 0))).drop k:=by
    rw[List.drop_append_of_le_length hk2, <- List.append_assoc,List.take_append_drop]
  have lm:(l++List.replicate j (dY.mk 1 0 0 (dG.mk 0 0 0 0 0 0))).length<=165:=by simp;omega
  generalize (l++List.replicate j (dY.mk 1 0 0 (dG.mk 0 0 0 0 0 0))).drop k=m2 at *;rw[em];rw[em]at lm;obtain⟨e1,e2⟩:=JB (m:=m2) (l:=l.take k) ok (by omega) ht;obtain⟨t1,_,_,_⟩:=Ce (l:=l.take k++m2) ok (by omega);have z1:=(He b (l.take k++m2)).1;have b1:=z1.lU (by decide);have w1:wW (jj b (l.take k++m2)).1.parts:=fun p hp=>(z1.sz p hp).2;have dl:(oW (jj b (l.take k)).1).length<dg:=Nat.lt_of_le_of_lt (Ji _) (by decide);have t3:=t1.len
  refine WD.ite (fun _=>?_) fun q=>by simp[t3]at q
  refine WD.step ((zn hN b1 dl).trans (congrArg some e1)) (WD.ite (fun _=>?_) fun q=>absurd q (by decide));refine WD.step ((E3 hN b1 w1 dl).trans (congrArg some e1)) (WD.ite (fun _=>?_) fun q=>absurd q (by decide));exact WD.step ((zn hN (z2.lU (by decide)) dl).trans (congrArg some e2)) (WD.ret (by simp))
end Go.Kx
