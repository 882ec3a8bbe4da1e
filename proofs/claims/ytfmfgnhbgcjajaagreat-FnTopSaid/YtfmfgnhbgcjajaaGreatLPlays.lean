import Derived.Test.YtfmfgnhbgcjajaaGreatLTickOk
namespace Go.Kx
open Go
set_option linter.unusedVariables false
set_option linter.unusedSimpArgs false
set_option maxRecDepth 10000
theorem Pl.t{k:Nat}{t:dq×List dE}(h:Pl 200 k t)(hk:k<200):Wt t.1:=h.sg.t (by omega)
theorem Ju{b:List eh}(h:ia b=true):Pl 200 0 (fQ b,([]:List dE)):=⟨by simpa using N8 h,rfl⟩
theorem xu{b:List eh}{l:List eQ}(h:(!ia b || decide ((l.length:Int)>200))=false):ia b=true/\l.length<=200:=by
  simp only[Bool.or_eq_false_iff,Bool.not_eq_false',decide_eq_false_iff_not]at h;exact⟨h.1,by omega⟩
theorem Ky{N:Nat}(hN:dh+1<=N){b:List eh}{l:List eQ}(hb:eK fh b<dh):tZ N b l=some (mB b l):=by
  have hN':dh<=N:=Nat.le_of_succ_le hN;have hB:(16777216:Nat)=dh:=rfl;unfold tZ mB;simp only[xB hN' hb,Ry,gW];cases h:!ia b || decide ((l.length:Int)>200)
  case true=>rfl
  obtain⟨ok,hl⟩:=xu h;simp only[Rz,Ig hN hb,Ry];refine Eq.trans (congrArg (fun o=>Option.bind o _) (gy l (fun k (t:dq×List dE)=>(t.2,(k:Int),t.1.Rj,t.1.parts)) (fun _ t e=>lP t e) (fun t=>(t.2,(l.length:Int),t.1.Rj,t.1.parts)) (Pl 200) ?_ ?_ (show l.length<N by omega) (t:=(fQ b,[])) (Ju ok))) (by rw[HU];rfl)
  · intro k t e hy hk hI;refine⟨?_,hI.step (by decide) (by omega) e⟩;have h2:=hI.len;simp only[ey hk,RA,dN,hy,Ry,show dq.mk t.1.Rj t.1.parts=t.1 from rfl,OL hN (hI.t (by omega)),EP (t:=t.2) (by omega),eD (show k<dh by omega)];rfl
  · intro t _;simp only[er,Rz]
theorem BM{l:List eQ}:∀(m:List eQ) (k:Nat) (t:dq×List dE),k+m.length<=200->Pl 200 k t->Pl 200 (k+m.length) (m.foldl lP t)
  | [],k,t,_,h=>h
  | e::m,k,t,hk,h=>by
    simp only[List.length_cons]at hk⊢;have:=BM (l:=l) m (k+1) (lP t e) (by omega) (h.step (by decide) (by omega) e)
    rwa[show k+(m.length+1)=k+1+m.length by omega]
theorem Hl(b:List eh)(l:List eQ):Sg 780200 (mB b l).1/\(mB b l).2.length<=l.length:=by
  unfold mB;cases h:!ia b || decide ((l.length:Int)>200)
  · obtain⟨ok,hl⟩:=xu h;have:=BM (l:=l) l 0 (fQ b,[]) (by omega) (Ju ok);rw[Nat.zero_add]at this;exact⟨this.sg.mono (by omega),Nat.le_of_eq this.len⟩
  · exact⟨⟨Nat.zero_le _,fun p hp=>by simp at hp⟩,Nat.zero_le _⟩
def P6(l:List c6)(k:Nat)(b:Bool):Bool:=!b&&((nth l (k:Int)).so != 0)
def Nu(l:List c6)(now:Int):List Int:=jj (P6 l) (fun k _=>(k:Int)) 0 (reach l now)
def L7(now:Int)(k:Nat)(p:bh):List Int:=(Nu p.heap.ag now).map fun i=>kW (k:Int) i (nth p.heap.ag i).Rs
def JZ(w:dq):List Int:=if eO w then foldI (fun k acc p=>acc++L7 w.Rj k p) 0 [] w.parts else[]
theorem Ik:fR nO=true:=by decide +kernel
theorem IX{b:eh}(h:tH b=true):dI (lF b)=true:=by
  unfold tH at h;simp only[RD]at h;obtain⟨h1,h2,h3⟩:=h;unfold dI
  show(fw b.Rd&&(jb b.own&&(fF (lH b.fA)&&(fR nO&&(!decide (((([]:List eA)).length:Int)>3)&&(([]:List eA).all il&&og (lF b)))))))=true
  rw[h2,h3,xT,h1,Ik];rfl
theorem Mj:nh nO 0=true:=by decide +kernel
theorem Lo(b:eh):held (lF b)=0:=by
  show((nO.ag.take 10).filter eG).foldl (fun n o=>IntKind.i64.wrap (n+o.cd)) 0=0
  decide +kernel
theorem M8{b:eh}(h:tH b=true):ig (lF b)=b.fA:=by
  have h1:dT b.fA=true:=by
    unfold tH at h;simp only[RD]at h;exact h.1
  have h2:=DW h1;unfold ig;rw[Lo]
  have ht:fX (lF b).Re=b.fA:=by
    unfold fX;rw[show(lF b).Re=lH b.fA from rfl,xT,h1,if_pos rfl]
    show dY ⟨0,0,0⟩ b.fA=b.fA
    exact h2
  rw[ht,show(lF b).db=⟨0,0,0⟩ from rfl,if_pos (by decide)];unfold dT uJ at h1;simp only[RD,dM]at h1;unfold dY;simp only[Int.add_zero];rw[dF (n:=b.fA.cd) (by omega) (by omega),dF (n:=b.fA.cd) (by omega) (by omega),dF (by omega) (by omega),dF (by omega) (by omega)]
theorem D0:∀(l:List eh) (a:de),(∀x,x∈l->tH x=true)->kY a (iO l)=l.foldl (fun a b=>dY a b.fA) a
  | [],a,_=>rfl
  | x::l,a,h=>by
    have e:(lJ x).1=lF x:=by unfold lJ;rw[if_pos (h x (by simp))]
    show kY (dY a (ig (lJ x).1)) (iO l)=_
    rw[e,M8 (h x (by simp)),D0 l _ fun y hy=>h y (by simp[hy])];rfl
theorem Cx:∀(l:List eh) (a:de),dT a=true->nQ a l=true->dT (l.foldl (fun a b=>(ga a b.fA).1) a)=true
  | [],a,h,_=>h
  | x::l,a,_,h=>by
    unfold nQ at h;simp only[RD]at h;exact Cx l _ (K9 h.1).2.1 h.2.2.2
theorem PG{b:List eh}(h:ia b=true):(Wk (fQ b)/\iE (fQ b).parts=lI b/\(fQ b).parts.length=b.length/\(fQ b).Rj=0)/\∀p,p∈(fQ b).parts->∃x,tH x=true/\p=lF x:=by
  have h':=h;unfold ia at h';rw[RD,dM]at h';have hk:=yH b _ h'.1
  have hl:(iO b).length=b.length:=by unfold iO;rw[List.length_map]
  have hp:∀p,p∈iO b->∃x,tH x=true/\p=lF x:=fun p hp=>by
    obtain⟨x,hx,rfl⟩:=List.mem_map.1 (show p∈b.map _ from hp);exact⟨x,hk x hx,by unfold lJ;rw[if_pos (hk x hx)]⟩
  have hok:∀p,p∈iO b->dI p=true:=fun p q=>by
    obtain⟨x,hx,rfl⟩:=hp p q;exact IX hx
  have hs:kY ⟨0,0,0⟩ (iO b)=lI b:=by
    rw[D0 b _ hk];unfold lI;rw[if_pos h]
  have ha:dT (lI b)=true:=by
    unfold lI;rw[if_pos h, <- wN b _ h'.1];exact Cx b _ (by decide) h'.1
  have e:iE (iO b)=lI b:=by rw[<- Ay hok (by omega),hs]
  have ew:fQ b=⟨0,iO b⟩:=by unfold fQ;rw[if_pos h]
  rw[ew];exact⟨⟨⟨⟨by dsimp only;omega,by dsimp only;omega⟩,⟨by show 1<=(iO b).length;omega,by show(iO b).length<=3;omega⟩,hok,by show dT (iE (iO b))=true;rw[e];exact ha⟩,e,hl,rfl⟩,hp⟩
theorem WD.yes{α:Type}{o:Option Bool}{a b:Option α}{Q:α->Prop}(e:o=some true)(k:WD a Q):WD (o.bind fun y=>bif y then a else b) Q:=by rw[e];exact k
theorem WD.no{α:Type}{o:Option Bool}{a b:Option α}{Q:α->Prop}(e:o=some false)(k:WD b Q):WD (o.bind fun y=>bif y then a else b) Q:=by rw[e];exact k
theorem PZ{N:Nat}{x:List U8}(hx:Fit.fit x)(hl:x.length<=1048576){i:Int}(h0:0<=i)(h1:i<=100):WD (yX N x i) (fun r=>0<=r/\r<=255):=by
  unfold yX;refine WD.ite (fun c=>WD.bind (nP h0 (of_decide_eq_true c)) fun y hy=>WD.ret ?_) fun c=>WD.ret ?_
  · have h2:0<=y.v/\y.v<=255:=hx.2 y hy;rw[dF (by omega) (by omega)];exact h2
  · rw[dF (n:=i*37) (by omega) (by omega),dF (n:=(x.length:Int)*11) (by omega) (by omega),dF (by omega) (by omega)];have:=Af (a:=i*37+(x.length:Int)*11) (n:=256) (by omega) (by decide);omega
theorem J3{w:dq}(hw:Wq w)(e:eQ):(mA w e).1.parts.length=w.parts.length:=by
  unfold Kx.mA;cases e.so==1
  case true =>
    show(tick w).parts.length=_
    unfold Kx.tick;split
    · have key:∀(l:List bh) (k:Nat) (t:dq),(foldI (fun k t (_:bh)=>iQ w.parts.length k t) k t l).parts.length=t.parts.length:=by
        intro l
        induction l with
        | nil=>intro k t;rfl
        | cons y l ih =>
          intro k t;unfold foldI;rw[ih]
          show((dD t (k:Int)).parts.set k _).length=_
          rw[List.length_set];exact(yu t _).2.1
      exact key _ _ _
    · rfl
  cases e.so==2
  case true =>
    show(im w e.py e.dU e.call).1.parts.length=_
    rcases Hn hw e.py e.dU e.call with q|⟨q,z,_,_,e2⟩
    · rw[q]
    · rw[e2];exact List.length_set
  cases e.so==3
  case false=>rfl
  show(uW w e).parts.length=_
  rcases BD w e with q|⟨_,_,_,q⟩
  · rw[q]
  · rw[q];exact List.length_set
theorem Ja{N:Nat}(hN:dh<=N){b:List U8}{i h:Int}(hb:b.length<=1048576)(hi:0<=i):WD (nI N ⟨b,i,h⟩) (fun r=>0<=r.2.i/\r.1.length<=4/\∀x,x∈r.1->fh x<=2000):=by
  unfold nI;dsimp only;refine WD.bind (Fo hN hb hi) fun l ⟨l1,l2,l3,l4⟩=>WD.bind (iq hb l1 16 (by decide)) fun k ⟨k1,_,_⟩=>?_;have l5:∀x,x∈l.1->fh x<=1000:=fun x hx=>(l4 x hx).sz
  have l6:∀(z:eh),fh z<=2000->∀x,x∈l.1.set (0:Int).toNat z->fh x<=2000:=fun z hz x hx=>by
    rcases List.mem_or_eq_of_mem_set hx with q|rfl
    · exact Nat.le_trans (l5 x q) (by decide)
    · exact hz
  have l7:∀(z:eh),(l.1.set (0:Int).toNat z).length<=4:=fun z=>by rw[List.length_set];omega
  refine WD.ite (fun _=>WD.ret ⟨k1,by simp,by simp⟩) fun _=>WD.ite (fun _=>?_) fun _=>WD.ite (fun _=>?_) fun _=>WD.ite (fun _=>?_) fun _=>WD.ite (fun _=>?_) fun _=>WD.ret ⟨k1,by dsimp only;omega,fun x hx=>Nat.le_trans (l5 x hx) (by decide)⟩
  · refine WD.bind (WD.loop (fun s=>0<=s.2.1/\s.1.length<=4/\∀x,x∈s.1->fh x<=2000) (fun r=>0<=r.2.1/\r.1.length<=4/\∀x,x∈r.1->fh x<=2000) (fun s=>4-s.1.length) ⟨k1,by dsimp only;omega,fun x hx=>Nat.le_trans (l5 x hx) (by decide)⟩ (Bu hN (by dsimp only;omega)) ?_) fun r hr=>WD.ret ⟨hr.1,hr.2.1,hr.2.2⟩;rintro⟨s,i,h⟩ ⟨s1,s2,s3⟩;dsimp only at *;refine WD.ite (fun c=>?_) fun _=>WD.inr ⟨s1,s2,s3⟩;have c:=of_decide_eq_true c;refine WD.bind (GX hN hb s1) fun q ⟨q1,q2,q3,_⟩=>WD.step (xt (by omega)) (WD.inl ⟨q1,by simp only[List.length_append,List.length_cons,List.length_nil];omega,fun x hx=>?_⟩ (by simp only[List.length_append,List.length_cons,List.length_nil];omega))
    rcases List.mem_append.1 hx with q|q
    · exact s3 x q
    · rw[List.mem_singleton]at q;rw[q];exact Nat.le_trans q3 (by decide)
  · refine WD.bind (FW hN hb k1) fun u ⟨u1,u2⟩=>WD.bind (nP (by decide) (by omega)) fun z hz=>WD.ret ⟨u1,l7 _,l6 _ ?_⟩;have:=l5 z hz;unfold fh jx at *;dsimp only at *;omega
  · refine WD.bind (Ka hb k1) fun u u1=>WD.bind (nP (by decide) (by omega)) fun z hz=>WD.step rfl (WD.ret ⟨u1,l7 _,l6 _ ?_⟩);have:=l5 z hz;unfold fh jx at *;dsimp only at *;omega
  · refine WD.bind (Pc hN hb k1) fun u ⟨u1,u2⟩=>WD.bind (nP (by decide) (by omega)) fun z hz=>WD.ret ⟨u1,l7 _,l6 _ ?_⟩;have:=l5 z hz;unfold fh jx at *;dsimp only at *;omega
theorem LF{N:Nat}(hN:dh<=N){b:List U8}{i h:Int}(hb:b.length<=1048576)(hi:0<=i){w:dq}(hw:Wq w)(hA:∀q,q∈w.parts->q.heap.ag.length<=1000000)(hn:0<w.parts.length):WD (qg N ⟨b,i,h⟩ w) (fun r=>0<=r.2.i):=by
  unfold qg;dsimp only;refine WD.bind (iq hb hi _ (by omega)) fun p ⟨p1,p2,p3⟩=>WD.bind (iq hb p1 10 (by decide)) fun k ⟨k1,_,_⟩=>WD.ite (fun _=>WD.ret k1) fun _=>?_;refine WD.bind (P:=fun(j:Bool×Int×Int)=>0<=j.2.1) (WD.ite (fun _=>WD.bind (mX hb k1 2) fun y y1=>WD.ret y1) fun _=>WD.ret k1) fun j j1=>WD.ite (fun _=>WD.bind (iq hb j1 10 (by decide)) fun y ⟨y1,_,_⟩=>WD.ret y1) fun _=>?_;refine WD.bind (nP p2 p3) fun q hq=>WD.bind (NV hN hb j1 (hA q hq) _) fun x x1=>WD.bind (iq hb x1 _ (by omega)) fun z ⟨z1,z2,z3⟩=>?_;refine WD.bind (P:=fun(j:Bool×Int×Int)=>0<=j.2.1) (WD.ite (fun _=>WD.bind (mX hb z1 2) fun y y1=>WD.ret y1) fun _=>WD.ret z1) fun j j1=>?_;refine WD.bind (P:=fun(j:Int×Int×Int)=>0<=j.1) (WD.ite (fun _=>WD.bind (nP z2 z3) fun u hu=>WD.bind (Jn hN hb j1 (hA u hu) _ _) fun v v1=>WD.ret v1) fun _=>WD.ret j1) fun j j1=>?_;refine WD.bind (P:=fun(j:Int×Int×Int)=>0<=j.1) (WD.ite (fun _=>WD.bind (nP z2 z3) fun u hu=>WD.bind (Jn hN hb j1 (hA u hu) _ _) fun v v1=>WD.ret v1) fun _=>WD.ret j1) fun j j1=>?_;refine WD.bind (mX hb j1 4) fun y y1=>WD.bind (P:=fun(j:Int×Int×Int)=>0<=j.2.1) (WD.ite (fun _=>WD.step (wi hN (fH hw.lR hq) (hw.w q hq) _) (WD.ite (fun c=>?_) fun _=>WD.ret y1)) fun _=>WD.ret y1) fun j j1=>WD.ret j1;have c:=of_decide_eq_true c;exact WD.bind (iq hb y1 _ c) fun u ⟨u1,u2,u3⟩=>WD.bind (nP u2 u3) fun v _=>WD.ret u1
theorem IV{N:Nat}(hN:dh<=N){b:List U8}{i h:Int}(hb:b.length<=1048576)(hi:0<=i){l:List eh}(hl:eK fh l<=1048576){m:Int}(m0:0<=m)(m9:m<=80):WD (oh N ⟨b,i,h⟩ l m) (fun r=>0<=r.2.i/\r.1.length<=80):=by
  unfold oh;dsimp only;refine WD.step (Jb hN hl) (WD.ite (fun _=>WD.ret ⟨hi,by simp⟩) fun c=>?_)
  have c:((fQ l).parts.length:Int) ≠ 0:=by simpa using c
  have hok:ia l=true:=by
    cases q:ia l
    · exfalso
      unfold fQ at c;rw[q]at c;exact c rfl
    · rfl
  rw[dF (n:=m+1) (by omega) (by omega)];refine WD.bind (iq hb hi _ (by omega)) fun k ⟨k1,k2,k3⟩=>?_;refine WD.bind (WD.loop (fun s=>0<=s.2.1/\(s.1.length:Int)+s.2.1=k.1/\0<=s.2.2.1/\(∃r,Pl 200 s.1.length (dq.mk s.2.2.2.2.1 s.2.2.2.2.2,r))/\0<s.2.2.2.2.2.length) (fun r=>r.1.length<=80/\0<=r.2.2.1) (fun s=>s.2.1.toNat) ⟨k2,by simp,k1,⟨[],Ju hok⟩,by dsimp only;omega⟩ (Bu hN (by dsimp only;omega)) ?_) fun r hr=>WD.ret ⟨hr.2,hr.1⟩;rintro⟨s,n,i,h,now,ps⟩ ⟨s1,s2,s3,⟨r,s4⟩,s5⟩;dsimp only at *;refine WD.ite (fun c=>?_) fun c=>WD.inr ⟨by dsimp only;omega,s3⟩;have c:=of_decide_eq_true c;have ht:=s4.t (by omega)
  have hA:∀q,q∈ps->q.heap.ag.length<=1000000:=fun q hq=>by
    have h1:=(s4.sg.sz q hq).1;unfold dG mw eK at h1;omega
  refine WD.bind (LF hN hb s3 ht.q hA s5) fun e e1=>WD.step (Oy hN ht e.1) (WD.step (xt (by omega)) ?_);rw[dF (n:=n-1) (by omega) (by omega)];have pn:=s4.step (by decide) (by omega) e.1;refine WD.inl ⟨by dsimp only;omega,by simp only[List.length_append,List.length_cons,List.length_nil];omega,e1,⟨r++[(mA (dq.mk now ps) e.1).2],?_⟩,?_⟩ (by dsimp only;omega)
  · rw[show(s++[e.1]).length=s.length+1 from by simp];exact pn
  · show 0<(mA _ e.1).1.parts.length
    rw[J3 ht.q];exact s5
theorem OI{N:Nat}(hN:dh<=N){b:List U8}{i h:Int}(hb:b.length<=1048576)(hi:0<=i){m:Int}(m0:0<=m)(m9:m<=80):WD (tM N ⟨b,i,h⟩ m) (fun r=>0<=r.2.2.i/\eK fh r.1<=1048576/\r.2.1.length<=201):=by
  unfold tM;dsimp only;refine WD.bind (Fo hN hb hi) fun l ⟨l1,l2,l3,l4⟩=>WD.bind (mX hb l1 20) fun y y1=>?_;refine WD.bind (P:=fun(j:(List eh)×Int×Int)=>0<=j.2.1/\eK fh j.1<=1048576) (WD.ite (fun _=>WD.bind (Ja hN hb y1) fun z ⟨z1,z2,z3⟩=>WD.ret ⟨z1,?_⟩) fun _=>WD.ret ⟨y1,?_⟩) fun j ⟨j1,j2⟩=>?_
  · have:=vu (f:=fh) (c:=2000) z3;unfold eK;dsimp only at *;omega
  · have:=vu (f:=fh) (c:=1000) fun y hy=>(l4 y hy).sz;unfold eK;dsimp only at *;omega
  refine WD.bind (IV hN hb j1 j2 m0 m9) fun e ⟨e1,e2⟩=>WD.bind (iq hb e1 20 (by decide)) fun k ⟨k1,_,_⟩=>WD.ite (fun _=>?_) fun _=>WD.ite (fun _=>?_) fun _=>WD.ret ⟨k1,j2,by dsimp only;omega⟩
  · refine WD.bind (zu hb k1 (by decide)) fun u ⟨u1,_⟩=>WD.step (a:=e.1++[eQ.mk u.1 1 0 (dH.mk 0 0 0 0 0 0),eQ.mk 2 3 0 (dH.mk 0 0 0 0 0 0),eQ.mk 3 (-1) 0 (dH.mk 0 0 0 0 0 0),eQ.mk 3 0 10 (dH.mk 0 0 0 0 0 0)]) ?_ (WD.ret ⟨u1,j2,by simp only[List.length_append,List.length_cons,List.length_nil];omega⟩);have:(16777216:Nat)=dh:=rfl;unfold app;rw[if_pos (by simp only[List.length_cons,List.length_nil];omega)]
  · refine WD.bind (WD.loop (fun s=>0<=s.2.1/\s.1.length<=201) (fun r=>0<=r.2.1/\r.1.length<=201) (fun s=>201-s.1.length) ⟨k1,by dsimp only;omega⟩ (Bu hN (by dsimp only;omega)) ?_) fun r hr=>WD.ret ⟨hr.1,j2,hr.2⟩;rintro⟨s,i,h⟩ ⟨s1,s2⟩;dsimp only at *;refine WD.bind (iq hb s1 2 (by decide)) fun u ⟨u1,u2,u3⟩=>?_;rw[dF (n:=200+u.1) (by omega) (by omega)];refine WD.ite (fun c=>?_) fun _=>WD.inr ⟨u1,s2⟩;have c:=of_decide_eq_true c;exact WD.step (xt (by omega)) (WD.inl ⟨u1,by simp only[List.length_append,List.length_cons,List.length_nil];omega⟩ (by simp only[List.length_append,List.length_cons,List.length_nil];omega))
theorem Gl{N:Nat}(hN:dh<=N){l:List U8}(hl:l.length<=1048576):WD (qp N l) (fun r=>eK fh r.1<=1048576/\r.2.length<=201):=by
  unfold qp;refine WD.bind (Ot hN hl) fun c c1=>WD.bind (P:=fun r=>0<=r/\r<=60) ?_ fun k ⟨k0,k9⟩=>?_
  · unfold vk;have e:Int.tdiv (l.length:Int) 20=(l.length:Int) / 20:=Int.tdiv_eq_ediv_of_nonneg (by omega);rw[e,dF (n:=(l.length:Int) / 20) (by omega) (by omega),dF (by omega) (by omega)];exact WD.ite (fun _=>WD.ret (by decide)) fun c=>WD.ret (by have:=of_decide_eq_false c;omega)
  · rw[dF (n:=20+k) (by omega) (by omega)];exact WD.bind (OI hN hl c1 (by omega) (by omega)) fun r ⟨_,r2,r3⟩=>WD.ret ⟨r2,r3⟩
theorem OA{b:List eh}(h:ia b=true):Tp (lI b) b.length (fQ b)/\(fQ b).Rj=0/\∀p,0<=p->p<((fQ b).parts.length:Int)->Sf (nth (fQ b).parts p).heap 0:=by
  obtain⟨⟨a,c,d,e⟩,hp⟩:=PG h;refine⟨⟨mo.2 a,c,d⟩,e,fun p p0 p1=>?_⟩;obtain⟨x,hx,e'⟩:=hp _ (gJ p0 p1);rw[e'];exact Av.1 Mj
theorem Sf.rc{h:df}{now:Int}(s:Sf h now):Rec (fun _=>0) (fun _=>False) h now 0 :=
  ⟨s,⟨fun _ f=>f.elim,fun _ f=>f.elim,fun _ _ _ _ _ a=>a.1.elim⟩,.inl fun _ a=>a.1.elim⟩
theorem Bx{S:de}{m:Nat}{g:Int->Int->Int}{D:Int->Int->Prop}:∀(l:List eQ) (k n:Nat) (t:dq×List dE),k+l.length<=200->Pl 200 k t->Tp S m t.1->t.1.Rj+l.length<=1000000->Rw g D t.1 t.1.Rj n ->
    Tp S m (l.foldl lP t).1/\Rw g D (l.foldl lP t).1 (l.foldl lP t).1.Rj (n-3*(l.filter fun e=>e.so==1).length)/\(l.foldl lP t).1.Rj<=t.1.Rj+l.length/\t.1.Rj<=(l.foldl lP t).1.Rj
  | [],k,n,t,_,_,h,_,r=>⟨h,r,by simp,Int.le_refl _⟩
  | e::l,k,n,t,hl,hp,h,hn,r=>by
    simp only[List.length_cons]at hl hn;obtain⟨a,b,c,d1,d2⟩:=NP h (hp.t (by omega)) r e
    have hm:t.1.Rj ≠ 1000000:=by omega
    rw[List.foldl_cons];have et:(lP t e).1=(mA t.1 e).1:=rfl;have ps:=hp.step (by decide) (by omega) e;cases k1:e.so==1
    · have k1':e.so ≠ 1:=by simpa using k1
      rw[if_neg (fun q=>k1' q.1)]at b;obtain⟨x1,x2,x3,x4⟩:=Bx l (k+1) n (lP t e) (by omega) ps a (by rw[et,b];omega) (d1 (.inl k1'));rw[List.filter_cons,k1];rw[et,b]at x3 x4;exact⟨x1,x2,by simp only[List.length_cons];omega,x4⟩
    · have k1':e.so=1:=by simpa using k1
      rw[if_pos ⟨k1',hm⟩]at b;obtain⟨x1,x2,x3,x4⟩:=Bx l (k+1) (n-3) (lP t e) (by omega) ps a (by rw[et,b];omega) (d2 k1' hm);rw[List.filter_cons,k1];rw[et,b]at x3 x4;simp only[if_true,List.length_cons];refine⟨x1,?_,by omega,by omega⟩
      have:n-3-3*(l.filter fun e=>e.so==1).length=n-3*((l.filter fun e=>e.so==1).length+1):=by omega
      rw[<- this];exact x2
theorem GV{b:List eh}{l:List eQ}(h:ia b=true)(hl:l.length<=200):Tp (lI b) b.length (mB b l).1/\(mB b l).2.length=l.length/\(0<=(mB b l).1.Rj/\(mB b l).1.Rj<=200)/\∀p,0<=p->p<((mB b l).1.parts.length:Int)->Sf (nth (mB b l).1.parts p).heap (mB b l).1.Rj:=by
  obtain⟨t,n0,s⟩:=OA h
  have e:mB b l=l.foldl lP (fQ b,[]):=by
    unfold mB Fv;rw[h,decide_eq_false (by omega)];rfl
  have hp:=BM (l:=l) l 0 (fQ b,[]) (by omega) (Ju h)
  obtain⟨a,r,c,d⟩:=Bx (g:=fun _ _=>0) (D:=fun _ _=>False) l 0 0 (fQ b,[]) (by omega) (Ju h) t (by show(fQ b).Rj+_<=_;rw[n0];omega) fun p p0 p1=>by
    show Rec _ _ _ (fQ b).Rj 0
    rw[n0];exact(s p p0 p1).rc
  rw[e];refine⟨a,by have:=hp.len;omega,?_,fun p p0 p1=>(r p p0 p1).sf⟩;have c:(l.foldl lP (fQ b,[])).1.Rj<=(fQ b).Rj+l.length:=c;have d:(fQ b).Rj<=(l.foldl lP (fQ b,[])).1.Rj:=d;rw[n0]at c d;omega
theorem yy{b:List eh}{w:dq}(ok:ia b=true)(t:Tp (lI b) b.length w):om b w=true:=by
  have hk:=mo.1 t.ok;unfold om tT;rw[ok,t.ok,if_pos rfl,Ay hk.ok hk.len.2,t.sum];simp
theorem Fw{w:dq}(ok:eO w=true)(s:∀p,0<=p->p<(w.parts.length:Int)->Sf (nth w.parts p).heap w.Rj):sound w=true:=by
  unfold sound;rw[ok,RC,List.all_eq_true];intro p hp;obtain⟨i,hi,e⟩:=List.getElem_of_mem hp;have g:=fM (l:=w.parts) (i:=(i:Int)) (by omega) (by omega);rw[Int.toNat_natCast,List.getElem?_eq_getElem hi]at g;have g:=Option.some.inj g;rw[<- e,g];exact Av.2 (s (i:Int) (by omega) (by omega))
theorem NK{x:List U8}(hx:Fit.fit x):∃N,uD N x=some true:=by
  obtain⟨N,hN1⟩:∃N,dh+1<=N:=⟨dh+1,Nat.le_refl _⟩;have hN:dh<=N:=Nat.le_of_succ_le hN1
  suffices h:WD (uD N x) (fun r=>r=true) by
    obtain⟨_,e,rfl⟩:=h;exact⟨N,e⟩
  unfold uD zr;refine WD.step rfl (WD.ite (fun _=>WD.ret rfl) fun c=>?_)
  have hl:x.length<=1048576:=by have:=of_decide_eq_false c;omega
  refine WD.bind (Gl hN hl) fun d ⟨d1,d2⟩=>?_;obtain⟨b,l⟩:=d;dsimp only at *;have hB:(16777216:Nat)=dh:=rfl
  have hb:eK fh b<dh:=by omega
  refine WD.step (Ky hN1 hb) ?_;refine WD.bind (P:=fun j=>j=(!ia b || decide ((l.length:Int)>200))) (WD.step (xX hN hb) (WD.ite (fun c=>WD.ret (by rw[c];rfl)) fun c=>WD.ret (by rw[c];rfl))) fun j hj=>?_;subst hj;refine WD.ite (fun c=>?_) fun c=>?_
  · have e:mB b l=(⟨0,[]⟩,[]):=by unfold mB;rw[c];rfl
    rw[e];exact WD.ret rfl
  obtain⟨ok,hl2⟩:=xu c;refine WD.bind (PZ hx hl (by decide) (by decide)) fun y ⟨y1,y2⟩=>?_;have hk:0<=y*(l.length:Int)/\y*(l.length:Int)<=255*(l.length:Int):=⟨Int.mul_nonneg y1 (by omega),Int.mul_le_mul_of_nonneg_right y2 (by omega)⟩;rw[dF (n:=y*(l.length:Int)) (by omega) (by omega),Int.tdiv_eq_ediv_of_nonneg hk.1,dF (by omega) (by omega)];obtain⟨k,ek,hk2⟩:∃k:Nat,y*(l.length:Int) / 255=(k:Int)/\k<=l.length:=⟨(y*(l.length:Int) / 255).toNat,by omega,by omega⟩;rw[ek];refine WD.step (vO hk2) (WD.step (Ky hN1 hb) ?_);obtain⟨t1,n1,_,s1⟩:=GV ok hl2;obtain⟨t2,n2,_,s2⟩:=GV (l:=l.take k) ok (by rw[List.length_take];omega);have z1:=(Hl b l).1;have z2:=(Hl b (l.take k)).1;have e1:om b (mB b l).1=true:=yy ok t1;have e2:om b (mB b (l.take k)).1=true:=yy ok t2;have e3:sound (mB b l).1=true:=Fw t1.ok s1;have e4:sound (mB b (l.take k)).1=true:=Fw t2.ok s2;have b1:=z1.lR (by decide);have b2:=z2.lR (by decide);have w1:wW (mB b l).1.parts:=fun p hp=>(z1.sz p hp).2;have w2:wW (mB b (l.take k)).1.parts:=fun p hp=>(z2.sz p hp).2;have t3:=t1.len;refine WD.ite (fun _=>WD.ite (fun _=>?_) fun q=>?_) fun q=>?_
  · exact WD.yes ((zB hN hb b1 w1).trans (congrArg some e1)) (WD.yes ((HX hN b1 w1).trans (congrArg some e3)) (WD.yes ((zB hN hb b2 w2).trans (congrArg some e2)) (WD.yes ((HX hN b2 w2).trans (congrArg some e4)) (WD.yes ((Gv hN hb b1).trans (congrArg some e1)) (WD.step ((NR hN b1).trans (congrArg some e3)) (WD.ret rfl))))))
  · simp[t3]at q
  · simp[n1]at q
end Go.Kx
