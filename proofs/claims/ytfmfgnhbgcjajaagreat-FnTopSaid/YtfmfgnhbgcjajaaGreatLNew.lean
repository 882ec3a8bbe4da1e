import Derived.Test.YtfmfgnhbgcjajaaGreatLWorld
namespace Go.Kx
open Go
set_option linter.unusedVariables false
set_option linter.unusedSimpArgs false
set_option maxRecDepth 10000
def su:List c6:=(List.replicate 10 (blank 0)).set 0 (c6.mk 0 1 (-1) 0 1000000 0 0 0 0 false [-1, -1] [] [])
def vo:c6:=c6.mk 0 4 0 0 1000000 0 0 0 0 false [-1, -1] [] []
def Bn:List c6:=su.set 1 (gq vo 1)
def K4:List c6:=su.set 1 (marked (gq vo 1) true)
theorem Ii(N:Nat):s7 N=some su:=rfl
theorem Jf(N:Nat):tB N=some su:=rfl
theorem yq:hD su vo=(Bn,1):=by decide
theorem Jm:wA su:=by
  intro o ho
  have:∀o∈su, -9223372036854775808<=o.Rm:=by decide
  exact this o ho
theorem Lp:wA Bn:=by
  intro o ho
  have:∀o∈Bn, -9223372036854775808<=o.Rm:=by decide
  exact this o ho
def nO:df:=df.mk K4 (eT.mk 0 0 0 [0])
theorem Bf:jS (df.mk Bn (eT.mk 0 0 0 [0])) 1=nO:=by decide
def lH(a:de):List dk:=(List.replicate 5 kA).set 0 (dk.mk true (-1) a)
theorem DW{a:de}(h:dT a=true):dY ⟨0,0,0⟩ a=a:=by
  unfold dT uJ at h;simp only[RD,dM]at h;unfold dY;simp only[Int.zero_add];rw[dF (by omega) (by omega),dF (by omega) (by omega),dF (by omega) (by omega)]
theorem xT(a:de):fF (lH a)=dT a:=by
  have h1:∀i:Nat,allI (mK (lH a)) (i+1) (List.replicate 4 kA)=true:=fun i=>by
    rw[jI];intro j r hr;rw[List.getElem?_replicate]at hr;split at hr
    · cases hr;rfl
    · cases hr
  have h2:allI (mK (lH a)) 0 (lH a)=dT a:=by
    show(((dT a&&true)&&allI (mK (lH a)) 1 (List.replicate 4 kA)):Bool)=dT a
    rw[h1 0,Bool.and_true,Bool.and_true]
  unfold fF;rw[h2]
  show(true&&(true&&(true&&(dT a&&dT (dY ⟨0,0,0⟩ a)))))=dT a
  cases h:dT a
  · rfl
  · rw[DW h,h];rfl
theorem JG{N:Nat}(hN:dh<=N)(a:de):r6 N a=some (if dT a then(lH a,true)else([],false)):=by
  unfold r6;rw[show mk dk 5=some (List.replicate 5 kA) from rfl];simp only[Ry];rw[show idx (List.replicate 5 kA) 0=some kA from rfl];simp only[Ry];rw[show(List.replicate 5 kA).set (0:Int).toNat (dk.mk true (-1) a)=lH a from rfl,qA hN,xT];cases dT a<;>rfl
theorem Kt(N:Nat)(a:de):rR N a=some (if dT a then(lH a,true)else([],false)):=by
  unfold rR;rw[o7,Ry];cases dT a<;>rfl
def Qc:bh:=bh.mk (fD.mk []) [] [] (df.mk [] (eT.mk 0 0 0 [])) [] 0 0 (de.mk 0 0 0) 0 0
def lF(b:eh):bh:=bh.mk b.Rd b.own (lH b.fA) nO [] 0 0 (de.mk 0 0 0) 0 0
def tH(b:eh):Bool:=dT b.fA&&(fw b.Rd&&jb b.own)
def lJ(b:eh):bh×Bool:=if tH b then(lF b,true)else(Qc,false)
theorem Kz:mG vo:=by show(-9223372036854775808:Int)<=0;decide
theorem Kf{N:Nat}(hN:dh+1<=N){b:eh}(hb:fh b<dh):rU N b=some (lJ b):=by
  have hN':dh<=N:=Nat.le_of_succ_le hN
  have h1:b.Rd.Rb.length<dh/\b.own.length<dh:=by unfold fh jx at hb;omega
  unfold rU lJ tH;simp only[JG hN',uU hN' h1.1,zo hN' h1.2,Ry,gW];cases dT b.fA
  · rfl
  cases fw b.Rd
  · rfl
  cases jb b.own
  · rfl
  simp only[if_true,RB,Bool.or_self,Rz,Bool.and_self,Ii,Ry];rw[show c6.mk 0 4 0 0 1000000 0 0 0 0 false ([-1, -1]:List Int) [] []=vo from rfl,Bh hN (by decide) (by decide),yq];simp only[Ry,zG h1.1,rh h1.2];rw[show wy N=some (eT.mk 0 0 0 [0]) from rfl];simp only[Ry];rw[Fm hN' (by decide) (by decide),Bf];rfl
theorem At(b:eh):dG (lF b)=fh b+20:=by
  show jx b.Rd+(b.own.length+((lH b.fA).length+((eK dA nO.ag+((nO.gc.da.length+0)+0))+(([]:List eA).length+0))))=jx b.Rd+(b.own.length+0)+20
  have h1:eK dA nO.ag=14:=by decide
  have h2:nO.gc.da.length=1:=by decide
  have h3:(lH b.fA).length=5:=rfl;have h4:([]:List eA).length=0:=rfl;simp only[h1,h2,h3,h4];omega
theorem KE{N:Nat}(hN:dh<=N){b:eh}(hb:fh b<=1048576):rH N b=some (lJ b):=by
  have h1:b.Rd.Rb.length<dh/\b.own.length<dh:=by have:(16777216:Nat)=dh:=rfl;unfold fh jx at hb;omega
  unfold rH lJ tH;simp only[Kt,uw hN h1.1,zq hN h1.2,Ry,gW];cases dT b.fA
  · cases fw b.Rd<;>cases jb b.own<;>rfl
  cases fw b.Rd
  · rfl
  cases jb b.own
  · rfl
  simp only[if_true,RB,Bool.or_self,Rz,Bool.and_self,Jf,Ry];rw[show c6.mk 0 4 0 0 1000000 0 0 0 0 false ([-1, -1]:List Int) [] []=vo from rfl,A8 hN (by decide) Jm (by decide) Kz,yq];simp only[Ry];rw[show wx N=some (eT.mk 0 0 0 [0]) from rfl];simp only[Ry];rw[DK hN (by decide) (by decide) Lp,Bf];simp only[Ry];rw[show bh.mk b.Rd b.own (lH b.fA) nO [] 0 0 (de.mk 0 0 0) 0 0=lF b from rfl,qG hN (by rw[At];have:(16777216:Nat)=dh:=rfl;omega)];rfl
def WD{α:Type}(o:Option α)(Q:α->Prop):Prop:=∃a,o=some a/\Q a
theorem WD.bind{α β:Type}{o:Option α}{f:α->Option β}{P:α->Prop}{Q:β->Prop}(h:WD o P)(k:∀a,P a->WD (f a) Q):WD (o.bind f) Q:=by
  obtain⟨a,rfl,ha⟩:=h;exact k a ha
theorem WD.step{α β:Type}{o:Option α}{a:α}{f:α->Option β}{Q:β->Prop}(e:o=some a)(k:WD (f a) Q):WD (o.bind f) Q:=by
  rw[e];exact k
theorem WD.ite{α:Type}{c:Bool}{a b:Option α}{Q:α->Prop}(h1:c=true->WD a Q)(h2:c=false->WD b Q):WD (bif c then a else b) Q:=by
  cases c
  · exact h2 rfl
  · exact h1 rfl
theorem WD.ret{α:Type}{a:α}{Q:α->Prop}(h:Q a):WD (some a) Q:=⟨a,rfl,h⟩
theorem WD.mono{α:Type}{o:Option α}{P Q:α->Prop}(h:WD o P)(k:∀a,P a->Q a):WD o Q:=by
  obtain⟨a,e,ha⟩:=h;exact⟨a,e,k a ha⟩
def Pv{σ ρ:Type}(I:σ->Prop)(J:ρ->Prop)(μ:σ->Nat)(m:Nat)(o:σ⊕ρ):Prop:=(∀s',o=.inl s'->I s'/\μ s'<m)/\∀r,o=.inr r->J r
theorem WD.inl{σ ρ:Type}{I:σ->Prop}{J:ρ->Prop}{μ:σ->Nat}{m:Nat}{s:σ}(h1:I s)(h2:μ s<m):WD (some (.inl s:σ⊕ρ)) (Pv I J μ m) :=
  ⟨_,rfl,fun s' e=>by cases Sum.inl.inj e;exact⟨h1,h2⟩,fun r e=>by cases e⟩
theorem WD.inr{σ ρ:Type}{I:σ->Prop}{J:ρ->Prop}{μ:σ->Nat}{m:Nat}{r:ρ}(h:J r):WD (some (.inr r:σ⊕ρ)) (Pv I J μ m) :=
  ⟨_,rfl,fun s' e=>by(cases e),fun r e=>by cases Sum.inr.inj e;exact h⟩
theorem WD.loop{σ ρ:Type}{body:σ->Option (σ⊕ρ)}(I:σ->Prop)(J:ρ->Prop)(μ:σ->Nat){N:Nat}{s:σ}(h0:I s)(hN:μ s<N)(h:∀s,I s->WD (body s) (Pv I J μ (μ s))):WD (iter body N s) J :=
  xb I J μ (fun s hs=>by obtain⟨o,ho,h1,h2⟩:=h s hs;exact⟨o,ho,h1,h2⟩) N s h0 hN
theorem Bu{N n:Nat}(hN:dh<=N)(h:n<16777216):n<N:=Nat.lt_of_lt_of_le h hN
theorem iq{N:Nat}{b:List U8}{i h:Int}(hb:b.length<=1048576)(hi:0<=i)(n:Int)(hn:0<n):WD (dS N ⟨b,i,h⟩ n) (fun r=>0<=r.2.i/\0<=r.1/\r.1<n):=by
  obtain⟨x,i',h',e,a1,a2,a3,_⟩:=sF (N:=N) (c:=⟨b,i,h⟩) ⟨hb,hi⟩ n;exact⟨_,e,a1,a2,a3 hn⟩
theorem mX{N:Nat}{b:List U8}{i h:Int}(hb:b.length<=1048576)(hi:0<=i)(n:Int):WD (gT N ⟨b,i,h⟩ n) (fun r=>0<=r.2.i):=by
  obtain⟨x,i',h',e,a1⟩:=Ex (N:=N) (c:=⟨b,i,h⟩) ⟨hb,hi⟩ n;exact⟨_,e,a1⟩
theorem zu{N:Nat}{b:List U8}{i h:Int}(hb:b.length<=1048576)(hi:0<=i){l:List Int}(hl:0<l.length):WD (gV N ⟨b,i,h⟩ l) (fun r=>0<=r.2.i/\r.1∈l):=by
  obtain⟨x,i',h',e,a1,a2⟩:=yN (N:=N) (c:=⟨b,i,h⟩) ⟨hb,hi⟩ hl;exact⟨_,e,a1,a2⟩
theorem nP{α:Type}{l:List α}{i:Int}(h0:0<=i)(h1:i<(l.length:Int)):WD (idx l i) (fun y=>y∈l):=by
  obtain⟨y,e,hy⟩:=yL h0 h1;exact⟨y,e,hy⟩
theorem Lv{N:Nat}(hN:dh<=N){b:List U8}{i h:Int}(hb:b.length<=1048576)(hi:0<=i):WD (nE N ⟨b,i,h⟩) (fun r=>0<=r.2.i/\fw r.1=true):=by
  obtain⟨x,i',h',e,a1,a2,a3⟩:=Ht (N:=N) hN (c:=⟨b,i,h⟩) ⟨hb,hi⟩;refine⟨_,e,a1,?_⟩;unfold fw;simp only[RD,beq_iff_eq,List.all_eq_true,dM];exact⟨by omega,a3⟩
theorem Pc{N:Nat}(hN:dh<=N){b:List U8}{i h:Int}(hb:b.length<=1048576)(hi:0<=i):WD (sJ N ⟨b,i,h⟩) (fun r=>0<=r.2.i/\r.1.length<=5):=by
  obtain⟨x,i',h',e,a1,a2⟩:=PT (N:=N) hN (c:=⟨b,i,h⟩) ⟨hb,hi⟩;exact⟨_,e,a1,a2⟩
theorem Ka{N:Nat}{b:List U8}{i h:Int}(hb:b.length<=1048576)(hi:0<=i):WD (sH N ⟨b,i,h⟩) (fun r=>0<=r.2.i):=by
  obtain⟨x,i',h',e,a1⟩:=P7 (N:=N) (c:=⟨b,i,h⟩) ⟨hb,hi⟩;exact⟨_,e,a1⟩
theorem FW{N:Nat}(hN:dh<=N){b:List U8}{i h:Int}(hb:b.length<=1048576)(hi:0<=i):WD (sN N ⟨b,i,h⟩) (fun r=>0<=r.2.i/\r.1.Rb.length<=5):=by
  obtain⟨x,i',h',e,a1,a2⟩:=IW (N:=N) hN (c:=⟨b,i,h⟩) ⟨hb,hi⟩;exact⟨_,e,a1,a2⟩
theorem vd{l:fD}(h:fw l=true):l.Rb.length=4:=by
  unfold fw at h;simp only[RD,beq_iff_eq]at h;omega
theorem GX{N:Nat}(hN:dh<=N){b:List U8}{i h:Int}(hb:b.length<=1048576)(hi:0<=i):WD (o6 N ⟨b,i,h⟩) (fun r=>0<=r.2.i/\tH r.1=true/\fh r.1<=100/\(0<=r.1.fA.cd/\r.1.fA.cd<=1000)/\(0<=r.1.fA.dg/\r.1.fA.dg<=1000)/\(0<=r.1.fA.du/\r.1.fA.du<=1000)):=by
  unfold o6;dsimp only;refine WD.bind (Lv hN hb hi) fun l ⟨l1,l2⟩=>WD.bind (iq hb l1 25 (by decide)) fun x ⟨x1,x2,x3⟩=>WD.bind (iq hb x1 900 (by decide)) fun y ⟨y1,y2,y3⟩=>WD.bind (iq hb y1 60 (by decide)) fun z ⟨z1,z2,z3⟩=>WD.ret ⟨z1,?_,?_,⟨by dsimp only;omega,by dsimp only;omega⟩,⟨by dsimp only;omega,by dsimp only;omega⟩,⟨by dsimp only;omega,by dsimp only;omega⟩⟩
  · unfold tH dT uJ;simp only[RD,dM];exact⟨⟨by omega,by omega,by omega⟩,l2,rfl⟩
  · have:=vd l2;unfold fh jx;simp only[List.length_nil];omega
theorem N7{N:Nat}{b:List U8}{i h:Int}(hb:b.length<=1048576)(hi:0<=i):WD (uG N ⟨b,i,h⟩) (fun r=>0<=r.2.i):=by
  unfold uG;dsimp only;exact WD.bind (mX hb hi 8) fun y y1=>WD.ite (fun _=>WD.bind (zu hb y1 (by decide)) fun z ⟨z1,_⟩=>WD.ret z1) fun _=>WD.bind (iq hb y1 400 (by decide)) fun z ⟨z1,_,_⟩=>WD.ret z1
theorem Cn{N:Nat}(hN:dh<=N){b:List U8}{i h:Int}(hb:b.length<=1048576)(hi:0<=i)(p:bh)(me:Int):WD (ka N ⟨b,i,h⟩ p me) (fun r=>0<=r.2.i):=by
  unfold ka;dsimp only;refine WD.bind (P:=fun j=>0<=j.2.1/\(j.1=false->(p.heap.ag.length:Int)=10)) ?_ fun j ⟨hj,hl⟩=>?_
  · refine WD.ite (fun _=>WD.ret ⟨hi,by simp⟩) fun c=>WD.bind (mX hb hi 15) fun y y1=>WD.ret ⟨y1,fun _=>by simpa using c⟩
  refine WD.ite (fun _=>WD.bind (N7 hb hj) fun y y1=>WD.ret y1) fun c=>?_;have hl:=hl c;refine WD.bind (iq hb hj 10 (by decide)) fun y ⟨y1,y2,y3⟩=>?_;refine WD.bind (WD.loop (fun s=>0<=s.1/\s.1<10/\0<=s.2.1/\s.2.1<=4/\0<=s.2.2.1) (fun r=>0<=r.1/\r.1<10/\0<=r.2.2.1) (fun s=>(4-s.2.1).toNat) ⟨y2,y3,Int.le_refl _,by simp,y1⟩ (Bu hN (by simp)) ?_) fun r ⟨r1,r2,r3⟩=>?_
  · rintro⟨k,n,i,h⟩ ⟨s1,s2,s3,s4,s5⟩;dsimp only at *;refine WD.bind (P:=fun j=>j=true->n<4) ?_ fun j hj=>WD.ite (fun c=>?_) fun _=>WD.inr ⟨s1,s2,s5⟩
    · refine WD.ite (fun c=>?_) fun _=>WD.ret (by simp);exact WD.bind (nP s1 (by omega)) fun y _=>WD.ret fun _=>of_decide_eq_true c
    · have:=hj c;rw[dF (n:=n+1) (by omega) (by omega)];exact WD.bind (iq hb s5 10 (by decide)) fun y ⟨y1,y2,y3⟩=>WD.inl ⟨y2,y3,by dsimp only;omega,by dsimp only;omega,y1⟩ (by dsimp only;omega)
  · exact WD.bind (nP r1 (by omega)) fun z _=>WD.bind (mX hb r3 20) fun y y1=>WD.bind (P:=fun _=>True) (WD.ite (fun _=>WD.ret trivial) fun _=>WD.ret trivial) fun j _=>WD.step (vh _ _ _ _) (WD.ret y1)
theorem Jn{N:Nat}(hN:dh<=N){b:List U8}{i h:Int}(hb:b.length<=1048576)(hi:0<=i){p:bh}(hp:p.heap.ag.length<=1000000)(me k:Int):WD (mi N ⟨b,i,h⟩ p me k) (fun r=>0<=r.2.i):=by
  unfold mi;dsimp only;refine WD.bind (WD.loop (fun s=>0<=s.1/\s.1<=(p.heap.ag.length:Int)/\0<=s.2.1) (fun r=>Sum.elim (fun s=>0<=s.2.1) (fun r=>0<=r.2.i) r) (fun s=>((p.heap.ag.length:Int)-s.1).toNat) ⟨Int.le_refl _,by dsimp only;omega,hi⟩ (Bu hN (by dsimp only;omega)) ?_) fun r hr=>?_
  · rintro⟨k,i,h⟩ ⟨s1,s2,s3⟩;dsimp only at *;refine WD.ite (fun c=>?_) (fun c=>WD.inr s3);have c:=of_decide_eq_true c;rw[dF (n:=k+1) (by omega) (by omega)];refine WD.bind (P:=fun j=>0<=j.2.1) ?_ fun j hj=>WD.ite (fun _=>?_) fun _=>WD.inl ⟨by dsimp only;omega,by dsimp only;omega,hj⟩ (by dsimp only;omega)
    · exact WD.bind (nP s1 c) fun y _=>WD.ite (fun _=>WD.bind (mX hb s3 2) fun z z1=>WD.ret z1) fun _=>WD.ret s3
    · exact WD.bind (nP s1 c) fun y _=>WD.step (vh _ _ _ _) (WD.inr hj)
  · cases r with
    | inl s =>
      simp only[Sum.elim_inl]at *;exact WD.bind (Cn hN hb hr _ _) fun y y1=>WD.ret y1
    | inr s =>
      simp only[Sum.elim_inr]at *;exact WD.ret hr
theorem NV{N:Nat}(hN:dh<=N){b:List U8}{i h:Int}(hb:b.length<=1048576)(hi:0<=i){p:bh}(hp:p.heap.ag.length<=1000000)(me:Int):WD (sa N ⟨b,i,h⟩ p me) (fun r=>0<=r.2.i):=by
  unfold sa;dsimp only;refine WD.bind (iq hb hi 17 (by decide)) fun k ⟨k1,_,_⟩=>WD.bind (mX hb k1 3) fun m m1=>WD.bind (P:=fun _=>True) (WD.ite (fun _=>WD.ret trivial) fun _=>WD.ret trivial) fun j _=>WD.bind (P:=fun j=>0<=j.1) ?_ fun j hj=>WD.bind (iq hb hj 40 (by decide)) fun n ⟨n1,_,_⟩=>WD.bind (P:=fun j=>0<=j.1) ?_ fun j hj=>WD.ret hj
  · repeat' first
      | exact WD.ret (by assumption)
      | exact WD.ret trivial
      | refine WD.ite (fun _=>?_) (fun _=>?_)
      | refine WD.bind (iq hb (by assumption) _ (by decide)) fun y ⟨_,_,_⟩=>?_
      | refine WD.bind (zu hb (by assumption) (by decide)) fun y ⟨_,_⟩=>?_
      | refine WD.bind (Cn hN hb (by assumption) _ _) fun y _=>?_
      | refine WD.bind (Jn hN hb (by assumption) hp _ _) fun y _=>?_
      | refine WD.bind (P:=fun(_:Bool)=>True) ?_ fun y _=>?_
  · repeat' first
      | exact WD.ret (by assumption)
      | refine WD.ite (fun _=>?_) (fun _=>?_)
      | refine WD.bind (zu hb (by assumption) (by decide)) fun y ⟨_,_⟩=>?_
theorem Ot{N:Nat}(hN:dh<=N){l:List U8}(hl:l.length<=1048576):WD (sS N l) (fun r=>0<=r.i):=by
  obtain⟨h,e⟩:=P4 hN hl;exact⟨_,e,Int.le_refl _⟩
def iO(b:List eh):List bh:=b.map fun x=>(lJ x).1
def fQ(b:List eh):dq:=if ia b then⟨0,iO b⟩else⟨0,[]⟩
theorem Ha{N:Nat}(hN:dh<=N){b:List eh}(hl:b.length<dh){F:eh->Option (bh×Bool)}(hF:∀y,y∈b->F y=some (lJ y)):
    iter (fun(s10:Int×(List bh))=>(bif(decide (s10.1<(b.length:Int)))then((idx b s10.1).bind fun y13=>(F y13).bind fun y28=>(app s10.2 [y28.1]).bind fun y45=>some (.inl (IntKind.i64.wrap (s10.1+1),y45)))else(some (.inr (s10.1,s10.2))):Option ((Int×(List bh))⊕(Int×(List bh))))) N (0,[])=some ((b.length:Int),iO b):=by
  have e:∀(l:List eh) (k:Nat) (acc:List bh),foldI (fun _ (acc:List bh) y=>acc++[(lJ y).1]) k acc l=acc++iO l:=by
    intro l
    induction l with
    | nil=>intro k acc;simp[foldI,iO]
    | cons y l ih=>intro k acc;unfold foldI;rw[ih];simp[iO]
  rw[show((0:Int),([]:List bh))=(fun(k:Nat) (t:List bh)=>((k:Int),t)) 0 [] from rfl,
    gy b (fun(k:Nat) (t:List bh)=>((k:Int),t)) (fun _ acc y=>acc++[(lJ y).1]) (fun t=>((b.length:Int),t)) (fun k t=>t.length<=k) ?_ ?_ (Nat.lt_of_lt_of_le hl hN) (by simp),e]
  · simp
  · intro k t y hy hk ht;refine⟨?_,by simp;omega⟩;simp only[ey hk,RA,dN,hy,Ry,hF y (List.mem_of_getElem? hy),eD (Nat.lt_trans hk hl),hY ht (Nat.lt_of_le_of_lt hk hl)]
  · intro t _;simp only[er,Rz]
theorem Ig{N:Nat}(hN:dh+1<=N){b:List eh}(hb:eK fh b<dh):qf N b=some (fQ b):=by
  have hN':dh<=N:=Nat.le_of_succ_le hN;unfold qf fQ;rw[xB hN' hb,Ry];cases ia b
  · rfl
  · simp only[RB,Rz,if_true];rw[Ha hN' (gL hb) fun y hy=>Kf hN (fH hb hy)];rfl
theorem Jb{N:Nat}(hN:dh<=N){b:List eh}(hb:eK fh b<=1048576):pP N b=some (fQ b):=by
  have hb':eK fh b<dh:=small hb;unfold pP fQ;rw[xX hN hb',Ry];cases ia b
  · rfl
  · simp only[RB,Rz,if_true];rw[Ha hN (gL hb') fun y hy=>KE hN (Nat.le_of_lt_succ (fH (Nat.lt_succ_of_le hb) hy))];rfl
structure Bq (b:eh):Prop where
  ok:tH b=true
  sz:fh b<=1000
  pg:0<=b.fA.cd/\b.fA.cd<=1000
  rt:0<=b.fA.dg/\b.fA.dg<=1000
  cp:0<=b.fA.du/\b.fA.du<=1000
theorem Bq.Q5{l:List Int}{o:List Int}{b:eh}(h:Bq b)(hl:fw ⟨l⟩=true)(ho:jb o=true)(h5:o.length<=100):Bq ⟨⟨l⟩,o,b.fA⟩:=by
  have h4:=vd hl;have h4:l.length=4:=h4;refine⟨?_,?_,h.pg,h.rt,h.cp⟩
  · have:=h.ok;unfold tH at *;simp only[RD]at *;exact⟨this.1,hl,ho⟩
  · unfold fh jx;simp only[h4];omega
theorem gZ{k:Int}(h0:0<=k)(h4:k<4):jb [k]=true:=by
  have:k=0\/k=1\/k=2\/k=3:=by omega
  rcases this with rfl|rfl|rfl|rfl<;>decide
theorem Js{l:List Int}(h:fw ⟨l⟩=true){k:Nat}{y:Int}(h0:0<=y)(h3:y<=3):fw ⟨l.set k y⟩=true:=by
  unfold fw at *;simp only[RD,List.length_set,List.all_eq_true,dM]at *;refine⟨h.1,fun z hz=>?_⟩
  rcases List.mem_or_eq_of_mem_set hz with q|rfl
  · exact h.2 z q
  · exact⟨h0,h3⟩
theorem Lx{l:List Int}(h:fw ⟨l⟩=true){y:Int}(hy:y∈l):0<=y/\y<=3:=by
  unfold fw at h;simp only[RD,List.all_eq_true,dM]at h;exact h.2 y hy
theorem Fo{N:Nat}(hN:dh<=N){b:List U8}{i h:Int}(hb:b.length<=1048576)(hi:0<=i):WD (pA N ⟨b,i,h⟩) (fun r=>0<=r.2.i/\1<=r.1.length/\r.1.length<=3/\∀x,x∈r.1->Bq x):=by
  unfold pA;dsimp only;have hB:(16777216:Nat)=dh:=rfl;refine WD.bind (iq hb hi 3 (by decide)) fun n ⟨n1,n2,n3⟩=>?_;rw[dF (n:=1+n.1) (by omega) (by omega)];refine WD.bind (WD.loop (fun s=>0<=s.2.1/\(s.1.length:Int)+s.2.1=1+n.1/\0<=s.2.2.1/\fw ⟨s.2.2.2.2⟩=true/\∀x,x∈s.1->Bq x) (fun r=>1<=r.1.length/\r.1.length<=3/\0<=r.2.2.1/\∀x,x∈r.1->Bq x) (fun s=>s.2.1.toNat) ⟨by dsimp only;omega,by simp,n1,show fw ⟨[0,0,0,0]⟩=true by decide,by simp⟩ (Bu hN (by dsimp only;omega)) ?_) fun r ⟨r1,r2,r3,r4⟩=>WD.ret ⟨r3,r1,r2,r4⟩;rintro⟨l,k,i,h,lab⟩ ⟨s1,s2,s3,s4,s5⟩;dsimp only at *;refine WD.ite (fun c=>?_) (fun c=>WD.inr ?_)
  · have c:=of_decide_eq_true c;rw[dF (n:=k-1) (by omega) (by omega)];refine WD.bind (GX hN hb s3) fun q ⟨q1,q2,q3,q4,q5,q6⟩=>?_;have hq:Bq q.1:=⟨q2,Nat.le_trans q3 (by decide),q4,q5,q6⟩
    have hq2:fw ⟨q.1.Rd.Rb⟩=true/\jb q.1.own=true:=by
      have:=q2;unfold tH at this;simp only[RD]at this;exact this.2
    have hlab:lab.length=4:=vd s4;refine WD.bind (mX hb q1 3) fun y y1=>WD.bind (P:=fun(j:(List Int)×(List Int))=>fw ⟨j.2⟩=true) (WD.ite (fun _=>WD.step (gg (by omega)) (WD.ret s4)) fun _=>WD.ret hq2.1) fun j j1=>?_;have hj4:j.2.length=4:=vd j1;refine WD.bind (mX hb y1 2) fun z z1=>WD.bind (P:=fun(m:Int×Int×(List Int))=>0<=m.1/\fw ⟨m.2.2⟩=true) (WD.ite (fun _=>?_) fun _=>WD.ret ⟨z1,j1⟩) fun m ⟨m1,m2⟩=>?_
    · refine WD.bind (iq hb z1 4 (by decide)) fun u ⟨u1,u2,u3⟩=>WD.step (gg (by omega)) (WD.bind (nP u2 (by omega)) fun v hv=>WD.step rfl (WD.ret ⟨u1,?_⟩));have:=Lx j1 hv;rw[dF (n:=v+1) (by omega) (by omega)];exact Js j1 (by split<;>omega) (by split<;>omega)
    · refine WD.bind (mX hb m1 6) fun u u1=>WD.bind (P:=fun(m:Int×Int×(List Int))=>0<=m.1/\jb m.2.2=true/\m.2.2.length<=100) (WD.ite (fun _=>WD.bind (iq hb u1 4 (by decide)) fun v ⟨v1,v2,v3⟩=>WD.ret ⟨v1,gZ v2 v3,by simp⟩) fun _=>WD.ret ⟨u1,hq2.2,by unfold fh at q3;dsimp only;omega⟩) fun o ⟨o1,o2,o3⟩=>?_;refine WD.step (xt (by omega)) (WD.inl ⟨by dsimp only;omega,by simp only[List.length_append,List.length_cons,List.length_nil];omega,o1,m2,fun x hx=>?_⟩ (by dsimp only;omega))
      rcases List.mem_append.1 hx with hx|hx
      · exact s5 x hx
      · rw[List.mem_singleton]at hx;rw[hx];exact hq.Q5 j1 o2 o3
  · have c:=of_decide_eq_false c;exact⟨by dsimp only;omega,by dsimp only;omega,s3,s5⟩
theorem Ca{p:bh}(hp:g7 p){now me h:Int}(n:Int):qn p (tN p (dt p.heap.ag now me h) n):=by
  unfold tN;have hg:=pc (l:=p.heap.ag) (now:=now) (me:=me) (h:=h) hp.ar.len;generalize dt p.heap.ag now me h=g at *;cases q:kV p.heap.ag g
  · exact mV rfl rfl rfl (by show eK dA p.heap.ag<=_;omega) (Nat.le_succ _) (Nat.le_refl _) hp.w rfl
  · unfold kV at q;simp only[RD,decide_eq_true_eq]at q;have hl:=hp.ar.len;have g9:=hg q.1;have ho:=mY hp.ar q.1 (by omega);have hwi:mG (nth p.heap.ag g):=hp.w _ (gJ q.1 g9);refine mV rfl rfl rfl (Nat.le_trans (ur ?_) (by omega)) (Nat.le_succ _) (Nat.le_refl _) (iR hp.w hwi) List.length_set;unfold dA at ho;unfold dA kR;simp only[List.length_append,List.length_cons,List.length_nil];omega
theorem Hw{p:bh}(hp:g7 p)(t:eA):qn p (tY p (p.dc++[t])):=by
  refine⟨?_,hp.w,rfl⟩;unfold dG tY;simp only[List.length_append,List.length_cons,List.length_nil];omega
theorem Hn{w:dq}(hw:Wq w)(p th:Int)(c:dH):(im w p th c).1=w\/∃q z,eR w q=true/\qn (nth w.parts q) z/\(im w p th c).1=kX w q z:=by
  unfold im;cases hok:!eO w || !eR w p
  case true=>exact .inl rfl
  have hok:eO w=true/\eR w p=true:=by simpa using hok
  obtain⟨ok,hp⟩:=hok;obtain⟨p1,p2⟩:=fx hp;have pp:=hw.AE ok p2;cases hc:iV (nth w.parts p) w.Rj th
  case false=>exact .inl rfl
  cases ho:decide (other w p c<0)
  case true=>exact .inl rfl
  have hq:=qo ho;generalize other w p c=q at *;obtain⟨q1,q2⟩:=fx hq;have pq:=hw.AE ok q2;simp only[Rz,RB]
  have f3:∀r:Int×Int×dq,(rl r).1=r.2.2:=fun r=>by unfold rl;cases r.1 != 0<;>rfl
  cases c.so==7
  case true=>rw[RA,f3,AG];exact .inl rfl
  cases c.so==17
  case true =>
    rw[Rz,RA,f3];unfold rq;cases dy c.b 0 999
    case false=>exact .inl rfl
    cases l8 w p p q
    case false=>exact .inl rfl
    exact .inr ⟨q,_,hq,Ca pq c.b,rfl⟩
  cases c.so==16
  case true =>
    rw[Rz,Rz,RA,f3];unfold wj;cases decide (c.d<0) || !il (pI c)
    case true=>exact .inl rfl
    cases l8 w p p q
    case false=>exact .inl rfl
    cases ei (nth w.parts p).Re c.a
    case false=>exact .inl rfl
    cases decide (((nth w.parts p).dc.length:Int)>=3)
    case true=>exact .inl rfl
    exact .inr ⟨p,_,hp,Hw pp (pI c),rfl⟩
  have h:=G5 pp.sz pp.w p w.Rj th c;exact .inr ⟨p,_,hp,⟨h.1,h.2,E4 pp.sz pp.w p w.Rj th c⟩,rfl⟩
def uC(p:bh)(t:Int):bh:=bh.mk p.Rd p.own p.Re p.heap p.dc p.Ro (IntKind.i64.wrap (t+1)) p.db p.dx p.Rk
def uW(w:dq)(e:eQ):dq:=bif eO w&&(eR w e.py&&dy e.dU 0 9)then kX w e.py (uC (nth w.parts e.py) e.dU)else w
def mA(w:dq)(e:eQ):dq×dE :=
  bif e.so==1 then(tick w,dE.mk 0 0)else bif e.so==2 then im w e.py e.dU e.call else bif e.so==3 then(uW w e,dE.mk 0 0)else(w,dE.mk 2 0)
structure Wt (w:dq):Prop where
  q:Wq w
  t:eO w=true->tx w.parts.length 0 (dq.mk (IntKind.i64.wrap (w.Rj+1)) w.parts)
theorem OL{N:Nat}(hN:dh+1<=N){w:dq}(hw:Wt w)(e:eQ):vY N w e=some (mA w e):=by
  have hN':dh<=N:=Nat.le_of_succ_le hN;have hb:=hw.q.lR;unfold vY mA;cases e.so==1
  case true=>simp only[RA,Ni hN' hb hw.q.w hw.t,Ry]
  cases e.so==2
  case true=>simp only[RA,Rz,GB hN hw.q,Ry]
  cases e.so==3
  case false=>simp only[Rz,rY hN' hb,Ry]
  simp only[RA,Rz,rY hN' hb,qt hN' hb,wh (gL hb),sr,Ry];unfold uW;cases eO w
  · rfl
  cases hp:eR w e.py
  · rfl
  cases dy e.dU 0 9
  · rfl
  simp only[RA,Bool.and_self,Ry,(fx hp).1];rfl
theorem Oy{N:Nat}(hN:dh<=N){w:dq}(hw:Wt w)(e:eQ):vN N w e=some (mA w e):=by
  have hb:=hw.q.lR;have hl:w.parts.length<16777216:=gL hb;unfold vN mA;cases e.so==1
  case true=>simp only[RA,Nr hN hb hw.q.w hw.t,Ry]
  cases e.so==2
  case true=>simp only[RA,Rz,Gg hN hw.q,Ry]
  cases e.so==3
  case false=>simp only[Rz,uv hN hb,Ry]
  simp only[RA,Rz,uv hN hb,pU hN hb hw.q.w,jV,qc,Ry];rw[dF (by omega) (by omega),show dy e.py 0 ((w.parts.length:Int)-1)=eR w e.py from rfl];unfold uW;cases eO w
  · rfl
  cases hp:eR w e.py
  · rfl
  cases dy e.dU 0 9
  · rfl
  simp only[RA,Bool.and_self,Ry,(fx hp).1];rfl
theorem BD(w:dq)(e:eQ):uW w e=w\/(eO w=true/\eR w e.py=true/\(0<=e.dU/\e.dU<=9)/\uW w e=kX w e.py (uC (nth w.parts e.py) e.dU)):=by
  unfold uW;cases h:eO w&&(eR w e.py&&dy e.dU 0 9)
  · exact .inl rfl
  · simp only[RD,dM]at h;exact .inr ⟨h.1,h.2.1,h.2.2,rfl⟩
structure Sg (c:Nat) (w:dq):Prop where
  len:w.parts.length<=3
  sz:∀p,p∈w.parts->dG p<=c/\wP p
theorem Sg.mono{c d:Nat}{w:dq}(h:Sg c w)(hd:c<=d):Sg d w:=⟨h.len,fun p hp=>⟨Nat.le_trans (h.sz p hp).1 hd,(h.sz p hp).2⟩⟩
theorem Sg.lR{c:Nat}{w:dq}(h:Sg c w)(hc:c<=1048576):eK dG w.parts<dh:=by
  have hB:(16777216:Nat)=dh:=rfl;have h1:mO dG w.parts<=c*w.parts.length:=vu fun y hy=>(h.sz y hy).1;have h4:c*w.parts.length<=1048576*3:=Nat.mul_le_mul hc h.len;have:=h.len;unfold eK;omega
theorem Sg.t{c:Nat}{w:dq}(h:Sg c w)(hc:c<=1048576):Wt w :=
  ⟨⟨h.lR hc,fun p hp=>by have:=(h.sz p hp).1;omega,fun p hp=>(h.sz p hp).2⟩,fun hw=>⟨rfl,(BK hw).2.1,fun p hp=>⟨by have:=(h.sz p hp).1;omega,(h.sz p hp).2⟩⟩⟩
theorem Sg.dc{c:Nat}{t:dq}(h:Sg c t)(p:Int):Sg c (dD t p)/\(dD t p).parts.length=t.parts.length:=by
  obtain⟨_,h2,h3⟩:=yu t p;refine⟨⟨by rw[h2];exact h.len,fun q hq=>?_⟩,h2⟩;obtain⟨y,hy,e1,e2⟩:=h3 q hq;obtain⟨a,b⟩:=h.sz y hy;exact⟨by omega,by unfold wP at *;rw[e2];exact b⟩
theorem Sg.step{c n k:Nat}{t:dq}(h:Sg c t)(hk:k<t.parts.length)(hc:c<=2000000):Sg (c+1300) (iQ n k t)/\(iQ n k t).parts.length=t.parts.length:=by
  obtain⟨hT,hl⟩:=h.dc (k:Int)
  have e:(iQ n k t).parts.length=t.parts.length:=by
    show((dD t (k:Int)).parts.set k _).length=_
    rw[List.length_set];exact hl
  refine⟨⟨by rw[e];exact h.len,fun q hq=>?_⟩,e⟩
  rcases List.mem_or_eq_of_mem_set (show q∈(dD t (k:Int)).parts.set k _ from hq)with h1|h1
  · obtain⟨a,b⟩:=hT.sz q h1;exact⟨by omega,b⟩
  · subst h1;obtain⟨a,b⟩:=hT.sz _ (gJ (l:=(dD t (k:Int)).parts) (i:=(k:Int)) (by omega) (by omega));exact wL (n:=n) a (by omega) b (k:Int) (dD t (k:Int)).Rj
theorem MR{n:Nat}:∀(l:List bh) (k c:Nat) (t:dq),k+l.length=t.parts.length->c+1300*l.length<=2000000->Sg c t->Sg (c+1300*l.length) (foldI (fun k t (_:bh)=>iQ n k t) k t l)
  | [],k,c,t,_,_,h=>h
  | y::l,k,c,t,hk,hc,h=>by
    simp only[List.length_cons]at hk hc⊢;obtain⟨a,b⟩:=h.step (n:=n) (k:=k) (by omega) (by omega);have:=MR (n:=n) l (k+1) (c+1300) (iQ n k t) (by omega) (by omega) a;exact this.mono (by omega)
theorem Sg.tick{c:Nat}{w:dq}(h:Sg c w)(hc:c<=1000000):Sg (c+3900) (tick w):=by
  unfold Kx.tick;split
  · have hl:=h.len;exact(MR w.parts 0 c (dq.mk (IntKind.i64.wrap (w.Rj+1)) w.parts) (by dsimp only;omega) (by omega) ⟨h.len,h.sz⟩).mono (by omega)
  · exact h.mono (by omega)
theorem Sg.put{c:Nat}{w:dq}(h:Sg c w){q:Int}{z:bh}(hz:dG z<=c+300/\wP z):Sg (c+300) (kX w q z):=by
  refine⟨by show(w.parts.set _ _).length<=3;rw[List.length_set];exact h.len,fun y hy=>?_⟩
  rcases List.mem_or_eq_of_mem_set (show y∈w.parts.set q.toNat z from hy)with a|rfl
  · have:=h.sz y a;exact⟨by omega,this.2⟩
  · exact hz
theorem Sg.mA{c:Nat}{w:dq}(h:Sg c w)(hc:c<=1000000)(e:eQ):Sg (c+3900) (mA w e).1:=by
  unfold Kx.mA;cases e.so==1
  case true=>exact h.tick hc
  cases e.so==2
  case true =>
    show Sg (c+3900) (im w e.py e.dU e.call).1
    rcases Hn (h.t (by omega)).q e.py e.dU e.call with q|⟨q,z,hq,hn,e2⟩
    · rw[q];exact h.mono (by omega)
    · rw[e2];have:=h.sz _ (fx hq).2;have:=hn.sz;exact(h.put ⟨by omega,hn.w⟩).mono (by omega)
  cases e.so==3
  case false=>exact h.mono (by omega)
  show Sg (c+3900) (uW w e)
  rcases BD w e with q|⟨_,hp,_,q⟩
  · rw[q];exact h.mono (by omega)
  · rw[q];have:=h.sz _ (fx hp).2;have h3:dG (uC (nth w.parts e.py) e.dU)=dG (nth w.parts e.py):=rfl;have h4:=this.1;exact(h.put (q:=e.py) (z:=uC (nth w.parts e.py) e.dU) ⟨by omega,this.2⟩).mono (by omega)
def lP(t:dq×List dE)(e:eQ):dq×List dE:=((mA t.1 e).1,t.2++[(mA t.1 e).2])
def Fv(w:dq)(l:List eQ):dq×List dE:=l.foldl lP (w,[])
def mB(b:List eh)(l:List eQ):dq×List dE:=bif !ia b || decide ((l.length:Int)>200)then(dq.mk 0 [],[])else Fv (fQ b) l
theorem HU{α τ:Type}(f:τ->α->τ):∀(l:List α) (k:Nat) (t:τ),foldI (fun _ t y=>f t y) k t l=l.foldl f t
  | [],_,_=>rfl
  | y::l,k,t=>HU f l (k+1) (f t y)
structure Pl (c k:Nat) (t:dq×List dE):Prop where
  sg:Sg (c+3900*k) t.1
  len:t.2.length=k
theorem Pl.step{c k:Nat}{t:dq×List dE}(h:Pl c k t)(hc:c<=200000)(hk:k<200)(e:eQ):Pl c (k+1) (lP t e) :=
  ⟨(h.sg.mA (by omega) e).mono (by omega),by show(t.2++[_]).length=_;rw[List.length_append,h.len];rfl⟩
theorem yH:∀(l:List eh) (a:de),nQ a l=true->∀x,x∈l->tH x=true
  | [],_,_,x,hx=>by simp at hx
  | y::l,a,h,x,hx=>by
    unfold nQ at h;simp only[RD]at h
    rcases List.mem_cons.1 hx with rfl|hx
    · have ha:dT x.fA=true:=by
        have:=h.1;unfold ga at this;split at this
        · rename_i q;simp only[RD]at q;exact q.1.2
        · simp at this
      unfold tH;rw[ha,h.2.1,h.2.2.1];rfl
    · exact yH l _ h.2.2.2 x hx
theorem JE{l:List Int}(h:jb l=true):∀(k:Nat) (y:Int),l[k]?=some y->(k:Int)<=y/\y<=3
  | 0,y,hy=>by
    have:=jI.1 h 0 y hy;unfold vJ at this;simp only[RD,dM]at this;omega
  | k+1,y,hy=>by
    have hk:=eJ hy;have h0:=JE h k l[k] (List.getElem?_eq_getElem (by omega));have:=jI.1 h (k+1) y hy;unfold vJ at this;simp only[RD,dM,Nat.zero_add]at this;have h2:=this.2;simp[List.getElem?_eq_getElem (show k<l.length by omega)]at h2;omega
theorem eV{l:List Int}(h:jb l=true):l.length<=4:=by
  by_cases q:l.length<=4
  · exact q
  · have:=JE h 4 l[4] (List.getElem?_eq_getElem (by omega));omega
theorem OY{b:eh}(h:tH b=true):fh b<=100:=by
  unfold tH at h;simp only[RD]at h;have h1:=(rE.1 h.2.1).1;have h2:=eV h.2.2;unfold fh jx;omega
theorem N8{b:List eh}(h:ia b=true):Sg 200 (fQ b):=by
  unfold fQ;rw[if_pos h];unfold ia at h;rw[RD,dM]at h;have hk:=yH b _ h.1;refine⟨by show(iO b).length<=3;unfold iO;rw[List.length_map];omega,fun p hp=>?_⟩;obtain⟨x,hx,rfl⟩:=List.mem_map.1 (show p∈b.map _ from hp);have ok:=hk x hx;rw[show(lJ x).1=lF x from by unfold lJ;rw[if_pos ok]];refine⟨?_,fun o ho=>?_⟩
  · rw[At];have:=OY ok;omega
  · have:∀o∈K4, -9223372036854775808<=o.Rm:=by decide
    exact this o ho
end Go.Kx
