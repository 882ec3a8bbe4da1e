import Derived.Test.YtfmfgnhbgcjajaaGreatLWorld
namespace Go.Kx
open Go
set_option linter.unusedVariables false
set_option linter.unusedSimpArgs false
set_option maxRecDepth 10000
def sD:List cd:=(List.replicate 10 (blank 0)).set 0 (cd.mk 0 1 (-1) 0 1000000 0 0 0 0 false [-1, -1] [] [])
def vw:cd:=cd.mk 0 4 0 0 1000000 0 0 0 0 false [-1, -1] [] []
def AM:List cd:=sD.set 1 (gv vw 1)
def KV:List cd:=sD.set 1 (marked (gv vw 1) true)
theorem IF(N:Nat):tB N=some sD:=rfl
theorem I7(N:Nat):tw N=some sD:=rfl
theorem zk:hO sD vw=(AM,1):=by decide
theorem IN:wA sD:=by
  intro o ho
  have:∀o∈sD, -9223372036854775808<=o.Ro:=by decide
  exact this o ho
theorem LN:wA AM:=by
  intro o ho
  have:∀o∈AM, -9223372036854775808<=o.Ro:=by decide
  exact this o ho
def nP:df:=df.mk KV (eS.mk 0 0 0 [0])
theorem Br:j6 (df.mk AM (eS.mk 0 0 0 [0])) 1=nP:=by decide
def lO(a:de):List dp:=(List.replicate 5 kG).set 0 (dp.mk true (-1) a)
theorem DS{a:de}(h:dT a=true):dX ⟨0,0,0⟩ a=a:=by
  unfold dT uW at h;simp only[RG,dI]at h;unfold dX;simp only[Int.zero_add];rw[dE (by omega) (by omega),dE (by omega) (by omega),dE (by omega) (by omega)]
theorem xU(a:de):fH (lO a)=dT a:=by
  have h1:∀i:Nat,allI (mN (lO a)) (i+1) (List.replicate 4 kG)=true:=fun i=>by
    rw[jL];intro j r hr;rw[List.getElem?_replicate]at hr;split at hr
    · cases hr;rfl
    · cases hr
  have h2:allI (mN (lO a)) 0 (lO a)=dT a:=by
    show(((dT a&&true)&&allI (mN (lO a)) 1 (List.replicate 4 kG)):Bool)=dT a
    rw[h1 0,Bool.and_true,Bool.and_true]
  unfold fH;rw[h2]
  show(true&&(true&&(true&&(dT a&&dT (dX ⟨0,0,0⟩ a)))))=dT a
  cases h:dT a
  · rfl
  · rw[DS h,h];rfl
theorem JH{N:Nat}(hN:dg<=N)(a:de):r7 N a=some (if dT a then(lO a,true)else([],false)):=by
  unfold r7;rw[show mk dp 5=some (List.replicate 5 kG) from rfl];simp only[RB];rw[show idx (List.replicate 5 kG) 0=some kG from rfl];simp only[RB];rw[show(List.replicate 5 kG).set (0:Int).toNat (dp.mk true (-1) a)=lO a from rfl,qe hN,xU];cases dT a<;>rfl
theorem KK(N:Nat)(a:de):rQ N a=some (if dT a then(lO a,true)else([],false)):=by
  unfold rQ;rw[pC,RB];cases dT a<;>rfl
def PW:bh:=bh.mk (fF.mk []) [] [] (df.mk [] (eS.mk 0 0 0 [])) [] 0 0 (de.mk 0 0 0) 0 0
def lQ(b:er):bh:=bh.mk b.Rg b.own (lO b.fG) nP [] 0 0 (de.mk 0 0 0) 0 0
def tz(b:er):Bool:=dT b.fG&&(fv b.Rg&&jh b.own)
def lS(b:er):bh×Bool:=if tz b then(lQ b,true)else(PW,false)
theorem J6:mK vw:=by show(-9223372036854775808:Int)<=0;decide
theorem Lh{N:Nat}(hN:dg+1<=N){b:er}(hb:fB b<dg):rT N b=some (lS b):=by
  have hN':dg<=N:=Nat.le_of_succ_le hN
  have h1:b.Rg.Rf.length<dg/\b.own.length<dg:=by unfold fB jz at hb;omega
  unfold rT lS tz;simp only[JH hN',uV hN' h1.1,zD hN' h1.2,RB,gX];cases dT b.fG
  · rfl
  cases fv b.Rg
  · rfl
  cases jh b.own
  · rfl
  simp only[if_true,RE,Bool.or_self,RC,Bool.and_self,IF,RB];rw[show cd.mk 0 4 0 0 1000000 0 0 0 0 false ([-1, -1]:List Int) [] []=vw from rfl,A3 hN (by decide) (by decide),zk];simp only[RB,zX h1.1,qF h1.2];rw[show wu N=some (eS.mk 0 0 0 [0]) from rfl];simp only[RB];rw[D0 hN' (by decide) (by decide),Br];rfl
theorem By(b:er):dH (lQ b)=fB b+20:=by
  show jz b.Rg+(b.own.length+((lO b.fG).length+((eQ dA nP.ag+((nP.gc.da.length+0)+0))+(([]:List ez).length+0))))=jz b.Rg+(b.own.length+0)+20
  have h1:eQ dA nP.ag=14:=by decide
  have h2:nP.gc.da.length=1:=by decide
  have h3:(lO b.fG).length=5:=rfl;have h4:([]:List ez).length=0:=rfl;simp only[h1,h2,h3,h4];omega
theorem La{N:Nat}(hN:dg<=N){b:er}(hb:fB b<=1048576):rY N b=some (lS b):=by
  have h1:b.Rg.Rf.length<dg/\b.own.length<dg:=by have:(16777216:Nat)=dg:=rfl;unfold fB jz at hb;omega
  unfold rY lS tz;simp only[KK,va hN h1.1,zz hN h1.2,RB,gX];cases dT b.fG
  · cases fv b.Rg<;>cases jh b.own<;>rfl
  cases fv b.Rg
  · rfl
  cases jh b.own
  · rfl
  simp only[if_true,RE,Bool.or_self,RC,Bool.and_self,I7,RB];rw[show cd.mk 0 4 0 0 1000000 0 0 0 0 false ([-1, -1]:List Int) [] []=vw from rfl,Bw hN (by decide) IN (by decide) J6,zk];simp only[RB];rw[show wy N=some (eS.mk 0 0 0 [0]) from rfl];simp only[RB];rw[D5 hN (by decide) (by decide) LN,Br];simp only[RB];rw[show bh.mk b.Rg b.own (lO b.fG) nP [] 0 0 (de.mk 0 0 0) 0 0=lQ b from rfl,pZ hN (by rw[By];have:(16777216:Nat)=dg:=rfl;omega)];rfl
def WD{α:Type}(o:Option α)(Q:α->Prop):Prop:=∃a,o=some a/\Q a
theorem WD.bind{α β:Type}{o:Option α}{f:α->Option β}{P:α->Prop}{Q:β->Prop}(h:WD o P)(k:∀a,P a->WD (f a) Q):WD (o.bind f) Q:=by
  obtain⟨a,rfl,ha⟩:=h;exact k a ha
theorem WD.step{α β:Type}{o:Option α}{a:α}{f:α->Option β}{Q:β->Prop}(e:o=some a)(k:WD (f a) Q):WD (o.bind f) Q:=by
  rw[e];exact k
theorem WD.ite{α:Type}{c:Bool}{a b:Option α}{Q:α->Prop}(h1:c=true->WD a Q)(h2:c=false->WD b Q):WD (bif c then a else b) Q:=by
  cases c
  · exact h2 rfl
  · exact h1 rfl
theorem WD.ret{α:Type}{a:α}{Q:α->Prop}(h:Q a):WD (some a) Q:=⟨a,rfl,h⟩
theorem WD.mono{α:Type}{o:Option α}{P Q:α->Prop}(h:WD o P)(k:∀a,P a->Q a):WD o Q:=by
  obtain⟨a,e,ha⟩:=h;exact⟨a,e,k a ha⟩
def Ov{σ ρ:Type}(I:σ->Prop)(J:ρ->Prop)(μ:σ->Nat)(m:Nat)(o:σ⊕ρ):Prop:=(∀s',o=.inl s'->I s'/\μ s'<m)/\∀r,o=.inr r->J r
theorem WD.inl{σ ρ:Type}{I:σ->Prop}{J:ρ->Prop}{μ:σ->Nat}{m:Nat}{s:σ}(h1:I s)(h2:μ s<m):WD (some (.inl s:σ⊕ρ)) (Ov I J μ m) :=
  ⟨_,rfl,fun s' e=>by cases Sum.inl.inj e;exact⟨h1,h2⟩,fun r e=>by cases e⟩
theorem WD.inr{σ ρ:Type}{I:σ->Prop}{J:ρ->Prop}{μ:σ->Nat}{m:Nat}{r:ρ}(h:J r):WD (some (.inr r:σ⊕ρ)) (Ov I J μ m) :=
  ⟨_,rfl,fun s' e=>by(cases e),fun r e=>by cases Sum.inr.inj e;exact h⟩
theorem WD.loop{σ ρ:Type}{body:σ->Option (σ⊕ρ)}(I:σ->Prop)(J:ρ->Prop)(μ:σ->Nat){N:Nat}{s:σ}(h0:I s)(hN:μ s<N)(h:∀s,I s->WD (body s) (Ov I J μ (μ s))):WD (iter body N s) J :=
  xe I J μ (fun s hs=>by obtain⟨o,ho,h1,h2⟩:=h s hs;exact⟨o,ho,h1,h2⟩) N s h0 hN
theorem AE{N n:Nat}(hN:dg<=N)(h:n<16777216):n<N:=Nat.lt_of_lt_of_le h hN
theorem im{N:Nat}{b:List U8}{i h:Int}(hb:b.length<=1048576)(hi:0<=i)(n:Int)(hn:0<n):WD (dR N ⟨b,i,h⟩ n) (fun r=>0<=r.2.i/\0<=r.1/\r.1<n):=by
  obtain⟨x,i',h',e,a1,a2,a3,_⟩:=sU (N:=N) (c:=⟨b,i,h⟩) ⟨hb,hi⟩ n;exact⟨_,e,a1,a2,a3 hn⟩
theorem m4{N:Nat}{b:List U8}{i h:Int}(hb:b.length<=1048576)(hi:0<=i)(n:Int):WD (gT N ⟨b,i,h⟩ n) (fun r=>0<=r.2.i):=by
  obtain⟨x,i',h',e,a1⟩:=FQ (N:=N) (c:=⟨b,i,h⟩) ⟨hb,hi⟩ n;exact⟨_,e,a1⟩
theorem zB{N:Nat}{b:List U8}{i h:Int}(hb:b.length<=1048576)(hi:0<=i){l:List Int}(hl:0<l.length):WD (gV N ⟨b,i,h⟩ l) (fun r=>0<=r.2.i/\r.1∈l):=by
  obtain⟨x,i',h',e,a1,a2⟩:=yh (N:=N) (c:=⟨b,i,h⟩) ⟨hb,hi⟩ hl;exact⟨_,e,a1,a2⟩
theorem oo{α:Type}{l:List α}{i:Int}(h0:0<=i)(h1:i<(l.length:Int)):WD (idx l i) (fun y=>y∈l):=by
  obtain⟨y,e,hy⟩:=yx h0 h1;exact⟨y,e,hy⟩
theorem Mt{N:Nat}(hN:dg<=N){b:List U8}{i h:Int}(hb:b.length<=1048576)(hi:0<=i):WD (nJ N ⟨b,i,h⟩) (fun r=>0<=r.2.i/\fv r.1=true):=by
  obtain⟨x,i',h',e,a1,a2,a3⟩:=Hi (N:=N) hN (c:=⟨b,i,h⟩) ⟨hb,hi⟩;refine⟨_,e,a1,?_⟩;unfold fv;simp only[RG,beq_iff_eq,List.all_eq_true,dI];exact⟨by omega,a3⟩
theorem O0{N:Nat}(hN:dg<=N){b:List U8}{i h:Int}(hb:b.length<=1048576)(hi:0<=i):WD (sW N ⟨b,i,h⟩) (fun r=>0<=r.2.i/\r.1.length<=5):=by
  obtain⟨x,i',h',e,a1,a2⟩:=PX (N:=N) hN (c:=⟨b,i,h⟩) ⟨hb,hi⟩;exact⟨_,e,a1,a2⟩
theorem JS{N:Nat}{b:List U8}{i h:Int}(hb:b.length<=1048576)(hi:0<=i):WD (sM N ⟨b,i,h⟩) (fun r=>0<=r.2.i):=by
  obtain⟨x,i',h',e,a1⟩:=P4 (N:=N) (c:=⟨b,i,h⟩) ⟨hb,hi⟩;exact⟨_,e,a1⟩
theorem F8{N:Nat}(hN:dg<=N){b:List U8}{i h:Int}(hb:b.length<=1048576)(hi:0<=i):WD (sF N ⟨b,i,h⟩) (fun r=>0<=r.2.i/\r.1.Rf.length<=5):=by
  obtain⟨x,i',h',e,a1,a2⟩:=Ic (N:=N) hN (c:=⟨b,i,h⟩) ⟨hb,hi⟩;exact⟨_,e,a1,a2⟩
theorem vl{l:fF}(h:fv l=true):l.Rf.length=4:=by
  unfold fv at h;simp only[RG,beq_iff_eq]at h;omega
theorem G6{N:Nat}(hN:dg<=N){b:List U8}{i h:Int}(hb:b.length<=1048576)(hi:0<=i):WD (pf N ⟨b,i,h⟩) (fun r=>0<=r.2.i/\tz r.1=true/\fB r.1<=100/\(0<=r.1.fG.c6/\r.1.fG.c6<=1000)/\(0<=r.1.fG.dh/\r.1.fG.dh<=1000)/\(0<=r.1.fG.du/\r.1.fG.du<=1000)):=by
  unfold pf;dsimp only;refine WD.bind (Mt hN hb hi) fun l ⟨l1,l2⟩=>WD.bind (im hb l1 25 (by decide)) fun x ⟨x1,x2,x3⟩=>WD.bind (im hb x1 900 (by decide)) fun y ⟨y1,y2,y3⟩=>WD.bind (im hb y1 60 (by decide)) fun z ⟨z1,z2,z3⟩=>WD.ret ⟨z1,?_,?_,⟨by dsimp only;omega,by dsimp only;omega⟩,⟨by dsimp only;omega,by dsimp only;omega⟩,⟨by dsimp only;omega,by dsimp only;omega⟩⟩
  · unfold tz dT uW;simp only[RG,dI];exact⟨⟨by omega,by omega,by omega⟩,l2,rfl⟩
  · have:=vl l2;unfold fB jz;simp only[List.length_nil];omega
theorem NZ{N:Nat}{b:List U8}{i h:Int}(hb:b.length<=1048576)(hi:0<=i):WD (uQ N ⟨b,i,h⟩) (fun r=>0<=r.2.i):=by
  unfold uQ;dsimp only;exact WD.bind (m4 hb hi 8) fun y y1=>WD.ite (fun _=>WD.bind (zB hb y1 (by decide)) fun z ⟨z1,_⟩=>WD.ret z1) fun _=>WD.bind (im hb y1 400 (by decide)) fun z ⟨z1,_,_⟩=>WD.ret z1
theorem CU{N:Nat}(hN:dg<=N){b:List U8}{i h:Int}(hb:b.length<=1048576)(hi:0<=i)(p:bh)(me:Int):WD (ka N ⟨b,i,h⟩ p me) (fun r=>0<=r.2.i):=by
  unfold ka;dsimp only;refine WD.bind (P:=fun j=>0<=j.2.1/\(j.1=false->(p.heap.ag.length:Int)=10)) ?_ fun j ⟨hj,hl⟩=>?_
  · refine WD.ite (fun _=>WD.ret ⟨hi,by simp⟩) fun c=>WD.bind (m4 hb hi 15) fun y y1=>WD.ret ⟨y1,fun _=>by simpa using c⟩
  refine WD.ite (fun _=>WD.bind (NZ hb hj) fun y y1=>WD.ret y1) fun c=>?_;have hl:=hl c;refine WD.bind (im hb hj 10 (by decide)) fun y ⟨y1,y2,y3⟩=>?_;refine WD.bind (WD.loop (fun s=>0<=s.1/\s.1<10/\0<=s.2.1/\s.2.1<=4/\0<=s.2.2.1) (fun r=>0<=r.1/\r.1<10/\0<=r.2.2.1) (fun s=>(4-s.2.1).toNat) ⟨y2,y3,Int.le_refl _,by simp,y1⟩ (AE hN (by simp)) ?_) fun r ⟨r1,r2,r3⟩=>?_
  · rintro⟨k,n,i,h⟩ ⟨s1,s2,s3,s4,s5⟩;dsimp only at *;refine WD.bind (P:=fun j=>j=true->n<4) ?_ fun j hj=>WD.ite (fun c=>?_) fun _=>WD.inr ⟨s1,s2,s5⟩
    · refine WD.ite (fun c=>?_) fun _=>WD.ret (by simp);exact WD.bind (oo s1 (by omega)) fun y _=>WD.ret fun _=>of_decide_eq_true c
    · have:=hj c;rw[dE (n:=n+1) (by omega) (by omega)];exact WD.bind (im hb s5 10 (by decide)) fun y ⟨y1,y2,y3⟩=>WD.inl ⟨y2,y3,by dsimp only;omega,by dsimp only;omega,y1⟩ (by dsimp only;omega)
  · exact WD.bind (oo r1 (by omega)) fun z _=>WD.bind (m4 hb r3 20) fun y y1=>WD.bind (P:=fun _=>True) (WD.ite (fun _=>WD.ret trivial) fun _=>WD.ret trivial) fun j _=>WD.step (tb _ _ _ _) (WD.ret y1)
theorem I9{N:Nat}(hN:dg<=N){b:List U8}{i h:Int}(hb:b.length<=1048576)(hi:0<=i){p:bh}(hp:p.heap.ag.length<=1000000)(me k:Int):WD (mo N ⟨b,i,h⟩ p me k) (fun r=>0<=r.2.i):=by
  unfold mo;dsimp only;refine WD.bind (WD.loop (fun s=>0<=s.1/\s.1<=(p.heap.ag.length:Int)/\0<=s.2.1) (fun r=>Sum.elim (fun s=>0<=s.2.1) (fun r=>0<=r.2.i) r) (fun s=>((p.heap.ag.length:Int)-s.1).toNat) ⟨Int.le_refl _,by dsimp only;omega,hi⟩ (AE hN (by dsimp only;omega)) ?_) fun r hr=>?_
  · rintro⟨k,i,h⟩ ⟨s1,s2,s3⟩;dsimp only at *;refine WD.ite (fun c=>?_) (fun c=>WD.inr s3);have c:=of_decide_eq_true c;rw[dE (n:=k+1) (by omega) (by omega)];refine WD.bind (P:=fun j=>0<=j.2.1) ?_ fun j hj=>WD.ite (fun _=>?_) fun _=>WD.inl ⟨by dsimp only;omega,by dsimp only;omega,hj⟩ (by dsimp only;omega)
    · exact WD.bind (oo s1 c) fun y _=>WD.ite (fun _=>WD.bind (m4 hb s3 2) fun z z1=>WD.ret z1) fun _=>WD.ret s3
    · exact WD.bind (oo s1 c) fun y _=>WD.step (tb _ _ _ _) (WD.inr hj)
  · cases r with
    | inl s =>
      simp only[Sum.elim_inl]at *;exact WD.bind (CU hN hb hr _ _) fun y y1=>WD.ret y1
    | inr s =>
      simp only[Sum.elim_inr]at *;exact WD.ret hr
theorem Oe{N:Nat}(hN:dg<=N){b:List U8}{i h:Int}(hb:b.length<=1048576)(hi:0<=i){p:bh}(hp:p.heap.ag.length<=1000000)(me:Int):WD (rm N ⟨b,i,h⟩ p me) (fun r=>0<=r.2.i):=by
  unfold rm;dsimp only;refine WD.bind (im hb hi 17 (by decide)) fun k ⟨k1,_,_⟩=>WD.bind (m4 hb k1 3) fun m m1=>WD.bind (P:=fun _=>True) (WD.ite (fun _=>WD.ret trivial) fun _=>WD.ret trivial) fun j _=>WD.bind (P:=fun j=>0<=j.1) ?_ fun j hj=>WD.bind (im hb hj 40 (by decide)) fun n ⟨n1,_,_⟩=>WD.bind (P:=fun j=>0<=j.1) ?_ fun j hj=>WD.ret hj
  · repeat' first
      | exact WD.ret (by assumption)
      | exact WD.ret trivial
      | refine WD.ite (fun _=>?_) (fun _=>?_)
      | refine WD.bind (im hb (by assumption) _ (by decide)) fun y ⟨_,_,_⟩=>?_
      | refine WD.bind (zB hb (by assumption) (by decide)) fun y ⟨_,_⟩=>?_
      | refine WD.bind (CU hN hb (by assumption) _ _) fun y _=>?_
      | refine WD.bind (I9 hN hb (by assumption) hp _ _) fun y _=>?_
      | refine WD.bind (P:=fun(_:Bool)=>True) ?_ fun y _=>?_
  · repeat' first
      | exact WD.ret (by assumption)
      | refine WD.ite (fun _=>?_) (fun _=>?_)
      | refine WD.bind (zB hb (by assumption) (by decide)) fun y ⟨_,_⟩=>?_
theorem OW{N:Nat}(hN:dg<=N){l:List U8}(hl:l.length<=1048576):WD (sQ N l) (fun r=>0<=r.i):=by
  obtain⟨h,e⟩:=Qg hN hl;exact⟨_,e,Int.le_refl _⟩
def iM(b:List er):List bh:=b.map fun x=>(lS x).1
def fI(b:List er):dq:=if iT b then⟨0,iM b⟩else⟨0,[]⟩
theorem HB{N:Nat}(hN:dg<=N){b:List er}(hl:b.length<dg){F:er->Option (bh×Bool)}(hF:∀y,y∈b->F y=some (lS y)):
    iter (fun(s10:Int×(List bh))=>(bif(decide (s10.1<(b.length:Int)))then((idx b s10.1).bind fun y13=>(F y13).bind fun y28=>(app s10.2 [y28.1]).bind fun y45=>some (.inl (IntKind.i64.wrap (s10.1+1),y45)))else(some (.inr (s10.1,s10.2))):Option ((Int×(List bh))⊕(Int×(List bh))))) N (0,[])=some ((b.length:Int),iM b):=by
  have e:∀(l:List er) (k:Nat) (acc:List bh),foldI (fun _ (acc:List bh) y=>acc++[(lS y).1]) k acc l=acc++iM l:=by
    intro l
    induction l with
    | nil=>intro k acc;simp[foldI,iM]
    | cons y l ih=>intro k acc;unfold foldI;rw[ih];simp[iM]
  rw[show((0:Int),([]:List bh))=(fun(k:Nat) (t:List bh)=>((k:Int),t)) 0 [] from rfl,
    gC b (fun(k:Nat) (t:List bh)=>((k:Int),t)) (fun _ acc y=>acc++[(lS y).1]) (fun t=>((b.length:Int),t)) (fun k t=>t.length<=k) ?_ ?_ (Nat.lt_of_lt_of_le hl hN) (by simp),e]
  · simp
  · intro k t y hy hk ht;refine⟨?_,by simp;omega⟩;simp only[eD hk,RD,dQ,hy,RB,hF y (List.mem_of_getElem? hy),eL (Nat.lt_trans hk hl),gE ht (Nat.lt_of_le_of_lt hk hl)]
  · intro t _;simp only[eE,RC]
theorem Jl{N:Nat}(hN:dg+1<=N){b:List er}(hb:eQ fB b<dg):qg N b=some (fI b):=by
  have hN':dg<=N:=Nat.le_of_succ_le hN;unfold qg fI;rw[FJ hN' hb,RB];cases iT b
  · rfl
  · simp only[RE,RC,if_true];rw[HB hN' (gW hb) fun y hy=>Lh hN (fN hb hy)];rfl
theorem Ia{N:Nat}(hN:dg<=N){b:List er}(hb:eQ fB b<=1048576):pO N b=some (fI b):=by
  have hb':eQ fB b<dg:=small hb;unfold pO fI;rw[Es hN hb',RB];cases iT b
  · rfl
  · simp only[RE,RC,if_true];rw[HB hN (gW hb') fun y hy=>La hN (Nat.le_of_lt_succ (fN (Nat.lt_succ_of_le hb) hy))];rfl
structure Bq (b:er):Prop where
  ok:tz b=true
  sz:fB b<=1000
  pg:0<=b.fG.c6/\b.fG.c6<=1000
  rt:0<=b.fG.dh/\b.fG.dh<=1000
  cp:0<=b.fG.du/\b.fG.du<=1000
theorem Bq.Rb{l:List Int}{o:List Int}{b:er}(h:Bq b)(hl:fv ⟨l⟩=true)(ho:jh o=true)(h5:o.length<=100):Bq ⟨⟨l⟩,o,b.fG⟩:=by
  have h4:=vl hl;have h4:l.length=4:=h4;refine⟨?_,?_,h.pg,h.rt,h.cp⟩
  · have:=h.ok;unfold tz at *;simp only[RG]at *;exact⟨this.1,hl,ho⟩
  · unfold fB jz;simp only[h4];omega
theorem g6{k:Int}(h0:0<=k)(h4:k<4):jh [k]=true:=by
  have:k=0\/k=1\/k=2\/k=3:=by omega
  rcases this with rfl|rfl|rfl|rfl<;>decide
theorem Kw{l:List Int}(h:fv ⟨l⟩=true){k:Nat}{y:Int}(h0:0<=y)(h3:y<=3):fv ⟨l.set k y⟩=true:=by
  unfold fv at *;simp only[RG,List.length_set,List.all_eq_true,dI]at *;refine⟨h.1,fun z hz=>?_⟩
  rcases List.mem_or_eq_of_mem_set hz with q|rfl
  · exact h.2 z q
  · exact⟨h0,h3⟩
theorem Lt{l:List Int}(h:fv ⟨l⟩=true){y:Int}(hy:y∈l):0<=y/\y<=3:=by
  unfold fv at h;simp only[RG,List.all_eq_true,dI]at h;exact h.2 y hy
theorem DM{N:Nat}(hN:dg<=N){b:List U8}{i h:Int}(hb:b.length<=1048576)(hi:0<=i):WD (pd N ⟨b,i,h⟩) (fun r=>0<=r.2.i/\1<=r.1.length/\r.1.length<=3/\∀x,x∈r.1->Bq x):=by
  unfold pd;dsimp only;have hB:(16777216:Nat)=dg:=rfl;refine WD.bind (im hb hi 3 (by decide)) fun n ⟨n1,n2,n3⟩=>?_;rw[dE (n:=1+n.1) (by omega) (by omega)];refine WD.bind (WD.loop (fun s=>0<=s.2.1/\(s.1.length:Int)+s.2.1=1+n.1/\0<=s.2.2.1/\fv ⟨s.2.2.2.2⟩=true/\∀x,x∈s.1->Bq x) (fun r=>1<=r.1.length/\r.1.length<=3/\0<=r.2.2.1/\∀x,x∈r.1->Bq x) (fun s=>s.2.1.toNat) ⟨by dsimp only;omega,by simp,n1,show fv ⟨[0,0,0,0]⟩=true by decide,by simp⟩ (AE hN (by dsimp only;omega)) ?_) fun r ⟨r1,r2,r3,r4⟩=>WD.ret ⟨r3,r1,r2,r4⟩;rintro⟨l,k,i,h,lab⟩ ⟨s1,s2,s3,s4,s5⟩;dsimp only at *;refine WD.ite (fun c=>?_) (fun c=>WD.inr ?_)
  · have c:=of_decide_eq_true c;rw[dE (n:=k-1) (by omega) (by omega)];refine WD.bind (G6 hN hb s3) fun q ⟨q1,q2,q3,q4,q5,q6⟩=>?_;have hq:Bq q.1:=⟨q2,Nat.le_trans q3 (by decide),q4,q5,q6⟩
    have hq2:fv ⟨q.1.Rg.Rf⟩=true/\jh q.1.own=true:=by
      have:=q2;unfold tz at this;simp only[RG]at this;exact this.2
    have hlab:lab.length=4:=vl s4;refine WD.bind (m4 hb q1 3) fun y y1=>WD.bind (P:=fun(j:(List Int)×(List Int))=>fv ⟨j.2⟩=true) (WD.ite (fun _=>WD.step (fX (by omega)) (WD.ret s4)) fun _=>WD.ret hq2.1) fun j j1=>?_;have hj4:j.2.length=4:=vl j1;refine WD.bind (m4 hb y1 2) fun z z1=>WD.bind (P:=fun(m:Int×Int×(List Int))=>0<=m.1/\fv ⟨m.2.2⟩=true) (WD.ite (fun _=>?_) fun _=>WD.ret ⟨z1,j1⟩) fun m ⟨m1,m2⟩=>?_
    · refine WD.bind (im hb z1 4 (by decide)) fun u ⟨u1,u2,u3⟩=>WD.step (fX (by omega)) (WD.bind (oo u2 (by omega)) fun v hv=>WD.step rfl (WD.ret ⟨u1,?_⟩));have:=Lt j1 hv;rw[dE (n:=v+1) (by omega) (by omega)];exact Kw j1 (by split<;>omega) (by split<;>omega)
    · refine WD.bind (m4 hb m1 6) fun u u1=>WD.bind (P:=fun(m:Int×Int×(List Int))=>0<=m.1/\jh m.2.2=true/\m.2.2.length<=100) (WD.ite (fun _=>WD.bind (im hb u1 4 (by decide)) fun v ⟨v1,v2,v3⟩=>WD.ret ⟨v1,g6 v2 v3,by simp⟩) fun _=>WD.ret ⟨u1,hq2.2,by unfold fB at q3;dsimp only;omega⟩) fun o ⟨o1,o2,o3⟩=>?_;refine WD.step (wZ (by omega)) (WD.inl ⟨by dsimp only;omega,by simp only[List.length_append,List.length_cons,List.length_nil];omega,o1,m2,fun x hx=>?_⟩ (by dsimp only;omega))
      rcases List.mem_append.1 hx with hx|hx
      · exact s5 x hx
      · rw[List.mem_singleton]at hx;rw[hx];exact hq.Rb j1 o2 o3
  · have c:=of_decide_eq_false c;exact⟨by dsimp only;omega,by dsimp only;omega,s3,s5⟩
theorem CI{p:bh}(hp:hD p){now me h:Int}(n:Int):qb p (tM p (dt p.heap.ag now me h) n):=by
  unfold tM;have hg:=pt (l:=p.heap.ag) (now:=now) (me:=me) (h:=h) hp.ar.len;generalize dt p.heap.ag now me h=g at *;cases q:lh p.heap.ag g
  · exact mX rfl rfl rfl (by show eQ dA p.heap.ag<=_;omega) (Nat.le_succ _) (Nat.le_refl _) hp.w rfl
  · unfold lh at q;simp only[RG,decide_eq_true_eq]at q;have hl:=hp.ar.len;have g9:=hg q.1;have ho:=nm hp.ar q.1 (by omega);have hwi:mK (nth p.heap.ag g):=hp.w _ (gy q.1 g9);refine mX rfl rfl rfl (Nat.le_trans (u5 ?_) (by omega)) (Nat.le_succ _) (Nat.le_refl _) (iS hp.w hwi) List.length_set;unfold dA at ho;unfold dA kZ;simp only[List.length_append,List.length_cons,List.length_nil];omega
theorem Ho{p:bh}(hp:hD p)(t:ez):qb p (ue p (p.dc++[t])):=by
  refine⟨?_,hp.w,rfl⟩;unfold dH ue;simp only[List.length_append,List.length_cons,List.length_nil];omega
theorem HH{w:dq}(hw:Wq w)(p th:Int)(c:dG):(ik w p th c).1=w\/∃q z,eJ w q=true/\qb (nth w.parts q) z/\(ik w p th c).1=la w q z:=by
  unfold ik;cases hok:!eP w || !eJ w p
  case true=>exact .inl rfl
  have hok:eP w=true/\eJ w p=true:=by simpa using hok
  obtain⟨ok,hp⟩:=hok;obtain⟨p1,p2⟩:=fe hp;have pp:=hw.BA ok p2;cases hc:iX (nth w.parts p) w.Rn th
  case false=>exact .inl rfl
  cases ho:decide (other w p c<0)
  case true=>exact .inl rfl
  have hq:=qv ho;generalize other w p c=q at *;obtain⟨q1,q2⟩:=fe hq;have pq:=hw.BA ok q2;simp only[RC,RE]
  have f3:∀r:Int×Int×dq,(rf r).1=r.2.2:=fun r=>by unfold rf;cases r.1 != 0<;>rfl
  cases c.so==7
  case true=>rw[RD,f3,BF];exact .inl rfl
  cases c.so==17
  case true =>
    rw[RC,RD,f3];unfold rN;cases dy c.b 0 999
    case false=>exact .inl rfl
    cases mg w p p q
    case false=>exact .inl rfl
    exact .inr ⟨q,_,hq,CI pq c.b,rfl⟩
  cases c.so==16
  case true =>
    rw[RC,RC,RD,f3];unfold wz;cases decide (c.d<0) || !ig (pF c)
    case true=>exact .inl rfl
    cases mg w p p q
    case false=>exact .inl rfl
    cases ei (nth w.parts p).Rh c.a
    case false=>exact .inl rfl
    cases decide (((nth w.parts p).dc.length:Int)>=3)
    case true=>exact .inl rfl
    exact .inr ⟨p,_,hp,Ho pp (pF c),rfl⟩
  have h:=Hm pp.sz pp.w p w.Rn th c;exact .inr ⟨p,_,hp,⟨h.1,h.2,EI pp.sz pp.w p w.Rn th c⟩,rfl⟩
def u9(p:bh)(t:Int):bh:=bh.mk p.Rg p.own p.Rh p.heap p.dc p.Rr (IntKind.i64.wrap (t+1)) p.db p.dx p.Rp
def uG(w:dq)(e:dY):dq:=bif eP w&&(eJ w e.py&&dy e.dS 0 9)then la w e.py (u9 (nth w.parts e.py) e.dS)else w
def mJ(w:dq)(e:dY):dq×dD :=
  bif e.so==1 then(tick w,dD.mk 0 0)else bif e.so==2 then ik w e.py e.dS e.call else bif e.so==3 then(uG w e,dD.mk 0 0)else(w,dD.mk 2 0)
structure Wt (w:dq):Prop where
  q:Wq w
  t:eP w=true->tK w.parts.length 0 (dq.mk (IntKind.i64.wrap (w.Rn+1)) w.parts)
theorem Px{N:Nat}(hN:dg+1<=N){w:dq}(hw:Wt w)(e:dY):vB N w e=some (mJ w e):=by
  have hN':dg<=N:=Nat.le_of_succ_le hN;have hb:=hw.q.lU;unfold vB mJ;cases e.so==1
  case true=>simp only[RD,Od hN' hb hw.q.w hw.t,RB]
  cases e.so==2
  case true=>simp only[RD,RC,GJ hN hw.q,RB]
  cases e.so==3
  case false=>simp only[RC,rA hN' hb,RB]
  simp only[RD,RC,rA hN' hb,uU hN' hb,uN (gW hb),sn,RB];unfold uG;cases eP w
  · rfl
  cases hp:eJ w e.py
  · rfl
  cases dy e.dS 0 9
  · rfl
  simp only[RD,Bool.and_self,RB,(fe hp).1];rfl
theorem Pj{N:Nat}(hN:dg<=N){w:dq}(hw:Wt w)(e:dY):wh N w e=some (mJ w e):=by
  have hb:=hw.q.lU;have hl:w.parts.length<16777216:=gW hb;unfold wh mJ;cases e.so==1
  case true=>simp only[RD,N4 hN hb hw.q.w hw.t,RB]
  cases e.so==2
  case true=>simp only[RD,RC,GP hN hw.q,RB]
  cases e.so==3
  case false=>simp only[RC,uJ hN hb,RB]
  simp only[RD,RC,uJ hN hb,sL hN hb hw.q.w,jK,pM,RB];rw[dE (by omega) (by omega),show dy e.py 0 ((w.parts.length:Int)-1)=eJ w e.py from rfl];unfold uG;cases eP w
  · rfl
  cases hp:eJ w e.py
  · rfl
  cases dy e.dS 0 9
  · rfl
  simp only[RD,Bool.and_self,RB,(fe hp).1];rfl
theorem B2(w:dq)(e:dY):uG w e=w\/(eP w=true/\eJ w e.py=true/\(0<=e.dS/\e.dS<=9)/\uG w e=la w e.py (u9 (nth w.parts e.py) e.dS)):=by
  unfold uG;cases h:eP w&&(eJ w e.py&&dy e.dS 0 9)
  · exact .inl rfl
  · simp only[RG,dI]at h;exact .inr ⟨h.1,h.2.1,h.2.2,rfl⟩
structure Sg (c:Nat) (w:dq):Prop where
  len:w.parts.length<=3
  sz:∀p,p∈w.parts->dH p<=c/\wP p
theorem Sg.mono{c d:Nat}{w:dq}(h:Sg c w)(hd:c<=d):Sg d w:=⟨h.len,fun p hp=>⟨Nat.le_trans (h.sz p hp).1 hd,(h.sz p hp).2⟩⟩
theorem Sg.lU{c:Nat}{w:dq}(h:Sg c w)(hc:c<=1048576):eQ dH w.parts<dg:=by
  have hB:(16777216:Nat)=dg:=rfl;have h1:mR dH w.parts<=c*w.parts.length:=vx fun y hy=>(h.sz y hy).1;have h4:c*w.parts.length<=1048576*3:=Nat.mul_le_mul hc h.len;have:=h.len;unfold eQ;omega
theorem Sg.t{c:Nat}{w:dq}(h:Sg c w)(hc:c<=1048576):Wt w :=
  ⟨⟨h.lU hc,fun p hp=>by have:=(h.sz p hp).1;omega,fun p hp=>(h.sz p hp).2⟩,fun hw=>⟨rfl,(Ca hw).2.1,fun p hp=>⟨by have:=(h.sz p hp).1;omega,(h.sz p hp).2⟩⟩⟩
theorem Sg.dc{c:Nat}{t:dq}(h:Sg c t)(p:Int):Sg c (dC t p)/\(dC t p).parts.length=t.parts.length:=by
  obtain⟨_,h2,h3⟩:=zh t p;refine⟨⟨by rw[h2];exact h.len,fun q hq=>?_⟩,h2⟩;obtain⟨y,hy,e1,e2⟩:=h3 q hq;obtain⟨a,b⟩:=h.sz y hy;exact⟨by omega,by unfold wP at *;rw[e2];exact b⟩
theorem Sg.step{c n k:Nat}{t:dq}(h:Sg c t)(hk:k<t.parts.length)(hc:c<=2000000):Sg (c+1300) (iP n k t)/\(iP n k t).parts.length=t.parts.length:=by
  obtain⟨hT,hl⟩:=h.dc (k:Int)
  have e:(iP n k t).parts.length=t.parts.length:=by
    show((dC t (k:Int)).parts.set k _).length=_
    rw[List.length_set];exact hl
  refine⟨⟨by rw[e];exact h.len,fun q hq=>?_⟩,e⟩
  rcases List.mem_or_eq_of_mem_set (show q∈(dC t (k:Int)).parts.set k _ from hq)with h1|h1
  · obtain⟨a,b⟩:=hT.sz q h1;exact⟨by omega,b⟩
  · subst h1;obtain⟨a,b⟩:=hT.sz _ (gy (l:=(dC t (k:Int)).parts) (i:=(k:Int)) (by omega) (by omega));exact wN (n:=n) a (by omega) b (k:Int) (dC t (k:Int)).Rn
theorem M4{n:Nat}:∀(l:List bh) (k c:Nat) (t:dq),k+l.length=t.parts.length->c+1300*l.length<=2000000->Sg c t->Sg (c+1300*l.length) (foldI (fun k t (_:bh)=>iP n k t) k t l)
  | [],k,c,t,_,_,h=>h
  | y::l,k,c,t,hk,hc,h=>by
    simp only[List.length_cons]at hk hc⊢;obtain⟨a,b⟩:=h.step (n:=n) (k:=k) (by omega) (by omega);have:=M4 (n:=n) l (k+1) (c+1300) (iP n k t) (by omega) (by omega) a;exact this.mono (by omega)
theorem Sg.tick{c:Nat}{w:dq}(h:Sg c w)(hc:c<=1000000):Sg (c+3900) (tick w):=by
  unfold Kx.tick;split
  · have hl:=h.len;exact(M4 w.parts 0 c (dq.mk (IntKind.i64.wrap (w.Rn+1)) w.parts) (by dsimp only;omega) (by omega) ⟨h.len,h.sz⟩).mono (by omega)
  · exact h.mono (by omega)
theorem Sg.put{c:Nat}{w:dq}(h:Sg c w){q:Int}{z:bh}(hz:dH z<=c+300/\wP z):Sg (c+300) (la w q z):=by
  refine⟨by show(w.parts.set _ _).length<=3;rw[List.length_set];exact h.len,fun y hy=>?_⟩
  rcases List.mem_or_eq_of_mem_set (show y∈w.parts.set q.toNat z from hy)with a|rfl
  · have:=h.sz y a;exact⟨by omega,this.2⟩
  · exact hz
theorem Sg.mJ{c:Nat}{w:dq}(h:Sg c w)(hc:c<=1000000)(e:dY):Sg (c+3900) (mJ w e).1:=by
  unfold Kx.mJ;cases e.so==1
  case true=>exact h.tick hc
  cases e.so==2
  case true =>
    show Sg (c+3900) (ik w e.py e.dS e.call).1
    rcases HH (h.t (by omega)).q e.py e.dS e.call with q|⟨q,z,hq,hn,e2⟩
    · rw[q];exact h.mono (by omega)
    · rw[e2];have:=h.sz _ (fe hq).2;have:=hn.sz;exact(h.put ⟨by omega,hn.w⟩).mono (by omega)
  cases e.so==3
  case false=>exact h.mono (by omega)
  show Sg (c+3900) (uG w e)
  rcases B2 w e with q|⟨_,hp,_,q⟩
  · rw[q];exact h.mono (by omega)
  · rw[q];have:=h.sz _ (fe hp).2;have h3:dH (u9 (nth w.parts e.py) e.dS)=dH (nth w.parts e.py):=rfl;have h4:=this.1;exact(h.put (q:=e.py) (z:=u9 (nth w.parts e.py) e.dS) ⟨by omega,this.2⟩).mono (by omega)
def kY(t:dq×List dD)(e:dY):dq×List dD:=((mJ t.1 e).1,t.2++[(mJ t.1 e).2])
def Av(w:dq)(l:List dY):dq×List dD:=l.foldl kY (w,[])
def jj(b:List er)(l:List dY):dq×List dD:=bif !iT b || decide ((l.length:Int)>200)then(dq.mk 0 [],[])else Av (fI b) l
theorem HP{α τ:Type}(f:τ->α->τ):∀(l:List α) (k:Nat) (t:τ),foldI (fun _ t y=>f t y) k t l=l.foldl f t
  | [],_,_=>rfl
  | y::l,k,t=>HP f l (k+1) (f t y)
structure Pl (c k:Nat) (t:dq×List dD):Prop where
  sg:Sg (c+3900*k) t.1
  len:t.2.length=k
theorem Pl.step{c k:Nat}{t:dq×List dD}(h:Pl c k t)(hc:c<=200000)(hk:k<200)(e:dY):Pl c (k+1) (kY t e) :=
  ⟨(h.sg.mJ (by omega) e).mono (by omega),by show(t.2++[_]).length=_;rw[List.length_append,h.len];rfl⟩
theorem yV:∀(l:List er) (a:de),nQ a l=true->∀x,x∈l->tz x=true
  | [],_,_,x,hx=>by simp at hx
  | y::l,a,h,x,hx=>by
    unfold nQ at h;simp only[RG]at h
    rcases List.mem_cons.1 hx with rfl|hx
    · have ha:dT x.fG=true:=by
        have:=h.1;unfold gn at this;split at this
        · rename_i q;simp only[RG]at q;exact q.1.2
        · simp at this
      unfold tz;rw[ha,h.2.1,h.2.2.1];rfl
    · exact yV l _ h.2.2.2 x hx
theorem K7{l:List Int}(h:jh l=true):∀(k:Nat) (y:Int),l[k]?=some y->(k:Int)<=y/\y<=3
  | 0,y,hy=>by
    have:=jL.1 h 0 y hy;unfold vT at this;simp only[RG,dI]at this;omega
  | k+1,y,hy=>by
    have hk:=eA hy;have h0:=K7 h k l[k] (List.getElem?_eq_getElem (by omega));have:=jL.1 h (k+1) y hy;unfold vT at this;simp only[RG,dI,Nat.zero_add]at this;have h2:=this.2;simp[List.getElem?_eq_getElem (show k<l.length by omega)]at h2;omega
theorem eV{l:List Int}(h:jh l=true):l.length<=4:=by
  by_cases q:l.length<=4
  · exact q
  · have:=K7 h 4 l[4] (List.getElem?_eq_getElem (by omega));omega
theorem Pc{b:er}(h:tz b=true):fB b<=100:=by
  unfold tz at h;simp only[RG]at h;have h1:=(ru.1 h.2.1).1;have h2:=eV h.2.2;unfold fB jz;omega
theorem Np{b:List er}(h:iT b=true):Sg 200 (fI b):=by
  unfold fI;rw[if_pos h];unfold iT at h;rw[RG,dI]at h;have hk:=yV b _ h.1;refine⟨by show(iM b).length<=3;unfold iM;rw[List.length_map];omega,fun p hp=>?_⟩;obtain⟨x,hx,rfl⟩:=List.mem_map.1 (show p∈b.map _ from hp);have ok:=hk x hx;rw[show(lS x).1=lQ x from by unfold lS;rw[if_pos ok]];refine⟨?_,fun o ho=>?_⟩
  · rw[By];have:=Pc ok;omega
  · have:∀o∈KV, -9223372036854775808<=o.Ro:=by decide
    exact this o ho
end Go.Kx
