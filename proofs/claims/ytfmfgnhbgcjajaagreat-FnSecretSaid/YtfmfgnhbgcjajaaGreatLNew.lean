import Derived.Test.YtfmfgnhbgcjajaaGreatLWorld
namespace Go.Kx
open Go
open Go.IntKind (i64)
set_option linter.unusedVariables false
set_option linter.unusedSimpArgs false
set_option maxRecDepth 10000
def sa:List c6:=(List.replicate 10 (blank 0)).set 0 (c6.mk 0 1 (-1) 0 1000000 0 0 0 0 false [-1, -1] [] [])
def vg:c6:=c6.mk 0 4 0 0 1000000 0 0 0 0 false [-1, -1] [] []
def Bm:List c6:=sa.set 1 (gD vg 1)
def Kk:List c6:=sa.set 1 (marked (gD vg 1) true)
theorem I8(N:Nat):tu N=some sa:=rfl
theorem Jl(N:Nat):tw N=some sa:=rfl
theorem xV:gT sa vg=(Bm,1):=by decide
theorem IE:wA sa:=by
  intro o ho
  have:∀o∈sa, -9223372036854775808<=o.Ry:=by decide
  exact this o ho
theorem L5:wA Bm:=by
  intro o ho
  have:∀o∈Bm, -9223372036854775808<=o.Ry:=by decide
  exact this o ho
def pb:dm:=dm.mk Kk (eS.mk 0 0 0 [0])
theorem AE:km (dm.mk Bm (eS.mk 0 0 0 [0])) 1=pb:=by decide
def lE(a:de):List dj:=(List.replicate 5 kh).set 0 (dj.mk true (-1) a)
theorem D7{a:de}(h:dP a=true):dU ⟨0,0,0⟩ a=a:=by
  unfold dP uQ at h;simp only[RP,dI]at h;unfold dU;simp only[Int.zero_add];rw[dB (by omega) (by omega),dB (by omega) (by omega),dB (by omega) (by omega)]
theorem xk(a:de):fk (lE a)=dP a:=by
  have h1:∀i:Nat,allI (mC (lE a)) (i+1) (List.replicate 4 kh)=true:=fun i=>by
    rw[iV];intro j r hr;rw[List.getElem?_replicate]at hr;split at hr
    · cases hr;rfl
    · cases hr
  have h2:allI (mC (lE a)) 0 (lE a)=dP a:=by
    show(((dP a&&true)&&allI (mC (lE a)) 1 (List.replicate 4 kh)):Bool)=dP a
    rw[h1 0,Bool.and_true,Bool.and_true]
  unfold fk;rw[h2]
  show(true&&(true&&(true&&(dP a&&dP (dU ⟨0,0,0⟩ a)))))=dP a
  cases h:dP a
  · rfl
  · rw[D7 h,h];rfl
theorem K0{N:Nat}(hN:df<=N)(a:de):rm N a=some (if dP a then(lE a,true)else([],false)):=by
  unfold rm;rw[show mk dj 5=some (List.replicate 5 kh) from rfl];simp only[RK];rw[show idx (List.replicate 5 kh) 0=some kh from rfl];simp only[RK];rw[show(List.replicate 5 kh).set (0:Int).toNat (dj.mk true (-1) a)=lE a from rfl,pH hN,xk];cases dP a<;>rfl
theorem K1(N:Nat)(a:de):rP N a=some (if dP a then(lE a,true)else([],false)):=by
  unfold rP;rw[o8,RK];cases dP a<;>rfl
def PY:bh:=bh.mk (dV.mk []) [] [] (dm.mk [] (eS.mk 0 0 0 [])) [] 0 0 (de.mk 0 0 0) 0 0
def jQ(b:dK):bh:=bh.mk b.Rp b.own (lE b.eV) pb [] 0 0 (de.mk 0 0 0) 0 0
def sE(b:dK):Bool:=dP b.eV&&(eT b.Rp&&ia b.own)
def kI(b:dK):bh×Bool:=if sE b then(jQ b,true)else(PY,false)
theorem Kq:mo vg:=by show(-9223372036854775808:Int)<=0;decide
theorem Ki{N:Nat}(hN:df+1<=N){b:dK}(hb:eM b<df):qZ N b=some (kI b):=by
  have hN':df<=N:=Nat.le_of_succ_le hN
  have h1:b.Rp.Ro.length<df/\b.own.length<df:=by unfold eM iN at hb;omega
  unfold qZ kI sE;simp only[K0 hN',ui hN' h1.1,zn hN' h1.2,RK,gv];cases dP b.eV
  · rfl
  cases eT b.Rp
  · rfl
  cases ia b.own
  · rfl
  simp only[if_true,RN,Bool.or_self,RL,Bool.and_self,I8,RK];rw[show c6.mk 0 4 0 0 1000000 0 0 0 0 false ([-1, -1]:List Int) [] []=vg from rfl,Bb hN (by decide) (by decide),xV];simp only[RK,zT h1.1,qn h1.2];rw[show wq N=some (eS.mk 0 0 0 [0]) from rfl];simp only[RK];rw[EZ hN' (by decide) (by decide),AE];rfl
theorem A3(b:dK):dC (jQ b)=eM b+20:=by
  show iN b.Rp+(b.own.length+((lE b.eV).length+((eE dw pb.ag+((pb.gc.da.length+0)+0))+(([]:List ef).length+0))))=iN b.Rp+(b.own.length+0)+20
  have h1:eE dw pb.ag=14:=by decide
  have h2:pb.gc.da.length=1:=by decide
  have h3:(lE b.eV).length=5:=rfl;have h4:([]:List ef).length=0:=rfl;simp only[h1,h2,h3,h4];omega
theorem JM{N:Nat}(hN:df<=N){b:dK}(hb:eM b<=1048576):rK N b=some (kI b):=by
  have h1:b.Rp.Ro.length<df/\b.own.length<df:=by have:(16777216:Nat)=df:=rfl;unfold eM iN at hb;omega
  unfold rK kI sE;simp only[K1,pT hN h1.1,zb hN h1.2,RK,gv];cases dP b.eV
  · cases eT b.Rp<;>cases ia b.own<;>rfl
  cases eT b.Rp
  · rfl
  cases ia b.own
  · rfl
  simp only[if_true,RN,Bool.or_self,RL,Bool.and_self,Jl,RK];rw[show c6.mk 0 4 0 0 1000000 0 0 0 0 false ([-1, -1]:List Int) [] []=vg from rfl,AV hN (by decide) IE (by decide) Kq,xV];simp only[RK];rw[show vZ N=some (eS.mk 0 0 0 [0]) from rfl];simp only[RK];rw[FQ hN (by decide) (by decide) L5,AE];simp only[RK];rw[show bh.mk b.Rp b.own (lE b.eV) pb [] 0 0 (de.mk 0 0 0) 0 0=jQ b from rfl,qa hN (by rw[A3];have:(16777216:Nat)=df:=rfl;omega)];rfl
def WD{α:Type}(o:Option α)(Q:α->Prop):Prop:=∃a,o=some a/\Q a
theorem WD.bind{α β:Type}{o:Option α}{f:α->Option β}{P:α->Prop}{Q:β->Prop}(h:WD o P)(k:∀a,P a->WD (f a) Q):WD (o.bind f) Q:=by
  obtain⟨a,rfl,ha⟩:=h;exact k a ha
theorem WD.step{α β:Type}{o:Option α}{a:α}{f:α->Option β}{Q:β->Prop}(e:o=some a)(k:WD (f a) Q):WD (o.bind f) Q:=by
  rw[e];exact k
theorem WD.ite{α:Type}{c:Bool}{a b:Option α}{Q:α->Prop}(h1:c=true->WD a Q)(h2:c=false->WD b Q):WD (bif c then a else b) Q:=by
  cases c
  · exact h2 rfl
  · exact h1 rfl
theorem WD.ret{α:Type}{a:α}{Q:α->Prop}(h:Q a):WD (some a) Q:=⟨a,rfl,h⟩
theorem WD.mono{α:Type}{o:Option α}{P Q:α->Prop}(h:WD o P)(k:∀a,P a->Q a):WD o Q:=by
  obtain⟨a,e,ha⟩:=h;exact⟨a,e,k a ha⟩
def O5{σ ρ:Type}(I:σ->Prop)(J:ρ->Prop)(μ:σ->Nat)(m:Nat)(o:σ⊕ρ):Prop:=(∀s',o=.inl s'->I s'/\μ s'<m)/\∀r,o=.inr r->J r
theorem WD.inl{σ ρ:Type}{I:σ->Prop}{J:ρ->Prop}{μ:σ->Nat}{m:Nat}{s:σ}(h1:I s)(h2:μ s<m):WD (some (.inl s:σ⊕ρ)) (O5 I J μ m) :=
  ⟨_,rfl,fun s' e=>by cases Sum.inl.inj e;exact⟨h1,h2⟩,fun r e=>by cases e⟩
theorem WD.inr{σ ρ:Type}{I:σ->Prop}{J:ρ->Prop}{μ:σ->Nat}{m:Nat}{r:ρ}(h:J r):WD (some (.inr r:σ⊕ρ)) (O5 I J μ m) :=
  ⟨_,rfl,fun s' e=>by(cases e),fun r e=>by cases Sum.inr.inj e;exact h⟩
theorem WD.loop{σ ρ:Type}{body:σ->Option (σ⊕ρ)}(I:σ->Prop)(J:ρ->Prop)(μ:σ->Nat){N:Nat}{s:σ}(h0:I s)(hN:μ s<N)(h:∀s,I s->WD (body s) (O5 I J μ (μ s))):WD (iter body N s) J :=
  xa I J μ (fun s hs=>by obtain⟨o,ho,h1,h2⟩:=h s hs;exact⟨o,ho,h1,h2⟩) N s h0 hN
theorem z0{N n:Nat}(hN:df<=N)(h:n<16777216):n<N:=Nat.lt_of_lt_of_le h hN
theorem g8{N:Nat}{b:List U8}{i h:Int}(hb:b.length<=1048576)(hi:0<=i)(n:Int)(hn:0<n):WD (dR N ⟨b,i,h⟩ n) (fun r=>0<=r.2.i/\0<=r.1/\r.1<n):=by
  obtain⟨x,i',h',e,a1,a2,a3,_⟩:=sj (N:=N) (c:=⟨b,i,h⟩) ⟨hb,hi⟩ n;exact⟨_,e,a1,a2,a3 hn⟩
theorem mI{N:Nat}{b:List U8}{i h:Int}(hb:b.length<=1048576)(hi:0<=i)(n:Int):WD (gw N ⟨b,i,h⟩ n) (fun r=>0<=r.2.i):=by
  obtain⟨x,i',h',e,a1⟩:=EN (N:=N) (c:=⟨b,i,h⟩) ⟨hb,hi⟩ n;exact⟨_,e,a1⟩
theorem zp{N:Nat}{b:List U8}{i h:Int}(hb:b.length<=1048576)(hi:0<=i){l:List Int}(hl:0<l.length):WD (gy N ⟨b,i,h⟩ l) (fun r=>0<=r.2.i/\r.1∈l):=by
  obtain⟨x,i',h',e,a1,a2⟩:=xW (N:=N) (c:=⟨b,i,h⟩) ⟨hb,hi⟩ hl;exact⟨_,e,a1,a2⟩
theorem mX{α:Type}{l:List α}{i:Int}(h0:0<=i)(h1:i<(l.length:Int)):WD (idx l i) (fun y=>y∈l):=by
  obtain⟨y,e,hy⟩:=yq h0 h1;exact⟨y,e,hy⟩
theorem LX{N:Nat}(hN:df<=N){b:List U8}{i h:Int}(hb:b.length<=1048576)(hi:0<=i):WD (nm N ⟨b,i,h⟩) (fun r=>0<=r.2.i/\eT r.1=true):=by
  obtain⟨x,i',h',e,a1,a2,a3⟩:=Hy (N:=N) hN (c:=⟨b,i,h⟩) ⟨hb,hi⟩;refine⟨_,e,a1,?_⟩;unfold eT;simp only[RP,beq_iff_eq,List.all_eq_true,dI];exact⟨by omega,a3⟩
theorem Pc{N:Nat}(hN:df<=N){b:List U8}{i h:Int}(hb:b.length<=1048576)(hi:0<=i):WD (sw N ⟨b,i,h⟩) (fun r=>0<=r.2.i/\r.1.length<=5):=by
  obtain⟨x,i',h',e,a1,a2⟩:=Qc (N:=N) hN (c:=⟨b,i,h⟩) ⟨hb,hi⟩;exact⟨_,e,a1,a2⟩
theorem Kj{N:Nat}{b:List U8}{i h:Int}(hb:b.length<=1048576)(hi:0<=i):WD (sI N ⟨b,i,h⟩) (fun r=>0<=r.2.i):=by
  obtain⟨x,i',h',e,a1⟩:=PU (N:=N) (c:=⟨b,i,h⟩) ⟨hb,hi⟩;exact⟨_,e,a1⟩
theorem Gp{N:Nat}(hN:df<=N){b:List U8}{i h:Int}(hb:b.length<=1048576)(hi:0<=i):WD (sG N ⟨b,i,h⟩) (fun r=>0<=r.2.i/\r.1.Ro.length<=5):=by
  obtain⟨x,i',h',e,a1,a2⟩:=IB (N:=N) hN (c:=⟨b,i,h⟩) ⟨hb,hi⟩;exact⟨_,e,a1,a2⟩
theorem uW{l:dV}(h:eT l=true):l.Ro.length=4:=by
  unfold eT at h;simp only[RP,beq_iff_eq]at h;omega
theorem HQ{N:Nat}(hN:df<=N){b:List U8}{i h:Int}(hb:b.length<=1048576)(hi:0<=i):WD (oY N ⟨b,i,h⟩) (fun r=>0<=r.2.i/\sE r.1=true/\eM r.1<=100/\(0<=r.1.eV.cd/\r.1.eV.cd<=1000)/\(0<=r.1.eV.dg/\r.1.eV.dg<=1000)/\(0<=r.1.eV.dn/\r.1.eV.dn<=1000)):=by
  unfold oY;dsimp only;refine WD.bind (LX hN hb hi) fun l ⟨l1,l2⟩=>WD.bind (g8 hb l1 25 (by decide)) fun x ⟨x1,x2,x3⟩=>WD.bind (g8 hb x1 900 (by decide)) fun y ⟨y1,y2,y3⟩=>WD.bind (g8 hb y1 60 (by decide)) fun z ⟨z1,z2,z3⟩=>WD.ret ⟨z1,?_,?_,⟨by dsimp only;omega,by dsimp only;omega⟩,⟨by dsimp only;omega,by dsimp only;omega⟩,⟨by dsimp only;omega,by dsimp only;omega⟩⟩
  · unfold sE dP uQ;simp only[RP,dI];exact⟨⟨by omega,by omega,by omega⟩,l2,rfl⟩
  · have:=uW l2;unfold eM iN;simp only[List.length_nil];omega
theorem Nr{N:Nat}{b:List U8}{i h:Int}(hb:b.length<=1048576)(hi:0<=i):WD (uC N ⟨b,i,h⟩) (fun r=>0<=r.2.i):=by
  unfold uC;dsimp only;exact WD.bind (mI hb hi 8) fun y y1=>WD.ite (fun _=>WD.bind (zp hb y1 (by decide)) fun z ⟨z1,_⟩=>WD.ret z1) fun _=>WD.bind (g8 hb y1 400 (by decide)) fun z ⟨z1,_,_⟩=>WD.ret z1
theorem Ch{N:Nat}(hN:df<=N){b:List U8}{i h:Int}(hb:b.length<=1048576)(hi:0<=i)(p:bh)(me:Int):WD (jG N ⟨b,i,h⟩ p me) (fun r=>0<=r.2.i):=by
  unfold jG;dsimp only;refine WD.bind (P:=fun j=>0<=j.2.1/\(j.1=false->(p.py.ag.length:Int)=10)) ?_ fun j ⟨hj,hl⟩=>?_
  · refine WD.ite (fun _=>WD.ret ⟨hi,by simp⟩) fun c=>WD.bind (mI hb hi 15) fun y y1=>WD.ret ⟨y1,fun _=>by simpa using c⟩
  refine WD.ite (fun _=>WD.bind (Nr hb hj) fun y y1=>WD.ret y1) fun c=>?_;have hl:=hl c;refine WD.bind (g8 hb hj 10 (by decide)) fun y ⟨y1,y2,y3⟩=>?_;refine WD.bind (WD.loop (fun s=>0<=s.1/\s.1<10/\0<=s.2.1/\s.2.1<=4/\0<=s.2.2.1) (fun r=>0<=r.1/\r.1<10/\0<=r.2.2.1) (fun s=>(4-s.2.1).toNat) ⟨y2,y3,Int.le_refl _,by simp,y1⟩ (z0 hN (by simp)) ?_) fun r ⟨r1,r2,r3⟩=>?_
  · rintro⟨k,n,i,h⟩ ⟨s1,s2,s3,s4,s5⟩;dsimp only at *;refine WD.bind (P:=fun j=>j=true->n<4) ?_ fun j hj=>WD.ite (fun c=>?_) fun _=>WD.inr ⟨s1,s2,s5⟩
    · refine WD.ite (fun c=>?_) fun _=>WD.ret (by simp);exact WD.bind (mX s1 (by omega)) fun y _=>WD.ret fun _=>of_decide_eq_true c
    · have:=hj c;rw[dB (n:=n+1) (by omega) (by omega)];exact WD.bind (g8 hb s5 10 (by decide)) fun y ⟨y1,y2,y3⟩=>WD.inl ⟨y2,y3,by dsimp only;omega,by dsimp only;omega,y1⟩ (by dsimp only;omega)
  · exact WD.bind (mX r1 (by omega)) fun z _=>WD.bind (mI hb r3 20) fun y y1=>WD.bind (P:=fun _=>True) (WD.ite (fun _=>WD.ret trivial) fun _=>WD.ret trivial) fun j _=>WD.step (u7 _ _ _ _) (WD.ret y1)
theorem Jh{N:Nat}(hN:df<=N){b:List U8}{i h:Int}(hb:b.length<=1048576)(hi:0<=i){p:bh}(hp:p.py.ag.length<=1000000)(me k:Int):WD (lY N ⟨b,i,h⟩ p me k) (fun r=>0<=r.2.i):=by
  unfold lY;dsimp only;refine WD.bind (WD.loop (fun s=>0<=s.1/\s.1<=(p.py.ag.length:Int)/\0<=s.2.1) (fun r=>Sum.elim (fun s=>0<=s.2.1) (fun r=>0<=r.2.i) r) (fun s=>((p.py.ag.length:Int)-s.1).toNat) ⟨Int.le_refl _,by dsimp only;omega,hi⟩ (z0 hN (by dsimp only;omega)) ?_) fun r hr=>?_
  · rintro⟨k,i,h⟩ ⟨s1,s2,s3⟩;dsimp only at *;refine WD.ite (fun c=>?_) (fun c=>WD.inr s3);have c:=of_decide_eq_true c;rw[dB (n:=k+1) (by omega) (by omega)];refine WD.bind (P:=fun j=>0<=j.2.1) ?_ fun j hj=>WD.ite (fun _=>?_) fun _=>WD.inl ⟨by dsimp only;omega,by dsimp only;omega,hj⟩ (by dsimp only;omega)
    · exact WD.bind (mX s1 c) fun y _=>WD.ite (fun _=>WD.bind (mI hb s3 2) fun z z1=>WD.ret z1) fun _=>WD.ret s3
    · exact WD.bind (mX s1 c) fun y _=>WD.step (u7 _ _ _ _) (WD.inr hj)
  · cases r with
    | inl s =>
      simp only[Sum.elim_inl]at *;exact WD.bind (Ch hN hb hr _ _) fun y y1=>WD.ret y1
    | inr s =>
      simp only[Sum.elim_inr]at *;exact WD.ret hr
theorem Nn{N:Nat}(hN:df<=N){b:List U8}{i h:Int}(hb:b.length<=1048576)(hi:0<=i){p:bh}(hp:p.py.ag.length<=1000000)(me:Int):WD (rJ N ⟨b,i,h⟩ p me) (fun r=>0<=r.2.i):=by
  unfold rJ;dsimp only;refine WD.bind (g8 hb hi 17 (by decide)) fun k ⟨k1,_,_⟩=>WD.bind (mI hb k1 3) fun m m1=>WD.bind (P:=fun _=>True) (WD.ite (fun _=>WD.ret trivial) fun _=>WD.ret trivial) fun j _=>WD.bind (P:=fun j=>0<=j.1) ?_ fun j hj=>WD.bind (g8 hb hj 40 (by decide)) fun n ⟨n1,_,_⟩=>WD.bind (P:=fun j=>0<=j.1) ?_ fun j hj=>WD.ret hj
  · repeat' first
      | exact WD.ret (by assumption)
      | exact WD.ret trivial
      | refine WD.ite (fun _=>?_) (fun _=>?_)
      | refine WD.bind (g8 hb (by assumption) _ (by decide)) fun y ⟨_,_,_⟩=>?_
      | refine WD.bind (zp hb (by assumption) (by decide)) fun y ⟨_,_⟩=>?_
      | refine WD.bind (Ch hN hb (by assumption) _ _) fun y _=>?_
      | refine WD.bind (Jh hN hb (by assumption) hp _ _) fun y _=>?_
      | refine WD.bind (P:=fun(_:Bool)=>True) ?_ fun y _=>?_
  · repeat' first
      | exact WD.ret (by assumption)
      | refine WD.ite (fun _=>?_) (fun _=>?_)
      | refine WD.bind (zp hb (by assumption) (by decide)) fun y ⟨_,_⟩=>?_
theorem PM{N:Nat}(hN:df<=N){l:List U8}(hl:l.length<=1048576):WD (sr N l) (fun r=>0<=r.i):=by
  obtain⟨h,e⟩:=Qg hN hl;exact⟨_,e,Int.le_refl _⟩
def iD(b:List dK):List bh:=b.map fun x=>(kI x).1
def fg(b:List dK):dh:=if fW b then⟨0,iD b⟩else⟨0,[]⟩
theorem H4{N:Nat}(hN:df<=N){b:List dK}(hl:b.length<df){F:dK->Option (bh×Bool)}(hF:∀y,y∈b->F y=some (kI y)):
    iter (fun(s10:Int×(List bh))=>(bif(decide (s10.1<(b.length:Int)))then((idx b s10.1).bind fun y13=>(F y13).bind fun y28=>(app s10.2 [y28.1]).bind fun y45=>some (.inl (i64.wrap (s10.1+1),y45)))else(some (.inr (s10.1,s10.2))):Option ((Int×(List bh))⊕(Int×(List bh))))) N (0,[])=some ((b.length:Int),iD b):=by
  have e:∀(l:List dK) (k:Nat) (acc:List bh),foldI (fun _ (acc:List bh) y=>acc++[(kI y).1]) k acc l=acc++iD l:=by
    intro l
    induction l with
    | nil=>intro k acc;simp[foldI,iD]
    | cons y l ih=>intro k acc;unfold foldI;rw[ih];simp[iD]
  rw[show((0:Int),([]:List bh))=(fun(k:Nat) (t:List bh)=>((k:Int),t)) 0 [] from rfl,
    gz b (fun(k:Nat) (t:List bh)=>((k:Int),t)) (fun _ acc y=>acc++[(kI y).1]) (fun t=>((b.length:Int),t)) (fun k t=>t.length<=k) ?_ ?_ (Nat.lt_of_lt_of_le hl hN) (by simp),e]
  · simp
  · intro k t y hy hk ht;refine⟨?_,by simp;omega⟩;simp only[ei hk,RM,dM,hy,RK,hF y (List.mem_of_getElem? hy),eB (Nat.lt_trans hk hl),fZ ht (Nat.lt_of_le_of_lt hk hl)]
  · intro t _;simp only[ep,RL]
theorem JC{N:Nat}(hN:df+1<=N){b:List dK}(hb:eE eM b<df):pU N b=some (fg b):=by
  have hN':df<=N:=Nat.le_of_succ_le hN;unfold pU fg;rw[E9 hN' hb,RK];cases fW b
  · rfl
  · simp only[RN,RL,if_true];rw[H4 hN' (gj hb) fun y hy=>Ki hN (fq hb hy)];rfl
theorem AG{N:Nat}(hN:df<=N){b:List dK}(hb:eE eM b<=1048576):nO N b=some (fg b):=by
  have hb':eE eM b<df:=small hb;unfold nO fg;rw[Ao hN hb',RK];cases fW b
  · rfl
  · simp only[RN,RL,if_true];rw[H4 hN (gj hb') fun y hy=>JM hN (Nat.le_of_lt_succ (fq (Nat.lt_succ_of_le hb) hy))];rfl
structure Bq (b:dK):Prop where
  ok:sE b=true
  sz:eM b<=1000
  pg:0<=b.eV.cd/\b.eV.cd<=1000
  rt:0<=b.eV.dg/\b.eV.dg<=1000
  cp:0<=b.eV.dn/\b.eV.dn<=1000
theorem Bq.Q8{l:List Int}{o:List Int}{b:dK}(h:Bq b)(hl:eT ⟨l⟩=true)(ho:ia o=true)(h5:o.length<=100):Bq ⟨⟨l⟩,o,b.eV⟩:=by
  have h4:=uW hl;have h4:l.length=4:=h4;refine⟨?_,?_,h.pg,h.rt,h.cp⟩
  · have:=h.ok;unfold sE at *;simp only[RP]at *;exact⟨this.1,hl,ho⟩
  · unfold eM iN;simp only[h4];omega
theorem gG{k:Int}(h0:0<=k)(h4:k<4):ia [k]=true:=by
  have:k=0\/k=1\/k=2\/k=3:=by omega
  rcases this with rfl|rfl|rfl|rfl<;>decide
theorem KG{l:List Int}(h:eT ⟨l⟩=true){k:Nat}{y:Int}(h0:0<=y)(h3:y<=3):eT ⟨l.set k y⟩=true:=by
  unfold eT at *;simp only[RP,List.length_set,List.all_eq_true,dI]at *;refine⟨h.1,fun z hz=>?_⟩
  rcases List.mem_or_eq_of_mem_set hz with q|rfl
  · exact h.2 z q
  · exact⟨h0,h3⟩
theorem MB{l:List Int}(h:eT ⟨l⟩=true){y:Int}(hy:y∈l):0<=y/\y<=3:=by
  unfold eT at h;simp only[RP,List.all_eq_true,dI]at h;exact h.2 y hy
theorem EL{N:Nat}(hN:df<=N){b:List U8}{i h:Int}(hb:b.length<=1048576)(hi:0<=i):WD (pe N ⟨b,i,h⟩) (fun r=>0<=r.2.i/\1<=r.1.length/\r.1.length<=3/\∀x,x∈r.1->Bq x):=by
  unfold pe;dsimp only;have hB:(16777216:Nat)=df:=rfl;refine WD.bind (g8 hb hi 3 (by decide)) fun n ⟨n1,n2,n3⟩=>?_;rw[dB (n:=1+n.1) (by omega) (by omega)];refine WD.bind (WD.loop (fun s=>0<=s.2.1/\(s.1.length:Int)+s.2.1=1+n.1/\0<=s.2.2.1/\eT ⟨s.2.2.2.2⟩=true/\∀x,x∈s.1->Bq x) (fun r=>1<=r.1.length/\r.1.length<=3/\0<=r.2.2.1/\∀x,x∈r.1->Bq x) (fun s=>s.2.1.toNat) ⟨by dsimp only;omega,by simp,n1,show eT ⟨[0,0,0,0]⟩=true by decide,by simp⟩ (z0 hN (by dsimp only;omega)) ?_) fun r ⟨r1,r2,r3,r4⟩=>WD.ret ⟨r3,r1,r2,r4⟩;rintro⟨l,k,i,h,tK⟩ ⟨s1,s2,s3,s4,s5⟩;dsimp only at *;refine WD.ite (fun c=>?_) (fun c=>WD.inr ?_)
  · have c:=of_decide_eq_true c;rw[dB (n:=k-1) (by omega) (by omega)];refine WD.bind (HQ hN hb s3) fun q ⟨q1,q2,q3,q4,q5,q6⟩=>?_;have hq:Bq q.1:=⟨q2,Nat.le_trans q3 (by decide),q4,q5,q6⟩
    have hq2:eT ⟨q.1.Rp.Ro⟩=true/\ia q.1.own=true:=by
      have:=q2;unfold sE at this;simp only[RP]at this;exact this.2
    have hlab:tK.length=4:=uW s4;refine WD.bind (mI hb q1 3) fun y y1=>WD.bind (P:=fun(j:(List Int)×(List Int))=>eT ⟨j.2⟩=true) (WD.ite (fun _=>WD.step (fM (by omega)) (WD.ret s4)) fun _=>WD.ret hq2.1) fun j j1=>?_;have hj4:j.2.length=4:=uW j1;refine WD.bind (mI hb y1 2) fun z z1=>WD.bind (P:=fun(m:Int×Int×(List Int))=>0<=m.1/\eT ⟨m.2.2⟩=true) (WD.ite (fun _=>?_) fun _=>WD.ret ⟨z1,j1⟩) fun m ⟨m1,m2⟩=>?_
    · refine WD.bind (g8 hb z1 4 (by decide)) fun u ⟨u1,u2,u3⟩=>WD.step (fM (by omega)) (WD.bind (mX u2 (by omega)) fun v hv=>WD.step rfl (WD.ret ⟨u1,?_⟩));have:=MB j1 hv;rw[dB (n:=v+1) (by omega) (by omega)];exact KG j1 (by split<;>omega) (by split<;>omega)
    · refine WD.bind (mI hb m1 6) fun u u1=>WD.bind (P:=fun(m:Int×Int×(List Int))=>0<=m.1/\ia m.2.2=true/\m.2.2.length<=100) (WD.ite (fun _=>WD.bind (g8 hb u1 4 (by decide)) fun v ⟨v1,v2,v3⟩=>WD.ret ⟨v1,gG v2 v3,by simp⟩) fun _=>WD.ret ⟨u1,hq2.2,by unfold eM at q3;dsimp only;omega⟩) fun o ⟨o1,o2,o3⟩=>?_;refine WD.step (xM (by omega)) (WD.inl ⟨by dsimp only;omega,by simp only[List.length_append,List.length_cons,List.length_nil];omega,o1,m2,fun x hx=>?_⟩ (by dsimp only;omega))
      rcases List.mem_append.1 hx with hx|hx
      · exact s5 x hx
      · rw[List.mem_singleton]at hx;rw[hx];exact hq.Q8 j1 o2 o3
  · have c:=of_decide_eq_false c;exact⟨by dsimp only;omega,by dsimp only;omega,s3,s5⟩
theorem CJ{p:bh}(hp:ik p){now me h:Int}(n:Int):pO p (tj p (dq p.py.ag now me h) n):=by
  unfold tj;have hg:=sA (l:=p.py.ag) (now:=now) (me:=me) (h:=h) hp.ar.len;generalize dq p.py.ag now me h=g at *;cases q:lv p.py.ag g
  · exact mL rfl rfl rfl (by show eE dw p.py.ag<=_;omega) (Nat.le_succ _) (Nat.le_refl _) hp.w rfl
  · unfold lv at q;simp only[RP,decide_eq_true_eq]at q;have hl:=hp.ar.len;have g9:=hg q.1;have ho:=m3 hp.ar q.1 (by omega);have hwi:mo (nth p.py.ag g):=hp.w _ (gg q.1 g9);refine mL rfl rfl rfl (Nat.le_trans (ur ?_) (by omega)) (Nat.le_succ _) (Nat.le_refl _) (iH hp.w hwi) List.length_set;unfold dw at ho;unfold dw lN;simp only[List.length_append,List.length_cons,List.length_nil];omega
theorem HG{p:bh}(hp:ik p)(t:ef):pO p (vC p (p.db++[t])):=by
  refine⟨?_,hp.w,rfl⟩;unfold dC vC;simp only[List.length_append,List.length_cons,List.length_nil];omega
theorem Hq{w:dh}(hw:Wq w)(p th:Int)(c:dD):(ga w p th c).1=w\/∃q z,er w q=true/\pO (nth w.parts q) z/\(ga w p th c).1=jU w q z:=by
  unfold ga;cases hok:!eI w || !er w p
  case true=>exact .inl rfl
  have hok:eI w=true/\er w p=true:=by simpa using hok
  obtain⟨ok,hp⟩:=hok;obtain⟨p1,p2⟩:=fu hp;have pp:=hw.HM ok p2;cases hc:ig (nth w.parts p) w.RB th
  case false=>exact .inl rfl
  cases ho:decide (other w p c<0)
  case true=>exact .inl rfl
  have hq:=sx ho;generalize other w p c=q at *;obtain⟨q1,q2⟩:=fu hq;have pq:=hw.HM ok q2;simp only[RL,RN]
  have f3:∀r:Int×Int×dh,(oq r).1=r.2.2:=fun r=>by unfold oq;cases r.1 != 0<;>rfl
  cases c.Rq==7
  case true=>rw[RM,f3,vr];exact .inl rfl
  cases c.Rq==17
  case true =>
    rw[RL,RM,f3];unfold oU;cases dv c.b 0 999
    case false=>exact .inl rfl
    cases kS w p p q
    case false=>exact .inl rfl
    exact .inr ⟨q,_,hq,CJ pq c.b,rfl⟩
  cases c.Rq==16
  case true =>
    rw[RL,RL,RM,f3];unfold ua;cases decide (c.d<0) || !gO (nB c)
    case true=>exact .inl rfl
    cases kS w p p q
    case false=>exact .inl rfl
    cases eh (nth w.parts p).Rr c.a
    case false=>exact .inl rfl
    cases decide (((nth w.parts p).db.length:Int)>=3)
    case true=>exact .inl rfl
    exact .inr ⟨p,_,hp,HG pp (nB c),rfl⟩
  have h:=H5 pp.sz pp.w p w.RB th c;exact .inr ⟨p,_,hp,⟨h.1,h.2,DX pp.sz pp.w p w.RB th c⟩,rfl⟩
def vy(p:bh)(t:Int):bh:=bh.mk p.Rp p.own p.Rr p.py p.db p.RA (i64.wrap (t+1)) p.dc p.du p.Rx
def mh(w:dh)(e:dQ):dh:=bif eI w&&(er w e.Rn&&dv e.dS 0 9)then jU w e.Rn (vy (nth w.parts e.Rn) e.dS)else w
def gE(w:dh)(e:dQ):dh×dt :=
  bif e.Rq==1 then(tick w,dt.mk 0 0)else bif e.Rq==2 then ga w e.Rn e.dS e.call else bif e.Rq==3 then(mh w e,dt.mk 0 0)else(w,dt.mk 2 0)
structure Wt (w:dh):Prop where
  q:Wq w
  t:eI w=true->og w.parts.length 0 (dh.mk (i64.wrap (w.RB+1)) w.parts)
theorem Pt{N:Nat}(hN:df+1<=N){w:dh}(hw:Wt w)(e:dQ):vU N w e=some (gE w e):=by
  have hN':df<=N:=Nat.le_of_succ_le hN;have hb:=hw.q.lA;unfold vU gE;cases e.Rq==1
  case true=>simp only[RM,N1 hN' hb hw.q.w hw.t,RK]
  cases e.Rq==2
  case true=>simp only[RM,RL,GM hN hw.q,RK]
  cases e.Rq==3
  case false=>simp only[RL,rz hN' hb,RK]
  simp only[RM,RL,rz hN' hb,wx hN' hb,v8 (gj hb),sc,RK];unfold mh;cases eI w
  · rfl
  cases hp:er w e.Rn
  · rfl
  cases dv e.dS 0 9
  · rfl
  simp only[RM,Bool.and_self,RK,(fu hp).1];rfl
theorem Ly{N:Nat}(hN:df<=N){w:dh}(hw:Wt w)(e:dQ):tM N w e=some (gE w e):=by
  have hb:=hw.q.lA;have hl:w.parts.length<16777216:=gj hb;unfold tM gE;cases e.Rq==1
  case true=>simp only[RM,NU hN hb hw.q.w hw.t,RK]
  cases e.Rq==2
  case true=>simp only[RM,RL,FX hN hw.q,RK]
  cases e.Rq==3
  case false=>simp only[RL,uz hN hb,RK]
  simp only[RM,RL,uz hN hb,wz hN hb hw.q.w,jj,qe,RK];rw[dB (by omega) (by omega),show dv e.Rn 0 ((w.parts.length:Int)-1)=er w e.Rn from rfl];unfold mh;cases eI w
  · rfl
  cases hp:er w e.Rn
  · rfl
  cases dv e.dS 0 9
  · rfl
  simp only[RM,Bool.and_self,RK,(fu hp).1];rfl
theorem y6(w:dh)(e:dQ):mh w e=w\/(eI w=true/\er w e.Rn=true/\(0<=e.dS/\e.dS<=9)/\mh w e=jU w e.Rn (vy (nth w.parts e.Rn) e.dS)):=by
  unfold mh;cases h:eI w&&(er w e.Rn&&dv e.dS 0 9)
  · exact .inl rfl
  · simp only[RP,dI]at h;exact .inr ⟨h.1,h.2.1,h.2.2,rfl⟩
structure Sg (c:Nat) (w:dh):Prop where
  len:w.parts.length<=3
  sz:∀p,p∈w.parts->dC p<=c/\wP p
theorem Sg.mono{c d:Nat}{w:dh}(h:Sg c w)(hd:c<=d):Sg d w:=⟨h.len,fun p hp=>⟨Nat.le_trans (h.sz p hp).1 hd,(h.sz p hp).2⟩⟩
theorem Sg.lA{c:Nat}{w:dh}(h:Sg c w)(hc:c<=1048576):eE dC w.parts<df:=by
  have hB:(16777216:Nat)=df:=rfl;have h1:lI dC w.parts<=c*w.parts.length:=tP fun y hy=>(h.sz y hy).1;have h4:c*w.parts.length<=1048576*3:=Nat.mul_le_mul hc h.len;have:=h.len;unfold eE;omega
theorem Sg.t{c:Nat}{w:dh}(h:Sg c w)(hc:c<=1048576):Wt w :=
  ⟨⟨h.lA hc,fun p hp=>by have:=(h.sz p hp).1;omega,fun p hp=>(h.sz p hp).2⟩,fun hw=>⟨rfl,(B5 hw).2.1,fun p hp=>⟨by have:=(h.sz p hp).1;omega,(h.sz p hp).2⟩⟩⟩
theorem Sg.db{c:Nat}{t:dh}(h:Sg c t)(p:Int):Sg c (dy t p)/\(dy t p).parts.length=t.parts.length:=by
  obtain⟨_,h2,h3⟩:=yB t p;refine⟨⟨by rw[h2];exact h.len,fun q hq=>?_⟩,h2⟩;obtain⟨y,hy,e1,e2⟩:=h3 q hq;obtain⟨a,b⟩:=h.sz y hy;exact⟨by omega,by unfold wP at *;rw[e2];exact b⟩
theorem Sg.step{c n k:Nat}{t:dh}(h:Sg c t)(hk:k<t.parts.length)(hc:c<=2000000):Sg (c+1300) (gF n k t)/\(gF n k t).parts.length=t.parts.length:=by
  obtain⟨hT,hl⟩:=h.db (k:Int)
  have e:(gF n k t).parts.length=t.parts.length:=by
    show((dy t (k:Int)).parts.set k _).length=_
    rw[List.length_set];exact hl
  refine⟨⟨by rw[e];exact h.len,fun q hq=>?_⟩,e⟩
  rcases List.mem_or_eq_of_mem_set (show q∈(dy t (k:Int)).parts.set k _ from hq)with h1|h1
  · obtain⟨a,b⟩:=hT.sz q h1;exact⟨by omega,b⟩
  · subst h1;obtain⟨a,b⟩:=hT.sz _ (gg (l:=(dy t (k:Int)).parts) (i:=(k:Int)) (by omega) (by omega));exact wK (n:=n) a (by omega) b (k:Int) (dy t (k:Int)).RB
theorem MQ{n:Nat}:∀(l:List bh) (k c:Nat) (t:dh),k+l.length=t.parts.length->c+1300*l.length<=2000000->Sg c t->Sg (c+1300*l.length) (foldI (fun k t (_:bh)=>gF n k t) k t l)
  | [],k,c,t,_,_,h=>h
  | y::l,k,c,t,hk,hc,h=>by
    simp only[List.length_cons]at hk hc⊢;obtain⟨a,b⟩:=h.step (n:=n) (k:=k) (by omega) (by omega);have:=MQ (n:=n) l (k+1) (c+1300) (gF n k t) (by omega) (by omega) a;exact this.mono (by omega)
theorem Sg.tick{c:Nat}{w:dh}(h:Sg c w)(hc:c<=1000000):Sg (c+3900) (tick w):=by
  unfold Kx.tick;split
  · have hl:=h.len;exact(MQ w.parts 0 c (dh.mk (i64.wrap (w.RB+1)) w.parts) (by dsimp only;omega) (by omega) ⟨h.len,h.sz⟩).mono (by omega)
  · exact h.mono (by omega)
theorem Sg.put{c:Nat}{w:dh}(h:Sg c w){q:Int}{z:bh}(hz:dC z<=c+300/\wP z):Sg (c+300) (jU w q z):=by
  refine⟨by show(w.parts.set _ _).length<=3;rw[List.length_set];exact h.len,fun y hy=>?_⟩
  rcases List.mem_or_eq_of_mem_set (show y∈w.parts.set q.toNat z from hy)with a|rfl
  · have:=h.sz y a;exact⟨by omega,this.2⟩
  · exact hz
theorem Sg.gE{c:Nat}{w:dh}(h:Sg c w)(hc:c<=1000000)(e:dQ):Sg (c+3900) (gE w e).1:=by
  unfold Kx.gE;cases e.Rq==1
  case true=>exact h.tick hc
  cases e.Rq==2
  case true =>
    show Sg (c+3900) (ga w e.Rn e.dS e.call).1
    rcases Hq (h.t (by omega)).q e.Rn e.dS e.call with q|⟨q,z,hq,hn,e2⟩
    · rw[q];exact h.mono (by omega)
    · rw[e2];have:=h.sz _ (fu hq).2;have:=hn.sz;exact(h.put ⟨by omega,hn.w⟩).mono (by omega)
  cases e.Rq==3
  case false=>exact h.mono (by omega)
  show Sg (c+3900) (mh w e)
  rcases y6 w e with q|⟨_,hp,_,q⟩
  · rw[q];exact h.mono (by omega)
  · rw[q];have:=h.sz _ (fu hp).2;have h3:dC (vy (nth w.parts e.Rn) e.dS)=dC (nth w.parts e.Rn):=rfl;have h4:=this.1;exact(h.put (q:=e.Rn) (z:=vy (nth w.parts e.Rn) e.dS) ⟨by omega,this.2⟩).mono (by omega)
def sU(t:dh×List dt)(e:dQ):dh×List dt:=((gE t.1 e).1,t.2++[(gE t.1 e).2])
def xB(w:dh)(l:List dQ):dh×List dt:=l.foldl sU (w,[])
def kD(b:List dK)(l:List dQ):dh×List dt:=bif !fW b || decide ((l.length:Int)>200)then(dh.mk 0 [],[])else xB (fg b) l
theorem BS{α τ:Type}(f:τ->α->τ):∀(l:List α) (k:Nat) (t:τ),foldI (fun _ t y=>f t y) k t l=l.foldl f t
  | [],_,_=>rfl
  | y::l,k,t=>BS f l (k+1) (f t y)
structure Pl (c k:Nat) (t:dh×List dt):Prop where
  sg:Sg (c+3900*k) t.1
  len:t.2.length=k
theorem Pl.step{c k:Nat}{t:dh×List dt}(h:Pl c k t)(hc:c<=200000)(hk:k<200)(e:dQ):Pl c (k+1) (sU t e) :=
  ⟨(h.sg.gE (by omega) e).mono (by omega),by show(t.2++[_]).length=_;rw[List.length_append,h.len];rfl⟩
theorem sn:∀(l:List dK) (a:de),kC a l=true->∀x,x∈l->sE x=true
  | [],_,_,x,hx=>by simp at hx
  | y::l,a,h,x,hx=>by
    unfold kC at h;simp only[RP]at h
    rcases List.mem_cons.1 hx with rfl|hx
    · have ha:dP x.eV=true:=by
        have:=h.1;unfold fH at this;split at this
        · rename_i q;simp only[RP]at q;exact q.1.2
        · simp at this
      unfold sE;rw[ha,h.2.1,h.2.2.1];rfl
    · exact sn l _ h.2.2.2 x hx
theorem JH{l:List Int}(h:ia l=true):∀(k:Nat) (y:Int),l[k]?=some y->(k:Int)<=y/\y<=3
  | 0,y,hy=>by
    have:=iV.1 h 0 y hy;unfold vH at this;simp only[RP,dI]at this;omega
  | k+1,y,hy=>by
    have hk:=eF hy;have h0:=JH h k l[k] (List.getElem?_eq_getElem (by omega));have:=iV.1 h (k+1) y hy;unfold vH at this;simp only[RP,dI,Nat.zero_add]at this;have h2:=this.2;simp[List.getElem?_eq_getElem (show k<l.length by omega)]at h2;omega
theorem eQ{l:List Int}(h:ia l=true):l.length<=4:=by
  by_cases q:l.length<=4
  · exact q
  · have:=JH h 4 l[4] (List.getElem?_eq_getElem (by omega));omega
theorem Lm{b:dK}(h:sE b=true):eM b<=100:=by
  unfold sE at h;simp only[RP]at h;have h1:=(j6.1 h.2.1).1;have h2:=eQ h.2.2;unfold eM iN;omega
theorem HL{b:List dK}(h:fW b=true):Sg 200 (fg b):=by
  unfold fg;rw[if_pos h];unfold fW at h;rw[RP,dI]at h;have hk:=sn b _ h.1;refine⟨by show(iD b).length<=3;unfold iD;rw[List.length_map];omega,fun p hp=>?_⟩;obtain⟨x,hx,rfl⟩:=List.mem_map.1 (show p∈b.map _ from hp);have ok:=hk x hx;rw[show(kI x).1=jQ x from by unfold kI;rw[if_pos ok]];refine⟨?_,fun o ho=>?_⟩
  · rw[A3];have:=Lm ok;omega
  · have:∀o∈Kk, -9223372036854775808<=o.Ry:=by decide
    exact this o ho
def ez(f:de->Int):List dj->Int
  | []=>0
  | r::t=>(if r.RC then f r.dO else 0)+ez f t
def oh(f:de->Int)(r:dj):Int:=if r.RC then f r.dO else 0
theorem xc(f:de->Int):∀(t:List dj) (k:Nat) (r z:dj),t[k]?=some r->ez f (t.set k z)=ez f t-oh f r+oh f z
  | [],k,r,z,h=>by simp at h
  | x::t,0,r,z,h=>by
    simp only[List.getElem?_cons_zero,Option.some.injEq]at h;subst h
    show oh f z+ez f t=oh f x+ez f t-oh f x+oh f z
    omega
  | x::t,k+1,r,z,h=>by
    rw[List.getElem?_cons_succ]at h;have:=xc f t k r z h
    show oh f x+ez f (t.set k z)=oh f x+ez f t-oh f r+oh f z
    omega
theorem rO:∀(t:List dj) (s:de) (B:Int),(∀r,r∈t->dP r.dO=true)->0<=B->B+1000000*(t.length:Int)<=1000000000->uS s B ->
    (eU s t).cd=s.cd+ez de.cd t/\(eU s t).dg=s.dg+ez de.dg t/\(eU s t).dn=s.dn+ez de.dn t
  | [],s,B,_,_,_,_=>⟨(Int.add_zero _).symm,(Int.add_zero _).symm,(Int.add_zero _).symm⟩
  | x::t,s,B,h,hB,hL,hs=>by
    have hx:=h x (by simp);simp only[List.length_cons]at hL;obtain⟨w1,w2,w3,w4⟩:=yQ hs hx (by omega);have e:eU s (x::t)=eU (if x.RC then dU s x.dO else s) t:=rfl;have ht:∀r,r∈t->dP r.dO=true:=fun r hr=>h r (by simp[hr]);have d:∀f:de->Int,ez f (x::t)=(if x.RC then f x.dO else 0)+ez f t:=fun f=>rfl;rw[e,d,d,d];cases hxl:x.RC
    · obtain⟨a1,a2,a3⟩:=rO t s B ht hB (by omega) hs;simp only[Bool.false_eq_true,if_false];exact⟨by omega,by omega,by omega⟩
    · obtain⟨a1,a2,a3⟩:=rO t (dU s x.dO) (B+1000000) ht (by omega) (by omega) w4;simp only[if_true];exact⟨by omega,by omega,by omega⟩
theorem HE{f:de->Int}(hf:∀a,dP a=true->0<=f a/\f a<=1000000):∀(t:List dj),(∀r,r∈t->dP r.dO=true)->0<=ez f t/\ez f t<=1000000*(t.length:Int)
  | [],_=>⟨Int.le_refl _,by simp[ez]⟩
  | x::t,h=>by
    obtain⟨a,b⟩:=HE hf t fun r hr=>h r (by simp[hr]);have hx:=hf _ (h x (by simp));have d:ez f (x::t)=(if x.RC then f x.dO else 0)+ez f t:=rfl;rw[d];simp only[List.length_cons];split<;>omega
theorem BY:uS ⟨0,0,0⟩ 0:=by unfold uS;decide
theorem Tr.ez{t:List dj}(h:Tr t):(eU ⟨0,0,0⟩ t).cd=ez de.cd t/\(eU ⟨0,0,0⟩ t).dg=ez de.dg t/\(eU ⟨0,0,0⟩ t).dn=ez de.dn t:=by
  have hl:=h.len;obtain⟨a,b,c⟩:=rO t ⟨0,0,0⟩ 0 h.dO (by omega) (by omega) BY;simp only[Int.zero_add]at a b c;exact⟨a,b,c⟩
theorem xA{t:List dj}{i j:Int}{z:dj}(h0:0<=i)(h1:i<(t.length:Int))(hj:0<=j):nth (t.set i.toNat z) j=if i=j then z else nth t j:=by
  unfold nth
  by_cases e:i=j
  · subst e;rw[if_pos rfl,List.getElem?_set_self (by omega)];rfl
  · rw[if_neg e,List.getElem?_set_ne (by omega)]
theorem tN{t:List dj}{i:Int}(h0:0<=i)(h1:i<(t.length:Int))(b:de){j:Int}(hj:0<=j):(nth (t.set i.toNat (jr (nth t i) b)) j).RC=(nth t j).RC/\(nth (t.set i.toNat (jr (nth t i) b)) j).RE=(nth t j).RE:=by
  rw[xA h0 h1 hj];split
  · rename_i e;subst e;exact⟨rfl,rfl⟩
  · exact⟨rfl,rfl⟩
theorem IU{t:List dj}{i:Int}(h0:0<=i)(h1:i<(t.length:Int))(b:de)(j:Int):eh (t.set i.toNat (jr (nth t i) b)) j=eh t j:=by
  unfold eh;cases hj:dv j 0 4
  · rfl
  · rw[(tN h0 h1 b (dI.1 hj).1).1]
theorem CA{t:List dj}{i:Int}(h0:0<=i)(h1:i<(t.length:Int))(b:de):∀(n:Nat) (j:Int),leads (t.set i.toNat (jr (nth t i) b)) n j=leads t n j
  | 0,j=>rfl
  | n+1,j=>by
    unfold leads;rw[IU h0 h1];cases hv:eh t j
    · rfl
    · have:=(gM hv).1;have e:up (t.set i.toNat (jr (nth t i) b)) j=up t j:=(tN h0 h1 b this).2;rw[e,CA h0 h1 b n (up t j)]
theorem Tr.set{t:List dj}(h:Tr t){i:Int}(h0:0<=i)(h4:i<=4)(hv:(nth t i).RC=true){b:de}(hb:dP b=true)
    (hs:dP ⟨Kx.ez de.cd t-(nth t i).dO.cd+b.cd,Kx.ez de.dg t-(nth t i).dO.dg+b.dg,Kx.ez de.dn t-(nth t i).dO.dn+b.dn⟩=true) :
    Tr (t.set i.toNat (jr (nth t i) b))/\∀f:de->Int,Kx.ez f (t.set i.toNat (jr (nth t i) b))=Kx.ez f t-f (nth t i).dO+f b:=by
  have hl:=h.len
  have hi:i<(t.length:Int):=by omega
  have hg:=fV (l:=t) h0 hi
  have ht:∀f:de->Int,Kx.ez f (t.set i.toNat (jr (nth t i) b))=Kx.ez f t-f (nth t i).dO+f b:=fun f=>by
    rw[xc f t i.toNat _ _ hg];have e1:oh f (nth t i)=f (nth t i).dO:=if_pos hv;have e2:oh f (jr (nth t i) b)=f b:=if_pos hv;rw[e1,e2]
  have hbal:∀r,r∈t.set i.toNat (jr (nth t i) b)->dP r.dO=true:=fun r hr=>by
    rcases List.mem_or_eq_of_mem_set hr with q|q
    · exact h.dO r q
    · rw[q];exact hb
  have hl':(t.set i.toNat (jr (nth t i) b)).length=5:=by rw[List.length_set];exact hl
  refine⟨⟨hl',?_,?_,?_,hbal,?_,?_⟩,ht⟩
  · rw[(tN h0 hi b (by omega)).1];exact h.pA
  · rw[(tN h0 hi b (by omega)).2];exact h.BE
  · intro r hr hd
    rcases List.mem_or_eq_of_mem_set hr with q|q
    · exact h.dead r q hd
    · rw[q]at hd;have:(nth t i).RC=false:=hd;rw[hv]at this;cases this
  · intro k r hr hlv;rw[CA h0 hi];have hk:k<(t.set i.toNat (jr (nth t i) b)).length:=eF hr;have e1:=rn hr;have e2:=(tN h0 hi b (j:=(k:Int)) (by omega)).1;rw[e1,hlv]at e2;exact h.lead k (nth t (k:Int)) (fV (l:=t) (i:=(k:Int)) (by omega) (by omega)) e2.symm
  · obtain⟨a1,a2,a3⟩:=rO _ ⟨0,0,0⟩ 0 hbal (by omega) (by omega) BY
    have e:eU ⟨0,0,0⟩ (t.set i.toNat (jr (nth t i) b))=⟨Kx.ez de.cd t-(nth t i).dO.cd+b.cd,Kx.ez de.dg t-(nth t i).dO.dg+b.dg,Kx.ez de.dn t-(nth t i).dO.dn+b.dn⟩:=by
      generalize eU ⟨0,0,0⟩ (t.set i.toNat (jr (nth t i) b))=q at *;obtain⟨q1,q2,q3⟩:=q;simp only[Int.zero_add,ht]at a1 a2 a3;subst a1 a2 a3;rfl
    rw[e];exact hs
theorem Mm{a b:de}(h:jc a b=true):(xv b a)=⟨b.cd-a.cd,b.dg-a.dg,b.dn-a.dn⟩/\dP ⟨b.cd-a.cd,b.dg-a.dg,b.dn-a.dn⟩=true:=by
  unfold jc at h;simp only[RP,decide_eq_true_eq]at h;obtain⟨h1,h2,h3,h4,h5⟩:=h;have a1:=eA.1 h1;have a2:=eA.1 h2;refine⟨?_,eA.2 ⟨by simp only;omega,by simp only;omega,by simp only;omega⟩⟩;unfold xv;rw[dB (by omega) (by omega),dB (by omega) (by omega),dB (by omega) (by omega)]
theorem r6{t:List dj}{f:Int}{a:de}(h:(eD t f a).2=true):Tr (eD t f a).1/\dP a=true/\∀g:de->Int,(∀x y:de,g ⟨x.cd-y.cd,x.dg-y.dg,x.dn-y.dn⟩=g x-g y)->ez g (eD t f a).1=ez g t-g a:=by
  obtain⟨h1,h2⟩:=tV h;have hT:=fc.1 h1;obtain⟨f0,f4⟩:=gM h2
  have hlv:(nth t f).RC=true:=by
    unfold eh at h2;simp only[RP]at h2;exact h2.2
  unfold eD at *;rw[h1,h2]at *;simp only[Bool.and_self,if_true]at *;cases hf:jc a (nth t f).dO
  · rw[hf]at h;simp at h
  · simp only[if_true];obtain⟨e,ok⟩:=Mm hf
    have ha:dP a=true:=by
      unfold jc at hf;simp only[RP]at hf;exact hf.1
    rw[e];have hl:=hT.len;have hm:nth t f∈t:=gg f0 (by omega);have hS:=eA.1 hT.sum;obtain⟨t1,t2,t3⟩:=hT.ez;have ha':=eA.1 ha;have ok':=eA.1 ok;obtain⟨_,q⟩:=qG t ⟨0,0,0⟩ 0 hT.dO (by omega) (by omega) ⟨by decide,by decide⟩ ⟨by decide,by decide⟩ ⟨by decide,by decide⟩;obtain⟨q1,q2,q3⟩:=q _ hm hlv;simp only at ok';obtain⟨r1,r2⟩:=hT.set f0 f4 hlv ok (eA.2 ⟨by simp only;omega,by simp only;omega,by simp only;omega⟩);refine⟨r1,ha,fun g hg=>?_⟩;rw[r2 g,hg];omega
theorem yY{p:bh}{now y:Int}(h:y∈threads p now):0<=y/\y<=9:=(sX h).2
theorem z9{p:bh}{now y:Int}(h:y∈threads p now):(nth p.py.ag y).Rq=4/\eZ (nth p.py.ag y) now=false:=by
  obtain⟨ok,y0,y9⟩:=sX h;have ar:=fb ok;unfold threads at h;rw[if_pos ok]at h;obtain⟨i,b,h1,h2,h3⟩:=uh.1 h;simp only[Nat.zero_add,RP,beq_iff_eq]at h2 h3;obtain⟨hb,hk⟩:=h2;subst h3;rw[hb]at h1;refine⟨hk,Bp ar (((Au ar now).2 i).1 h1) fun q=>?_⟩;rw[q,ar.sV]at hk;cases hk
theorem Ms{p:bh}(h:dH p=true)(i:Int):eh p.Rr (hZ p i)=true:=by
  have hT:=fc.1 (iM h);unfold hZ;split
  · rename_i q;simp only[RP]at q;exact q.2
  · unfold eh;rw[hT.pA];rfl
theorem qI{p:bh}{now:Int}(h:qq p now=false):gC p now∈runnable p now:=by
  unfold qq at h;simp only[Bool.or_eq_false_iff]at h;exact zB _ _ _ h.1
theorem Ha{p:bh}{now:Int}(ok:dH p=true){i:Int}(h:i∈runnable p now):(eD p.Rr (hZ p (nth p.py.ag i).RF) ⟨0,0,1⟩).2=true:=by
  unfold runnable at h;obtain⟨_,hm⟩:=List.mem_filter.1 h;unfold uu at hm;simp only[RP,decide_eq_true_eq]at hm;have hT:=fc.1 (iM ok);obtain⟨r0,r4⟩:=si p (nth p.py.ag i).RF;have hl:=hT.len;have hb:=hT.dO _ (gg (l:=p.Rr) (i:=hZ p (nth p.py.ag i).RF) r0 (by omega));have hb':=eA.1 hb;have hc:(nth p.Rr (hZ p (nth p.py.ag i).RF)).dO.dn>0:=hm.2
  have hf:jc ⟨0,0,1⟩ (nth p.Rr (hZ p (nth p.py.ag i).RF)).dO=true:=by
    unfold jc;rw[hb];simp only[show dP ⟨0,0,1⟩=true from by decide,RO,RP,decide_eq_true_eq];exact⟨by omega,by omega,by omega⟩
  unfold eD;rw[iM ok,Ms ok,hf];rfl
theorem NC{p:bh}{now:Int}(ok:dH p=true){i:Int}(h:i∈runnable p now):(fy (eD p.Rr (hZ p (nth p.py.ag i).RF) ⟨0,0,1⟩).1).dn=(fy p.Rr).dn-1/\(fy (eD p.Rr (hZ p (nth p.py.ag i).RF) ⟨0,0,1⟩).1).cd=(fy p.Rr).cd/\(fy (eD p.Rr (hZ p (nth p.py.ag i).RF) ⟨0,0,1⟩).1).dg=(fy p.Rr).dg:=by
  have hT:=fc.1 (iM ok);obtain⟨q,_,k⟩:=r6 (Ha ok h);unfold fy;rw[if_pos (fc.2 q),if_pos (iM ok),q.ez.1,q.ez.2.1,q.ez.2.2,hT.ez.1,hT.ez.2.1,hT.ez.2.2,k de.dn (fun _ _=>rfl),k de.cd (fun _ _=>rfl),k de.dg (fun _ _=>rfl)];exact⟨rfl,Int.sub_zero _,Int.sub_zero _⟩
structure Sk where
  RG:Int
  Rq:Int
  box:Int
  dY:Int
  dk:List Int
def np(o:c6):Sk:=⟨o.RG,o.Rq,o.box,o.dY,o.dk⟩
theorem Af{l:List c6}(i:Int)(h0:0<=i)(h1:i<(l.length:Int)):(l.map np)[i.toNat]?=some (np (nth l i)):=by
  rw[List.getElem?_map,fV h0 h1];rfl
theorem vR{l m:List c6}(h:l.map np=m.map np){i:Int}(h0:0<=i)(h1:i<(l.length:Int)):np (nth l i)=np (nth m i):=by
  have hl:l.length=m.length:=by simpa using congrArg List.length h
  have a:=Af i h0 h1;rw[h,Af i h0 (by omega)]at a;exact(Option.some.inj a).symm
theorem Ar.np{l m:List c6}(hl:Ar l)(h:l.map np=m.map np)(ok:∀o,o∈m->eG o=true):Ar m:=by
  have hlen:l.length=m.length:=by simpa using congrArg List.length h
  have h10:=hl.len;have e0:=vR h (i:=0) (by omega) (by omega);refine⟨by omega,?_,?_,?_,ok,?_,?_⟩
  · rw[<- hl.sV];exact(congrArg Sk.Rq e0).symm
  · rw[<- hl.yT];exact(congrArg Sk.box e0).symm
  · rw[<- hl.Av];exact(congrArg Sk.dY e0).symm
  · intro o ho y hy y0;obtain⟨k,hk⟩:=List.getElem?_of_mem ho;have hkl:=eF hk;have e:=vR h (i:=(k:Int)) (by omega) (by omega)
    have el:(nth l (k:Int)).dk=o.dk:=by rw[show o=nth m (k:Int) from(rn hk).symm];exact congrArg Sk.dk e
    have hm:=(hl.at (i:=(k:Int)) (by omega) (by omega)).2;have y9:=((o6 (ok o ho)).2 y hy).2;have:=hl.dk _ hm y (by rw[el];exact hy) y0
    rwa[show(nth l y).Rq=(nth m y).Rq from congrArg Sk.Rq (vR h y0 (by omega))]at this
  · intro k o hk k0 hne b0;have hkl:=eF hk;have e:=vR h (i:=(k:Int)) (by omega) (by omega);have eo:o=nth m (k:Int):=(rn hk).symm
    have eb:(nth l (k:Int)).box=o.box:=by rw[eo];exact congrArg Sk.box e
    have ek:(nth l (k:Int)).Rq=o.Rq:=by rw[eo];exact congrArg Sk.Rq e
    have b9:=dI.1 (jS (ok o (List.mem_of_getElem? hk)) (by simpa using hne)).1;have:=hl.box k (nth l (k:Int)) (fV (l:=l) (i:=(k:Int)) (by omega) (by omega)) k0 (by rw[ek];exact hne) (by rw[eb];exact b0);rw[eb]at this
    rwa[show(nth l o.box).Rq=(nth m o.box).Rq from congrArg Sk.Rq (vR h b0 (by omega))]at this
theorem I0(p:bh)(me now:Int):p.py.ag.map np=(om p me now).map np:=by
  unfold om;rw[List.map_map];refine List.map_congr_left fun o _=>?_
  show np o=np (if uc p me now o then xl o else o)
  split<;>rfl
theorem Mc{p:bh}{me now:Int}(h:∀o,o∈p.py.ag->eG o=true):∀o,o∈om p me now->eG o=true:=by
  intro o ho;obtain⟨x,hx,rfl⟩:=List.mem_map.1 (show o∈p.py.ag.map _ from ho);have hok:=h x hx;split
  · rename_i q;unfold uc at q;simp only[RP,decide_eq_true_eq]at q
    have hk:(x.Rq==0)=false:=by
      cases hk:x.Rq==0
      · rfl
      · unfold eG at hok;simp only[hk,RM,RP,decide_eq_true_eq]at hok;rw[hok.2.2]at q;simp[blank]at q
    unfold eG at hok⊢;have hk':((xl x).Rq==0)=false:=hk;rw[hk]at hok;rw[hk'];simp only[RL,RP]at hok⊢;obtain⟨a1,a2,a3,a4,a5,a6,a7,a8⟩:=hok;refine⟨a1,a2,a3,a4,a5,a6,a7,?_⟩;cases h4:x.Rq != 4
    · rw[h4]at a8;have h4':((xl x).Rq != 4)=false:=h4;rw[h4'];simp only[RL,RP]at a8⊢;exact⟨rfl,show dv (-1) (-1) 999=true by decide,a8.2.2⟩
    · rw[h4]at a8;simp only[RM,RP,beq_iff_eq]at a8;omega
  · exact hok
theorem Nh{p:bh}(h:dH p=true)(me now:Int):Ar (om p me now):=by
  have ar:=fb h;exact ar.np (I0 p me now) (Mc ar.ok)
theorem M8{p:bh}(h:dH p=true)(me now:Int):dH (jM p (om p me now))=true:=by
  have hw:=fF.2 (Nh h me now);unfold dH gn at *;simp only[RP]at h⊢;obtain⟨a,b,c,⟨_,d⟩,e⟩:=h;exact⟨a,b,c,⟨hw,d⟩,e⟩
theorem N9{l m:List c6}(h:l.map c6.cd=m.map c6.cd)(hl:∀o,o∈l->eG o=true)(hm:∀o,o∈m->eG o=true):((l.take 10).filter eG).foldl (fun n o=>i64.wrap (n+o.cd)) 0=((m.take 10).filter eG).foldl (fun n o=>i64.wrap (n+o.cd)) 0:=by
  rw[List.filter_eq_self.2 fun o ho=>hl o (List.mem_of_mem_take ho),List.filter_eq_self.2 fun o ho=>hm o (List.mem_of_mem_take ho)]
  have key:∀(x:List c6) (s:Int),x.foldl (fun n o=>i64.wrap (n+o.cd)) s=(x.map c6.cd).foldl (fun n k=>i64.wrap (n+k)) s:=fun x s=>by rw[List.foldl_map]
  rw[key,key,List.map_take,List.map_take,h]
theorem OZ{p:bh}(h:dH p=true)(me now:Int):hD (jM p (om p me now))=hD p:=by
  have ar:=fb h
  have hp:(om p me now).map c6.cd=p.py.ag.map c6.cd:=by
    unfold om;rw[List.map_map];refine List.map_congr_left fun o _=>?_
    show c6.cd (if uc p me now o then xl o else o)=o.cd
    split<;>rfl
  have e:held (jM p (om p me now))=held p:=N9 hp (Nh h me now).ok ar.ok;unfold hD;rw[e];rfl
theorem LZ{l:List c6}{i:Int}{z:c6}(h0:0<=i)(h1:i<(l.length:Int))(e:np z=np (nth l i)):(l.set i.toNat z).map np=l.map np:=by
  rw[List.map_set,e];exact kJ (Af i h0 h1)
theorem Ns{o:c6}(h:eG o=true)(hk:o.Rq=4)(hr:o.ed<1000000):eG (sh o)=true:=by
  have r0:=(LD h).1
  have hk0:(o.Rq==0)=false:=by rw[hk];rfl
  have hk4:(o.Rq != 4)=false:=by rw[hk];rfl
  unfold eG at h⊢;have hk0':((sh o).Rq==0)=false:=hk0;have hk4':((sh o).Rq != 4)=false:=hk4;rw[hk0]at h;rw[hk0'];simp only[RL,RP]at h⊢;obtain⟨a1,a2,a3,a4,a5,a6,a7,a8⟩:=h;rw[hk4]at a8;rw[hk4'];simp only[RL,RP]at a8⊢;exact⟨a1,a2,a3,a4,a5,a6,a7,a8.1,a8.2.1,dI.2 ⟨by show 0<=i64.wrap (o.ed+1);rw[dB (by omega) (by omega)];omega,by show i64.wrap (o.ed+1)<=1000000;rw[dB (by omega) (by omega)];omega⟩⟩
def tL(p : bh)(now : Int): bh:=bh.mk p.Rp p.own (eD p.Rr (hZ p (nth p.py.ag (gC p now)).RF) ⟨0, 0, 1⟩).1 (dm.mk (p.py.ag.set (gC p now).toNat (sh (nth p.py.ag (gC p now)))) p.py.gc) p.db (gC p now) 0
        (de.mk p.dc.cd p.dc.dg (i64.wrap (p.dc.dn+1))) p.du p.Rx
theorem PC{p:bh}{now:Int}(ok:dH p=true)(hr:qq p now=false):iy p now=(tL p now,gC p now):=by
  unfold iy;rw[if_pos ok,hr];rfl
theorem Ag{p:bh}{now:Int}(hr:qq p now=false):p.dc.dn<1000000/\(nth p.py.ag (gC p now)).ed<1000000:=by
  unfold qq at hr;simp only[Bool.or_eq_false_iff,decide_eq_false_iff_not]at hr;omega
theorem C0{p:bh}{now:Int}(ok:dH p=true)(hr:qq p now=false):(tL p now).py.ag.map np=p.py.ag.map np/\Ar (tL p now).py.ag:=by
  have ar:=fb ok;obtain⟨q0,q9⟩:=yY (List.mem_filter.1 (qI hr)).1;have hk:=(z9 (List.mem_filter.1 (qI hr)).1).1;have hl:=ar.len;have hs:=LZ (l:=p.py.ag) (z:=sh (nth p.py.ag (gC p now))) q0 (by omega) rfl;refine⟨hs,ar.np hs.symm fun o ho=>?_⟩
  rcases List.mem_or_eq_of_mem_set ho with q|q
  · exact ar.ok o q
  · rw[q];exact Ns (ar.ok _ (ar.at q0 q9).2) hk (Ag hr).2
theorem EM{p:bh}{now:Int}(ok:dH p=true)(hr:qq p now=false):dH (tL p now)=true:=by
  have hA:=fF.2 (C0 ok hr).2;have hT:=fc.2 (r6 (Ha ok (qI hr))).1;obtain⟨q0,q9⟩:=yY (List.mem_filter.1 (qI hr)).1;have hc:=(Ag hr).1;have sp:=ud (mi ok);unfold dH gn m8 at *;simp only[RP]at ok⊢;obtain⟨a,b,c,⟨_,d⟩,e,f,g1,g2,g3,g4⟩:=ok;refine⟨a,b,hT,⟨hA,d⟩,e,f,dI.2 ⟨q0,q9⟩,rfl,?_,g4⟩;refine eA.2 ⟨sp.1,sp.2.1,?_⟩
  show 0<=i64.wrap (p.dc.dn+1)/\i64.wrap (p.dc.dn+1)<=1000000
  rw[dB (by omega) (by omega)];omega
theorem NV{l m:List c6}(h:l.map c6.cd=m.map c6.cd)(hl:∀o,o∈l->eG o=true)(hm:∀o,o∈m->eG o=true):((l.take 10).filter eG).foldl (fun n o=>i64.wrap (n+o.cd)) 0=((m.take 10).filter eG).foldl (fun n o=>i64.wrap (n+o.cd)) 0:=by
  rw[List.filter_eq_self.2 fun o ho=>hl o (List.mem_of_mem_take ho),List.filter_eq_self.2 fun o ho=>hm o (List.mem_of_mem_take ho)]
  have key:∀(x:List c6) (s:Int),x.foldl (fun n o=>i64.wrap (n+o.cd)) s=(x.map c6.cd).foldl (fun n k=>i64.wrap (n+k)) s:=fun x s=>by rw[List.foldl_map]
  rw[key,key,List.map_take,List.map_take,h]
theorem NN{p:bh}{now:Int}(ok:dH p=true)(hr:qq p now=false):hD (tL p now)=hD p:=by
  have ar:=fb ok;obtain⟨q0,q9⟩:=yY (List.mem_filter.1 (qI hr)).1;have hl:=ar.len
  have hp:(tL p now).py.ag.map c6.cd=p.py.ag.map c6.cd:=by
    show(p.py.ag.set (gC p now).toNat (sh (nth p.py.ag (gC p now)))).map c6.cd=_
    rw[List.map_set];exact kJ (by rw[List.getElem?_map,fV q0 (by omega)];rfl)
  have e:held (tL p now)=held p:=NV hp (C0 ok hr).2.ok ar.ok;obtain⟨s1,s2,s3⟩:=NC ok (qI hr);have o1:=mi ok;have o2:=mi (EM ok hr);have hc:=(Ag hr).1;have sp:=ud o1;unfold hD;rw[o1,o2,e];simp only[if_true]
  show dU ⟨i64.wrap ((fy (eD p.Rr (hZ p (nth p.py.ag (gC p now)).RF) ⟨0,0,1⟩).1).cd+held p),(fy (eD p.Rr (hZ p (nth p.py.ag (gC p now)).RF) ⟨0,0,1⟩).1).dg,(fy (eD p.Rr (hZ p (nth p.py.ag (gC p now)).RF) ⟨0,0,1⟩).1).dn⟩ ⟨p.dc.cd,p.dc.dg,i64.wrap (p.dc.dn+1)⟩=_
  rw[s1,s2,s3,dB (n:=p.dc.dn+1) (by omega) (by omega)];unfold dU;simp only;rw[show(fy p.Rr).dn-1+(p.dc.dn+1)=(fy p.Rr).dn+p.dc.dn by omega]
end Go.Kx
