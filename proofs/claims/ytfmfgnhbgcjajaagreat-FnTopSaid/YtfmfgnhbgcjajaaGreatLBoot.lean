import Derived.Test.YtfmfgnhbgcjajaaGreatHa
namespace Go.Kx
open Go
open Go.IntKind (i64)
set_option linter.unusedVariables false
set_option linter.unusedSimpArgs false
set_option maxRecDepth 10000
theorem iK(p q:Bool):(bif p then some q else some false)=some (p&&q):=by cases p<;>rfl
theorem gW(p q:Bool):(bif p then some true else some q)=some (p || q):=by cases p<;>rfl
def dy(a b c:Int):Bool:=decide (b<=a)&&decide (a<=c)
theorem dM{a b c:Int}:dy a b c=true <-> b<=a/\a<=c:=by simp[dy]
theorem jV(N:Nat)(a b c:Int):ez N a b c=some (dy a b c):=iK _ _
theorem ko(N:Nat)(a b c:Int):eE N a b c=some (dy a b c):=iK _ _
def uJ(n:Int):Bool:=dy n 0 1000000
theorem Ql(N:Nat)(a:Int):qx N a=some (uJ a):=by unfold qx;rw[jV];rfl
theorem AP(N:Nat)(a:Int):lz N a=some (uJ a):=by unfold lz;rw[ko];rfl
def dT(a:de):Bool:=uJ a.cd&&(uJ a.dg&&uJ a.du)
theorem o7(N:Nat)(a:de):iF N a=some (dT a):=by unfold iF;simp only[Ql,Ry,iK];rfl
theorem pE(N:Nat)(a:de):iD N a=some (dT a):=by unfold iD;simp only[AP,Ry,iK];rfl
def dY(a b:de):de:=de.mk (i64.wrap (a.cd+b.cd)) (i64.wrap (a.dg+b.dg)) (i64.wrap (a.du+b.du))
def ga(a b:de):de×Bool:=if dT a&&dT b&&dT (dY a b)then(dY a b,true)else(a,false)
theorem uf(N:Nat)(a b:de):ky N a b=some (ga a b):=by
  unfold ky ga;simp only[o7,Ry,gW]
  show(bif(!dT a || !dT b)then some (a,false)else(bif !dT (dY a b)then some (a,false)else some (dY a b,true)))=_
  cases dT a<;>cases dT b<;>cases dT (dY a b)<;>rfl
theorem pG(N:Nat)(a b:de):jv N a b=some (dY a b):=rfl
theorem EV(N:Nat)(a b:de):ra N a b=some (ga a b):=by
  unfold ra ga;simp only[pE,pG,Ry,gW];cases dT a<;>cases dT b<;>cases dT (dY a b)<;>rfl
def fw(l:fD):Bool:=((l.Rb.length:Int)==4)&&l.Rb.all fun y=>dy y 0 3
theorem rE{l:fD}:fw l=true <-> l.Rb.length=4/\∀y,y∈l.Rb->0<=y/\y<=3:=by
  simp only[fw,RD,List.all_eq_true,dM,beq_iff_eq];constructor
  · rintro⟨h1,h2⟩;exact⟨by omega,h2⟩
  · rintro⟨h1,h2⟩;exact⟨by omega,h2⟩
theorem uw{N:Nat}(hN:dh<=N){l:fD}(hb:l.Rb.length<dh):kZ N l=some (fw l):=by
  unfold kZ fw;rw[fG l.Rb (fun _ y=>dy y 0 3) (.inl (l.Rb.length:Int)) (.inr false) (Nat.lt_of_lt_of_le hb hN),gF]
  · cases h:((l.Rb.length:Int)==4)
    · have:((l.Rb.length:Int) != 4)=true:=by simp[bne,h]
      simp[this]
    · have:((l.Rb.length:Int) != 4)=false:=by simp[bne,h]
      simp only[this,Rz,Ry,RC];cases l.Rb.all fun y=>dy y 0 3<;>rfl
  · intro k y hy hk;simp only[ey hk,RA,dN,hy,Ry,jV,eD (Nat.lt_trans hk hb)];cases dy y 0 3<;>rfl
  · simp only[er,Rz]
theorem uU{N:Nat}(hN:dh<=N){l:fD}(hb:l.Rb.length<dh):lk N l=some (fw l):=by
  unfold lk fw;rw[fG l.Rb (fun _ y=>dy y 0 3) (.inl (l.Rb.length:Int)) (.inr false) (Nat.lt_of_lt_of_le hb hN),gF]
  · simp only[Ry];cases l.Rb.all fun y=>dy y 0 3<;>simp
  · intro k y hy hk;simp only[ey hk,RA,dN,hy,Ry,ko,eD (Nat.lt_trans hk hb)];cases dy y 0 3<;>rfl
  · simp only[er,Rz]
def vJ(l:List Int)(k:Nat)(y:Int):Bool:=dy y 0 3&&match k with
  | 0=>true
  | j+1=>!decide (y<=(l[j]?).getD 0)
def jb(l:List Int):Bool:=allI (vJ l) 0 l
theorem Ho{l:List Int}{k:Nat}{y:Int}(hy:l[k]?=some y)(hk:k<l.length)(hb:l.length<dh){N:Nat}:
    (bif(!(dy y 0 3))then(some true)else(bif(decide ((k:Int)>0))then((idx l (i64.wrap ((k:Int)-1))).bind fun y18=>some (decide (y<=y18)))else(some false)):Option Bool)=some (!vJ l k y):=by
  have hB:l.length<16777216:=hb;unfold vJ
  cases k with
  | zero =>
    have:decide (((0:Nat):Int)>0)=false:=by decide
    simp only[this,Rz];cases dy y 0 3<;>rfl
  | succ j =>
    have:decide (((j+1:Nat):Int)>0)=true:=by simp
    have e:i64.wrap (((j+1:Nat):Int)-1)=(j:Int):=by rw[dF (by omega) (by omega)];omega
    have hz:l[j]?=some (l[j]'(by omega)):=List.getElem?_eq_getElem _;simp only[this,RA,e,dN,hz,Ry,Option.getD_some];cases dy y 0 3<;>simp
theorem zq{N:Nat}(hN:dh<=N){l:List Int}(hb:l.length<dh):ou N l=some (jb l):=by
  unfold ou jb;rw[fG l (vJ l) (.inl (l.length:Int)) (.inr false) (Nat.lt_of_lt_of_le hb hN)]
  · simp only[Ry];cases allI (vJ l) 0 l<;>rfl
  · intro k y hy hk;simp only[ey hk,RA,dN,hy,Ry,jV,eD (Nat.lt_trans hk hb)];rw[Ho hy hk hb (N:=N)];cases vJ l k y<;>rfl
  · simp only[er,Rz]
theorem zo{N:Nat}(hN:dh<=N){l:List Int}(hb:l.length<dh):oq N l=some (jb l):=by
  unfold oq jb;rw[fG l (vJ l) (.inl (l.length:Int)) (.inr false) (Nat.lt_of_lt_of_le hb hN)]
  · simp only[Ry];cases allI (vJ l) 0 l<;>rfl
  · intro k y hy hk;simp only[ey hk,RA,dN,hy,Ry,ko,eD (Nat.lt_trans hk hb),ge_iff_le];rw[Ho hy hk hb (N:=N)];cases vJ l k y<;>rfl
  · simp only[er,Rz]
theorem Nk{N:Nat}(hN:dh<=N){l:List Int}{x:Int}(hb:l.length<dh):∃r,oV N l x=some r/\decide (r>=0)=l.contains x:=by
  unfold oV;have hB:l.length<16777216:=hb;rw[show(0:Int)=(fun(k:Nat) (_:Unit)=>(k:Int)) 0 () from rfl,kJ l (fun k (_:Unit)=>(k:Int)) (fun k _ y=>if x==y then .inr (.inr (k:Int))else .inl ()) (fun _=>.inl (l.length:Int)) (fun _ _=>True) ?_ ?_ (Nat.lt_of_lt_of_le hb hN) trivial]
  · simp only[Ry]
    have key:∀(m:List Int) (k:Nat), ∃r,Sum.elim (fun _=>some (-1)) (fun r16=>some r16) (kf (ρ:=Int⊕Int) (fun(k:Nat) (_:Unit) y=>if x==y then .inr (.inr (k:Int))else .inl ()) (fun _=>.inl (l.length:Int)) k () m)=some r/\decide (r>=0)=m.contains x:=by
      intro m
      induction m with
      | nil=>intro k;exact⟨-1,rfl,rfl⟩
      | cons y m ih =>
        intro k;cases hxy:(x==y)
        · obtain⟨r,h1,h2⟩:=ih (k+1)
          have hne:x ≠ y:=by simpa using hxy
          refine⟨r,by simpa[kf,hxy]using h1,by rw[h2];simp[List.contains_cons,hne]⟩
        · have he:x=y:=by simpa using hxy
          exact⟨k,by simp[kf,hxy],by simp[List.contains_cons,he]⟩
    exact key l 0
  · intro k _ y hy hk _;simp only[ey hk,RA,dN,hy,Ry,eD (Nat.lt_trans hk hb)];cases(x==y)<;>simp
  · intro _ _;simp only[er,Rz]
theorem re{N:Nat}(hN:dh<=N){l:List Int}{x:Int}(hb:l.length<dh):g8 N l x=some (l.contains x):=by
  unfold g8;obtain⟨r,h1,h2⟩:=Nk hN hb (x:=x);rw[h1,Ry,h2]
def nU(b:List Int):Nat->List Int->List Int
  | _,[]=>[]
  | k,y::l=>if decide (y>(b[k]?).getD 0)then(k:Int)::nU b (k+1) l else nU b (k+1) l
theorem A9(b:List Int):∀(l:List Int) (k:Nat),(nU b k l).length<=l.length
  | [],_=>Nat.le_refl _
  | y::l,k=>by
    unfold nU;have:=A9 b l (k+1);split<;>simp<;>omega
theorem zx(b:List Int):∀(l:List Int) (k:Nat) (acc:List Int),foldI (fun k (acc:List Int) y=>if decide (y>(b[k]?).getD 0)then acc++[(k:Int)]else acc) k acc l=acc++nU b k l
  | [],_,acc=>by simp[foldI,nU]
  | y::l,k,acc=>by
    unfold foldI nU;rw[zx b l];cases decide (y>(b[k]?).getD 0)<;>simp
theorem NY{N:Nat}(hN:dh<=N){a b:fD}(ha:a.Rb.length<dh)(hab:a.Rb.length<=b.Rb.length):uN N a b=some (nU b.Rb 0 a.Rb):=by
  unfold uN
  rw[show(([]:List Int),(0:Int))=(fun(k:Nat) (t:List Int)=>(t,(k:Int))) 0 [] from rfl,
    gy a.Rb (fun k (t:List Int)=>(t,(k:Int))) (fun k acc y=>if decide (y>(b.Rb[k]?).getD 0)then acc++[(k:Int)]else acc) (fun t=>(t,(a.Rb.length:Int))) (fun k t=>t.length<=k) ?_ ?_ (Nat.lt_of_lt_of_le ha hN) (by simp),zx]
  · simp
  · intro k t y hy hk hI;have hz:b.Rb[k]?=some (b.Rb[k]'(by omega)):=List.getElem?_eq_getElem _;simp only[ey hk,RA,dN,hy,hz,Ry,Option.getD_some,eD (Nat.lt_trans hk ha)];cases decide (y>b.Rb[k]'(by omega))
    · exact⟨rfl,by simp;omega⟩
    · have:app t [(k:Int)]=some (t++[(k:Int)]):=by unfold app;rw[if_pos (by simp;omega)]
      simp only[this,Ry,RA,if_true];exact⟨trivial,by simp;omega⟩
  · intro t _;simp only[er,Rz]
def qa(own:List Int)(a b:fD):Bool:=jb own&&(fw a&&(fw b&&allI (fun k y=>!decide (y>(b.Rb[k]?).getD 0) || own.contains (k:Int)) 0 a.Rb))
theorem Cc(b:List Int)(q:Int->Bool):∀(l:List Int) (k:Nat),(nU b k l).all q=allI (fun k y=>!decide (y>(b[k]?).getD 0) || q (k:Int)) k l
  | [],_=>rfl
  | y::l,k=>by
    unfold nU allI;rw[<- Cc b q l (k+1)];cases decide (y>(b[k]?).getD 0)<;>simp
theorem II{N:Nat}(hN:dh<=N){own:List Int}{a b:fD}(ho:own.length<dh)(ha:a.Rb.length<dh)(hb:b.Rb.length<dh):pO N own a b=some (qa own a b):=by
  unfold pO qa;simp only[zo hN ho,uU hN ha,uU hN hb,Ry,gW];cases h1:jb own
  · rfl
  cases h2:fw a
  · rfl
  cases h3:fw b
  · rfl
  have l2:=(rE.1 h2).1;have l3:=(rE.1 h3).1;have hl:=A9 b.Rb a.Rb 0;have hB:(nU b.Rb 0 a.Rb).length<dh:=Nat.lt_of_le_of_lt hl ha;simp only[RB,Bool.or_self,Rz,NY hN ha (b:=b) (by omega),Ry,RC];rw[fG (nU b.Rb 0 a.Rb) (fun _ y=>own.contains y) (.inl ((nU b.Rb 0 a.Rb).length:Int)) (.inr false) (Nat.lt_of_lt_of_le hB hN),gF,Cc]
  · simp only[Ry];cases allI _ 0 a.Rb<;>rfl
  · intro k y hy hk;simp only[ey hk,RA,dN,hy,Ry,re hN ho,eD (Nat.lt_trans hk hB)];cases own.contains y<;>rfl
  · simp only[er,Rz]
theorem Ox{α ρ:Type}{body:Int->Option (Int⊕ρ)}(x:List α)(h4:x.length=4)(p:Nat->α->Bool)(r r':ρ){N:Nat}(hN:dh<=N)
    (hs:∀(k:Nat) (y:α),x[k]?=some y->k<4->decide ((k:Int)<4)=true->body (k:Int)=some (if p k y then .inl ((k+1:Nat):Int)else .inr r')) (he:body 4=some (.inr r)):iter body N 0=some (if allI p 0 x then r else r') :=
  fG x p r r' (by have:16777216<=N:=hN;omega) (fun k y hy hk=>hs k y hy (by omega) (by simp;omega)) (by rw[h4];exact he)
def nQ:de->List eh->Bool
  | _,[]=>true
  | a,b::l=>(ga a b.fA).2&&(fw b.Rd&&(jb b.own&&nQ (ga a b.fA).1 l))
def ia(l:List eh):Bool:=nQ ⟨0,0,0⟩ l&&dy (l.length:Int) 1 3
theorem xW(e:Int)(g:Nat->de->eh->de⊕((Int×Int×Int×Int)⊕Bool))(fin:de->((Int×Int×Int×Int)⊕Bool))(k:Option Bool)
    (hg:∀k t y,g k t y=if(ga t y.fA).2&&(fw y.Rd&&jb y.own)then .inl (ga t y.fA).1 else .inr (.inr false)) (hf:∀t, ∃v,fin t=.inl v) :
    ∀(l:List eh) (j:Nat) (t:de),Sum.elim (fun _=>k) (fun r=>some r) (kf g fin j t l)=bif nQ t l then k else some false
  | [],j,t=>by obtain⟨v,hv⟩:=hf t;simp[kf,nQ,hv]
  | b::l,j,t=>by
    have ih:=xW e g fin k hg hf l (j+1);simp only[kf,nQ,hg];cases(ga t b.fA).2
    · rfl
    cases fw b.Rd
    · rfl
    cases jb b.own
    · rfl
    simpa using ih _
theorem KQ{l:List eh}{y:eh}(hb:eK fh l<dh)(hy:y∈l):y.Rd.Rb.length<dh/\y.own.length<dh:=by
  have:=fH hb hy;unfold fh jx at this;omega
theorem xB{N:Nat}(hN:dh<=N){l:List eh}(hb:eK fh l<dh):na N l=some (ia l):=by
  have hl:=gL hb;unfold na ia
  rw[show((0:Int),(0:Int),(0:Int),(0:Int))=(fun(k:Nat) (t:de)=>((k:Int),t.cd,t.dg,t.du)) 0 ⟨0,0,0⟩ from rfl,
    kJ l (fun(k:Nat) (t:de)=>((k:Int),t.cd,t.dg,t.du)) (fun k t y=>if(ga t y.fA).2&&(fw y.Rd&&jb y.own)then .inl (ga t y.fA).1 else .inr (.inr false)) (fun t=>.inl ((l.length:Int),t.cd,t.dg,t.du)) (fun _ _=>True) ?_ ?_ (Nat.lt_of_lt_of_le hl hN) trivial]
  · simp only[Ry,ko];rw[xW 0 _ _ _ (fun _ _ _=>rfl) (fun t=>⟨_,rfl⟩),iK]
  · intro k t y hy hk _;obtain⟨b1,b2⟩:=KQ hb (List.mem_of_getElem? hy);refine⟨?_,fun _ _=>trivial⟩;simp only[ey hk,RA,dN,hy,Ry,EV,uU hN b1,zo hN b2,gW,eD (Nat.lt_trans hk hl)];cases(ga t y.fA).2
    · rfl
    cases fw y.Rd
    · rfl
    cases jb y.own<;>rfl
  · intro t _;simp only[er,Rz]
theorem xX{N:Nat}(hN:dh<=N){l:List eh}(hb:eK fh l<dh):np N l=some (ia l):=by
  have hl:=gL hb;have hN':16777216<=N:=hN;have hlB:l.length<16777216:=hl;unfold np ia
  rw[show((0:Int),(0:Int),(0:Int),(0:Int))=(fun(k:Nat) (t:de)=>((k:Int),t.cd,t.dg,t.du)) 0 ⟨0,0,0⟩ from rfl,
    kJ (l.take 3) (fun(k:Nat) (t:de)=>((k:Int),t.cd,t.dg,t.du)) (fun k t y=>if(ga t y.fA).2&&(fw y.Rd&&jb y.own)then .inl (ga t y.fA).1 else .inr (.inr false)) (fun t=>.inl (((l.take 3).length:Int),t.cd,t.dg,t.du)) (fun _ _=>True) ?_ ?_ (by simp;omega) trivial]
  · simp only[Ry,jV];rw[xW 0 _ _ _ (fun _ _ _=>rfl) (fun t=>⟨_,rfl⟩),iK]
    rcases Nat.lt_or_ge 3 l.length with h|h
    · have:dy (l.length:Int) 1 3=false:=by simp[dy];omega
      simp[this]
    · rw[List.take_of_length_le h]
  · intro k t y hy hk _
    have hk2:k<3/\k<l.length:=by simp at hk;omega
    rw[List.getElem?_take_of_lt hk2.1]at hy;obtain⟨b1,b2⟩:=KQ hb (List.mem_of_getElem? hy);refine⟨?_,fun _ _=>trivial⟩
    have h3:decide ((k:Int)<3)=true:=by simp;omega
    simp only[ey hk2.2,h3,RA,dN,hy,Ry,uf,uw hN b1,zq hN b2,gW,eD (show k<dh from Nat.lt_trans hk2.1 (by decide))];cases h1:(ga t y.fA).2
    · cases fw y.Rd<;>cases jb y.own<;>rfl
    cases fw y.Rd
    · rfl
    cases jb y.own<;>rfl
  · intro t _;simp only[List.length_take]
    rcases Nat.lt_or_ge 3 l.length with h|h
    · have e:min 3 l.length=3:=by omega
      have h3:decide (((3:Nat):Int)<(l.length:Int))=true:=by simp;omega
      simp only[e,h3,RA];rfl
    · have e:min 3 l.length=l.length:=by omega
      simp only[e,er,Rz,Ry]
def lI(l:List eh):de:=if ia l then l.foldl (fun a b=>dY a b.fA) ⟨0,0,0⟩else⟨0,0,0⟩
theorem wN:∀(l:List eh) (a:de),nQ a l=true->l.foldl (fun a b=>(ga a b.fA).1) a=l.foldl (fun a b=>dY a b.fA) a
  | [],_,_=>rfl
  | b::l,a,h=>by
    simp only[nQ,RD]at h;obtain⟨h1,_,_,h4⟩:=h
    have e:(ga a b.fA).1=dY a b.fA:=by
      unfold ga at h1⊢;split<;>simp_all
    rw[List.foldl_cons,List.foldl_cons,e];rw[e]at h4;exact wN l _ h4
theorem Kj{N:Nat}(hN:dh<=N){l:List eh}(hb:eK fh l<dh):rV N l=some (lI l):=by
  have hl:=gL hb;unfold rV lI;rw[xB hN hb,Ry];cases h:ia l
  · rfl
  · rw[show((0:Int),(0:Int),(0:Int),(0:Int))=(fun(k:Nat) (t:de)=>((k:Int),t.cd,t.dg,t.du)) 0 ⟨0,0,0⟩ from rfl,
      gy l (fun(k:Nat) (t:de)=>((k:Int),t.cd,t.dg,t.du)) (fun _ a b=>dY a b.fA) (fun t=>((l.length:Int),t.cd,t.dg,t.du)) (fun _ _=>True) ?_ ?_ (Nat.lt_of_lt_of_le hl hN) trivial,ir]
    · rfl
    · intro k t y hy hk _;simp only[ey hk,RA,dN,hy,Ry,pG,eD (Nat.lt_trans hk hl)];exact⟨trivial,trivial⟩
    · intro t _;simp only[er,Rz]
theorem J5{N:Nat}(hN:dh<=N){l:List eh}(hb:eK fh l<dh):rD N l=some (lI l):=by
  have hl:=gL hb;unfold rD lI;rw[xX hN hb,Ry];cases h:ia l
  · rfl
  · rw[show((0:Int),(0:Int),(0:Int),(0:Int))=(fun(k:Nat) (t:de)=>((k:Int),t.cd,t.dg,t.du)) 0 ⟨0,0,0⟩ from rfl,
      gy l (fun(k:Nat) (t:de)=>((k:Int),t.cd,t.dg,t.du)) (fun _ a b=>(ga a b.fA).1) (fun t=>((l.length:Int),t.cd,t.dg,t.du)) (fun _ _=>True) ?_ ?_ (Nat.lt_of_lt_of_le hl hN) trivial,ir]
    · rw[wN l _ (by unfold ia at h;exact(RD _ _ ▸ h).1)];rfl
    · intro k t y hy hk _;simp only[ey hk,RA,dN,hy,Ry,uf,eD (Nat.lt_trans hk hl)];exact⟨trivial,trivial⟩
    · intro t _;simp only[er,Rz]
theorem xb{σ ρ:Type}{body:σ->Option (σ⊕ρ)}(I:σ->Prop)(J:ρ->Prop)(μ:σ->Nat)
    (h:∀s,I s->∃o,body s=some o/\(∀s',o=.inl s'->I s'/\μ s'<μ s)/\∀r,o=.inr r->J r):∀(N:Nat) (s:σ),I s->μ s<N->∃r,iter body N s=some r/\J r
  | 0,_,_,hN=>absurd hN (Nat.not_lt_zero _)
  | N+1,s,hI,hN=>by
    obtain⟨o,ho,h1,h2⟩:=h s hI
    cases o with
    | inl s' =>
      obtain⟨hI',hm⟩:=h1 s' rfl;obtain⟨r,hr,hJ⟩:=xb I J μ h N s' hI' (by omega);exact⟨r,by show(body s).bind _=_;rw[ho];exact hr,hJ⟩
    | inr r=>exact⟨r,by show(body s).bind _=_;rw[ho];rfl,h2 r rfl⟩
theorem yL{α:Type}{l:List α}{i:Int}(h0:0<=i)(h1:i<(l.length:Int)):∃y,idx l i=some y/\y∈l:=by
  have hz:l[i.toNat]?=some (l[i.toNat]'(by omega)):=List.getElem?_eq_getElem _;exact⟨_,by unfold idx;rw[if_pos h0,hz],List.getElem_mem _⟩
theorem HR(a:Int){m:Int}(h0:0<=m)(h1:m<=2147483647):0<=yG a m/\yG a m<=m:=by
  have h:(BitVec.ofInt IntKind.i64.bits a &&& BitVec.ofInt IntKind.i64.bits m).toNat<=m.toNat:=by
    rw[BitVec.toNat_and];refine Nat.le_trans Nat.and_le_right ?_;rw[BitVec.toNat_ofInt]
    show(m % ((2^64:Nat):Int)).toNat<=m.toNat
    rw[Int.emod_eq_of_lt h0 (by omega)];exact Nat.le_refl _
  unfold yG;rw[dF (by omega) (by omega)];omega
def Cu(c:dL):Prop:=c.b.length<=1048576/\0<=c.i
theorem Cu.to{c:dL}(hc:Cu c){i h:Int}(hi:0<=i):Cu ⟨c.b,i,h⟩:=⟨hc.1,hi⟩
theorem P4{N:Nat}(hN:dh<=N){l:List U8}(hl:l.length<=1048576):∃h,sS N l=some ⟨l,0,h⟩:=by
  unfold sS;have hB:(16777216:Nat)<=N:=hN
  obtain⟨r,hr,_⟩:=xb (body:=fun(s1:Int×Int)=>((bif(decide (s1.2<(l.length:Int)))then(some (decide (s1.2<4000)))else(some false):Option Bool).bind fun j3=>bif j3 then((idx l s1.2).bind fun y8=>some (.inl (yG (i64.wrap ((i64.wrap ((i64.wrap (s1.1*131))+(i64.wrap y8.v)))+7)) 1073741823,i64.wrap (s1.2+1))))else(some (.inr (s1.1,s1.2))):Option ((Int×Int)⊕(Int×Int))))
    (fun s=>0<=s.2/\s.2<=(l.length:Int)) (fun _=>True) (fun s=>((l.length:Int)-s.2).toNat) (by
      rintro⟨h,i⟩ ⟨h0,h1⟩;simp only at h0 h1
      cases hlt:decide (i<(l.length:Int))with
      | false=>exact⟨_,by simp only[hlt,Rz,Ry];rfl,by simp,fun _ _=>trivial⟩
      | true =>
        have h2:=of_decide_eq_true hlt
        cases h4:decide (i<4000)with
        | false=>exact⟨_,by simp only[hlt,h4,Rz,RA,Ry];rfl,by simp,fun _ _=>trivial⟩
        | true =>
          obtain⟨y,hy,_⟩:=yL h0 h2;refine⟨_,by simp only[hlt,h4,hy,RA,Ry];rfl,?_,by simp⟩;rintro s' hs;cases Sum.inl.inj hs;simp only;rw[dF (by omega) (by omega)]
          omega) N (i64.wrap (10101+(l.length:Int)),0) ⟨Int.le_refl _,by simp⟩ (by simp only;omega)
  rw[hr];exact⟨r.1,rfl⟩
theorem yR{N:Nat}{c:dL}(hc:Cu c):∃x i h,lU N c=some (x,⟨c.b,i,h⟩)/\0<=i/\0<=x/\x<=255:=by
  unfold lU;obtain⟨hb,hi⟩:=hc
  cases hlt:decide (c.i<(c.b.length:Int))with
  | true =>
    have h1:=of_decide_eq_true hlt;obtain⟨y,hy,_⟩:=yL hi h1;simp only[hy,RA,Ry];exact⟨_,_,_,rfl,by rw[dF (by omega) (by omega)];omega,HR _ (by decide) (by decide)⟩
  | false=>exact⟨_,_,_,rfl,hi,HR _ (by decide) (by decide)⟩
theorem Af{a n:Int}(ha:0<=a)(hn:0<n):0<=Int.tmod a n/\Int.tmod a n<n:=by
  rw[Int.tmod_eq_emod_of_nonneg ha];exact⟨Int.emod_nonneg _ (by omega),Int.emod_lt_of_pos _ hn⟩
theorem MH{n:Int}(h:n ≠ 0):dz n=some ():=by unfold dz;rw[if_neg h]
theorem sF{N:Nat}{c:dL}(hc:Cu c)(n:Int):∃x i h,dS N c n=some (x,⟨c.b,i,h⟩)/\0<=i/\0<=x/\(0<n->x<n)/\(n<=0->x=0):=by
  unfold dS
  cases h0:decide (n<=0)with
  | true=>exact⟨0,c.i,c.h,rfl,hc.2,Int.le_refl _,fun h=>h,fun _=>rfl⟩
  | false =>
    have hn:=of_decide_eq_false h0;simp only[Rz]
    cases h1:decide (n<=256)with
    | true =>
      obtain⟨x,i,h,e,hi,hx,_⟩:=yR (N:=N) hc;simp only[RA,e,Ry,MH (show n ≠ 0 by omega)];obtain⟨q1,q2⟩:=Af hx (show 0<n by omega);exact⟨_,i,h,rfl,hi,q1,fun _=>q2,fun h=>by omega⟩
    | false =>
      obtain⟨x1,i1,h1,e1,hi1,hx1,hy1⟩:=yR (N:=N) hc;obtain⟨x2,i2,h2,e2,hi2,hx2,hy2⟩:=yR (N:=N) (hc.to (h:=h1) hi1);obtain⟨x3,i3,h3,e3,hi3,hx3,hy3⟩:=yR (N:=N) (hc.to (h:=h2) hi2);obtain⟨x4,i4,h4,e4,hi4,hx4,hy4⟩:=yR (N:=N) (hc.to (h:=h3) hi3);simp only[Rz,e1,e2,e3,e4,Ry,MH (show n ≠ 0 by omega)]
      rw[dF (n:=x1*16777216) (by omega) (by omega),dF (n:=x2*65536) (by omega) (by omega),dF (n:=x3*256) (by omega) (by omega),
        dF (n:=x1*16777216+x2*65536) (by omega) (by omega),dF (n:=x1*16777216+x2*65536+x3*256) (by omega) (by omega),dF (n:=x1*16777216+x2*65536+x3*256+x4) (by omega) (by omega)]
      obtain⟨q1,q2⟩:=Af (show 0<=x1*16777216+x2*65536+x3*256+x4 by omega) (show 0<n by omega);exact⟨_,i4,h4,rfl,hi4,q1,fun _=>q2,fun h=>by omega⟩
theorem Ex{N:Nat}{c:dL}(hc:Cu c)(n:Int):∃x i h,gT N c n=some (x,⟨c.b,i,h⟩)/\0<=i:=by
  unfold gT;obtain⟨x,i,h,e,hi,_⟩:=sF (N:=N) hc n;simp only[e,Ry];exact⟨_,i,h,rfl,hi⟩
theorem yN{N:Nat}{c:dL}(hc:Cu c){l:List Int}(hl:0<l.length):∃x i h,gV N c l=some (x,⟨c.b,i,h⟩)/\0<=i/\x∈l:=by
  unfold gV;obtain⟨x,i,h,e,hi,hx,hy,_⟩:=sF (N:=N) hc (l.length:Int);obtain⟨y,hy,hm⟩:=yL hx (hy (by omega));simp only[e,Ry,hy];exact⟨_,i,h,rfl,hi,hm⟩
theorem xt{α:Type}{t:List α}{z:α}(h:t.length<=1000000):app t [z]=some (t++[z]):=by
  have:(16777216:Nat)=dh:=rfl;unfold app;rw[if_pos (by simp only[List.length_cons,List.length_nil];omega)]
theorem Ht{N:Nat}(hN:dh<=N){c:dL}(hc:Cu c):∃x i h,nE N c=some (x,⟨c.b,i,h⟩)/\0<=i/\x.Rb.length=4/\∀y,y∈x.Rb->0<=y/\y<=3:=by
  unfold nE;have hB:(16777216:Nat)<=N:=hN
  obtain⟨r,hr,hJ⟩:=xb (body:=fun(s6:Int×Int×Int×(List Int))=>(bif(decide (s6.1<4))then((dS N (dL.mk c.b s6.2.1 s6.2.2.1) 4).bind fun y9=>(app s6.2.2.2 ([y9.1]:List Int)).bind fun y16=>some (.inl (i64.wrap (s6.1+1),y9.2.i,y9.2.h,y16)))else(some (.inr (s6.1,s6.2.1,s6.2.2.1,s6.2.2.2))):Option ((Int×Int×Int×(List Int))⊕(Int×Int×Int×(List Int)))))
    (fun s=>0<=s.1/\s.1<=4/\0<=s.2.1/\(s.2.2.2.length:Int)=s.1/\∀y,y∈s.2.2.2->0<=y/\y<=3) (fun s=>0<=s.2.1/\s.2.2.2.length=4/\∀y,y∈s.2.2.2->0<=y/\y<=3) (fun s=>(4-s.1).toNat) (by
      rintro⟨k,i,h,l⟩ ⟨h0,h1,h2,h3,h4⟩;simp only at h0 h1 h2 h3 h4
      cases hlt:decide (k<4)with
      | false =>
        have:=of_decide_eq_false hlt;refine⟨_,by simp only[hlt,Rz];rfl,by simp,fun r hr=>?_⟩;cases Sum.inr.inj hr;exact⟨h2,by simp only;omega,h4⟩
      | true =>
        have:=of_decide_eq_true hlt;obtain⟨x,i',h',e,hi,hx,hy,_⟩:=sF (N:=N) (hc.to (h:=h) h2) 4;refine⟨_,by simp only[hlt,RA,e,Ry,xt (t:=l) (z:=x) (by omega)];rfl,?_,by simp⟩;rintro s' hs;cases Sum.inl.inj hs;simp only;rw[dF (by omega) (by omega)];refine⟨⟨by omega,by omega,hi,by simp only[List.length_append,List.length_cons,List.length_nil];omega,fun y hm=>?_⟩,by omega⟩
        rcases List.mem_append.1 hm with hm|hm
        · exact h4 y hm
        · rw[List.mem_singleton]at hm;have:=hy (by omega)
          omega) N (0,c.i,c.h,[]) ⟨Int.le_refl _,by simp,hc.2,rfl,by simp⟩ (by simp only;omega)
  rw[hr];exact⟨_,_,_,rfl,hJ.1,hJ.2.1,hJ.2.2⟩
theorem IW{N:Nat}(hN:dh<=N){c:dL}(hc:Cu c):∃x i h,sN N c=some (x,⟨c.b,i,h⟩)/\0<=i/\x.Rb.length<=5:=by
  unfold sN;obtain⟨x,i,h,e,hi,hl,_⟩:=Ht hN hc;obtain⟨x1,i1,h1,e1,hi1,_⟩:=sF (N:=N) (hc.to (h:=h) hi) 14;obtain⟨x2,i2,h2,e2,hi2,hx2,hy2,_⟩:=sF (N:=N) (hc.to (h:=h1) hi1) 4;have hy2:=hy2 (by decide);obtain⟨x3,i3,h3,e3,hi3,_⟩:=yN (N:=N) (hc.to (h:=h2) hi2) (l:=[-1,4]) (by decide);simp only[e,e1,Ry];cases x1==0
  · cases x1==1
    · cases x1==2
      · exact⟨_,i1,h1,rfl,hi1,by simp only;omega⟩
      · simp only[RA,Rz,xt (t:=x.Rb) (z:=0) (by omega),Ry];exact⟨_,i1,h1,rfl,hi1,by simp only[List.length_append,List.length_cons,List.length_nil];omega⟩
    · obtain⟨y,hy,_⟩:=yL (l:=x.Rb) hx2 (by omega);simp only[RA,Rz,e2,e3,hy,Ry];exact⟨_,i3,h3,rfl,hi3,by simp only[List.length_set];omega⟩
  · have hs:sub x.Rb 0 x2=some ((x.Rb.drop (0:Int).toNat).take (x2.toNat-(0:Int).toNat)):=by unfold sub;rw[if_pos ⟨Int.le_refl _,hx2,by omega⟩]
    simp only[RA,e2,hs,Ry];exact⟨_,i2,h2,rfl,hi2,by simp only[List.length_take,List.length_drop];omega⟩
theorem PT{N:Nat}(hN:dh<=N){c:dL}(hc:Cu c):∃x i h,sJ N c=some (x,⟨c.b,i,h⟩)/\0<=i/\x.length<=5:=by
  unfold sJ;have hB:(16777216:Nat)<=N:=hN
  obtain⟨r,hr,hJ⟩:=xb (body:=fun(s4:(List Int)×Int×Int×Int)=>(bif(decide (s4.2.1<4))then((gT N (dL.mk c.b s4.2.2.1 s4.2.2.2) 3).bind fun y7=>bif y7.1 then((app s4.1 [s4.2.1]).bind fun y14=>some (.inl (y14,i64.wrap (s4.2.1+1),y7.2.i,y7.2.h)))else(some (.inl (s4.1,i64.wrap (s4.2.1+1),y7.2.i,y7.2.h))))else(some (.inr (s4.1,s4.2.1,s4.2.2.1,s4.2.2.2))):Option (((List Int)×Int×Int×Int)⊕((List Int)×Int×Int×Int))))
    (fun s=>0<=s.2.1/\s.2.1<=4/\0<=s.2.2.1/\(s.1.length:Int)<=s.2.1) (fun s=>0<=s.2.2.1/\s.1.length<=4) (fun s=>(4-s.2.1).toNat) (by
      rintro⟨l,k,i,h⟩ ⟨h0,h1,h2,h3⟩;simp only at h0 h1 h2 h3
      cases hlt:decide (k<4)with
      | false =>
        have:=of_decide_eq_false hlt;refine⟨_,by simp only[hlt,Rz];rfl,by simp,fun r hr=>?_⟩;cases Sum.inr.inj hr;exact⟨h2,by simp only;omega⟩
      | true =>
        have:=of_decide_eq_true hlt;obtain⟨x,i',h',e,hi⟩:=Ex (N:=N) (hc.to (h:=h) h2) 3
        cases x with
        | false =>
          refine⟨_,by simp only[hlt,RA,Rz,e,Ry];rfl,?_,by simp⟩;rintro s' hs;cases Sum.inl.inj hs;simp only;rw[dF (by omega) (by omega)];exact⟨⟨by omega,by omega,hi,by omega⟩,by omega⟩
        | true =>
          refine⟨_,by simp only[hlt,RA,e,Ry,xt (t:=l) (z:=k) (by omega)];rfl,?_,by simp⟩;rintro s' hs;cases Sum.inl.inj hs;simp only;rw[dF (by omega) (by omega)]
          exact⟨⟨by omega,by omega,hi,by simp only[List.length_append,List.length_cons,List.length_nil];omega⟩,by omega⟩) N ([],0,c.i,c.h) ⟨Int.le_refl _,by simp,hc.2,by simp⟩ (by simp only;omega)
  rw[hr];obtain⟨j1,j2⟩:=hJ;obtain⟨x1,i1,h1,e1,hi1,_⟩:=sF (N:=N) (hc.to (h:=r.2.2.2) j1) 20;simp only[e1,Ry,xt (t:=r.1) (z:=(4:Int)) (by omega),xt (t:=r.1) (z:=(0:Int)) (by omega)];cases x1==0
  · cases x1==1
    · exact⟨_,i1,h1,rfl,hi1,by omega⟩
    · exact⟨_,i1,h1,rfl,hi1,by simp only[List.length_append,List.length_cons,List.length_nil];omega⟩
  · exact⟨_,i1,h1,rfl,hi1,by simp only[List.length_append,List.length_cons,List.length_nil];omega⟩
theorem I5{N:Nat}{c:dL}(hc:Cu c):∃x i h,pZ N c=some (x,⟨c.b,i,h⟩)/\0<=i:=by
  unfold pZ;obtain⟨x,i,h,e,hi⟩:=Ex (N:=N) hc 20;simp only[e,Ry];cases x
  · obtain⟨x1,i1,h1,e1,hi1,_⟩:=sF (N:=N) (hc.to (h:=h) hi) 60;simp only[Rz,e1,Ry];exact⟨_,i1,h1,rfl,hi1⟩
  · obtain⟨x1,i1,h1,e1,hi1,_⟩:=yN (N:=N) (hc.to (h:=h) hi) (l:=[-1,1000000,1000001,999999]) (by decide);simp only[RA,e1,Ry];exact⟨_,i1,h1,rfl,hi1⟩
theorem P7{N:Nat}{c:dL}(hc:Cu c):∃x i h,sH N c=some (x,⟨c.b,i,h⟩)/\0<=i:=by
  unfold sH;obtain⟨x1,i1,h1,e1,hi1⟩:=I5 (N:=N) hc;obtain⟨x2,i2,h2,e2,hi2⟩:=I5 (N:=N) (hc.to (h:=h1) hi1);obtain⟨x3,i3,h3,e3,hi3⟩:=I5 (N:=N) (hc.to (h:=h2) hi2);simp only[e1,e2,e3,Ry];exact⟨_,i3,h3,rfl,hi3⟩
def nth{α:Type}[dv α](l:List α)(i:Int):α:=(l[i.toNat]?).getD dv.zero
theorem eP{α:Type}[dv α]{l:List α}{i:Int}(h0:0<=i)(h1:i<(l.length:Int)):idx l i=some (nth l i):=by
  have hz:l[i.toNat]?=some (l[i.toNat]'(by omega)):=List.getElem?_eq_getElem _;unfold idx nth;rw[if_pos h0,hz];rfl
theorem Aw{α:Type}[dv α]{l:List α}{i a b:Int}(h:dy i a b=true)(ha:0<=a)(hb:b<(l.length:Int)):idx l i=some (nth l i):=by
  rw[dM]at h;exact eP (by omega) (by omega)
theorem nK{α:Type}[dv α]{l:List α}{k:Nat}{y:α}(h:l[k]?=some y):nth l (k:Int)=y:=by simp[nth,h]
theorem gJ{α:Type}[dv α]{l:List α}{i:Int}(h0:0<=i)(h1:i<(l.length:Int)):nth l i∈l:=by
  have hz:l[i.toNat]?=some (l[i.toNat]'(by omega)):=List.getElem?_eq_getElem _;unfold nth;rw[hz];exact List.getElem_mem _
theorem uX{α:Type}{l:List α}{n:Nat}(h:((l.length:Int) != (n:Int))=false):l.length=n:=by simp at h;omega
theorem uz(N:Nat)(a:Int):jC N a=some (dy a 0 4):=by unfold jC;rw[ko];rfl
theorem vr(N:Nat)(a:Int):km N a=some (dy a 0 4):=by unfold km;rw[jV];rfl
def ei(t:List dk)(i:Int):Bool:=dy i 0 4&&(nth t i).Rq
def up(t:List dk)(i:Int):Int:=(nth t i).Rr
def leads(t:List dk):Nat->Int->Bool
  | 0,_=>false
  | n+1,i=>(i==0) || (ei t i&&leads t n (up t i))
def fV(t:List dk):Nat->Int->Int
  | 0,a=>a
  | n+1,a=>if a>0 then fV t n (up t a)else a
theorem pQ(N:Nat){t:List dk}(h:t.length=5)(i:Int):kb N t i=some (ei t i):=by
  unfold kb ei;rw[uz,Ry];cases hi:dy i 0 4
  · rfl
  · simp only[RA,Aw hi (by omega) (show(4:Int)<(t.length:Int) by omega),Ry,RC]
theorem Qg{k:Nat}(h:k<(List.replicate 5 ()).length):k<5/\decide ((k:Int)<5)=true:=by
  have h:k<5:=by simpa using h
  exact⟨h,by simp;omega⟩
theorem OR{k n:Nat}{N:Nat}(hN:dh<=N)(hn:n<16777216):(List.replicate n ()).length<N:=by
  have:16777216<=N:=hN;simp;omega
theorem Kk{N:Nat}(hN:dh<=N){t:List dk}(h:t.length=5)(i:Int):rP N t i=some (leads t 5 i):=by
  unfold rP
  rw[show((i,0):Int×Int)=(fun(k:Nat) (a:Int)=>(a,(k:Int))) 0 i from rfl,
    kJ (List.replicate 5 ()) (fun(k:Nat) (a:Int)=>(a,(k:Int))) (fun _ a _=>if a==0 then .inr (.inr true)else if ei t a then .inl (up t a)else .inr (.inr false)) (fun a=>.inl (a,5)) (fun _ _=>True) ?_ ?_ (OR (k:=0) hN (by decide)) trivial]
  · have key:∀(n k:Nat) (a:Int),Sum.elim (fun _=>some false) (fun r20=>some r20) (kf (ρ:=(Int×Int)⊕Bool) (fun(_:Nat) a (_:Unit)=>if a==0 then .inr (.inr true)else if ei t a then .inl (up t a)else .inr (.inr false)) (fun a=>.inl (a,5)) k a (List.replicate n ()))=some (leads t n a):=by
      intro n
      induction n with
      | zero=>intro k a;rfl
      | succ n ih =>
        intro k a;rw[List.replicate_succ];unfold kf leads;cases h0:(a==0)
        · cases h1:ei t a
          · rfl
          · simpa using ih (k+1) (up t a)
        · rfl
    exact key 5 0 i
  · intro k a y hy hk _;obtain⟨h5,hd⟩:=Qg hk;refine⟨?_,fun _ _=>trivial⟩;simp only[hd,RA,pQ N h,Ry];cases h0:(a==0)
    · cases h1:ei t a
      · rfl
      · have hin:dy a 0 4=true:=by unfold ei at h1;simp at h1;exact h1.1
        simp only[Aw hin (by omega) (show(4:Int)<(t.length:Int) by omega),eD (show k<dh from Nat.lt_trans h5 (by decide)),Ry];rfl
    · rfl
  · intro a _;rfl
def kA:dk:=dk.mk false 0 (de.mk 0 0 0)
def mK(t:List dk)(k:Nat)(r:dk):Bool:=if r.Rq then dT r.dQ&&leads t 5 (k:Int)else decide (r=kA)
def eX(s:de)(t:List dk):de:=t.foldl (fun s r=>if r.Rq then dY s r.dQ else s) s
def fF(t:List dk):Bool:=!((t.length:Int) != 5)&&((nth t 0).Rq&&(!((nth t 0).Rr != (-1))&&(allI (mK t) 0 t&&dT (eX ⟨0,0,0⟩ t))))
theorem qA{N:Nat}(hN:dh<=N){t:List dk}:j7 N t=some (fF t):=by
  unfold j7 fF;cases h5:((t.length:Int) != 5)
  · have hl:t.length=5:=uX (n:=5) h5
    have hB:t.length<dh:=by rw[hl];decide
    rw[eP (l:=t) (i:=0) (by omega) (by omega)];simp only[Rz,Ry,gW,Bool.not_false,RC];cases h1:(nth t 0).Rq
    · rfl
    cases h2:((nth t 0).Rr != (-1))
    · simp only[RB,Bool.or_self,Rz,RC,Bool.not_false]
      rw[show((0:Int),(0:Int),(0:Int),(0:Int))=(fun(k:Nat) (s:de)=>((k:Int),s.cd,s.dg,s.du)) 0 ⟨0,0,0⟩ from rfl,
        kJ t (fun(k:Nat) (s:de)=>((k:Int),s.cd,s.dg,s.du)) (fun k s r=>if mK t k r then .inl (if r.Rq then dY s r.dQ else s)else .inr (.inr false)) (fun s=>.inl ((t.length:Int),s.cd,s.dg,s.du)) (fun _ _=>True) ?_ ?_ (Nat.lt_of_lt_of_le hB hN) trivial]
      · simp only[Ry,pE]
        have key:∀(l:List dk) (k:Nat) (s:de),Sum.elim (fun(o48:Int×Int×Int×Int)=>some (dT (de.mk o48.2.1 o48.2.2.1 o48.2.2.2))) (fun r53=>some r53) (kf (fun k s r=>if mK t k r then .inl (if r.Rq then dY s r.dQ else s)else .inr (.inr false)) (fun s=>.inl ((t.length:Int),s.cd,s.dg,s.du)) k s l)=some (allI (mK t) k l&&dT (eX s l)):=by
          intro l
          induction l with
          | nil=>intro k s;rfl
          | cons r l ih =>
            intro k s;unfold kf allI;cases hp:mK t k r
            · rfl
            · simpa[eX]using ih (k+1) (if r.Rq then dY s r.dQ else s)
        exact key t 0 _
      · intro k s r hy hk _;refine⟨?_,fun _ _=>trivial⟩;simp only[ey hk,RA,dN,hy,Ry,pE,Kk hN hl,pG,gW,eD (Nat.lt_trans hk hB)];unfold mK;cases hlv:r.Rq
        · show(bif !decide (r=kA)then _ else _)=_
          cases decide (r=kA)<;>rfl
        · cases dT r.dQ<;>cases leads t 5 (k:Int)<;>rfl
      · intro s _;simp only[er,Rz]
    · rfl
  · rfl
def p1(t:List dk)(k:Nat)(r:dk):Bool:=!((!r.Rq&&!decide (r=kA)) || !dT r.dQ)&&!(decide ((k:Int)>0)&&(r.Rq&&(!dy r.Rr 0 4 || (r.Rr==(k:Int) || !(nth t r.Rr).Rq))))
def p2(t:List dk)(k:Nat)(r:dk):Bool:=!(r.Rq&&(fV t 5 (k:Int) != 0))
def Good(t:List dk):Prop:=∀i:Int,0<i->i<=4->(nth t i).Rq=true->0<=up t i/\up t i<=4/\up t i ≠ i/\(nth t (up t i)).Rq=true
theorem HW{t:List dk}(hl:t.length=5)(h:allI (p1 t) 0 t=true):Good t:=by
  intro i h0 h4 hlv;rw[jI]at h
  have hz:t[i.toNat]?=some (nth t i):=by
    have:=eP (l:=t) (i:=i) (by omega) (by omega);unfold idx at this
    rwa[if_pos (by omega)]at this
  have:=h _ _ hz
  have e:((0+i.toNat:Nat):Int)=i:=by omega
  unfold p1 at this;rw[e]at this;unfold up;simp[hlv,dy]at this
  rcases this.2 with q|q
  · omega
  · exact⟨q.1.1,q.1.2,q.2.1,q.2.2⟩
theorem Ce{t:List dk}(hg:Good t):∀(n:Nat) (a:Int),0<=a->a<=4->(nth t a).Rq=true->0<=fV t n a/\fV t n a<=4/\(nth t (fV t n a)).Rq=true
  | 0,a,h0,h4,hlv=>⟨h0,h4,hlv⟩
  | n+1,a,h0,h4,hlv=>by
    unfold fV
    by_cases ha:a>0
    · rw[if_pos ha];obtain⟨g1,g2,_,g4⟩:=hg a ha h4 hlv;exact Ce hg n _ g1 g2 g4
    · rw[if_neg ha];exact⟨h0,h4,hlv⟩
theorem uA(t:List dk):∀(m n:Nat) (a:Int),fV t (m+n) a=fV t n (fV t m a)
  | 0,n,a=>by simp[fV]
  | m+1,n,a=>by
    rw[show m+1+n=(m+n)+1 by omega]
    show(if a>0 then fV t (m+n) (up t a)else a)=fV t n (if a>0 then fV t m (up t a)else a)
    by_cases ha:a>0
    · rw[if_pos ha,if_pos ha,uA t m n]
    · rw[if_neg ha,if_neg ha];cases n<;>simp[fV,ha]
theorem AN(t:List dk)(n:Nat):fV t n 0=0:=by cases n<;>simp[fV]
theorem wR{t:List dk}(hg:Good t):∀(n:Nat) (a:Int),0<=a->a<=4->(nth t a).Rq=true->leads t (n+1) a=(fV t n a==0)
  | 0,a,h0,h4,hlv=>by simp[leads,fV]
  | n+1,a,h0,h4,hlv=>by
    rw[show leads t (n+1+1) a=((a==0) || (ei t a&&leads t (n+1) (up t a))) from rfl];unfold fV
    by_cases ha:a=0
    · subst ha;simp
    · have hp:a>0:=by omega
      obtain⟨g1,g2,_,g4⟩:=hg a hp h4 hlv;rw[if_pos hp,wR hg n _ g1 g2 g4]
      have:ei t a=true:=by simp[ei,dM,hlv];omega
      have h0':(a==0)=false:=by simpa using ha
      rw[this,h0'];rfl
theorem Mf{t:List dk}(hg:Good t){a:Int}(h0:0<=a)(h4:a<=4)(hlv:(nth t a).Rq=true)(h:fV t 5 a=0):fV t 4 a=0:=by
  have key:∀(i j:Nat),i+j<=5->fV t i a=fV t (i+j) a->fV t (5-j) a=0:=by
    intro i j hij e
    have h1:fV t (5-j) a=fV t (5-j-i) (fV t i a):=by rw[<- uA];congr 1;omega
    have h2:fV t 5 a=fV t (5-j-i) (fV t (i+j) a):=by rw[<- uA];congr 1;omega
    rw[h1,e, <- h2,h]
  have mono:∀(i j:Nat),fV t i a=0->fV t (i+j) a=0:=by
    intro i j e;rw[uA,e,AN]
  rcases Decidable.em (fV t 4 a=0)with q|q
  · exact q
  exfalso
  have nz:∀i,i<=4->fV t i a ≠ 0:=fun i hi e=>q (by have:=mono i (4-i) e;rwa[show i+(4-i)=4 by omega]at this)
  have kH:∀i,i<=4->1<=fV t i a/\fV t i a<=4:=fun i hi=>by
    obtain⟨r1,r2,_⟩:=Ce hg i a h0 h4 hlv;have:=nz i hi;omega
  have ne:∀(i j:Nat),0<j->i+j<=4->fV t i a ≠ fV t (i+j) a:=fun i j hj hij e=>nz (5-j) (by omega) (key i j (by omega) e);have r0:=kH 0 (by omega);have r1:=kH 1 (by omega);have r2:=kH 2 (by omega);have r3:=kH 3 (by omega);have r4:=kH 4 (by omega);have n01:=ne 0 1 (by omega) (by omega);have n02:=ne 0 2 (by omega) (by omega);have n03:=ne 0 3 (by omega) (by omega);have n04:=ne 0 4 (by omega) (by omega);have n12:=ne 1 1 (by omega) (by omega);have n13:=ne 1 2 (by omega) (by omega);have n14:=ne 1 3 (by omega) (by omega);have n23:=ne 2 1 (by omega) (by omega);have n24:=ne 2 2 (by omega) (by omega);have n34:=ne 3 1 (by omega) (by omega);simp only[Nat.zero_add,Nat.reduceAdd]at *;generalize fV t 0 a=c0 at *;generalize fV t 1 a=c1 at *;generalize fV t 2 a=c2 at *;generalize fV t 3 a=c3 at *;generalize fV t 4 a=c4 at *;clear key mono nz kH ne;omega
theorem z5{t:List dk}{a:Int}(ha:a ≠ 0)(hu:up t a=a):∀n,leads t n a=false
  | 0=>rfl
  | n+1=>by
    unfold leads;rw[hu,z5 ha hu n];simp[ha]
theorem Ld{t:List dk}(hl:t.length=5)(h0:(nth t 0).Rq=true):(allI (p1 t) 0 t&&allI (p2 t) 0 t)=allI (mK t) 0 t:=by
  have hget:∀(i:Nat) (r:dk),t[i]?=some r->(i:Int)<=4/\nth t (i:Int)=r:=fun i r h=>⟨by have:=eJ h;omega,nK h⟩;rw[Bool.eq_iff_iff,RD];constructor
  · rintro⟨h1,h2⟩;have hg:=HW hl h1;rw[jI]at h1 h2⊢;intro i r hr;obtain⟨i4,hn⟩:=hget i r hr;have q1:=h1 i r hr;have q2:=h2 i r hr;simp only[Nat.zero_add]at q1 q2⊢;unfold p1 at q1;unfold p2 at q2;unfold mK;cases hlv:r.Rq
    · simp[hlv]at q1;simp[q1.1]
    · simp[hlv]at q1 q2
      have hlv':(nth t (i:Int)).Rq=true:=by rw[hn];exact hlv
      have:=Mf hg (by omega) i4 hlv' q2;simp only[if_true,RD];refine⟨q1.1,?_⟩;rw[wR hg 4 _ (by omega) i4 hlv',this];rfl
  · intro h;rw[jI]at h
    have hp:∀(i:Int),0<=i->i<=4->(nth t i).Rq=true->dT (nth t i).dQ=true/\leads t 5 i=true:=by
      intro i hi hi4 hlv
      have hz:t[i.toNat]?=some (nth t i):=by
        have:=eP (l:=t) (i:=i) (by omega) (by omega);unfold idx at this
        rwa[if_pos (by omega)]at this
      have:=h _ _ hz;unfold mK at this;rw[if_pos hlv]at this
      have e:((0+i.toNat:Nat):Int)=i:=by omega
      rw[e]at this;simpa using this
    have hg:Good t:=by
      intro i hi hi4 hlv;obtain⟨_,q⟩:=hp i (by omega) hi4 hlv
      have hne:up t i ≠ i:=fun e=>by rw[z5 (by omega) e]at q;cases q
      have hi0:(i==0)=false:=by simp;omega
      rw[show leads t 5 i=((i==0) || (ei t i&&leads t 4 (up t i))) from rfl,hi0]at q;simp only[Bool.false_or,RD]at q;rw[show leads t 4 (up t i)=((up t i==0) || (ei t (up t i)&&leads t 3 (up t (up t i)))) from rfl]at q
      rcases Decidable.em (up t i=0)with e|e
      · rw[e];exact⟨by omega,by omega,by omega,h0⟩
      · have e':(up t i==0)=false:=by simpa using e
        rw[e']at q;simp only[Bool.false_or,RD]at q;have:=q.2.1;simp only[ei,RD,dM]at this;exact⟨this.1.1,this.1.2,hne,this.2⟩
    rw[jI,jI];refine⟨fun i r hr=>?_,fun i r hr=>?_⟩
    · obtain⟨i4,hn⟩:=hget i r hr;have q:=h i r hr;simp only[Nat.zero_add]at q⊢;unfold p1;unfold mK at q;cases hlv:r.Rq
      · simp[hlv]at q;subst q;simp;decide
      · simp[hlv]at q;simp[q.1]
        by_cases hi:i=0
        · exact .inl hi
        · have:=hg (i:Int) (by omega) i4 (by rw[hn];exact hlv);unfold up at this;rw[hn]at this;exact .inr ⟨dM.2 ⟨this.1,this.2.1⟩,this.2.2.1,this.2.2.2⟩
    · obtain⟨i4,hn⟩:=hget i r hr;simp only[Nat.zero_add];unfold p2;cases hlv:r.Rq
      · rfl
      · have hlv':(nth t (i:Int)).Rq=true:=by rw[hn];exact hlv
        obtain⟨_,q⟩:=hp (i:Int) (by omega) i4 hlv';rw[wR hg 4 _ (by omega) i4 hlv']at q
        have q:fV t 4 (i:Int)=0:=by simpa using q
        have:fV t 5 (i:Int)=0:=by rw[show 5=4+1 from rfl,uA,q,AN]
        simp[this]
theorem BX{N:Nat}(hN:dh<=N){t:List dk}(hB:t.length<dh):qe N t=some (eX ⟨0,0,0⟩ t):=by
  unfold qe eX
  rw[show((0:Int),(0:Int),(0:Int),(0:Int))=(fun(k:Nat) (s:de)=>((k:Int),s.cd,s.dg,s.du)) 0 ⟨0,0,0⟩ from rfl,
    gy t (fun(k:Nat) (s:de)=>((k:Int),s.cd,s.dg,s.du)) (fun _ s r=>if r.Rq then dY s r.dQ else s) (fun s=>((t.length:Int),s.cd,s.dg,s.du)) (fun _ _=>True) ?_ ?_ (Nat.lt_of_lt_of_le hB hN) trivial,ir]
  · rfl
  · intro k s r hy hk _;refine⟨?_,trivial⟩;simp only[ey hk,RA,dN,hy,Ry,eD (Nat.lt_trans hk hB)];cases r.Rq<;>rfl
  · intro s _;simp only[er,Rz]
theorem JW{N:Nat}(hN:dh<=N){t:List dk}(hl:t.length=5)(hg:Good t){k:Nat}{r:dk}(hr:t[k]?=some r):
    ∃n,iter (fun(s72:Int×Int)=>((bif(decide (s72.2<5))then((idx t (k:Int)).bind fun y77=>bif y77.Rq then(some (decide (s72.1>0)))else(some false))else(some false):Option Bool).bind fun j74=>bif j74 then((idx t s72.1).bind fun y89=>some (.inl (y89.Rr,i64.wrap (s72.2+1))))else(some (.inr (s72.1,s72.2))):Option ((Int×Int)⊕(Int×Int)))) N ((k:Int),0)=some (if r.Rq then fV t 5 (k:Int)else(k:Int),n):=by
  have hk:=eJ hr
  rw[show(((k:Int),0):Int×Int)=(fun(n:Nat) (a:Int)=>(a,(n:Int))) 0 (k:Int) from rfl,
    kJ (List.replicate 5 ()) (fun(n:Nat) (a:Int)=>(a,(n:Int))) (fun n a _=>if r.Rq&&decide (a>0)then .inl (up t a)else .inr (a,(n:Int))) (fun a=>(a,5)) (fun _ a=>r.Rq=true->0<=a/\a<=4/\(nth t a).Rq=true) ?_ ?_ (OR (k:=0) hN (by decide)) (fun h=>⟨by omega,by omega,by rw[nK hr];exact h⟩)]
  · have key:∀(n j:Nat) (a:Int),(kf (ρ:=Int×Int) (fun(n:Nat) a (_:Unit)=>if r.Rq&&decide (a>0)then .inl (up t a)else .inr (a,(n:Int))) (fun a=>(a,5)) j a (List.replicate n ())).1=if r.Rq then fV t n a else a:=by
      intro n
      induction n with
      | zero=>intro j a;simp[kf,fV]
      | succ n ih =>
        intro j a;rw[List.replicate_succ];unfold kf fV;cases hlv:r.Rq
        · rfl
        · have ih:=ih (j+1) (up t a);rw[hlv]at ih
          by_cases ha:a>0
          · simpa[ha]using ih
          · simp[ha]
    have:=key 5 0 (k:Int);exact⟨_,congrArg some (Prod.ext this rfl)⟩
  · intro n a y hy hn hI;obtain⟨h5,hd⟩:=Qg hn;simp only[hd,RA,dN,hr,Ry];cases hlv:r.Rq
    · exact⟨rfl,fun t' h=>by simp at h⟩
    · obtain⟨i1,i2,i3⟩:=hI hlv
      by_cases ha:a>0
      · have hd2:decide (a>0)=true:=by simpa using ha
        simp only[RA,hd2,Ry,eP (l:=t) (i:=a) i1 (by omega),eD (show n<dh from Nat.lt_trans h5 (by decide)),Bool.and_self,if_true];refine⟨rfl,fun t' h _=>?_⟩;cases h;obtain⟨g1,g2,_,g4⟩:=hg a ha i2 i3;exact⟨g1,g2,g4⟩
      · have hd2:decide (a>0)=false:=by simpa using ha
        simp only[RA,hd2,Ry,Rz];exact⟨rfl,fun t' h=>by simp at h⟩
  · intro a _;rfl
theorem vX{N:Nat}(hN:dh<=N){t:List dk}:ma N t=some (fF t):=by
  unfold ma fF;cases h5:((t.length:Int) != 5)
  · have hl:t.length=5:=uX (n:=5) h5
    have hB:t.length<dh:=by rw[hl];decide
    rw[eP (l:=t) (i:=0) (by omega) (by omega)];simp only[Rz,Ry,gW,Bool.not_false,RC];cases h1:(nth t 0).Rq
    · rfl
    cases h2:((nth t 0).Rr != (-1))
    · simp only[RB,Bool.or_self,Rz,RC,Bool.not_false];rw[fG t (p1 t) (.inl (t.length:Int)) (.inr false) (Nat.lt_of_lt_of_le hB hN), <- Ld hl h1]
      · simp only[Ry];cases hp:allI (p1 t) 0 t
        · rfl
        · have hg:=HW hl hp;simp only[if_true,Sum.elim_inl,RC];rw[fG t (p2 t) (.inl (t.length:Int)) (.inr false) (Nat.lt_of_lt_of_le hB hN)]
          · simp only[Ry,BX hN hB,o7];cases allI (p2 t) 0 t<;>rfl
          · intro k r hy hk;obtain⟨n,hn⟩:=JW hN hl hg hy;simp only[ey hk,RA];rw[hn];simp only[dN,hy,Ry,eD (Nat.lt_trans hk hB)];unfold p2;cases hlv:r.Rq
            · rfl
            · simp only[RA,Ry,if_true,RC];cases(fV t 5 (k:Int) != 0)<;>rfl
          · simp only[er,Rz]
      · intro k r hy hk;simp only[ey hk,RA,dN,hy,Ry,o7,vr,gW,eD (Nat.lt_trans hk hB)];unfold p1;rw[show dk.mk false 0 (de.mk 0 0 0)=kA from rfl];cases hin:dy r.Rr 0 4
        · cases r.Rq<;>cases decide (r=kA)<;>cases dT r.dQ<;>cases decide ((k:Int)>0)<;>rfl
        · rw[Aw hin (by omega) (show(4:Int)<(t.length:Int) by omega)];simp only[Ry];cases r.Rq<;>cases decide (r=kA)<;>cases dT r.dQ<;>cases decide ((k:Int)>0)<;>cases(r.Rr==(k:Int))<;>cases(nth t r.Rr).Rq<;>rfl
      · simp only[er,Rz]
    · rfl
  · rfl
end Go.Kx
