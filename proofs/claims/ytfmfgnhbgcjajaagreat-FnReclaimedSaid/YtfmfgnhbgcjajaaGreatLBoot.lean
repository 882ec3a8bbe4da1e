import Derived.Test.YtfmfgnhbgcjajaaGreatHa
namespace Go.Kx
open Go
open Go.IntKind (i64)
set_option linter.unusedVariables false
set_option linter.unusedSimpArgs false
set_option maxRecDepth 10000
theorem iI(p q:Bool):(bif p then some q else some false)=some (p&&q):=by cases p<;>rfl
theorem gX(p q:Bool):(bif p then some true else some q)=some (p || q):=by cases p<;>rfl
def dy(a b c:Int):Bool:=decide (b<=a)&&decide (a<=c)
theorem dI{a b c:Int}:dy a b c=true <-> b<=a/\a<=c:=by simp[dy]
theorem jK(N:Nat)(a b c:Int):ep N a b c=some (dy a b c):=iI _ _
theorem kq(N:Nat)(a b c:Int):eF N a b c=some (dy a b c):=iI _ _
def uW(n:Int):Bool:=dy n 0 1000000
theorem Qh(N:Nat)(a:Int):pQ N a=some (uW a):=by unfold pQ;rw[jK];rfl
theorem BH(N:Nat)(a:Int):lG N a=some (uW a):=by unfold lG;rw[kq];rfl
def dT(a:de):Bool:=uW a.c6&&(uW a.dh&&uW a.du)
theorem pC(N:Nat)(a:de):iB N a=some (dT a):=by unfold iB;simp only[Qh,RB,iI];rfl
theorem pD(N:Nat)(a:de):iF N a=some (dT a):=by unfold iF;simp only[BH,RB,iI];rfl
def dX(a b:de):de:=de.mk (i64.wrap (a.c6+b.c6)) (i64.wrap (a.dh+b.dh)) (i64.wrap (a.du+b.du))
def gn(a b:de):de×Bool:=if dT a&&dT b&&dT (dX a b)then(dX a b,true)else(a,false)
theorem wm(N:Nat)(a b:de):lC N a b=some (gn a b):=by
  unfold lC gn;simp only[pC,RB,gX]
  show(bif(!dT a || !dT b)then some (a,false)else(bif !dT (dX a b)then some (a,false)else some (dX a b,true)))=_
  cases dT a<;>cases dT b<;>cases dT (dX a b)<;>rfl
theorem sN(N:Nat)(a b:de):ki N a b=some (dX a b):=rfl
theorem FD(N:Nat)(a b:de):qG N a b=some (gn a b):=by
  unfold qG gn;simp only[pD,sN,RB,gX];cases dT a<;>cases dT b<;>cases dT (dX a b)<;>rfl
def fv(l:fF):Bool:=((l.Rf.length:Int)==4)&&l.Rf.all fun y=>dy y 0 3
theorem ru{l:fF}:fv l=true <-> l.Rf.length=4/\∀y,y∈l.Rf->0<=y/\y<=3:=by
  simp only[fv,RG,List.all_eq_true,dI,beq_iff_eq];constructor
  · rintro⟨h1,h2⟩;exact⟨by omega,h2⟩
  · rintro⟨h1,h2⟩;exact⟨by omega,h2⟩
theorem va{N:Nat}(hN:dg<=N){l:fF}(hb:l.Rf.length<dg):lE N l=some (fv l):=by
  unfold lE fv;rw[gQ l.Rf (fun _ y=>dy y 0 3) (.inl (l.Rf.length:Int)) (.inr false) (Nat.lt_of_lt_of_le hb hN),il]
  · cases h:((l.Rf.length:Int)==4)
    · have:((l.Rf.length:Int) != 4)=true:=by simp[bne,h]
      simp[this]
    · have:((l.Rf.length:Int) != 4)=false:=by simp[bne,h]
      simp only[this,RC,RB,RF];cases l.Rf.all fun y=>dy y 0 3<;>rfl
  · intro k y hy hk;simp only[eD hk,RD,dQ,hy,RB,jK,eL (Nat.lt_trans hk hb)];cases dy y 0 3<;>rfl
  · simp only[eE,RC]
theorem uV{N:Nat}(hN:dg<=N){l:fF}(hb:l.Rf.length<dg):lj N l=some (fv l):=by
  unfold lj fv;rw[gQ l.Rf (fun _ y=>dy y 0 3) (.inl (l.Rf.length:Int)) (.inr false) (Nat.lt_of_lt_of_le hb hN),il]
  · simp only[RB];cases l.Rf.all fun y=>dy y 0 3<;>simp
  · intro k y hy hk;simp only[eD hk,RD,dQ,hy,RB,kq,eL (Nat.lt_trans hk hb)];cases dy y 0 3<;>rfl
  · simp only[eE,RC]
def vT(l:List Int)(k:Nat)(y:Int):Bool:=dy y 0 3&&match k with
  | 0=>true
  | j+1=>!decide (y<=(l[j]?).getD 0)
def jh(l:List Int):Bool:=allI (vT l) 0 l
theorem HK{l:List Int}{k:Nat}{y:Int}(hy:l[k]?=some y)(hk:k<l.length)(hb:l.length<dg){N:Nat}:
    (bif(!(dy y 0 3))then(some true)else(bif(decide ((k:Int)>0))then((idx l (i64.wrap ((k:Int)-1))).bind fun y18=>some (decide (y<=y18)))else(some false)):Option Bool)=some (!vT l k y):=by
  have hB:l.length<16777216:=hb;unfold vT
  cases k with
  | zero =>
    have:decide (((0:Nat):Int)>0)=false:=by decide
    simp only[this,RC];cases dy y 0 3<;>rfl
  | succ j =>
    have:decide (((j+1:Nat):Int)>0)=true:=by simp
    have e:i64.wrap (((j+1:Nat):Int)-1)=(j:Int):=by rw[dE (by omega) (by omega)];omega
    have hz:l[j]?=some (l[j]'(by omega)):=List.getElem?_eq_getElem _;simp only[this,RD,e,dQ,hz,RB,Option.getD_some];cases dy y 0 3<;>simp
theorem zz{N:Nat}(hN:dg<=N){l:List Int}(hb:l.length<dg):oC N l=some (jh l):=by
  unfold oC jh;rw[gQ l (vT l) (.inl (l.length:Int)) (.inr false) (Nat.lt_of_lt_of_le hb hN)]
  · simp only[RB];cases allI (vT l) 0 l<;>rfl
  · intro k y hy hk;simp only[eD hk,RD,dQ,hy,RB,jK,eL (Nat.lt_trans hk hb)];rw[HK hy hk hb (N:=N)];cases vT l k y<;>rfl
  · simp only[eE,RC]
theorem zD{N:Nat}(hN:dg<=N){l:List Int}(hb:l.length<dg):ox N l=some (jh l):=by
  unfold ox jh;rw[gQ l (vT l) (.inl (l.length:Int)) (.inr false) (Nat.lt_of_lt_of_le hb hN)]
  · simp only[RB];cases allI (vT l) 0 l<;>rfl
  · intro k y hy hk;simp only[eD hk,RD,dQ,hy,RB,kq,eL (Nat.lt_trans hk hb),ge_iff_le];rw[HK hy hk hb (N:=N)];cases vT l k y<;>rfl
  · simp only[eE,RC]
theorem NF{N:Nat}(hN:dg<=N){l:List Int}{x:Int}(hb:l.length<dg):∃r,oT N l x=some r/\decide (r>=0)=l.contains x:=by
  unfold oT;have hB:l.length<16777216:=hb;rw[show(0:Int)=(fun(k:Nat) (_:Unit)=>(k:Int)) 0 () from rfl,kS l (fun k (_:Unit)=>(k:Int)) (fun k _ y=>if x==y then .inr (.inr (k:Int))else .inl ()) (fun _=>.inl (l.length:Int)) (fun _ _=>True) ?_ ?_ (Nat.lt_of_lt_of_le hb hN) trivial]
  · simp only[RB]
    have key:∀(m:List Int) (k:Nat), ∃r,Sum.elim (fun _=>some (-1)) (fun r16=>some r16) (kf (ρ:=Int⊕Int) (fun(k:Nat) (_:Unit) y=>if x==y then .inr (.inr (k:Int))else .inl ()) (fun _=>.inl (l.length:Int)) k () m)=some r/\decide (r>=0)=m.contains x:=by
      intro m
      induction m with
      | nil=>intro k;exact⟨-1,rfl,rfl⟩
      | cons y m ih =>
        intro k;cases hxy:(x==y)
        · obtain⟨r,h1,h2⟩:=ih (k+1)
          have hne:x ≠ y:=by simpa using hxy
          refine⟨r,by simpa[kf,hxy]using h1,by rw[h2];simp[List.contains_cons,hne]⟩
        · have he:x=y:=by simpa using hxy
          exact⟨k,by simp[kf,hxy],by simp[List.contains_cons,he]⟩
    exact key l 0
  · intro k _ y hy hk _;simp only[eD hk,RD,dQ,hy,RB,eL (Nat.lt_trans hk hb)];cases(x==y)<;>simp
  · intro _ _;simp only[eE,RC]
theorem tR{N:Nat}(hN:dg<=N){l:List Int}{x:Int}(hb:l.length<dg):iN N l x=some (l.contains x):=by
  unfold iN;obtain⟨r,h1,h2⟩:=NF hN hb (x:=x);rw[h1,RB,h2]
def nT(b:List Int):Nat->List Int->List Int
  | _,[]=>[]
  | k,y::l=>if decide (y>(b[k]?).getD 0)then(k:Int)::nT b (k+1) l else nT b (k+1) l
theorem Bz(b:List Int):∀(l:List Int) (k:Nat),(nT b k l).length<=l.length
  | [],_=>Nat.le_refl _
  | y::l,k=>by
    unfold nT;have:=Bz b l (k+1);split<;>simp<;>omega
theorem zJ(b:List Int):∀(l:List Int) (k:Nat) (acc:List Int),foldI (fun k (acc:List Int) y=>if decide (y>(b[k]?).getD 0)then acc++[(k:Int)]else acc) k acc l=acc++nT b k l
  | [],_,acc=>by simp[foldI,nT]
  | y::l,k,acc=>by
    unfold foldI nT;rw[zJ b l];cases decide (y>(b[k]?).getD 0)<;>simp
theorem Oa{N:Nat}(hN:dg<=N){a b:fF}(ha:a.Rf.length<dg)(hab:a.Rf.length<=b.Rf.length):u6 N a b=some (nT b.Rf 0 a.Rf):=by
  unfold u6
  rw[show(([]:List Int),(0:Int))=(fun(k:Nat) (t:List Int)=>(t,(k:Int))) 0 [] from rfl,
    gC a.Rf (fun k (t:List Int)=>(t,(k:Int))) (fun k acc y=>if decide (y>(b.Rf[k]?).getD 0)then acc++[(k:Int)]else acc) (fun t=>(t,(a.Rf.length:Int))) (fun k t=>t.length<=k) ?_ ?_ (Nat.lt_of_lt_of_le ha hN) (by simp),zJ]
  · simp
  · intro k t y hy hk hI;have hz:b.Rf[k]?=some (b.Rf[k]'(by omega)):=List.getElem?_eq_getElem _;simp only[eD hk,RD,dQ,hy,hz,RB,Option.getD_some,eL (Nat.lt_trans hk ha)];cases decide (y>b.Rf[k]'(by omega))
    · exact⟨rfl,by simp;omega⟩
    · have:app t [(k:Int)]=some (t++[(k:Int)]):=by unfold app;rw[if_pos (by simp;omega)]
      simp only[this,RB,RD,if_true];exact⟨trivial,by simp;omega⟩
  · intro t _;simp only[eE,RC]
def pT(own:List Int)(a b:fF):Bool:=jh own&&(fv a&&(fv b&&allI (fun k y=>!decide (y>(b.Rf[k]?).getD 0) || own.contains (k:Int)) 0 a.Rf))
theorem CB(b:List Int)(q:Int->Bool):∀(l:List Int) (k:Nat),(nT b k l).all q=allI (fun k y=>!decide (y>(b[k]?).getD 0) || q (k:Int)) k l
  | [],_=>rfl
  | y::l,k=>by
    unfold nT allI;rw[<- CB b q l (k+1)];cases decide (y>(b[k]?).getD 0)<;>simp
theorem Ik{N:Nat}(hN:dg<=N){own:List Int}{a b:fF}(ho:own.length<dg)(ha:a.Rf.length<dg)(hb:b.Rf.length<dg):pU N own a b=some (pT own a b):=by
  unfold pU pT;simp only[zD hN ho,uV hN ha,uV hN hb,RB,gX];cases h1:jh own
  · rfl
  cases h2:fv a
  · rfl
  cases h3:fv b
  · rfl
  have l2:=(ru.1 h2).1;have l3:=(ru.1 h3).1;have hl:=Bz b.Rf a.Rf 0;have hB:(nT b.Rf 0 a.Rf).length<dg:=Nat.lt_of_le_of_lt hl ha;simp only[RE,Bool.or_self,RC,Oa hN ha (b:=b) (by omega),RB,RF];rw[gQ (nT b.Rf 0 a.Rf) (fun _ y=>own.contains y) (.inl ((nT b.Rf 0 a.Rf).length:Int)) (.inr false) (Nat.lt_of_lt_of_le hB hN),il,CB]
  · simp only[RB];cases allI _ 0 a.Rf<;>rfl
  · intro k y hy hk;simp only[eD hk,RD,dQ,hy,RB,tR hN ho,eL (Nat.lt_trans hk hB)];cases own.contains y<;>rfl
  · simp only[eE,RC]
theorem OI{α ρ:Type}{body:Int->Option (Int⊕ρ)}(x:List α)(h4:x.length=4)(p:Nat->α->Bool)(r r':ρ){N:Nat}(hN:dg<=N)
    (hs:∀(k:Nat) (y:α),x[k]?=some y->k<4->decide ((k:Int)<4)=true->body (k:Int)=some (if p k y then .inl ((k+1:Nat):Int)else .inr r')) (he:body 4=some (.inr r)):iter body N 0=some (if allI p 0 x then r else r') :=
  gQ x p r r' (by have:16777216<=N:=hN;omega) (fun k y hy hk=>hs k y hy (by omega) (by simp;omega)) (by rw[h4];exact he)
def nQ:de->List er->Bool
  | _,[]=>true
  | a,b::l=>(gn a b.fG).2&&(fv b.Rg&&(jh b.own&&nQ (gn a b.fG).1 l))
def iT(l:List er):Bool:=nQ ⟨0,0,0⟩ l&&dy (l.length:Int) 1 3
theorem xW(e:Int)(g:Nat->de->er->de⊕((Int×Int×Int×Int)⊕Bool))(fin:de->((Int×Int×Int×Int)⊕Bool))(k:Option Bool)
    (hg:∀k t y,g k t y=if(gn t y.fG).2&&(fv y.Rg&&jh y.own)then .inl (gn t y.fG).1 else .inr (.inr false)) (hf:∀t, ∃v,fin t=.inl v) :
    ∀(l:List er) (j:Nat) (t:de),Sum.elim (fun _=>k) (fun r=>some r) (kf g fin j t l)=bif nQ t l then k else some false
  | [],j,t=>by obtain⟨v,hv⟩:=hf t;simp[kf,nQ,hv]
  | b::l,j,t=>by
    have ih:=xW e g fin k hg hf l (j+1);simp only[kf,nQ,hg];cases(gn t b.fG).2
    · rfl
    cases fv b.Rg
    · rfl
    cases jh b.own
    · rfl
    simpa using ih _
theorem KB{l:List er}{y:er}(hb:eQ fB l<dg)(hy:y∈l):y.Rg.Rf.length<dg/\y.own.length<dg:=by
  have:=fN hb hy;unfold fB jz at this;omega
theorem FJ{N:Nat}(hN:dg<=N){l:List er}(hb:eQ fB l<dg):qU N l=some (iT l):=by
  have hl:=gW hb;unfold qU iT
  rw[show((0:Int),(0:Int),(0:Int),(0:Int))=(fun(k:Nat) (t:de)=>((k:Int),t.c6,t.dh,t.du)) 0 ⟨0,0,0⟩ from rfl,
    kS l (fun(k:Nat) (t:de)=>((k:Int),t.c6,t.dh,t.du)) (fun k t y=>if(gn t y.fG).2&&(fv y.Rg&&jh y.own)then .inl (gn t y.fG).1 else .inr (.inr false)) (fun t=>.inl ((l.length:Int),t.c6,t.dh,t.du)) (fun _ _=>True) ?_ ?_ (Nat.lt_of_lt_of_le hl hN) trivial]
  · simp only[RB,kq];rw[xW 0 _ _ _ (fun _ _ _=>rfl) (fun t=>⟨_,rfl⟩),iI]
  · intro k t y hy hk _;obtain⟨b1,b2⟩:=KB hb (List.mem_of_getElem? hy);refine⟨?_,fun _ _=>trivial⟩;simp only[eD hk,RD,dQ,hy,RB,FD,uV hN b1,zD hN b2,gX,eL (Nat.lt_trans hk hl)];cases(gn t y.fG).2
    · rfl
    cases fv y.Rg
    · rfl
    cases jh y.own<;>rfl
  · intro t _;simp only[eE,RC]
theorem Es{N:Nat}(hN:dg<=N){l:List er}(hb:eQ fB l<dg):qI N l=some (iT l):=by
  have hl:=gW hb;have hN':16777216<=N:=hN;have hlB:l.length<16777216:=hl;unfold qI iT
  rw[show((0:Int),(0:Int),(0:Int),(0:Int))=(fun(k:Nat) (t:de)=>((k:Int),t.c6,t.dh,t.du)) 0 ⟨0,0,0⟩ from rfl,
    kS (l.take 3) (fun(k:Nat) (t:de)=>((k:Int),t.c6,t.dh,t.du)) (fun k t y=>if(gn t y.fG).2&&(fv y.Rg&&jh y.own)then .inl (gn t y.fG).1 else .inr (.inr false)) (fun t=>.inl (((l.take 3).length:Int),t.c6,t.dh,t.du)) (fun _ _=>True) ?_ ?_ (by simp;omega) trivial]
  · simp only[RB,jK];rw[xW 0 _ _ _ (fun _ _ _=>rfl) (fun t=>⟨_,rfl⟩),iI]
    rcases Nat.lt_or_ge 3 l.length with h|h
    · have:dy (l.length:Int) 1 3=false:=by simp[dy];omega
      simp[this]
    · rw[List.take_of_length_le h]
  · intro k t y hy hk _
    have hk2:k<3/\k<l.length:=by simp at hk;omega
    rw[List.getElem?_take_of_lt hk2.1]at hy;obtain⟨b1,b2⟩:=KB hb (List.mem_of_getElem? hy);refine⟨?_,fun _ _=>trivial⟩
    have h3:decide ((k:Int)<3)=true:=by simp;omega
    simp only[eD hk2.2,h3,RD,dQ,hy,RB,wm,va hN b1,zz hN b2,gX,eL (show k<dg from Nat.lt_trans hk2.1 (by decide))];cases h1:(gn t y.fG).2
    · cases fv y.Rg<;>cases jh y.own<;>rfl
    cases fv y.Rg
    · rfl
    cases jh y.own<;>rfl
  · intro t _;simp only[List.length_take]
    rcases Nat.lt_or_ge 3 l.length with h|h
    · have e:min 3 l.length=3:=by omega
      have h3:decide (((3:Nat):Int)<(l.length:Int))=true:=by simp;omega
      simp only[e,h3,RD];rfl
    · have e:min 3 l.length=l.length:=by omega
      simp only[e,eE,RC,RB]
def sG(l:List er):de:=if iT l then l.foldl (fun a b=>dX a b.fG) ⟨0,0,0⟩else⟨0,0,0⟩
theorem Ai:∀(l:List er) (a:de),nQ a l=true->l.foldl (fun a b=>(gn a b.fG).1) a=l.foldl (fun a b=>dX a b.fG) a
  | [],_,_=>rfl
  | b::l,a,h=>by
    simp only[nQ,RG]at h;obtain⟨h1,_,_,h4⟩:=h
    have e:(gn a b.fG).1=dX a b.fG:=by
      unfold gn at h1⊢;split<;>simp_all
    rw[List.foldl_cons,List.foldl_cons,e];rw[e]at h4;exact Ai l _ h4
def mB(l:List dY):Nat:=(l.filter fun e=>e.so==1).length
theorem AU:∀(l:List dY) (k:Nat) (t:Int),foldI (fun _ (t:Int) (e:dY)=>if e.so==1 then t+1 else t) k t l=t+(mB l:Int)
  | [],_,t=>by simp[foldI,mB]
  | y::l,k,t=>by
    unfold foldI;rw[AU l];unfold mB;rw[List.filter_cons];cases y.so==1
    · rfl
    · simp only[if_true,List.length_cons];omega
theorem NH{N:Nat}(hN:dg<=N){l:List dY}(hl:l.length<dg):uS N l=some (mB l:Int):=by
  have hB:(16777216:Nat)=dg:=rfl;unfold uS
  rw[show((0:Int),(0:Int))=(fun(k:Nat) (t:Int)=>(t,(k:Int))) 0 0 from rfl,
    gC l (fun(k:Nat) (t:Int)=>(t,(k:Int))) (fun _ t e=>if e.so==1 then t+1 else t) (fun t=>(t,(l.length:Int))) (fun k t=>0<=t/\t<=(k:Int)) ?_ ?_ (Nat.lt_of_lt_of_le hl hN) (by simp),AU]
  · show some (0+(mB l:Int))=_
    rw[Int.zero_add]
  · intro k t y hy hk ht;simp only[eD hk,RD,dQ,hy,RB,eL (Nat.lt_trans hk hl)];rw[dE (n:=t+1) (by omega) (by omega)];cases y.so==1
    · exact⟨rfl,by simp only[Bool.false_eq_true,if_false];omega⟩
    · exact⟨rfl,by simp only[if_true];omega⟩
  · intro t _;simp only[eE,RC]
theorem xe{σ ρ:Type}{body:σ->Option (σ⊕ρ)}(I:σ->Prop)(J:ρ->Prop)(μ:σ->Nat)
    (h:∀s,I s->∃o,body s=some o/\(∀s',o=.inl s'->I s'/\μ s'<μ s)/\∀r,o=.inr r->J r):∀(N:Nat) (s:σ),I s->μ s<N->∃r,iter body N s=some r/\J r
  | 0,_,_,hN=>absurd hN (Nat.not_lt_zero _)
  | N+1,s,hI,hN=>by
    obtain⟨o,ho,h1,h2⟩:=h s hI
    cases o with
    | inl s' =>
      obtain⟨hI',hm⟩:=h1 s' rfl;obtain⟨r,hr,hJ⟩:=xe I J μ h N s' hI' (by omega);exact⟨r,by show(body s).bind _=_;rw[ho];exact hr,hJ⟩
    | inr r=>exact⟨r,by show(body s).bind _=_;rw[ho];rfl,h2 r rfl⟩
theorem yx{α:Type}{l:List α}{i:Int}(h0:0<=i)(h1:i<(l.length:Int)):∃y,idx l i=some y/\y∈l:=by
  have hz:l[i.toNat]?=some (l[i.toNat]'(by omega)):=List.getElem?_eq_getElem _;exact⟨_,by unfold idx;rw[if_pos h0,hz],List.getElem_mem _⟩
theorem H0(a:Int){m:Int}(h0:0<=m)(h1:m<=2147483647):0<=yW a m/\yW a m<=m:=by
  have h:(BitVec.ofInt IntKind.i64.bits a &&& BitVec.ofInt IntKind.i64.bits m).toNat<=m.toNat:=by
    rw[BitVec.toNat_and];refine Nat.le_trans Nat.and_le_right ?_;rw[BitVec.toNat_ofInt]
    show(m % ((2^64:Nat):Int)).toNat<=m.toNat
    rw[Int.emod_eq_of_lt h0 (by omega)];exact Nat.le_refl _
  unfold yW;rw[dE (by omega) (by omega)];omega
def Cu(c:dL):Prop:=c.b.length<=1048576/\0<=c.i
theorem Cu.to{c:dL}(hc:Cu c){i h:Int}(hi:0<=i):Cu ⟨c.b,i,h⟩:=⟨hc.1,hi⟩
theorem Qg{N:Nat}(hN:dg<=N){l:List U8}(hl:l.length<=1048576):∃h,sQ N l=some ⟨l,0,h⟩:=by
  unfold sQ;have hB:(16777216:Nat)<=N:=hN
  obtain⟨r,hr,_⟩:=xe (body:=fun(s1:Int×Int)=>((bif(decide (s1.2<(l.length:Int)))then(some (decide (s1.2<4000)))else(some false):Option Bool).bind fun j3=>bif j3 then((idx l s1.2).bind fun y8=>some (.inl (yW (i64.wrap ((i64.wrap ((i64.wrap (s1.1*131))+(i64.wrap y8.v)))+7)) 1073741823,i64.wrap (s1.2+1))))else(some (.inr (s1.1,s1.2))):Option ((Int×Int)⊕(Int×Int))))
    (fun s=>0<=s.2/\s.2<=(l.length:Int)) (fun _=>True) (fun s=>((l.length:Int)-s.2).toNat) (by
      rintro⟨h,i⟩ ⟨h0,h1⟩;simp only at h0 h1
      cases hlt:decide (i<(l.length:Int))with
      | false=>exact⟨_,by simp only[hlt,RC,RB];rfl,by simp,fun _ _=>trivial⟩
      | true =>
        have h2:=of_decide_eq_true hlt
        cases h4:decide (i<4000)with
        | false=>exact⟨_,by simp only[hlt,h4,RC,RD,RB];rfl,by simp,fun _ _=>trivial⟩
        | true =>
          obtain⟨y,hy,_⟩:=yx h0 h2;refine⟨_,by simp only[hlt,h4,hy,RD,RB];rfl,?_,by simp⟩;rintro s' hs;cases Sum.inl.inj hs;simp only;rw[dE (by omega) (by omega)]
          omega) N (i64.wrap (10101+(l.length:Int)),0) ⟨Int.le_refl _,by simp⟩ (by simp only;omega)
  rw[hr];exact⟨r.1,rfl⟩
theorem yn{N:Nat}{c:dL}(hc:Cu c):∃x i h,mc N c=some (x,⟨c.b,i,h⟩)/\0<=i/\0<=x/\x<=255:=by
  unfold mc;obtain⟨hb,hi⟩:=hc
  cases hlt:decide (c.i<(c.b.length:Int))with
  | true =>
    have h1:=of_decide_eq_true hlt;obtain⟨y,hy,_⟩:=yx hi h1;simp only[hy,RD,RB];exact⟨_,_,_,rfl,by rw[dE (by omega) (by omega)];omega,H0 _ (by decide) (by decide)⟩
  | false=>exact⟨_,_,_,rfl,hi,H0 _ (by decide) (by decide)⟩
theorem Aq{a n:Int}(ha:0<=a)(hn:0<n):0<=Int.tmod a n/\Int.tmod a n<n:=by
  rw[Int.tmod_eq_emod_of_nonneg ha];exact⟨Int.emod_nonneg _ (by omega),Int.emod_lt_of_pos _ hn⟩
theorem MU{n:Int}(h:n ≠ 0):dz n=some ():=by unfold dz;rw[if_neg h]
theorem sU{N:Nat}{c:dL}(hc:Cu c)(n:Int):∃x i h,dR N c n=some (x,⟨c.b,i,h⟩)/\0<=i/\0<=x/\(0<n->x<n)/\(n<=0->x=0):=by
  unfold dR
  cases h0:decide (n<=0)with
  | true=>exact⟨0,c.i,c.h,rfl,hc.2,Int.le_refl _,fun h=>h,fun _=>rfl⟩
  | false =>
    have hn:=of_decide_eq_false h0;simp only[RC]
    cases h1:decide (n<=256)with
    | true =>
      obtain⟨x,i,h,e,hi,hx,_⟩:=yn (N:=N) hc;simp only[RD,e,RB,MU (show n ≠ 0 by omega)];obtain⟨q1,q2⟩:=Aq hx (show 0<n by omega);exact⟨_,i,h,rfl,hi,q1,fun _=>q2,fun h=>by omega⟩
    | false =>
      obtain⟨x1,i1,h1,e1,hi1,hx1,hy1⟩:=yn (N:=N) hc;obtain⟨x2,i2,h2,e2,hi2,hx2,hy2⟩:=yn (N:=N) (hc.to (h:=h1) hi1);obtain⟨x3,i3,h3,e3,hi3,hx3,hy3⟩:=yn (N:=N) (hc.to (h:=h2) hi2);obtain⟨x4,i4,h4,e4,hi4,hx4,hy4⟩:=yn (N:=N) (hc.to (h:=h3) hi3);simp only[RC,e1,e2,e3,e4,RB,MU (show n ≠ 0 by omega)]
      rw[dE (n:=x1*16777216) (by omega) (by omega),dE (n:=x2*65536) (by omega) (by omega),dE (n:=x3*256) (by omega) (by omega),
        dE (n:=x1*16777216+x2*65536) (by omega) (by omega),dE (n:=x1*16777216+x2*65536+x3*256) (by omega) (by omega),dE (n:=x1*16777216+x2*65536+x3*256+x4) (by omega) (by omega)]
      obtain⟨q1,q2⟩:=Aq (show 0<=x1*16777216+x2*65536+x3*256+x4 by omega) (show 0<n by omega);exact⟨_,i4,h4,rfl,hi4,q1,fun _=>q2,fun h=>by omega⟩
theorem FQ{N:Nat}{c:dL}(hc:Cu c)(n:Int):∃x i h,gT N c n=some (x,⟨c.b,i,h⟩)/\0<=i:=by
  unfold gT;obtain⟨x,i,h,e,hi,_⟩:=sU (N:=N) hc n;simp only[e,RB];exact⟨_,i,h,rfl,hi⟩
theorem yh{N:Nat}{c:dL}(hc:Cu c){l:List Int}(hl:0<l.length):∃x i h,gV N c l=some (x,⟨c.b,i,h⟩)/\0<=i/\x∈l:=by
  unfold gV;obtain⟨x,i,h,e,hi,hx,hy,_⟩:=sU (N:=N) hc (l.length:Int);obtain⟨y,hy,hm⟩:=yx hx (hy (by omega));simp only[e,RB,hy];exact⟨_,i,h,rfl,hi,hm⟩
theorem wZ{α:Type}{t:List α}{z:α}(h:t.length<=1000000):app t [z]=some (t++[z]):=by
  have:(16777216:Nat)=dg:=rfl;unfold app;rw[if_pos (by simp only[List.length_cons,List.length_nil];omega)]
theorem Hi{N:Nat}(hN:dg<=N){c:dL}(hc:Cu c):∃x i h,nJ N c=some (x,⟨c.b,i,h⟩)/\0<=i/\x.Rf.length=4/\∀y,y∈x.Rf->0<=y/\y<=3:=by
  unfold nJ;have hB:(16777216:Nat)<=N:=hN
  obtain⟨r,hr,hJ⟩:=xe (body:=fun(s6:Int×Int×Int×(List Int))=>(bif(decide (s6.1<4))then((dR N (dL.mk c.b s6.2.1 s6.2.2.1) 4).bind fun y9=>(app s6.2.2.2 ([y9.1]:List Int)).bind fun y16=>some (.inl (i64.wrap (s6.1+1),y9.2.i,y9.2.h,y16)))else(some (.inr (s6.1,s6.2.1,s6.2.2.1,s6.2.2.2))):Option ((Int×Int×Int×(List Int))⊕(Int×Int×Int×(List Int)))))
    (fun s=>0<=s.1/\s.1<=4/\0<=s.2.1/\(s.2.2.2.length:Int)=s.1/\∀y,y∈s.2.2.2->0<=y/\y<=3) (fun s=>0<=s.2.1/\s.2.2.2.length=4/\∀y,y∈s.2.2.2->0<=y/\y<=3) (fun s=>(4-s.1).toNat) (by
      rintro⟨k,i,h,l⟩ ⟨h0,h1,h2,h3,h4⟩;simp only at h0 h1 h2 h3 h4
      cases hlt:decide (k<4)with
      | false =>
        have:=of_decide_eq_false hlt;refine⟨_,by simp only[hlt,RC];rfl,by simp,fun r hr=>?_⟩;cases Sum.inr.inj hr;exact⟨h2,by simp only;omega,h4⟩
      | true =>
        have:=of_decide_eq_true hlt;obtain⟨x,i',h',e,hi,hx,hy,_⟩:=sU (N:=N) (hc.to (h:=h) h2) 4;refine⟨_,by simp only[hlt,RD,e,RB,wZ (t:=l) (z:=x) (by omega)];rfl,?_,by simp⟩;rintro s' hs;cases Sum.inl.inj hs;simp only;rw[dE (by omega) (by omega)];refine⟨⟨by omega,by omega,hi,by simp only[List.length_append,List.length_cons,List.length_nil];omega,fun y hm=>?_⟩,by omega⟩
        rcases List.mem_append.1 hm with hm|hm
        · exact h4 y hm
        · rw[List.mem_singleton]at hm;have:=hy (by omega)
          omega) N (0,c.i,c.h,[]) ⟨Int.le_refl _,by simp,hc.2,rfl,by simp⟩ (by simp only;omega)
  rw[hr];exact⟨_,_,_,rfl,hJ.1,hJ.2.1,hJ.2.2⟩
theorem Ic{N:Nat}(hN:dg<=N){c:dL}(hc:Cu c):∃x i h,sF N c=some (x,⟨c.b,i,h⟩)/\0<=i/\x.Rf.length<=5:=by
  unfold sF;obtain⟨x,i,h,e,hi,hl,_⟩:=Hi hN hc;obtain⟨x1,i1,h1,e1,hi1,_⟩:=sU (N:=N) (hc.to (h:=h) hi) 14;obtain⟨x2,i2,h2,e2,hi2,hx2,hy2,_⟩:=sU (N:=N) (hc.to (h:=h1) hi1) 4;have hy2:=hy2 (by decide);obtain⟨x3,i3,h3,e3,hi3,_⟩:=yh (N:=N) (hc.to (h:=h2) hi2) (l:=[-1,4]) (by decide);simp only[e,e1,RB];cases x1==0
  · cases x1==1
    · cases x1==2
      · exact⟨_,i1,h1,rfl,hi1,by simp only;omega⟩
      · simp only[RD,RC,wZ (t:=x.Rf) (z:=0) (by omega),RB];exact⟨_,i1,h1,rfl,hi1,by simp only[List.length_append,List.length_cons,List.length_nil];omega⟩
    · obtain⟨y,hy,_⟩:=yx (l:=x.Rf) hx2 (by omega);simp only[RD,RC,e2,e3,hy,RB];exact⟨_,i3,h3,rfl,hi3,by simp only[List.length_set];omega⟩
  · have hs:sub x.Rf 0 x2=some ((x.Rf.drop (0:Int).toNat).take (x2.toNat-(0:Int).toNat)):=by unfold sub;rw[if_pos ⟨Int.le_refl _,hx2,by omega⟩]
    simp only[RD,e2,hs,RB];exact⟨_,i2,h2,rfl,hi2,by simp only[List.length_take,List.length_drop];omega⟩
theorem PX{N:Nat}(hN:dg<=N){c:dL}(hc:Cu c):∃x i h,sW N c=some (x,⟨c.b,i,h⟩)/\0<=i/\x.length<=5:=by
  unfold sW;have hB:(16777216:Nat)<=N:=hN
  obtain⟨r,hr,hJ⟩:=xe (body:=fun(s4:(List Int)×Int×Int×Int)=>(bif(decide (s4.2.1<4))then((gT N (dL.mk c.b s4.2.2.1 s4.2.2.2) 3).bind fun y7=>bif y7.1 then((app s4.1 [s4.2.1]).bind fun y14=>some (.inl (y14,i64.wrap (s4.2.1+1),y7.2.i,y7.2.h)))else(some (.inl (s4.1,i64.wrap (s4.2.1+1),y7.2.i,y7.2.h))))else(some (.inr (s4.1,s4.2.1,s4.2.2.1,s4.2.2.2))):Option (((List Int)×Int×Int×Int)⊕((List Int)×Int×Int×Int))))
    (fun s=>0<=s.2.1/\s.2.1<=4/\0<=s.2.2.1/\(s.1.length:Int)<=s.2.1) (fun s=>0<=s.2.2.1/\s.1.length<=4) (fun s=>(4-s.2.1).toNat) (by
      rintro⟨l,k,i,h⟩ ⟨h0,h1,h2,h3⟩;simp only at h0 h1 h2 h3
      cases hlt:decide (k<4)with
      | false =>
        have:=of_decide_eq_false hlt;refine⟨_,by simp only[hlt,RC];rfl,by simp,fun r hr=>?_⟩;cases Sum.inr.inj hr;exact⟨h2,by simp only;omega⟩
      | true =>
        have:=of_decide_eq_true hlt;obtain⟨x,i',h',e,hi⟩:=FQ (N:=N) (hc.to (h:=h) h2) 3
        cases x with
        | false =>
          refine⟨_,by simp only[hlt,RD,RC,e,RB];rfl,?_,by simp⟩;rintro s' hs;cases Sum.inl.inj hs;simp only;rw[dE (by omega) (by omega)];exact⟨⟨by omega,by omega,hi,by omega⟩,by omega⟩
        | true =>
          refine⟨_,by simp only[hlt,RD,e,RB,wZ (t:=l) (z:=k) (by omega)];rfl,?_,by simp⟩;rintro s' hs;cases Sum.inl.inj hs;simp only;rw[dE (by omega) (by omega)]
          exact⟨⟨by omega,by omega,hi,by simp only[List.length_append,List.length_cons,List.length_nil];omega⟩,by omega⟩) N ([],0,c.i,c.h) ⟨Int.le_refl _,by simp,hc.2,by simp⟩ (by simp only;omega)
  rw[hr];obtain⟨j1,j2⟩:=hJ;obtain⟨x1,i1,h1,e1,hi1,_⟩:=sU (N:=N) (hc.to (h:=r.2.2.2) j1) 20;simp only[e1,RB,wZ (t:=r.1) (z:=(4:Int)) (by omega),wZ (t:=r.1) (z:=(0:Int)) (by omega)];cases x1==0
  · cases x1==1
    · exact⟨_,i1,h1,rfl,hi1,by omega⟩
    · exact⟨_,i1,h1,rfl,hi1,by simp only[List.length_append,List.length_cons,List.length_nil];omega⟩
  · exact⟨_,i1,h1,rfl,hi1,by simp only[List.length_append,List.length_cons,List.length_nil];omega⟩
theorem IV{N:Nat}{c:dL}(hc:Cu c):∃x i h,pK N c=some (x,⟨c.b,i,h⟩)/\0<=i:=by
  unfold pK;obtain⟨x,i,h,e,hi⟩:=FQ (N:=N) hc 20;simp only[e,RB];cases x
  · obtain⟨x1,i1,h1,e1,hi1,_⟩:=sU (N:=N) (hc.to (h:=h) hi) 60;simp only[RC,e1,RB];exact⟨_,i1,h1,rfl,hi1⟩
  · obtain⟨x1,i1,h1,e1,hi1,_⟩:=yh (N:=N) (hc.to (h:=h) hi) (l:=[-1,1000000,1000001,999999]) (by decide);simp only[RD,e1,RB];exact⟨_,i1,h1,rfl,hi1⟩
theorem P4{N:Nat}{c:dL}(hc:Cu c):∃x i h,sM N c=some (x,⟨c.b,i,h⟩)/\0<=i:=by
  unfold sM;obtain⟨x1,i1,h1,e1,hi1⟩:=IV (N:=N) hc;obtain⟨x2,i2,h2,e2,hi2⟩:=IV (N:=N) (hc.to (h:=h1) hi1);obtain⟨x3,i3,h3,e3,hi3⟩:=IV (N:=N) (hc.to (h:=h2) hi2);simp only[e1,e2,e3,RB];exact⟨_,i3,h3,rfl,hi3⟩
def nth{α:Type}[dv α](l:List α)(i:Int):α:=(l[i.toNat]?).getD dv.zero
theorem eU{α:Type}[dv α]{l:List α}{i:Int}(h0:0<=i)(h1:i<(l.length:Int)):idx l i=some (nth l i):=by
  have hz:l[i.toNat]?=some (l[i.toNat]'(by omega)):=List.getElem?_eq_getElem _;unfold idx nth;rw[if_pos h0,hz];rfl
theorem Be{α:Type}[dv α]{l:List α}{i a b:Int}(h:dy i a b=true)(ha:0<=a)(hb:b<(l.length:Int)):idx l i=some (nth l i):=by
  rw[dI]at h;exact eU (by omega) (by omega)
theorem nW{α:Type}[dv α]{l:List α}{k:Nat}{y:α}(h:l[k]?=some y):nth l (k:Int)=y:=by simp[nth,h]
theorem gy{α:Type}[dv α]{l:List α}{i:Int}(h0:0<=i)(h1:i<(l.length:Int)):nth l i∈l:=by
  have hz:l[i.toNat]?=some (l[i.toNat]'(by omega)):=List.getElem?_eq_getElem _;unfold nth;rw[hz];exact List.getElem_mem _
theorem wY{α:Type}{l:List α}{n:Nat}(h:((l.length:Int) != (n:Int))=false):l.length=n:=by simp at h;omega
theorem uY(N:Nat)(a:Int):jB N a=some (dy a 0 4):=by unfold jB;rw[kq];rfl
theorem vy(N:Nat)(a:Int):kl N a=some (dy a 0 4):=by unfold kl;rw[jK];rfl
def ei(t:List dp)(i:Int):Bool:=dy i 0 4&&(nth t i).Ru
def up(t:List dp)(i:Int):Int:=(nth t i).Rv
def leads(t:List dp):Nat->Int->Bool
  | 0,_=>false
  | n+1,i=>(i==0) || (ei t i&&leads t n (up t i))
def fU(t:List dp):Nat->Int->Int
  | 0,a=>a
  | n+1,a=>if a>0 then fU t n (up t a)else a
theorem qq(N:Nat){t:List dp}(h:t.length=5)(i:Int):kc N t i=some (ei t i):=by
  unfold kc ei;rw[uY,RB];cases hi:dy i 0 4
  · rfl
  · simp only[RD,Be hi (by omega) (show(4:Int)<(t.length:Int) by omega),RB,RF]
theorem Qi{k:Nat}(h:k<(List.replicate 5 ()).length):k<5/\decide ((k:Int)<5)=true:=by
  have h:k<5:=by simpa using h
  exact⟨h,by simp;omega⟩
theorem Ou{k n:Nat}{N:Nat}(hN:dg<=N)(hn:n<16777216):(List.replicate n ()).length<N:=by
  have:16777216<=N:=hN;simp;omega
theorem Ku{N:Nat}(hN:dg<=N){t:List dp}(h:t.length=5)(i:Int):rF N t i=some (leads t 5 i):=by
  unfold rF
  rw[show((i,0):Int×Int)=(fun(k:Nat) (a:Int)=>(a,(k:Int))) 0 i from rfl,
    kS (List.replicate 5 ()) (fun(k:Nat) (a:Int)=>(a,(k:Int))) (fun _ a _=>if a==0 then .inr (.inr true)else if ei t a then .inl (up t a)else .inr (.inr false)) (fun a=>.inl (a,5)) (fun _ _=>True) ?_ ?_ (Ou (k:=0) hN (by decide)) trivial]
  · have key:∀(n k:Nat) (a:Int),Sum.elim (fun _=>some false) (fun r20=>some r20) (kf (ρ:=(Int×Int)⊕Bool) (fun(_:Nat) a (_:Unit)=>if a==0 then .inr (.inr true)else if ei t a then .inl (up t a)else .inr (.inr false)) (fun a=>.inl (a,5)) k a (List.replicate n ()))=some (leads t n a):=by
      intro n
      induction n with
      | zero=>intro k a;rfl
      | succ n ih =>
        intro k a;rw[List.replicate_succ];unfold kf leads;cases h0:(a==0)
        · cases h1:ei t a
          · rfl
          · simpa using ih (k+1) (up t a)
        · rfl
    exact key 5 0 i
  · intro k a y hy hk _;obtain⟨h5,hd⟩:=Qi hk;refine⟨?_,fun _ _=>trivial⟩;simp only[hd,RD,qq N h,RB];cases h0:(a==0)
    · cases h1:ei t a
      · rfl
      · have hin:dy a 0 4=true:=by unfold ei at h1;simp at h1;exact h1.1
        simp only[Be hin (by omega) (show(4:Int)<(t.length:Int) by omega),eL (show k<dg from Nat.lt_trans h5 (by decide)),RB];rfl
    · rfl
  · intro a _;rfl
def kG:dp:=dp.mk false 0 (de.mk 0 0 0)
def mN(t:List dp)(k:Nat)(r:dp):Bool:=if r.Ru then dT r.dP&&leads t 5 (k:Int)else decide (r=kG)
def eY(s:de)(t:List dp):de:=t.foldl (fun s r=>if r.Ru then dX s r.dP else s) s
def fH(t:List dp):Bool:=!((t.length:Int) != 5)&&((nth t 0).Ru&&(!((nth t 0).Rv != (-1))&&(allI (mN t) 0 t&&dT (eY ⟨0,0,0⟩ t))))
theorem qe{N:Nat}(hN:dg<=N){t:List dp}:kb N t=some (fH t):=by
  unfold kb fH;cases h5:((t.length:Int) != 5)
  · have hl:t.length=5:=wY (n:=5) h5
    have hB:t.length<dg:=by rw[hl];decide
    rw[eU (l:=t) (i:=0) (by omega) (by omega)];simp only[RC,RB,gX,Bool.not_false,RF];cases h1:(nth t 0).Ru
    · rfl
    cases h2:((nth t 0).Rv != (-1))
    · simp only[RE,Bool.or_self,RC,RF,Bool.not_false]
      rw[show((0:Int),(0:Int),(0:Int),(0:Int))=(fun(k:Nat) (s:de)=>((k:Int),s.c6,s.dh,s.du)) 0 ⟨0,0,0⟩ from rfl,
        kS t (fun(k:Nat) (s:de)=>((k:Int),s.c6,s.dh,s.du)) (fun k s r=>if mN t k r then .inl (if r.Ru then dX s r.dP else s)else .inr (.inr false)) (fun s=>.inl ((t.length:Int),s.c6,s.dh,s.du)) (fun _ _=>True) ?_ ?_ (Nat.lt_of_lt_of_le hB hN) trivial]
      · simp only[RB,pD]
        have key:∀(l:List dp) (k:Nat) (s:de),Sum.elim (fun(o48:Int×Int×Int×Int)=>some (dT (de.mk o48.2.1 o48.2.2.1 o48.2.2.2))) (fun r53=>some r53) (kf (fun k s r=>if mN t k r then .inl (if r.Ru then dX s r.dP else s)else .inr (.inr false)) (fun s=>.inl ((t.length:Int),s.c6,s.dh,s.du)) k s l)=some (allI (mN t) k l&&dT (eY s l)):=by
          intro l
          induction l with
          | nil=>intro k s;rfl
          | cons r l ih =>
            intro k s;unfold kf allI;cases hp:mN t k r
            · rfl
            · simpa[eY]using ih (k+1) (if r.Ru then dX s r.dP else s)
        exact key t 0 _
      · intro k s r hy hk _;refine⟨?_,fun _ _=>trivial⟩;simp only[eD hk,RD,dQ,hy,RB,pD,Ku hN hl,sN,gX,eL (Nat.lt_trans hk hB)];unfold mN;cases hlv:r.Ru
        · show(bif !decide (r=kG)then _ else _)=_
          cases decide (r=kG)<;>rfl
        · cases dT r.dP<;>cases leads t 5 (k:Int)<;>rfl
      · intro s _;simp only[eE,RC]
    · rfl
  · rfl
def p1(t:List dp)(k:Nat)(r:dp):Bool:=!((!r.Ru&&!decide (r=kG)) || !dT r.dP)&&!(decide ((k:Int)>0)&&(r.Ru&&(!dy r.Rv 0 4 || (r.Rv==(k:Int) || !(nth t r.Rv).Ru))))
def p2(t:List dp)(k:Nat)(r:dp):Bool:=!(r.Ru&&(fU t 5 (k:Int) != 0))
def Good(t:List dp):Prop:=∀i:Int,0<i->i<=4->(nth t i).Ru=true->0<=up t i/\up t i<=4/\up t i ≠ i/\(nth t (up t i)).Ru=true
theorem Hq{t:List dp}(hl:t.length=5)(h:allI (p1 t) 0 t=true):Good t:=by
  intro i h0 h4 hlv;rw[jL]at h
  have hz:t[i.toNat]?=some (nth t i):=by
    have:=eU (l:=t) (i:=i) (by omega) (by omega);unfold idx at this
    rwa[if_pos (by omega)]at this
  have:=h _ _ hz
  have e:((0+i.toNat:Nat):Int)=i:=by omega
  unfold p1 at this;rw[e]at this;unfold up;simp[hlv,dy]at this
  rcases this.2 with q|q
  · omega
  · exact⟨q.1.1,q.1.2,q.2.1,q.2.2⟩
theorem CY{t:List dp}(hg:Good t):∀(n:Nat) (a:Int),0<=a->a<=4->(nth t a).Ru=true->0<=fU t n a/\fU t n a<=4/\(nth t (fU t n a)).Ru=true
  | 0,a,h0,h4,hlv=>⟨h0,h4,hlv⟩
  | n+1,a,h0,h4,hlv=>by
    unfold fU
    by_cases ha:a>0
    · rw[if_pos ha];obtain⟨g1,g2,_,g4⟩:=hg a ha h4 hlv;exact CY hg n _ g1 g2 g4
    · rw[if_neg ha];exact⟨h0,h4,hlv⟩
theorem vb(t:List dp):∀(m n:Nat) (a:Int),fU t (m+n) a=fU t n (fU t m a)
  | 0,n,a=>by simp[fU]
  | m+1,n,a=>by
    rw[show m+1+n=(m+n)+1 by omega]
    show(if a>0 then fU t (m+n) (up t a)else a)=fU t n (if a>0 then fU t m (up t a)else a)
    by_cases ha:a>0
    · rw[if_pos ha,if_pos ha,vb t m n]
    · rw[if_neg ha,if_neg ha];cases n<;>simp[fU,ha]
theorem AO(t:List dp)(n:Nat):fU t n 0=0:=by cases n<;>simp[fU]
theorem wO{t:List dp}(hg:Good t):∀(n:Nat) (a:Int),0<=a->a<=4->(nth t a).Ru=true->leads t (n+1) a=(fU t n a==0)
  | 0,a,h0,h4,hlv=>by simp[leads,fU]
  | n+1,a,h0,h4,hlv=>by
    rw[show leads t (n+1+1) a=((a==0) || (ei t a&&leads t (n+1) (up t a))) from rfl];unfold fU
    by_cases ha:a=0
    · subst ha;simp
    · have hp:a>0:=by omega
      obtain⟨g1,g2,_,g4⟩:=hg a hp h4 hlv;rw[if_pos hp,wO hg n _ g1 g2 g4]
      have:ei t a=true:=by simp[ei,dI,hlv];omega
      have h0':(a==0)=false:=by simpa using ha
      rw[this,h0'];rfl
theorem L7{t:List dp}(hg:Good t){a:Int}(h0:0<=a)(h4:a<=4)(hlv:(nth t a).Ru=true)(h:fU t 5 a=0):fU t 4 a=0:=by
  have key:∀(i j:Nat),i+j<=5->fU t i a=fU t (i+j) a->fU t (5-j) a=0:=by
    intro i j hij e
    have h1:fU t (5-j) a=fU t (5-j-i) (fU t i a):=by rw[<- vb];congr 1;omega
    have h2:fU t 5 a=fU t (5-j-i) (fU t (i+j) a):=by rw[<- vb];congr 1;omega
    rw[h1,e, <- h2,h]
  have mono:∀(i j:Nat),fU t i a=0->fU t (i+j) a=0:=by
    intro i j e;rw[vb,e,AO]
  rcases Decidable.em (fU t 4 a=0)with q|q
  · exact q
  exfalso
  have nz:∀i,i<=4->fU t i a ≠ 0:=fun i hi e=>q (by have:=mono i (4-i) e;rwa[show i+(4-i)=4 by omega]at this)
  have kT:∀i,i<=4->1<=fU t i a/\fU t i a<=4:=fun i hi=>by
    obtain⟨r1,r2,_⟩:=CY hg i a h0 h4 hlv;have:=nz i hi;omega
  have ne:∀(i j:Nat),0<j->i+j<=4->fU t i a ≠ fU t (i+j) a:=fun i j hj hij e=>nz (5-j) (by omega) (key i j (by omega) e);have r0:=kT 0 (by omega);have r1:=kT 1 (by omega);have r2:=kT 2 (by omega);have r3:=kT 3 (by omega);have r4:=kT 4 (by omega);have n01:=ne 0 1 (by omega) (by omega);have n02:=ne 0 2 (by omega) (by omega);have n03:=ne 0 3 (by omega) (by omega);have n04:=ne 0 4 (by omega) (by omega);have n12:=ne 1 1 (by omega) (by omega);have n13:=ne 1 2 (by omega) (by omega);have n14:=ne 1 3 (by omega) (by omega);have n23:=ne 2 1 (by omega) (by omega);have n24:=ne 2 2 (by omega) (by omega);have n34:=ne 3 1 (by omega) (by omega);simp only[Nat.zero_add,Nat.reduceAdd]at *;generalize fU t 0 a=c0 at *;generalize fU t 1 a=c1 at *;generalize fU t 2 a=c2 at *;generalize fU t 3 a=c3 at *;generalize fU t 4 a=c4 at *;clear key mono nz kT ne;omega
theorem Ay{t:List dp}{a:Int}(ha:a ≠ 0)(hu:up t a=a):∀n,leads t n a=false
  | 0=>rfl
  | n+1=>by
    unfold leads;rw[hu,Ay ha hu n];simp[ha]
theorem J3{t:List dp}(hl:t.length=5)(h0:(nth t 0).Ru=true):(allI (p1 t) 0 t&&allI (p2 t) 0 t)=allI (mN t) 0 t:=by
  have hget:∀(i:Nat) (r:dp),t[i]?=some r->(i:Int)<=4/\nth t (i:Int)=r:=fun i r h=>⟨by have:=eA h;omega,nW h⟩;rw[Bool.eq_iff_iff,RG];constructor
  · rintro⟨h1,h2⟩;have hg:=Hq hl h1;rw[jL]at h1 h2⊢;intro i r hr;obtain⟨i4,hn⟩:=hget i r hr;have q1:=h1 i r hr;have q2:=h2 i r hr;simp only[Nat.zero_add]at q1 q2⊢;unfold p1 at q1;unfold p2 at q2;unfold mN;cases hlv:r.Ru
    · simp[hlv]at q1;simp[q1.1]
    · simp[hlv]at q1 q2
      have hlv':(nth t (i:Int)).Ru=true:=by rw[hn];exact hlv
      have:=L7 hg (by omega) i4 hlv' q2;simp only[if_true,RG];refine⟨q1.1,?_⟩;rw[wO hg 4 _ (by omega) i4 hlv',this];rfl
  · intro h;rw[jL]at h
    have hp:∀(i:Int),0<=i->i<=4->(nth t i).Ru=true->dT (nth t i).dP=true/\leads t 5 i=true:=by
      intro i hi hi4 hlv
      have hz:t[i.toNat]?=some (nth t i):=by
        have:=eU (l:=t) (i:=i) (by omega) (by omega);unfold idx at this
        rwa[if_pos (by omega)]at this
      have:=h _ _ hz;unfold mN at this;rw[if_pos hlv]at this
      have e:((0+i.toNat:Nat):Int)=i:=by omega
      rw[e]at this;simpa using this
    have hg:Good t:=by
      intro i hi hi4 hlv;obtain⟨_,q⟩:=hp i (by omega) hi4 hlv
      have hne:up t i ≠ i:=fun e=>by rw[Ay (by omega) e]at q;cases q
      have hi0:(i==0)=false:=by simp;omega
      rw[show leads t 5 i=((i==0) || (ei t i&&leads t 4 (up t i))) from rfl,hi0]at q;simp only[Bool.false_or,RG]at q;rw[show leads t 4 (up t i)=((up t i==0) || (ei t (up t i)&&leads t 3 (up t (up t i)))) from rfl]at q
      rcases Decidable.em (up t i=0)with e|e
      · rw[e];exact⟨by omega,by omega,by omega,h0⟩
      · have e':(up t i==0)=false:=by simpa using e
        rw[e']at q;simp only[Bool.false_or,RG]at q;have:=q.2.1;simp only[ei,RG,dI]at this;exact⟨this.1.1,this.1.2,hne,this.2⟩
    rw[jL,jL];refine⟨fun i r hr=>?_,fun i r hr=>?_⟩
    · obtain⟨i4,hn⟩:=hget i r hr;have q:=h i r hr;simp only[Nat.zero_add]at q⊢;unfold p1;unfold mN at q;cases hlv:r.Ru
      · simp[hlv]at q;subst q;simp;decide
      · simp[hlv]at q;simp[q.1]
        by_cases hi:i=0
        · exact .inl hi
        · have:=hg (i:Int) (by omega) i4 (by rw[hn];exact hlv);unfold up at this;rw[hn]at this;exact .inr ⟨dI.2 ⟨this.1,this.2.1⟩,this.2.2.1,this.2.2.2⟩
    · obtain⟨i4,hn⟩:=hget i r hr;simp only[Nat.zero_add];unfold p2;cases hlv:r.Ru
      · rfl
      · have hlv':(nth t (i:Int)).Ru=true:=by rw[hn];exact hlv
        obtain⟨_,q⟩:=hp (i:Int) (by omega) i4 hlv';rw[wO hg 4 _ (by omega) i4 hlv']at q
        have q:fU t 4 (i:Int)=0:=by simpa using q
        have:fU t 5 (i:Int)=0:=by rw[show 5=4+1 from rfl,vb,q,AO]
        simp[this]
theorem BV{N:Nat}(hN:dg<=N){t:List dp}(hB:t.length<dg):qo N t=some (eY ⟨0,0,0⟩ t):=by
  unfold qo eY
  rw[show((0:Int),(0:Int),(0:Int),(0:Int))=(fun(k:Nat) (s:de)=>((k:Int),s.c6,s.dh,s.du)) 0 ⟨0,0,0⟩ from rfl,
    gC t (fun(k:Nat) (s:de)=>((k:Int),s.c6,s.dh,s.du)) (fun _ s r=>if r.Ru then dX s r.dP else s) (fun s=>((t.length:Int),s.c6,s.dh,s.du)) (fun _ _=>True) ?_ ?_ (Nat.lt_of_lt_of_le hB hN) trivial,jC]
  · rfl
  · intro k s r hy hk _;refine⟨?_,trivial⟩;simp only[eD hk,RD,dQ,hy,RB,eL (Nat.lt_trans hk hB)];cases r.Ru<;>rfl
  · intro s _;simp only[eE,RC]
theorem KD{N:Nat}(hN:dg<=N){t:List dp}(hl:t.length=5)(hg:Good t){k:Nat}{r:dp}(hr:t[k]?=some r):
    ∃n,iter (fun(s72:Int×Int)=>((bif(decide (s72.2<5))then((idx t (k:Int)).bind fun y77=>bif y77.Ru then(some (decide (s72.1>0)))else(some false))else(some false):Option Bool).bind fun j74=>bif j74 then((idx t s72.1).bind fun y89=>some (.inl (y89.Rv,i64.wrap (s72.2+1))))else(some (.inr (s72.1,s72.2))):Option ((Int×Int)⊕(Int×Int)))) N ((k:Int),0)=some (if r.Ru then fU t 5 (k:Int)else(k:Int),n):=by
  have hk:=eA hr
  rw[show(((k:Int),0):Int×Int)=(fun(n:Nat) (a:Int)=>(a,(n:Int))) 0 (k:Int) from rfl,
    kS (List.replicate 5 ()) (fun(n:Nat) (a:Int)=>(a,(n:Int))) (fun n a _=>if r.Ru&&decide (a>0)then .inl (up t a)else .inr (a,(n:Int))) (fun a=>(a,5)) (fun _ a=>r.Ru=true->0<=a/\a<=4/\(nth t a).Ru=true) ?_ ?_ (Ou (k:=0) hN (by decide)) (fun h=>⟨by omega,by omega,by rw[nW hr];exact h⟩)]
  · have key:∀(n j:Nat) (a:Int),(kf (ρ:=Int×Int) (fun(n:Nat) a (_:Unit)=>if r.Ru&&decide (a>0)then .inl (up t a)else .inr (a,(n:Int))) (fun a=>(a,5)) j a (List.replicate n ())).1=if r.Ru then fU t n a else a:=by
      intro n
      induction n with
      | zero=>intro j a;simp[kf,fU]
      | succ n ih =>
        intro j a;rw[List.replicate_succ];unfold kf fU;cases hlv:r.Ru
        · rfl
        · have ih:=ih (j+1) (up t a);rw[hlv]at ih
          by_cases ha:a>0
          · simpa[ha]using ih
          · simp[ha]
    have:=key 5 0 (k:Int);exact⟨_,congrArg some (Prod.ext this rfl)⟩
  · intro n a y hy hn hI;obtain⟨h5,hd⟩:=Qi hn;simp only[hd,RD,dQ,hr,RB];cases hlv:r.Ru
    · exact⟨rfl,fun t' h=>by simp at h⟩
    · obtain⟨i1,i2,i3⟩:=hI hlv
      by_cases ha:a>0
      · have hd2:decide (a>0)=true:=by simpa using ha
        simp only[RD,hd2,RB,eU (l:=t) (i:=a) i1 (by omega),eL (show n<dg from Nat.lt_trans h5 (by decide)),Bool.and_self,if_true];refine⟨rfl,fun t' h _=>?_⟩;cases h;obtain⟨g1,g2,_,g4⟩:=hg a ha i2 i3;exact⟨g1,g2,g4⟩
      · have hd2:decide (a>0)=false:=by simpa using ha
        simp only[RD,hd2,RB,RC];exact⟨rfl,fun t' h=>by simp at h⟩
  · intro a _;rfl
theorem vY{N:Nat}(hN:dg<=N){t:List dp}:mf N t=some (fH t):=by
  unfold mf fH;cases h5:((t.length:Int) != 5)
  · have hl:t.length=5:=wY (n:=5) h5
    have hB:t.length<dg:=by rw[hl];decide
    rw[eU (l:=t) (i:=0) (by omega) (by omega)];simp only[RC,RB,gX,Bool.not_false,RF];cases h1:(nth t 0).Ru
    · rfl
    cases h2:((nth t 0).Rv != (-1))
    · simp only[RE,Bool.or_self,RC,RF,Bool.not_false];rw[gQ t (p1 t) (.inl (t.length:Int)) (.inr false) (Nat.lt_of_lt_of_le hB hN), <- J3 hl h1]
      · simp only[RB];cases hp:allI (p1 t) 0 t
        · rfl
        · have hg:=Hq hl hp;simp only[if_true,Sum.elim_inl,RF];rw[gQ t (p2 t) (.inl (t.length:Int)) (.inr false) (Nat.lt_of_lt_of_le hB hN)]
          · simp only[RB,BV hN hB,pC];cases allI (p2 t) 0 t<;>rfl
          · intro k r hy hk;obtain⟨n,hn⟩:=KD hN hl hg hy;simp only[eD hk,RD];rw[hn];simp only[dQ,hy,RB,eL (Nat.lt_trans hk hB)];unfold p2;cases hlv:r.Ru
            · rfl
            · simp only[RD,RB,if_true,RF];cases(fU t 5 (k:Int) != 0)<;>rfl
          · simp only[eE,RC]
      · intro k r hy hk;simp only[eD hk,RD,dQ,hy,RB,pC,vy,gX,eL (Nat.lt_trans hk hB)];unfold p1;rw[show dp.mk false 0 (de.mk 0 0 0)=kG from rfl];cases hin:dy r.Rv 0 4
        · cases r.Ru<;>cases decide (r=kG)<;>cases dT r.dP<;>cases decide ((k:Int)>0)<;>rfl
        · rw[Be hin (by omega) (show(4:Int)<(t.length:Int) by omega)];simp only[RB];cases r.Ru<;>cases decide (r=kG)<;>cases dT r.dP<;>cases decide ((k:Int)>0)<;>cases(r.Rv==(k:Int))<;>cases(nth t r.Rv).Ru<;>rfl
      · simp only[eE,RC]
    · rfl
  · rfl
end Go.Kx
