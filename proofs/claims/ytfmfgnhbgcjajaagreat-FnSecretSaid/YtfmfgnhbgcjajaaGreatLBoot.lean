import Derived.Test.YtfmfgnhbgcjajaaGreatHa
namespace Go.Kx
open Go
open Go.IntKind (i64)
set_option linter.unusedVariables false
set_option linter.unusedSimpArgs false
set_option maxRecDepth 10000
theorem iB(p q:Bool):(bif p then some q else some false)=some (p&&q):=by cases p<;>rfl
theorem gv(p q:Bool):(bif p then some true else some q)=some (p || q):=by cases p<;>rfl
def dv(a b c:Int):Bool:=decide (b<=a)&&decide (a<=c)
theorem dI{a b c:Int}:dv a b c=true <-> b<=a/\a<=c:=by simp[dv]
theorem jj(N:Nat)(a b c:Int):ey N a b c=some (dv a b c):=iB _ _
theorem jK(N:Nat)(a b c:Int):eC N a b c=some (dv a b c):=iB _ _
def uQ(n:Int):Bool:=dv n 0 1000000
theorem Qj(N:Nat)(a:Int):pD N a=some (uQ a):=by unfold pD;rw[jj];rfl
theorem Be(N:Nat)(a:Int):lg N a=some (uQ a):=by unfold lg;rw[jK];rfl
def dP(a:de):Bool:=uQ a.cd&&(uQ a.dg&&uQ a.dn)
theorem o8(N:Nat)(a:de):hO N a=some (dP a):=by unfold hO;simp only[Qj,RK,iB];rfl
theorem oV(N:Nat)(a:de):hY N a=some (dP a):=by unfold hY;simp only[Be,RK,iB];rfl
def dU(a b:de):de:=de.mk (i64.wrap (a.cd+b.cd)) (i64.wrap (a.dg+b.dg)) (i64.wrap (a.dn+b.dn))
def fH(a b:de):de×Bool:=if dP a&&dP b&&dP (dU a b)then(dU a b,true)else(a,false)
theorem vK(N:Nat)(a b:de):kT N a b=some (fH a b):=by
  unfold kT fH;simp only[o8,RK,gv]
  show(bif(!dP a || !dP b)then some (a,false)else(bif !dP (dU a b)then some (a,false)else some (dU a b,true)))=_
  cases dP a<;>cases dP b<;>cases dP (dU a b)<;>rfl
theorem sk(N:Nat)(a b:de):jY N a b=some (dU a b):=rfl
theorem DM(N:Nat)(a b:de):qx N a b=some (fH a b):=by
  unfold qx fH;simp only[oV,sk,RK,gv];cases dP a<;>cases dP b<;>cases dP (dU a b)<;>rfl
def eT(l:dV):Bool:=((l.Ro.length:Int)==4)&&l.Ro.all fun y=>dv y 0 3
theorem j6{l:dV}:eT l=true <-> l.Ro.length=4/\∀y,y∈l.Ro->0<=y/\y<=3:=by
  simp only[eT,RP,List.all_eq_true,dI,beq_iff_eq];constructor
  · rintro⟨h1,h2⟩;exact⟨by omega,h2⟩
  · rintro⟨h1,h2⟩;exact⟨by omega,h2⟩
theorem pT{N:Nat}(hN:df<=N){l:dV}(hb:l.Ro.length<df):ju N l=some (eT l):=by
  unfold ju eT;rw[gp l.Ro (fun _ y=>dv y 0 3) (.inl (l.Ro.length:Int)) (.inr false) (Nat.lt_of_lt_of_le hb hN),gZ]
  · cases h:((l.Ro.length:Int)==4)
    · have:((l.Ro.length:Int) != 4)=true:=by simp[bne,h]
      simp[this]
    · have:((l.Ro.length:Int) != 4)=false:=by simp[bne,h]
      simp only[this,RL,RK,RO];cases l.Ro.all fun y=>dv y 0 3<;>rfl
  · intro k y hy hk;simp only[ei hk,RM,dM,hy,RK,jj,eB (Nat.lt_trans hk hb)];cases dv y 0 3<;>rfl
  · simp only[ep,RL]
theorem ui{N:Nat}(hN:df<=N){l:dV}(hb:l.Ro.length<df):kV N l=some (eT l):=by
  unfold kV eT;rw[gp l.Ro (fun _ y=>dv y 0 3) (.inl (l.Ro.length:Int)) (.inr false) (Nat.lt_of_lt_of_le hb hN),gZ]
  · simp only[RK];cases l.Ro.all fun y=>dv y 0 3<;>simp
  · intro k y hy hk;simp only[ei hk,RM,dM,hy,RK,jK,eB (Nat.lt_trans hk hb)];cases dv y 0 3<;>rfl
  · simp only[ep,RL]
def vH(l:List Int)(k:Nat)(y:Int):Bool:=dv y 0 3&&match k with
  | 0=>true
  | j+1=>!decide (y<=(l[j]?).getD 0)
def ia(l:List Int):Bool:=allI (vH l) 0 l
theorem H0{l:List Int}{k:Nat}{y:Int}(hy:l[k]?=some y)(hk:k<l.length)(hb:l.length<df){N:Nat}:
    (bif(!(dv y 0 3))then(some true)else(bif(decide ((k:Int)>0))then((idx l (i64.wrap ((k:Int)-1))).bind fun y18=>some (decide (y<=y18)))else(some false)):Option Bool)=some (!vH l k y):=by
  have hB:l.length<16777216:=hb;unfold vH
  cases k with
  | zero =>
    have:decide (((0:Nat):Int)>0)=false:=by decide
    simp only[this,RL];cases dv y 0 3<;>rfl
  | succ j =>
    have:decide (((j+1:Nat):Int)>0)=true:=by simp
    have e:i64.wrap (((j+1:Nat):Int)-1)=(j:Int):=by rw[dB (by omega) (by omega)];omega
    have hz:l[j]?=some (l[j]'(by omega)):=List.getElem?_eq_getElem _;simp only[this,RM,e,dM,hz,RK,Option.getD_some];cases dv y 0 3<;>simp
theorem zb{N:Nat}(hN:df<=N){l:List Int}(hb:l.length<df):oe N l=some (ia l):=by
  unfold oe ia;rw[gp l (vH l) (.inl (l.length:Int)) (.inr false) (Nat.lt_of_lt_of_le hb hN)]
  · simp only[RK];cases allI (vH l) 0 l<;>rfl
  · intro k y hy hk;simp only[ei hk,RM,dM,hy,RK,jj,eB (Nat.lt_trans hk hb)];rw[H0 hy hk hb (N:=N)];cases vH l k y<;>rfl
  · simp only[ep,RL]
theorem zn{N:Nat}(hN:df<=N){l:List Int}(hb:l.length<df):nZ N l=some (ia l):=by
  unfold nZ ia;rw[gp l (vH l) (.inl (l.length:Int)) (.inr false) (Nat.lt_of_lt_of_le hb hN)]
  · simp only[RK];cases allI (vH l) 0 l<;>rfl
  · intro k y hy hk;simp only[ei hk,RM,dM,hy,RK,jK,eB (Nat.lt_trans hk hb),ge_iff_le];rw[H0 hy hk hb (N:=N)];cases vH l k y<;>rfl
  · simp only[ep,RL]
theorem NZ{N:Nat}(hN:df<=N){l:List Int}{x:Int}(hb:l.length<df):∃r,oG N l x=some r/\decide (r>=0)=l.contains x:=by
  unfold oG;have hB:l.length<16777216:=hb;rw[show(0:Int)=(fun(k:Nat) (_:Unit)=>(k:Int)) 0 () from rfl,ku l (fun k (_:Unit)=>(k:Int)) (fun k _ y=>if x==y then .inr (.inr (k:Int))else .inl ()) (fun _=>.inl (l.length:Int)) (fun _ _=>True) ?_ ?_ (Nat.lt_of_lt_of_le hb hN) trivial]
  · simp only[RK]
    have key:∀(m:List Int) (k:Nat), ∃r,Sum.elim (fun _=>some (-1)) (fun r16=>some r16) (jL (ρ:=Int⊕Int) (fun(k:Nat) (_:Unit) y=>if x==y then .inr (.inr (k:Int))else .inl ()) (fun _=>.inl (l.length:Int)) k () m)=some r/\decide (r>=0)=m.contains x:=by
      intro m
      induction m with
      | nil=>intro k;exact⟨-1,rfl,rfl⟩
      | cons y m ih =>
        intro k;cases hxy:(x==y)
        · obtain⟨r,h1,h2⟩:=ih (k+1)
          have hne:x ≠ y:=by simpa using hxy
          refine⟨r,by simpa[jL,hxy]using h1,by rw[h2];simp[List.contains_cons,hne]⟩
        · have he:x=y:=by simpa using hxy
          exact⟨k,by simp[jL,hxy],by simp[List.contains_cons,he]⟩
    exact key l 0
  · intro k _ y hy hk _;simp only[ei hk,RM,dM,hy,RK,eB (Nat.lt_trans hk hb)];cases(x==y)<;>simp
  · intro _ _;simp only[ep,RL]
theorem sR{N:Nat}(hN:df<=N){l:List Int}{x:Int}(hb:l.length<df):iA N l x=some (l.contains x):=by
  unfold iA;obtain⟨r,h1,h2⟩:=NZ hN hb (x:=x);rw[h1,RK,h2]
def nH(b:List Int):Nat->List Int->List Int
  | _,[]=>[]
  | k,y::l=>if decide (y>(b[k]?).getD 0)then(k:Int)::nH b (k+1) l else nH b (k+1) l
theorem Bk(b:List Int):∀(l:List Int) (k:Nat),(nH b k l).length<=l.length
  | [],_=>Nat.le_refl _
  | y::l,k=>by
    unfold nH;have:=Bk b l (k+1);split<;>simp<;>omega
theorem zv(b:List Int):∀(l:List Int) (k:Nat) (acc:List Int),foldI (fun k (acc:List Int) y=>if decide (y>(b[k]?).getD 0)then acc++[(k:Int)]else acc) k acc l=acc++nH b k l
  | [],_,acc=>by simp[foldI,nH]
  | y::l,k,acc=>by
    unfold foldI nH;rw[zv b l];cases decide (y>(b[k]?).getD 0)<;>simp
theorem Ok{N:Nat}(hN:df<=N){a b:dV}(ha:a.Ro.length<df)(hab:a.Ro.length<=b.Ro.length):ue N a b=some (nH b.Ro 0 a.Ro):=by
  unfold ue
  rw[show(([]:List Int),(0:Int))=(fun(k:Nat) (t:List Int)=>(t,(k:Int))) 0 [] from rfl,
    gz a.Ro (fun k (t:List Int)=>(t,(k:Int))) (fun k acc y=>if decide (y>(b.Ro[k]?).getD 0)then acc++[(k:Int)]else acc) (fun t=>(t,(a.Ro.length:Int))) (fun k t=>t.length<=k) ?_ ?_ (Nat.lt_of_lt_of_le ha hN) (by simp),zv]
  · simp
  · intro k t y hy hk hI;have hz:b.Ro[k]?=some (b.Ro[k]'(by omega)):=List.getElem?_eq_getElem _;simp only[ei hk,RM,dM,hy,hz,RK,Option.getD_some,eB (Nat.lt_trans hk ha)];cases decide (y>b.Ro[k]'(by omega))
    · exact⟨rfl,by simp;omega⟩
    · have:app t [(k:Int)]=some (t++[(k:Int)]):=by unfold app;rw[if_pos (by simp;omega)]
      simp only[this,RK,RM,if_true];exact⟨trivial,by simp;omega⟩
  · intro t _;simp only[ep,RL]
def lK(own:List Int)(a b:dV):Bool:=ia own&&(eT a&&(eT b&&allI (fun k y=>!decide (y>(b.Ro[k]?).getD 0) || own.contains (k:Int)) 0 a.Ro))
theorem CD(b:List Int)(q:Int->Bool):∀(l:List Int) (k:Nat),(nH b k l).all q=allI (fun k y=>!decide (y>(b[k]?).getD 0) || q (k:Int)) k l
  | [],_=>rfl
  | y::l,k=>by
    unfold nH allI;rw[<- CD b q l (k+1)];cases decide (y>(b[k]?).getD 0)<;>simp
theorem AO{N:Nat}(hN:df<=N){own:List Int}{a b:dV}(ho:own.length<df)(ha:a.Ro.length<df)(hb:b.Ro.length<df):nJ N own a b=some (lK own a b):=by
  unfold nJ lK;simp only[zn hN ho,ui hN ha,ui hN hb,RK,gv];cases h1:ia own
  · rfl
  cases h2:eT a
  · rfl
  cases h3:eT b
  · rfl
  have l2:=(j6.1 h2).1;have l3:=(j6.1 h3).1;have hl:=Bk b.Ro a.Ro 0;have hB:(nH b.Ro 0 a.Ro).length<df:=Nat.lt_of_le_of_lt hl ha;simp only[RN,Bool.or_self,RL,Ok hN ha (b:=b) (by omega),RK,RO];rw[gp (nH b.Ro 0 a.Ro) (fun _ y=>own.contains y) (.inl ((nH b.Ro 0 a.Ro).length:Int)) (.inr false) (Nat.lt_of_lt_of_le hB hN),gZ,CD]
  · simp only[RK];cases allI _ 0 a.Ro<;>rfl
  · intro k y hy hk;simp only[ei hk,RM,dM,hy,RK,sR hN ho,eB (Nat.lt_trans hk hB)];cases own.contains y<;>rfl
  · simp only[ep,RL]
def fT(a b:dV):Bool:=lK [] a b
theorem H7{N:Nat}(hN:df<=N){a b:dV}(ha:a.Ro.length<df)(hb:b.Ro.length<df):sy N a b=some (fT a b):=by
  unfold sy fT;rw[AO hN (by decide) ha hb];rfl
theorem Lg{α ρ:Type}{body:Int->Option (Int⊕ρ)}(x:List α)(h4:x.length=4)(p:Nat->α->Bool)(r r':ρ){N:Nat}(hN:df<=N)
    (hs:∀(k:Nat) (y:α),x[k]?=some y->k<4->decide ((k:Int)<4)=true->body (k:Int)=some (if p k y then .inl ((k+1:Nat):Int)else .inr r')) (he:body 4=some (.inr r)):iter body N 0=some (if allI p 0 x then r else r') :=
  gp x p r r' (by have:16777216<=N:=hN;omega) (fun k y hy hk=>hs k y hy (by omega) (by simp;omega)) (by rw[h4];exact he)
theorem NK{N:Nat}(hN:df<=N){a b:dV}(ha:a.Ro.length<df)(hb:b.Ro.length<df):uA N a b=some (fT a b):=by
  unfold uA fT lK;simp only[pT hN ha,pT hN hb,RK,gv];cases h2:eT a
  · simp
  cases h3:eT b
  · simp
  have l2:=(j6.1 h2).1;have l3:=(j6.1 h3).1;simp only[RN,Bool.or_self,RL];rw[Lg a.Ro l2 (fun k y=>!decide (y>(b.Ro[k]?).getD 0) || ([]:List Int).contains (k:Int)) (.inl 4) (.inr false) hN]
  · simp only[RK,show ia []=true from rfl,RO];cases allI _ 0 a.Ro<;>rfl
  · intro k y hy hk hd;have hz:b.Ro[k]?=some (b.Ro[k]'(by omega)):=List.getElem?_eq_getElem _;simp only[hd,RM,dM,hy,hz,RK,Option.getD_some,eB (show k<df from Nat.lt_trans hk (by decide))];cases decide (y>b.Ro[k]'(by omega))<;>rfl
  · rfl
def kC:de->List dK->Bool
  | _,[]=>true
  | a,b::l=>(fH a b.eV).2&&(eT b.Rp&&(ia b.own&&kC (fH a b.eV).1 l))
def fW(l:List dK):Bool:=kC ⟨0,0,0⟩ l&&dv (l.length:Int) 1 3
theorem xn(e:Int)(g:Nat->de->dK->de⊕((Int×Int×Int×Int)⊕Bool))(fin:de->((Int×Int×Int×Int)⊕Bool))(k:Option Bool)
    (hg:∀k t y,g k t y=if(fH t y.eV).2&&(eT y.Rp&&ia y.own)then .inl (fH t y.eV).1 else .inr (.inr false)) (hf:∀t, ∃v,fin t=.inl v) :
    ∀(l:List dK) (j:Nat) (t:de),Sum.elim (fun _=>k) (fun r=>some r) (jL g fin j t l)=bif kC t l then k else some false
  | [],j,t=>by obtain⟨v,hv⟩:=hf t;simp[jL,kC,hv]
  | b::l,j,t=>by
    have ih:=xn e g fin k hg hf l (j+1);simp only[jL,kC,hg];cases(fH t b.eV).2
    · rfl
    cases eT b.Rp
    · rfl
    cases ia b.own
    · rfl
    simpa using ih _
theorem Bi{l:List dK}{y:dK}(hb:eE eM l<df)(hy:y∈l):y.Rp.Ro.length<df/\y.own.length<df:=by
  have:=fq hb hy;unfold eM iN at this;omega
theorem E9{N:Nat}(hN:df<=N){l:List dK}(hb:eE eM l<df):qv N l=some (fW l):=by
  have hl:=gj hb;unfold qv fW
  rw[show((0:Int),(0:Int),(0:Int),(0:Int))=(fun(k:Nat) (t:de)=>((k:Int),t.cd,t.dg,t.dn)) 0 ⟨0,0,0⟩ from rfl,
    ku l (fun(k:Nat) (t:de)=>((k:Int),t.cd,t.dg,t.dn)) (fun k t y=>if(fH t y.eV).2&&(eT y.Rp&&ia y.own)then .inl (fH t y.eV).1 else .inr (.inr false)) (fun t=>.inl ((l.length:Int),t.cd,t.dg,t.dn)) (fun _ _=>True) ?_ ?_ (Nat.lt_of_lt_of_le hl hN) trivial]
  · simp only[RK,jK];rw[xn 0 _ _ _ (fun _ _ _=>rfl) (fun t=>⟨_,rfl⟩),iB]
  · intro k t y hy hk _;obtain⟨b1,b2⟩:=Bi hb (List.mem_of_getElem? hy);refine⟨?_,fun _ _=>trivial⟩;simp only[ei hk,RM,dM,hy,RK,DM,ui hN b1,zn hN b2,gv,eB (Nat.lt_trans hk hl)];cases(fH t y.eV).2
    · rfl
    cases eT y.Rp
    · rfl
    cases ia y.own<;>rfl
  · intro t _;simp only[ep,RL]
theorem Ao{N:Nat}(hN:df<=N){l:List dK}(hb:eE eM l<df):ot N l=some (fW l):=by
  have hl:=gj hb;have hN':16777216<=N:=hN;have hlB:l.length<16777216:=hl;unfold ot fW
  rw[show((0:Int),(0:Int),(0:Int),(0:Int))=(fun(k:Nat) (t:de)=>((k:Int),t.cd,t.dg,t.dn)) 0 ⟨0,0,0⟩ from rfl,
    ku (l.take 3) (fun(k:Nat) (t:de)=>((k:Int),t.cd,t.dg,t.dn)) (fun k t y=>if(fH t y.eV).2&&(eT y.Rp&&ia y.own)then .inl (fH t y.eV).1 else .inr (.inr false)) (fun t=>.inl (((l.take 3).length:Int),t.cd,t.dg,t.dn)) (fun _ _=>True) ?_ ?_ (by simp;omega) trivial]
  · simp only[RK,jj];rw[xn 0 _ _ _ (fun _ _ _=>rfl) (fun t=>⟨_,rfl⟩),iB]
    rcases Nat.lt_or_ge 3 l.length with h|h
    · have:dv (l.length:Int) 1 3=false:=by simp[dv];omega
      simp[this]
    · rw[List.take_of_length_le h]
  · intro k t y hy hk _
    have hk2:k<3/\k<l.length:=by simp at hk;omega
    rw[List.getElem?_take_of_lt hk2.1]at hy;obtain⟨b1,b2⟩:=Bi hb (List.mem_of_getElem? hy);refine⟨?_,fun _ _=>trivial⟩
    have h3:decide ((k:Int)<3)=true:=by simp;omega
    simp only[ei hk2.2,h3,RM,dM,hy,RK,vK,pT hN b1,zb hN b2,gv,eB (show k<df from Nat.lt_trans hk2.1 (by decide))];cases h1:(fH t y.eV).2
    · cases eT y.Rp<;>cases ia y.own<;>rfl
    cases eT y.Rp
    · rfl
    cases ia y.own<;>rfl
  · intro t _;simp only[List.length_take]
    rcases Nat.lt_or_ge 3 l.length with h|h
    · have e:min 3 l.length=3:=by omega
      have h3:decide (((3:Nat):Int)<(l.length:Int))=true:=by simp;omega
      simp only[e,h3,RM];rfl
    · have e:min 3 l.length=l.length:=by omega
      simp only[e,ep,RL,RK]
def vi(l:List dK):de:=if fW l then l.foldl (fun a b=>dU a b.eV) ⟨0,0,0⟩else⟨0,0,0⟩
theorem zE:∀(l:List dK) (a:de),kC a l=true->l.foldl (fun a b=>(fH a b.eV).1) a=l.foldl (fun a b=>dU a b.eV) a
  | [],_,_=>rfl
  | b::l,a,h=>by
    simp only[kC,RP]at h;obtain⟨h1,_,_,h4⟩:=h
    have e:(fH a b.eV).1=dU a b.eV:=by
      unfold fH at h1⊢;split<;>simp_all
    rw[List.foldl_cons,List.foldl_cons,e];rw[e]at h4;exact zE l _ h4
def seen(bs:List dK)(e:dQ)(l:dV):Bool:=e.Rq==1 || (dv e.Rn 0 ((bs.length:Int)-1)&&fT ((bs[e.Rn.toNat]?).getD dp.zero).Rp l)
theorem Hv{bs:List dK}{p:Int}(h:dv p 0 ((bs.length:Int)-1)=true):idx bs p=some ((bs[p.toNat]?).getD dp.zero)/\(bs[p.toNat]?).getD dp.zero∈bs:=by
  rw[dI]at h;have hz:bs[p.toNat]?=some (bs[p.toNat]'(by omega)):=List.getElem?_eq_getElem _;unfold idx;rw[if_pos h.1,hz];exact⟨rfl,List.getElem_mem _⟩
theorem O2{N:Nat}(hN:df<=N){bs:List dK}{e:dQ}{l:dV}(hb:eE eM bs<df)(hl:l.Ro.length<df):vz N bs e l=some (seen bs e l):=by
  have hlB:bs.length<16777216:=gj hb;unfold vz seen;rw[jK,RK,dB (by omega) (by omega)];cases e.Rq==1
  · cases h:dv e.Rn 0 ((bs.length:Int)-1)
    · rfl
    · obtain⟨h1,h2⟩:=Hv h;simp only[RL,RM,h1,RK,H7 hN (Bi hb h2).1 hl,Bool.false_or,RO]
  · rfl
theorem J6{N:Nat}(hN:df<=N){bs:List dK}{e:dQ}{l:dV}(hb:eE eM bs<df)(hl:l.Ro.length<df):tQ N bs e l=some (seen bs e l):=by
  have hlB:bs.length<16777216:=gj hb;unfold tQ seen;rw[jj,RK,dB (by omega) (by omega)];cases e.Rq==1
  · cases h:dv e.Rn 0 ((bs.length:Int)-1)
    · rfl
    · obtain⟨h1,h2⟩:=Hv h;simp only[RL,RM,h1,RK,NK hN (Bi hb h2).1 hl,Bool.false_or,RO]
  · rfl
theorem xa{σ ρ:Type}{body:σ->Option (σ⊕ρ)}(I:σ->Prop)(J:ρ->Prop)(μ:σ->Nat)
    (h:∀s,I s->∃o,body s=some o/\(∀s',o=.inl s'->I s'/\μ s'<μ s)/\∀r,o=.inr r->J r):∀(N:Nat) (s:σ),I s->μ s<N->∃r,iter body N s=some r/\J r
  | 0,_,_,hN=>absurd hN (Nat.not_lt_zero _)
  | N+1,s,hI,hN=>by
    obtain⟨o,ho,h1,h2⟩:=h s hI
    cases o with
    | inl s' =>
      obtain⟨hI',hm⟩:=h1 s' rfl;obtain⟨r,hr,hJ⟩:=xa I J μ h N s' hI' (by omega);exact⟨r,by show(body s).bind _=_;rw[ho];exact hr,hJ⟩
    | inr r=>exact⟨r,by show(body s).bind _=_;rw[ho];rfl,h2 r rfl⟩
theorem yq{α:Type}{l:List α}{i:Int}(h0:0<=i)(h1:i<(l.length:Int)):∃y,idx l i=some y/\y∈l:=by
  have hz:l[i.toNat]?=some (l[i.toNat]'(by omega)):=List.getElem?_eq_getElem _;exact⟨_,by unfold idx;rw[if_pos h0,hz],List.getElem_mem _⟩
theorem HP(a:Int){m:Int}(h0:0<=m)(h1:m<=2147483647):0<=yo a m/\yo a m<=m:=by
  have h:(BitVec.ofInt IntKind.i64.bits a &&& BitVec.ofInt IntKind.i64.bits m).toNat<=m.toNat:=by
    rw[BitVec.toNat_and];refine Nat.le_trans Nat.and_le_right ?_;rw[BitVec.toNat_ofInt]
    show(m % ((2^64:Nat):Int)).toNat<=m.toNat
    rw[Int.emod_eq_of_lt h0 (by omega)];exact Nat.le_refl _
  unfold yo;rw[dB (by omega) (by omega)];omega
def Cu(c:dG):Prop:=c.b.length<=1048576/\0<=c.i
theorem Cu.to{c:dG}(hc:Cu c){i h:Int}(hi:0<=i):Cu ⟨c.b,i,h⟩:=⟨hc.1,hi⟩
theorem Qg{N:Nat}(hN:df<=N){l:List U8}(hl:l.length<=1048576):∃h,sr N l=some ⟨l,0,h⟩:=by
  unfold sr;have hB:(16777216:Nat)<=N:=hN
  obtain⟨r,hr,_⟩:=xa (body:=fun(s1:Int×Int)=>((bif(decide (s1.2<(l.length:Int)))then(some (decide (s1.2<4000)))else(some false):Option Bool).bind fun j3=>bif j3 then((idx l s1.2).bind fun y8=>some (.inl (yo (i64.wrap ((i64.wrap ((i64.wrap (s1.1*131))+(i64.wrap y8.v)))+7)) 1073741823,i64.wrap (s1.2+1))))else(some (.inr (s1.1,s1.2))):Option ((Int×Int)⊕(Int×Int))))
    (fun s=>0<=s.2/\s.2<=(l.length:Int)) (fun _=>True) (fun s=>((l.length:Int)-s.2).toNat) (by
      rintro⟨h,i⟩ ⟨h0,h1⟩;simp only at h0 h1
      cases hlt:decide (i<(l.length:Int))with
      | false=>exact⟨_,by simp only[hlt,RL,RK];rfl,by simp,fun _ _=>trivial⟩
      | true =>
        have h2:=of_decide_eq_true hlt
        cases h4:decide (i<4000)with
        | false=>exact⟨_,by simp only[hlt,h4,RL,RM,RK];rfl,by simp,fun _ _=>trivial⟩
        | true =>
          obtain⟨y,hy,_⟩:=yq h0 h2;refine⟨_,by simp only[hlt,h4,hy,RM,RK];rfl,?_,by simp⟩;rintro s' hs;cases Sum.inl.inj hs;simp only;rw[dB (by omega) (by omega)]
          omega) N (i64.wrap (10101+(l.length:Int)),0) ⟨Int.le_refl _,by simp⟩ (by simp only;omega)
  rw[hr];exact⟨r.1,rfl⟩
theorem xX{N:Nat}{c:dG}(hc:Cu c):∃x i h,lO N c=some (x,⟨c.b,i,h⟩)/\0<=i/\0<=x/\x<=255:=by
  unfold lO;obtain⟨hb,hi⟩:=hc
  cases hlt:decide (c.i<(c.b.length:Int))with
  | true =>
    have h1:=of_decide_eq_true hlt;obtain⟨y,hy,_⟩:=yq hi h1;simp only[hy,RM,RK];exact⟨_,_,_,rfl,by rw[dB (by omega) (by omega)];omega,HP _ (by decide) (by decide)⟩
  | false=>exact⟨_,_,_,rfl,hi,HP _ (by decide) (by decide)⟩
theorem xx{a n:Int}(ha:0<=a)(hn:0<n):0<=Int.tmod a n/\Int.tmod a n<n:=by
  rw[Int.tmod_eq_emod_of_nonneg ha];exact⟨Int.emod_nonneg _ (by omega),Int.emod_lt_of_pos _ hn⟩
theorem Ix{n:Int}(h:n ≠ 0):dz n=some ():=by unfold dz;rw[if_neg h]
theorem sj{N:Nat}{c:dG}(hc:Cu c)(n:Int):∃x i h,dR N c n=some (x,⟨c.b,i,h⟩)/\0<=i/\0<=x/\(0<n->x<n)/\(n<=0->x=0):=by
  unfold dR
  cases h0:decide (n<=0)with
  | true=>exact⟨0,c.i,c.h,rfl,hc.2,Int.le_refl _,fun h=>h,fun _=>rfl⟩
  | false =>
    have hn:=of_decide_eq_false h0;simp only[RL]
    cases h1:decide (n<=256)with
    | true =>
      obtain⟨x,i,h,e,hi,hx,_⟩:=xX (N:=N) hc;simp only[RM,e,RK,Ix (show n ≠ 0 by omega)];obtain⟨q1,q2⟩:=xx hx (show 0<n by omega);exact⟨_,i,h,rfl,hi,q1,fun _=>q2,fun h=>by omega⟩
    | false =>
      obtain⟨x1,i1,h1,e1,hi1,hx1,hy1⟩:=xX (N:=N) hc;obtain⟨x2,i2,h2,e2,hi2,hx2,hy2⟩:=xX (N:=N) (hc.to (h:=h1) hi1);obtain⟨x3,i3,h3,e3,hi3,hx3,hy3⟩:=xX (N:=N) (hc.to (h:=h2) hi2);obtain⟨x4,i4,h4,e4,hi4,hx4,hy4⟩:=xX (N:=N) (hc.to (h:=h3) hi3);simp only[RL,e1,e2,e3,e4,RK,Ix (show n ≠ 0 by omega)]
      rw[dB (n:=x1*16777216) (by omega) (by omega),dB (n:=x2*65536) (by omega) (by omega),dB (n:=x3*256) (by omega) (by omega),
        dB (n:=x1*16777216+x2*65536) (by omega) (by omega),dB (n:=x1*16777216+x2*65536+x3*256) (by omega) (by omega),dB (n:=x1*16777216+x2*65536+x3*256+x4) (by omega) (by omega)]
      obtain⟨q1,q2⟩:=xx (show 0<=x1*16777216+x2*65536+x3*256+x4 by omega) (show 0<n by omega);exact⟨_,i4,h4,rfl,hi4,q1,fun _=>q2,fun h=>by omega⟩
theorem EN{N:Nat}{c:dG}(hc:Cu c)(n:Int):∃x i h,gw N c n=some (x,⟨c.b,i,h⟩)/\0<=i:=by
  unfold gw;obtain⟨x,i,h,e,hi,_⟩:=sj (N:=N) hc n;simp only[e,RK];exact⟨_,i,h,rfl,hi⟩
theorem xW{N:Nat}{c:dG}(hc:Cu c){l:List Int}(hl:0<l.length):∃x i h,gy N c l=some (x,⟨c.b,i,h⟩)/\0<=i/\x∈l:=by
  unfold gy;obtain⟨x,i,h,e,hi,hx,hy,_⟩:=sj (N:=N) hc (l.length:Int);obtain⟨y,hy,hm⟩:=yq hx (hy (by omega));simp only[e,RK,hy];exact⟨_,i,h,rfl,hi,hm⟩
theorem xM{α:Type}{t:List α}{z:α}(h:t.length<=1000000):app t [z]=some (t++[z]):=by
  have:(16777216:Nat)=df:=rfl;unfold app;rw[if_pos (by simp only[List.length_cons,List.length_nil];omega)]
theorem Hy{N:Nat}(hN:df<=N){c:dG}(hc:Cu c):∃x i h,nm N c=some (x,⟨c.b,i,h⟩)/\0<=i/\x.Ro.length=4/\∀y,y∈x.Ro->0<=y/\y<=3:=by
  unfold nm;have hB:(16777216:Nat)<=N:=hN
  obtain⟨r,hr,hJ⟩:=xa (body:=fun(s6:Int×Int×Int×(List Int))=>(bif(decide (s6.1<4))then((dR N (dG.mk c.b s6.2.1 s6.2.2.1) 4).bind fun y9=>(app s6.2.2.2 ([y9.1]:List Int)).bind fun y16=>some (.inl (i64.wrap (s6.1+1),y9.2.i,y9.2.h,y16)))else(some (.inr (s6.1,s6.2.1,s6.2.2.1,s6.2.2.2))):Option ((Int×Int×Int×(List Int))⊕(Int×Int×Int×(List Int)))))
    (fun s=>0<=s.1/\s.1<=4/\0<=s.2.1/\(s.2.2.2.length:Int)=s.1/\∀y,y∈s.2.2.2->0<=y/\y<=3) (fun s=>0<=s.2.1/\s.2.2.2.length=4/\∀y,y∈s.2.2.2->0<=y/\y<=3) (fun s=>(4-s.1).toNat) (by
      rintro⟨k,i,h,l⟩ ⟨h0,h1,h2,h3,h4⟩;simp only at h0 h1 h2 h3 h4
      cases hlt:decide (k<4)with
      | false =>
        have:=of_decide_eq_false hlt;refine⟨_,by simp only[hlt,RL];rfl,by simp,fun r hr=>?_⟩;cases Sum.inr.inj hr;exact⟨h2,by simp only;omega,h4⟩
      | true =>
        have:=of_decide_eq_true hlt;obtain⟨x,i',h',e,hi,hx,hy,_⟩:=sj (N:=N) (hc.to (h:=h) h2) 4;refine⟨_,by simp only[hlt,RM,e,RK,xM (t:=l) (z:=x) (by omega)];rfl,?_,by simp⟩;rintro s' hs;cases Sum.inl.inj hs;simp only;rw[dB (by omega) (by omega)];refine⟨⟨by omega,by omega,hi,by simp only[List.length_append,List.length_cons,List.length_nil];omega,fun y hm=>?_⟩,by omega⟩
        rcases List.mem_append.1 hm with hm|hm
        · exact h4 y hm
        · rw[List.mem_singleton]at hm;have:=hy (by omega)
          omega) N (0,c.i,c.h,[]) ⟨Int.le_refl _,by simp,hc.2,rfl,by simp⟩ (by simp only;omega)
  rw[hr];exact⟨_,_,_,rfl,hJ.1,hJ.2.1,hJ.2.2⟩
theorem IB{N:Nat}(hN:df<=N){c:dG}(hc:Cu c):∃x i h,sG N c=some (x,⟨c.b,i,h⟩)/\0<=i/\x.Ro.length<=5:=by
  unfold sG;obtain⟨x,i,h,e,hi,hl,_⟩:=Hy hN hc;obtain⟨x1,i1,h1,e1,hi1,_⟩:=sj (N:=N) (hc.to (h:=h) hi) 14;obtain⟨x2,i2,h2,e2,hi2,hx2,hy2,_⟩:=sj (N:=N) (hc.to (h:=h1) hi1) 4;have hy2:=hy2 (by decide);obtain⟨x3,i3,h3,e3,hi3,_⟩:=xW (N:=N) (hc.to (h:=h2) hi2) (l:=[-1,4]) (by decide);simp only[e,e1,RK];cases x1==0
  · cases x1==1
    · cases x1==2
      · exact⟨_,i1,h1,rfl,hi1,by simp only;omega⟩
      · simp only[RM,RL,xM (t:=x.Ro) (z:=0) (by omega),RK];exact⟨_,i1,h1,rfl,hi1,by simp only[List.length_append,List.length_cons,List.length_nil];omega⟩
    · obtain⟨y,hy,_⟩:=yq (l:=x.Ro) hx2 (by omega);simp only[RM,RL,e2,e3,hy,RK];exact⟨_,i3,h3,rfl,hi3,by simp only[List.length_set];omega⟩
  · have hs:sub x.Ro 0 x2=some ((x.Ro.drop (0:Int).toNat).take (x2.toNat-(0:Int).toNat)):=by unfold sub;rw[if_pos ⟨Int.le_refl _,hx2,by omega⟩]
    simp only[RM,e2,hs,RK];exact⟨_,i2,h2,rfl,hi2,by simp only[List.length_take,List.length_drop];omega⟩
theorem Qc{N:Nat}(hN:df<=N){c:dG}(hc:Cu c):∃x i h,sw N c=some (x,⟨c.b,i,h⟩)/\0<=i/\x.length<=5:=by
  unfold sw;have hB:(16777216:Nat)<=N:=hN
  obtain⟨r,hr,hJ⟩:=xa (body:=fun(s4:(List Int)×Int×Int×Int)=>(bif(decide (s4.2.1<4))then((gw N (dG.mk c.b s4.2.2.1 s4.2.2.2) 3).bind fun y7=>bif y7.1 then((app s4.1 [s4.2.1]).bind fun y14=>some (.inl (y14,i64.wrap (s4.2.1+1),y7.2.i,y7.2.h)))else(some (.inl (s4.1,i64.wrap (s4.2.1+1),y7.2.i,y7.2.h))))else(some (.inr (s4.1,s4.2.1,s4.2.2.1,s4.2.2.2))):Option (((List Int)×Int×Int×Int)⊕((List Int)×Int×Int×Int))))
    (fun s=>0<=s.2.1/\s.2.1<=4/\0<=s.2.2.1/\(s.1.length:Int)<=s.2.1) (fun s=>0<=s.2.2.1/\s.1.length<=4) (fun s=>(4-s.2.1).toNat) (by
      rintro⟨l,k,i,h⟩ ⟨h0,h1,h2,h3⟩;simp only at h0 h1 h2 h3
      cases hlt:decide (k<4)with
      | false =>
        have:=of_decide_eq_false hlt;refine⟨_,by simp only[hlt,RL];rfl,by simp,fun r hr=>?_⟩;cases Sum.inr.inj hr;exact⟨h2,by simp only;omega⟩
      | true =>
        have:=of_decide_eq_true hlt;obtain⟨x,i',h',e,hi⟩:=EN (N:=N) (hc.to (h:=h) h2) 3
        cases x with
        | false =>
          refine⟨_,by simp only[hlt,RM,RL,e,RK];rfl,?_,by simp⟩;rintro s' hs;cases Sum.inl.inj hs;simp only;rw[dB (by omega) (by omega)];exact⟨⟨by omega,by omega,hi,by omega⟩,by omega⟩
        | true =>
          refine⟨_,by simp only[hlt,RM,e,RK,xM (t:=l) (z:=k) (by omega)];rfl,?_,by simp⟩;rintro s' hs;cases Sum.inl.inj hs;simp only;rw[dB (by omega) (by omega)]
          exact⟨⟨by omega,by omega,hi,by simp only[List.length_append,List.length_cons,List.length_nil];omega⟩,by omega⟩) N ([],0,c.i,c.h) ⟨Int.le_refl _,by simp,hc.2,by simp⟩ (by simp only;omega)
  rw[hr];obtain⟨j1,j2⟩:=hJ;obtain⟨x1,i1,h1,e1,hi1,_⟩:=sj (N:=N) (hc.to (h:=r.2.2.2) j1) 20;simp only[e1,RK,xM (t:=r.1) (z:=(4:Int)) (by omega),xM (t:=r.1) (z:=(0:Int)) (by omega)];cases x1==0
  · cases x1==1
    · exact⟨_,i1,h1,rfl,hi1,by omega⟩
    · exact⟨_,i1,h1,rfl,hi1,by simp only[List.length_append,List.length_cons,List.length_nil];omega⟩
  · exact⟨_,i1,h1,rfl,hi1,by simp only[List.length_append,List.length_cons,List.length_nil];omega⟩
theorem Ih{N:Nat}{c:dG}(hc:Cu c):∃x i h,pE N c=some (x,⟨c.b,i,h⟩)/\0<=i:=by
  unfold pE;obtain⟨x,i,h,e,hi⟩:=EN (N:=N) hc 20;simp only[e,RK];cases x
  · obtain⟨x1,i1,h1,e1,hi1,_⟩:=sj (N:=N) (hc.to (h:=h) hi) 60;simp only[RL,e1,RK];exact⟨_,i1,h1,rfl,hi1⟩
  · obtain⟨x1,i1,h1,e1,hi1,_⟩:=xW (N:=N) (hc.to (h:=h) hi) (l:=[-1,1000000,1000001,999999]) (by decide);simp only[RM,e1,RK];exact⟨_,i1,h1,rfl,hi1⟩
theorem PU{N:Nat}{c:dG}(hc:Cu c):∃x i h,sI N c=some (x,⟨c.b,i,h⟩)/\0<=i:=by
  unfold sI;obtain⟨x1,i1,h1,e1,hi1⟩:=Ih (N:=N) hc;obtain⟨x2,i2,h2,e2,hi2⟩:=Ih (N:=N) (hc.to (h:=h1) hi1);obtain⟨x3,i3,h3,e3,hi3⟩:=Ih (N:=N) (hc.to (h:=h2) hi2);simp only[e1,e2,e3,RK];exact⟨_,i3,h3,rfl,hi3⟩
def nth{α:Type}[dp α](l:List α)(i:Int):α:=(l[i.toNat]?).getD dp.zero
theorem eK{α:Type}[dp α]{l:List α}{i:Int}(h0:0<=i)(h1:i<(l.length:Int)):idx l i=some (nth l i):=by
  have hz:l[i.toNat]?=some (l[i.toNat]'(by omega)):=List.getElem?_eq_getElem _;unfold idx nth;rw[if_pos h0,hz];rfl
theorem BB{α:Type}[dp α]{l:List α}{i a b:Int}(h:dv i a b=true)(ha:0<=a)(hb:b<(l.length:Int)):idx l i=some (nth l i):=by
  rw[dI]at h;exact eK (by omega) (by omega)
theorem rn{α:Type}[dp α]{l:List α}{k:Nat}{y:α}(h:l[k]?=some y):nth l (k:Int)=y:=by simp[nth,h]
theorem gg{α:Type}[dp α]{l:List α}{i:Int}(h0:0<=i)(h1:i<(l.length:Int)):nth l i∈l:=by
  have hz:l[i.toNat]?=some (l[i.toNat]'(by omega)):=List.getElem?_eq_getElem _;unfold nth;rw[hz];exact List.getElem_mem _
theorem wH{α:Type}{l:List α}{n:Nat}(h:((l.length:Int) != (n:Int))=false):l.length=n:=by simp at h;omega
theorem uo(N:Nat)(a:Int):iZ N a=some (dv a 0 4):=by unfold iZ;rw[jK];rfl
theorem vj(N:Nat)(a:Int):jT N a=some (dv a 0 4):=by unfold jT;rw[jj];rfl
def eh(t:List dj)(i:Int):Bool:=dv i 0 4&&(nth t i).RC
def up(t:List dj)(i:Int):Int:=(nth t i).RE
def leads(t:List dj):Nat->Int->Bool
  | 0,_=>false
  | n+1,i=>(i==0) || (eh t i&&leads t n (up t i))
def fD(t:List dj):Nat->Int->Int
  | 0,a=>a
  | n+1,a=>if a>0 then fD t n (up t a)else a
theorem pR(N:Nat){t:List dj}(h:t.length=5)(i:Int):jF N t i=some (eh t i):=by
  unfold jF eh;rw[uo,RK];cases hi:dv i 0 4
  · rfl
  · simp only[RM,BB hi (by omega) (show(4:Int)<(t.length:Int) by omega),RK,RO]
theorem Qn{k:Nat}(h:k<(List.replicate 5 ()).length):k<5/\decide ((k:Int)<5)=true:=by
  have h:k<5:=by simpa using h
  exact⟨h,by simp;omega⟩
theorem OO{k n:Nat}{N:Nat}(hN:df<=N)(hn:n<16777216):(List.replicate n ()).length<N:=by
  have:16777216<=N:=hN;simp;omega
theorem Lj{N:Nat}(hN:df<=N){t:List dj}(h:t.length=5)(i:Int):qY N t i=some (leads t 5 i):=by
  unfold qY
  rw[show((i,0):Int×Int)=(fun(k:Nat) (a:Int)=>(a,(k:Int))) 0 i from rfl,
    ku (List.replicate 5 ()) (fun(k:Nat) (a:Int)=>(a,(k:Int))) (fun _ a _=>if a==0 then .inr (.inr true)else if eh t a then .inl (up t a)else .inr (.inr false)) (fun a=>.inl (a,5)) (fun _ _=>True) ?_ ?_ (OO (k:=0) hN (by decide)) trivial]
  · have key:∀(n k:Nat) (a:Int),Sum.elim (fun _=>some false) (fun r20=>some r20) (jL (ρ:=(Int×Int)⊕Bool) (fun(_:Nat) a (_:Unit)=>if a==0 then .inr (.inr true)else if eh t a then .inl (up t a)else .inr (.inr false)) (fun a=>.inl (a,5)) k a (List.replicate n ()))=some (leads t n a):=by
      intro n
      induction n with
      | zero=>intro k a;rfl
      | succ n ih =>
        intro k a;rw[List.replicate_succ];unfold jL leads;cases h0:(a==0)
        · cases h1:eh t a
          · rfl
          · simpa using ih (k+1) (up t a)
        · rfl
    exact key 5 0 i
  · intro k a y hy hk _;obtain⟨h5,hd⟩:=Qn hk;refine⟨?_,fun _ _=>trivial⟩;simp only[hd,RM,pR N h,RK];cases h0:(a==0)
    · cases h1:eh t a
      · rfl
      · have hin:dv a 0 4=true:=by unfold eh at h1;simp at h1;exact h1.1
        simp only[BB hin (by omega) (show(4:Int)<(t.length:Int) by omega),eB (show k<df from Nat.lt_trans h5 (by decide)),RK];rfl
    · rfl
  · intro a _;rfl
def kh:dj:=dj.mk false 0 (de.mk 0 0 0)
def mC(t:List dj)(k:Nat)(r:dj):Bool:=if r.RC then dP r.dO&&leads t 5 (k:Int)else decide (r=kh)
def eU(s:de)(t:List dj):de:=t.foldl (fun s r=>if r.RC then dU s r.dO else s) s
def fk(t:List dj):Bool:=!((t.length:Int) != 5)&&((nth t 0).RC&&(!((nth t 0).RE != (-1))&&(allI (mC t) 0 t&&dP (eU ⟨0,0,0⟩ t))))
theorem pH{N:Nat}(hN:df<=N){t:List dj}:jD N t=some (fk t):=by
  unfold jD fk;cases h5:((t.length:Int) != 5)
  · have hl:t.length=5:=wH (n:=5) h5
    have hB:t.length<df:=by rw[hl];decide
    rw[eK (l:=t) (i:=0) (by omega) (by omega)];simp only[RL,RK,gv,Bool.not_false,RO];cases h1:(nth t 0).RC
    · rfl
    cases h2:((nth t 0).RE != (-1))
    · simp only[RN,Bool.or_self,RL,RO,Bool.not_false]
      rw[show((0:Int),(0:Int),(0:Int),(0:Int))=(fun(k:Nat) (s:de)=>((k:Int),s.cd,s.dg,s.dn)) 0 ⟨0,0,0⟩ from rfl,
        ku t (fun(k:Nat) (s:de)=>((k:Int),s.cd,s.dg,s.dn)) (fun k s r=>if mC t k r then .inl (if r.RC then dU s r.dO else s)else .inr (.inr false)) (fun s=>.inl ((t.length:Int),s.cd,s.dg,s.dn)) (fun _ _=>True) ?_ ?_ (Nat.lt_of_lt_of_le hB hN) trivial]
      · simp only[RK,oV]
        have key:∀(l:List dj) (k:Nat) (s:de),Sum.elim (fun(o48:Int×Int×Int×Int)=>some (dP (de.mk o48.2.1 o48.2.2.1 o48.2.2.2))) (fun r53=>some r53) (jL (fun k s r=>if mC t k r then .inl (if r.RC then dU s r.dO else s)else .inr (.inr false)) (fun s=>.inl ((t.length:Int),s.cd,s.dg,s.dn)) k s l)=some (allI (mC t) k l&&dP (eU s l)):=by
          intro l
          induction l with
          | nil=>intro k s;rfl
          | cons r l ih =>
            intro k s;unfold jL allI;cases hp:mC t k r
            · rfl
            · simpa[eU]using ih (k+1) (if r.RC then dU s r.dO else s)
        exact key t 0 _
      · intro k s r hy hk _;refine⟨?_,fun _ _=>trivial⟩;simp only[ei hk,RM,dM,hy,RK,oV,Lj hN hl,sk,gv,eB (Nat.lt_trans hk hB)];unfold mC;cases hlv:r.RC
        · show(bif !decide (r=kh)then _ else _)=_
          cases decide (r=kh)<;>rfl
        · cases dP r.dO<;>cases leads t 5 (k:Int)<;>rfl
      · intro s _;simp only[ep,RL]
    · rfl
  · rfl
def p1(t:List dj)(k:Nat)(r:dj):Bool:=!((!r.RC&&!decide (r=kh)) || !dP r.dO)&&!(decide ((k:Int)>0)&&(r.RC&&(!dv r.RE 0 4 || (r.RE==(k:Int) || !(nth t r.RE).RC))))
def p2(t:List dj)(k:Nat)(r:dj):Bool:=!(r.RC&&(fD t 5 (k:Int) != 0))
def Good(t:List dj):Prop:=∀i:Int,0<i->i<=4->(nth t i).RC=true->0<=up t i/\up t i<=4/\up t i ≠ i/\(nth t (up t i)).RC=true
theorem HW{t:List dj}(hl:t.length=5)(h:allI (p1 t) 0 t=true):Good t:=by
  intro i h0 h4 hlv;rw[iV]at h
  have hz:t[i.toNat]?=some (nth t i):=by
    have:=eK (l:=t) (i:=i) (by omega) (by omega);unfold idx at this
    rwa[if_pos (by omega)]at this
  have:=h _ _ hz
  have e:((0+i.toNat:Nat):Int)=i:=by omega
  unfold p1 at this;rw[e]at this;unfold up;simp[hlv,dv]at this
  rcases this.2 with q|q
  · omega
  · exact⟨q.1.1,q.1.2,q.2.1,q.2.2⟩
theorem CK{t:List dj}(hg:Good t):∀(n:Nat) (a:Int),0<=a->a<=4->(nth t a).RC=true->0<=fD t n a/\fD t n a<=4/\(nth t (fD t n a)).RC=true
  | 0,a,h0,h4,hlv=>⟨h0,h4,hlv⟩
  | n+1,a,h0,h4,hlv=>by
    unfold fD
    by_cases ha:a>0
    · rw[if_pos ha];obtain⟨g1,g2,_,g4⟩:=hg a ha h4 hlv;exact CK hg n _ g1 g2 g4
    · rw[if_neg ha];exact⟨h0,h4,hlv⟩
theorem uj(t:List dj):∀(m n:Nat) (a:Int),fD t (m+n) a=fD t n (fD t m a)
  | 0,n,a=>by simp[fD]
  | m+1,n,a=>by
    rw[show m+1+n=(m+n)+1 by omega]
    show(if a>0 then fD t (m+n) (up t a)else a)=fD t n (if a>0 then fD t m (up t a)else a)
    by_cases ha:a>0
    · rw[if_pos ha,if_pos ha,uj t m n]
    · rw[if_neg ha,if_neg ha];cases n<;>simp[fD,ha]
theorem AI(t:List dj)(n:Nat):fD t n 0=0:=by cases n<;>simp[fD]
theorem wJ{t:List dj}(hg:Good t):∀(n:Nat) (a:Int),0<=a->a<=4->(nth t a).RC=true->leads t (n+1) a=(fD t n a==0)
  | 0,a,h0,h4,hlv=>by simp[leads,fD]
  | n+1,a,h0,h4,hlv=>by
    rw[show leads t (n+1+1) a=((a==0) || (eh t a&&leads t (n+1) (up t a))) from rfl];unfold fD
    by_cases ha:a=0
    · subst ha;simp
    · have hp:a>0:=by omega
      obtain⟨g1,g2,_,g4⟩:=hg a hp h4 hlv;rw[if_pos hp,wJ hg n _ g1 g2 g4]
      have:eh t a=true:=by simp[eh,dI,hlv];omega
      have h0':(a==0)=false:=by simpa using ha
      rw[this,h0'];rfl
theorem Md{t:List dj}(hg:Good t){a:Int}(h0:0<=a)(h4:a<=4)(hlv:(nth t a).RC=true)(h:fD t 5 a=0):fD t 4 a=0:=by
  have key:∀(i j:Nat),i+j<=5->fD t i a=fD t (i+j) a->fD t (5-j) a=0:=by
    intro i j hij e
    have h1:fD t (5-j) a=fD t (5-j-i) (fD t i a):=by rw[<- uj];congr 1;omega
    have h2:fD t 5 a=fD t (5-j-i) (fD t (i+j) a):=by rw[<- uj];congr 1;omega
    rw[h1,e, <- h2,h]
  have mono:∀(i j:Nat),fD t i a=0->fD t (i+j) a=0:=by
    intro i j e;rw[uj,e,AI]
  rcases Decidable.em (fD t 4 a=0)with q|q
  · exact q
  exfalso
  have nz:∀i,i<=4->fD t i a ≠ 0:=fun i hi e=>q (by have:=mono i (4-i) e;rwa[show i+(4-i)=4 by omega]at this)
  have zy:∀i,i<=4->1<=fD t i a/\fD t i a<=4:=fun i hi=>by
    obtain⟨r1,r2,_⟩:=CK hg i a h0 h4 hlv;have:=nz i hi;omega
  have ne:∀(i j:Nat),0<j->i+j<=4->fD t i a ≠ fD t (i+j) a:=fun i j hj hij e=>nz (5-j) (by omega) (key i j (by omega) e);have r0:=zy 0 (by omega);have r1:=zy 1 (by omega);have r2:=zy 2 (by omega);have r3:=zy 3 (by omega);have r4:=zy 4 (by omega);have n01:=ne 0 1 (by omega) (by omega);have n02:=ne 0 2 (by omega) (by omega);have n03:=ne 0 3 (by omega) (by omega);have n04:=ne 0 4 (by omega) (by omega);have n12:=ne 1 1 (by omega) (by omega);have n13:=ne 1 2 (by omega) (by omega);have n14:=ne 1 3 (by omega) (by omega);have n23:=ne 2 1 (by omega) (by omega);have n24:=ne 2 2 (by omega) (by omega);have n34:=ne 3 1 (by omega) (by omega);simp only[Nat.zero_add,Nat.reduceAdd]at *;generalize fD t 0 a=c0 at *;generalize fD t 1 a=c1 at *;generalize fD t 2 a=c2 at *;generalize fD t 3 a=c3 at *;generalize fD t 4 a=c4 at *;clear key mono nz zy ne;omega
theorem z4{t:List dj}{a:Int}(ha:a ≠ 0)(hu:up t a=a):∀n,leads t n a=false
  | 0=>rfl
  | n+1=>by
    unfold leads;rw[hu,z4 ha hu n];simp[ha]
theorem KW{t:List dj}(hl:t.length=5)(h0:(nth t 0).RC=true):(allI (p1 t) 0 t&&allI (p2 t) 0 t)=allI (mC t) 0 t:=by
  have hget:∀(i:Nat) (r:dj),t[i]?=some r->(i:Int)<=4/\nth t (i:Int)=r:=fun i r h=>⟨by have:=eF h;omega,rn h⟩;rw[Bool.eq_iff_iff,RP];constructor
  · rintro⟨h1,h2⟩;have hg:=HW hl h1;rw[iV]at h1 h2⊢;intro i r hr;obtain⟨i4,hn⟩:=hget i r hr;have q1:=h1 i r hr;have q2:=h2 i r hr;simp only[Nat.zero_add]at q1 q2⊢;unfold p1 at q1;unfold p2 at q2;unfold mC;cases hlv:r.RC
    · simp[hlv]at q1;simp[q1.1]
    · simp[hlv]at q1 q2
      have hlv':(nth t (i:Int)).RC=true:=by rw[hn];exact hlv
      have:=Md hg (by omega) i4 hlv' q2;simp only[if_true,RP];refine⟨q1.1,?_⟩;rw[wJ hg 4 _ (by omega) i4 hlv',this];rfl
  · intro h;rw[iV]at h
    have hp:∀(i:Int),0<=i->i<=4->(nth t i).RC=true->dP (nth t i).dO=true/\leads t 5 i=true:=by
      intro i hi hi4 hlv
      have hz:t[i.toNat]?=some (nth t i):=by
        have:=eK (l:=t) (i:=i) (by omega) (by omega);unfold idx at this
        rwa[if_pos (by omega)]at this
      have:=h _ _ hz;unfold mC at this;rw[if_pos hlv]at this
      have e:((0+i.toNat:Nat):Int)=i:=by omega
      rw[e]at this;simpa using this
    have hg:Good t:=by
      intro i hi hi4 hlv;obtain⟨_,q⟩:=hp i (by omega) hi4 hlv
      have hne:up t i ≠ i:=fun e=>by rw[z4 (by omega) e]at q;cases q
      have hi0:(i==0)=false:=by simp;omega
      rw[show leads t 5 i=((i==0) || (eh t i&&leads t 4 (up t i))) from rfl,hi0]at q;simp only[Bool.false_or,RP]at q;rw[show leads t 4 (up t i)=((up t i==0) || (eh t (up t i)&&leads t 3 (up t (up t i)))) from rfl]at q
      rcases Decidable.em (up t i=0)with e|e
      · rw[e];exact⟨by omega,by omega,by omega,h0⟩
      · have e':(up t i==0)=false:=by simpa using e
        rw[e']at q;simp only[Bool.false_or,RP]at q;have:=q.2.1;simp only[eh,RP,dI]at this;exact⟨this.1.1,this.1.2,hne,this.2⟩
    rw[iV,iV];refine⟨fun i r hr=>?_,fun i r hr=>?_⟩
    · obtain⟨i4,hn⟩:=hget i r hr;have q:=h i r hr;simp only[Nat.zero_add]at q⊢;unfold p1;unfold mC at q;cases hlv:r.RC
      · simp[hlv]at q;subst q;simp;decide
      · simp[hlv]at q;simp[q.1]
        by_cases hi:i=0
        · exact .inl hi
        · have:=hg (i:Int) (by omega) i4 (by rw[hn];exact hlv);unfold up at this;rw[hn]at this;exact .inr ⟨dI.2 ⟨this.1,this.2.1⟩,this.2.2.1,this.2.2.2⟩
    · obtain⟨i4,hn⟩:=hget i r hr;simp only[Nat.zero_add];unfold p2;cases hlv:r.RC
      · rfl
      · have hlv':(nth t (i:Int)).RC=true:=by rw[hn];exact hlv
        obtain⟨_,q⟩:=hp (i:Int) (by omega) i4 hlv';rw[wJ hg 4 _ (by omega) i4 hlv']at q
        have q:fD t 4 (i:Int)=0:=by simpa using q
        have:fD t 5 (i:Int)=0:=by rw[show 5=4+1 from rfl,uj,q,AI]
        simp[this]
theorem B4{N:Nat}(hN:df<=N){t:List dj}(hB:t.length<df):qg N t=some (eU ⟨0,0,0⟩ t):=by
  unfold qg eU
  rw[show((0:Int),(0:Int),(0:Int),(0:Int))=(fun(k:Nat) (s:de)=>((k:Int),s.cd,s.dg,s.dn)) 0 ⟨0,0,0⟩ from rfl,
    gz t (fun(k:Nat) (s:de)=>((k:Int),s.cd,s.dg,s.dn)) (fun _ s r=>if r.RC then dU s r.dO else s) (fun s=>((t.length:Int),s.cd,s.dg,s.dn)) (fun _ _=>True) ?_ ?_ (Nat.lt_of_lt_of_le hB hN) trivial,i9]
  · rfl
  · intro k s r hy hk _;refine⟨?_,trivial⟩;simp only[ei hk,RM,dM,hy,RK,eB (Nat.lt_trans hk hB)];cases r.RC<;>rfl
  · intro s _;simp only[ep,RL]
theorem K3{N:Nat}(hN:df<=N){t:List dj}(hl:t.length=5)(hg:Good t){k:Nat}{r:dj}(hr:t[k]?=some r):
    ∃n,iter (fun(s72:Int×Int)=>((bif(decide (s72.2<5))then((idx t (k:Int)).bind fun y77=>bif y77.RC then(some (decide (s72.1>0)))else(some false))else(some false):Option Bool).bind fun j74=>bif j74 then((idx t s72.1).bind fun y89=>some (.inl (y89.RE,i64.wrap (s72.2+1))))else(some (.inr (s72.1,s72.2))):Option ((Int×Int)⊕(Int×Int)))) N ((k:Int),0)=some (if r.RC then fD t 5 (k:Int)else(k:Int),n):=by
  have hk:=eF hr
  rw[show(((k:Int),0):Int×Int)=(fun(n:Nat) (a:Int)=>(a,(n:Int))) 0 (k:Int) from rfl,
    ku (List.replicate 5 ()) (fun(n:Nat) (a:Int)=>(a,(n:Int))) (fun n a _=>if r.RC&&decide (a>0)then .inl (up t a)else .inr (a,(n:Int))) (fun a=>(a,5)) (fun _ a=>r.RC=true->0<=a/\a<=4/\(nth t a).RC=true) ?_ ?_ (OO (k:=0) hN (by decide)) (fun h=>⟨by omega,by omega,by rw[rn hr];exact h⟩)]
  · have key:∀(n j:Nat) (a:Int),(jL (ρ:=Int×Int) (fun(n:Nat) a (_:Unit)=>if r.RC&&decide (a>0)then .inl (up t a)else .inr (a,(n:Int))) (fun a=>(a,5)) j a (List.replicate n ())).1=if r.RC then fD t n a else a:=by
      intro n
      induction n with
      | zero=>intro j a;simp[jL,fD]
      | succ n ih =>
        intro j a;rw[List.replicate_succ];unfold jL fD;cases hlv:r.RC
        · rfl
        · have ih:=ih (j+1) (up t a);rw[hlv]at ih
          by_cases ha:a>0
          · simpa[ha]using ih
          · simp[ha]
    have:=key 5 0 (k:Int);exact⟨_,congrArg some (Prod.ext this rfl)⟩
  · intro n a y hy hn hI;obtain⟨h5,hd⟩:=Qn hn;simp only[hd,RM,dM,hr,RK];cases hlv:r.RC
    · exact⟨rfl,fun t' h=>by simp at h⟩
    · obtain⟨i1,i2,i3⟩:=hI hlv
      by_cases ha:a>0
      · have hd2:decide (a>0)=true:=by simpa using ha
        simp only[RM,hd2,RK,eK (l:=t) (i:=a) i1 (by omega),eB (show n<df from Nat.lt_trans h5 (by decide)),Bool.and_self,if_true];refine⟨rfl,fun t' h _=>?_⟩;cases h;obtain⟨g1,g2,_,g4⟩:=hg a ha i2 i3;exact⟨g1,g2,g4⟩
      · have hd2:decide (a>0)=false:=by simpa using ha
        simp only[RM,hd2,RK,RL];exact⟨rfl,fun t' h=>by simp at h⟩
  · intro a _;rfl
theorem vx{N:Nat}(hN:df<=N){t:List dj}:lQ N t=some (fk t):=by
  unfold lQ fk;cases h5:((t.length:Int) != 5)
  · have hl:t.length=5:=wH (n:=5) h5
    have hB:t.length<df:=by rw[hl];decide
    rw[eK (l:=t) (i:=0) (by omega) (by omega)];simp only[RL,RK,gv,Bool.not_false,RO];cases h1:(nth t 0).RC
    · rfl
    cases h2:((nth t 0).RE != (-1))
    · simp only[RN,Bool.or_self,RL,RO,Bool.not_false];rw[gp t (p1 t) (.inl (t.length:Int)) (.inr false) (Nat.lt_of_lt_of_le hB hN), <- KW hl h1]
      · simp only[RK];cases hp:allI (p1 t) 0 t
        · rfl
        · have hg:=HW hl hp;simp only[if_true,Sum.elim_inl,RO];rw[gp t (p2 t) (.inl (t.length:Int)) (.inr false) (Nat.lt_of_lt_of_le hB hN)]
          · simp only[RK,B4 hN hB,o8];cases allI (p2 t) 0 t<;>rfl
          · intro k r hy hk;obtain⟨n,hn⟩:=K3 hN hl hg hy;simp only[ei hk,RM];rw[hn];simp only[dM,hy,RK,eB (Nat.lt_trans hk hB)];unfold p2;cases hlv:r.RC
            · rfl
            · simp only[RM,RK,if_true,RO];cases(fD t 5 (k:Int) != 0)<;>rfl
          · simp only[ep,RL]
      · intro k r hy hk;simp only[ei hk,RM,dM,hy,RK,o8,vj,gv,eB (Nat.lt_trans hk hB)];unfold p1;rw[show dj.mk false 0 (de.mk 0 0 0)=kh from rfl];cases hin:dv r.RE 0 4
        · cases r.RC<;>cases decide (r=kh)<;>cases dP r.dO<;>cases decide ((k:Int)>0)<;>rfl
        · rw[BB hin (by omega) (show(4:Int)<(t.length:Int) by omega)];simp only[RK];cases r.RC<;>cases decide (r=kh)<;>cases dP r.dO<;>cases decide ((k:Int)>0)<;>cases(r.RE==(k:Int))<;>cases(nth t r.RE).RC<;>rfl
      · simp only[ep,RL]
    · rfl
  · rfl
end Go.Kx
