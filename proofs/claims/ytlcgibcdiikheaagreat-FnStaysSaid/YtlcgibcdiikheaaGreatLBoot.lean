import Derived.Test.YtlcgibcdiikheaaGreatHa
namespace Go.Kx
open Go
open Go.IntKind (i64)
set_option linter.unusedVariables false
set_option linter.unusedSimpArgs false
set_option maxRecDepth 10000
theorem mh (p q:Bool):(bif p then some q else some false)=some (p&&q):=by cases p<;>rfl
theorem lM (p q:Bool):(bif p then some true else some q)=some (p || q):=by cases p<;>rfl
def ic (a b c:Int):Bool:=decide (b≤a)&&decide (a≤c)
theorem ir {a b c:Int}:ic a b c=true ↔ b≤a∧a≤c:=by simp [ic]
theorem mF (N:Nat) (a b c:Int):iL N a b c=some (ic a b c):=mh _ _
theorem qg (N:Nat) (a b c:Int):jm N a b c=some (ic a b c):=mh _ _
def wM (n:Int):Bool:=ic n 0 1000000
theorem P5 (N:Nat) (a:Int):sj N a=some (wM a):=by unfold sj;rw [mF];rfl
theorem I5 (N:Nat) (a:Int):oO N a=some (wM a):=by unfold oO;rw [qg];rfl
def iC (a:gT):Bool:=wM a.bh&&(wM a.gS&&wM a.gW)
theorem rh (N:Nat) (a:gT):lq N a=some (iC a):=by unfold lq;simp only [P5,Q8,mh];rfl
theorem um (N:Nat) (a:gT):mz N a=some (iC a):=by unfold mz;simp only [I5,Q8,mh];rfl
def iD (a b:gT):gT:=gT.mk (i64.wrap (a.bh+b.bh)) (i64.wrap (a.gS+b.gS)) (i64.wrap (a.gW+b.gW))
def kz (a b:gT):gT×Bool:=if iC a&&iC b&&iC (iD a b) then (iD a b,true) else (a,false)
theorem xe (N:Nat) (a b:gT):nM N a b=some (kz a b):=by
  unfold nM kz;simp only [rh,Q8,lM]
  show (bif (!iC a || !iC b) then some (a,false) else (bif !iC (iD a b) then some (a,false) else some (iD a b,true)))=_
  cases iC a<;>cases iC b<;>cases iC (iD a b)<;>rfl
theorem wo (N:Nat) (a b:gT):ox N a b=some (iD a b):=rfl
def jE (l:kj):Bool:=((l.so.length:Int)==4)&&l.so.all fun y=>ic y 0 3
theorem xF {l:kj}:jE l=true ↔ l.so.length=4∧∀ y,y ∈ l.so→0≤y∧y≤3:=by
  simp only [jE,Rg,List.all_eq_true,ir,beq_iff_eq];constructor
  · rintro ⟨h1,h2⟩;exact ⟨by omega,h2⟩
  · rintro ⟨h1,h2⟩;exact ⟨by omega,h2⟩
theorem vR {N:Nat} (hN:gX≤N) {l:kj} (hb:l.so.length<gX):nO N l=some (jE l):=by
  unfold nO jE;rw [kv l.so (fun _ y=>ic y 0 3) (.inl (l.so.length:Int)) (.inr false) (Nat.lt_of_lt_of_le hb hN),lr]
  · cases h:((l.so.length:Int)==4)
    · have:((l.so.length:Int) != 4)=true:=by simp [bne,h]
      simp [this]
    · have:((l.so.length:Int) != 4)=false:=by simp [bne,h]
      simp only [this,Q9,Q8,Re];cases l.so.all fun y=>ic y 0 3<;>rfl
  · intro k y hy hk;simp only [iX hk,Rb,iE,hy,Q8,mF,iZ (Nat.lt_trans hk hb)];cases ic y 0 3<;>rfl
  · simp only [iW,Q9]
theorem Kt {N:Nat} (hN:gX≤N) {l:kj} (hb:l.so.length<gX):tw N l=some (jE l):=by
  unfold tw jE;rw [kv l.so (fun _ y=>ic y 0 3) (.inl (l.so.length:Int)) (.inr false) (Nat.lt_of_lt_of_le hb hN),lr]
  · simp only [Q8];cases l.so.all fun y=>ic y 0 3<;>simp
  · intro k y hy hk;simp only [iX hk,Rb,iE,hy,Q8,qg,iZ (Nat.lt_trans hk hb)];cases ic y 0 3<;>rfl
  · simp only [iW,Q9]
def wN (l:List Int) (k:Nat) (y:Int):Bool:=ic y 0 3&&match k with
  | 0=>true
  | j+1=>!decide (y≤(l[j]?).getD 0)
def mJ (l:List Int):Bool:=allI (wN l) 0 l
theorem Hv {l:List Int} {k:Nat} {y:Int} (hy:l[k]?=some y) (hk:k<l.length) (hb:l.length<gX) {N:Nat} :
    (bif (!(ic y 0 3)) then (some true) else (bif (decide ((k:Int) > 0)) then ((idx l (i64.wrap ((k:Int) - 1))).bind fun y18=>some (decide (y≤y18))) else (some false)):Option Bool)=some (!wN l k y):=by
  have hB:l.length<16777216:=hb;unfold wN
  cases k with
  | zero =>
    have:decide (((0:Nat):Int) > 0)=false:=by decide
    simp only [this,Q9];cases ic y 0 3<;>rfl
  | succ j =>
    have:decide (((j+1:Nat):Int) > 0)=true:=by simp
    have e:i64.wrap (((j+1:Nat):Int) - 1)=(j:Int):=by rw [ig (by omega) (by omega)];omega
    have hz:l[j]?=some (l[j]'(by omega)):=List.getElem?_eq_getElem _;simp only [this,Rb,e,iE,hz,Q8,Option.getD_some];cases ic y 0 3<;>simp
theorem zO {N:Nat} (hN:gX≤N) {l:List Int} (hb:l.length<gX):qq N l=some (mJ l):=by
  unfold qq mJ;rw [kv l (wN l) (.inl (l.length:Int)) (.inr false) (Nat.lt_of_lt_of_le hb hN)]
  · simp only [Q8];cases allI (wN l) 0 l<;>rfl
  · intro k y hy hk;simp only [iX hk,Rb,iE,hy,Q8,mF,iZ (Nat.lt_trans hk hb)];rw [Hv hy hk hb (N:=N)];cases wN l k y<;>rfl
  · simp only [iW,Q9]
theorem NY {N:Nat} (hN:gX≤N) {l:List Int} (hb:l.length<gX):vH N l=some (mJ l):=by
  unfold vH mJ;rw [kv l (wN l) (.inl (l.length:Int)) (.inr false) (Nat.lt_of_lt_of_le hb hN)]
  · simp only [Q8];cases allI (wN l) 0 l<;>rfl
  · intro k y hy hk;simp only [iX hk,Rb,iE,hy,Q8,qg,iZ (Nat.lt_trans hk hb),ge_iff_le];rw [Hv hy hk hb (N:=N)];cases wN l k y<;>rfl
  · simp only [iW,Q9]
theorem NV {N:Nat} (hN:gX≤N) {l:List Int} {x:Int} (hb:l.length<gX):∃ r,qQ N l x=some r∧decide (r ≥ 0)=l.contains x:=by
  unfold qQ;have hB:l.length<16777216:=hb;rw [show (0:Int)=(fun (k:Nat) (_:Unit)=>(k:Int)) 0 () from rfl,nP l (fun k (_:Unit)=>(k:Int)) (fun k _ y=>if x==y then .inr (.inr (k:Int)) else .inl ()) (fun _=>.inl (l.length:Int)) (fun _ _=>True) ?_ ?_ (Nat.lt_of_lt_of_le hb hN) trivial]
  · simp only [Q8]
    have key:∀ (m:List Int) (k:Nat), ∃ r,Sum.elim (fun _=>some (-1)) (fun r16=>some r16) (mO (ρ:=Int⊕Int) (fun (k:Nat) (_:Unit) y=>if x==y then .inr (.inr (k:Int)) else .inl ()) (fun _=>.inl (l.length:Int)) k () m)=some r∧decide (r ≥ 0)=m.contains x:=by
      intro m
      induction m with
      | nil=>intro k;exact ⟨-1,rfl,rfl⟩
      | cons y m ih =>
        intro k;cases hxy:(x==y)
        · obtain ⟨r,h1,h2⟩:=ih (k+1)
          have hne:x ≠ y:=by simpa using hxy
          refine ⟨r,by simpa [mO,hxy] using h1,by rw [h2];simp [List.contains_cons,hne]⟩
        · have he:x=y:=by simpa using hxy
          exact ⟨k,by simp [mO,hxy],by simp [List.contains_cons,he]⟩
    exact key l 0
  · intro k _ y hy hk _;simp only [iX hk,Rb,iE,hy,Q8,iZ (Nat.lt_trans hk hb)];cases (x==y)<;>simp
  · intro _ _;simp only [iW,Q9]
theorem yr {N:Nat} (hN:gX≤N) {l:List Int} {x:Int} (hb:l.length<gX):mN N l x=some (l.contains x):=by
  unfold mN;obtain ⟨r,h1,h2⟩:=NV hN hb (x:=x);rw [h1,Q8,h2]
def vr (own:List Int) (a b:kj):Bool:=mJ own&&(jE a&&(jE b&&allI (fun k y=>!decide (y > (b.so[k]?).getD 0) || own.contains (k:Int)) 0 a.so))
theorem Oi {α ρ:Type} {body:Int→Option (Int⊕ρ)} (x:List α) (h4:x.length=4) (p:Nat→α→Bool) (r r':ρ) {N:Nat} (hN:gX≤N)
    (hs:∀ (k:Nat) (y:α),x[k]?=some y→k<4→decide ((k:Int)<4)=true→body (k:Int)=some (if p k y then .inl ((k+1:Nat):Int) else .inr r')) (he:body 4=some (.inr r)):iter body N 0=some (if allI p 0 x then r else r') :=
  kv x p r r' (by have:16777216≤N:=hN;omega) (fun k y hy hk=>hs k y hy (by omega) (by simp;omega)) (by rw [h4];exact he)
def pR:gT→List iO→Bool
  | _,[]=>true
  | a,b::l=>(kz a b.jq).2&&(jE b.QQ&&(mJ b.own&&pR (kz a b.jq).1 l))
def mH (l:List iO):Bool:=pR ⟨0,0,0⟩ l&&ic (l.length:Int) 1 3
theorem BN (e:Int) (g:Nat→gT→iO→gT⊕((Int×Int×Int×Int)⊕Bool)) (fin:gT→((Int×Int×Int×Int)⊕Bool)) (k:Option Bool)
    (hg:∀ k t y,g k t y=if (kz t y.jq).2&&(jE y.QQ&&mJ y.own) then .inl (kz t y.jq).1 else .inr (.inr false)) (hf:∀ t, ∃ v,fin t=.inl v) :
    ∀ (l:List iO) (j:Nat) (t:gT),Sum.elim (fun _=>k) (fun r=>some r) (mO g fin j t l)=bif pR t l then k else some false
  | [],j,t=>by obtain ⟨v,hv⟩:=hf t;simp [mO,pR,hv]
  | b::l,j,t=>by
    have ih:=BN e g fin k hg hf l (j+1);simp only [mO,pR,hg];cases (kz t b.jq).2
    · rfl
    cases jE b.QQ
    · rfl
    cases mJ b.own
    · rfl
    simpa using ih _
theorem OU {l:List iO} {y:iO} (hb:iY jI l<gX) (hy:y ∈ l):y.QQ.so.length<gX∧y.own.length<gX:=by
  have:=kn hb hy;unfold jI lQ at this;omega
theorem Ei {N:Nat} (hN:gX≤N) {l:List iO} (hb:iY jI l<gX):sx N l=some (mH l):=by
  have hl:=lN hb;have hN':16777216≤N:=hN;have hlB:l.length<16777216:=hl;unfold sx mH
  rw [show ((0:Int),(0:Int),(0:Int),(0:Int))=(fun (k:Nat) (t:gT)=>((k:Int),t.bh,t.gS,t.gW)) 0 ⟨0,0,0⟩ from rfl,
    nP (l.take 3) (fun (k:Nat) (t:gT)=>((k:Int),t.bh,t.gS,t.gW)) (fun k t y=>if (kz t y.jq).2&&(jE y.QQ&&mJ y.own) then .inl (kz t y.jq).1 else .inr (.inr false)) (fun t=>.inl (((l.take 3).length:Int),t.bh,t.gS,t.gW)) (fun _ _=>True) ?_ ?_ (by simp;omega) trivial]
  · simp only [Q8,mF];rw [BN 0 _ _ _ (fun _ _ _=>rfl) (fun t=>⟨_,rfl⟩),mh]
    rcases Nat.lt_or_ge 3 l.length with h | h
    · have:ic (l.length:Int) 1 3=false:=by simp [ic];omega
      simp [this]
    · rw [List.take_of_length_le h]
  · intro k t y hy hk _
    have hk2:k<3∧k<l.length:=by simp at hk;omega
    rw [List.getElem?_take_of_lt hk2.1] at hy;obtain ⟨b1,b2⟩:=OU hb (List.mem_of_getElem? hy);refine ⟨?_,fun _ _=>trivial⟩
    have h3:decide ((k:Int)<3)=true:=by simp;omega
    simp only [iX hk2.2,h3,Rb,iE,hy,Q8,xe,vR hN b1,zO hN b2,lM,iZ (show k<gX from Nat.lt_trans hk2.1 (by decide))];cases h1:(kz t y.jq).2
    · cases jE y.QQ<;>cases mJ y.own<;>rfl
    cases jE y.QQ
    · rfl
    cases mJ y.own<;>rfl
  · intro t _;simp only [List.length_take]
    rcases Nat.lt_or_ge 3 l.length with h | h
    · have e:min 3 l.length=3:=by omega
      have h3:decide (((3:Nat):Int)<(l.length:Int))=true:=by simp;omega
      simp only [e,h3,Rb];rfl
    · have e:min 3 l.length=l.length:=by omega
      simp only [e,iW,Q9,Q8]
def uC (l:List iO):gT:=if mH l then l.foldl (fun a b=>iD a b.jq) ⟨0,0,0⟩ else ⟨0,0,0⟩
theorem Av:∀ (l:List iO) (a:gT),pR a l=true→l.foldl (fun a b=>(kz a b.jq).1) a=l.foldl (fun a b=>iD a b.jq) a
  | [],_,_=>rfl
  | b::l,a,h=>by
    simp only [pR,Rg] at h;obtain ⟨h1,_,_,h4⟩:=h
    have e:(kz a b.jq).1=iD a b.jq:=by
      unfold kz at h1 ⊢;split<;>simp_all
    rw [List.foldl_cons,List.foldl_cons,e];rw [e] at h4;exact Av l _ h4
end Go.Kx
namespace Go.Kx
open Go
open Go.IntKind (i64)
set_option linter.unusedVariables false
set_option linter.unusedSimpArgs false
set_option maxRecDepth 10000
theorem Am {N:Nat} (hN:gX≤N) {a b:List Int} (ha:a.length<gX):qU N a b=some (decide (a=b)):=Hc a b (· != ·) (by intro y z;by_cases h:y=z<;>simp [h]) ha hN
theorem Ga {N:Nat} (hN:gX≤N) {a b:List jw} (ha:a.length<gX):ua N a b=some (decide (a=b)):=Hc a b (fun y z=>!decide (y=z)) (fun _ _=>rfl) ha hN
theorem Br {o:gE} (h:ib o<gX):o.gZ.length<gX∧o.QV.length<gX∧o.QU.length<gX:=by unfold ib at h;omega
theorem JQ {N:Nat} (hN:gX≤N) {a b:gE} (ha:ib a<gX):tU N a b=some (decide (a=b)):=by
  obtain ⟨h1,h2,h3⟩:=Br ha;unfold tU;simp only [Am hN h1,Am hN h2,Ga hN h3,Q8,mh];congr 1;rw [Bool.eq_iff_iff];cases a;cases b;simp [gE.mk.injEq]
theorem kC {p:cd} (h:ij p<gX):p.QQ.so.length<gX∧p.own.length<gX∧p.QR.length<gX∧iY ib p.heap.ag<gX∧p.heap.gc.gQ.length<gX∧p.gR.length<gX:=by
  unfold ij my rR lQ at h;omega
end Go.Kx
namespace Go.Kx
open Go
open Go.IntKind (i64)
set_option linter.unusedVariables false
set_option linter.unusedSimpArgs false
set_option maxRecDepth 10000
theorem km {α:Type} {l:List α} (h:l.length<gX):app ([]:List α) l=some l:=by
  unfold app;rw [if_pos (by simpa using h)];rfl
theorem uX {N:Nat} {l:List Int} (h:l.length<gX):m7 N l=some l:=by unfold m7;rw [km h];rfl
theorem Gl {N:Nat} {l:kj} (h:l.so.length<gX):qM N l=some l:=by unfold qM;rw [uX h];rfl
theorem we {N:Nat} {l:List g6} (h:l.length<gX):nS N l=some l:=by unfold nS;rw [km h];rfl
theorem pM {N:Nat} {l:List g6} (h:l.length<gX):lU N l=some l:=by unfold lU;rw [km h];rfl
theorem JI {N:Nat} {o:gE} (h:ib o<gX):tm N o=some o:=by
  obtain ⟨h1,h2,h3⟩:=Br h;unfold tm;simp only [uX h1,uX h2,km h3,Q8]
theorem Hh {N:Nat} {o:gE} (h:ib o<gX):uk N o=some o:=by
  obtain ⟨h1,h2,h3⟩:=Br h;unfold uk;simp only [km h1,km h2,km h3,Q8]
theorem Ae {N:Nat} (hN:gX≤N) {l:List gE} (hb:iY ib l<gX):oV N l=some l:=by
  have hl:=lN hb;unfold oV;rw [pc l (fun _ _=>true) (fun _ y=>y) hl hN,pY (fun _=>true)]
  · simp
  · intro k t y hy hk ht;simp only [iX hk,Rb,iE,hy,Q8,JI (kn hb (List.mem_of_getElem? hy)),iZ (Nat.lt_trans hk hl),kX ht (Nat.lt_of_le_of_lt hk hl)];rfl
  · intro t;simp only [iW,Q9]
theorem AJ {N:Nat} (hN:gX≤N) {l:List gE} (hb:iY ib l<gX):pf N l=some l:=by
  have hl:=lN hb;unfold pf;rw [pc l (fun _ _=>true) (fun _ y=>y) hl hN,pY (fun _=>true)]
  · simp
  · intro k t y hy hk ht;simp only [iX hk,Rb,iE,hy,Q8,Hh (kn hb (List.mem_of_getElem? hy)),iZ (Nat.lt_trans hk hl),kX ht (Nat.lt_of_le_of_lt hk hl)];rfl
  · intro t;simp only [iW,Q9]
theorem Bs {N:Nat} (hN:gX≤N) {h:gV} (h1:iY ib h.ag<gX) (h2:h.gc.gQ.length<gX):qb N h=some h:=by
  unfold qb;simp only [Ae hN h1,uX h2,Q8]
theorem xo {N:Nat} (hN:gX≤N) {h:gV} (h1:iY ib h.ag<gX) (h2:h.gc.gQ.length<gX):oC N h=some h:=by
  unfold oC;simp only [AJ hN h1,km h2,Q8]
theorem vc {N:Nat} (hN:gX≤N) {p:cd} (h:ij p<gX):m6 N p=some p:=by
  obtain ⟨h1,h2,h3,h4,h5,h6⟩:=kC h;unfold m6;simp only [Gl h1,uX h2,we h3,Bs hN h4 h5,km h6,Q8]
theorem sc {N:Nat} (hN:gX≤N) {p:cd} (h:ij p<gX):mC N p=some p:=by
  obtain ⟨h1,h2,h3,h4,h5,h6⟩:=kC h;unfold mC;simp only [km h1,km h2,pM h3,xo hN h4 h5,km h6,Q8]
theorem yd {α:Type} {l:List α} {k:Nat} (h:k≤l.length):sub l 0 (k:Int)=some (l.take k):=by
  unfold sub;rw [if_pos ⟨Int.le_refl _,by omega,by omega⟩];simp
theorem CO {α:Type} (f:α→Nat):∀ (l:List α) (k:Nat),oU f (l.take k)≤oU f l
  | [],k=>by simp
  | y::l,0=>Nat.zero_le _
  | y::l,k+1=>by
    have:=CO f l k;simp only [List.take_succ_cons,oU];omega
theorem Ln {α:Type} (f:α→Nat) (l:List α) (k:Nat):iY f (l.take k)≤iY f l:=by
  have:=CO f l k;unfold iY;simp only [List.length_take];omega
end Go.Kx
namespace Go.Kx
open Go
open Go.IntKind (i64)
set_option linter.unusedVariables false
set_option linter.unusedSimpArgs false
set_option maxRecDepth 10000
theorem xX {σ ρ:Type} {body:σ→Option (σ⊕ρ)} (I:σ→Prop) (J:ρ→Prop) (μ:σ→Nat)
    (h:∀ s,I s→∃ o,body s=some o∧(∀ s',o=.inl s'→I s'∧μ s'<μ s)∧∀ r,o=.inr r→J r):∀ (N:Nat) (s:σ),I s→μ s<N→∃ r,iter body N s=some r∧J r
  | 0,_,_,hN=>absurd hN (Nat.not_lt_zero _)
  | N+1,s,hI,hN=>by
    obtain ⟨o,ho,h1,h2⟩:=h s hI
    cases o with
    | inl s' =>
      obtain ⟨hI',hm⟩:=h1 s' rfl;obtain ⟨r,hr,hJ⟩:=xX I J μ h N s' hI' (by omega);exact ⟨r,by show (body s).bind _=_;rw [ho];exact hr,hJ⟩
    | inr r=>exact ⟨r,by show (body s).bind _=_;rw [ho];rfl,h2 r rfl⟩
theorem zp {α:Type} {l:List α} {i:Int} (h0:0≤i) (h1:i<(l.length:Int)):∃ y,idx l i=some y∧y ∈ l:=by
  have hz:l[i.toNat]?=some (l[i.toNat]'(by omega)):=List.getElem?_eq_getElem _;exact ⟨_,by unfold idx;rw [if_pos h0,hz],List.getElem_mem _⟩
theorem G9 (a:Int) {m:Int} (h0:0≤m) (h1:m≤2147483647):0≤yP a m∧yP a m≤m:=by
  have h:(BitVec.ofInt IntKind.i64.bits a &&& BitVec.ofInt IntKind.i64.bits m).toNat≤m.toNat:=by
    rw [BitVec.toNat_and];refine Nat.le_trans Nat.and_le_right ?_;rw [BitVec.toNat_ofInt]
    show (m % ((2 ^ 64:Nat):Int)).toNat≤m.toNat
    rw [Int.emod_eq_of_lt h0 (by omega)];exact Nat.le_refl _
  unfold yP;rw [ig (by omega) (by omega)];omega
def Cu (c:im):Prop:=c.b.length≤1048576∧0≤c.i
theorem Cu.to {c:im} (hc:Cu c) {i h:Int} (hi:0≤i):Cu ⟨c.b,i,h⟩:=⟨hc.1,hi⟩
theorem Pz {N:Nat} (hN:gX≤N) {l:List U8} (hl:l.length≤1048576):∃ h,ug N l=some ⟨l,0,h⟩:=by
  unfold ug;have hB:(16777216:Nat)≤N:=hN
  obtain ⟨r,hr,_⟩:=xX (body:=fun (s1:Int×Int)=>((bif (decide (s1.2<(l.length:Int))) then (some (decide (s1.2<4000))) else (some false):Option Bool).bind fun j3=>bif j3 then ((idx l s1.2).bind fun y8=>some (.inl (yP (i64.wrap ((i64.wrap ((i64.wrap (s1.1 * 131))+(i64.wrap y8.v)))+7)) 1073741823,i64.wrap (s1.2+1)))) else (some (.inr (s1.1,s1.2))):Option ((Int×Int)⊕(Int×Int))))
    (fun s=>0≤s.2∧s.2≤(l.length:Int)) (fun _=>True) (fun s=>((l.length:Int) - s.2).toNat) (by
      rintro ⟨h,i⟩ ⟨h0,h1⟩;simp only at h0 h1
      cases hlt:decide (i<(l.length:Int)) with
      | false=>exact ⟨_,by simp only [hlt,Q9,Q8];rfl,by simp,fun _ _=>trivial⟩
      | true =>
        have h2:=of_decide_eq_true hlt
        cases h4:decide (i<4000) with
        | false=>exact ⟨_,by simp only [hlt,h4,Q9,Rb,Q8];rfl,by simp,fun _ _=>trivial⟩
        | true =>
          obtain ⟨y,hy,_⟩:=zp h0 h2;refine ⟨_,by simp only [hlt,h4,hy,Rb,Q8];rfl,?_,by simp⟩;rintro s' hs;cases Sum.inl.inj hs;simp only;rw [ig (by omega) (by omega)]
          omega) N (i64.wrap (10101+(l.length:Int)),0) ⟨Int.le_refl _,by simp⟩ (by simp only;omega)
  rw [hr];exact ⟨r.1,rfl⟩
theorem zj {N:Nat} {c:im} (hc:Cu c):∃ x i h,oo N c=some (x,⟨c.b,i,h⟩)∧0≤i∧0≤x∧x≤255:=by
  unfold oo;obtain ⟨hb,hi⟩:=hc
  cases hlt:decide (c.i<(c.b.length:Int)) with
  | true =>
    have h1:=of_decide_eq_true hlt;obtain ⟨y,hy,_⟩:=zp hi h1;simp only [hy,Rb,Q8];exact ⟨_,_,_,rfl,by rw [ig (by omega) (by omega)];omega,G9 _ (by decide) (by decide)⟩
  | false=>exact ⟨_,_,_,rfl,hi,G9 _ (by decide) (by decide)⟩
theorem E8 {a n:Int} (ha:0≤a) (hn:0<n):0≤Int.tmod a n∧Int.tmod a n<n:=by
  rw [Int.tmod_eq_emod_of_nonneg ha];exact ⟨Int.emod_nonneg _ (by omega),Int.emod_lt_of_pos _ hn⟩
theorem My {n:Int} (h:n ≠ 0):dz n=some ():=by unfold dz;rw [if_neg h]
theorem uB {N:Nat} {c:im} (hc:Cu c) (n:Int):∃ x i h,iz N c n=some (x,⟨c.b,i,h⟩)∧0≤i∧0≤x∧(0<n→x<n)∧(n≤0→x=0):=by
  unfold iz
  cases h0:decide (n≤0) with
  | true=>exact ⟨0,c.i,c.h,rfl,hc.2,Int.le_refl _,fun h=>h,fun _=>rfl⟩
  | false =>
    have hn:=of_decide_eq_false h0;simp only [Q9]
    cases h1:decide (n≤256) with
    | true =>
      obtain ⟨x,i,h,e,hi,hx,_⟩:=zj (N:=N) hc;simp only [Rb,e,Q8,My (show n ≠ 0 by omega)];obtain ⟨q1,q2⟩:=E8 hx (show 0<n by omega);exact ⟨_,i,h,rfl,hi,q1,fun _=>q2,fun h=>by omega⟩
    | false =>
      obtain ⟨x1,i1,h1,e1,hi1,hx1,hy1⟩:=zj (N:=N) hc;obtain ⟨x2,i2,h2,e2,hi2,hx2,hy2⟩:=zj (N:=N) (hc.to (h:=h1) hi1);obtain ⟨x3,i3,h3,e3,hi3,hx3,hy3⟩:=zj (N:=N) (hc.to (h:=h2) hi2);obtain ⟨x4,i4,h4,e4,hi4,hx4,hy4⟩:=zj (N:=N) (hc.to (h:=h3) hi3);simp only [Q9,e1,e2,e3,e4,Q8,My (show n ≠ 0 by omega)]
      rw [ig (n:=x1 * 16777216) (by omega) (by omega),ig (n:=x2 * 65536) (by omega) (by omega),ig (n:=x3 * 256) (by omega) (by omega),
        ig (n:=x1 * 16777216+x2 * 65536) (by omega) (by omega),ig (n:=x1 * 16777216+x2 * 65536+x3 * 256) (by omega) (by omega),ig (n:=x1 * 16777216+x2 * 65536+x3 * 256+x4) (by omega) (by omega)]
      obtain ⟨q1,q2⟩:=E8 (show 0≤x1 * 16777216+x2 * 65536+x3 * 256+x4 by omega) (show 0<n by omega);exact ⟨_,i4,h4,rfl,hi4,q1,fun _=>q2,fun h=>by omega⟩
theorem DT {N:Nat} {c:im} (hc:Cu c) (n:Int):∃ x i h,ks N c n=some (x,⟨c.b,i,h⟩)∧0≤i:=by
  unfold ks;obtain ⟨x,i,h,e,hi,_⟩:=uB (N:=N) hc n;simp only [e,Q8];exact ⟨_,i,h,rfl,hi⟩
theorem yV {N:Nat} {c:im} (hc:Cu c) {l:List Int} (hl:0<l.length):∃ x i h,ku N c l=some (x,⟨c.b,i,h⟩)∧0≤i∧x ∈ l:=by
  unfold ku;obtain ⟨x,i,h,e,hi,hx,hy,_⟩:=uB (N:=N) hc (l.length:Int);obtain ⟨y,hy,hm⟩:=zp hx (hy (by omega));simp only [e,Q8,hy];exact ⟨_,i,h,rfl,hi,hm⟩
theorem yh {α:Type} {t:List α} {z:α} (h:t.length≤1000000):app t [z]=some (t++[z]):=by
  have:(16777216:Nat)=gX:=rfl;unfold app;rw [if_pos (by simp only [List.length_cons,List.length_nil];omega)]
theorem HD {N:Nat} (hN:gX≤N) {c:im} (hc:Cu c):∃ x i h,pH N c=some (x,⟨c.b,i,h⟩)∧0≤i∧x.so.length=4∧∀ y,y ∈ x.so→0≤y∧y≤3:=by
  unfold pH;have hB:(16777216:Nat)≤N:=hN
  obtain ⟨r,hr,hJ⟩:=xX (body:=fun (s6:Int×Int×Int×(List Int))=>(bif (decide (s6.1<4)) then ((iz N (im.mk c.b s6.2.1 s6.2.2.1) 4).bind fun y9=>(app s6.2.2.2 ([y9.1]:List Int)).bind fun y16=>some (.inl (i64.wrap (s6.1+1),y9.2.i,y9.2.h,y16))) else (some (.inr (s6.1,s6.2.1,s6.2.2.1,s6.2.2.2))):Option ((Int×Int×Int×(List Int))⊕(Int×Int×Int×(List Int)))))
    (fun s=>0≤s.1∧s.1≤4∧0≤s.2.1∧(s.2.2.2.length:Int)=s.1∧∀ y,y ∈ s.2.2.2→0≤y∧y≤3) (fun s=>0≤s.2.1∧s.2.2.2.length=4∧∀ y,y ∈ s.2.2.2→0≤y∧y≤3) (fun s=>(4 - s.1).toNat) (by
      rintro ⟨k,i,h,l⟩ ⟨h0,h1,h2,h3,h4⟩;simp only at h0 h1 h2 h3 h4
      cases hlt:decide (k<4) with
      | false =>
        have:=of_decide_eq_false hlt;refine ⟨_,by simp only [hlt,Q9];rfl,by simp,fun r hr=>?_⟩;cases Sum.inr.inj hr;exact ⟨h2,by simp only;omega,h4⟩
      | true =>
        have:=of_decide_eq_true hlt;obtain ⟨x,i',h',e,hi,hx,hy,_⟩:=uB (N:=N) (hc.to (h:=h) h2) 4;refine ⟨_,by simp only [hlt,Rb,e,Q8,yh (t:=l) (z:=x) (by omega)];rfl,?_,by simp⟩;rintro s' hs;cases Sum.inl.inj hs;simp only;rw [ig (by omega) (by omega)];refine ⟨⟨by omega,by omega,hi,by simp only [List.length_append,List.length_cons,List.length_nil];omega,fun y hm=>?_⟩,by omega⟩
        rcases List.mem_append.1 hm with hm | hm
        · exact h4 y hm
        · rw [List.mem_singleton] at hm;have:=hy (by omega)
          omega) N (0,c.i,c.h,[]) ⟨Int.le_refl _,by simp,hc.2,rfl,by simp⟩ (by simp only;omega)
  rw [hr];exact ⟨_,_,_,rfl,hJ.1,hJ.2.1,hJ.2.2⟩
theorem Iz {N:Nat} (hN:gX≤N) {c:im} (hc:Cu c):∃ x i h,uj N c=some (x,⟨c.b,i,h⟩)∧0≤i∧x.so.length≤5:=by
  unfold uj;obtain ⟨x,i,h,e,hi,hl,_⟩:=HD hN hc;obtain ⟨x1,i1,h1,e1,hi1,_⟩:=uB (N:=N) (hc.to (h:=h) hi) 14;obtain ⟨x2,i2,h2,e2,hi2,hx2,hy2,_⟩:=uB (N:=N) (hc.to (h:=h1) hi1) 4;have hy2:=hy2 (by decide);obtain ⟨x3,i3,h3,e3,hi3,_⟩:=yV (N:=N) (hc.to (h:=h2) hi2) (l:=[-1,4]) (by decide);simp only [e,e1,Q8];cases x1==0
  · cases x1==1
    · cases x1==2
      · exact ⟨_,i1,h1,rfl,hi1,by simp only;omega⟩
      · simp only [Rb,Q9,yh (t:=x.so) (z:=0) (by omega),Q8];exact ⟨_,i1,h1,rfl,hi1,by simp only [List.length_append,List.length_cons,List.length_nil];omega⟩
    · obtain ⟨y,hy,_⟩:=zp (l:=x.so) hx2 (by omega);simp only [Rb,Q9,e2,e3,hy,Q8];exact ⟨_,i3,h3,rfl,hi3,by simp only [List.length_set];omega⟩
  · have hs:sub x.so 0 x2=some ((x.so.drop (0:Int).toNat).take (x2.toNat - (0:Int).toNat)):=by unfold sub;rw [if_pos ⟨Int.le_refl _,hx2,by omega⟩]
    simp only [Rb,e2,hs,Q8];exact ⟨_,i2,h2,rfl,hi2,by simp only [List.length_take,List.length_drop];omega⟩
theorem Py {N:Nat} (hN:gX≤N) {c:im} (hc:Cu c):∃ x i h,uI N c=some (x,⟨c.b,i,h⟩)∧0≤i∧x.length≤5:=by
  unfold uI;have hB:(16777216:Nat)≤N:=hN
  obtain ⟨r,hr,hJ⟩:=xX (body:=fun (s4:(List Int)×Int×Int×Int)=>(bif (decide (s4.2.1<4)) then ((ks N (im.mk c.b s4.2.2.1 s4.2.2.2) 3).bind fun y7=>bif y7.1 then ((app s4.1 [s4.2.1]).bind fun y14=>some (.inl (y14,i64.wrap (s4.2.1+1),y7.2.i,y7.2.h))) else (some (.inl (s4.1,i64.wrap (s4.2.1+1),y7.2.i,y7.2.h)))) else (some (.inr (s4.1,s4.2.1,s4.2.2.1,s4.2.2.2))):Option (((List Int)×Int×Int×Int)⊕((List Int)×Int×Int×Int))))
    (fun s=>0≤s.2.1∧s.2.1≤4∧0≤s.2.2.1∧(s.1.length:Int)≤s.2.1) (fun s=>0≤s.2.2.1∧s.1.length≤4) (fun s=>(4 - s.2.1).toNat) (by
      rintro ⟨l,k,i,h⟩ ⟨h0,h1,h2,h3⟩;simp only at h0 h1 h2 h3
      cases hlt:decide (k<4) with
      | false =>
        have:=of_decide_eq_false hlt;refine ⟨_,by simp only [hlt,Q9];rfl,by simp,fun r hr=>?_⟩;cases Sum.inr.inj hr;exact ⟨h2,by simp only;omega⟩
      | true =>
        have:=of_decide_eq_true hlt;obtain ⟨x,i',h',e,hi⟩:=DT (N:=N) (hc.to (h:=h) h2) 3
        cases x with
        | false =>
          refine ⟨_,by simp only [hlt,Rb,Q9,e,Q8];rfl,?_,by simp⟩;rintro s' hs;cases Sum.inl.inj hs;simp only;rw [ig (by omega) (by omega)];exact ⟨⟨by omega,by omega,hi,by omega⟩,by omega⟩
        | true =>
          refine ⟨_,by simp only [hlt,Rb,e,Q8,yh (t:=l) (z:=k) (by omega)];rfl,?_,by simp⟩;rintro s' hs;cases Sum.inl.inj hs;simp only;rw [ig (by omega) (by omega)]
          exact ⟨⟨by omega,by omega,hi,by simp only [List.length_append,List.length_cons,List.length_nil];omega⟩,by omega⟩) N ([],0,c.i,c.h) ⟨Int.le_refl _,by simp,hc.2,by simp⟩ (by simp only;omega)
  rw [hr];obtain ⟨j1,j2⟩:=hJ;obtain ⟨x1,i1,h1,e1,hi1,_⟩:=uB (N:=N) (hc.to (h:=r.2.2.2) j1) 20;simp only [e1,Q8,yh (t:=r.1) (z:=(4:Int)) (by omega),yh (t:=r.1) (z:=(0:Int)) (by omega)];cases x1==0
  · cases x1==1
    · exact ⟨_,i1,h1,rfl,hi1,by omega⟩
    · exact ⟨_,i1,h1,rfl,hi1,by simp only [List.length_append,List.length_cons,List.length_nil];omega⟩
  · exact ⟨_,i1,h1,rfl,hi1,by simp only [List.length_append,List.length_cons,List.length_nil];omega⟩
theorem H6 {N:Nat} {c:im} (hc:Cu c):∃ x i h,rJ N c=some (x,⟨c.b,i,h⟩)∧0≤i:=by
  unfold rJ;obtain ⟨x,i,h,e,hi⟩:=DT (N:=N) hc 20;simp only [e,Q8];cases x
  · obtain ⟨x1,i1,h1,e1,hi1,_⟩:=uB (N:=N) (hc.to (h:=h) hi) 60;simp only [Q9,e1,Q8];exact ⟨_,i1,h1,rfl,hi1⟩
  · obtain ⟨x1,i1,h1,e1,hi1,_⟩:=yV (N:=N) (hc.to (h:=h) hi) (l:=[-1,1000000,1000001,999999]) (by decide);simp only [Rb,e1,Q8];exact ⟨_,i1,h1,rfl,hi1⟩
theorem PQ {N:Nat} {c:im} (hc:Cu c):∃ x i h,uh N c=some (x,⟨c.b,i,h⟩)∧0≤i:=by
  unfold uh;obtain ⟨x1,i1,h1,e1,hi1⟩:=H6 (N:=N) hc;obtain ⟨x2,i2,h2,e2,hi2⟩:=H6 (N:=N) (hc.to (h:=h1) hi1);obtain ⟨x3,i3,h3,e3,hi3⟩:=H6 (N:=N) (hc.to (h:=h2) hi2);simp only [e1,e2,e3,Q8];exact ⟨_,i3,h3,rfl,hi3⟩
end Go.Kx
namespace Go.Kx
open Go
open Go.IntKind (i64)
set_option linter.unusedVariables false
set_option linter.unusedSimpArgs false
set_option maxRecDepth 10000
def nth {α:Type} [ia α] (l:List α) (i:Int):α:=(l[i.toNat]?).getD ia.zero
theorem jh {α:Type} [ia α] {l:List α} {i:Int} (h0:0≤i) (h1:i<(l.length:Int)):idx l i=some (nth l i):=by
  have hz:l[i.toNat]?=some (l[i.toNat]'(by omega)):=List.getElem?_eq_getElem _;unfold idx nth;rw [if_pos h0,hz];rfl
theorem Be {α:Type} [ia α] {l:List α} {i a b:Int} (h:ic i a b=true) (ha:0≤a) (hb:b<(l.length:Int)):idx l i=some (nth l i):=by
  rw [ir] at h;exact jh (by omega) (by omega)
theorem qk {α:Type} [ia α] {l:List α} {k:Nat} {y:α} (h:l[k]?=some y):nth l (k:Int)=y:=by simp [nth,h]
theorem j7 {α:Type} [ia α] {l:List α} {i:Int} (h0:0≤i) (h1:i<(l.length:Int)):nth l i ∈ l:=by
  have hz:l[i.toNat]?=some (l[i.toNat]'(by omega)):=List.getElem?_eq_getElem _;unfold nth;rw [hz];exact List.getElem_mem _
theorem xw {α:Type} {l:List α} {n:Nat} (h:((l.length:Int) != (n:Int))=false):l.length=n:=by simp at h;omega
theorem yH (N:Nat) (a:Int):oz N a=some (ic a 0 4):=by unfold oz;rw [qg];rfl
theorem wq (N:Nat) (a:Int):mP N a=some (ic a 0 4):=by unfold mP;rw [mF];rfl
def iH (t:List g6) (i:Int):Bool:=ic i 0 4&&(nth t i).Q2
def up (t:List g6) (i:Int):Int:=(nth t i).Q4
def leads (t:List g6):Nat→Int→Bool
  | 0,_=>false
  | n+1,i=>(i==0) || (iH t i&&leads t n (up t i))
def jR (t:List g6):Nat→Int→Int
  | 0,a=>a
  | n+1,a=>if a > 0 then jR t n (up t a) else a
theorem wF (N:Nat) {t:List g6} (h:t.length=5) (i:Int):oq N t i=some (iH t i):=by
  unfold oq iH;rw [yH,Q8];cases hi:ic i 0 4
  · rfl
  · simp only [Rb,Be hi (by omega) (show (4:Int)<(t.length:Int) by omega),Q8,Re]
theorem P7 {k:Nat} (h:k<(List.replicate 5 ()).length):k<5∧decide ((k:Int)<5)=true:=by
  have h:k<5:=by simpa using h
  exact ⟨h,by simp;omega⟩
theorem OJ {k n:Nat} {N:Nat} (hN:gX≤N) (hn:n<16777216):(List.replicate n ()).length<N:=by
  have:16777216≤N:=hN;simp;omega
theorem JY {N:Nat} (hN:gX≤N) {t:List g6} (h:t.length=5) (i:Int):sZ N t i=some (leads t 5 i):=by
  unfold sZ
  rw [show ((i,0):Int×Int)=(fun (k:Nat) (a:Int)=>(a,(k:Int))) 0 i from rfl,
    nP (List.replicate 5 ()) (fun (k:Nat) (a:Int)=>(a,(k:Int))) (fun _ a _=>if a==0 then .inr (.inr true) else if iH t a then .inl (up t a) else .inr (.inr false)) (fun a=>.inl (a,5)) (fun _ _=>True) ?_ ?_ (OJ (k:=0) hN (by decide)) trivial]
  · have key:∀ (n k:Nat) (a:Int),Sum.elim (fun _=>some false) (fun r20=>some r20) (mO (ρ:=(Int×Int)⊕Bool) (fun (_:Nat) a (_:Unit)=>if a==0 then .inr (.inr true) else if iH t a then .inl (up t a) else .inr (.inr false)) (fun a=>.inl (a,5)) k a (List.replicate n ()))=some (leads t n a):=by
      intro n
      induction n with
      | zero=>intro k a;rfl
      | succ n ih =>
        intro k a;rw [List.replicate_succ];unfold mO leads;cases h0:(a==0)
        · cases h1:iH t a
          · rfl
          · simpa using ih (k+1) (up t a)
        · rfl
    exact key 5 0 i
  · intro k a y hy hk _;obtain ⟨h5,hd⟩:=P7 hk;refine ⟨?_,fun _ _=>trivial⟩;simp only [hd,Rb,wF N h,Q8];cases h0:(a==0)
    · cases h1:iH t a
      · rfl
      · have hin:ic a 0 4=true:=by unfold iH at h1;simp at h1;exact h1.1
        simp only [Be hin (by omega) (show (4:Int)<(t.length:Int) by omega),iZ (show k<gX from Nat.lt_trans h5 (by decide)),Q8];rfl
    · rfl
  · intro a _;rfl
def nX:g6:=g6.mk false 0 (gT.mk 0 0 0)
def oP (t:List g6) (k:Nat) (r:g6):Bool:=if r.Q2 then iC r.iw&&leads t 5 (k:Int) else decide (r=nX)
def jd (s:gT) (t:List g6):gT:=t.foldl (fun s r=>if r.Q2 then iD s r.iw else s) s
def jD (t:List g6):Bool:=!((t.length:Int) != 5)&&((nth t 0).Q2&&(!((nth t 0).Q4 != (-1))&&(allI (oP t) 0 t&&iC (jd ⟨0,0,0⟩ t))))
theorem vm {N:Nat} (hN:gX≤N) {t:List g6}:nF N t=some (jD t):=by
  unfold nF jD;cases h5:((t.length:Int) != 5)
  · have hl:t.length=5:=xw (n:=5) h5
    have hB:t.length<gX:=by rw [hl];decide
    rw [jh (l:=t) (i:=0) (by omega) (by omega)];simp only [Q9,Q8,lM,Bool.not_false,Re];cases h1:(nth t 0).Q2
    · rfl
    cases h2:((nth t 0).Q4 != (-1))
    · simp only [Rd,Bool.or_self,Q9,Re,Bool.not_false]
      rw [show ((0:Int),(0:Int),(0:Int),(0:Int))=(fun (k:Nat) (s:gT)=>((k:Int),s.bh,s.gS,s.gW)) 0 ⟨0,0,0⟩ from rfl,
        nP t (fun (k:Nat) (s:gT)=>((k:Int),s.bh,s.gS,s.gW)) (fun k s r=>if oP t k r then .inl (if r.Q2 then iD s r.iw else s) else .inr (.inr false)) (fun s=>.inl ((t.length:Int),s.bh,s.gS,s.gW)) (fun _ _=>True) ?_ ?_ (Nat.lt_of_lt_of_le hB hN) trivial]
      · simp only [Q8,um]
        have key:∀ (l:List g6) (k:Nat) (s:gT),Sum.elim (fun (o48:Int×Int×Int×Int)=>some (iC (gT.mk o48.2.1 o48.2.2.1 o48.2.2.2))) (fun r53=>some r53) (mO (fun k s r=>if oP t k r then .inl (if r.Q2 then iD s r.iw else s) else .inr (.inr false)) (fun s=>.inl ((t.length:Int),s.bh,s.gS,s.gW)) k s l)=some (allI (oP t) k l&&iC (jd s l)):=by
          intro l
          induction l with
          | nil=>intro k s;rfl
          | cons r l ih =>
            intro k s;unfold mO allI;cases hp:oP t k r
            · rfl
            · simpa [jd] using ih (k+1) (if r.Q2 then iD s r.iw else s)
        exact key t 0 _
      · intro k s r hy hk _;refine ⟨?_,fun _ _=>trivial⟩;simp only [iX hk,Rb,iE,hy,Q8,um,JY hN hl,wo,lM,iZ (Nat.lt_trans hk hB)];unfold oP;cases hlv:r.Q2
        · show (bif !decide (r=nX) then _ else _)=_
          cases decide (r=nX)<;>rfl
        · cases iC r.iw<;>cases leads t 5 (k:Int)<;>rfl
      · intro s _;simp only [iW,Q9]
    · rfl
  · rfl
def p1 (t:List g6) (k:Nat) (r:g6):Bool:=!((!r.Q2&&!decide (r=nX)) || !iC r.iw)&&!(decide ((k:Int) > 0)&&(r.Q2&&(!ic r.Q4 0 4 || (r.Q4==(k:Int) || !(nth t r.Q4).Q2))))
def p2 (t:List g6) (k:Nat) (r:g6):Bool:=!(r.Q2&&(jR t 5 (k:Int) != 0))
def Good (t:List g6):Prop:=∀ i:Int,0<i→i≤4→(nth t i).Q2=true→0≤up t i∧up t i≤4∧up t i ≠ i∧(nth t (up t i)).Q2=true
theorem G7 {t:List g6} (hl:t.length=5) (h:allI (p1 t) 0 t=true):Good t:=by
  intro i h0 h4 hlv;rw [mq] at h
  have hz:t[i.toNat]?=some (nth t i):=by
    have:=jh (l:=t) (i:=i) (by omega) (by omega);unfold idx at this
    rwa [if_pos (by omega)] at this
  have:=h _ _ hz
  have e:((0+i.toNat:Nat):Int)=i:=by omega
  unfold p1 at this;rw [e] at this;unfold up;simp [hlv,ic] at this
  rcases this.2 with q | q
  · omega
  · exact ⟨q.1.1,q.1.2,q.2.1,q.2.2⟩
theorem CE {t:List g6} (hg:Good t):∀ (n:Nat) (a:Int),0≤a→a≤4→(nth t a).Q2=true→0≤jR t n a∧jR t n a≤4∧(nth t (jR t n a)).Q2=true
  | 0,a,h0,h4,hlv=>⟨h0,h4,hlv⟩
  | n+1,a,h0,h4,hlv=>by
    unfold jR
    by_cases ha:a > 0
    · rw [if_pos ha];obtain ⟨g1,g2,_,g4⟩:=hg a ha h4 hlv;exact CE hg n _ g1 g2 g4
    · rw [if_neg ha];exact ⟨h0,h4,hlv⟩
theorem vK (t:List g6):∀ (m n:Nat) (a:Int),jR t (m+n) a=jR t n (jR t m a)
  | 0,n,a=>by simp [jR]
  | m+1,n,a=>by
    rw [show m+1+n=(m+n)+1 by omega]
    show (if a > 0 then jR t (m+n) (up t a) else a)=jR t n (if a > 0 then jR t m (up t a) else a)
    by_cases ha:a > 0
    · rw [if_pos ha,if_pos ha,vK t m n]
    · rw [if_neg ha,if_neg ha];cases n<;>simp [jR,ha]
theorem Bf (t:List g6) (n:Nat):jR t n 0=0:=by cases n<;>simp [jR]
theorem xB {t:List g6} (hg:Good t):∀ (n:Nat) (a:Int),0≤a→a≤4→(nth t a).Q2=true→leads t (n+1) a=(jR t n a==0)
  | 0,a,h0,h4,hlv=>by simp [leads,jR]
  | n+1,a,h0,h4,hlv=>by
    rw [show leads t (n+1+1) a=((a==0) || (iH t a&&leads t (n+1) (up t a))) from rfl];unfold jR
    by_cases ha:a=0
    · subst ha;simp
    · have hp:a > 0:=by omega
      obtain ⟨g1,g2,_,g4⟩:=hg a hp h4 hlv;rw [if_pos hp,xB hg n _ g1 g2 g4]
      have:iH t a=true:=by simp [iH,ir,hlv];omega
      have h0':(a==0)=false:=by simpa using ha
      rw [this,h0'];rfl
theorem LO {t:List g6} (hg:Good t) {a:Int} (h0:0≤a) (h4:a≤4) (hlv:(nth t a).Q2=true) (h:jR t 5 a=0):jR t 4 a=0:=by
  have key:∀ (i j:Nat),i+j≤5→jR t i a=jR t (i+j) a→jR t (5 - j) a=0:=by
    intro i j hij e
    have h1:jR t (5 - j) a=jR t (5 - j - i) (jR t i a):=by rw [← vK];congr 1;omega
    have h2:jR t 5 a=jR t (5 - j - i) (jR t (i+j) a):=by rw [← vK];congr 1;omega
    rw [h1,e, ← h2,h]
  have mono:∀ (i j:Nat),jR t i a=0→jR t (i+j) a=0:=by
    intro i j e;rw [vK,e,Bf]
  rcases Decidable.em (jR t 4 a=0) with q | q
  · exact q
  exfalso
  have nz:∀ i,i≤4→jR t i a ≠ 0:=fun i hi e=>q (by have:=mono i (4 - i) e;rwa [show i+(4 - i)=4 by omega] at this)
  have mM:∀ i,i≤4→1≤jR t i a∧jR t i a≤4:=fun i hi=>by
    obtain ⟨r1,r2,_⟩:=CE hg i a h0 h4 hlv;have:=nz i hi;omega
  have ne:∀ (i j:Nat),0<j→i+j≤4→jR t i a ≠ jR t (i+j) a:=fun i j hj hij e=>nz (5 - j) (by omega) (key i j (by omega) e);have r0:=mM 0 (by omega);have r1:=mM 1 (by omega);have r2:=mM 2 (by omega);have r3:=mM 3 (by omega);have r4:=mM 4 (by omega);have n01:=ne 0 1 (by omega) (by omega);have n02:=ne 0 2 (by omega) (by omega);have n03:=ne 0 3 (by omega) (by omega);have n04:=ne 0 4 (by omega) (by omega);have n12:=ne 1 1 (by omega) (by omega);have n13:=ne 1 2 (by omega) (by omega);have n14:=ne 1 3 (by omega) (by omega);have n23:=ne 2 1 (by omega) (by omega);have n24:=ne 2 2 (by omega) (by omega);have n34:=ne 3 1 (by omega) (by omega);simp only [Nat.zero_add,Nat.reduceAdd] at *;generalize jR t 0 a=c0 at *;generalize jR t 1 a=c1 at *;generalize jR t 2 a=c2 at *;generalize jR t 3 a=c3 at *;generalize jR t 4 a=c4 at *;clear key mono nz mM ne;omega
theorem AG {t:List g6} {a:Int} (ha:a ≠ 0) (hu:up t a=a):∀ n,leads t n a=false
  | 0=>rfl
  | n+1=>by
    unfold leads;rw [hu,AG ha hu n];simp [ha]
theorem Kn {t:List g6} (hl:t.length=5) (h0:(nth t 0).Q2=true):(allI (p1 t) 0 t&&allI (p2 t) 0 t)=allI (oP t) 0 t:=by
  have hget:∀ (i:Nat) (r:g6),t[i]?=some r→(i:Int)≤4∧nth t (i:Int)=r:=fun i r h=>⟨by have:=iU h;omega,qk h⟩;rw [Bool.eq_iff_iff,Rg];constructor
  · rintro ⟨h1,h2⟩;have hg:=G7 hl h1;rw [mq] at h1 h2 ⊢;intro i r hr;obtain ⟨i4,hn⟩:=hget i r hr;have q1:=h1 i r hr;have q2:=h2 i r hr;simp only [Nat.zero_add] at q1 q2 ⊢;unfold p1 at q1;unfold p2 at q2;unfold oP;cases hlv:r.Q2
    · simp [hlv] at q1;simp [q1.1]
    · simp [hlv] at q1 q2
      have hlv':(nth t (i:Int)).Q2=true:=by rw [hn];exact hlv
      have:=LO hg (by omega) i4 hlv' q2;simp only [if_true,Rg];refine ⟨q1.1,?_⟩;rw [xB hg 4 _ (by omega) i4 hlv',this];rfl
  · intro h;rw [mq] at h
    have hp:∀ (i:Int),0≤i→i≤4→(nth t i).Q2=true→iC (nth t i).iw=true∧leads t 5 i=true:=by
      intro i hi hi4 hlv
      have hz:t[i.toNat]?=some (nth t i):=by
        have:=jh (l:=t) (i:=i) (by omega) (by omega);unfold idx at this
        rwa [if_pos (by omega)] at this
      have:=h _ _ hz;unfold oP at this;rw [if_pos hlv] at this
      have e:((0+i.toNat:Nat):Int)=i:=by omega
      rw [e] at this;simpa using this
    have hg:Good t:=by
      intro i hi hi4 hlv;obtain ⟨_,q⟩:=hp i (by omega) hi4 hlv
      have hne:up t i ≠ i:=fun e=>by rw [AG (by omega) e] at q;cases q
      have hi0:(i==0)=false:=by simp;omega
      rw [show leads t 5 i=((i==0) || (iH t i&&leads t 4 (up t i))) from rfl,hi0] at q;simp only [Bool.false_or,Rg] at q;rw [show leads t 4 (up t i)=((up t i==0) || (iH t (up t i)&&leads t 3 (up t (up t i)))) from rfl] at q
      rcases Decidable.em (up t i=0) with e | e
      · rw [e];exact ⟨by omega,by omega,by omega,h0⟩
      · have e':(up t i==0)=false:=by simpa using e
        rw [e'] at q;simp only [Bool.false_or,Rg] at q;have:=q.2.1;simp only [iH,Rg,ir] at this;exact ⟨this.1.1,this.1.2,hne,this.2⟩
    rw [mq,mq];refine ⟨fun i r hr=>?_,fun i r hr=>?_⟩
    · obtain ⟨i4,hn⟩:=hget i r hr;have q:=h i r hr;simp only [Nat.zero_add] at q ⊢;unfold p1;unfold oP at q;cases hlv:r.Q2
      · simp [hlv] at q;subst q;simp;decide
      · simp [hlv] at q;simp [q.1]
        by_cases hi:i=0
        · exact .inl hi
        · have:=hg (i:Int) (by omega) i4 (by rw [hn];exact hlv);unfold up at this;rw [hn] at this;exact .inr ⟨ir.2 ⟨this.1,this.2.1⟩,this.2.2.1,this.2.2.2⟩
    · obtain ⟨i4,hn⟩:=hget i r hr;simp only [Nat.zero_add];unfold p2;cases hlv:r.Q2
      · rfl
      · have hlv':(nth t (i:Int)).Q2=true:=by rw [hn];exact hlv
        obtain ⟨_,q⟩:=hp (i:Int) (by omega) i4 hlv';rw [xB hg 4 _ (by omega) i4 hlv'] at q
        have q:jR t 4 (i:Int)=0:=by simpa using q
        have:jR t 5 (i:Int)=0:=by rw [show 5=4+1 from rfl,vK,q,Bf]
        simp [this]
theorem BQ {N:Nat} (hN:gX≤N) {t:List g6} (hB:t.length<gX):r7 N t=some (jd ⟨0,0,0⟩ t):=by
  unfold r7 jd
  rw [show ((0:Int),(0:Int),(0:Int),(0:Int))=(fun (k:Nat) (s:gT)=>((k:Int),s.bh,s.gS,s.gW)) 0 ⟨0,0,0⟩ from rfl,
    kO t (fun (k:Nat) (s:gT)=>((k:Int),s.bh,s.gS,s.gW)) (fun _ s r=>if r.Q2 then iD s r.iw else s) (fun s=>((t.length:Int),s.bh,s.gS,s.gW)) (fun _ _=>True) ?_ ?_ (Nat.lt_of_lt_of_le hB hN) trivial,mf]
  · rfl
  · intro k s r hy hk _;refine ⟨?_,trivial⟩;simp only [iX hk,Rb,iE,hy,Q8,iZ (Nat.lt_trans hk hB)];cases r.Q2<;>rfl
  · intro s _;simp only [iW,Q9]
theorem JX {N:Nat} (hN:gX≤N) {t:List g6} (hl:t.length=5) (hg:Good t) {k:Nat} {r:g6} (hr:t[k]?=some r) :
    ∃ n,iter (fun (s72:Int×Int)=>((bif (decide (s72.2<5)) then ((idx t (k:Int)).bind fun y77=>bif y77.Q2 then (some (decide (s72.1 > 0))) else (some false)) else (some false):Option Bool).bind fun j74=>bif j74 then ((idx t s72.1).bind fun y89=>some (.inl (y89.Q4,i64.wrap (s72.2+1)))) else (some (.inr (s72.1,s72.2))):Option ((Int×Int)⊕(Int×Int)))) N ((k:Int),0)=some (if r.Q2 then jR t 5 (k:Int) else (k:Int),n):=by
  have hk:=iU hr
  rw [show (((k:Int),0):Int×Int)=(fun (n:Nat) (a:Int)=>(a,(n:Int))) 0 (k:Int) from rfl,
    nP (List.replicate 5 ()) (fun (n:Nat) (a:Int)=>(a,(n:Int))) (fun n a _=>if r.Q2&&decide (a > 0) then .inl (up t a) else .inr (a,(n:Int))) (fun a=>(a,5)) (fun _ a=>r.Q2=true→0≤a∧a≤4∧(nth t a).Q2=true) ?_ ?_ (OJ (k:=0) hN (by decide)) (fun h=>⟨by omega,by omega,by rw [qk hr];exact h⟩)]
  · have key:∀ (n j:Nat) (a:Int),(mO (ρ:=Int×Int) (fun (n:Nat) a (_:Unit)=>if r.Q2&&decide (a > 0) then .inl (up t a) else .inr (a,(n:Int))) (fun a=>(a,5)) j a (List.replicate n ())).1=if r.Q2 then jR t n a else a:=by
      intro n
      induction n with
      | zero=>intro j a;simp [mO,jR]
      | succ n ih =>
        intro j a;rw [List.replicate_succ];unfold mO jR;cases hlv:r.Q2
        · rfl
        · have ih:=ih (j+1) (up t a);rw [hlv] at ih
          by_cases ha:a > 0
          · simpa [ha] using ih
          · simp [ha]
    have:=key 5 0 (k:Int);exact ⟨_,congrArg some (Prod.ext this rfl)⟩
  · intro n a y hy hn hI;obtain ⟨h5,hd⟩:=P7 hn;simp only [hd,Rb,iE,hr,Q8];cases hlv:r.Q2
    · exact ⟨rfl,fun t' h=>by simp at h⟩
    · obtain ⟨i1,i2,i3⟩:=hI hlv
      by_cases ha:a > 0
      · have hd2:decide (a > 0)=true:=by simpa using ha
        simp only [Rb,hd2,Q8,jh (l:=t) (i:=a) i1 (by omega),iZ (show n<gX from Nat.lt_trans h5 (by decide)),Bool.and_self,if_true];refine ⟨rfl,fun t' h _=>?_⟩;cases h;obtain ⟨g1,g2,_,g4⟩:=hg a ha i2 i3;exact ⟨g1,g2,g4⟩
      · have hd2:decide (a > 0)=false:=by simpa using ha
        simp only [Rb,hd2,Q8,Q9];exact ⟨rfl,fun t' h=>by simp at h⟩
  · intro a _;rfl
theorem xa {N:Nat} (hN:gX≤N) {t:List g6}:oh N t=some (jD t):=by
  unfold oh jD;cases h5:((t.length:Int) != 5)
  · have hl:t.length=5:=xw (n:=5) h5
    have hB:t.length<gX:=by rw [hl];decide
    rw [jh (l:=t) (i:=0) (by omega) (by omega)];simp only [Q9,Q8,lM,Bool.not_false,Re];cases h1:(nth t 0).Q2
    · rfl
    cases h2:((nth t 0).Q4 != (-1))
    · simp only [Rd,Bool.or_self,Q9,Re,Bool.not_false];rw [kv t (p1 t) (.inl (t.length:Int)) (.inr false) (Nat.lt_of_lt_of_le hB hN), ← Kn hl h1]
      · simp only [Q8];cases hp:allI (p1 t) 0 t
        · rfl
        · have hg:=G7 hl hp;simp only [if_true,Sum.elim_inl,Re];rw [kv t (p2 t) (.inl (t.length:Int)) (.inr false) (Nat.lt_of_lt_of_le hB hN)]
          · simp only [Q8,BQ hN hB,rh];cases allI (p2 t) 0 t<;>rfl
          · intro k r hy hk;obtain ⟨n,hn⟩:=JX hN hl hg hy;simp only [iX hk,Rb];rw [hn];simp only [iE,hy,Q8,iZ (Nat.lt_trans hk hB)];unfold p2;cases hlv:r.Q2
            · rfl
            · simp only [Rb,Q8,if_true,Re];cases (jR t 5 (k:Int) != 0)<;>rfl
          · simp only [iW,Q9]
      · intro k r hy hk;simp only [iX hk,Rb,iE,hy,Q8,rh,wq,lM,iZ (Nat.lt_trans hk hB)];unfold p1;rw [show g6.mk false 0 (gT.mk 0 0 0)=nX from rfl];cases hin:ic r.Q4 0 4
        · cases r.Q2<;>cases decide (r=nX)<;>cases iC r.iw<;>cases decide ((k:Int) > 0)<;>rfl
        · rw [Be hin (by omega) (show (4:Int)<(t.length:Int) by omega)];simp only [Q8];cases r.Q2<;>cases decide (r=nX)<;>cases iC r.iw<;>cases decide ((k:Int) > 0)<;>cases (r.Q4==(k:Int))<;>cases (nth t r.Q4).Q2<;>rfl
      · simp only [iW,Q9]
    · rfl
  · rfl
end Go.Kx
namespace Go.Kx
open Go
open Go.IntKind (i64)
set_option linter.unusedVariables false
set_option linter.unusedSimpArgs false
set_option maxRecDepth 10000
theorem rV {α:Type} (p:Bool) (a b:α):(bif p then some a else some b)=some (bif p then a else b):=by cases p<;>rfl
theorem AQ {ρ τ β:Type} (c:Bool) (a:ρ) (r:τ) (f:ρ→Option β) (g:τ→Option β):Sum.elim f g (if c then .inl a else .inr r)=if c then f a else g r:=by cases c<;>rfl
theorem EN (N:Nat) (a:Int):sF N a=some (ic a 0 2):=by unfold sF;rw [qg];rfl
theorem AF (N:Nat) (a:Int):qv N a=some (ic a 0 9):=by unfold qv;rw [qg];rfl
theorem yp (N:Nat) (a:Int):mK N a=some (ic a 0 1000000):=by unfold mK;rw [qg];rfl
theorem sy (N:Nat) (a:Int):mD N a=some (ic a 0 29999):=by unfold mD;rw [qg];rfl
theorem sJ (N:Nat) (a:Int):lK N a=some (ic a 0 29999):=by unfold lK;rw [mF];rfl
theorem sn (N:Nat) (a:Int):ml N a=some (ic a 0 9):=by unfold ml;rw [mF];rfl
def uR (m:jw):Bool:=!(bif (m.Q6 != (-1)) then (!ic m.Q6 0 29999 || !ic m.n 0 999) else !ic m.n 0 999)
def lZ (o:gE):Bool:=o.gZ.all (fun y=>ic y (-1) 9)&&(o.QV.all (fun y=>ic y 0 999)&&(o.QU.all uR&&(((o.gZ.length:Int)==2)&&(((o.QV.length:Int)==(bif o.py==2 then o.bh else 0))&&decide ((o.QU.length:Int)≤(bif o.py==3 then 2 else 0))))))
theorem KO {N:Nat} (hN:gX≤N) {o:gE} (ho:ib o<gX):tx N o=some (lZ o):=by
  obtain ⟨h1,h2,h3⟩:=Br ho;unfold tx lZ;rw [kv o.gZ (fun _ y=>ic y (-1) 9) (.inl (o.gZ.length:Int)) (.inr false) (Nat.lt_of_lt_of_le h1 hN),lr,Q8]
  · cases o.gZ.all fun y=>ic y (-1) 9
    · rfl
    simp only [if_true,Sum.elim_inl,Re];rw [kv o.QV (fun _ y=>ic y 0 999) (.inl (o.QV.length:Int)) (.inr false) (Nat.lt_of_lt_of_le h2 hN),lr,Q8]
    · cases o.QV.all fun y=>ic y 0 999
      · rfl
      simp only [if_true,Sum.elim_inl,Re];rw [kv o.QU (fun _ y=>uR y) (.inl (o.QU.length:Int)) (.inr false) (Nat.lt_of_lt_of_le h3 hN),lr,Q8]
      · cases o.QU.all uR
        · rfl
        simp only [if_true,Sum.elim_inl,Re,rV,Q8];congr 1;cases ((o.gZ.length:Int)==2)<;>cases ((o.QV.length:Int)==(bif o.py==2 then o.bh else 0))<;>simp
      · intro k y hy hk;simp only [iX hk,Rb,iE,hy,Q8,qg,sy,lM,rV,iZ (Nat.lt_trans hk h3)];unfold uR;cases (y.Q6 != (-1))<;>cases ic y.Q6 0 29999<;>cases ic y.n 0 999<;>rfl
      · simp only [iW,Q9]
    · intro k y hy hk;simp only [iX hk,Rb,iE,hy,Q8,qg,iZ (Nat.lt_trans hk h2)];cases ic y 0 999<;>rfl
    · simp only [iW,Q9]
  · intro k y hy hk;simp only [iX hk,Rb,iE,hy,Q8,qg,iZ (Nat.lt_trans hk h1)];cases ic y (-1) 9<;>rfl
  · simp only [iW,Q9]
def blank (g:Int):gE:=gE.mk g 0 0 0 0 0 0 0 0 false [] [] []
def iN (o:gE):Bool:=ic o.Q3 0 999&&(ic o.py 0 4&&(bif o.py==0 then decide (o=blank o.Q3) else
  ic o.box (-1) 9&&(ic o.res 0 4&&(ic o.iF 0 1000000&&(ic o.bh 0 8&&(lZ o&&(bif o.py != 4 then (o.QW==0&&(o.iK==0&&o.iG==0)) else
    (o.QW==0 || ic (i64.wrap (o.QW - 1)) 0 29999)&&(ic o.iK (-1) 999&&ic o.iG 0 1000000))))))))
theorem GV {N:Nat} (hN:gX≤N) {o:gE} (ho:ib o<gX):uz N o=some (iN o):=by
  unfold uz iN;simp only [qg,yH,yp,sy,KO hN ho,JQ hN ho,Q8,lM,mh,rV];rw [show gE.mk o.Q3 0 0 0 0 0 0 0 0 false [] [] []=blank o.Q3 from rfl];congr 1;simp only [Bool.cond_true_left,Bool.cond_false_left,Bool.cond_true_right,Bool.cond_false_right,Bool.not_or,Bool.not_not,Bool.and_assoc];cases o.QW==0<;>rfl
def n8 (o:gE):Prop:=-9223372036854775808≤o.QW
theorem LD {n:Int} (h:-9223372036854775808≤n) (h0:n<0):ic (i64.wrap (n - 1)) 0 29999=false:=by
  rcases Decidable.em (n=-9223372036854775808) with e | e
  · subst e;decide
  · rw [ig (by omega) (by omega)];simp [ic];omega
def BM (o:gE):Bool:=bif o.py != 4 then (o.QW==0&&(o.iK==0&&o.iG==0)) else
    (o.QW==0 || ic (i64.wrap (o.QW - 1)) 0 29999)&&(ic o.iK (-1) 999&&ic o.iG 0 1000000)
theorem OK {o : gE} (hw : n8 o) (hr : ic o.iG 0 1000000 = true) : (bif o.py != 4 then bif o.QW != 0 then true else bif o.iK != 0 then true else bif o.iG != 0 then true else bif o.py == 4 then
      bif decide (o.QW < 0) then true else bif decide (o.QW > 0) then !ic (i64.wrap (o.QW - 1)) 0 29999 || !ic o.iK (-1) 999 else !ic o.iK (-1) 999 else false
    else bif o.py == 4 then bif decide (o.QW < 0) then true else bif decide (o.QW > 0) then !ic (i64.wrap (o.QW - 1)) 0 29999 || !ic o.iK (-1) 999 else !ic o.iK (-1) 999 else false) = !BM o := by
  unfold BM;simp only [bne, hr];cases o.py == 4
  · simp only [Bool.not_false, Rb, Q9];cases o.QW == 0<;>cases o.iK == 0<;>cases o.iG == 0<;>rfl
  · simp only [Rd, Rb, Q9]
    rcases Int.lt_trichotomy o.QW 0 with h | h | h
    · have e1 : decide (o.QW < 0) = true := by simpa using h
      have e2 : (o.QW == 0) = false := by simp; omega
      rw [e1, e2, LD hw h]; rfl
    · simp only [h];cases ic o.iK (-1) 999<;>rfl
    · have e1 : decide (o.QW < 0) = false := by simp; omega
      have e2 : (o.QW == 0) = false := by simp; omega
      have e3 : decide (o.QW > 0) = true := by simpa using h
      rw [e1, e2, e3];cases ic (i64.wrap (o.QW - 1)) 0 29999<;>cases ic o.iK (-1) 999<;>rfl
theorem O0 (o:gE):(bif (o.QV.length:Int) != 0 then bif o.py != 2 then true else bif (o.QV.length:Int) != o.bh then true else bif o.py==2 then (o.QV.length:Int) != o.bh else false
    else bif o.py==2 then (o.QV.length:Int) != o.bh else false)=!((o.QV.length:Int)==(bif o.py==2 then o.bh else 0)):=by
  simp only [bne];cases o.py==2<;>cases h:((o.QV.length:Int)==0)<;>cases h2:((o.QV.length:Int)==o.bh)<;>simp [h,h2]
theorem NJ (o:gE):(bif decide ((o.QU.length:Int) > 2) then true else bif decide ((o.QU.length:Int) > 0) then o.py != 3 else false)=!decide ((o.QU.length:Int)≤(bif o.py==3 then 2 else 0)):=by
  simp only [bne];cases o.py==3
  · simp only [Q9]
    rcases Nat.lt_trichotomy o.QU.length 0 with h | h | h
    · omega
    · simp [h]
    · rw [decide_eq_true (show (o.QU.length:Int) > 0 by omega),decide_eq_false (show ¬ ((o.QU.length:Int)≤0) by omega)];cases decide ((o.QU.length:Int) > 2)<;>rfl
  · simp only [Rb]
    rcases Nat.lt_or_ge 2 o.QU.length with h | h
    · rw [decide_eq_true (show (o.QU.length:Int) > 2 by omega),decide_eq_false (show ¬ ((o.QU.length:Int)≤2) by omega)];rfl
    · rw [decide_eq_false (show ¬ ((o.QU.length:Int) > 2) by omega),decide_eq_true (show (o.QU.length:Int)≤2 by omega)];cases decide ((o.QU.length:Int) > 0)<;>rfl
theorem HS {N:Nat} (hN:gX≤N) {o:gE} (ho:ib o<gX) (hw:n8 o):uD N o=some (iN o):=by
  obtain ⟨h1,h2,h3⟩:=Br ho;unfold uD iN;rw [mF,Q8];cases hg:ic o.Q3 0 999
  · rfl
  simp only [Rd,Q9,Re];cases hk0:o.py==0
  · simp only [Q9,mF,wq,Q8,lM]
    have hk0':o.py ≠ 0:=by simpa using hk0
    cases hA:(!ic o.py 1 4 || (!ic o.box (-1) 9 || (!ic o.res 0 4 || (!ic o.iF 0 1000000 || (!ic o.bh 0 8 || ((o.gZ.length:Int) != 2 || !ic o.iG 0 1000000))))))
    · simp only [Bool.or_eq_false_iff,Bool.not_eq_false',bne_eq_false_iff_eq] at hA;obtain ⟨a1,a2,a3,a4,a5,a6,a7⟩:=hA
      have a1':ic o.py 0 4=true:=by rw [ir] at a1 ⊢;omega
      have hl2:o.gZ.length=2:=by omega
      simp only [Q9,a1',a2,a3,a4,a5,Re];rw [kv o.gZ (fun _ y=>ic y (-1) 9) (.inl (2:Int)) (.inr false) (Nat.lt_of_lt_of_le h1 hN),lr,Q8,AQ]
      · unfold lZ;cases hL:o.gZ.all fun y=>ic y (-1) 9
        · rfl
        have e6:((o.gZ.length:Int)==2)=true:=by simp [a6]
        simp only [if_true,Re,e6];simp only [sJ,Q8,rV];rw [OK hw a7,O0 o];rw [show (bif o.py != 4 then (o.QW==0&&(o.iK==0&&o.iG==0)) else (o.QW==0 || ic (i64.wrap (o.QW - 1)) 0 29999)&&(ic o.iK (-1) 999&&ic o.iG 0 1000000))=BM o from rfl];cases BM o
        · simp
        cases ((o.QV.length:Int)==(bif o.py==2 then o.bh else 0))
        · simp
        simp only [Rd,Q9,Bool.and_true,Re];rw [kv o.QV (fun _ y=>ic y 0 999) (.inl (o.QV.length:Int)) (.inr false) (Nat.lt_of_lt_of_le h2 hN),lr,Q8,AQ,NJ o]
        · cases o.QV.all fun y=>ic y 0 999
          · rfl
          simp only [if_true,Re];cases decide ((o.QU.length:Int)≤(bif o.py==3 then 2 else 0))
          · simp
          simp only [Rd,Q9,Bool.and_true];rw [kv o.QU (fun _ y=>uR y) (.inl (o.QU.length:Int)) (.inr false) (Nat.lt_of_lt_of_le h3 hN),lr,Q8,AQ]
          · cases o.QU.all uR<;>rfl
          · intro k y hy hk;simp only [iX hk,Rb,iE,hy,Q8,iZ (Nat.lt_trans hk h3)];unfold uR;cases (y.Q6 != (-1))<;>cases ic y.Q6 0 29999<;>cases ic y.n 0 999<;>rfl
          · simp only [iW,Q9]
        · intro k y hy hk;simp only [iX hk,Rb,iE,hy,Q8,iZ (Nat.lt_trans hk h2)];cases ic y 0 999<;>rfl
        · simp only [iW,Q9]
      · intro k y hy hk
        have hd:decide ((k:Int)<2)=true:=by simp;omega
        simp only [hd,Rb,iE,hy,Q8,mF,iZ (Nat.lt_trans hk h1)];cases ic y (-1) 9<;>rfl
      · simp [hl2]
    · simp only [Rb];congr 1
      symm
      rw [Bool.eq_false_iff];intro h;simp only [lZ,Rg,ir,beq_iff_eq] at h;obtain ⟨b0,b1,b2,b3,b4,⟨_,_,_,b5,_,_⟩,b6⟩:=h
      have q1:ic o.py 1 4=true:=by rw [ir];omega
      have q2:ic o.box (-1) 9=true:=by rw [ir];omega
      have q3:ic o.res 0 4=true:=by rw [ir];omega
      have q4:ic o.iF 0 1000000=true:=by rw [ir];omega
      have q5:ic o.bh 0 8=true:=by rw [ir];omega
      have q6:((o.gZ.length:Int) != 2)=false:=by simp [b5]
      have q7:ic o.iG 0 1000000=true:=by
        cases h4:o.py != 4
        · rw [h4] at b6;simp only [Q9,Rg] at b6;exact b6.2.2
        · rw [h4] at b6;simp only [Rb,Rg,beq_iff_eq] at b6;rw [b6.2.2];decide
      simp [q1,q2,q3,q4,q5,q6,q7] at hA
  · have hk:o.py=0:=by simpa using hk0
    simp only [Rb,mh,Q8];congr 1;rw [Bool.eq_iff_iff];obtain ⟨_,_,_,_,_,_,_,_,_,_,_,_,_⟩:=o;simp only at hk;subst hk;simp [blank,ic]
end Go.Kx
namespace Go.Kx
open Go
open Go.IntKind (i64)
set_option linter.unusedVariables false
set_option linter.unusedSimpArgs false
set_option maxRecDepth 10000
theorem ru {o:gE} (h:iN o=true):o.gZ.length≤2∧∀ y,y ∈ o.gZ→-1≤y∧y≤9:=by
  unfold iN at h;cases hk:o.py==0
  · simp only [hk,Q9,Rg] at h;obtain ⟨_,_,_,_,_,_,hl,_⟩:=h;unfold lZ at hl;simp only [Rg,List.all_eq_true,ir,beq_iff_eq] at hl;exact ⟨by omega,hl.1⟩
  · simp only [hk,Rb,Rg,decide_eq_true_eq] at h;rw [h.2.2];simp [blank]
theorem mR {o:gE} (h:iN o=true) (hk:(o.py != 0)=true):ic o.box (-1) 9=true∧ic o.res 0 4=true∧ic o.iF 0 1000000=true∧ic o.bh 0 8=true:=by
  unfold iN at h
  have hk:(o.py==0)=false:=by simpa [bne] using hk
  simp only [hk,Q9,Rg] at h;exact ⟨h.2.2.1,h.2.2.2.1,h.2.2.2.2.1,h.2.2.2.2.2.1⟩
def vG (l:List gE) (i:Int):Bool:=(nth l i).py==0
def wJ (l:List gE) (o:gE):Bool:=o.gZ.all fun y=>!(decide (y ≥ 0)&&vG l y)
def uZ (l:List gE) (k:Nat) (o:gE):Bool:=(iN o&&!(decide ((k:Int) > 0)&&(o.py != 0&&(decide (o.box ≥ 0)&&vG l o.box))))&&wJ l o
def wu (l:List gE):Bool:=((nth l 0).py != 1) || (((nth l 0).box != (-1)) || ((nth l 0).iF != 1000000))
def kM (l:List gE):Bool:=!((l.length:Int) != 10)&&(!wu l&&allI (uZ l) 0 l)
theorem CM {N:Nat} (hN:gX≤N) {l:List gE} (hl:l.length=10) {o:gE} (ho:o.gZ.length≤2) (hr:∀ y,y ∈ o.gZ→-1≤y∧y≤9) :
    iter (fun (s75:Int)=>(bif (decide (s75<(o.gZ.length:Int))) then ((idx o.gZ s75).bind fun y96=>(bif (decide (y96 ≥ 0)) then ((idx l y96).bind fun y108=>some (y108.py==0)) else (some false):Option Bool).bind fun j105=>bif j105 then (some (.inr (.inr false))) else (some (.inl (i64.wrap (s75+1))))) else (some (.inr (.inl s75))):Option (Int⊕(Int⊕Bool)))) N 0=some (if wJ l o then .inl (o.gZ.length:Int) else .inr false):=by
  have hB:o.gZ.length<gX:=Nat.lt_of_le_of_lt ho (by decide);rw [kv o.gZ (fun _ y=>!(decide (y ≥ 0)&&vG l y)) (.inl (o.gZ.length:Int)) (.inr false) (Nat.lt_of_lt_of_le hB hN),lr]
  · rfl
  · intro k y hy hk;have hm:=hr y (List.mem_of_getElem? hy);simp only [iX hk,Rb,iE,hy,Q8,iZ (Nat.lt_trans hk hB)];cases h0:decide (y ≥ 0)
    · rfl
    · have h0:y ≥ 0:=by simpa using h0
      simp only [Rb,jh (l:=l) (i:=y) h0 (by omega),Q8,Re];unfold vG;cases (nth l y).py==0<;>rfl
  · simp only [iW,Q9]
theorem HU {l:List gE} (hl:l.length=10) {o:gE} (ho:iN o=true):(bif (decide (o.box ≥ 0)) then ((idx l o.box).bind fun y58=>some (y58.py==0)) else (some false):Option Bool)=some (decide (o.box ≥ 0)&&vG l o.box)∨(o.py != 0)=false:=by
  cases hk:o.py != 0
  · exact .inr rfl
  · left;obtain ⟨hb,_⟩:=mR ho hk;rw [ir] at hb;cases h0:decide (o.box ≥ 0)
    · rfl
    · have h0:o.box ≥ 0:=by simpa using h0
      simp only [Rb,jh (l:=l) (i:=o.box) h0 (by omega),Q8,Re];rfl
theorem zi {N:Nat} (hN:gX≤N) {l:List gE} (hb:iY ib l<gX):pN N l=some (kM l):=by
  have hlB:=lN hb;unfold pN kM;cases h10:((l.length:Int) != 10)
  · have hl:l.length=10:=xw (n:=10) h10;rw [jh (l:=l) (i:=0) (by omega) (by omega)];simp only [Q9,Q8,lM,Bool.not_false,Re];rw [show ((nth l 0).py != 1 || ((nth l 0).box != (-1) || (nth l 0).iF != 1000000))=wu l from rfl];cases wu l
    · simp only [Q9,Bool.not_false,Re];rw [kv l (uZ l) (.inl (l.length:Int)) (.inr false) (Nat.lt_of_lt_of_le hlB hN)]
      · simp only [Q8];cases allI (uZ l) 0 l<;>rfl
      · intro k y hy hk;have hm:=List.mem_of_getElem? hy;simp only [iX hk,Rb,iE,hy,Q8,GV hN (kn hb hm),iZ (Nat.lt_trans hk hlB)];unfold uZ;cases ho:iN y
        · rfl
        · obtain ⟨q1,q2⟩:=ru ho;rw [CM hN hl q1 q2]
          rcases HU hl ho with q | q
          · rw [q];simp only [Rd,Q9,Re,mh,Q8];cases (decide ((k:Int) > 0)&&(y.py != 0&&(decide (y.box ≥ 0)&&vG l y.box)))<;>cases wJ l y<;>rfl
          · simp only [q,Rd,Q9,Re,Bool.false_and,Bool.and_false,mh,Q8];cases wJ l y<;>rfl
      · simp only [iW,Q9]
    · rfl
  · rfl
def wA (l:List gE):Prop:=∀ o,o ∈ l→n8 o
theorem sd {N:Nat} (hN:gX≤N) {l:List gE} (hb:iY ib l<gX) (hw:wA l):mG N l=some (kM l):=by
  have hlB:=lN hb;unfold mG kM;cases h10:((l.length:Int) != 10)
  · have hl:l.length=10:=xw (n:=10) h10;rw [jh (l:=l) (i:=0) (by omega) (by omega)];simp only [Q9,Q8,lM,Bool.not_false,Re];rw [show ((nth l 0).py != 1 || ((nth l 0).box != (-1) || (nth l 0).iF != 1000000))=wu l from rfl];cases wu l
    · simp only [Q9,Bool.not_false,Re];rw [kv l (uZ l) (.inl (l.length:Int)) (.inr false) (Nat.lt_of_lt_of_le hlB hN)]
      · simp only [Q8];cases allI (uZ l) 0 l<;>rfl
      · intro k y hy hk;have hm:=List.mem_of_getElem? hy;simp only [iX hk,Rb,iE,hy,Q8,HS hN (kn hb hm) (hw y hm),iZ (Nat.lt_trans hk hlB)];unfold uZ;cases ho:iN y
        · rfl
        · obtain ⟨q1,q2⟩:=ru ho;rw [CM hN hl q1 q2]
          rcases HU hl ho with q | q
          · rw [q];simp only [Rd,Q9,Re,mh,Q8];cases y.py != 0<;>cases decide ((k:Int) > 0)<;>cases (decide (y.box ≥ 0)&&vG l y.box)<;>cases wJ l y<;>rfl
          · simp only [q,Rd,Q9,Re,Bool.false_and,Bool.and_false,mh,Q8];cases wJ l y<;>rfl
      · simp only [iW,Q9]
    · rfl
  · rfl
theorem xW {N:Nat} (hN:gX≤N) {l:List Int} {x:Int} (hb:l.length<gX):nj N l x=some (l.contains x):=by
  unfold nj;rw [kv l (fun _ y=>!(y==x)) (.inl (l.length:Int)) (.inr true) (Nat.lt_of_lt_of_le hb hN),lr]
  · have:(l.all fun y=>!(y==x))=!l.contains x:=by
      induction l with
      | nil=>rfl
      | cons y l ih =>
        have ih:=ih (Nat.lt_trans (Nat.lt_succ_self _) hb);rw [List.all_cons,ih,List.contains_cons,Bool.beq_comm (a:=x)];cases (y==x)<;>rfl
    rw [this,Q8];cases l.contains x<;>rfl
  · intro k y hy hk;simp only [iX hk,Rb,iE,hy,Q8,iZ (Nat.lt_trans hk hb)];cases (y==x)<;>rfl
  · simp only [iW,Q9]
def sP (g:List Int) (k:Nat) (y:Int):Bool:=ic y 0 9&&!(g.take k).contains y
def nw (g:ka):Bool:=((g.QS==0)&&(g.Q0==0)) || ((g.QS==1)&&(ic g.Q0 0 9&&((g.gQ.length:Int)==0)))
def kb (h:gV):Bool:=kM h.ag&&(nw h.gc&&(ic h.gc.QT 0 1000000&&allI (sP h.gc.gQ) 0 h.gc.gQ))
theorem Hf {α:Type} {l:List α} {k:Nat} (h:l.length<gX):(l.take k).length<gX:=Nat.lt_of_le_of_lt (by simp;omega) h
theorem EG {N:Nat} (hN:gX≤N) {h:gV} (h1:iY ib h.ag<gX) (h2:h.gc.gQ.length<gX):sH N h=some (kb h):=by
  unfold sH kb;rw [kv h.gc.gQ (sP h.gc.gQ) (.inl (h.gc.gQ.length:Int)) (.inr false) (Nat.lt_of_lt_of_le h2 hN)]
  · simp only [Q8,AF,yp,zi hN h1,mh];cases allI (sP h.gc.gQ) 0 h.gc.gQ
    · simp
    · simp only [if_true,Sum.elim_inl,Bool.and_true];unfold nw;cases kM h.ag
      · rfl
      cases ((h.gc.QS==0)&&(h.gc.Q0==0))
      · cases ((h.gc.QS==1)&&(ic h.gc.Q0 0 9&&((h.gc.gQ.length:Int)==0)))<;>rfl
      · rfl
  · intro k y hy hk;simp only [iX hk,Rb,iE,hy,Q8,AF,yd (Nat.le_of_lt hk),yr hN (Hf h2),iZ (Nat.lt_trans hk h2)];unfold sP;cases ic y 0 9<;>cases (h.gc.gQ.take k).contains y<;>rfl
  · simp only [iW,Q9]
theorem NP (n:Nat):decide ((n:Int) > 0)=!((n:Int)==0):=by
  cases n with
  | zero=>rfl
  | succ n=>rw [decide_eq_true (by omega)];simp;omega
theorem ya {N:Nat} (hN:gX≤N) {h:gV} (h1:iY ib h.ag<gX) (h2:h.gc.gQ.length<gX) (hw:wA h.ag):pA N h=some (kb h):=by
  unfold pA kb;rw [kv h.gc.gQ (sP h.gc.gQ) (.inl (h.gc.gQ.length:Int)) (.inr false) (Nat.lt_of_lt_of_le h2 hN)]
  · simp only [Q8,sn,mF,sd hN h1 hw,lM,NP];cases kM h.ag
    · rfl
    cases ic h.gc.QT 0 1000000
    · simp
    unfold nw
    by_cases q0:h.gc.QS=0
    · have e0:(h.gc.QS==0)=true:=by simp [q0]
      have e1:(h.gc.QS==1)=false:=by simp [q0]
      have e2:ic h.gc.QS 0 1=true:=by rw [q0];decide
      rw [e0,e1,e2];simp only [bne];cases h.gc.Q0==0
      · rfl
      · cases allI (sP h.gc.gQ) 0 h.gc.gQ<;>rfl
    by_cases q1:h.gc.QS=1
    · have e0:(h.gc.QS==0)=false:=by simp [q1]
      have e1:(h.gc.QS==1)=true:=by simp [q1]
      have e2:ic h.gc.QS 0 1=true:=by rw [q1];decide
      rw [e0,e1,e2];cases ic h.gc.Q0 0 9
      · rfl
      cases ((h.gc.gQ.length:Int)==0)
      · rfl
      · cases allI (sP h.gc.gQ) 0 h.gc.gQ<;>rfl
    · have e0:(h.gc.QS==0)=false:=by simp [q0]
      have e1:(h.gc.QS==1)=false:=by simp [q1]
      have e2:ic h.gc.QS 0 1=false:=by
        rw [Bool.eq_false_iff,Ne,ir];omega
      rw [e0,e1,e2];rfl
  · intro k y hy hk;simp only [iX hk,Rb,iE,hy,Q8,sn,yd (Nat.le_of_lt hk),xW hN (Hf h2),iZ (Nat.lt_trans hk h2)];unfold sP;cases ic y 0 9<;>cases (h.gc.gQ.take k).contains y<;>rfl
  · simp only [iW,Q9]
def ly (t:i7):Bool:=(ic t.res 0 4&&(ic t.jz 0 2&&(ic t.nD 0 4&&ic t.kH 0 2)))&&(((t.py==1)&&ic t.mb 0 1000) || ((t.py==2)&&ic t.mb 0 100))
theorem BX (N:Nat) (t:i7):r6 N t=some (ly t):=by
  unfold r6 ly;simp only [yH,EN,qg,Q8,lM,mh]
  by_cases q:t.py=1
  · have e1:(t.py==1)=true:=by simp [q]
    have e2:(t.py==2)=false:=by simp [q]
    rw [e1,e2];cases ic t.res 0 4<;>cases ic t.nD 0 4<;>cases ic t.jz 0 2<;>cases ic t.kH 0 2<;>cases ic t.mb 0 1000<;>rfl
  · have e1:(t.py==1)=false:=by simp [q]
    rw [e1];cases ic t.res 0 4<;>cases ic t.nD 0 4<;>cases ic t.jz 0 2<;>cases ic t.kH 0 2<;>cases (t.py==2)<;>cases ic t.mb 0 100<;>rfl
theorem zL (N:Nat) (t:i7):qp N t=some (ly t):=by
  unfold qp ly;simp only [wq,mF,Q8,lM,mh]
  by_cases q:t.py=1
  · have e1:(t.py==1)=true:=by simp [q]
    have e2:(t.py==2)=false:=by simp [q]
    rw [e1,e2];cases ic t.res 0 4<;>cases ic t.jz 0 2<;>cases ic t.nD 0 4<;>cases ic t.kH 0 2<;>cases ic t.mb 0 1000<;>rfl
  · have e1:(t.py==1)=false:=by simp [q]
    rw [e1];cases ic t.res 0 4<;>cases ic t.jz 0 2<;>cases ic t.nD 0 4<;>cases ic t.kH 0 2<;>cases (t.py==2)<;>cases ic t.mb 0 100<;>rfl
def pX (p:cd):Bool:=ic p.QZ 0 9&&(ic p.QY 0 10&&(iC p.gP&&(ic p.hY 0 1000000&&ic p.QX 0 1000000)))
def ik (p:cd):Bool:=jE p.QQ&&(mJ p.own&&(jD p.QR&&(kb p.heap&&(!decide ((p.gR.length:Int) > 3)&&(p.gR.all ly&&pX p)))))
theorem vy {N:Nat} (hN:gX≤N) {p:cd} (h:ij p<gX):nI N p=some (ik p):=by
  obtain ⟨h1,h2,h3,h4,h5,h6⟩:=kC h;unfold nI ik;rw [kv p.gR (fun _ t=>ly t) (.inl (p.gR.length:Int)) (.inr false) (Nat.lt_of_lt_of_le h6 hN),lr]
  · simp only [Q8,Kt hN h1,NY hN h2,vm hN,EG hN h4 h5,AF,qg,um,yp,lM,mh];rw [show (ic p.QZ 0 9&&(ic p.QY 0 10&&(iC p.gP&&(ic p.hY 0 1000000&&ic p.QX 0 1000000))))=pX p from rfl];cases p.gR.all ly
    · simp
    · simp only [if_true,Sum.elim_inl,Re];cases jE p.QQ<;>cases mJ p.own<;>cases jD p.QR<;>cases kb p.heap<;>cases decide ((p.gR.length:Int) > 3)<;>rfl
  · intro k y hy hk;simp only [iX hk,Rb,iE,hy,Q8,BX,iZ (Nat.lt_trans hk h6)];cases ly y<;>rfl
  · simp only [iW,Q9]
def wP (p:cd):Prop:=wA p.heap.ag
theorem ud {N:Nat} (hN:gX≤N) {p:cd} (h:ij p<gX) (hw:wP p):m8 N p=some (ik p):=by
  obtain ⟨h1,h2,h3,h4,h5,h6⟩:=kC h;unfold m8 ik;rw [kv p.gR (fun _ t=>ly t) (.inl (p.gR.length:Int)) (.inr false) (Nat.lt_of_lt_of_le h6 hN),lr]
  · simp only [Q8,vR hN h1,zO hN h2,xa hN,ya hN h4 h5 hw,sn,mF,rh,lM,mh];unfold pX;cases jE p.QQ
    · rfl
    cases mJ p.own
    · rfl
    cases jD p.QR
    · rfl
    cases kb p.heap
    · rfl
    cases decide ((p.gR.length:Int) > 3)
    · simp only [Rd,Bool.not_false,Bool.false_or,Re];cases ic p.QZ 0 9<;>cases ic p.QY 0 10<;>cases iC p.gP<;>cases ic p.hY 0 1000000<;>cases ic p.QX 0 1000000<;>cases p.gR.all ly<;>rfl
    · rfl
  · intro k y hy hk;simp only [iX hk,Rb,iE,hy,Q8,zL,iZ (Nat.lt_trans hk h6)];cases ly y<;>rfl
  · simp only [iW,Q9]
end Go.Kx
