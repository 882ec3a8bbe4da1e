import Derived.Test.YtlcgibcdiikheaaGreatHa
namespace Go.Kx
open Go
open Go.IntKind (i64)
set_option linter.unusedVariables false
set_option linter.unusedSimpArgs false
set_option maxRecDepth 10000
theorem ns (p q:Bool):(bif p then some q else some false)=some (p&&q):=by cases p<;>rfl
theorem lB (p q:Bool):(bif p then some true else some q)=some (p || q):=by cases p<;>rfl
def ia (a b c:Int):Bool:=decide (b≤a)&&decide (a≤c)
theorem iG {a b c:Int}:ia a b c=true ↔ b≤a∧a≤c:=by simp [ia]
theorem ke (N:Nat) (a b c:Int):ir N a b c=some (ia a b c):=ns _ _
theorem C6 (N:Nat) (a b c:Int):ou N a b c=some (ia a b c):=ns _ _
def vr (n:Int):Bool:=ia n 0 1000000
theorem GF (N:Nat) (a:Int):nB N a=some (vr a):=by unfold nB;rw [ke];rfl
def iT (a:ig):Bool:=vr a.gE&&(vr a.gV&&vr a.hY)
theorem nq (N:Nat) (a:ig):jD N a=some (iT a):=by unfold jD;simp only [GF,HW,ns];rfl
def iN (a b:ig):ig:=ig.mk (i64.wrap (a.gE+b.gE)) (i64.wrap (a.gV+b.gV)) (i64.wrap (a.hY+b.hY))
def kj (a b:ig):ig×Bool:=if iT a&&iT b&&iT (iN a b) then (iN a b,true) else (a,false)
theorem ri (N:Nat) (a b:ig):k8 N a b=some (kj a b):=by
  unfold k8 kj;simp only [nq,HW,lB]
  show (bif (!iT a || !iT b) then some (a,false) else (bif !iT (iN a b) then some (a,false) else some (iN a b,true)))=_
  cases iT a<;>cases iT b<;>cases iT (iN a b)<;>rfl
def iU (l:iO):Bool:=((l.Hz.length:Int)==4)&&l.Hz.all fun y=>ia y 0 3
theorem nj {l:iO}:iU l=true ↔ l.Hz.length=4∧∀ y,y ∈ l.Hz→0≤y∧y≤3:=by
  simp only [iU,H3,List.all_eq_true,iG,beq_iff_eq];constructor
  · rintro ⟨h1,h2⟩;exact ⟨by omega,h2⟩
  · rintro ⟨h1,h2⟩;exact ⟨by omega,h2⟩
theorem qD {N:Nat} (hN:gS≤N) {l:iO} (hb:l.Hz.length<gS):k4 N l=some (iU l):=by
  unfold k4 iU;rw [jY l.Hz (fun _ y=>ia y 0 3) (.inl (l.Hz.length:Int)) (.inr false) (Nat.lt_of_lt_of_le hb hN),kq]
  · cases h:((l.Hz.length:Int)==4)
    · have:((l.Hz.length:Int) != 4)=true:=by simp [bne,h]
      simp [this]
    · have:((l.Hz.length:Int) != 4)=false:=by simp [bne,h]
      simp only [this,HX,HW,H0];cases l.Hz.all fun y=>ia y 0 3<;>rfl
  · intro k y hy hk;simp only [iX hk,HY,iz,hy,HW,ke,i5 (Nat.lt_trans hk hb)];cases ia y 0 3<;>rfl
  · simp only [iW,HX]
theorem w6 {N:Nat} (hN:gS≤N) {l:iO} (hb:l.Hz.length<gS):nf N l=some (iU l):=by
  unfold nf iU;rw [jY l.Hz (fun _ y=>ia y 0 3) (.inl (l.Hz.length:Int)) (.inr false) (Nat.lt_of_lt_of_le hb hN),kq]
  · simp only [HW];cases l.Hz.all fun y=>ia y 0 3<;>simp
  · intro k y hy hk;simp only [iX hk,HY,iz,hy,HW,C6,i5 (Nat.lt_trans hk hb)];cases ia y 0 3<;>rfl
  · simp only [iW,HX]
def rk (l:List Int) (k:Nat) (y:Int):Bool:=ia y 0 3&&match k with
  | 0=>true
  | j+1=>!decide (y≤(l[j]?).getD 0)
def kp (l:List Int):Bool:=allI (rk l) 0 l
theorem zX {l:List Int} {k:Nat} {y:Int} (hy:l[k]?=some y) (hk:k<l.length) (hb:l.length<gS) {N:Nat} :
    (bif (!(ia y 0 3)) then (some true) else (bif (decide ((k:Int) > 0)) then ((idx l (i64.wrap ((k:Int) - 1))).bind fun y18=>some (decide (y≤y18))) else (some false)):Option Bool)=some (!rk l k y):=by
  have hB:l.length<16777216:=hb;unfold rk
  cases k with
  | zero =>
    have:decide (((0:Nat):Int) > 0)=false:=by decide
    simp only [this,HX];cases ia y 0 3<;>rfl
  | succ j =>
    have:decide (((j+1:Nat):Int) > 0)=true:=by simp
    have e:i64.wrap (((j+1:Nat):Int) - 1)=(j:Int):=by rw [iC (by omega) (by omega)];omega
    have hz:l[j]?=some (l[j]'(by omega)):=List.getElem?_eq_getElem _;simp only [this,HY,e,iz,hz,HW,Option.getD_some];cases ia y 0 3<;>simp
theorem uf {N:Nat} (hN:gS≤N) {l:List Int} (hb:l.length<gS):mR N l=some (kp l):=by
  unfold mR kp;rw [jY l (rk l) (.inl (l.length:Int)) (.inr false) (Nat.lt_of_lt_of_le hb hN)]
  · simp only [HW];cases allI (rk l) 0 l<;>rfl
  · intro k y hy hk;simp only [iX hk,HY,iz,hy,HW,ke,i5 (Nat.lt_trans hk hb)];rw [zX hy hk hb (N:=N)];cases rk l k y<;>rfl
  · simp only [iW,HX]
theorem EH {N:Nat} (hN:gS≤N) {l:List Int} (hb:l.length<gS):qw N l=some (kp l):=by
  unfold qw kp;rw [jY l (rk l) (.inl (l.length:Int)) (.inr false) (Nat.lt_of_lt_of_le hb hN)]
  · simp only [HW];cases allI (rk l) 0 l<;>rfl
  · intro k y hy hk;simp only [iX hk,HY,iz,hy,HW,C6,i5 (Nat.lt_trans hk hb),ge_iff_le];rw [zX hy hk hb (N:=N)];cases rk l k y<;>rfl
  · simp only [iW,HX]
theorem Eu {N:Nat} (hN:gS≤N) {l:List Int} {x:Int} (hb:l.length<gS):∃ r,m6 N l x=some r∧decide (r ≥ 0)=l.contains x:=by
  unfold m6;have hB:l.length<16777216:=hb;rw [show (0:Int)=(fun (k:Nat) (_:Unit)=>(k:Int)) 0 () from rfl,mP l (fun k (_:Unit)=>(k:Int)) (fun k _ y=>if x==y then .inr (.inr (k:Int)) else .inl ()) (fun _=>.inl (l.length:Int)) (fun _ _=>True) ?_ ?_ (Nat.lt_of_lt_of_le hb hN) trivial]
  · simp only [HW]
    have key:∀ (m:List Int) (k:Nat), ∃ r,Sum.elim (fun _=>some (-1)) (fun r16=>some r16) (ly (ρ:=Int⊕Int) (fun (k:Nat) (_:Unit) y=>if x==y then .inr (.inr (k:Int)) else .inl ()) (fun _=>.inl (l.length:Int)) k () m)=some r∧decide (r ≥ 0)=m.contains x:=by
      intro m
      induction m with
      | nil=>intro k;exact ⟨-1,rfl,rfl⟩
      | cons y m ih =>
        intro k;cases hxy:(x==y)
        · obtain ⟨r,h1,h2⟩:=ih (k+1)
          have hne:x ≠ y:=by simpa using hxy
          refine ⟨r,by simpa [ly,hxy] using h1,by rw [h2];simp [List.contains_cons,hne]⟩
        · have he:x=y:=by simpa using hxy
          exact ⟨k,by simp [ly,hxy],by simp [List.contains_cons,he]⟩
    exact key l 0
  · intro k _ y hy hk _;simp only [iX hk,HY,iz,hy,HW,i5 (Nat.lt_trans hk hb)];cases (x==y)<;>simp
  · intro _ _;simp only [iW,HX]
theorem Bj {N:Nat} (hN:gS≤N) {l:List Int} {x:Int} (hb:l.length<gS):lS N l x=some (l.contains x):=by
  unfold lS;obtain ⟨r,h1,h2⟩:=Eu hN hb (x:=x);rw [h1,HW,h2]
def mL (b:List Int):Nat→List Int→List Int
  | _,[]=>[]
  | k,y::l=>if decide (y > (b[k]?).getD 0) then (k:Int)::mL b (k+1) l else mL b (k+1) l
theorem vj (b:List Int):∀ (l:List Int) (k:Nat),(mL b k l).length≤l.length
  | [],_=>Nat.le_refl _
  | y::l,k=>by
    unfold mL;have:=vj b l (k+1);split<;>simp<;>omega
theorem uM (b:List Int):∀ (l:List Int) (k:Nat) (acc:List Int),foldI (fun k (acc:List Int) y=>if decide (y > (b[k]?).getD 0) then acc++[(k:Int)] else acc) k acc l=acc++mL b k l
  | [],_,acc=>by simp [foldI,mL]
  | y::l,k,acc=>by
    unfold foldI mL;rw [uM b l];cases decide (y > (b[k]?).getD 0)<;>simp
theorem D1 {N:Nat} (hN:gS≤N) {a b:iO} (ha:a.Hz.length<gS) (hab:a.Hz.length≤b.Hz.length):qC N a b=some (mL b.Hz 0 a.Hz):=by
  unfold qC
  rw [show (([]:List Int),(0:Int))=(fun (k:Nat) (t:List Int)=>(t,(k:Int))) 0 [] from rfl,
    jQ a.Hz (fun k (t:List Int)=>(t,(k:Int))) (fun k acc y=>if decide (y > (b.Hz[k]?).getD 0) then acc++[(k:Int)] else acc) (fun t=>(t,(a.Hz.length:Int))) (fun k t=>t.length≤k) ?_ ?_ (Nat.lt_of_lt_of_le ha hN) (by simp),uM]
  · simp
  · intro k t y hy hk hI;have hz:b.Hz[k]?=some (b.Hz[k]'(by omega)):=List.getElem?_eq_getElem _;simp only [iX hk,HY,iz,hy,hz,HW,Option.getD_some,i5 (Nat.lt_trans hk ha)];cases decide (y > b.Hz[k]'(by omega))
    · exact ⟨rfl,by simp;omega⟩
    · have:app t [(k:Int)]=some (t++[(k:Int)]):=by unfold app;rw [if_pos (by simp;omega)]
      simp only [this,HW,HY,if_true];exact ⟨trivial,by simp;omega⟩
  · intro t _;simp only [iW,HX]
def my (own:List Int) (a b:iO):Bool:=kp own&&(iU a&&(iU b&&allI (fun k y=>!decide (y > (b.Hz[k]?).getD 0) || own.contains (k:Int)) 0 a.Hz))
theorem w7 (b:List Int) (q:Int→Bool):∀ (l:List Int) (k:Nat),(mL b k l).all q=allI (fun k y=>!decide (y > (b[k]?).getD 0) || q (k:Int)) k l
  | [],_=>rfl
  | y::l,k=>by
    unfold mL allI;rw [← w7 b q l (k+1)];cases decide (y > (b[k]?).getD 0)<;>simp
theorem Bb {N:Nat} (hN:gS≤N) {own:List Int} {a b:iO} (ho:own.length<gS) (ha:a.Hz.length<gS) (hb:b.Hz.length<gS):nC N own a b=some (my own a b):=by
  unfold nC my;simp only [EH hN ho,w6 hN ha,w6 hN hb,HW,lB];cases h1:kp own
  · rfl
  cases h2:iU a
  · rfl
  cases h3:iU b
  · rfl
  have l2:=(nj.1 h2).1;have l3:=(nj.1 h3).1;have hl:=vj b.Hz a.Hz 0;have hB:(mL b.Hz 0 a.Hz).length<gS:=Nat.lt_of_le_of_lt hl ha;simp only [HZ,Bool.or_self,HX,D1 hN ha (b:=b) (by omega),HW,H0];rw [jY (mL b.Hz 0 a.Hz) (fun _ y=>own.contains y) (.inl ((mL b.Hz 0 a.Hz).length:Int)) (.inr false) (Nat.lt_of_lt_of_le hB hN),kq,w7]
  · simp only [HW];cases allI _ 0 a.Hz<;>rfl
  · intro k y hy hk;simp only [iX hk,HY,iz,hy,HW,Bj hN ho,i5 (Nat.lt_trans hk hB)];cases own.contains y<;>rfl
  · simp only [iW,HX]
def vN (a b:iO):Bool:=my [] a b
theorem D4 {N:Nat} (hN:gS≤N) {a b:iO} (ha:a.Hz.length<gS) (hb:b.Hz.length<gS):qy N a b=some (vN a b):=by
  unfold qy vN;rw [Bb hN (by decide) ha hb];rfl
theorem EM {α ρ:Type} {body:Int→Option (Int⊕ρ)} (x:List α) (h4:x.length=4) (p:Nat→α→Bool) (r r':ρ) {N:Nat} (hN:gS≤N)
    (hs:∀ (k:Nat) (y:α),x[k]?=some y→k<4→decide ((k:Int)<4)=true→body (k:Int)=some (if p k y then .inl ((k+1:Nat):Int) else .inr r')) (he:body 4=some (.inr r)):iter body N 0=some (if allI p 0 x then r else r') :=
  jY x p r r' (by have:16777216≤N:=hN;omega) (fun k y hy hk=>hs k y hy (by omega) (by simp;omega)) (by rw [h4];exact he)
def qm:ig→List iu→Bool
  | _,[]=>true
  | a,b::l=>(kj a b.i7).2&&(iU b.HB&&(kp b.own&&qm (kj a b.i7).1 l))
def lC (l:List iu):Bool:=qm ⟨0,0,0⟩ l&&ia (l.length:Int) 1 3
theorem vT (e:Int) (g:Nat→ig→iu→ig⊕((Int×Int×Int×Int)⊕Bool)) (fin:ig→((Int×Int×Int×Int)⊕Bool)) (k:Option Bool)
    (hg:∀ k t y,g k t y=if (kj t y.i7).2&&(iU y.HB&&kp y.own) then .inl (kj t y.i7).1 else .inr (.inr false)) (hf:∀ t, ∃ v,fin t=.inl v) :
    ∀ (l:List iu) (j:Nat) (t:ig),Sum.elim (fun _=>k) (fun r=>some r) (ly g fin j t l)=bif qm t l then k else some false
  | [],j,t=>by obtain ⟨v,hv⟩:=hf t;simp [ly,qm,hv]
  | b::l,j,t=>by
    have ih:=vT e g fin k hg hf l (j+1);simp only [ly,qm,hg];cases (kj t b.i7).2
    · rfl
    cases iU b.HB
    · rfl
    cases kp b.own
    · rfl
    simpa using ih _
theorem Cv {l:List iu} {y:iu} (hb:iL iR l<gS) (hy:y ∈ l):y.HB.Hz.length<gS∧y.own.length<gS:=by
  have:=jG hb hy;unfold iR jJ at this;omega
theorem yt {N:Nat} (hN:gS≤N) {l:List iu} (hb:iL iR l<gS):oo N l=some (lC l):=by
  have hl:=lr hb;have hN':16777216≤N:=hN;have hlB:l.length<16777216:=hl;unfold oo lC
  rw [show ((0:Int),(0:Int),(0:Int),(0:Int))=(fun (k:Nat) (t:ig)=>((k:Int),t.gE,t.gV,t.hY)) 0 ⟨0,0,0⟩ from rfl,
    mP (l.take 3) (fun (k:Nat) (t:ig)=>((k:Int),t.gE,t.gV,t.hY)) (fun k t y=>if (kj t y.i7).2&&(iU y.HB&&kp y.own) then .inl (kj t y.i7).1 else .inr (.inr false)) (fun t=>.inl (((l.take 3).length:Int),t.gE,t.gV,t.hY)) (fun _ _=>True) ?_ ?_ (by simp;omega) trivial]
  · simp only [HW,ke];rw [vT 0 _ _ _ (fun _ _ _=>rfl) (fun t=>⟨_,rfl⟩),ns]
    rcases Nat.lt_or_ge 3 l.length with h | h
    · have:ia (l.length:Int) 1 3=false:=by simp [ia];omega
      simp [this]
    · rw [List.take_of_length_le h]
  · intro k t y hy hk _
    have hk2:k<3∧k<l.length:=by simp at hk;omega
    rw [List.getElem?_take_of_lt hk2.1] at hy;obtain ⟨b1,b2⟩:=Cv hb (List.mem_of_getElem? hy);refine ⟨?_,fun _ _=>trivial⟩
    have h3:decide ((k:Int)<3)=true:=by simp;omega
    simp only [iX hk2.2,h3,HY,iz,hy,HW,ri,qD hN b1,uf hN b2,lB,i5 (show k<gS from Nat.lt_trans hk2.1 (by decide))];cases h1:(kj t y.i7).2
    · cases iU y.HB<;>cases kp y.own<;>rfl
    cases iU y.HB
    · rfl
    cases kp y.own<;>rfl
  · intro t _;simp only [List.length_take]
    rcases Nat.lt_or_ge 3 l.length with h | h
    · have e:min 3 l.length=3:=by omega
      have h3:decide (((3:Nat):Int)<(l.length:Int))=true:=by simp;omega
      simp only [e,h3,HY];rfl
    · have e:min 3 l.length=l.length:=by omega
      simp only [e,iW,HX,HW]
def seen (bs:List iu) (e:iq) (l:iO):Bool:=e.HA==1 || (ia e.HS 0 ((bs.length:Int) - 1)&&vN ((bs[e.HS.toNat]?).getD gT.zero).HB l)
theorem Af {bs:List iu} {p:Int} (h:ia p 0 ((bs.length:Int) - 1)=true):idx bs p=some ((bs[p.toNat]?).getD gT.zero)∧(bs[p.toNat]?).getD gT.zero ∈ bs:=by
  rw [iG] at h;have hz:bs[p.toNat]?=some (bs[p.toNat]'(by omega)):=List.getElem?_eq_getElem _;unfold idx;rw [if_pos h.1,hz];exact ⟨rfl,List.getElem_mem _⟩
theorem BL {N:Nat} (hN:gS≤N) {bs:List iu} {e:iq} {l:iO} (hb:iL iR bs<gS) (hl:l.Hz.length<gS):qe N bs e l=some (seen bs e l):=by
  have hlB:bs.length<16777216:=lr hb;unfold qe seen;rw [C6,HW,iC (by omega) (by omega)];cases e.HA==1
  · cases h:ia e.HS 0 ((bs.length:Int) - 1)
    · rfl
    · obtain ⟨h1,h2⟩:=Af h;simp only [HX,HY,h1,HW,D4 hN (Cv hb h2).1 hl,Bool.false_or,H0]
  · rfl
end Go.Kx
namespace Go.Kx
open Go
open Go.IntKind (i64)
set_option linter.unusedVariables false
set_option linter.unusedSimpArgs false
set_option maxRecDepth 10000
def pX (l:List iq):Nat:=(l.filter fun e=>e.HA==1).length
theorem vV:∀ (l:List iq) (k:Nat) (t:Int),foldI (fun _ (t:Int) (e:iq)=>if e.HA==1 then t+1 else t) k t l=t+(pX l:Int)
  | [],_,t=>by simp [foldI,pX]
  | y::l,k,t=>by
    unfold foldI;rw [vV l];unfold pX;rw [List.filter_cons];cases y.HA==1
    · rfl
    · simp only [if_true,List.length_cons];omega
theorem ur {N:Nat} (hN:gS≤N) {l:List iq} (hl:l.length<gS):n4 N l=some (pX l:Int):=by
  have hB:(16777216:Nat)=gS:=rfl;unfold n4
  rw [show ((0:Int),(0:Int))=(fun (k:Nat) (t:Int)=>(t,(k:Int))) 0 0 from rfl,
    jQ l (fun (k:Nat) (t:Int)=>(t,(k:Int))) (fun _ t e=>if e.HA==1 then t+1 else t) (fun t=>(t,(l.length:Int))) (fun k t=>0≤t∧t≤(k:Int)) ?_ ?_ (Nat.lt_of_lt_of_le hl hN) (by simp),vV]
  · show some (0+(pX l:Int))=_
    rw [Int.zero_add]
  · intro k t y hy hk ht;simp only [iX hk,HY,iz,hy,HW,i5 (Nat.lt_trans hk hl)];rw [iC (n:=t+1) (by omega) (by omega)];cases y.HA==1
    · exact ⟨rfl,by simp only [Bool.false_eq_true,if_false];omega⟩
    · exact ⟨rfl,by simp only [if_true];omega⟩
  · intro t _;simp only [iW,HX]
theorem Ez {N:Nat} (hN:gS≤N) {l:List iq} (hl:l.length<gS):rS N l=some (pX l:Int):=ur hN hl
end Go.Kx
namespace Go.Kx
open Go
open Go.IntKind (i64)
set_option linter.unusedVariables false
set_option linter.unusedSimpArgs false
set_option maxRecDepth 10000
theorem sD {σ ρ:Type} {body:σ→Option (σ⊕ρ)} (I:σ→Prop) (J:ρ→Prop) (μ:σ→Nat)
    (h:∀ s,I s→∃ o,body s=some o∧(∀ s',o=.inl s'→I s'∧μ s'<μ s)∧∀ r,o=.inr r→J r):∀ (N:Nat) (s:σ),I s→μ s<N→∃ r,iter body N s=some r∧J r
  | 0,_,_,hN=>absurd hN (Nat.not_lt_zero _)
  | N+1,s,hI,hN=>by
    obtain ⟨o,ho,h1,h2⟩:=h s hI
    cases o with
    | inl s' =>
      obtain ⟨hI',hm⟩:=h1 s' rfl;obtain ⟨r,hr,hJ⟩:=sD I J μ h N s' hI' (by omega);exact ⟨r,by show (body s).bind _=_;rw [ho];exact hr,hJ⟩
    | inr r=>exact ⟨r,by show (body s).bind _=_;rw [ho];rfl,h2 r rfl⟩
theorem tX {α:Type} {l:List α} {i:Int} (h0:0≤i) (h1:i<(l.length:Int)):∃ y,idx l i=some y∧y ∈ l:=by
  have hz:l[i.toNat]?=some (l[i.toNat]'(by omega)):=List.getElem?_eq_getElem _;exact ⟨_,by unfold idx;rw [if_pos h0,hz],List.getElem_mem _⟩
theorem zT (a:Int) {m:Int} (h0:0≤m) (h1:m≤2147483647):0≤tj a m∧tj a m≤m:=by
  have h:(BitVec.ofInt IntKind.i64.bits a &&& BitVec.ofInt IntKind.i64.bits m).toNat≤m.toNat:=by
    rw [BitVec.toNat_and];refine Nat.le_trans Nat.and_le_right ?_;rw [BitVec.toNat_ofInt]
    show (m % ((2 ^ 64:Nat):Int)).toNat≤m.toNat
    rw [Int.emod_eq_of_lt h0 (by omega)];exact Nat.le_refl _
  unfold tj;rw [iC (by omega) (by omega)];omega
def Cu (c:hD):Prop:=c.b.length≤1048576∧0≤c.i
theorem Cu.to {c:hD} (hc:Cu c) {i h:Int} (hi:0≤i):Cu ⟨c.b,i,h⟩:=⟨hc.1,hi⟩
theorem Gq {N:Nat} (hN:gS≤N) {l:List U8} (hl:l.length≤1048576):∃ h,pI N l=some ⟨l,0,h⟩:=by
  unfold pI;have hB:(16777216:Nat)≤N:=hN
  obtain ⟨r,hr,_⟩:=sD (body:=fun (s1:Int×Int)=>((bif (decide (s1.2<(l.length:Int))) then (some (decide (s1.2<4000))) else (some false):Option Bool).bind fun j3=>bif j3 then ((idx l s1.2).bind fun y8=>some (.inl (tj (i64.wrap ((i64.wrap ((i64.wrap (s1.1 * 131))+(i64.wrap y8.v)))+7)) 1073741823,i64.wrap (s1.2+1)))) else (some (.inr (s1.1,s1.2))):Option ((Int×Int)⊕(Int×Int))))
    (fun s=>0≤s.2∧s.2≤(l.length:Int)) (fun _=>True) (fun s=>((l.length:Int) - s.2).toNat) (by
      rintro ⟨h,i⟩ ⟨h0,h1⟩;simp only at h0 h1
      cases hlt:decide (i<(l.length:Int)) with
      | false=>exact ⟨_,by simp only [hlt,HX,HW];rfl,by simp,fun _ _=>trivial⟩
      | true =>
        have h2:=of_decide_eq_true hlt
        cases h4:decide (i<4000) with
        | false=>exact ⟨_,by simp only [hlt,h4,HX,HY,HW];rfl,by simp,fun _ _=>trivial⟩
        | true =>
          obtain ⟨y,hy,_⟩:=tX h0 h2;refine ⟨_,by simp only [hlt,h4,hy,HY,HW];rfl,?_,by simp⟩;rintro s' hs;cases Sum.inl.inj hs;simp only;rw [iC (by omega) (by omega)]
          omega) N (i64.wrap (10101+(l.length:Int)),0) ⟨Int.le_refl _,by simp⟩ (by simp only;omega)
  rw [hr];exact ⟨r.1,rfl⟩
theorem tB {N:Nat} {c:hD} (hc:Cu c):∃ x i h,lD N c=some (x,⟨c.b,i,h⟩)∧0≤i∧0≤x∧x≤255:=by
  unfold lD;obtain ⟨hb,hi⟩:=hc
  cases hlt:decide (c.i<(c.b.length:Int)) with
  | true =>
    have h1:=of_decide_eq_true hlt;obtain ⟨y,hy,_⟩:=tX hi h1;simp only [hy,HY,HW];exact ⟨_,_,_,rfl,by rw [iC (by omega) (by omega)];omega,zT _ (by decide) (by decide)⟩
  | false=>exact ⟨_,_,_,rfl,hi,zT _ (by decide) (by decide)⟩
theorem yS {a n:Int} (ha:0≤a) (hn:0<n):0≤Int.tmod a n∧Int.tmod a n<n:=by
  rw [Int.tmod_eq_emod_of_nonneg ha];exact ⟨Int.emod_nonneg _ (by omega),Int.emod_lt_of_pos _ hn⟩
theorem DA {n:Int} (h:n ≠ 0):dz n=some ():=by unfold dz;rw [if_neg h]
theorem pB {N:Nat} {c:hD} (hc:Cu c) (n:Int):∃ x i h,ic N c n=some (x,⟨c.b,i,h⟩)∧0≤i∧0≤x∧(0<n→x<n)∧(n≤0→x=0):=by
  unfold ic
  cases h0:decide (n≤0) with
  | true=>exact ⟨0,c.i,c.h,rfl,hc.2,Int.le_refl _,fun h=>h,fun _=>rfl⟩
  | false =>
    have hn:=of_decide_eq_false h0;simp only [HX]
    cases h1:decide (n≤256) with
    | true =>
      obtain ⟨x,i,h,e,hi,hx,_⟩:=tB (N:=N) hc;simp only [HY,e,HW,DA (show n ≠ 0 by omega)];obtain ⟨q1,q2⟩:=yS hx (show 0<n by omega);exact ⟨_,i,h,rfl,hi,q1,fun _=>q2,fun h=>by omega⟩
    | false =>
      obtain ⟨x1,i1,h1,e1,hi1,hx1,hy1⟩:=tB (N:=N) hc;obtain ⟨x2,i2,h2,e2,hi2,hx2,hy2⟩:=tB (N:=N) (hc.to (h:=h1) hi1);obtain ⟨x3,i3,h3,e3,hi3,hx3,hy3⟩:=tB (N:=N) (hc.to (h:=h2) hi2);obtain ⟨x4,i4,h4,e4,hi4,hx4,hy4⟩:=tB (N:=N) (hc.to (h:=h3) hi3);simp only [HX,e1,e2,e3,e4,HW,DA (show n ≠ 0 by omega)]
      rw [iC (n:=x1 * 16777216) (by omega) (by omega),iC (n:=x2 * 65536) (by omega) (by omega),iC (n:=x3 * 256) (by omega) (by omega),
        iC (n:=x1 * 16777216+x2 * 65536) (by omega) (by omega),iC (n:=x1 * 16777216+x2 * 65536+x3 * 256) (by omega) (by omega),iC (n:=x1 * 16777216+x2 * 65536+x3 * 256+x4) (by omega) (by omega)]
      obtain ⟨q1,q2⟩:=yS (show 0≤x1 * 16777216+x2 * 65536+x3 * 256+x4 by omega) (show 0<n by omega);exact ⟨_,i4,h4,rfl,hi4,q1,fun _=>q2,fun h=>by omega⟩
theorem yR {N:Nat} {c:hD} (hc:Cu c) (n:Int):∃ x i h,ji N c n=some (x,⟨c.b,i,h⟩)∧0≤i:=by
  unfold ji;obtain ⟨x,i,h,e,hi,_⟩:=pB (N:=N) hc n;simp only [e,HW];exact ⟨_,i,h,rfl,hi⟩
theorem tH {N:Nat} {c:hD} (hc:Cu c) {l:List Int} (hl:0<l.length):∃ x i h,jl N c l=some (x,⟨c.b,i,h⟩)∧0≤i∧x ∈ l:=by
  unfold jl;obtain ⟨x,i,h,e,hi,hx,hy,_⟩:=pB (N:=N) hc (l.length:Int);obtain ⟨y,hy,hm⟩:=tX hx (hy (by omega));simp only [e,HW,hy];exact ⟨_,i,h,rfl,hi,hm⟩
theorem sR {α:Type} {t:List α} {z:α} (h:t.length≤1000000):app t [z]=some (t++[z]):=by
  have:(16777216:Nat)=gS:=rfl;unfold app;rw [if_pos (by simp only [List.length_cons,List.length_nil];omega)]
theorem Ab {N:Nat} (hN:gS≤N) {c:hD} (hc:Cu c):∃ x i h,mq N c=some (x,⟨c.b,i,h⟩)∧0≤i∧x.Hz.length=4∧∀ y,y ∈ x.Hz→0≤y∧y≤3:=by
  unfold mq;have hB:(16777216:Nat)≤N:=hN
  obtain ⟨r,hr,hJ⟩:=sD (body:=fun (s6:Int×Int×Int×(List Int))=>(bif (decide (s6.1<4)) then ((ic N (hD.mk c.b s6.2.1 s6.2.2.1) 4).bind fun y9=>(app s6.2.2.2 ([y9.1]:List Int)).bind fun y16=>some (.inl (i64.wrap (s6.1+1),y9.2.i,y9.2.h,y16))) else (some (.inr (s6.1,s6.2.1,s6.2.2.1,s6.2.2.2))):Option ((Int×Int×Int×(List Int))⊕(Int×Int×Int×(List Int)))))
    (fun s=>0≤s.1∧s.1≤4∧0≤s.2.1∧(s.2.2.2.length:Int)=s.1∧∀ y,y ∈ s.2.2.2→0≤y∧y≤3) (fun s=>0≤s.2.1∧s.2.2.2.length=4∧∀ y,y ∈ s.2.2.2→0≤y∧y≤3) (fun s=>(4 - s.1).toNat) (by
      rintro ⟨k,i,h,l⟩ ⟨h0,h1,h2,h3,h4⟩;simp only at h0 h1 h2 h3 h4
      cases hlt:decide (k<4) with
      | false =>
        have:=of_decide_eq_false hlt;refine ⟨_,by simp only [hlt,HX];rfl,by simp,fun r hr=>?_⟩;cases Sum.inr.inj hr;exact ⟨h2,by simp only;omega,h4⟩
      | true =>
        have:=of_decide_eq_true hlt;obtain ⟨x,i',h',e,hi,hx,hy,_⟩:=pB (N:=N) (hc.to (h:=h) h2) 4;refine ⟨_,by simp only [hlt,HY,e,HW,sR (t:=l) (z:=x) (by omega)];rfl,?_,by simp⟩;rintro s' hs;cases Sum.inl.inj hs;simp only;rw [iC (by omega) (by omega)];refine ⟨⟨by omega,by omega,hi,by simp only [List.length_append,List.length_cons,List.length_nil];omega,fun y hm=>?_⟩,by omega⟩
        rcases List.mem_append.1 hm with hm | hm
        · exact h4 y hm
        · rw [List.mem_singleton] at hm;have:=hy (by omega)
          omega) N (0,c.i,c.h,[]) ⟨Int.le_refl _,by simp,hc.2,rfl,by simp⟩ (by simp only;omega)
  rw [hr];exact ⟨_,_,_,rfl,hJ.1,hJ.2.1,hJ.2.2⟩
theorem AL {N:Nat} (hN:gS≤N) {c:hD} (hc:Cu c):∃ x i h,nK N c=some (x,⟨c.b,i,h⟩)∧0≤i∧x.Hz.length≤5:=by
  unfold nK;obtain ⟨x,i,h,e,hi,hl,_⟩:=Ab hN hc;obtain ⟨x1,i1,h1,e1,hi1,_⟩:=pB (N:=N) (hc.to (h:=h) hi) 14;obtain ⟨x2,i2,h2,e2,hi2,hx2,hy2,_⟩:=pB (N:=N) (hc.to (h:=h1) hi1) 4;have hy2:=hy2 (by decide);obtain ⟨x3,i3,h3,e3,hi3,_⟩:=tH (N:=N) (hc.to (h:=h2) hi2) (l:=[-1,4]) (by decide);simp only [e,e1,HW];cases x1==0
  · cases x1==1
    · cases x1==2
      · exact ⟨_,i1,h1,rfl,hi1,by simp only;omega⟩
      · simp only [HY,HX,sR (t:=x.Hz) (z:=0) (by omega),HW];exact ⟨_,i1,h1,rfl,hi1,by simp only [List.length_append,List.length_cons,List.length_nil];omega⟩
    · obtain ⟨y,hy,_⟩:=tX (l:=x.Hz) hx2 (by omega);simp only [HY,HX,e2,e3,hy,HW];exact ⟨_,i3,h3,rfl,hi3,by simp only [List.length_set];omega⟩
  · have hs:sub x.Hz 0 x2=some ((x.Hz.drop (0:Int).toNat).take (x2.toNat - (0:Int).toNat)):=by unfold sub;rw [if_pos ⟨Int.le_refl _,hx2,by omega⟩]
    simp only [HY,e2,hs,HW];exact ⟨_,i2,h2,rfl,hi2,by simp only [List.length_take,List.length_drop];omega⟩
theorem Gi {N:Nat} (hN:gS≤N) {c:hD} (hc:Cu c):∃ x i h,pE N c=some (x,⟨c.b,i,h⟩)∧0≤i∧x.length≤5:=by
  unfold pE;have hB:(16777216:Nat)≤N:=hN
  obtain ⟨r,hr,hJ⟩:=sD (body:=fun (s4:(List Int)×Int×Int×Int)=>(bif (decide (s4.2.1<4)) then ((ji N (hD.mk c.b s4.2.2.1 s4.2.2.2) 3).bind fun y7=>bif y7.1 then ((app s4.1 [s4.2.1]).bind fun y14=>some (.inl (y14,i64.wrap (s4.2.1+1),y7.2.i,y7.2.h))) else (some (.inl (s4.1,i64.wrap (s4.2.1+1),y7.2.i,y7.2.h)))) else (some (.inr (s4.1,s4.2.1,s4.2.2.1,s4.2.2.2))):Option (((List Int)×Int×Int×Int)⊕((List Int)×Int×Int×Int))))
    (fun s=>0≤s.2.1∧s.2.1≤4∧0≤s.2.2.1∧(s.1.length:Int)≤s.2.1) (fun s=>0≤s.2.2.1∧s.1.length≤4) (fun s=>(4 - s.2.1).toNat) (by
      rintro ⟨l,k,i,h⟩ ⟨h0,h1,h2,h3⟩;simp only at h0 h1 h2 h3
      cases hlt:decide (k<4) with
      | false =>
        have:=of_decide_eq_false hlt;refine ⟨_,by simp only [hlt,HX];rfl,by simp,fun r hr=>?_⟩;cases Sum.inr.inj hr;exact ⟨h2,by simp only;omega⟩
      | true =>
        have:=of_decide_eq_true hlt;obtain ⟨x,i',h',e,hi⟩:=yR (N:=N) (hc.to (h:=h) h2) 3
        cases x with
        | false =>
          refine ⟨_,by simp only [hlt,HY,HX,e,HW];rfl,?_,by simp⟩;rintro s' hs;cases Sum.inl.inj hs;simp only;rw [iC (by omega) (by omega)];exact ⟨⟨by omega,by omega,hi,by omega⟩,by omega⟩
        | true =>
          refine ⟨_,by simp only [hlt,HY,e,HW,sR (t:=l) (z:=k) (by omega)];rfl,?_,by simp⟩;rintro s' hs;cases Sum.inl.inj hs;simp only;rw [iC (by omega) (by omega)]
          exact ⟨⟨by omega,by omega,hi,by simp only [List.length_append,List.length_cons,List.length_nil];omega⟩,by omega⟩) N ([],0,c.i,c.h) ⟨Int.le_refl _,by simp,hc.2,by simp⟩ (by simp only;omega)
  rw [hr];obtain ⟨j1,j2⟩:=hJ;obtain ⟨x1,i1,h1,e1,hi1,_⟩:=pB (N:=N) (hc.to (h:=r.2.2.2) j1) 20;simp only [e1,HW,sR (t:=r.1) (z:=(4:Int)) (by omega),sR (t:=r.1) (z:=(0:Int)) (by omega)];cases x1==0
  · cases x1==1
    · exact ⟨_,i1,h1,rfl,hi1,by omega⟩
    · exact ⟨_,i1,h1,rfl,hi1,by simp only [List.length_append,List.length_cons,List.length_nil];omega⟩
  · exact ⟨_,i1,h1,rfl,hi1,by simp only [List.length_append,List.length_cons,List.length_nil];omega⟩
theorem AN {N:Nat} {c:hD} (hc:Cu c):∃ x i h,og N c=some (x,⟨c.b,i,h⟩)∧0≤i:=by
  unfold og;obtain ⟨x,i,h,e,hi⟩:=yR (N:=N) hc 20;simp only [e,HW];cases x
  · obtain ⟨x1,i1,h1,e1,hi1,_⟩:=pB (N:=N) (hc.to (h:=h) hi) 60;simp only [HX,e1,HW];exact ⟨_,i1,h1,rfl,hi1⟩
  · obtain ⟨x1,i1,h1,e1,hi1,_⟩:=tH (N:=N) (hc.to (h:=h) hi) (l:=[-1,1000000,1000001,999999]) (by decide);simp only [HY,e1,HW];exact ⟨_,i1,h1,rfl,hi1⟩
theorem Gc {N:Nat} {c:hD} (hc:Cu c):∃ x i h,pL N c=some (x,⟨c.b,i,h⟩)∧0≤i:=by
  unfold pL;obtain ⟨x1,i1,h1,e1,hi1⟩:=AN (N:=N) hc;obtain ⟨x2,i2,h2,e2,hi2⟩:=AN (N:=N) (hc.to (h:=h1) hi1);obtain ⟨x3,i3,h3,e3,hi3⟩:=AN (N:=N) (hc.to (h:=h2) hi2);simp only [e1,e2,e3,HW];exact ⟨_,i3,h3,rfl,hi3⟩
end Go.Kx
