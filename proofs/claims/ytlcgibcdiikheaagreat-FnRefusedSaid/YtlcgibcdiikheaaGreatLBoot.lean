import Derived.Test.YtlcgibcdiikheaaGreatHa
namespace Go.Kx
open Go
open Go.IntKind (i64)
set_option linter.unusedVariables false
set_option linter.unusedSimpArgs false
set_option maxRecDepth 10000
theorem mj (p q:Bool):(bif p then some q else some false)=some (p&&q):=by cases p<;>rfl
theorem lq (p q:Bool):(bif p then some true else some q)=some (p || q):=by cases p<;>rfl
def iA (a b c:Int):Bool:=decide (b≤a)&&decide (a≤c)
theorem iS {a b c:Int}:iA a b c=true ↔ b≤a∧a≤c:=by simp [iA]
theorem nE (N:Nat) (a b c:Int):jf N a b c=some (iA a b c):=mj _ _
theorem nO (N:Nat) (a b c:Int):ji N a b c=some (iA a b c):=mj _ _
def v7 (n:Int):Bool:=iA n 0 1000000
theorem OM (N:Nat) (a:Int):rT N a=some (v7 a):=by unfold rT;rw [nE];rfl
theorem A0 (N:Nat) (a:Int):nF N a=some (v7 a):=by unfold nF;rw [nO];rfl
def iU (a:ic):Bool:=v7 a.bh&&(v7 a.ib&&v7 a.ij)
theorem sm (N:Nat) (a:ic):kZ N a=some (iU a):=by unfold kZ;simp only [OM,PT,mj];rfl
theorem so (N:Nat) (a:ic):lg N a=some (iU a):=by unfold lg;simp only [A0,PT,mj];rfl
def iV (a b:ic):ic:=ic.mk (i64.wrap (a.bh+b.bh)) (i64.wrap (a.ib+b.ib)) (i64.wrap (a.ij+b.ij))
def kv (a b:ic):ic×Bool:=if iU a&&iU b&&iU (iV a b) then (iV a b,true) else (a,false)
theorem wI (N:Nat) (a b:ic):ns N a b=some (kv a b):=by
  unfold ns kv;simp only [sm,PT,lq]
  show (bif (!iU a || !iU b) then some (a,false) else (bif !iU (iV a b) then some (a,false) else some (iV a b,true)))=_
  cases iU a<;>cases iU b<;>cases iU (iV a b)<;>rfl
theorem uU (N:Nat) (a b:ic):m5 N a b=some (iV a b):=rfl
theorem KL (N:Nat) (a b:ic):uE N a b=some (kv a b):=by
  unfold uE kv;simp only [so,uU,PT,lq];cases iU a<;>cases iU b<;>cases iU (iV a b)<;>rfl
def jH (l:jE):Bool:=((l.PA.length:Int)==4)&&l.PA.all fun y=>iA y 0 3
theorem vg {l:jE}:jH l=true ↔ l.PA.length=4∧∀ y,y ∈ l.PA→0≤y∧y≤3:=by
  simp only [jH,PY,List.all_eq_true,iS,beq_iff_eq];constructor
  · rintro ⟨h1,h2⟩;exact ⟨by omega,h2⟩
  · rintro ⟨h1,h2⟩;exact ⟨by omega,h2⟩
theorem vl {N:Nat} (hN:ir≤N) {l:jE} (hb:l.PA.length<ir):nq N l=some (jH l):=by
  unfold nq jH;rw [kz l.PA (fun _ y=>iA y 0 3) (.inl (l.PA.length:Int)) (.inr false) (Nat.lt_of_lt_of_le hb hN),lp]
  · cases h:((l.PA.length:Int)==4)
    · have:((l.PA.length:Int) != 4)=true:=by simp [bne,h]
      simp [this]
    · have:((l.PA.length:Int) != 4)=false:=by simp [bne,h]
      simp only [this,PU,PT,PX];cases l.PA.all fun y=>iA y 0 3<;>rfl
  · intro k y hy hk;simp only [jy hk,PV,iY,hy,PT,nE,jB (Nat.lt_trans hk hb)];cases iA y 0 3<;>rfl
  · simp only [jz,PU]
theorem yw {N:Nat} (hN:ir≤N) {l:jE} (hb:l.PA.length<ir):pf N l=some (jH l):=by
  unfold pf jH;rw [kz l.PA (fun _ y=>iA y 0 3) (.inl (l.PA.length:Int)) (.inr false) (Nat.lt_of_lt_of_le hb hN),lp]
  · simp only [PT];cases l.PA.all fun y=>iA y 0 3<;>simp
  · intro k y hy hk;simp only [jy hk,PV,iY,hy,PT,nO,jB (Nat.lt_trans hk hb)];cases iA y 0 3<;>rfl
  · simp only [jz,PU]
def xM (l:List Int) (k:Nat) (y:Int):Bool:=iA y 0 3&&match k with
  | 0=>true
  | j+1=>!decide (y≤(l[j]?).getD 0)
def mQ (l:List Int):Bool:=allI (xM l) 0 l
theorem GJ {l:List Int} {k:Nat} {y:Int} (hy:l[k]?=some y) (hk:k<l.length) (hb:l.length<ir) {N:Nat} :
    (bif (!(iA y 0 3)) then (some true) else (bif (decide ((k:Int) > 0)) then ((idx l (i64.wrap ((k:Int) - 1))).bind fun y18=>some (decide (y≤y18))) else (some false)):Option Bool)=some (!xM l k y):=by
  have hB:l.length<16777216:=hb;unfold xM
  cases k with
  | zero =>
    have:decide (((0:Nat):Int) > 0)=false:=by decide
    simp only [this,PU];cases iA y 0 3<;>rfl
  | succ j =>
    have:decide (((j+1:Nat):Int) > 0)=true:=by simp
    have e:i64.wrap (((j+1:Nat):Int) - 1)=(j:Int):=by rw [iE (by omega) (by omega)];omega
    have hz:l[j]?=some (l[j]'(by omega)):=List.getElem?_eq_getElem _;simp only [this,PV,e,iY,hz,PT,Option.getD_some];cases iA y 0 3<;>simp
theorem zk {N:Nat} (hN:ir≤N) {l:List Int} (hb:l.length<ir):pW N l=some (mQ l):=by
  unfold pW mQ;rw [kz l (xM l) (.inl (l.length:Int)) (.inr false) (Nat.lt_of_lt_of_le hb hN)]
  · simp only [PT];cases allI (xM l) 0 l<;>rfl
  · intro k y hy hk;simp only [jy hk,PV,iY,hy,PT,nE,jB (Nat.lt_trans hk hb)];rw [GJ hy hk hb (N:=N)];cases xM l k y<;>rfl
  · simp only [jz,PU]
theorem Ge {N:Nat} (hN:ir≤N) {l:List Int} (hb:l.length<ir):tV N l=some (mQ l):=by
  unfold tV mQ;rw [kz l (xM l) (.inl (l.length:Int)) (.inr false) (Nat.lt_of_lt_of_le hb hN)]
  · simp only [PT];cases allI (xM l) 0 l<;>rfl
  · intro k y hy hk;simp only [jy hk,PV,iY,hy,PT,nO,jB (Nat.lt_trans hk hb),ge_iff_le];rw [GJ hy hk hb (N:=N)];cases xM l k y<;>rfl
  · simp only [jz,PU]
theorem Mq {N:Nat} (hN:ir≤N) {l:List Int} {x:Int} (hb:l.length<ir):∃ r,qo N l x=some r∧decide (r ≥ 0)=l.contains x:=by
  unfold qo;have hB:l.length<16777216:=hb;rw [show (0:Int)=(fun (k:Nat) (_:Unit)=>(k:Int)) 0 () from rfl,n8 l (fun k (_:Unit)=>(k:Int)) (fun k _ y=>if x==y then .inr (.inr (k:Int)) else .inl ()) (fun _=>.inl (l.length:Int)) (fun _ _=>True) ?_ ?_ (Nat.lt_of_lt_of_le hb hN) trivial]
  · simp only [PT]
    have key:∀ (m:List Int) (k:Nat), ∃ r,Sum.elim (fun _=>some (-1)) (fun r16=>some r16) (m7 (ρ:=Int⊕Int) (fun (k:Nat) (_:Unit) y=>if x==y then .inr (.inr (k:Int)) else .inl ()) (fun _=>.inl (l.length:Int)) k () m)=some r∧decide (r ≥ 0)=m.contains x:=by
      intro m
      induction m with
      | nil=>intro k;exact ⟨-1,rfl,rfl⟩
      | cons y m ih =>
        intro k;cases hxy:(x==y)
        · obtain ⟨r,h1,h2⟩:=ih (k+1)
          have hne:x ≠ y:=by simpa using hxy
          refine ⟨r,by simpa [m7,hxy] using h1,by rw [h2];simp [List.contains_cons,hne]⟩
        · have he:x=y:=by simpa using hxy
          exact ⟨k,by simp [m7,hxy],by simp [List.contains_cons,he]⟩
    exact key l 0
  · intro k _ y hy hk _;simp only [jy hk,PV,iY,hy,PT,jB (Nat.lt_trans hk hb)];cases (x==y)<;>simp
  · intro _ _;simp only [jz,PU]
theorem uG {N:Nat} (hN:ir≤N) {l:List Int} {x:Int} (hb:l.length<ir):ll N l x=some (l.contains x):=by
  unfold ll;obtain ⟨r,h1,h2⟩:=Mq hN hb (x:=x);rw [h1,PT,h2]
def pP (b:List Int):Nat→List Int→List Int
  | _,[]=>[]
  | k,y::l=>if decide (y > (b[k]?).getD 0) then (k:Int)::pP b (k+1) l else pP b (k+1) l
theorem AB (b:List Int):∀ (l:List Int) (k:Nat),(pP b k l).length≤l.length
  | [],_=>Nat.le_refl _
  | y::l,k=>by
    unfold pP;have:=AB b l (k+1);split<;>simp<;>omega
theorem zs (b:List Int):∀ (l:List Int) (k:Nat) (acc:List Int),foldI (fun k (acc:List Int) y=>if decide (y > (b[k]?).getD 0) then acc++[(k:Int)] else acc) k acc l=acc++pP b k l
  | [],_,acc=>by simp [foldI,pP]
  | y::l,k,acc=>by
    unfold foldI pP;rw [zs b l];cases decide (y > (b[k]?).getD 0)<;>simp
theorem L5 {N:Nat} (hN:ir≤N) {a b:jE} (ha:a.PA.length<ir) (hab:a.PA.length≤b.PA.length):vw N a b=some (pP b.PA 0 a.PA):=by
  unfold vw
  rw [show (([]:List Int),(0:Int))=(fun (k:Nat) (t:List Int)=>(t,(k:Int))) 0 [] from rfl,
    mf a.PA (fun k (t:List Int)=>(t,(k:Int))) (fun k acc y=>if decide (y > (b.PA[k]?).getD 0) then acc++[(k:Int)] else acc) (fun t=>(t,(a.PA.length:Int))) (fun k t=>t.length≤k) ?_ ?_ (Nat.lt_of_lt_of_le ha hN) (by simp),zs]
  · simp
  · intro k t y hy hk hI;have hz:b.PA[k]?=some (b.PA[k]'(by omega)):=List.getElem?_eq_getElem _;simp only [jy hk,PV,iY,hy,hz,PT,Option.getD_some,jB (Nat.lt_trans hk ha)];cases decide (y > b.PA[k]'(by omega))
    · exact ⟨rfl,by simp;omega⟩
    · have:app t [(k:Int)]=some (t++[(k:Int)]):=by unfold app;rw [if_pos (by simp;omega)]
      simp only [this,PT,PV,if_true];exact ⟨trivial,by simp;omega⟩
  · intro t _;simp only [jz,PU]
def ru (own:List Int) (a b:jE):Bool:=mQ own&&(jH a&&(jH b&&allI (fun k y=>!decide (y > (b.PA[k]?).getD 0) || own.contains (k:Int)) 0 a.PA))
theorem Cx (b:List Int) (q:Int→Bool):∀ (l:List Int) (k:Nat),(pP b k l).all q=allI (fun k y=>!decide (y > (b[k]?).getD 0) || q (k:Int)) k l
  | [],_=>rfl
  | y::l,k=>by
    unfold pP allI;rw [← Cx b q l (k+1)];cases decide (y > (b[k]?).getD 0)<;>simp
theorem HA {N:Nat} (hN:ir≤N) {own:List Int} {a b:jE} (ho:own.length<ir) (ha:a.PA.length<ir) (hb:b.PA.length<ir):rE N own a b=some (ru own a b):=by
  unfold rE ru;simp only [Ge hN ho,yw hN ha,yw hN hb,PT,lq];cases h1:mQ own
  · rfl
  cases h2:jH a
  · rfl
  cases h3:jH b
  · rfl
  have l2:=(vg.1 h2).1;have l3:=(vg.1 h3).1;have hl:=AB b.PA a.PA 0;have hB:(pP b.PA 0 a.PA).length<ir:=Nat.lt_of_le_of_lt hl ha;simp only [PW,Bool.or_self,PU,L5 hN ha (b:=b) (by omega),PT,PX];rw [kz (pP b.PA 0 a.PA) (fun _ y=>own.contains y) (.inl ((pP b.PA 0 a.PA).length:Int)) (.inr false) (Nat.lt_of_lt_of_le hB hN),lp,Cx]
  · simp only [PT];cases allI _ 0 a.PA<;>rfl
  · intro k y hy hk;simp only [jy hk,PV,iY,hy,PT,uG hN ho,jB (Nat.lt_trans hk hB)];cases own.contains y<;>rfl
  · simp only [jz,PU]
theorem Nh {α ρ:Type} {body:Int→Option (Int⊕ρ)} (x:List α) (h4:x.length=4) (p:Nat→α→Bool) (r r':ρ) {N:Nat} (hN:ir≤N)
    (hs:∀ (k:Nat) (y:α),x[k]?=some y→k<4→decide ((k:Int)<4)=true→body (k:Int)=some (if p k y then .inl ((k+1:Nat):Int) else .inr r')) (he:body 4=some (.inr r)):iter body N 0=some (if allI p 0 x then r else r') :=
  kz x p r r' (by have:16777216≤N:=hN;omega) (fun k y hy hk=>hs k y hy (by omega) (by simp;omega)) (by rw [h4];exact he)
def uR:ic→List ku→Bool
  | _,[]=>true
  | a,b::l=>(kv a b.kh).2&&(jH b.PB&&(mQ b.own&&uR (kv a b.kh).1 l))
def xi (l:List ku):Bool:=uR ⟨0,0,0⟩ l&&iA (l.length:Int) 1 3
theorem At (e:Int) (g:Nat→ic→ku→ic⊕((Int×Int×Int×Int)⊕Bool)) (fin:ic→((Int×Int×Int×Int)⊕Bool)) (k:Option Bool)
    (hg:∀ k t y,g k t y=if (kv t y.kh).2&&(jH y.PB&&mQ y.own) then .inl (kv t y.kh).1 else .inr (.inr false)) (hf:∀ t, ∃ v,fin t=.inl v) :
    ∀ (l:List ku) (j:Nat) (t:ic),Sum.elim (fun _=>k) (fun r=>some r) (m7 g fin j t l)=bif uR t l then k else some false
  | [],j,t=>by obtain ⟨v,hv⟩:=hf t;simp [m7,uR,hv]
  | b::l,j,t=>by
    have ih:=At e g fin k hg hf l (j+1);simp only [m7,uR,hg];cases (kv t b.kh).2
    · rfl
    cases jH b.PB
    · rfl
    cases mQ b.own
    · rfl
    simpa using ih _
theorem NV {l:List ku} {y:ku} (hb:jr lL l<ir) (hy:y ∈ l):y.PB.PA.length<ir∧y.own.length<ir:=by
  have:=jY hb hy;unfold lL m6 at this;omega
theorem KT {N:Nat} (hN:ir≤N) {l:List ku} (hb:jr lL l<ir):ue N l=some (xi l):=by
  have hl:=mG hb;have hN':16777216≤N:=hN;have hlB:l.length<16777216:=hl;unfold ue xi
  rw [show ((0:Int),(0:Int),(0:Int),(0:Int))=(fun (k:Nat) (t:ic)=>((k:Int),t.bh,t.ib,t.ij)) 0 ⟨0,0,0⟩ from rfl,
    n8 (l.take 3) (fun (k:Nat) (t:ic)=>((k:Int),t.bh,t.ib,t.ij)) (fun k t y=>if (kv t y.kh).2&&(jH y.PB&&mQ y.own) then .inl (kv t y.kh).1 else .inr (.inr false)) (fun t=>.inl (((l.take 3).length:Int),t.bh,t.ib,t.ij)) (fun _ _=>True) ?_ ?_ (by simp;omega) trivial]
  · simp only [PT,nE];rw [At 0 _ _ _ (fun _ _ _=>rfl) (fun t=>⟨_,rfl⟩),mj]
    rcases Nat.lt_or_ge 3 l.length with h | h
    · have:iA (l.length:Int) 1 3=false:=by simp [iA];omega
      simp [this]
    · rw [List.take_of_length_le h]
  · intro k t y hy hk _
    have hk2:k<3∧k<l.length:=by simp at hk;omega
    rw [List.getElem?_take_of_lt hk2.1] at hy;obtain ⟨b1,b2⟩:=NV hb (List.mem_of_getElem? hy);refine ⟨?_,fun _ _=>trivial⟩
    have h3:decide ((k:Int)<3)=true:=by simp;omega
    simp only [jy hk2.2,h3,PV,iY,hy,PT,wI,vl hN b1,zk hN b2,lq,jB (show k<ir from Nat.lt_trans hk2.1 (by decide))];cases h1:(kv t y.kh).2
    · cases jH y.PB<;>cases mQ y.own<;>rfl
    cases jH y.PB
    · rfl
    cases mQ y.own<;>rfl
  · intro t _;simp only [List.length_take]
    rcases Nat.lt_or_ge 3 l.length with h | h
    · have e:min 3 l.length=3:=by omega
      have h3:decide (((3:Nat):Int)<(l.length:Int))=true:=by simp;omega
      simp only [e,h3,PV];rfl
    · have e:min 3 l.length=l.length:=by omega
      simp only [e,jz,PU,PT]
end Go.Kx
namespace Go.Kx
open Go
open Go.IntKind (i64)
set_option linter.unusedVariables false
set_option linter.unusedSimpArgs false
set_option maxRecDepth 10000
theorem xj {σ ρ:Type} {body:σ→Option (σ⊕ρ)} (I:σ→Prop) (J:ρ→Prop) (μ:σ→Nat)
    (h:∀ s,I s→∃ o,body s=some o∧(∀ s',o=.inl s'→I s'∧μ s'<μ s)∧∀ r,o=.inr r→J r):∀ (N:Nat) (s:σ),I s→μ s<N→∃ r,iter body N s=some r∧J r
  | 0,_,_,hN=>absurd hN (Nat.not_lt_zero _)
  | N+1,s,hI,hN=>by
    obtain ⟨o,ho,h1,h2⟩:=h s hI
    cases o with
    | inl s' =>
      obtain ⟨hI',hm⟩:=h1 s' rfl;obtain ⟨r,hr,hJ⟩:=xj I J μ h N s' hI' (by omega);exact ⟨r,by show (body s).bind _=_;rw [ho];exact hr,hJ⟩
    | inr r=>exact ⟨r,by show (body s).bind _=_;rw [ho];rfl,h2 r rfl⟩
theorem yR {α:Type} {l:List α} {i:Int} (h0:0≤i) (h1:i<(l.length:Int)):∃ y,idx l i=some y∧y ∈ l:=by
  have hz:l[i.toNat]?=some (l[i.toNat]'(by omega)):=List.getElem?_eq_getElem _;exact ⟨_,by unfold idx;rw [if_pos h0,hz],List.getElem_mem _⟩
theorem Gc (a:Int) {m:Int} (h0:0≤m) (h1:m≤2147483647):0≤yD a m∧yD a m≤m:=by
  have h:(BitVec.ofInt IntKind.i64.bits a &&& BitVec.ofInt IntKind.i64.bits m).toNat≤m.toNat:=by
    rw [BitVec.toNat_and];refine Nat.le_trans Nat.and_le_right ?_;rw [BitVec.toNat_ofInt]
    show (m % ((2 ^ 64:Nat):Int)).toNat≤m.toNat
    rw [Int.emod_eq_of_lt h0 (by omega)];exact Nat.le_refl _
  unfold yD;rw [iE (by omega) (by omega)];omega
def Cu (c:iu):Prop:=c.b.length≤1048576∧0≤c.i
theorem Cu.to {c:iu} (hc:Cu c) {i h:Int} (hi:0≤i):Cu ⟨c.b,i,h⟩:=⟨hc.1,hi⟩
theorem N0 {N:Nat} (hN:ir≤N) {l:List U8} (hl:l.length≤1048576):∃ h,tO N l=some ⟨l,0,h⟩:=by
  unfold tO;have hB:(16777216:Nat)≤N:=hN
  obtain ⟨r,hr,_⟩:=xj (body:=fun (s1:Int×Int)=>((bif (decide (s1.2<(l.length:Int))) then (some (decide (s1.2<4000))) else (some false):Option Bool).bind fun j3=>bif j3 then ((idx l s1.2).bind fun y8=>some (.inl (yD (i64.wrap ((i64.wrap ((i64.wrap (s1.1 * 131))+(i64.wrap y8.v)))+7)) 1073741823,i64.wrap (s1.2+1)))) else (some (.inr (s1.1,s1.2))):Option ((Int×Int)⊕(Int×Int))))
    (fun s=>0≤s.2∧s.2≤(l.length:Int)) (fun _=>True) (fun s=>((l.length:Int) - s.2).toNat) (by
      rintro ⟨h,i⟩ ⟨h0,h1⟩;simp only at h0 h1
      cases hlt:decide (i<(l.length:Int)) with
      | false=>exact ⟨_,by simp only [hlt,PU,PT];rfl,by simp,fun _ _=>trivial⟩
      | true =>
        have h2:=of_decide_eq_true hlt
        cases h4:decide (i<4000) with
        | false=>exact ⟨_,by simp only [hlt,h4,PU,PV,PT];rfl,by simp,fun _ _=>trivial⟩
        | true =>
          obtain ⟨y,hy,_⟩:=yR h0 h2;refine ⟨_,by simp only [hlt,h4,hy,PV,PT];rfl,?_,by simp⟩;rintro s' hs;cases Sum.inl.inj hs;simp only;rw [iE (by omega) (by omega)]
          omega) N (i64.wrap (10101+(l.length:Int)),0) ⟨Int.le_refl _,by simp⟩ (by simp only;omega)
  rw [hr];exact ⟨r.1,rfl⟩
theorem yE {N:Nat} {c:iu} (hc:Cu c):∃ x i h,nU N c=some (x,⟨c.b,i,h⟩)∧0≤i∧0≤x∧x≤255:=by
  unfold nU;obtain ⟨hb,hi⟩:=hc
  cases hlt:decide (c.i<(c.b.length:Int)) with
  | true =>
    have h1:=of_decide_eq_true hlt;obtain ⟨y,hy,_⟩:=yR hi h1;simp only [hy,PV,PT];exact ⟨_,_,_,rfl,by rw [iE (by omega) (by omega)];omega,Gc _ (by decide) (by decide)⟩
  | false=>exact ⟨_,_,_,rfl,hi,Gc _ (by decide) (by decide)⟩
theorem Ek {a n:Int} (ha:0≤a) (hn:0<n):0≤Int.tmod a n∧Int.tmod a n<n:=by
  rw [Int.tmod_eq_emod_of_nonneg ha];exact ⟨Int.emod_nonneg _ (by omega),Int.emod_lt_of_pos _ hn⟩
theorem Lz {n:Int} (h:n ≠ 0):dz n=some ():=by unfold dz;rw [if_neg h]
theorem ub {N:Nat} {c:iu} (hc:Cu c) (n:Int):∃ x i h,iv N c n=some (x,⟨c.b,i,h⟩)∧0≤i∧0≤x∧(0<n→x<n)∧(n≤0→x=0):=by
  unfold iv
  cases h0:decide (n≤0) with
  | true=>exact ⟨0,c.i,c.h,rfl,hc.2,Int.le_refl _,fun h=>h,fun _=>rfl⟩
  | false =>
    have hn:=of_decide_eq_false h0;simp only [PU]
    cases h1:decide (n≤256) with
    | true =>
      obtain ⟨x,i,h,e,hi,hx,_⟩:=yE (N:=N) hc;simp only [PV,e,PT,Lz (show n ≠ 0 by omega)];obtain ⟨q1,q2⟩:=Ek hx (show 0<n by omega);exact ⟨_,i,h,rfl,hi,q1,fun _=>q2,fun h=>by omega⟩
    | false =>
      obtain ⟨x1,i1,h1,e1,hi1,hx1,hy1⟩:=yE (N:=N) hc;obtain ⟨x2,i2,h2,e2,hi2,hx2,hy2⟩:=yE (N:=N) (hc.to (h:=h1) hi1);obtain ⟨x3,i3,h3,e3,hi3,hx3,hy3⟩:=yE (N:=N) (hc.to (h:=h2) hi2);obtain ⟨x4,i4,h4,e4,hi4,hx4,hy4⟩:=yE (N:=N) (hc.to (h:=h3) hi3);simp only [PU,e1,e2,e3,e4,PT,Lz (show n ≠ 0 by omega)]
      rw [iE (n:=x1 * 16777216) (by omega) (by omega),iE (n:=x2 * 65536) (by omega) (by omega),iE (n:=x3 * 256) (by omega) (by omega),
        iE (n:=x1 * 16777216+x2 * 65536) (by omega) (by omega),iE (n:=x1 * 16777216+x2 * 65536+x3 * 256) (by omega) (by omega),iE (n:=x1 * 16777216+x2 * 65536+x3 * 256+x4) (by omega) (by omega)]
      obtain ⟨q1,q2⟩:=Ek (show 0≤x1 * 16777216+x2 * 65536+x3 * 256+x4 by omega) (show 0<n by omega);exact ⟨_,i4,h4,rfl,hi4,q1,fun _=>q2,fun h=>by omega⟩
theorem Ds {N:Nat} {c:iu} (hc:Cu c) (n:Int):∃ x i h,jK N c n=some (x,⟨c.b,i,h⟩)∧0≤i:=by
  unfold jK;obtain ⟨x,i,h,e,hi,_⟩:=ub (N:=N) hc n;simp only [e,PT];exact ⟨_,i,h,rfl,hi⟩
theorem yW {N:Nat} {c:iu} (hc:Cu c) {l:List Int} (hl:0<l.length):∃ x i h,jc N c l=some (x,⟨c.b,i,h⟩)∧0≤i∧x ∈ l:=by
  unfold jc;obtain ⟨x,i,h,e,hi,hx,hy,_⟩:=ub (N:=N) hc (l.length:Int);obtain ⟨y,hy,hm⟩:=yR hx (hy (by omega));simp only [e,PT,hy];exact ⟨_,i,h,rfl,hi,hm⟩
theorem vE {α:Type} {t:List α} {z:α} (h:t.length≤1000000):app t [z]=some (t++[z]):=by
  have:(16777216:Nat)=ir:=rfl;unfold app;rw [if_pos (by simp only [List.length_cons,List.length_nil];omega)]
theorem GF {N:Nat} (hN:ir≤N) {c:iu} (hc:Cu c):∃ x i h,n5 N c=some (x,⟨c.b,i,h⟩)∧0≤i∧x.PA.length=4∧∀ y,y ∈ x.PA→0≤y∧y≤3:=by
  unfold n5;have hB:(16777216:Nat)≤N:=hN
  obtain ⟨r,hr,hJ⟩:=xj (body:=fun (s6:Int×Int×Int×(List Int))=>(bif (decide (s6.1<4)) then ((iv N (iu.mk c.b s6.2.1 s6.2.2.1) 4).bind fun y9=>(app s6.2.2.2 ([y9.1]:List Int)).bind fun y16=>some (.inl (i64.wrap (s6.1+1),y9.2.i,y9.2.h,y16))) else (some (.inr (s6.1,s6.2.1,s6.2.2.1,s6.2.2.2))):Option ((Int×Int×Int×(List Int))⊕(Int×Int×Int×(List Int)))))
    (fun s=>0≤s.1∧s.1≤4∧0≤s.2.1∧(s.2.2.2.length:Int)=s.1∧∀ y,y ∈ s.2.2.2→0≤y∧y≤3) (fun s=>0≤s.2.1∧s.2.2.2.length=4∧∀ y,y ∈ s.2.2.2→0≤y∧y≤3) (fun s=>(4 - s.1).toNat) (by
      rintro ⟨k,i,h,l⟩ ⟨h0,h1,h2,h3,h4⟩;simp only at h0 h1 h2 h3 h4
      cases hlt:decide (k<4) with
      | false =>
        have:=of_decide_eq_false hlt;refine ⟨_,by simp only [hlt,PU];rfl,by simp,fun r hr=>?_⟩;cases Sum.inr.inj hr;exact ⟨h2,by simp only;omega,h4⟩
      | true =>
        have:=of_decide_eq_true hlt;obtain ⟨x,i',h',e,hi,hx,hy,_⟩:=ub (N:=N) (hc.to (h:=h) h2) 4;refine ⟨_,by simp only [hlt,PV,e,PT,vE (t:=l) (z:=x) (by omega)];rfl,?_,by simp⟩;rintro s' hs;cases Sum.inl.inj hs;simp only;rw [iE (by omega) (by omega)];refine ⟨⟨by omega,by omega,hi,by simp only [List.length_append,List.length_cons,List.length_nil];omega,fun y hm=>?_⟩,by omega⟩
        rcases List.mem_append.1 hm with hm | hm
        · exact h4 y hm
        · rw [List.mem_singleton] at hm;have:=hy (by omega)
          omega) N (0,c.i,c.h,[]) ⟨Int.le_refl _,by simp,hc.2,rfl,by simp⟩ (by simp only;omega)
  rw [hr];exact ⟨_,_,_,rfl,hJ.1,hJ.2.1,hJ.2.2⟩
theorem HD {N:Nat} (hN:ir≤N) {c:iu} (hc:Cu c):∃ x i h,tQ N c=some (x,⟨c.b,i,h⟩)∧0≤i∧x.PA.length≤5:=by
  unfold tQ;obtain ⟨x,i,h,e,hi,hl,_⟩:=GF hN hc;obtain ⟨x1,i1,h1,e1,hi1,_⟩:=ub (N:=N) (hc.to (h:=h) hi) 14;obtain ⟨x2,i2,h2,e2,hi2,hx2,hy2,_⟩:=ub (N:=N) (hc.to (h:=h1) hi1) 4;have hy2:=hy2 (by decide);obtain ⟨x3,i3,h3,e3,hi3,_⟩:=yW (N:=N) (hc.to (h:=h2) hi2) (l:=[-1,4]) (by decide);simp only [e,e1,PT];cases x1==0
  · cases x1==1
    · cases x1==2
      · exact ⟨_,i1,h1,rfl,hi1,by simp only;omega⟩
      · simp only [PV,PU,vE (t:=x.PA) (z:=0) (by omega),PT];exact ⟨_,i1,h1,rfl,hi1,by simp only [List.length_append,List.length_cons,List.length_nil];omega⟩
    · obtain ⟨y,hy,_⟩:=yR (l:=x.PA) hx2 (by omega);simp only [PV,PU,e2,e3,hy,PT];exact ⟨_,i3,h3,rfl,hi3,by simp only [List.length_set];omega⟩
  · have hs:sub x.PA 0 x2=some ((x.PA.drop (0:Int).toNat).take (x2.toNat - (0:Int).toNat)):=by unfold sub;rw [if_pos ⟨Int.le_refl _,hx2,by omega⟩]
    simp only [PV,e2,hs,PT];exact ⟨_,i2,h2,rfl,hi2,by simp only [List.length_take,List.length_drop];omega⟩
theorem Oc {N:Nat} (hN:ir≤N) {c:iu} (hc:Cu c):∃ x i h,tX N c=some (x,⟨c.b,i,h⟩)∧0≤i∧x.length≤5:=by
  unfold tX;have hB:(16777216:Nat)≤N:=hN
  obtain ⟨r,hr,hJ⟩:=xj (body:=fun (s4:(List Int)×Int×Int×Int)=>(bif (decide (s4.2.1<4)) then ((jK N (iu.mk c.b s4.2.2.1 s4.2.2.2) 3).bind fun y7=>bif y7.1 then ((app s4.1 [s4.2.1]).bind fun y14=>some (.inl (y14,i64.wrap (s4.2.1+1),y7.2.i,y7.2.h))) else (some (.inl (s4.1,i64.wrap (s4.2.1+1),y7.2.i,y7.2.h)))) else (some (.inr (s4.1,s4.2.1,s4.2.2.1,s4.2.2.2))):Option (((List Int)×Int×Int×Int)⊕((List Int)×Int×Int×Int))))
    (fun s=>0≤s.2.1∧s.2.1≤4∧0≤s.2.2.1∧(s.1.length:Int)≤s.2.1) (fun s=>0≤s.2.2.1∧s.1.length≤4) (fun s=>(4 - s.2.1).toNat) (by
      rintro ⟨l,k,i,h⟩ ⟨h0,h1,h2,h3⟩;simp only at h0 h1 h2 h3
      cases hlt:decide (k<4) with
      | false =>
        have:=of_decide_eq_false hlt;refine ⟨_,by simp only [hlt,PU];rfl,by simp,fun r hr=>?_⟩;cases Sum.inr.inj hr;exact ⟨h2,by simp only;omega⟩
      | true =>
        have:=of_decide_eq_true hlt;obtain ⟨x,i',h',e,hi⟩:=Ds (N:=N) (hc.to (h:=h) h2) 3
        cases x with
        | false =>
          refine ⟨_,by simp only [hlt,PV,PU,e,PT];rfl,?_,by simp⟩;rintro s' hs;cases Sum.inl.inj hs;simp only;rw [iE (by omega) (by omega)];exact ⟨⟨by omega,by omega,hi,by omega⟩,by omega⟩
        | true =>
          refine ⟨_,by simp only [hlt,PV,e,PT,vE (t:=l) (z:=k) (by omega)];rfl,?_,by simp⟩;rintro s' hs;cases Sum.inl.inj hs;simp only;rw [iE (by omega) (by omega)]
          exact ⟨⟨by omega,by omega,hi,by simp only [List.length_append,List.length_cons,List.length_nil];omega⟩,by omega⟩) N ([],0,c.i,c.h) ⟨Int.le_refl _,by simp,hc.2,by simp⟩ (by simp only;omega)
  rw [hr];obtain ⟨j1,j2⟩:=hJ;obtain ⟨x1,i1,h1,e1,hi1,_⟩:=ub (N:=N) (hc.to (h:=r.2.2.2) j1) 20;simp only [e1,PT,vE (t:=r.1) (z:=(4:Int)) (by omega),vE (t:=r.1) (z:=(0:Int)) (by omega)];cases x1==0
  · cases x1==1
    · exact ⟨_,i1,h1,rfl,hi1,by omega⟩
    · exact ⟨_,i1,h1,rfl,hi1,by simp only [List.length_append,List.length_cons,List.length_nil];omega⟩
  · exact ⟨_,i1,h1,rfl,hi1,by simp only [List.length_append,List.length_cons,List.length_nil];omega⟩
theorem HU {N:Nat} {c:iu} (hc:Cu c):∃ x i h,rF N c=some (x,⟨c.b,i,h⟩)∧0≤i:=by
  unfold rF;obtain ⟨x,i,h,e,hi⟩:=Ds (N:=N) hc 20;simp only [e,PT];cases x
  · obtain ⟨x1,i1,h1,e1,hi1,_⟩:=ub (N:=N) (hc.to (h:=h) hi) 60;simp only [PU,e1,PT];exact ⟨_,i1,h1,rfl,hi1⟩
  · obtain ⟨x1,i1,h1,e1,hi1,_⟩:=yW (N:=N) (hc.to (h:=h) hi) (l:=[-1,1000000,1000001,999999]) (by decide);simp only [PV,e1,PT];exact ⟨_,i1,h1,rfl,hi1⟩
theorem Of {N:Nat} {c:iu} (hc:Cu c):∃ x i h,tI N c=some (x,⟨c.b,i,h⟩)∧0≤i:=by
  unfold tI;obtain ⟨x1,i1,h1,e1,hi1⟩:=HU (N:=N) hc;obtain ⟨x2,i2,h2,e2,hi2⟩:=HU (N:=N) (hc.to (h:=h1) hi1);obtain ⟨x3,i3,h3,e3,hi3⟩:=HU (N:=N) (hc.to (h:=h2) hi2);simp only [e1,e2,e3,PT];exact ⟨_,i3,h3,rfl,hi3⟩
end Go.Kx
namespace Go.Kx
open Go
open Go.IntKind (i64)
set_option linter.unusedVariables false
set_option linter.unusedSimpArgs false
set_option maxRecDepth 10000
def nth {α:Type} [iw α] (l:List α) (i:Int):α:=(l[i.toNat]?).getD iw.zero
theorem jC {α:Type} [iw α] {l:List α} {i:Int} (h0:0≤i) (h1:i<(l.length:Int)):idx l i=some (nth l i):=by
  have hz:l[i.toNat]?=some (l[i.toNat]'(by omega)):=List.getElem?_eq_getElem _;unfold idx nth;rw [if_pos h0,hz];rfl
theorem A6 {α:Type} [iw α] {l:List α} {i a b:Int} (h:iA i a b=true) (ha:0≤a) (hb:b<(l.length:Int)):idx l i=some (nth l i):=by
  rw [iS] at h;exact jC (by omega) (by omega)
theorem tn {α:Type} [iw α] {l:List α} {k:Nat} {y:α} (h:l[k]?=some y):nth l (k:Int)=y:=by simp [nth,h]
theorem lh {α:Type} [iw α] {l:List α} {i:Int} (h0:0≤i) (h1:i<(l.length:Int)):nth l i ∈ l:=by
  have hz:l[i.toNat]?=some (l[i.toNat]'(by omega)):=List.getElem?_eq_getElem _;unfold nth;rw [hz];exact List.getElem_mem _
theorem xO {α:Type} {l:List α} {n:Nat} (h:((l.length:Int) != (n:Int))=false):l.length=n:=by simp at h;omega
theorem vv (N:Nat) (a:Int):lR N a=some (iA a 0 4):=by unfold lR;rw [nO];rfl
theorem vR (N:Nat) (a:Int):mH N a=some (iA a 0 4):=by unfold mH;rw [nE];rfl
def iW (t:List im) (i:Int):Bool:=iA i 0 4&&(nth t i).PN
def up (t:List im) (i:Int):Int:=(nth t i).PM
def leads (t:List im):Nat→Int→Bool
  | 0,_=>false
  | n+1,i=>(i==0) || (iW t i&&leads t n (up t i))
def jU (t:List im):Nat→Int→Int
  | 0,a=>a
  | n+1,a=>if a > 0 then jU t n (up t a) else a
theorem tz (N:Nat) {t:List im} (h:t.length=5) (i:Int):mS N t i=some (iW t i):=by
  unfold mS iW;rw [vv,PT];cases hi:iA i 0 4
  · rfl
  · simp only [PV,A6 hi (by omega) (show (4:Int)<(t.length:Int) by omega),PT,PX]
theorem OI {k:Nat} (h:k<(List.replicate 5 ()).length):k<5∧decide ((k:Int)<5)=true:=by
  have h:k<5:=by simpa using h
  exact ⟨h,by simp;omega⟩
theorem Ni {k n:Nat} {N:Nat} (hN:ir≤N) (hn:n<16777216):(List.replicate n ()).length<N:=by
  have:16777216≤N:=hN;simp;omega
theorem IJ {N:Nat} (hN:ir≤N) {t:List im} (h:t.length=5) (i:Int):sE N t i=some (leads t 5 i):=by
  unfold sE
  rw [show ((i,0):Int×Int)=(fun (k:Nat) (a:Int)=>(a,(k:Int))) 0 i from rfl,
    n8 (List.replicate 5 ()) (fun (k:Nat) (a:Int)=>(a,(k:Int))) (fun _ a _=>if a==0 then .inr (.inr true) else if iW t a then .inl (up t a) else .inr (.inr false)) (fun a=>.inl (a,5)) (fun _ _=>True) ?_ ?_ (Ni (k:=0) hN (by decide)) trivial]
  · have key:∀ (n k:Nat) (a:Int),Sum.elim (fun _=>some false) (fun r20=>some r20) (m7 (ρ:=(Int×Int)⊕Bool) (fun (_:Nat) a (_:Unit)=>if a==0 then .inr (.inr true) else if iW t a then .inl (up t a) else .inr (.inr false)) (fun a=>.inl (a,5)) k a (List.replicate n ()))=some (leads t n a):=by
      intro n
      induction n with
      | zero=>intro k a;rfl
      | succ n ih =>
        intro k a;rw [List.replicate_succ];unfold m7 leads;cases h0:(a==0)
        · cases h1:iW t a
          · rfl
          · simpa using ih (k+1) (up t a)
        · rfl
    exact key 5 0 i
  · intro k a y hy hk _;obtain ⟨h5,hd⟩:=OI hk;refine ⟨?_,fun _ _=>trivial⟩;simp only [hd,PV,tz N h,PT];cases h0:(a==0)
    · cases h1:iW t a
      · rfl
      · have hin:iA a 0 4=true:=by unfold iW at h1;simp at h1;exact h1.1
        simp only [A6 hin (by omega) (show (4:Int)<(t.length:Int) by omega),jB (show k<ir from Nat.lt_trans h5 (by decide)),PT];rfl
    · rfl
  · intro a _;rfl
def oo:im:=im.mk false 0 (ic.mk 0 0 0)
def qc (t:List im) (k:Nat) (r:im):Bool:=if r.PN then iU r.iI&&leads t 5 (k:Int) else decide (r=oo)
def ju (s:ic) (t:List im):ic:=t.foldl (fun s r=>if r.PN then iV s r.iI else s) s
def kj (t:List im):Bool:=!((t.length:Int) != 5)&&((nth t 0).PN&&(!((nth t 0).PM != (-1))&&(allI (qc t) 0 t&&iU (ju ⟨0,0,0⟩ t))))
theorem vb {N:Nat} (hN:ir≤N) {t:List im}:nw N t=some (kj t):=by
  unfold nw kj;cases h5:((t.length:Int) != 5)
  · have hl:t.length=5:=xO (n:=5) h5
    have hB:t.length<ir:=by rw [hl];decide
    rw [jC (l:=t) (i:=0) (by omega) (by omega)];simp only [PU,PT,lq,Bool.not_false,PX];cases h1:(nth t 0).PN
    · rfl
    cases h2:((nth t 0).PM != (-1))
    · simp only [PW,Bool.or_self,PU,PX,Bool.not_false]
      rw [show ((0:Int),(0:Int),(0:Int),(0:Int))=(fun (k:Nat) (s:ic)=>((k:Int),s.bh,s.ib,s.ij)) 0 ⟨0,0,0⟩ from rfl,
        n8 t (fun (k:Nat) (s:ic)=>((k:Int),s.bh,s.ib,s.ij)) (fun k s r=>if qc t k r then .inl (if r.PN then iV s r.iI else s) else .inr (.inr false)) (fun s=>.inl ((t.length:Int),s.bh,s.ib,s.ij)) (fun _ _=>True) ?_ ?_ (Nat.lt_of_lt_of_le hB hN) trivial]
      · simp only [PT,so]
        have key:∀ (l:List im) (k:Nat) (s:ic),Sum.elim (fun (o48:Int×Int×Int×Int)=>some (iU (ic.mk o48.2.1 o48.2.2.1 o48.2.2.2))) (fun r53=>some r53) (m7 (fun k s r=>if qc t k r then .inl (if r.PN then iV s r.iI else s) else .inr (.inr false)) (fun s=>.inl ((t.length:Int),s.bh,s.ib,s.ij)) k s l)=some (allI (qc t) k l&&iU (ju s l)):=by
          intro l
          induction l with
          | nil=>intro k s;rfl
          | cons r l ih =>
            intro k s;unfold m7 allI;cases hp:qc t k r
            · rfl
            · simpa [ju] using ih (k+1) (if r.PN then iV s r.iI else s)
        exact key t 0 _
      · intro k s r hy hk _;refine ⟨?_,fun _ _=>trivial⟩;simp only [jy hk,PV,iY,hy,PT,so,IJ hN hl,uU,lq,jB (Nat.lt_trans hk hB)];unfold qc;cases hlv:r.PN
        · show (bif !decide (r=oo) then _ else _)=_
          cases decide (r=oo)<;>rfl
        · cases iU r.iI<;>cases leads t 5 (k:Int)<;>rfl
      · intro s _;simp only [jz,PU]
    · rfl
  · rfl
def p1 (t:List im) (k:Nat) (r:im):Bool:=!((!r.PN&&!decide (r=oo)) || !iU r.iI)&&!(decide ((k:Int) > 0)&&(r.PN&&(!iA r.PM 0 4 || (r.PM==(k:Int) || !(nth t r.PM).PN))))
def p2 (t:List im) (k:Nat) (r:im):Bool:=!(r.PN&&(jU t 5 (k:Int) != 0))
def Good (t:List im):Prop:=∀ i:Int,0<i→i≤4→(nth t i).PN=true→0≤up t i∧up t i≤4∧up t i ≠ i∧(nth t (up t i)).PN=true
theorem FU {t:List im} (hl:t.length=5) (h:allI (p1 t) 0 t=true):Good t:=by
  intro i h0 h4 hlv;rw [nN] at h
  have hz:t[i.toNat]?=some (nth t i):=by
    have:=jC (l:=t) (i:=i) (by omega) (by omega);unfold idx at this
    rwa [if_pos (by omega)] at this
  have:=h _ _ hz
  have e:((0+i.toNat:Nat):Int)=i:=by omega
  unfold p1 at this;rw [e] at this;unfold up;simp [hlv,iA] at this
  rcases this.2 with q | q
  · omega
  · exact ⟨q.1.1,q.1.2,q.2.1,q.2.2⟩
theorem B5 {t:List im} (hg:Good t):∀ (n:Nat) (a:Int),0≤a→a≤4→(nth t a).PN=true→0≤jU t n a∧jU t n a≤4∧(nth t (jU t n a)).PN=true
  | 0,a,h0,h4,hlv=>⟨h0,h4,hlv⟩
  | n+1,a,h0,h4,hlv=>by
    unfold jU
    by_cases ha:a > 0
    · rw [if_pos ha];obtain ⟨g1,g2,_,g4⟩:=hg a ha h4 hlv;exact B5 hg n _ g1 g2 g4
    · rw [if_neg ha];exact ⟨h0,h4,hlv⟩
theorem vn (t:List im):∀ (m n:Nat) (a:Int),jU t (m+n) a=jU t n (jU t m a)
  | 0,n,a=>by simp [jU]
  | m+1,n,a=>by
    rw [show m+1+n=(m+n)+1 by omega]
    show (if a > 0 then jU t (m+n) (up t a) else a)=jU t n (if a > 0 then jU t m (up t a) else a)
    by_cases ha:a > 0
    · rw [if_pos ha,if_pos ha,vn t m n]
    · rw [if_neg ha,if_neg ha];cases n<;>simp [jU,ha]
theorem AR (t:List im) (n:Nat):jU t n 0=0:=by cases n<;>simp [jU]
theorem w7 {t:List im} (hg:Good t):∀ (n:Nat) (a:Int),0≤a→a≤4→(nth t a).PN=true→leads t (n+1) a=(jU t n a==0)
  | 0,a,h0,h4,hlv=>by simp [leads,jU]
  | n+1,a,h0,h4,hlv=>by
    rw [show leads t (n+1+1) a=((a==0) || (iW t a&&leads t (n+1) (up t a))) from rfl];unfold jU
    by_cases ha:a=0
    · subst ha;simp
    · have hp:a > 0:=by omega
      obtain ⟨g1,g2,_,g4⟩:=hg a hp h4 hlv;rw [if_pos hp,w7 hg n _ g1 g2 g4]
      have:iW t a=true:=by simp [iW,iS,hlv];omega
      have h0':(a==0)=false:=by simpa using ha
      rw [this,h0'];rfl
theorem KA {t:List im} (hg:Good t) {a:Int} (h0:0≤a) (h4:a≤4) (hlv:(nth t a).PN=true) (h:jU t 5 a=0):jU t 4 a=0:=by
  have key:∀ (i j:Nat),i+j≤5→jU t i a=jU t (i+j) a→jU t (5 - j) a=0:=by
    intro i j hij e
    have h1:jU t (5 - j) a=jU t (5 - j - i) (jU t i a):=by rw [← vn];congr 1;omega
    have h2:jU t 5 a=jU t (5 - j - i) (jU t (i+j) a):=by rw [← vn];congr 1;omega
    rw [h1,e, ← h2,h]
  have mono:∀ (i j:Nat),jU t i a=0→jU t (i+j) a=0:=by
    intro i j e;rw [vn,e,AR]
  rcases Decidable.em (jU t 4 a=0) with q | q
  · exact q
  exfalso
  have nz:∀ i,i≤4→jU t i a ≠ 0:=fun i hi e=>q (by have:=mono i (4 - i) e;rwa [show i+(4 - i)=4 by omega] at this)
  have v8:∀ i,i≤4→1≤jU t i a∧jU t i a≤4:=fun i hi=>by
    obtain ⟨r1,r2,_⟩:=B5 hg i a h0 h4 hlv;have:=nz i hi;omega
  have ne:∀ (i j:Nat),0<j→i+j≤4→jU t i a ≠ jU t (i+j) a:=fun i j hj hij e=>nz (5 - j) (by omega) (key i j (by omega) e);have r0:=v8 0 (by omega);have r1:=v8 1 (by omega);have r2:=v8 2 (by omega);have r3:=v8 3 (by omega);have r4:=v8 4 (by omega);have n01:=ne 0 1 (by omega) (by omega);have n02:=ne 0 2 (by omega) (by omega);have n03:=ne 0 3 (by omega) (by omega);have n04:=ne 0 4 (by omega) (by omega);have n12:=ne 1 1 (by omega) (by omega);have n13:=ne 1 2 (by omega) (by omega);have n14:=ne 1 3 (by omega) (by omega);have n23:=ne 2 1 (by omega) (by omega);have n24:=ne 2 2 (by omega) (by omega);have n34:=ne 3 1 (by omega) (by omega);simp only [Nat.zero_add,Nat.reduceAdd] at *;generalize jU t 0 a=c0 at *;generalize jU t 1 a=c1 at *;generalize jU t 2 a=c2 at *;generalize jU t 3 a=c3 at *;generalize jU t 4 a=c4 at *;clear key mono nz v8 ne;omega
theorem Ag {t:List im} {a:Int} (ha:a ≠ 0) (hu:up t a=a):∀ n,leads t n a=false
  | 0=>rfl
  | n+1=>by
    unfold leads;rw [hu,Ag ha hu n];simp [ha]
theorem Ib {t:List im} (hl:t.length=5) (h0:(nth t 0).PN=true):(allI (p1 t) 0 t&&allI (p2 t) 0 t)=allI (qc t) 0 t:=by
  have hget:∀ (i:Nat) (r:im),t[i]?=some r→(i:Int)≤4∧nth t (i:Int)=r:=fun i r h=>⟨by have:=jl h;omega,tn h⟩;rw [Bool.eq_iff_iff,PY];constructor
  · rintro ⟨h1,h2⟩;have hg:=FU hl h1;rw [nN] at h1 h2 ⊢;intro i r hr;obtain ⟨i4,hn⟩:=hget i r hr;have q1:=h1 i r hr;have q2:=h2 i r hr;simp only [Nat.zero_add] at q1 q2 ⊢;unfold p1 at q1;unfold p2 at q2;unfold qc;cases hlv:r.PN
    · simp [hlv] at q1;simp [q1.1]
    · simp [hlv] at q1 q2
      have hlv':(nth t (i:Int)).PN=true:=by rw [hn];exact hlv
      have:=KA hg (by omega) i4 hlv' q2;simp only [if_true,PY];refine ⟨q1.1,?_⟩;rw [w7 hg 4 _ (by omega) i4 hlv',this];rfl
  · intro h;rw [nN] at h
    have hp:∀ (i:Int),0≤i→i≤4→(nth t i).PN=true→iU (nth t i).iI=true∧leads t 5 i=true:=by
      intro i hi hi4 hlv
      have hz:t[i.toNat]?=some (nth t i):=by
        have:=jC (l:=t) (i:=i) (by omega) (by omega);unfold idx at this
        rwa [if_pos (by omega)] at this
      have:=h _ _ hz;unfold qc at this;rw [if_pos hlv] at this
      have e:((0+i.toNat:Nat):Int)=i:=by omega
      rw [e] at this;simpa using this
    have hg:Good t:=by
      intro i hi hi4 hlv;obtain ⟨_,q⟩:=hp i (by omega) hi4 hlv
      have hne:up t i ≠ i:=fun e=>by rw [Ag (by omega) e] at q;cases q
      have hi0:(i==0)=false:=by simp;omega
      rw [show leads t 5 i=((i==0) || (iW t i&&leads t 4 (up t i))) from rfl,hi0] at q;simp only [Bool.false_or,PY] at q;rw [show leads t 4 (up t i)=((up t i==0) || (iW t (up t i)&&leads t 3 (up t (up t i)))) from rfl] at q
      rcases Decidable.em (up t i=0) with e | e
      · rw [e];exact ⟨by omega,by omega,by omega,h0⟩
      · have e':(up t i==0)=false:=by simpa using e
        rw [e'] at q;simp only [Bool.false_or,PY] at q;have:=q.2.1;simp only [iW,PY,iS] at this;exact ⟨this.1.1,this.1.2,hne,this.2⟩
    rw [nN,nN];refine ⟨fun i r hr=>?_,fun i r hr=>?_⟩
    · obtain ⟨i4,hn⟩:=hget i r hr;have q:=h i r hr;simp only [Nat.zero_add] at q ⊢;unfold p1;unfold qc at q;cases hlv:r.PN
      · simp [hlv] at q;subst q;simp;decide
      · simp [hlv] at q;simp [q.1]
        by_cases hi:i=0
        · exact .inl hi
        · have:=hg (i:Int) (by omega) i4 (by rw [hn];exact hlv);unfold up at this;rw [hn] at this;exact .inr ⟨iS.2 ⟨this.1,this.2.1⟩,this.2.2.1,this.2.2.2⟩
    · obtain ⟨i4,hn⟩:=hget i r hr;simp only [Nat.zero_add];unfold p2;cases hlv:r.PN
      · rfl
      · have hlv':(nth t (i:Int)).PN=true:=by rw [hn];exact hlv
        obtain ⟨_,q⟩:=hp (i:Int) (by omega) i4 hlv';rw [w7 hg 4 _ (by omega) i4 hlv'] at q
        have q:jU t 4 (i:Int)=0:=by simpa using q
        have:jU t 5 (i:Int)=0:=by rw [show 5=4+1 from rfl,vn,q,AR]
        simp [this]
theorem By {N:Nat} (hN:ir≤N) {t:List im} (hB:t.length<ir):rH N t=some (ju ⟨0,0,0⟩ t):=by
  unfold rH ju
  rw [show ((0:Int),(0:Int),(0:Int),(0:Int))=(fun (k:Nat) (s:ic)=>((k:Int),s.bh,s.ib,s.ij)) 0 ⟨0,0,0⟩ from rfl,
    mf t (fun (k:Nat) (s:ic)=>((k:Int),s.bh,s.ib,s.ij)) (fun _ s r=>if r.PN then iV s r.iI else s) (fun s=>((t.length:Int),s.bh,s.ib,s.ij)) (fun _ _=>True) ?_ ?_ (Nat.lt_of_lt_of_le hB hN) trivial,nv]
  · rfl
  · intro k s r hy hk _;refine ⟨?_,trivial⟩;simp only [jy hk,PV,iY,hy,PT,jB (Nat.lt_trans hk hB)];cases r.PN<;>rfl
  · intro s _;simp only [jz,PU]
theorem IB {N:Nat} (hN:ir≤N) {t:List im} (hl:t.length=5) (hg:Good t) {k:Nat} {r:im} (hr:t[k]?=some r) :
    ∃ n,iter (fun (s72:Int×Int)=>((bif (decide (s72.2<5)) then ((idx t (k:Int)).bind fun y77=>bif y77.PN then (some (decide (s72.1 > 0))) else (some false)) else (some false):Option Bool).bind fun j74=>bif j74 then ((idx t s72.1).bind fun y89=>some (.inl (y89.PM,i64.wrap (s72.2+1)))) else (some (.inr (s72.1,s72.2))):Option ((Int×Int)⊕(Int×Int)))) N ((k:Int),0)=some (if r.PN then jU t 5 (k:Int) else (k:Int),n):=by
  have hk:=jl hr
  rw [show (((k:Int),0):Int×Int)=(fun (n:Nat) (a:Int)=>(a,(n:Int))) 0 (k:Int) from rfl,
    n8 (List.replicate 5 ()) (fun (n:Nat) (a:Int)=>(a,(n:Int))) (fun n a _=>if r.PN&&decide (a > 0) then .inl (up t a) else .inr (a,(n:Int))) (fun a=>(a,5)) (fun _ a=>r.PN=true→0≤a∧a≤4∧(nth t a).PN=true) ?_ ?_ (Ni (k:=0) hN (by decide)) (fun h=>⟨by omega,by omega,by rw [tn hr];exact h⟩)]
  · have key:∀ (n j:Nat) (a:Int),(m7 (ρ:=Int×Int) (fun (n:Nat) a (_:Unit)=>if r.PN&&decide (a > 0) then .inl (up t a) else .inr (a,(n:Int))) (fun a=>(a,5)) j a (List.replicate n ())).1=if r.PN then jU t n a else a:=by
      intro n
      induction n with
      | zero=>intro j a;simp [m7,jU]
      | succ n ih =>
        intro j a;rw [List.replicate_succ];unfold m7 jU;cases hlv:r.PN
        · rfl
        · have ih:=ih (j+1) (up t a);rw [hlv] at ih
          by_cases ha:a > 0
          · simpa [ha] using ih
          · simp [ha]
    have:=key 5 0 (k:Int);exact ⟨_,congrArg some (Prod.ext this rfl)⟩
  · intro n a y hy hn hI;obtain ⟨h5,hd⟩:=OI hn;simp only [hd,PV,iY,hr,PT];cases hlv:r.PN
    · exact ⟨rfl,fun t' h=>by simp at h⟩
    · obtain ⟨i1,i2,i3⟩:=hI hlv
      by_cases ha:a > 0
      · have hd2:decide (a > 0)=true:=by simpa using ha
        simp only [PV,hd2,PT,jC (l:=t) (i:=a) i1 (by omega),jB (show n<ir from Nat.lt_trans h5 (by decide)),Bool.and_self,if_true];refine ⟨rfl,fun t' h _=>?_⟩;cases h;obtain ⟨g1,g2,_,g4⟩:=hg a ha i2 i3;exact ⟨g1,g2,g4⟩
      · have hd2:decide (a > 0)=false:=by simpa using ha
        simp only [PV,hd2,PT,PU];exact ⟨rfl,fun t' h=>by simp at h⟩
  · intro a _;rfl
theorem xS {N:Nat} (hN:ir≤N) {t:List im}:o4 N t=some (kj t):=by
  unfold o4 kj;cases h5:((t.length:Int) != 5)
  · have hl:t.length=5:=xO (n:=5) h5
    have hB:t.length<ir:=by rw [hl];decide
    rw [jC (l:=t) (i:=0) (by omega) (by omega)];simp only [PU,PT,lq,Bool.not_false,PX];cases h1:(nth t 0).PN
    · rfl
    cases h2:((nth t 0).PM != (-1))
    · simp only [PW,Bool.or_self,PU,PX,Bool.not_false];rw [kz t (p1 t) (.inl (t.length:Int)) (.inr false) (Nat.lt_of_lt_of_le hB hN), ← Ib hl h1]
      · simp only [PT];cases hp:allI (p1 t) 0 t
        · rfl
        · have hg:=FU hl hp;simp only [if_true,Sum.elim_inl,PX];rw [kz t (p2 t) (.inl (t.length:Int)) (.inr false) (Nat.lt_of_lt_of_le hB hN)]
          · simp only [PT,By hN hB,sm];cases allI (p2 t) 0 t<;>rfl
          · intro k r hy hk;obtain ⟨n,hn⟩:=IB hN hl hg hy;simp only [jy hk,PV];rw [hn];simp only [iY,hy,PT,jB (Nat.lt_trans hk hB)];unfold p2;cases hlv:r.PN
            · rfl
            · simp only [PV,PT,if_true,PX];cases (jU t 5 (k:Int) != 0)<;>rfl
          · simp only [jz,PU]
      · intro k r hy hk;simp only [jy hk,PV,iY,hy,PT,sm,vR,lq,jB (Nat.lt_trans hk hB)];unfold p1;rw [show im.mk false 0 (ic.mk 0 0 0)=oo from rfl];cases hin:iA r.PM 0 4
        · cases r.PN<;>cases decide (r=oo)<;>cases iU r.iI<;>cases decide ((k:Int) > 0)<;>rfl
        · rw [A6 hin (by omega) (show (4:Int)<(t.length:Int) by omega)];simp only [PT];cases r.PN<;>cases decide (r=oo)<;>cases iU r.iI<;>cases decide ((k:Int) > 0)<;>cases (r.PM==(k:Int))<;>cases (nth t r.PM).PN<;>rfl
      · simp only [jz,PU]
    · rfl
  · rfl
end Go.Kx
namespace Go.Kx
open Go
open Go.IntKind (i64)
set_option linter.unusedVariables false
set_option linter.unusedSimpArgs false
set_option maxRecDepth 10000
theorem Cd {N:Nat} (hN:ir≤N) {a b:List Int} (ha:a.length<ir):sG N a b=some (decide (a=b)):=ze a b (· != ·) (by intro y z;by_cases h:y=z<;>simp [h]) ha hN
theorem zp {N:Nat} (hN:ir≤N) {a b:List Int} (ha:a.length<ir):qA N a b=some (decide (a=b)):=ze a b (· != ·) (by intro y z;by_cases h:y=z<;>simp [h]) ha hN
theorem Fj {N:Nat} (hN:ir≤N) {a b:List je} (ha:a.length<ir):tq N a b=some (decide (a=b)):=ze a b (fun y z=>!decide (y=z)) (fun _ _=>rfl) ha hN
theorem JI (a b:jE):decide (a.PA=b.PA)=decide (a=b):=by cases a;cases b;simp
theorem EC {N:Nat} (hN:ir≤N) {a b:jE} (ha:a.PA.length<ir):tu N a b=some (decide (a=b)):=by
  rw [← JI];exact ze a.PA b.PA (· != ·) (by intro y z;by_cases h:y=z<;>simp [h]) ha hN
theorem zl {o:gE} (h:iz o<ir):o.ig.length<ir∧o.PG.length<ir∧o.PE.length<ir:=by unfold iz at h;omega
theorem Ip {N:Nat} (hN:ir≤N) {a b:gE} (ha:iz a<ir):sQ N a b=some (decide (a=b)):=by
  obtain ⟨h1,h2,h3⟩:=zl ha;unfold sQ;simp only [zp hN h1,zp hN h2,Fj hN h3,PT,mj];congr 1;rw [Bool.eq_iff_iff];cases a;cases b;simp [gE.mk.injEq]
theorem K4 {N:Nat} (hN:ir≤N) {a b:gE} (ha:iz a<ir):sn N a b=some (decide (a=b)):=by
  obtain ⟨h1,h2,h3⟩:=zl ha;unfold sn;simp only [lq,PT];cases hj:(a.PO != b.PO || (a.Pz != b.Pz || (a.box != b.box || (a.res != b.res || (a.iK != b.iK || (a.bh != b.bh || (a.PK != b.PK || (a.iP != b.iP || (a.iM != b.iM || (!(a.mark==b.mark) || ((a.ig.length:Int) != (b.ig.length:Int) || ((a.PG.length:Int) != (b.PG.length:Int) || ((a.PE.length:Int) != (b.PE.length:Int))))))))))))))
  · simp only [Bool.or_eq_false_iff,bne_eq_false_iff_eq,Bool.not_eq_false',beq_iff_eq] at hj;obtain ⟨e1,e2,e3,e4,e5,e6,e7,e8,e9,e10,l1,l2,l3⟩:=hj;simp only [PU]
    rw [we a.ig b.ig (by omega) (.inl (a.ig.length:Int)) (.inr false) (Nat.lt_of_lt_of_le h1 hN),PT,
      we a.PG b.PG (by omega) (.inl (a.PG.length:Int)) (.inr false) (Nat.lt_of_lt_of_le h2 hN),PT,
      we a.PE b.PE (by omega) (.inl (a.PE.length:Int)) (.inr false) (Nat.lt_of_lt_of_le h3 hN),PT]
    · have:decide (a=b)=(decide (a.ig=b.ig)&&(decide (a.PG=b.PG)&&decide (a.PE=b.PE))):=by
        rw [Bool.eq_iff_iff];cases a;cases b
        simp_all [gE.mk.injEq]
      rw [this]
      by_cases q1:a.ig=b.ig<;>by_cases q2:a.PG=b.PG<;>by_cases q3:a.PE=b.PE<;>simp [q1,q2,q3]
    · intro k y z hy hz hk;simp only [jy hk,PV,iY,hy,hz,PT,jB (Nat.lt_trans hk h3)]
      by_cases h:y=z<;>simp [h]
    · simp only [jz,PU]
    · intro k y z hy hz hk;simp only [jy hk,PV,iY,hy,hz,PT,GK,jB (Nat.lt_trans hk h2)]
      by_cases h:y=z<;>simp [h]
    · simp only [jz,PU]
    · intro k y z hy hz hk;simp only [jy hk,PV,iY,hy,hz,PT,GK,jB (Nat.lt_trans hk h1)]
      by_cases h:y=z<;>simp [h]
    · simp only [jz,PU]
  · have:¬ a=b:=by
      rintro rfl;simp at hj
    simp [this]
theorem EL {N:Nat} (hN:ir≤N) {a b:List gE} (ha:jr iz a<ir):tv N a b=some (decide (a=b)):=Gw a b (sn N) (fun y z hy _=>K4 hN (jY ha hy)) (mG ha) hN
theorem kS {p:cd} (h:iH p<ir):p.PB.PA.length<ir∧p.own.length<ir∧p.PC.length<ir∧jr iz p.py.ag<ir∧p.py.gc.hZ.length<ir∧p.ia.length<ir:=by
  unfold iH nj ui m6 at h;omega
theorem GW {N:Nat} (hN:ir≤N) {a b:cd} (ha:iH a<ir):rm N a b=some (decide (a=b)):=by
  obtain ⟨h1,h2,h3,h4,h5,h6⟩:=kS ha;unfold rm;simp only [EC hN h1,Cd hN h2,EL hN h4,Cd hN h5,PT,lq,mj];cases hj:(!decide (a.PB=b.PB) || (!decide (a.own=b.own) || ((a.PC.length:Int) != (b.PC.length:Int) || ((a.ia.length:Int) != (b.ia.length:Int) || (a.PJ != b.PJ || (a.PI != b.PI || (!decide (a.hY=b.hY) || (a.ik != b.ik || a.PH != b.PH))))))))
  · simp only [Bool.or_eq_false_iff,bne_eq_false_iff_eq,Bool.not_eq_false',decide_eq_true_eq] at hj;obtain ⟨e1,e2,l1,l2,e3,e4,e5,e6,e7⟩:=hj;simp only [PU]
    rw [we a.PC b.PC (by omega) (.inl (a.PC.length:Int)) (.inr false) (Nat.lt_of_lt_of_le h3 hN),PT,
      we a.ia b.ia (by omega) (.inl (a.ia.length:Int)) (.inr false) (Nat.lt_of_lt_of_le h6 hN),PT]
    · have:decide (a=b)=(decide (a.PC=b.PC)&&(decide (a.ia=b.ia)&&(decide (a.py.ag=b.py.ag)&&((a.py.gc.PD==b.py.gc.PD)&&((a.py.gc.PL==b.py.gc.PL)&&((a.py.gc.PF==b.py.gc.PF)&&decide (a.py.gc.hZ=b.py.gc.hZ))))))):=by
        rw [Bool.eq_iff_iff];obtain ⟨_,_,_,⟨_,⟨_,_,_,_⟩⟩,_,_,_,_,_,_⟩:=a;obtain ⟨_,_,_,⟨_,⟨_,_,_,_⟩⟩,_,_,_,_,_,_⟩:=b;simp only at e1 e2 e3 e4 e5 e6 e7;subst e1;subst e2;subst e3;subst e4;subst e5;subst e6;subst e7;simp only [cd.mk.injEq,il.mk.injEq,jv.mk.injEq,PY,decide_eq_true_eq,beq_iff_eq,true_and,and_true];constructor
        · rintro ⟨q1,⟨q2,q3,q4,q5,q6⟩,q7⟩;exact ⟨q1,q7,q2,q3,q4,q5,q6⟩
        · rintro ⟨q1,q7,q2,q3,q4,q5,q6⟩;exact ⟨q1,⟨q2,q3,q4,q5,q6⟩,q7⟩
      rw [this]
      by_cases q1:a.PC=b.PC<;>by_cases q2:a.ia=b.ia<;>simp [q1,q2]
    · intro k y z hy hz hk;simp only [jy hk,PV,iY,hy,hz,PT,jB (Nat.lt_trans hk h6)]
      by_cases h:y=z<;>simp [h]
    · simp only [jz,PU]
    · intro k y z hy hz hk;simp only [jy hk,PV,iY,hy,hz,PT,jB (Nat.lt_trans hk h3)]
      by_cases h:y=z<;>simp [h]
    · simp only [jz,PU]
  · have:¬ a=b:=by
      rintro rfl;simp at hj
    simp [this]
theorem Jh (a b:iC):((a.PQ==b.PQ)&&decide (a.parts=b.parts))=decide (a=b):=by
  rw [Bool.eq_iff_iff];cases a;cases b;simp [iC.mk.injEq]
theorem zt {N:Nat} (hN:ir≤N) {a b:iC} (ha:jr iH a.parts<ir):qk N a b=some (decide (a=b)):=by
  have hl:=mG ha;unfold qk;rw [← Jh];simp only [lq,PT];cases hj:(a.PQ != b.PQ || ((a.parts.length:Int) != (b.parts.length:Int)))
  · simp only [Bool.or_eq_false_iff,bne_eq_false_iff_eq] at hj;obtain ⟨e1,l1⟩:=hj;simp only [PU];rw [we a.parts b.parts (by omega) (.inl (a.parts.length:Int)) (.inr false) (Nat.lt_of_lt_of_le hl hN),PT]
    · by_cases q1:a.parts=b.parts<;>simp [q1,e1]
    · intro k y z hy hz hk;simp only [jy hk,PV,iY,hy,hz,PT,GW hN (jY ha (List.mem_of_getElem? hy)),jB (Nat.lt_trans hk hl)]
      by_cases h:y=z<;>simp [h]
    · simp only [jz,PU]
  · have:((a.PQ==b.PQ)&&decide (a.parts=b.parts))=false:=by
      cases h:((a.PQ==b.PQ)&&decide (a.parts=b.parts))
      · rfl
      · simp at h;simp [h.1,h.2] at hj
    rw [this];rfl
end Go.Kx
namespace Go.Kx
open Go
open Go.IntKind (i64)
set_option linter.unusedVariables false
set_option linter.unusedSimpArgs false
set_option maxRecDepth 10000
theorem jT {α:Type} {l:List α} (h:l.length<ir):app ([]:List α) l=some l:=by
  unfold app;rw [if_pos (by simpa using h)];rfl
theorem uJ {N:Nat} {l:List Int} (h:l.length<ir):mR N l=some l:=by unfold mR;rw [jT h];rfl
theorem FI {N:Nat} {l:jE} (h:l.PA.length<ir):qB N l=some l:=by unfold qB;rw [uJ h];rfl
theorem qe {N:Nat} {l:List im} (h:l.length<ir):ml N l=some l:=by unfold ml;rw [jT h];rfl
theorem rJ {N:Nat} {l:List im} (h:l.length<ir):mz N l=some l:=by unfold mz;rw [jT h];rfl
theorem Cb {N:Nat} {o:gE} (h:iz o<ir):qV N o=some o:=by
  obtain ⟨h1,h2,h3⟩:=zl h;unfold qV;simp only [uJ h1,uJ h2,jT h3,PT]
theorem Gu {N:Nat} {o:gE} (h:iz o<ir):tJ N o=some o:=by
  obtain ⟨h1,h2,h3⟩:=zl h;unfold tJ;simp only [jT h1,jT h2,jT h3,PT]
theorem w8 {N:Nat} (hN:ir≤N) {l:List gE} (hb:jr iz l<ir):nL N l=some l:=by
  have hl:=mG hb;unfold nL;rw [tT l (fun _ _=>true) (fun _ y=>y) hl hN,wx (fun _=>true)]
  · simp
  · intro k t y hy hk ht;simp only [jy hk,PV,iY,hy,PT,Cb (jY hb (List.mem_of_getElem? hy)),jB (Nat.lt_trans hk hl),l5 ht (Nat.lt_of_le_of_lt hk hl)];rfl
  · intro t;simp only [jz,PU]
theorem Al {N:Nat} (hN:ir≤N) {l:List gE} (hb:jr iz l<ir):oX N l=some l:=by
  have hl:=mG hb;unfold oX;rw [tT l (fun _ _=>true) (fun _ y=>y) hl hN,wx (fun _=>true)]
  · simp
  · intro k t y hy hk ht;simp only [jy hk,PV,iY,hy,PT,Gu (jY hb (List.mem_of_getElem? hy)),jB (Nat.lt_trans hk hl),l5 ht (Nat.lt_of_le_of_lt hk hl)];rfl
  · intro t;simp only [jz,PU]
theorem xV {N:Nat} (hN:ir≤N) {h:il} (h1:jr iz h.ag<ir) (h2:h.gc.hZ.length<ir):oD N h=some h:=by
  unfold oD;simp only [w8 hN h1,uJ h2,PT]
theorem wT {N:Nat} (hN:ir≤N) {h:il} (h1:jr iz h.ag<ir) (h2:h.gc.hZ.length<ir):nY N h=some h:=by
  unfold nY;simp only [Al hN h1,jT h2,PT]
theorem xB {N:Nat} (hN:ir≤N) {p:cd} (h:iH p<ir):mo N p=some p:=by
  obtain ⟨h1,h2,h3,h4,h5,h6⟩:=kS h;unfold mo;simp only [FI h1,uJ h2,qe h3,xV hN h4 h5,jT h6,PT]
theorem yq {N:Nat} (hN:ir≤N) {p:cd} (h:iH p<ir):pd N p=some p:=by
  obtain ⟨h1,h2,h3,h4,h5,h6⟩:=kS h;unfold pd;simp only [jT h1,jT h2,rJ h3,wT hN h4 h5,jT h6,PT]
theorem xG {α:Type} {l:List α} {k:Nat} (h:k≤l.length):sub l 0 (k:Int)=some (l.take k):=by
  unfold sub;rw [if_pos ⟨Int.le_refl _,by omega,by omega⟩];simp
theorem BO {α:Type} (f:α→Nat):∀ (l:List α) (k:Nat),pe f (l.take k)≤pe f l
  | [],k=>by simp
  | y::l,0=>Nat.zero_le _
  | y::l,k+1=>by
    have:=BO f l k;simp only [List.take_succ_cons,pe];omega
theorem K1 {α:Type} (f:α→Nat) (l:List α) (k:Nat):jr f (l.take k)≤jr f l:=by
  have:=BO f l k;unfold jr;simp only [List.length_take];omega
end Go.Kx
namespace Go.Kx
open Go
open Go.IntKind (i64)
set_option linter.unusedVariables false
set_option linter.unusedSimpArgs false
set_option maxRecDepth 10000
theorem pV {α:Type} (p:Bool) (a b:α):(bif p then some a else some b)=some (bif p then a else b):=by cases p<;>rfl
theorem Ai {ρ τ β:Type} (c:Bool) (a:ρ) (r:τ) (f:ρ→Option β) (g:τ→Option β):Sum.elim f g (if c then .inl a else .inr r)=if c then f a else g r:=by cases c<;>rfl
theorem Aa (N:Nat) (a:Int):qf N a=some (iA a 0 2):=by unfold qf;rw [nO];rfl
theorem u9 (N:Nat) (a:Int):nt N a=some (iA a 0 9):=by unfold nt;rw [nO];rfl
theorem wF (N:Nat) (a:Int):lT N a=some (iA a 0 1000000):=by unfold lT;rw [nO];rfl
theorem pZ (N:Nat) (a:Int):lN N a=some (iA a 0 29999):=by unfold lN;rw [nO];rfl
theorem r8 (N:Nat) (a:Int):lz N a=some (iA a 0 29999):=by unfold lz;rw [nE];rfl
theorem tA (N:Nat) (a:Int):mw N a=some (iA a 0 9):=by unfold mw;rw [nE];rfl
def uL (m:je):Bool:=!(bif (m.PS != (-1)) then (!iA m.PS 0 29999 || !iA m.n 0 999) else !iA m.n 0 999)
def lH (o:gE):Bool:=o.ig.all (fun y=>iA y (-1) 9)&&(o.PG.all (fun y=>iA y 0 999)&&(o.PE.all uL&&(((o.ig.length:Int)==2)&&(((o.PG.length:Int)==(bif o.Pz==2 then o.bh else 0))&&decide ((o.PE.length:Int)≤(bif o.Pz==3 then 2 else 0))))))
theorem JU {N:Nat} (hN:ir≤N) {o:gE} (ho:iz o<ir):sN N o=some (lH o):=by
  obtain ⟨h1,h2,h3⟩:=zl ho;unfold sN lH;rw [kz o.ig (fun _ y=>iA y (-1) 9) (.inl (o.ig.length:Int)) (.inr false) (Nat.lt_of_lt_of_le h1 hN),lp,PT]
  · cases o.ig.all fun y=>iA y (-1) 9
    · rfl
    simp only [if_true,Sum.elim_inl,PX];rw [kz o.PG (fun _ y=>iA y 0 999) (.inl (o.PG.length:Int)) (.inr false) (Nat.lt_of_lt_of_le h2 hN),lp,PT]
    · cases o.PG.all fun y=>iA y 0 999
      · rfl
      simp only [if_true,Sum.elim_inl,PX];rw [kz o.PE (fun _ y=>uL y) (.inl (o.PE.length:Int)) (.inr false) (Nat.lt_of_lt_of_le h3 hN),lp,PT]
      · cases o.PE.all uL
        · rfl
        simp only [if_true,Sum.elim_inl,PX,pV,PT];congr 1;cases ((o.ig.length:Int)==2)<;>cases ((o.PG.length:Int)==(bif o.Pz==2 then o.bh else 0))<;>simp
      · intro k y hy hk;simp only [jy hk,PV,iY,hy,PT,nO,pZ,lq,pV,jB (Nat.lt_trans hk h3)];unfold uL;cases (y.PS != (-1))<;>cases iA y.PS 0 29999<;>cases iA y.n 0 999<;>rfl
      · simp only [jz,PU]
    · intro k y hy hk;simp only [jy hk,PV,iY,hy,PT,nO,jB (Nat.lt_trans hk h2)];cases iA y 0 999<;>rfl
    · simp only [jz,PU]
  · intro k y hy hk;simp only [jy hk,PV,iY,hy,PT,nO,jB (Nat.lt_trans hk h1)];cases iA y (-1) 9<;>rfl
  · simp only [jz,PU]
def blank (g:Int):gE:=gE.mk g 0 0 0 0 0 0 0 0 false [] [] []
def ja (o:gE):Bool:=iA o.PO 0 999&&(iA o.Pz 0 4&&(bif o.Pz==0 then decide (o=blank o.PO) else
  iA o.box (-1) 9&&(iA o.res 0 4&&(iA o.iK 0 1000000&&(iA o.bh 0 8&&(lH o&&(bif o.Pz != 4 then (o.PK==0&&(o.iP==0&&o.iM==0)) else
    (o.PK==0 || iA (i64.wrap (o.PK - 1)) 0 29999)&&(iA o.iP (-1) 999&&iA o.iM 0 1000000))))))))
theorem Gj {N:Nat} (hN:ir≤N) {o:gE} (ho:iz o<ir):tF N o=some (ja o):=by
  unfold tF ja;simp only [nO,vv,wF,pZ,JU hN ho,Ip hN ho,PT,lq,mj,pV];rw [show gE.mk o.PO 0 0 0 0 0 0 0 0 false [] [] []=blank o.PO from rfl];congr 1;simp only [Bool.cond_true_left,Bool.cond_false_left,Bool.cond_true_right,Bool.cond_false_right,Bool.not_or,Bool.not_not,Bool.and_assoc];cases o.PK==0<;>rfl
def nn (o:gE):Prop:=-9223372036854775808≤o.PK
theorem Kb {n:Int} (h:-9223372036854775808≤n) (h0:n<0):iA (i64.wrap (n - 1)) 0 29999=false:=by
  rcases Decidable.em (n=-9223372036854775808) with e | e
  · subst e;decide
  · rw [iE (by omega) (by omega)];simp [iA];omega
def Bh (o:gE):Bool:=bif o.Pz != 4 then (o.PK==0&&(o.iP==0&&o.iM==0)) else
    (o.PK==0 || iA (i64.wrap (o.PK - 1)) 0 29999)&&(iA o.iP (-1) 999&&iA o.iM 0 1000000)
theorem NT {o : gE} (hw : nn o) (hr : iA o.iM 0 1000000 = true) : (bif o.Pz != 4 then bif o.PK != 0 then true else bif o.iP != 0 then true else bif o.iM != 0 then true else bif o.Pz == 4 then
      bif decide (o.PK < 0) then true else bif decide (o.PK > 0) then !iA (i64.wrap (o.PK - 1)) 0 29999 || !iA o.iP (-1) 999 else !iA o.iP (-1) 999 else false
    else bif o.Pz == 4 then bif decide (o.PK < 0) then true else bif decide (o.PK > 0) then !iA (i64.wrap (o.PK - 1)) 0 29999 || !iA o.iP (-1) 999 else !iA o.iP (-1) 999 else false) = !Bh o := by
  unfold Bh;simp only [bne, hr];cases o.Pz == 4
  · simp only [Bool.not_false, PV, PU];cases o.PK == 0<;>cases o.iP == 0<;>cases o.iM == 0<;>rfl
  · simp only [PW, PV, PU]
    rcases Int.lt_trichotomy o.PK 0 with h | h | h
    · have e1 : decide (o.PK < 0) = true := by simpa using h
      have e2 : (o.PK == 0) = false := by simp; omega
      rw [e1, e2, Kb hw h]; rfl
    · simp only [h];cases iA o.iP (-1) 999<;>rfl
    · have e1 : decide (o.PK < 0) = false := by simp; omega
      have e2 : (o.PK == 0) = false := by simp; omega
      have e3 : decide (o.PK > 0) = true := by simpa using h
      rw [e1, e2, e3];cases iA (i64.wrap (o.PK - 1)) 0 29999<;>cases iA o.iP (-1) 999<;>rfl
theorem Nq (o:gE):(bif (o.PG.length:Int) != 0 then bif o.Pz != 2 then true else bif (o.PG.length:Int) != o.bh then true else bif o.Pz==2 then (o.PG.length:Int) != o.bh else false
    else bif o.Pz==2 then (o.PG.length:Int) != o.bh else false)=!((o.PG.length:Int)==(bif o.Pz==2 then o.bh else 0)):=by
  simp only [bne];cases o.Pz==2<;>cases h:((o.PG.length:Int)==0)<;>cases h2:((o.PG.length:Int)==o.bh)<;>simp [h,h2]
theorem L7 (o:gE):(bif decide ((o.PE.length:Int) > 2) then true else bif decide ((o.PE.length:Int) > 0) then o.Pz != 3 else false)=!decide ((o.PE.length:Int)≤(bif o.Pz==3 then 2 else 0)):=by
  simp only [bne];cases o.Pz==3
  · simp only [PU]
    rcases Nat.lt_trichotomy o.PE.length 0 with h | h | h
    · omega
    · simp [h]
    · rw [decide_eq_true (show (o.PE.length:Int) > 0 by omega),decide_eq_false (show ¬ ((o.PE.length:Int)≤0) by omega)];cases decide ((o.PE.length:Int) > 2)<;>rfl
  · simp only [PV]
    rcases Nat.lt_or_ge 2 o.PE.length with h | h
    · rw [decide_eq_true (show (o.PE.length:Int) > 2 by omega),decide_eq_false (show ¬ ((o.PE.length:Int)≤2) by omega)];rfl
    · rw [decide_eq_false (show ¬ ((o.PE.length:Int) > 2) by omega),decide_eq_true (show (o.PE.length:Int)≤2 by omega)];cases decide ((o.PE.length:Int) > 0)<;>rfl
theorem Gf {N:Nat} (hN:ir≤N) {o:gE} (ho:iz o<ir) (hw:nn o):ua N o=some (ja o):=by
  obtain ⟨h1,h2,h3⟩:=zl ho;unfold ua ja;rw [nE,PT];cases hg:iA o.PO 0 999
  · rfl
  simp only [PW,PU,PX];cases hk0:o.Pz==0
  · simp only [PU,nE,vR,PT,lq]
    have hk0':o.Pz ≠ 0:=by simpa using hk0
    cases hA:(!iA o.Pz 1 4 || (!iA o.box (-1) 9 || (!iA o.res 0 4 || (!iA o.iK 0 1000000 || (!iA o.bh 0 8 || ((o.ig.length:Int) != 2 || !iA o.iM 0 1000000))))))
    · simp only [Bool.or_eq_false_iff,Bool.not_eq_false',bne_eq_false_iff_eq] at hA;obtain ⟨a1,a2,a3,a4,a5,a6,a7⟩:=hA
      have a1':iA o.Pz 0 4=true:=by rw [iS] at a1 ⊢;omega
      have hl2:o.ig.length=2:=by omega
      simp only [PU,a1',a2,a3,a4,a5,PX];rw [kz o.ig (fun _ y=>iA y (-1) 9) (.inl (2:Int)) (.inr false) (Nat.lt_of_lt_of_le h1 hN),lp,PT,Ai]
      · unfold lH;cases hL:o.ig.all fun y=>iA y (-1) 9
        · rfl
        have e6:((o.ig.length:Int)==2)=true:=by simp [a6]
        simp only [if_true,PX,e6];simp only [r8,PT,pV];rw [NT hw a7,Nq o];rw [show (bif o.Pz != 4 then (o.PK==0&&(o.iP==0&&o.iM==0)) else (o.PK==0 || iA (i64.wrap (o.PK - 1)) 0 29999)&&(iA o.iP (-1) 999&&iA o.iM 0 1000000))=Bh o from rfl];cases Bh o
        · simp
        cases ((o.PG.length:Int)==(bif o.Pz==2 then o.bh else 0))
        · simp
        simp only [PW,PU,Bool.and_true,PX];rw [kz o.PG (fun _ y=>iA y 0 999) (.inl (o.PG.length:Int)) (.inr false) (Nat.lt_of_lt_of_le h2 hN),lp,PT,Ai,L7 o]
        · cases o.PG.all fun y=>iA y 0 999
          · rfl
          simp only [if_true,PX];cases decide ((o.PE.length:Int)≤(bif o.Pz==3 then 2 else 0))
          · simp
          simp only [PW,PU,Bool.and_true];rw [kz o.PE (fun _ y=>uL y) (.inl (o.PE.length:Int)) (.inr false) (Nat.lt_of_lt_of_le h3 hN),lp,PT,Ai]
          · cases o.PE.all uL<;>rfl
          · intro k y hy hk;simp only [jy hk,PV,iY,hy,PT,jB (Nat.lt_trans hk h3)];unfold uL;cases (y.PS != (-1))<;>cases iA y.PS 0 29999<;>cases iA y.n 0 999<;>rfl
          · simp only [jz,PU]
        · intro k y hy hk;simp only [jy hk,PV,iY,hy,PT,jB (Nat.lt_trans hk h2)];cases iA y 0 999<;>rfl
        · simp only [jz,PU]
      · intro k y hy hk
        have hd:decide ((k:Int)<2)=true:=by simp;omega
        simp only [hd,PV,iY,hy,PT,nE,jB (Nat.lt_trans hk h1)];cases iA y (-1) 9<;>rfl
      · simp [hl2]
    · simp only [PV];congr 1
      symm
      rw [Bool.eq_false_iff];intro h;simp only [lH,PY,iS,beq_iff_eq] at h;obtain ⟨b0,b1,b2,b3,b4,⟨_,_,_,b5,_,_⟩,b6⟩:=h
      have q1:iA o.Pz 1 4=true:=by rw [iS];omega
      have q2:iA o.box (-1) 9=true:=by rw [iS];omega
      have q3:iA o.res 0 4=true:=by rw [iS];omega
      have q4:iA o.iK 0 1000000=true:=by rw [iS];omega
      have q5:iA o.bh 0 8=true:=by rw [iS];omega
      have q6:((o.ig.length:Int) != 2)=false:=by simp [b5]
      have q7:iA o.iM 0 1000000=true:=by
        cases h4:o.Pz != 4
        · rw [h4] at b6;simp only [PU,PY] at b6;exact b6.2.2
        · rw [h4] at b6;simp only [PV,PY,beq_iff_eq] at b6;rw [b6.2.2];decide
      simp [q1,q2,q3,q4,q5,q6,q7] at hA
  · have hk:o.Pz=0:=by simpa using hk0
    simp only [PV,mj,PT];congr 1;rw [Bool.eq_iff_iff];obtain ⟨_,_,_,_,_,_,_,_,_,_,_,_,_⟩:=o;simp only at hk;subst hk;simp [blank,iA]
end Go.Kx
namespace Go.Kx
open Go
open Go.IntKind (i64)
set_option linter.unusedVariables false
set_option linter.unusedSimpArgs false
set_option maxRecDepth 10000
theorem qD {o:gE} (h:ja o=true):o.ig.length≤2∧∀ y,y ∈ o.ig→-1≤y∧y≤9:=by
  unfold ja at h;cases hk:o.Pz==0
  · simp only [hk,PU,PY] at h;obtain ⟨_,_,_,_,_,_,hl,_⟩:=h;unfold lH at hl;simp only [PY,List.all_eq_true,iS,beq_iff_eq] at hl;exact ⟨by omega,hl.1⟩
  · simp only [hk,PV,PY,decide_eq_true_eq] at h;rw [h.2.2];simp [blank]
theorem mJ {o:gE} (h:ja o=true) (hk:(o.Pz != 0)=true):iA o.box (-1) 9=true∧iA o.res 0 4=true∧iA o.iK 0 1000000=true∧iA o.bh 0 8=true:=by
  unfold ja at h
  have hk:(o.Pz==0)=false:=by simpa [bne] using hk
  simp only [hk,PU,PY] at h;exact ⟨h.2.2.1,h.2.2.2.1,h.2.2.2.2.1,h.2.2.2.2.2.1⟩
def vq (l:List gE) (i:Int):Bool:=(nth l i).Pz==0
def v5 (l:List gE) (o:gE):Bool:=o.ig.all fun y=>!(decide (y ≥ 0)&&vq l y)
def uw (l:List gE) (k:Nat) (o:gE):Bool:=(ja o&&!(decide ((k:Int) > 0)&&(o.Pz != 0&&(decide (o.box ≥ 0)&&vq l o.box))))&&v5 l o
def vX (l:List gE):Bool:=((nth l 0).Pz != 1) || (((nth l 0).box != (-1)) || ((nth l 0).iK != 1000000))
def kp (l:List gE):Bool:=!((l.length:Int) != 10)&&(!vX l&&allI (uw l) 0 l)
theorem Ca {N:Nat} (hN:ir≤N) {l:List gE} (hl:l.length=10) {o:gE} (ho:o.ig.length≤2) (hr:∀ y,y ∈ o.ig→-1≤y∧y≤9) :
    iter (fun (s75:Int)=>(bif (decide (s75<(o.ig.length:Int))) then ((idx o.ig s75).bind fun y96=>(bif (decide (y96 ≥ 0)) then ((idx l y96).bind fun y108=>some (y108.Pz==0)) else (some false):Option Bool).bind fun j105=>bif j105 then (some (.inr (.inr false))) else (some (.inl (i64.wrap (s75+1))))) else (some (.inr (.inl s75))):Option (Int⊕(Int⊕Bool)))) N 0=some (if v5 l o then .inl (o.ig.length:Int) else .inr false):=by
  have hB:o.ig.length<ir:=Nat.lt_of_le_of_lt ho (by decide);rw [kz o.ig (fun _ y=>!(decide (y ≥ 0)&&vq l y)) (.inl (o.ig.length:Int)) (.inr false) (Nat.lt_of_lt_of_le hB hN),lp]
  · rfl
  · intro k y hy hk;have hm:=hr y (List.mem_of_getElem? hy);simp only [jy hk,PV,iY,hy,PT,jB (Nat.lt_trans hk hB)];cases h0:decide (y ≥ 0)
    · rfl
    · have h0:y ≥ 0:=by simpa using h0
      simp only [PV,jC (l:=l) (i:=y) h0 (by omega),PT,PX];unfold vq;cases (nth l y).Pz==0<;>rfl
  · simp only [jz,PU]
theorem FX {l:List gE} (hl:l.length=10) {o:gE} (ho:ja o=true):(bif (decide (o.box ≥ 0)) then ((idx l o.box).bind fun y58=>some (y58.Pz==0)) else (some false):Option Bool)=some (decide (o.box ≥ 0)&&vq l o.box)∨(o.Pz != 0)=false:=by
  cases hk:o.Pz != 0
  · exact .inr rfl
  · left;obtain ⟨hb,_⟩:=mJ ho hk;rw [iS] at hb;cases h0:decide (o.box ≥ 0)
    · rfl
    · have h0:o.box ≥ 0:=by simpa using h0
      simp only [PV,jC (l:=l) (i:=o.box) h0 (by omega),PT,PX];rfl
theorem wN {N:Nat} (hN:ir≤N) {l:List gE} (hb:jr iz l<ir):nZ N l=some (kp l):=by
  have hlB:=mG hb;unfold nZ kp;cases h10:((l.length:Int) != 10)
  · have hl:l.length=10:=xO (n:=10) h10;rw [jC (l:=l) (i:=0) (by omega) (by omega)];simp only [PU,PT,lq,Bool.not_false,PX];rw [show ((nth l 0).Pz != 1 || ((nth l 0).box != (-1) || (nth l 0).iK != 1000000))=vX l from rfl];cases vX l
    · simp only [PU,Bool.not_false,PX];rw [kz l (uw l) (.inl (l.length:Int)) (.inr false) (Nat.lt_of_lt_of_le hlB hN)]
      · simp only [PT];cases allI (uw l) 0 l<;>rfl
      · intro k y hy hk;have hm:=List.mem_of_getElem? hy;simp only [jy hk,PV,iY,hy,PT,Gj hN (jY hb hm),jB (Nat.lt_trans hk hlB)];unfold uw;cases ho:ja y
        · rfl
        · obtain ⟨q1,q2⟩:=qD ho;rw [Ca hN hl q1 q2]
          rcases FX hl ho with q | q
          · rw [q];simp only [PW,PU,PX,mj,PT];cases (decide ((k:Int) > 0)&&(y.Pz != 0&&(decide (y.box ≥ 0)&&vq l y.box)))<;>cases v5 l y<;>rfl
          · simp only [q,PW,PU,PX,Bool.false_and,Bool.and_false,mj,PT];cases v5 l y<;>rfl
      · simp only [jz,PU]
    · rfl
  · rfl
def wA (l:List gE):Prop:=∀ o,o ∈ l→nn o
theorem rA {N:Nat} (hN:ir≤N) {l:List gE} (hb:jr iz l<ir) (hw:wA l):mr N l=some (kp l):=by
  have hlB:=mG hb;unfold mr kp;cases h10:((l.length:Int) != 10)
  · have hl:l.length=10:=xO (n:=10) h10;rw [jC (l:=l) (i:=0) (by omega) (by omega)];simp only [PU,PT,lq,Bool.not_false,PX];rw [show ((nth l 0).Pz != 1 || ((nth l 0).box != (-1) || (nth l 0).iK != 1000000))=vX l from rfl];cases vX l
    · simp only [PU,Bool.not_false,PX];rw [kz l (uw l) (.inl (l.length:Int)) (.inr false) (Nat.lt_of_lt_of_le hlB hN)]
      · simp only [PT];cases allI (uw l) 0 l<;>rfl
      · intro k y hy hk;have hm:=List.mem_of_getElem? hy;simp only [jy hk,PV,iY,hy,PT,Gf hN (jY hb hm) (hw y hm),jB (Nat.lt_trans hk hlB)];unfold uw;cases ho:ja y
        · rfl
        · obtain ⟨q1,q2⟩:=qD ho;rw [Ca hN hl q1 q2]
          rcases FX hl ho with q | q
          · rw [q];simp only [PW,PU,PX,mj,PT];cases y.Pz != 0<;>cases decide ((k:Int) > 0)<;>cases (decide (y.box ≥ 0)&&vq l y.box)<;>cases v5 l y<;>rfl
          · simp only [q,PW,PU,PX,Bool.false_and,Bool.and_false,mj,PT];cases v5 l y<;>rfl
      · simp only [jz,PU]
    · rfl
  · rfl
theorem xl {N:Nat} (hN:ir≤N) {l:List Int} {x:Int} (hb:l.length<ir):m4 N l x=some (l.contains x):=by
  unfold m4;rw [kz l (fun _ y=>!(y==x)) (.inl (l.length:Int)) (.inr true) (Nat.lt_of_lt_of_le hb hN),lp]
  · have:(l.all fun y=>!(y==x))=!l.contains x:=by
      induction l with
      | nil=>rfl
      | cons y l ih =>
        have ih:=ih (Nat.lt_trans (Nat.lt_succ_self _) hb);rw [List.all_cons,ih,List.contains_cons,Bool.beq_comm (a:=x)];cases (y==x)<;>rfl
    rw [this,PT];cases l.contains x<;>rfl
  · intro k y hy hk;simp only [jy hk,PV,iY,hy,PT,jB (Nat.lt_trans hk hb)];cases (y==x)<;>rfl
  · simp only [jz,PU]
def r6 (g:List Int) (k:Nat) (y:Int):Bool:=iA y 0 9&&!(g.take k).contains y
def nI (g:jv):Bool:=((g.PD==0)&&(g.PL==0)) || ((g.PD==1)&&(iA g.PL 0 9&&((g.hZ.length:Int)==0)))
def kB (h:il):Bool:=kp h.ag&&(nI h.gc&&(iA h.gc.PF 0 1000000&&allI (r6 h.gc.hZ) 0 h.gc.hZ))
theorem FV {α:Type} {l:List α} {k:Nat} (h:l.length<ir):(l.take k).length<ir:=Nat.lt_of_le_of_lt (by simp;omega) h
theorem zV {N:Nat} (hN:ir≤N) {h:il} (h1:jr iz h.ag<ir) (h2:h.gc.hZ.length<ir):qb N h=some (kB h):=by
  unfold qb kB;rw [kz h.gc.hZ (r6 h.gc.hZ) (.inl (h.gc.hZ.length:Int)) (.inr false) (Nat.lt_of_lt_of_le h2 hN)]
  · simp only [PT,u9,wF,wN hN h1,mj];cases allI (r6 h.gc.hZ) 0 h.gc.hZ
    · simp
    · simp only [if_true,Sum.elim_inl,Bool.and_true];unfold nI;cases kp h.ag
      · rfl
      cases ((h.gc.PD==0)&&(h.gc.PL==0))
      · cases ((h.gc.PD==1)&&(iA h.gc.PL 0 9&&((h.gc.hZ.length:Int)==0)))<;>rfl
      · rfl
  · intro k y hy hk;simp only [jy hk,PV,iY,hy,PT,u9,xG (Nat.le_of_lt hk),uG hN (FV h2),jB (Nat.lt_trans hk h2)];unfold r6;cases iA y 0 9<;>cases (h.gc.hZ.take k).contains y<;>rfl
  · simp only [jz,PU]
theorem Mt (n:Nat):decide ((n:Int) > 0)=!((n:Int)==0):=by
  cases n with
  | zero=>rfl
  | succ n=>rw [decide_eq_true (by omega)];simp;omega
theorem xJ {N:Nat} (hN:ir≤N) {h:il} (h1:jr iz h.ag<ir) (h2:h.gc.hZ.length<ir) (hw:wA h.ag):oY N h=some (kB h):=by
  unfold oY kB;rw [kz h.gc.hZ (r6 h.gc.hZ) (.inl (h.gc.hZ.length:Int)) (.inr false) (Nat.lt_of_lt_of_le h2 hN)]
  · simp only [PT,tA,nE,rA hN h1 hw,lq,Mt];cases kp h.ag
    · rfl
    cases iA h.gc.PF 0 1000000
    · simp
    unfold nI
    by_cases q0:h.gc.PD=0
    · have e0:(h.gc.PD==0)=true:=by simp [q0]
      have e1:(h.gc.PD==1)=false:=by simp [q0]
      have e2:iA h.gc.PD 0 1=true:=by rw [q0];decide
      rw [e0,e1,e2];simp only [bne];cases h.gc.PL==0
      · rfl
      · cases allI (r6 h.gc.hZ) 0 h.gc.hZ<;>rfl
    by_cases q1:h.gc.PD=1
    · have e0:(h.gc.PD==0)=false:=by simp [q1]
      have e1:(h.gc.PD==1)=true:=by simp [q1]
      have e2:iA h.gc.PD 0 1=true:=by rw [q1];decide
      rw [e0,e1,e2];cases iA h.gc.PL 0 9
      · rfl
      cases ((h.gc.hZ.length:Int)==0)
      · rfl
      · cases allI (r6 h.gc.hZ) 0 h.gc.hZ<;>rfl
    · have e0:(h.gc.PD==0)=false:=by simp [q0]
      have e1:(h.gc.PD==1)=false:=by simp [q1]
      have e2:iA h.gc.PD 0 1=false:=by
        rw [Bool.eq_false_iff,Ne,iS];omega
      rw [e0,e1,e2];rfl
  · intro k y hy hk;simp only [jy hk,PV,iY,hy,PT,tA,xG (Nat.le_of_lt hk),xl hN (FV h2),jB (Nat.lt_trans hk h2)];unfold r6;cases iA y 0 9<;>cases (h.gc.hZ.take k).contains y<;>rfl
  · simp only [jz,PU]
def lA (t:iZ):Bool:=(iA t.res 0 4&&(iA t.km 0 2&&(iA t.nu 0 4&&iA t.kT 0 2)))&&(((t.Pz==1)&&iA t.mA 0 1000) || ((t.Pz==2)&&iA t.mA 0 100))
theorem GC (N:Nat) (t:iZ):tR N t=some (lA t):=by
  unfold tR lA;simp only [vv,Aa,nO,PT,lq,mj]
  by_cases q:t.Pz=1
  · have e1:(t.Pz==1)=true:=by simp [q]
    have e2:(t.Pz==2)=false:=by simp [q]
    rw [e1,e2];cases iA t.res 0 4<;>cases iA t.nu 0 4<;>cases iA t.km 0 2<;>cases iA t.kT 0 2<;>cases iA t.mA 0 1000<;>rfl
  · have e1:(t.Pz==1)=false:=by simp [q]
    rw [e1];cases iA t.res 0 4<;>cases iA t.nu 0 4<;>cases iA t.km 0 2<;>cases iA t.kT 0 2<;>cases (t.Pz==2)<;>cases iA t.mA 0 100<;>rfl
theorem Bv (N:Nat) (t:iZ):rz N t=some (lA t):=by
  unfold rz lA;simp only [vR,nE,PT,lq,mj]
  by_cases q:t.Pz=1
  · have e1:(t.Pz==1)=true:=by simp [q]
    have e2:(t.Pz==2)=false:=by simp [q]
    rw [e1,e2];cases iA t.res 0 4<;>cases iA t.km 0 2<;>cases iA t.nu 0 4<;>cases iA t.kT 0 2<;>cases iA t.mA 0 1000<;>rfl
  · have e1:(t.Pz==1)=false:=by simp [q]
    rw [e1];cases iA t.res 0 4<;>cases iA t.km 0 2<;>cases iA t.nu 0 4<;>cases iA t.kT 0 2<;>cases (t.Pz==2)<;>cases iA t.mA 0 100<;>rfl
def rq (p:cd):Bool:=iA p.PJ 0 9&&(iA p.PI 0 10&&(iU p.hY&&(iA p.ik 0 1000000&&iA p.PH 0 1000000)))
def iO (p:cd):Bool:=jH p.PB&&(mQ p.own&&(kj p.PC&&(kB p.py&&(!decide ((p.ia.length:Int) > 3)&&(p.ia.all lA&&rq p)))))
theorem zT {N:Nat} (hN:ir≤N) {p:cd} (h:iH p<ir):qd N p=some (iO p):=by
  obtain ⟨h1,h2,h3,h4,h5,h6⟩:=kS h;unfold qd iO;rw [kz p.ia (fun _ t=>lA t) (.inl (p.ia.length:Int)) (.inr false) (Nat.lt_of_lt_of_le h6 hN),lp]
  · simp only [PT,yw hN h1,Ge hN h2,vb hN,zV hN h4 h5,u9,nO,so,wF,lq,mj];rw [show (iA p.PJ 0 9&&(iA p.PI 0 10&&(iU p.hY&&(iA p.ik 0 1000000&&iA p.PH 0 1000000))))=rq p from rfl];cases p.ia.all lA
    · simp
    · simp only [if_true,Sum.elim_inl,PX];cases jH p.PB<;>cases mQ p.own<;>cases kj p.PC<;>cases kB p.py<;>cases decide ((p.ia.length:Int) > 3)<;>rfl
  · intro k y hy hk;simp only [jy hk,PV,iY,hy,PT,GC,jB (Nat.lt_trans hk h6)];cases lA y<;>rfl
  · simp only [jz,PU]
def wP (p:cd):Prop:=wA p.py.ag
theorem z6 {N:Nat} (hN:ir≤N) {p:cd} (h:iH p<ir) (hw:wP p):qi N p=some (iO p):=by
  obtain ⟨h1,h2,h3,h4,h5,h6⟩:=kS h;unfold qi iO;rw [kz p.ia (fun _ t=>lA t) (.inl (p.ia.length:Int)) (.inr false) (Nat.lt_of_lt_of_le h6 hN),lp]
  · simp only [PT,vl hN h1,zk hN h2,xS hN,xJ hN h4 h5 hw,tA,nE,sm,lq,mj];unfold rq;cases jH p.PB
    · rfl
    cases mQ p.own
    · rfl
    cases kj p.PC
    · rfl
    cases kB p.py
    · rfl
    cases decide ((p.ia.length:Int) > 3)
    · simp only [PW,Bool.not_false,Bool.false_or,PX];cases iA p.PJ 0 9<;>cases iA p.PI 0 10<;>cases iU p.hY<;>cases iA p.ik 0 1000000<;>cases iA p.PH 0 1000000<;>cases p.ia.all lA<;>rfl
    · rfl
  · intro k y hy hk;simp only [jy hk,PV,iY,hy,PT,Bv,jB (Nat.lt_trans hk h6)];cases lA y<;>rfl
  · simp only [jz,PU]
end Go.Kx
