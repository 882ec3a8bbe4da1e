import Derived.Test.YtlcgibcdiikheaaGreatHa
namespace Go.Kx
open Go
open Go.IntKind (i64)
set_option linter.unusedVariables false
set_option linter.unusedSimpArgs false
set_option maxRecDepth 10000
theorem tz (p q:Bool):(bif p then some q else some false)=some (p&&q):=by cases p<;>rfl
theorem sA (p q:Bool):(bif p then some true else some q)=some (p || q):=by cases p<;>rfl
def qn (a b c:Int):Bool:=decide (b≤a)&&decide (a≤c)
theorem rk {a b c:Int}:qn a b c=true ↔ b≤a∧a≤c:=by simp [qn]
theorem ua (N:Nat) (a b c:Int):qS N a b c=some (qn a b c):=tz _ _
theorem uA (N:Nat) (a b c:Int):qW N a b c=some (qn a b c):=tz _ _
def EA (n:Int):Bool:=qn n 0 1000000
theorem Um (N:Nat) (a:Int):zh N a=some (EA a):=by unfold zh;rw [ua];rfl
theorem He (N:Nat) (a:Int):vd N a=some (EA a):=by unfold vd;rw [uA];rfl
def re (a:qj):Bool:=EA a.gE&&(EA a.qa&&EA a.qg)
theorem zt (N:Nat) (a:qj):sY N a=some (re a):=by unfold sY;simp only [Um,Vw,tz];rfl
theorem yr (N:Nat) (a:qj):sN N a=some (re a):=by unfold sN;simp only [He,Vw,tz];rfl
def qY (a b:qj):qj:=qj.mk (i64.wrap (a.gE+b.gE)) (i64.wrap (a.qa+b.qa)) (i64.wrap (a.qg+b.qg))
def v5 (a b:qj):qj×Bool:=if re a&&re b&&re (qY a b) then (qY a b,true) else (a,false)
theorem Ev (N:Nat) (a b:qj):vD N a b=some (v5 a b):=by
  unfold vD v5;simp only [zt,Vw,sA]
  show (bif (!re a || !re b) then some (a,false) else (bif !re (qY a b) then some (a,false) else some (qY a b,true)))=_
  cases re a<;>cases re b<;>cases re (qY a b)<;>rfl
theorem Ao (N:Nat) (a b:qj):ub N a b=some (qY a b):=rfl
theorem Pu (N:Nat) (a b:qj):AU N a b=some (v5 a b):=by
  unfold AU v5;simp only [yr,Ao,Vw,sA];cases re a<;>cases re b<;>cases re (qY a b)<;>rfl
def uQ (l:rA):Bool:=((l.Va.length:Int)==4)&&l.Va.all fun y=>qn y 0 3
theorem Bx {l:rA}:uQ l=true ↔ l.Va.length=4∧∀ y,y ∈ l.Va→0≤y∧y≤3:=by
  simp only [uQ,VB,List.all_eq_true,rk,beq_iff_eq];constructor
  · rintro ⟨h1,h2⟩;exact ⟨by omega,h2⟩
  · rintro ⟨h1,h2⟩;exact ⟨by omega,h2⟩
theorem EH {N:Nat} (hN:pW≤N) {l:rA} (hb:l.Va.length<pW):wY N l=some (uQ l):=by
  unfold wY uQ;rw [sj l.Va (fun _ y=>qn y 0 3) (.inl (l.Va.length:Int)) (.inr false) (Nat.lt_of_lt_of_le hb hN),sE]
  · cases h:((l.Va.length:Int)==4)
    · have:((l.Va.length:Int) != 4)=true:=by simp [bne,h]
      simp [this]
    · have:((l.Va.length:Int) != 4)=false:=by simp [bne,h]
      simp only [this,Vx,Vw,VA];cases l.Va.all fun y=>qn y 0 3<;>rfl
  · intro k y hy hk;simp only [qQ hk,Vy,qv,hy,Vw,ua,qV (Nat.lt_trans hk hb)];cases qn y 0 3<;>rfl
  · simp only [qR,Vx]
theorem Fm {N:Nat} (hN:pW≤N) {l:rA} (hb:l.Va.length<pW):xc N l=some (uQ l):=by
  unfold xc uQ;rw [sj l.Va (fun _ y=>qn y 0 3) (.inl (l.Va.length:Int)) (.inr false) (Nat.lt_of_lt_of_le hb hN),sE]
  · simp only [Vw];cases l.Va.all fun y=>qn y 0 3<;>simp
  · intro k y hy hk;simp only [qQ hk,Vy,qv,hy,Vw,uA,qV (Nat.lt_trans hk hb)];cases qn y 0 3<;>rfl
  · simp only [qR,Vx]
def Et (l:List Int) (k:Nat) (y:Int):Bool:=qn y 0 3&&match k with
  | 0=>true
  | j+1=>!decide (y≤(l[j]?).getD 0)
def BF (l:List Int):Bool:=allI (Et l) 0 l
theorem LV {l:List Int} {k:Nat} {y:Int} (hy:l[k]?=some y) (hk:k<l.length) (hb:l.length<pW) {N:Nat} :
    (bif (!(qn y 0 3)) then (some true) else (bif (decide ((k:Int) > 0)) then ((idx l (i64.wrap ((k:Int) - 1))).bind fun y18=>some (decide (y≤y18))) else (some false)):Option Bool)=some (!Et l k y):=by
  have hB:l.length<16777216:=hb;unfold Et
  cases k with
  | zero =>
    have:decide (((0:Nat):Int) > 0)=false:=by decide
    simp only [this,Vx];cases qn y 0 3<;>rfl
  | succ j =>
    have:decide (((j+1:Nat):Int) > 0)=true:=by simp
    have e:i64.wrap (((j+1:Nat):Int) - 1)=(j:Int):=by rw [rG (by omega) (by omega)];omega
    have hz:l[j]?=some (l[j]'(by omega)):=List.getElem?_eq_getElem _;simp only [this,Vy,e,qv,hz,Vw,Option.getD_some];cases qn y 0 3<;>simp
theorem LR {N:Nat} (hN:pW≤N) {l:List Int} (hb:l.length<pW):Ax N l=some (BF l):=by
  unfold Ax BF;rw [sj l (Et l) (.inl (l.length:Int)) (.inr false) (Nat.lt_of_lt_of_le hb hN)]
  · simp only [Vw];cases allI (Et l) 0 l<;>rfl
  · intro k y hy hk;simp only [qQ hk,Vy,qv,hy,Vw,ua,qV (Nat.lt_trans hk hb)];rw [LV hy hk hb (N:=N)];cases Et l k y<;>rfl
  · simp only [qR,Vx]
theorem Mf {N:Nat} (hN:pW≤N) {l:List Int} (hb:l.length<pW):AH N l=some (BF l):=by
  unfold AH BF;rw [sj l (Et l) (.inl (l.length:Int)) (.inr false) (Nat.lt_of_lt_of_le hb hN)]
  · simp only [Vw];cases allI (Et l) 0 l<;>rfl
  · intro k y hy hk;simp only [qQ hk,Vy,qv,hy,Vw,uA,qV (Nat.lt_trans hk hb),ge_iff_le];rw [LV hy hk hb (N:=N)];cases Et l k y<;>rfl
  · simp only [qR,Vx]
theorem RU {N:Nat} (hN:pW≤N) {l:List Int} {x:Int} (hb:l.length<pW):∃ r,yc N l x=some r∧decide (r ≥ 0)=l.contains x:=by
  unfold yc;have hB:l.length<16777216:=hb;rw [show (0:Int)=(fun (k:Nat) (_:Unit)=>(k:Int)) 0 () from rfl,vh l (fun k (_:Unit)=>(k:Int)) (fun k _ y=>if x==y then .inr (.inr (k:Int)) else .inl ()) (fun _=>.inl (l.length:Int)) (fun _ _=>True) ?_ ?_ (Nat.lt_of_lt_of_le hb hN) trivial]
  · simp only [Vw]
    have key:∀ (m:List Int) (k:Nat), ∃ r,Sum.elim (fun _=>some (-1)) (fun r16=>some r16) (tV (ρ:=Int⊕Int) (fun (k:Nat) (_:Unit) y=>if x==y then .inr (.inr (k:Int)) else .inl ()) (fun _=>.inl (l.length:Int)) k () m)=some r∧decide (r ≥ 0)=m.contains x:=by
      intro m
      induction m with
      | nil=>intro k;exact ⟨-1,rfl,rfl⟩
      | cons y m ih =>
        intro k;cases hxy:(x==y)
        · obtain ⟨r,h1,h2⟩:=ih (k+1)
          have hne:x ≠ y:=by simpa using hxy
          refine ⟨r,by simpa [tV,hxy] using h1,by rw [h2];simp [List.contains_cons,hne]⟩
        · have he:x=y:=by simpa using hxy
          exact ⟨k,by simp [tV,hxy],by simp [List.contains_cons,he]⟩
    exact key l 0
  · intro k _ y hy hk _;simp only [qQ hk,Vy,qv,hy,Vw,qV (Nat.lt_trans hk hb)];cases (x==y)<;>simp
  · intro _ _;simp only [qR,Vx]
theorem A8 {N:Nat} (hN:pW≤N) {l:List Int} {x:Int} (hb:l.length<pW):s5 N l x=some (l.contains x):=by
  unfold s5;obtain ⟨r,h1,h2⟩:=RU hN hb (x:=x);rw [h1,Vw,h2]
def xf (b:List Int):Nat→List Int→List Int
  | _,[]=>[]
  | k,y::l=>if decide (y > (b[k]?).getD 0) then (k:Int)::xf b (k+1) l else xf b (k+1) l
theorem GJ (b:List Int):∀ (l:List Int) (k:Nat),(xf b k l).length≤l.length
  | [],_=>Nat.le_refl _
  | y::l,k=>by
    unfold xf;have:=GJ b l (k+1);split<;>simp<;>omega
theorem FO (b:List Int):∀ (l:List Int) (k:Nat) (acc:List Int),foldI (fun k (acc:List Int) y=>if decide (y > (b[k]?).getD 0) then acc++[(k:Int)] else acc) k acc l=acc++xf b k l
  | [],_,acc=>by simp [foldI,xf]
  | y::l,k,acc=>by
    unfold foldI xf;rw [FO b l];cases decide (y > (b[k]?).getD 0)<;>simp
theorem RV {N:Nat} (hN:pW≤N) {a b:rA} (ha:a.Va.length<pW) (hab:a.Va.length≤b.Va.length):BN N a b=some (xf b.Va 0 a.Va):=by
  unfold BN
  rw [show (([]:List Int),(0:Int))=(fun (k:Nat) (t:List Int)=>(t,(k:Int))) 0 [] from rfl,
    sC a.Va (fun k (t:List Int)=>(t,(k:Int))) (fun k acc y=>if decide (y > (b.Va[k]?).getD 0) then acc++[(k:Int)] else acc) (fun t=>(t,(a.Va.length:Int))) (fun k t=>t.length≤k) ?_ ?_ (Nat.lt_of_lt_of_le ha hN) (by simp),FO]
  · simp
  · intro k t y hy hk hI;have hz:b.Va[k]?=some (b.Va[k]'(by omega)):=List.getElem?_eq_getElem _;simp only [qQ hk,Vy,qv,hy,hz,Vw,Option.getD_some,qV (Nat.lt_trans hk ha)];cases decide (y > b.Va[k]'(by omega))
    · exact ⟨rfl,by simp;omega⟩
    · have:app t [(k:Int)]=some (t++[(k:Int)]):=by unfold app;rw [if_pos (by simp;omega)]
      simp only [this,Vw,Vy,if_true];exact ⟨trivial,by simp;omega⟩
  · intro t _;simp only [qR,Vx]
def yL (own:List Int) (a b:rA):Bool:=BF own&&(uQ a&&(uQ b&&allI (fun k y=>!decide (y > (b.Va[k]?).getD 0) || own.contains (k:Int)) 0 a.Va))
theorem Iu (b:List Int) (q:Int→Bool):∀ (l:List Int) (k:Nat),(xf b k l).all q=allI (fun k y=>!decide (y > (b[k]?).getD 0) || q (k:Int)) k l
  | [],_=>rfl
  | y::l,k=>by
    unfold xf allI;rw [← Iu b q l (k+1)];cases decide (y > (b[k]?).getD 0)<;>simp
theorem Np {N:Nat} (hN:pW≤N) {own:List Int} {a b:rA} (ho:own.length<pW) (ha:a.Va.length<pW) (hb:b.Va.length<pW):zb N own a b=some (yL own a b):=by
  unfold zb yL;simp only [Mf hN ho,Fm hN ha,Fm hN hb,Vw,sA];cases h1:BF own
  · rfl
  cases h2:uQ a
  · rfl
  cases h3:uQ b
  · rfl
  have l2:=(Bx.1 h2).1;have l3:=(Bx.1 h3).1;have hl:=GJ b.Va a.Va 0;have hB:(xf b.Va 0 a.Va).length<pW:=Nat.lt_of_le_of_lt hl ha;simp only [Vz,Bool.or_self,Vx,RV hN ha (b:=b) (by omega),Vw,VA];rw [sj (xf b.Va 0 a.Va) (fun _ y=>own.contains y) (.inl ((xf b.Va 0 a.Va).length:Int)) (.inr false) (Nat.lt_of_lt_of_le hB hN),sE,Iu]
  · simp only [Vw];cases allI _ 0 a.Va<;>rfl
  · intro k y hy hk;simp only [qQ hk,Vy,qv,hy,Vw,A8 hN ho,qV (Nat.lt_trans hk hB)];cases own.contains y<;>rfl
  · simp only [qR,Vx]
theorem SP {α ρ:Type} {body:Int→Option (Int⊕ρ)} (x:List α) (h4:x.length=4) (p:Nat→α→Bool) (r r':ρ) {N:Nat} (hN:pW≤N)
    (hs:∀ (k:Nat) (y:α),x[k]?=some y→k<4→decide ((k:Int)<4)=true→body (k:Int)=some (if p k y then .inl ((k+1:Nat):Int) else .inr r')) (he:body 4=some (.inr r)):iter body N 0=some (if allI p 0 x then r else r') :=
  sj x p r r' (by have:16777216≤N:=hN;omega) (fun k y hy hk=>hs k y hy (by omega) (by simp;omega)) (by rw [h4];exact he)
end Go.Kx
namespace Go.Kx
open Go
open Go.IntKind (i64)
set_option linter.unusedVariables false
set_option linter.unusedSimpArgs false
set_option maxRecDepth 10000
theorem FU {N:Nat} (hN:pW≤N) {a b:List Int} (ha:a.length<pW):yg N a b=some (decide (a=b)):=Hv a b (· != ·) (by intro y z;by_cases h:y=z<;>simp [h]) ha hN
theorem KT {N:Nat} (hN:pW≤N) {a b:List qM} (ha:a.length<pW):Aa N a b=some (decide (a=b)):=Hv a b (fun y z=>!decide (y=z)) (fun _ _=>rfl) ha hN
theorem Hb {o:j8} (h:qf o<pW):o.pX.length<pW∧o.Vh.length<pW∧o.Vf.length<pW:=by unfold qf at h;omega
theorem Ob {N:Nat} (hN:pW≤N) {a b:j8} (ha:qf a<pW):zO N a b=some (decide (a=b)):=by
  obtain ⟨h1,h2,h3⟩:=Hb ha;unfold zO;simp only [FU hN h1,FU hN h2,KT hN h3,Vw,tz];congr 1;rw [Bool.eq_iff_iff];cases a;cases b;simp [j8.mk.injEq]
theorem sm {p:cd} (h:qh p<pW):p.Vb.Va.length<pW∧p.own.length<pW∧p.Vd.length<pW∧qU qf p.U7.ag<pW∧p.U7.gc.pT.length<pW∧p.pU.length<pW:=by
  unfold qh sy vk uh at h;omega
end Go.Kx
namespace Go.Kx
open Go
open Go.IntKind (i64)
set_option linter.unusedVariables false
set_option linter.unusedSimpArgs false
set_option maxRecDepth 10000
theorem sh {α:Type} {l:List α} (h:l.length<pW):app ([]:List α) l=some l:=by
  unfold app;rw [if_pos (by simpa using h)];rfl
theorem A5 {N:Nat} {l:List Int} (h:l.length<pW):uw N l=some l:=by unfold uw;rw [sh h];rfl
theorem Kw {N:Nat} {l:rA} (h:l.Va.length<pW):ym N l=some l:=by unfold ym;rw [A5 h];rfl
theorem wV {N:Nat} {l:List qc} (h:l.length<pW):tA N l=some l:=by unfold tA;rw [sh h];rfl
theorem w5 {N:Nat} {l:List qc} (h:l.length<pW):tx N l=some l:=by unfold tx;rw [sh h];rfl
theorem HW {N:Nat} {o:j8} (h:qf o<pW):yx N o=some o:=by
  obtain ⟨h1,h2,h3⟩:=Hb h;unfold yx;simp only [A5 h1,A5 h2,sh h3,Vw]
theorem LC {N:Nat} {o:j8} (h:qf o<pW):AN N o=some o:=by
  obtain ⟨h1,h2,h3⟩:=Hb h;unfold AN;simp only [sh h1,sh h2,sh h3,Vw]
theorem BC {N:Nat} (hN:pW≤N) {l:List j8} (hb:qU qf l<pW):uI N l=some l:=by
  have hl:=rS hb;unfold uI;rw [wK l (fun _ _=>true) (fun _ y=>y) hl hN,xn (fun _=>true)]
  · simp
  · intro k t y hy hk ht;simp only [qQ hk,Vy,qv,hy,Vw,HW (rE hb (List.mem_of_getElem? hy)),qV (Nat.lt_trans hk hl),tQ ht (Nat.lt_of_le_of_lt hk hl)];rfl
  · intro t;simp only [qR,Vx]
theorem Gl {N:Nat} (hN:pW≤N) {l:List j8} (hb:qU qf l<pW):wF N l=some l:=by
  have hl:=rS hb;unfold wF;rw [wK l (fun _ _=>true) (fun _ y=>y) hl hN,xn (fun _=>true)]
  · simp
  · intro k t y hy hk ht;simp only [qQ hk,Vy,qv,hy,Vw,LC (rE hb (List.mem_of_getElem? hy)),qV (Nat.lt_trans hk hl),tQ ht (Nat.lt_of_le_of_lt hk hl)];rfl
  · intro t;simp only [qR,Vx]
theorem Cg {N:Nat} (hN:pW≤N) {h:qd} (h1:qU qf h.ag<pW) (h2:h.gc.pT.length<pW):vi N h=some h:=by
  unfold vi;simp only [BC hN h1,A5 h2,Vw]
theorem Dv {N:Nat} (hN:pW≤N) {h:qd} (h1:qU qf h.ag<pW) (h2:h.gc.pT.length<pW):vF N h=some h:=by
  unfold vF;simp only [Gl hN h1,sh h2,Vw]
theorem xR {N:Nat} (hN:pW≤N) {p:cd} (h:qh p<pW):sD N p=some p:=by
  obtain ⟨h1,h2,h3,h4,h5,h6⟩:=sm h;unfold sD;simp only [Kw h1,A5 h2,wV h3,Cg hN h4 h5,sh h6,Vw]
theorem At {N:Nat} (hN:pW≤N) {p:cd} (h:qh p<pW):uq N p=some p:=by
  obtain ⟨h1,h2,h3,h4,h5,h6⟩:=sm h;unfold uq;simp only [sh h1,sh h2,w5 h3,Dv hN h4 h5,sh h6,Vw]
theorem Es {α:Type} {l:List α} {k:Nat} (h:k≤l.length):sub l 0 (k:Int)=some (l.take k):=by
  unfold sub;rw [if_pos ⟨Int.le_refl _,by omega,by omega⟩];simp
theorem HY {α:Type} (f:α→Nat):∀ (l:List α) (k:Nat),qb f (l.take k)≤qb f l
  | [],k=>by simp
  | y::l,0=>Nat.zero_le _
  | y::l,k+1=>by
    have:=HY f l k;simp only [List.take_succ_cons,qb];omega
theorem Pt {α:Type} (f:α→Nat) (l:List α) (k:Nat):qU f (l.take k)≤qU f l:=by
  have:=HY f l k;unfold qU;simp only [List.length_take];omega
end Go.Kx
namespace Go.Kx
open Go
open Go.IntKind (i64)
set_option linter.unusedVariables false
set_option linter.unusedSimpArgs false
set_option maxRecDepth 10000
def nth {α:Type} [qe α] (l:List α) (i:Int):α:=(l[i.toNat]?).getD qe.zero
theorem ri {α:Type} [qe α] {l:List α} {i:Int} (h0:0≤i) (h1:i<(l.length:Int)):idx l i=some (nth l i):=by
  have hz:l[i.toNat]?=some (l[i.toNat]'(by omega)):=List.getElem?_eq_getElem _;unfold idx nth;rw [if_pos h0,hz];rfl
theorem GV {α:Type} [qe α] {l:List α} {i a b:Int} (h:qn i a b=true) (ha:0≤a) (hb:b<(l.length:Int)):idx l i=some (nth l i):=by
  rw [rk] at h;exact ri (by omega) (by omega)
theorem JO {α:Type} [qe α] {l:List α} {k:Nat} {y:α} (h:l[k]?=some y):nth l (k:Int)=y:=by simp [nth,h]
theorem tP {α:Type} [qe α] {l:List α} {i:Int} (h0:0≤i) (h1:i<(l.length:Int)):nth l i ∈ l:=by
  have hz:l[i.toNat]?=some (l[i.toNat]'(by omega)):=List.getElem?_eq_getElem _;unfold nth;rw [hz];exact List.getElem_mem _
theorem DG {α:Type} {l:List α} {n:Nat} (h:((l.length:Int) != (n:Int))=false):l.length=n:=by simp at h;omega
theorem BP (N:Nat) (a:Int):tK N a=some (qn a 0 4):=by unfold tK;rw [uA];rfl
theorem CC (N:Nat) (a:Int):uc N a=some (qn a 0 4):=by unfold uc;rw [ua];rfl
def ru (t:List qc) (i:Int):Bool:=qn i 0 4&&(nth t i).Vs
def up (t:List qc) (i:Int):Int:=(nth t i).Vq
def leads (t:List qc):Nat→Int→Bool
  | 0,_=>false
  | n+1,i=>(i==0) || (ru t i&&leads t n (up t i))
def r6 (t:List qc):Nat→Int→Int
  | 0,a=>a
  | n+1,a=>if a > 0 then r6 t n (up t a) else a
theorem yW (N:Nat) {t:List qc} (h:t.length=5) (i:Int):tY N t i=some (ru t i):=by
  unfold tY ru;rw [BP,Vw];cases hi:qn i 0 4
  · rfl
  · simp only [Vy,GV hi (by omega) (show (4:Int)<(t.length:Int) by omega),Vw,VA]
theorem Uf {k:Nat} (h:k<(List.replicate 5 ()).length):k<5∧decide ((k:Int)<5)=true:=by
  have h:k<5:=by simpa using h
  exact ⟨h,by simp;omega⟩
theorem R9 {k n:Nat} {N:Nat} (hN:pW≤N) (hn:n<16777216):(List.replicate n ()).length<N:=by
  have:16777216≤N:=hN;simp;omega
theorem OB {N:Nat} (hN:pW≤N) {t:List qc} (h:t.length=5) (i:Int):zR N t i=some (leads t 5 i):=by
  unfold zR
  rw [show ((i,0):Int×Int)=(fun (k:Nat) (a:Int)=>(a,(k:Int))) 0 i from rfl,
    vh (List.replicate 5 ()) (fun (k:Nat) (a:Int)=>(a,(k:Int))) (fun _ a _=>if a==0 then .inr (.inr true) else if ru t a then .inl (up t a) else .inr (.inr false)) (fun a=>.inl (a,5)) (fun _ _=>True) ?_ ?_ (R9 (k:=0) hN (by decide)) trivial]
  · have key:∀ (n k:Nat) (a:Int),Sum.elim (fun _=>some false) (fun r20=>some r20) (tV (ρ:=(Int×Int)⊕Bool) (fun (_:Nat) a (_:Unit)=>if a==0 then .inr (.inr true) else if ru t a then .inl (up t a) else .inr (.inr false)) (fun a=>.inl (a,5)) k a (List.replicate n ()))=some (leads t n a):=by
      intro n
      induction n with
      | zero=>intro k a;rfl
      | succ n ih =>
        intro k a;rw [List.replicate_succ];unfold tV leads;cases h0:(a==0)
        · cases h1:ru t a
          · rfl
          · simpa using ih (k+1) (up t a)
        · rfl
    exact key 5 0 i
  · intro k a y hy hk _;obtain ⟨h5,hd⟩:=Uf hk;refine ⟨?_,fun _ _=>trivial⟩;simp only [hd,Vy,yW N h,Vw];cases h0:(a==0)
    · cases h1:ru t a
      · rfl
      · have hin:qn a 0 4=true:=by unfold ru at h1;simp at h1;exact h1.1
        simp only [GV hin (by omega) (show (4:Int)<(t.length:Int) by omega),qV (show k<pW from Nat.lt_trans h5 (by decide)),Vw];rfl
    · rfl
  · intro a _;rfl
def DI:qc:=qc.mk false 0 (qj.mk 0 0 0)
def xK (t:List qc) (k:Nat) (r:qc):Bool:=if r.Vs then re r.qI&&leads t 5 (k:Int) else decide (r=DI)
def rL (s:qj) (t:List qc):qj:=t.foldl (fun s r=>if r.Vs then qY s r.qI else s) s
def r9 (t:List qc):Bool:=!((t.length:Int) != 5)&&((nth t 0).Vs&&(!((nth t 0).Vq != (-1))&&(allI (xK t) 0 t&&re (rL ⟨0,0,0⟩ t))))
theorem Ae {N:Nat} (hN:pW≤N) {t:List qc}:uC N t=some (r9 t):=by
  unfold uC r9;cases h5:((t.length:Int) != 5)
  · have hl:t.length=5:=DG (n:=5) h5
    have hB:t.length<pW:=by rw [hl];decide
    rw [ri (l:=t) (i:=0) (by omega) (by omega)];simp only [Vx,Vw,sA,Bool.not_false,VA];cases h1:(nth t 0).Vs
    · rfl
    cases h2:((nth t 0).Vq != (-1))
    · simp only [Vz,Bool.or_self,Vx,VA,Bool.not_false]
      rw [show ((0:Int),(0:Int),(0:Int),(0:Int))=(fun (k:Nat) (s:qj)=>((k:Int),s.gE,s.qa,s.qg)) 0 ⟨0,0,0⟩ from rfl,
        vh t (fun (k:Nat) (s:qj)=>((k:Int),s.gE,s.qa,s.qg)) (fun k s r=>if xK t k r then .inl (if r.Vs then qY s r.qI else s) else .inr (.inr false)) (fun s=>.inl ((t.length:Int),s.gE,s.qa,s.qg)) (fun _ _=>True) ?_ ?_ (Nat.lt_of_lt_of_le hB hN) trivial]
      · simp only [Vw,yr]
        have key:∀ (l:List qc) (k:Nat) (s:qj),Sum.elim (fun (o48:Int×Int×Int×Int)=>some (re (qj.mk o48.2.1 o48.2.2.1 o48.2.2.2))) (fun r53=>some r53) (tV (fun k s r=>if xK t k r then .inl (if r.Vs then qY s r.qI else s) else .inr (.inr false)) (fun s=>.inl ((t.length:Int),s.gE,s.qa,s.qg)) k s l)=some (allI (xK t) k l&&re (rL s l)):=by
          intro l
          induction l with
          | nil=>intro k s;rfl
          | cons r l ih =>
            intro k s;unfold tV allI;cases hp:xK t k r
            · rfl
            · simpa [rL] using ih (k+1) (if r.Vs then qY s r.qI else s)
        exact key t 0 _
      · intro k s r hy hk _;refine ⟨?_,fun _ _=>trivial⟩;simp only [qQ hk,Vy,qv,hy,Vw,yr,OB hN hl,Ao,sA,qV (Nat.lt_trans hk hB)];unfold xK;cases hlv:r.Vs
        · show (bif !decide (r=DI) then _ else _)=_
          cases decide (r=DI)<;>rfl
        · cases re r.qI<;>cases leads t 5 (k:Int)<;>rfl
      · intro s _;simp only [qR,Vx]
    · rfl
  · rfl
def p1 (t:List qc) (k:Nat) (r:qc):Bool:=!((!r.Vs&&!decide (r=DI)) || !re r.qI)&&!(decide ((k:Int) > 0)&&(r.Vs&&(!qn r.Vq 0 4 || (r.Vq==(k:Int) || !(nth t r.Vq).Vs))))
def p2 (t:List qc) (k:Nat) (r:qc):Bool:=!(r.Vs&&(r6 t 5 (k:Int) != 0))
def Good (t:List qc):Prop:=∀ i:Int,0<i→i≤4→(nth t i).Vs=true→0≤up t i∧up t i≤4∧up t i ≠ i∧(nth t (up t i)).Vs=true
theorem Ma {t:List qc} (hl:t.length=5) (h:allI (p1 t) 0 t=true):Good t:=by
  intro i h0 h4 hlv;rw [vX] at h
  have hz:t[i.toNat]?=some (nth t i):=by
    have:=ri (l:=t) (i:=i) (by omega) (by omega);unfold idx at this
    rwa [if_pos (by omega)] at this
  have:=h _ _ hz
  have e:((0+i.toNat:Nat):Int)=i:=by omega
  unfold p1 at this;rw [e] at this;unfold up;simp [hlv,qn] at this
  rcases this.2 with q | q
  · omega
  · exact ⟨q.1.1,q.1.2,q.2.1,q.2.2⟩
theorem Iq {t:List qc} (hg:Good t):∀ (n:Nat) (a:Int),0≤a→a≤4→(nth t a).Vs=true→0≤r6 t n a∧r6 t n a≤4∧(nth t (r6 t n a)).Vs=true
  | 0,a,h0,h4,hlv=>⟨h0,h4,hlv⟩
  | n+1,a,h0,h4,hlv=>by
    unfold r6
    by_cases ha:a > 0
    · rw [if_pos ha];obtain ⟨g1,g2,_,g4⟩:=hg a ha h4 hlv;exact Iq hg n _ g1 g2 g4
    · rw [if_neg ha];exact ⟨h0,h4,hlv⟩
theorem BK (t:List qc):∀ (m n:Nat) (a:Int),r6 t (m+n) a=r6 t n (r6 t m a)
  | 0,n,a=>by simp [r6]
  | m+1,n,a=>by
    rw [show m+1+n=(m+n)+1 by omega]
    show (if a > 0 then r6 t (m+n) (up t a) else a)=r6 t n (if a > 0 then r6 t m (up t a) else a)
    by_cases ha:a > 0
    · rw [if_pos ha,if_pos ha,BK t m n]
    · rw [if_neg ha,if_neg ha];cases n<;>simp [r6,ha]
theorem G8 (t:List qc) (n:Nat):r6 t n 0=0:=by cases n<;>simp [r6]
theorem DE {t:List qc} (hg:Good t):∀ (n:Nat) (a:Int),0≤a→a≤4→(nth t a).Vs=true→leads t (n+1) a=(r6 t n a==0)
  | 0,a,h0,h4,hlv=>by simp [leads,r6]
  | n+1,a,h0,h4,hlv=>by
    rw [show leads t (n+1+1) a=((a==0) || (ru t a&&leads t (n+1) (up t a))) from rfl];unfold r6
    by_cases ha:a=0
    · subst ha;simp
    · have hp:a > 0:=by omega
      obtain ⟨g1,g2,_,g4⟩:=hg a hp h4 hlv;rw [if_pos hp,DE hg n _ g1 g2 g4]
      have:ru t a=true:=by simp [ru,rk,hlv];omega
      have h0':(a==0)=false:=by simpa using ha
      rw [this,h0'];rfl
theorem PL {t:List qc} (hg:Good t) {a:Int} (h0:0≤a) (h4:a≤4) (hlv:(nth t a).Vs=true) (h:r6 t 5 a=0):r6 t 4 a=0:=by
  have key:∀ (i j:Nat),i+j≤5→r6 t i a=r6 t (i+j) a→r6 t (5 - j) a=0:=by
    intro i j hij e
    have h1:r6 t (5 - j) a=r6 t (5 - j - i) (r6 t i a):=by rw [← BK];congr 1;omega
    have h2:r6 t 5 a=r6 t (5 - j - i) (r6 t (i+j) a):=by rw [← BK];congr 1;omega
    rw [h1,e, ← h2,h]
  have mono:∀ (i j:Nat),r6 t i a=0→r6 t (i+j) a=0:=by
    intro i j e;rw [BK,e,G8]
  rcases Decidable.em (r6 t 4 a=0) with q | q
  · exact q
  exfalso
  have nz:∀ i,i≤4→r6 t i a ≠ 0:=fun i hi e=>q (by have:=mono i (4 - i) e;rwa [show i+(4 - i)=4 by omega] at this)
  have FV:∀ i,i≤4→1≤r6 t i a∧r6 t i a≤4:=fun i hi=>by
    obtain ⟨r1,r2,_⟩:=Iq hg i a h0 h4 hlv;have:=nz i hi;omega
  have ne:∀ (i j:Nat),0<j→i+j≤4→r6 t i a ≠ r6 t (i+j) a:=fun i j hj hij e=>nz (5 - j) (by omega) (key i j (by omega) e);have r0:=FV 0 (by omega);have r1:=FV 1 (by omega);have r2:=FV 2 (by omega);have r3:=FV 3 (by omega);have r4:=FV 4 (by omega);have n01:=ne 0 1 (by omega) (by omega);have n02:=ne 0 2 (by omega) (by omega);have n03:=ne 0 3 (by omega) (by omega);have n04:=ne 0 4 (by omega) (by omega);have n12:=ne 1 1 (by omega) (by omega);have n13:=ne 1 2 (by omega) (by omega);have n14:=ne 1 3 (by omega) (by omega);have n23:=ne 2 1 (by omega) (by omega);have n24:=ne 2 2 (by omega) (by omega);have n34:=ne 3 1 (by omega) (by omega);simp only [Nat.zero_add,Nat.reduceAdd] at *;generalize r6 t 0 a=c0 at *;generalize r6 t 1 a=c1 at *;generalize r6 t 2 a=c2 at *;generalize r6 t 3 a=c3 at *;generalize r6 t 4 a=c4 at *;clear key mono nz FV ne;omega
theorem Gd {t:List qc} {a:Int} (ha:a ≠ 0) (hu:up t a=a):∀ n,leads t n a=false
  | 0=>rfl
  | n+1=>by
    unfold leads;rw [hu,Gd ha hu n];simp [ha]
theorem Od {t:List qc} (hl:t.length=5) (h0:(nth t 0).Vs=true):(allI (p1 t) 0 t&&allI (p2 t) 0 t)=allI (xK t) 0 t:=by
  have hget:∀ (i:Nat) (r:qc),t[i]?=some r→(i:Int)≤4∧nth t (i:Int)=r:=fun i r h=>⟨by have:=rD h;omega,JO h⟩;rw [Bool.eq_iff_iff,VB];constructor
  · rintro ⟨h1,h2⟩;have hg:=Ma hl h1;rw [vX] at h1 h2 ⊢;intro i r hr;obtain ⟨i4,hn⟩:=hget i r hr;have q1:=h1 i r hr;have q2:=h2 i r hr;simp only [Nat.zero_add] at q1 q2 ⊢;unfold p1 at q1;unfold p2 at q2;unfold xK;cases hlv:r.Vs
    · simp [hlv] at q1;simp [q1.1]
    · simp [hlv] at q1 q2
      have hlv':(nth t (i:Int)).Vs=true:=by rw [hn];exact hlv
      have:=PL hg (by omega) i4 hlv' q2;simp only [if_true,VB];refine ⟨q1.1,?_⟩;rw [DE hg 4 _ (by omega) i4 hlv',this];rfl
  · intro h;rw [vX] at h
    have hp:∀ (i:Int),0≤i→i≤4→(nth t i).Vs=true→re (nth t i).qI=true∧leads t 5 i=true:=by
      intro i hi hi4 hlv
      have hz:t[i.toNat]?=some (nth t i):=by
        have:=ri (l:=t) (i:=i) (by omega) (by omega);unfold idx at this
        rwa [if_pos (by omega)] at this
      have:=h _ _ hz;unfold xK at this;rw [if_pos hlv] at this
      have e:((0+i.toNat:Nat):Int)=i:=by omega
      rw [e] at this;simpa using this
    have hg:Good t:=by
      intro i hi hi4 hlv;obtain ⟨_,q⟩:=hp i (by omega) hi4 hlv
      have hne:up t i ≠ i:=fun e=>by rw [Gd (by omega) e] at q;cases q
      have hi0:(i==0)=false:=by simp;omega
      rw [show leads t 5 i=((i==0) || (ru t i&&leads t 4 (up t i))) from rfl,hi0] at q;simp only [Bool.false_or,VB] at q;rw [show leads t 4 (up t i)=((up t i==0) || (ru t (up t i)&&leads t 3 (up t (up t i)))) from rfl] at q
      rcases Decidable.em (up t i=0) with e | e
      · rw [e];exact ⟨by omega,by omega,by omega,h0⟩
      · have e':(up t i==0)=false:=by simpa using e
        rw [e'] at q;simp only [Bool.false_or,VB] at q;have:=q.2.1;simp only [ru,VB,rk] at this;exact ⟨this.1.1,this.1.2,hne,this.2⟩
    rw [vX,vX];refine ⟨fun i r hr=>?_,fun i r hr=>?_⟩
    · obtain ⟨i4,hn⟩:=hget i r hr;have q:=h i r hr;simp only [Nat.zero_add] at q ⊢;unfold p1;unfold xK at q;cases hlv:r.Vs
      · simp [hlv] at q;subst q;simp;decide
      · simp [hlv] at q;simp [q.1]
        by_cases hi:i=0
        · exact .inl hi
        · have:=hg (i:Int) (by omega) i4 (by rw [hn];exact hlv);unfold up at this;rw [hn] at this;exact .inr ⟨rk.2 ⟨this.1,this.2.1⟩,this.2.2.1,this.2.2.2⟩
    · obtain ⟨i4,hn⟩:=hget i r hr;simp only [Nat.zero_add];unfold p2;cases hlv:r.Vs
      · rfl
      · have hlv':(nth t (i:Int)).Vs=true:=by rw [hn];exact hlv
        obtain ⟨_,q⟩:=hp (i:Int) (by omega) i4 hlv';rw [DE hg 4 _ (by omega) i4 hlv'] at q
        have q:r6 t 4 (i:Int)=0:=by simpa using q
        have:r6 t 5 (i:Int)=0:=by rw [show 5=4+1 from rfl,BK,q,G8]
        simp [this]
theorem HH {N:Nat} (hN:pW≤N) {t:List qc} (hB:t.length<pW):yK N t=some (rL ⟨0,0,0⟩ t):=by
  unfold yK rL
  rw [show ((0:Int),(0:Int),(0:Int),(0:Int))=(fun (k:Nat) (s:qj)=>((k:Int),s.gE,s.qa,s.qg)) 0 ⟨0,0,0⟩ from rfl,
    sC t (fun (k:Nat) (s:qj)=>((k:Int),s.gE,s.qa,s.qg)) (fun _ s r=>if r.Vs then qY s r.qI else s) (fun s=>((t.length:Int),s.gE,s.qa,s.qg)) (fun _ _=>True) ?_ ?_ (Nat.lt_of_lt_of_le hB hN) trivial,tJ]
  · rfl
  · intro k s r hy hk _;refine ⟨?_,trivial⟩;simp only [qQ hk,Vy,qv,hy,Vw,qV (Nat.lt_trans hk hB)];cases r.Vs<;>rfl
  · intro s _;simp only [qR,Vx]
theorem OM {N:Nat} (hN:pW≤N) {t:List qc} (hl:t.length=5) (hg:Good t) {k:Nat} {r:qc} (hr:t[k]?=some r) :
    ∃ n,iter (fun (s72:Int×Int)=>((bif (decide (s72.2<5)) then ((idx t (k:Int)).bind fun y77=>bif y77.Vs then (some (decide (s72.1 > 0))) else (some false)) else (some false):Option Bool).bind fun j74=>bif j74 then ((idx t s72.1).bind fun y89=>some (.inl (y89.Vq,i64.wrap (s72.2+1)))) else (some (.inr (s72.1,s72.2))):Option ((Int×Int)⊕(Int×Int)))) N ((k:Int),0)=some (if r.Vs then r6 t 5 (k:Int) else (k:Int),n):=by
  have hk:=rD hr
  rw [show (((k:Int),0):Int×Int)=(fun (n:Nat) (a:Int)=>(a,(n:Int))) 0 (k:Int) from rfl,
    vh (List.replicate 5 ()) (fun (n:Nat) (a:Int)=>(a,(n:Int))) (fun n a _=>if r.Vs&&decide (a > 0) then .inl (up t a) else .inr (a,(n:Int))) (fun a=>(a,5)) (fun _ a=>r.Vs=true→0≤a∧a≤4∧(nth t a).Vs=true) ?_ ?_ (R9 (k:=0) hN (by decide)) (fun h=>⟨by omega,by omega,by rw [JO hr];exact h⟩)]
  · have key:∀ (n j:Nat) (a:Int),(tV (ρ:=Int×Int) (fun (n:Nat) a (_:Unit)=>if r.Vs&&decide (a > 0) then .inl (up t a) else .inr (a,(n:Int))) (fun a=>(a,5)) j a (List.replicate n ())).1=if r.Vs then r6 t n a else a:=by
      intro n
      induction n with
      | zero=>intro j a;simp [tV,r6]
      | succ n ih =>
        intro j a;rw [List.replicate_succ];unfold tV r6;cases hlv:r.Vs
        · rfl
        · have ih:=ih (j+1) (up t a);rw [hlv] at ih
          by_cases ha:a > 0
          · simpa [ha] using ih
          · simp [ha]
    have:=key 5 0 (k:Int);exact ⟨_,congrArg some (Prod.ext this rfl)⟩
  · intro n a y hy hn hI;obtain ⟨h5,hd⟩:=Uf hn;simp only [hd,Vy,qv,hr,Vw];cases hlv:r.Vs
    · exact ⟨rfl,fun t' h=>by simp at h⟩
    · obtain ⟨i1,i2,i3⟩:=hI hlv
      by_cases ha:a > 0
      · have hd2:decide (a > 0)=true:=by simpa using ha
        simp only [Vy,hd2,Vw,ri (l:=t) (i:=a) i1 (by omega),qV (show n<pW from Nat.lt_trans h5 (by decide)),Bool.and_self,if_true];refine ⟨rfl,fun t' h _=>?_⟩;cases h;obtain ⟨g1,g2,_,g4⟩:=hg a ha i2 i3;exact ⟨g1,g2,g4⟩
      · have hd2:decide (a > 0)=false:=by simpa using ha
        simp only [Vy,hd2,Vw,Vx];exact ⟨rfl,fun t' h=>by simp at h⟩
  · intro a _;rfl
theorem C1 {N:Nat} (hN:pW≤N) {t:List qc}:vA N t=some (r9 t):=by
  unfold vA r9;cases h5:((t.length:Int) != 5)
  · have hl:t.length=5:=DG (n:=5) h5
    have hB:t.length<pW:=by rw [hl];decide
    rw [ri (l:=t) (i:=0) (by omega) (by omega)];simp only [Vx,Vw,sA,Bool.not_false,VA];cases h1:(nth t 0).Vs
    · rfl
    cases h2:((nth t 0).Vq != (-1))
    · simp only [Vz,Bool.or_self,Vx,VA,Bool.not_false];rw [sj t (p1 t) (.inl (t.length:Int)) (.inr false) (Nat.lt_of_lt_of_le hB hN), ← Od hl h1]
      · simp only [Vw];cases hp:allI (p1 t) 0 t
        · rfl
        · have hg:=Ma hl hp;simp only [if_true,Sum.elim_inl,VA];rw [sj t (p2 t) (.inl (t.length:Int)) (.inr false) (Nat.lt_of_lt_of_le hB hN)]
          · simp only [Vw,HH hN hB,zt];cases allI (p2 t) 0 t<;>rfl
          · intro k r hy hk;obtain ⟨n,hn⟩:=OM hN hl hg hy;simp only [qQ hk,Vy];rw [hn];simp only [qv,hy,Vw,qV (Nat.lt_trans hk hB)];unfold p2;cases hlv:r.Vs
            · rfl
            · simp only [Vy,Vw,if_true,VA];cases (r6 t 5 (k:Int) != 0)<;>rfl
          · simp only [qR,Vx]
      · intro k r hy hk;simp only [qQ hk,Vy,qv,hy,Vw,zt,CC,sA,qV (Nat.lt_trans hk hB)];unfold p1;rw [show qc.mk false 0 (qj.mk 0 0 0)=DI from rfl];cases hin:qn r.Vq 0 4
        · cases r.Vs<;>cases decide (r=DI)<;>cases re r.qI<;>cases decide ((k:Int) > 0)<;>rfl
        · rw [GV hin (by omega) (show (4:Int)<(t.length:Int) by omega)];simp only [Vw];cases r.Vs<;>cases decide (r=DI)<;>cases re r.qI<;>cases decide ((k:Int) > 0)<;>cases (r.Vq==(k:Int))<;>cases (nth t r.Vq).Vs<;>rfl
      · simp only [qR,Vx]
    · rfl
  · rfl
end Go.Kx
namespace Go.Kx
open Go
open Go.IntKind (i64)
set_option linter.unusedVariables false
set_option linter.unusedSimpArgs false
set_option maxRecDepth 10000
theorem xI {α:Type} (p:Bool) (a b:α):(bif p then some a else some b)=some (bif p then a else b):=by cases p<;>rfl
theorem Gq {ρ τ β:Type} (c:Bool) (a:ρ) (r:τ) (f:ρ→Option β) (g:τ→Option β):Sum.elim f g (if c then .inl a else .inr r)=if c then f a else g r:=by cases c<;>rfl
theorem Ei (N:Nat) (a:Int):wC N a=some (qn a 0 2):=by unfold wC;rw [uA];rfl
theorem Ah (N:Nat) (a:Int):uF N a=some (qn a 0 9):=by unfold uF;rw [uA];rfl
theorem CT (N:Nat) (a:Int):tR N a=some (qn a 0 1000000):=by unfold tR;rw [uA];rfl
theorem xL (N:Nat) (a:Int):tC N a=some (qn a 0 29999):=by unfold tC;rw [uA];rfl
theorem zn (N:Nat) (a:Int):tb N a=some (qn a 0 29999):=by unfold tb;rw [ua];rfl
theorem zj (N:Nat) (a:Int):tO N a=some (qn a 0 9):=by unfold tO;rw [ua];rfl
def D4 (m:qM):Bool:=!(bif (m.Vu != (-1)) then (!qn m.Vu 0 29999 || !qn m.n 0 999) else !qn m.n 0 999)
def Al (o:j8):Bool:=o.pX.all (fun y=>qn y (-1) 9)&&(o.Vh.all (fun y=>qn y 0 999)&&(o.Vf.all D4&&(((o.pX.length:Int)==2)&&(((o.Vh.length:Int)==(bif o.Vc==2 then o.gE else 0))&&decide ((o.Vf.length:Int)≤(bif o.Vc==3 then 2 else 0))))))
theorem N1 {N:Nat} (hN:pW≤N) {o:j8} (ho:qf o<pW):zX N o=some (Al o):=by
  obtain ⟨h1,h2,h3⟩:=Hb ho;unfold zX Al;rw [sj o.pX (fun _ y=>qn y (-1) 9) (.inl (o.pX.length:Int)) (.inr false) (Nat.lt_of_lt_of_le h1 hN),sE,Vw]
  · cases o.pX.all fun y=>qn y (-1) 9
    · rfl
    simp only [if_true,Sum.elim_inl,VA];rw [sj o.Vh (fun _ y=>qn y 0 999) (.inl (o.Vh.length:Int)) (.inr false) (Nat.lt_of_lt_of_le h2 hN),sE,Vw]
    · cases o.Vh.all fun y=>qn y 0 999
      · rfl
      simp only [if_true,Sum.elim_inl,VA];rw [sj o.Vf (fun _ y=>D4 y) (.inl (o.Vf.length:Int)) (.inr false) (Nat.lt_of_lt_of_le h3 hN),sE,Vw]
      · cases o.Vf.all D4
        · rfl
        simp only [if_true,Sum.elim_inl,VA,xI,Vw];congr 1;cases ((o.pX.length:Int)==2)<;>cases ((o.Vh.length:Int)==(bif o.Vc==2 then o.gE else 0))<;>simp
      · intro k y hy hk;simp only [qQ hk,Vy,qv,hy,Vw,uA,xL,sA,xI,qV (Nat.lt_trans hk h3)];unfold D4;cases (y.Vu != (-1))<;>cases qn y.Vu 0 29999<;>cases qn y.n 0 999<;>rfl
      · simp only [qR,Vx]
    · intro k y hy hk;simp only [qQ hk,Vy,qv,hy,Vw,uA,qV (Nat.lt_trans hk h2)];cases qn y 0 999<;>rfl
    · simp only [qR,Vx]
  · intro k y hy hk;simp only [qQ hk,Vy,qv,hy,Vw,uA,qV (Nat.lt_trans hk h1)];cases qn y (-1) 9<;>rfl
  · simp only [qR,Vx]
def blank (g:Int):j8:=j8.mk g 0 0 0 0 0 0 0 0 false [] [] []
def sB (o:j8):Bool:=qn o.Vr 0 999&&(qn o.Vc 0 4&&(bif o.Vc==0 then decide (o=blank o.Vr) else
  qn o.box (-1) 9&&(qn o.Vp 0 4&&(qn o.qx 0 1000000&&(qn o.gE 0 8&&(Al o&&(bif o.Vc != 4 then (o.Vl==0&&(o.qw==0&&o.qq==0)) else
    (o.Vl==0 || qn (i64.wrap (o.Vl - 1)) 0 29999)&&(qn o.qw (-1) 999&&qn o.qq 0 1000000))))))))
theorem Md {N:Nat} (hN:pW≤N) {o:j8} (ho:qf o<pW):Aq N o=some (sB o):=by
  unfold Aq sB;simp only [uA,BP,CT,xL,N1 hN ho,Ob hN ho,Vw,sA,tz,xI];rw [show j8.mk o.Vr 0 0 0 0 0 0 0 0 false [] [] []=blank o.Vr from rfl];congr 1;simp only [Bool.cond_true_left,Bool.cond_false_left,Bool.cond_true_right,Bool.cond_false_right,Bool.not_or,Bool.not_not,Bool.and_assoc];cases o.Vl==0<;>rfl
def wg (o:j8):Prop:=-9223372036854775808≤o.Vl
theorem Qh {n:Int} (h:-9223372036854775808≤n) (h0:n<0):qn (i64.wrap (n - 1)) 0 29999=false:=by
  rcases Decidable.em (n=-9223372036854775808) with e | e
  · subst e;decide
  · rw [rG (by omega) (by omega)];simp [qn];omega
def Hh (o:j8):Bool:=bif o.Vc != 4 then (o.Vl==0&&(o.qw==0&&o.qq==0)) else
    (o.Vl==0 || qn (i64.wrap (o.Vl - 1)) 0 29999)&&(qn o.qw (-1) 999&&qn o.qq 0 1000000)
theorem Sm {o : j8} (hw : wg o) (hr : qn o.qq 0 1000000 = true) : (bif o.Vc != 4 then bif o.Vl != 0 then true else bif o.qw != 0 then true else bif o.qq != 0 then true else bif o.Vc == 4 then
      bif decide (o.Vl < 0) then true else bif decide (o.Vl > 0) then !qn (i64.wrap (o.Vl - 1)) 0 29999 || !qn o.qw (-1) 999 else !qn o.qw (-1) 999 else false
    else bif o.Vc == 4 then bif decide (o.Vl < 0) then true else bif decide (o.Vl > 0) then !qn (i64.wrap (o.Vl - 1)) 0 29999 || !qn o.qw (-1) 999 else !qn o.qw (-1) 999 else false) = !Hh o := by
  unfold Hh;simp only [bne, hr];cases o.Vc == 4
  · simp only [Bool.not_false, Vy, Vx];cases o.Vl == 0<;>cases o.qw == 0<;>cases o.qq == 0<;>rfl
  · simp only [Vz, Vy, Vx]
    rcases Int.lt_trichotomy o.Vl 0 with h | h | h
    · have e1 : decide (o.Vl < 0) = true := by simpa using h
      have e2 : (o.Vl == 0) = false := by simp; omega
      rw [e1, e2, Qh hw h]; rfl
    · simp only [h];cases qn o.qw (-1) 999<;>rfl
    · have e1 : decide (o.Vl < 0) = false := by simp; omega
      have e2 : (o.Vl == 0) = false := by simp; omega
      have e3 : decide (o.Vl > 0) = true := by simpa using h
      rw [e1, e2, e3];cases qn (i64.wrap (o.Vl - 1)) 0 29999<;>cases qn o.qw (-1) 999<;>rfl
theorem Sr (o:j8):(bif (o.Vh.length:Int) != 0 then bif o.Vc != 2 then true else bif (o.Vh.length:Int) != o.gE then true else bif o.Vc==2 then (o.Vh.length:Int) != o.gE else false
    else bif o.Vc==2 then (o.Vh.length:Int) != o.gE else false)=!((o.Vh.length:Int)==(bif o.Vc==2 then o.gE else 0)):=by
  simp only [bne];cases o.Vc==2<;>cases h:((o.Vh.length:Int)==0)<;>cases h2:((o.Vh.length:Int)==o.gE)<;>simp [h,h2]
theorem Re (o:j8):(bif decide ((o.Vf.length:Int) > 2) then true else bif decide ((o.Vf.length:Int) > 0) then o.Vc != 3 else false)=!decide ((o.Vf.length:Int)≤(bif o.Vc==3 then 2 else 0)):=by
  simp only [bne];cases o.Vc==3
  · simp only [Vx]
    rcases Nat.lt_trichotomy o.Vf.length 0 with h | h | h
    · omega
    · simp [h]
    · rw [decide_eq_true (show (o.Vf.length:Int) > 0 by omega),decide_eq_false (show ¬ ((o.Vf.length:Int)≤0) by omega)];cases decide ((o.Vf.length:Int) > 2)<;>rfl
  · simp only [Vy]
    rcases Nat.lt_or_ge 2 o.Vf.length with h | h
    · rw [decide_eq_true (show (o.Vf.length:Int) > 2 by omega),decide_eq_false (show ¬ ((o.Vf.length:Int)≤2) by omega)];rfl
    · rw [decide_eq_false (show ¬ ((o.Vf.length:Int) > 2) by omega),decide_eq_true (show (o.Vf.length:Int)≤2 by omega)];cases decide ((o.Vf.length:Int) > 0)<;>rfl
theorem LY {N:Nat} (hN:pW≤N) {o:j8} (ho:qf o<pW) (hw:wg o):Au N o=some (sB o):=by
  obtain ⟨h1,h2,h3⟩:=Hb ho;unfold Au sB;rw [ua,Vw];cases hg:qn o.Vr 0 999
  · rfl
  simp only [Vz,Vx,VA];cases hk0:o.Vc==0
  · simp only [Vx,ua,CC,Vw,sA]
    have hk0':o.Vc ≠ 0:=by simpa using hk0
    cases hA:(!qn o.Vc 1 4 || (!qn o.box (-1) 9 || (!qn o.Vp 0 4 || (!qn o.qx 0 1000000 || (!qn o.gE 0 8 || ((o.pX.length:Int) != 2 || !qn o.qq 0 1000000))))))
    · simp only [Bool.or_eq_false_iff,Bool.not_eq_false',bne_eq_false_iff_eq] at hA;obtain ⟨a1,a2,a3,a4,a5,a6,a7⟩:=hA
      have a1':qn o.Vc 0 4=true:=by rw [rk] at a1 ⊢;omega
      have hl2:o.pX.length=2:=by omega
      simp only [Vx,a1',a2,a3,a4,a5,VA];rw [sj o.pX (fun _ y=>qn y (-1) 9) (.inl (2:Int)) (.inr false) (Nat.lt_of_lt_of_le h1 hN),sE,Vw,Gq]
      · unfold Al;cases hL:o.pX.all fun y=>qn y (-1) 9
        · rfl
        have e6:((o.pX.length:Int)==2)=true:=by simp [a6]
        simp only [if_true,VA,e6];simp only [zn,Vw,xI];rw [Sm hw a7,Sr o];rw [show (bif o.Vc != 4 then (o.Vl==0&&(o.qw==0&&o.qq==0)) else (o.Vl==0 || qn (i64.wrap (o.Vl - 1)) 0 29999)&&(qn o.qw (-1) 999&&qn o.qq 0 1000000))=Hh o from rfl];cases Hh o
        · simp
        cases ((o.Vh.length:Int)==(bif o.Vc==2 then o.gE else 0))
        · simp
        simp only [Vz,Vx,Bool.and_true,VA];rw [sj o.Vh (fun _ y=>qn y 0 999) (.inl (o.Vh.length:Int)) (.inr false) (Nat.lt_of_lt_of_le h2 hN),sE,Vw,Gq,Re o]
        · cases o.Vh.all fun y=>qn y 0 999
          · rfl
          simp only [if_true,VA];cases decide ((o.Vf.length:Int)≤(bif o.Vc==3 then 2 else 0))
          · simp
          simp only [Vz,Vx,Bool.and_true];rw [sj o.Vf (fun _ y=>D4 y) (.inl (o.Vf.length:Int)) (.inr false) (Nat.lt_of_lt_of_le h3 hN),sE,Vw,Gq]
          · cases o.Vf.all D4<;>rfl
          · intro k y hy hk;simp only [qQ hk,Vy,qv,hy,Vw,qV (Nat.lt_trans hk h3)];unfold D4;cases (y.Vu != (-1))<;>cases qn y.Vu 0 29999<;>cases qn y.n 0 999<;>rfl
          · simp only [qR,Vx]
        · intro k y hy hk;simp only [qQ hk,Vy,qv,hy,Vw,qV (Nat.lt_trans hk h2)];cases qn y 0 999<;>rfl
        · simp only [qR,Vx]
      · intro k y hy hk
        have hd:decide ((k:Int)<2)=true:=by simp;omega
        simp only [hd,Vy,qv,hy,Vw,ua,qV (Nat.lt_trans hk h1)];cases qn y (-1) 9<;>rfl
      · simp [hl2]
    · simp only [Vy];congr 1
      symm
      rw [Bool.eq_false_iff];intro h;simp only [Al,VB,rk,beq_iff_eq] at h;obtain ⟨b0,b1,b2,b3,b4,⟨_,_,_,b5,_,_⟩,b6⟩:=h
      have q1:qn o.Vc 1 4=true:=by rw [rk];omega
      have q2:qn o.box (-1) 9=true:=by rw [rk];omega
      have q3:qn o.Vp 0 4=true:=by rw [rk];omega
      have q4:qn o.qx 0 1000000=true:=by rw [rk];omega
      have q5:qn o.gE 0 8=true:=by rw [rk];omega
      have q6:((o.pX.length:Int) != 2)=false:=by simp [b5]
      have q7:qn o.qq 0 1000000=true:=by
        cases h4:o.Vc != 4
        · rw [h4] at b6;simp only [Vx,VB] at b6;exact b6.2.2
        · rw [h4] at b6;simp only [Vy,VB,beq_iff_eq] at b6;rw [b6.2.2];decide
      simp [q1,q2,q3,q4,q5,q6,q7] at hA
  · have hk:o.Vc=0:=by simpa using hk0
    simp only [Vy,tz,Vw];congr 1;rw [Bool.eq_iff_iff];obtain ⟨_,_,_,_,_,_,_,_,_,_,_,_,_⟩:=o;simp only at hk;subst hk;simp [blank,qn]
end Go.Kx
namespace Go.Kx
open Go
open Go.IntKind (i64)
set_option linter.unusedVariables false
set_option linter.unusedSimpArgs false
set_option maxRecDepth 10000
theorem BE {o:j8} (h:sB o=true):o.pX.length≤2∧∀ y,y ∈ o.pX→-1≤y∧y≤9:=by
  unfold sB at h;cases hk:o.Vc==0
  · simp only [hk,Vx,VB] at h;obtain ⟨_,_,_,_,_,_,hl,_⟩:=h;unfold Al at hl;simp only [VB,List.all_eq_true,rk,beq_iff_eq] at hl;exact ⟨by omega,hl.1⟩
  · simp only [hk,Vy,VB,decide_eq_true_eq] at h;rw [h.2.2];simp [blank]
theorem NO {o:j8} (h:sB o=true) (hk:(o.Vc != 0)=true):qn o.box (-1) 9=true∧qn o.Vp 0 4=true∧qn o.qx 0 1000000=true∧qn o.gE 0 8=true:=by
  unfold sB at h
  have hk:(o.Vc==0)=false:=by simpa [bne] using hk
  simp only [hk,Vx,VB] at h;exact ⟨h.2.2.1,h.2.2.2.1,h.2.2.2.2.1,h.2.2.2.2.2.1⟩
def BX (l:List j8) (i:Int):Bool:=(nth l i).Vc==0
def C6 (l:List j8) (o:j8):Bool:=o.pX.all fun y=>!(decide (y ≥ 0)&&BX l y)
def A2 (l:List j8) (k:Nat) (o:j8):Bool:=(sB o&&!(decide ((k:Int) > 0)&&(o.Vc != 0&&(decide (o.box ≥ 0)&&BX l o.box))))&&C6 l o
def CD (l:List j8):Bool:=((nth l 0).Vc != 1) || (((nth l 0).box != (-1)) || ((nth l 0).qx != 1000000))
def sk (l:List j8):Bool:=!((l.length:Int) != 10)&&(!CD l&&allI (A2 l) 0 l)
theorem Ij {N:Nat} (hN:pW≤N) {l:List j8} (hl:l.length=10) {o:j8} (ho:o.pX.length≤2) (hr:∀ y,y ∈ o.pX→-1≤y∧y≤9) :
    iter (fun (s75:Int)=>(bif (decide (s75<(o.pX.length:Int))) then ((idx o.pX s75).bind fun y96=>(bif (decide (y96 ≥ 0)) then ((idx l y96).bind fun y108=>some (y108.Vc==0)) else (some false):Option Bool).bind fun j105=>bif j105 then (some (.inr (.inr false))) else (some (.inl (i64.wrap (s75+1))))) else (some (.inr (.inl s75))):Option (Int⊕(Int⊕Bool)))) N 0=some (if C6 l o then .inl (o.pX.length:Int) else .inr false):=by
  have hB:o.pX.length<pW:=Nat.lt_of_le_of_lt ho (by decide);rw [sj o.pX (fun _ y=>!(decide (y ≥ 0)&&BX l y)) (.inl (o.pX.length:Int)) (.inr false) (Nat.lt_of_lt_of_le hB hN),sE]
  · rfl
  · intro k y hy hk;have hm:=hr y (List.mem_of_getElem? hy);simp only [qQ hk,Vy,qv,hy,Vw,qV (Nat.lt_trans hk hB)];cases h0:decide (y ≥ 0)
    · rfl
    · have h0:y ≥ 0:=by simpa using h0
      simp only [Vy,ri (l:=l) (i:=y) h0 (by omega),Vw,VA];unfold BX;cases (nth l y).Vc==0<;>rfl
  · simp only [qR,Vx]
theorem L7 {l:List j8} (hl:l.length=10) {o:j8} (ho:sB o=true):(bif (decide (o.box ≥ 0)) then ((idx l o.box).bind fun y58=>some (y58.Vc==0)) else (some false):Option Bool)=some (decide (o.box ≥ 0)&&BX l o.box)∨(o.Vc != 0)=false:=by
  cases hk:o.Vc != 0
  · exact .inr rfl
  · left;obtain ⟨hb,_⟩:=NO ho hk;rw [rk] at hb;cases h0:decide (o.box ≥ 0)
    · rfl
    · have h0:o.box ≥ 0:=by simpa using h0
      simp only [Vy,ri (l:=l) (i:=o.box) h0 (by omega),Vw,VA];rfl
theorem BY {N:Nat} (hN:pW≤N) {l:List j8} (hb:qU qf l<pW):uZ N l=some (sk l):=by
  have hlB:=rS hb;unfold uZ sk;cases h10:((l.length:Int) != 10)
  · have hl:l.length=10:=DG (n:=10) h10;rw [ri (l:=l) (i:=0) (by omega) (by omega)];simp only [Vx,Vw,sA,Bool.not_false,VA];rw [show ((nth l 0).Vc != 1 || ((nth l 0).box != (-1) || (nth l 0).qx != 1000000))=CD l from rfl];cases CD l
    · simp only [Vx,Bool.not_false,VA];rw [sj l (A2 l) (.inl (l.length:Int)) (.inr false) (Nat.lt_of_lt_of_le hlB hN)]
      · simp only [Vw];cases allI (A2 l) 0 l<;>rfl
      · intro k y hy hk;have hm:=List.mem_of_getElem? hy;simp only [qQ hk,Vy,qv,hy,Vw,Md hN (rE hb hm),qV (Nat.lt_trans hk hlB)];unfold A2;cases ho:sB y
        · rfl
        · obtain ⟨q1,q2⟩:=BE ho;rw [Ij hN hl q1 q2]
          rcases L7 hl ho with q | q
          · rw [q];simp only [Vz,Vx,VA,tz,Vw];cases (decide ((k:Int) > 0)&&(y.Vc != 0&&(decide (y.box ≥ 0)&&BX l y.box)))<;>cases C6 l y<;>rfl
          · simp only [q,Vz,Vx,VA,Bool.false_and,Bool.and_false,tz,Vw];cases C6 l y<;>rfl
      · simp only [qR,Vx]
    · rfl
  · rfl
def wA (l:List j8):Prop:=∀ o,o ∈ l→wg o
theorem yS {N:Nat} (hN:pW≤N) {l:List j8} (hb:qU qf l<pW) (hw:wA l):tX N l=some (sk l):=by
  have hlB:=rS hb;unfold tX sk;cases h10:((l.length:Int) != 10)
  · have hl:l.length=10:=DG (n:=10) h10;rw [ri (l:=l) (i:=0) (by omega) (by omega)];simp only [Vx,Vw,sA,Bool.not_false,VA];rw [show ((nth l 0).Vc != 1 || ((nth l 0).box != (-1) || (nth l 0).qx != 1000000))=CD l from rfl];cases CD l
    · simp only [Vx,Bool.not_false,VA];rw [sj l (A2 l) (.inl (l.length:Int)) (.inr false) (Nat.lt_of_lt_of_le hlB hN)]
      · simp only [Vw];cases allI (A2 l) 0 l<;>rfl
      · intro k y hy hk;have hm:=List.mem_of_getElem? hy;simp only [qQ hk,Vy,qv,hy,Vw,LY hN (rE hb hm) (hw y hm),qV (Nat.lt_trans hk hlB)];unfold A2;cases ho:sB y
        · rfl
        · obtain ⟨q1,q2⟩:=BE ho;rw [Ij hN hl q1 q2]
          rcases L7 hl ho with q | q
          · rw [q];simp only [Vz,Vx,VA,tz,Vw];cases y.Vc != 0<;>cases decide ((k:Int) > 0)<;>cases (decide (y.box ≥ 0)&&BX l y.box)<;>cases C6 l y<;>rfl
          · simp only [q,Vz,Vx,VA,Bool.false_and,Bool.and_false,tz,Vw];cases C6 l y<;>rfl
      · simp only [qR,Vx]
    · rfl
  · rfl
theorem DS {N:Nat} (hN:pW≤N) {l:List Int} {x:Int} (hb:l.length<pW):uK N l x=some (l.contains x):=by
  unfold uK;rw [sj l (fun _ y=>!(y==x)) (.inl (l.length:Int)) (.inr true) (Nat.lt_of_lt_of_le hb hN),sE]
  · have:(l.all fun y=>!(y==x))=!l.contains x:=by
      induction l with
      | nil=>rfl
      | cons y l ih =>
        have ih:=ih (Nat.lt_trans (Nat.lt_succ_self _) hb);rw [List.all_cons,ih,List.contains_cons,Bool.beq_comm (a:=x)];cases (y==x)<;>rfl
    rw [this,Vw];cases l.contains x<;>rfl
  · intro k y hy hk;simp only [qQ hk,Vy,qv,hy,Vw,qV (Nat.lt_trans hk hb)];cases (y==x)<;>rfl
  · simp only [qR,Vx]
def Cr (g:List Int) (k:Nat) (y:Int):Bool:=qn y 0 9&&!(g.take k).contains y
def Fu (g:rl):Bool:=((g.Ve==0)&&(g.Vn==0)) || ((g.Ve==1)&&(qn g.Vn 0 9&&((g.pT.length:Int)==0)))
def sK (h:qd):Bool:=sk h.ag&&(Fu h.gc&&(qn h.gc.Vg 0 1000000&&allI (Cr h.gc.pT) 0 h.gc.pT))
theorem LJ {α:Type} {l:List α} {k:Nat} (h:l.length<pW):(l.take k).length<pW:=Nat.lt_of_le_of_lt (by simp;omega) h
theorem Eo {N:Nat} (hN:pW≤N) {h:qd} (h1:qU qf h.ag<pW) (h2:h.gc.pT.length<pW):wy N h=some (sK h):=by
  unfold wy sK;rw [sj h.gc.pT (Cr h.gc.pT) (.inl (h.gc.pT.length:Int)) (.inr false) (Nat.lt_of_lt_of_le h2 hN)]
  · simp only [Vw,Ah,CT,BY hN h1,tz];cases allI (Cr h.gc.pT) 0 h.gc.pT
    · simp
    · simp only [if_true,Sum.elim_inl,Bool.and_true];unfold Fu;cases sk h.ag
      · rfl
      cases ((h.gc.Ve==0)&&(h.gc.Vn==0))
      · cases ((h.gc.Ve==1)&&(qn h.gc.Vn 0 9&&((h.gc.pT.length:Int)==0)))<;>rfl
      · rfl
  · intro k y hy hk;simp only [qQ hk,Vy,qv,hy,Vw,Ah,Es (Nat.le_of_lt hk),A8 hN (LJ h2),qV (Nat.lt_trans hk h2)];unfold Cr;cases qn y 0 9<;>cases (h.gc.pT.take k).contains y<;>rfl
  · simp only [qR,Vx]
theorem RL (n:Nat):decide ((n:Int) > 0)=!((n:Int)==0):=by
  cases n with
  | zero=>rfl
  | succ n=>rw [decide_eq_true (by omega)];simp;omega
theorem D9 {N:Nat} (hN:pW≤N) {h:qd} (h1:qU qf h.ag<pW) (h2:h.gc.pT.length<pW) (hw:wA h.ag):wR N h=some (sK h):=by
  unfold wR sK;rw [sj h.gc.pT (Cr h.gc.pT) (.inl (h.gc.pT.length:Int)) (.inr false) (Nat.lt_of_lt_of_le h2 hN)]
  · simp only [Vw,zj,ua,yS hN h1 hw,sA,RL];cases sk h.ag
    · rfl
    cases qn h.gc.Vg 0 1000000
    · simp
    unfold Fu
    by_cases q0:h.gc.Ve=0
    · have e0:(h.gc.Ve==0)=true:=by simp [q0]
      have e1:(h.gc.Ve==1)=false:=by simp [q0]
      have e2:qn h.gc.Ve 0 1=true:=by rw [q0];decide
      rw [e0,e1,e2];simp only [bne];cases h.gc.Vn==0
      · rfl
      · cases allI (Cr h.gc.pT) 0 h.gc.pT<;>rfl
    by_cases q1:h.gc.Ve=1
    · have e0:(h.gc.Ve==0)=false:=by simp [q1]
      have e1:(h.gc.Ve==1)=true:=by simp [q1]
      have e2:qn h.gc.Ve 0 1=true:=by rw [q1];decide
      rw [e0,e1,e2];cases qn h.gc.Vn 0 9
      · rfl
      cases ((h.gc.pT.length:Int)==0)
      · rfl
      · cases allI (Cr h.gc.pT) 0 h.gc.pT<;>rfl
    · have e0:(h.gc.Ve==0)=false:=by simp [q0]
      have e1:(h.gc.Ve==1)=false:=by simp [q1]
      have e2:qn h.gc.Ve 0 1=false:=by
        rw [Bool.eq_false_iff,Ne,rk];omega
      rw [e0,e1,e2];rfl
  · intro k y hy hk;simp only [qQ hk,Vy,qv,hy,Vw,zj,Es (Nat.le_of_lt hk),DS hN (LJ h2),qV (Nat.lt_trans hk h2)];unfold Cr;cases qn y 0 9<;>cases (h.gc.pT.take k).contains y<;>rfl
  · simp only [qR,Vx]
def td (t:qB):Bool:=(qn t.Vp 0 4&&(qn t.rJ 0 2&&(qn t.sX 0 4&&qn t.sc 0 2)))&&(((t.Vc==1)&&qn t.sq 0 1000) || ((t.Vc==2)&&qn t.sq 0 100))
theorem FE (N:Nat) (t:qB):xC N t=some (td t):=by
  unfold xC td;simp only [BP,Ei,uA,Vw,sA,tz]
  by_cases q:t.Vc=1
  · have e1:(t.Vc==1)=true:=by simp [q]
    have e2:(t.Vc==2)=false:=by simp [q]
    rw [e1,e2];cases qn t.Vp 0 4<;>cases qn t.sX 0 4<;>cases qn t.rJ 0 2<;>cases qn t.sc 0 2<;>cases qn t.sq 0 1000<;>rfl
  · have e1:(t.Vc==1)=false:=by simp [q]
    rw [e1];cases qn t.Vp 0 4<;>cases qn t.sX 0 4<;>cases qn t.rJ 0 2<;>cases qn t.sc 0 2<;>cases (t.Vc==2)<;>cases qn t.sq 0 100<;>rfl
theorem Fv (N:Nat) (t:qB):xH N t=some (td t):=by
  unfold xH td;simp only [CC,ua,Vw,sA,tz]
  by_cases q:t.Vc=1
  · have e1:(t.Vc==1)=true:=by simp [q]
    have e2:(t.Vc==2)=false:=by simp [q]
    rw [e1,e2];cases qn t.Vp 0 4<;>cases qn t.rJ 0 2<;>cases qn t.sX 0 4<;>cases qn t.sc 0 2<;>cases qn t.sq 0 1000<;>rfl
  · have e1:(t.Vc==1)=false:=by simp [q]
    rw [e1];cases qn t.Vp 0 4<;>cases qn t.rJ 0 2<;>cases qn t.sX 0 4<;>cases qn t.sc 0 2<;>cases (t.Vc==2)<;>cases qn t.sq 0 100<;>rfl
def Hm (p:cd):Bool:=qn p.Vj 0 9&&(qn p.Vk 0 10&&(re p.bh&&(qn p.pZ 0 1000000&&qn p.Vi 0 1000000)))
def rF (p:cd):Bool:=uQ p.Vb&&(BF p.own&&(r9 p.Vd&&(sK p.U7&&(!decide ((p.pU.length:Int) > 3)&&(p.pU.all td&&Hm p)))))
theorem Ac {N:Nat} (hN:pW≤N) {p:cd} (h:qh p<pW):uu N p=some (rF p):=by
  obtain ⟨h1,h2,h3,h4,h5,h6⟩:=sm h;unfold uu rF;rw [sj p.pU (fun _ t=>td t) (.inl (p.pU.length:Int)) (.inr false) (Nat.lt_of_lt_of_le h6 hN),sE]
  · simp only [Vw,Fm hN h1,Mf hN h2,Ae hN,Eo hN h4 h5,Ah,uA,yr,CT,sA,tz];rw [show (qn p.Vj 0 9&&(qn p.Vk 0 10&&(re p.bh&&(qn p.pZ 0 1000000&&qn p.Vi 0 1000000))))=Hm p from rfl];cases p.pU.all td
    · simp
    · simp only [if_true,Sum.elim_inl,VA];cases uQ p.Vb<;>cases BF p.own<;>cases r9 p.Vd<;>cases sK p.U7<;>cases decide ((p.pU.length:Int) > 3)<;>rfl
  · intro k y hy hk;simp only [qQ hk,Vy,qv,hy,Vw,FE,qV (Nat.lt_trans hk h6)];cases td y<;>rfl
  · simp only [qR,Vx]
def wP (p:cd):Prop:=wA p.U7.ag
theorem Ag {N:Nat} (hN:pW≤N) {p:cd} (h:qh p<pW) (hw:wP p):uz N p=some (rF p):=by
  obtain ⟨h1,h2,h3,h4,h5,h6⟩:=sm h;unfold uz rF;rw [sj p.pU (fun _ t=>td t) (.inl (p.pU.length:Int)) (.inr false) (Nat.lt_of_lt_of_le h6 hN),sE]
  · simp only [Vw,EH hN h1,LR hN h2,C1 hN,D9 hN h4 h5 hw,zj,ua,zt,sA,tz];unfold Hm;cases uQ p.Vb
    · rfl
    cases BF p.own
    · rfl
    cases r9 p.Vd
    · rfl
    cases sK p.U7
    · rfl
    cases decide ((p.pU.length:Int) > 3)
    · simp only [Vz,Bool.not_false,Bool.false_or,VA];cases qn p.Vj 0 9<;>cases qn p.Vk 0 10<;>cases re p.bh<;>cases qn p.pZ 0 1000000<;>cases qn p.Vi 0 1000000<;>cases p.pU.all td<;>rfl
    · rfl
  · intro k y hy hk;simp only [qQ hk,Vy,qv,hy,Vw,Fv,qV (Nat.lt_trans hk h6)];cases td y<;>rfl
  · simp only [qR,Vx]
theorem Tc {l:List j8} (h:Fit.fit l):wA l:=fun o ho=>(h.2 o ho).2.2.2.2.2.2.1.1
theorem SA {p:cd} (h:Fit.fit p):wP p:=Tc h.2.2.2.1.1
end Go.Kx
