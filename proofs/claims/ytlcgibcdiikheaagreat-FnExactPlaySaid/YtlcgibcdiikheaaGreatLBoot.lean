import Derived.Test.YtlcgibcdiikheaaGreatHa
namespace Go.Kx
open Go
open Go.IntKind (i64)
set_option linter.unusedVariables false
set_option linter.unusedSimpArgs false
set_option maxRecDepth 10000
theorem kI (p q:Bool):(bif p then some q else some false)=some (p&&q):=by cases p<;>rfl
theorem j1 (p q:Bool):(bif p then some true else some q)=some (p || q):=by cases p<;>rfl
def ig (a b c:Int):Bool:=decide (b≤a)&&decide (a≤c)
theorem iW {a b c:Int}:ig a b c=true ↔ b≤a∧a≤c:=by simp [ig]
theorem lv (N:Nat) (a b c:Int):iL N a b c=some (ig a b c):=kI _ _
theorem lQ (N:Nat) (a b c:Int):iP N a b c=some (ig a b c):=kI _ _
def xA (n:Int):Bool:=ig n 0 1000000
theorem Ol (N:Nat) (a:Int):rQ N a=some (xA a):=by unfold rQ;rw [lv];rfl
theorem AU (N:Nat) (a:Int):mS N a=some (xA a):=by unfold mS;rw [lQ];rfl
def iN (a:hO):Bool:=xA a.gE&&(xA a.gX&&xA a.g8)
theorem qt (N:Nat) (a:hO):kr N a=some (iN a):=by unfold kr;simp only [Ol,PB,kI];rfl
theorem qz (N:Nat) (a:hO):kq N a=some (iN a):=by unfold kq;simp only [AU,PB,kI];rfl
def iS (a b:hO):hO:=hO.mk (i64.wrap (a.gE+b.gE)) (i64.wrap (a.gX+b.gX)) (i64.wrap (a.g8+b.g8))
def kt (a b:hO):hO×Bool:=if iN a&&iN b&&iN (iS a b) then (iS a b,true) else (a,false)
theorem wo (N:Nat) (a b:hO):mC N a b=some (kt a b):=by
  unfold mC kt;simp only [qt,PB,j1]
  show (bif (!iN a || !iN b) then some (a,false) else (bif !iN (iS a b) then some (a,false) else some (iS a b,true)))=_
  cases iN a<;>cases iN b<;>cases iN (iS a b)<;>rfl
theorem tq (N:Nat) (a b:hO):lG N a b=some (iS a b):=rfl
theorem Dz (N:Nat) (a b:hO):rV N a b=some (kt a b):=by
  unfold rV kt;simp only [qz,tq,PB,j1];cases iN a<;>cases iN b<;>cases iN (iS a b)<;>rfl
def j3 (l:iY):Bool:=((l.Pd.length:Int)==4)&&l.Pd.all fun y=>ig y 0 3
theorem sG {l:iY}:j3 l=true ↔ l.Pd.length=4∧∀ y,y ∈ l.Pd→0≤y∧y≤3:=by
  simp only [j3,PG,List.all_eq_true,iW,beq_iff_eq];constructor
  · rintro ⟨h1,h2⟩;exact ⟨by omega,h2⟩
  · rintro ⟨h1,h2⟩;exact ⟨by omega,h2⟩
theorem uX {N:Nat} (hN:gT≤N) {l:iY} (hb:l.Pd.length<gT):mA N l=some (j3 l):=by
  unfold mA j3;rw [jT l.Pd (fun _ y=>ig y 0 3) (.inl (l.Pd.length:Int)) (.inr false) (Nat.lt_of_lt_of_le hb hN),kh]
  · cases h:((l.Pd.length:Int)==4)
    · have:((l.Pd.length:Int) != 4)=true:=by simp [bne,h]
      simp [this]
    · have:((l.Pd.length:Int) != 4)=false:=by simp [bne,h]
      simp only [this,PC,PB,PF];cases l.Pd.all fun y=>ig y 0 3<;>rfl
  · intro k y hy hk;simp only [iF hk,PD,ik,hy,PB,lv,iJ (Nat.lt_trans hk hb)];cases ig y 0 3<;>rfl
  · simp only [iG,PC]
theorem uW {N:Nat} (hN:gT≤N) {l:iY} (hb:l.Pd.length<gT):mz N l=some (j3 l):=by
  unfold mz j3;rw [jT l.Pd (fun _ y=>ig y 0 3) (.inl (l.Pd.length:Int)) (.inr false) (Nat.lt_of_lt_of_le hb hN),kh]
  · simp only [PB];cases l.Pd.all fun y=>ig y 0 3<;>simp
  · intro k y hy hk;simp only [iF hk,PD,ik,hy,PB,lQ,iJ (Nat.lt_trans hk hb)];cases ig y 0 3<;>rfl
  · simp only [iG,PC]
def we (l:List Int) (k:Nat) (y:Int):Bool:=ig y 0 3&&match k with
  | 0=>true
  | j+1=>!decide (y≤(l[j]?).getD 0)
def lP (l:List Int):Bool:=allI (we l) 0 l
theorem Gq {l:List Int} {k:Nat} {y:Int} (hy:l[k]?=some y) (hk:k<l.length) (hb:l.length<gT) {N:Nat} :
    (bif (!(ig y 0 3)) then (some true) else (bif (decide ((k:Int) > 0)) then ((idx l (i64.wrap ((k:Int) - 1))).bind fun y18=>some (decide (y≤y18))) else (some false)):Option Bool)=some (!we l k y):=by
  have hB:l.length<16777216:=hb;unfold we
  cases k with
  | zero =>
    have:decide (((0:Nat):Int) > 0)=false:=by decide
    simp only [this,PC];cases ig y 0 3<;>rfl
  | succ j =>
    have:decide (((j+1:Nat):Int) > 0)=true:=by simp
    have e:i64.wrap (((j+1:Nat):Int) - 1)=(j:Int):=by rw [jg (by omega) (by omega)];omega
    have hz:l[j]?=some (l[j]'(by omega)):=List.getElem?_eq_getElem _;simp only [this,PD,e,ik,hz,PB,Option.getD_some];cases ig y 0 3<;>simp
theorem zG {N:Nat} (hN:gT≤N) {l:List Int} (hb:l.length<gT):pw N l=some (lP l):=by
  unfold pw lP;rw [jT l (we l) (.inl (l.length:Int)) (.inr false) (Nat.lt_of_lt_of_le hb hN)]
  · simp only [PB];cases allI (we l) 0 l<;>rfl
  · intro k y hy hk;simp only [iF hk,PD,ik,hy,PB,lv,iJ (Nat.lt_trans hk hb)];rw [Gq hy hk hb (N:=N)];cases we l k y<;>rfl
  · simp only [iG,PC]
theorem zs {N:Nat} (hN:gT≤N) {l:List Int} (hb:l.length<gT):px N l=some (lP l):=by
  unfold px lP;rw [jT l (we l) (.inl (l.length:Int)) (.inr false) (Nat.lt_of_lt_of_le hb hN)]
  · simp only [PB];cases allI (we l) 0 l<;>rfl
  · intro k y hy hk;simp only [iF hk,PD,ik,hy,PB,lQ,iJ (Nat.lt_trans hk hb),ge_iff_le];rw [Gq hy hk hb (N:=N)];cases we l k y<;>rfl
  · simp only [iG,PC]
theorem Mc {N:Nat} (hN:gT≤N) {l:List Int} {x:Int} (hb:l.length<gT):∃ r,qi N l x=some r∧decide (r ≥ 0)=l.contains x:=by
  unfold qi;have hB:l.length<16777216:=hb;rw [show (0:Int)=(fun (k:Nat) (_:Unit)=>(k:Int)) 0 () from rfl,lK l (fun k (_:Unit)=>(k:Int)) (fun k _ y=>if x==y then .inr (.inr (k:Int)) else .inl ()) (fun _=>.inl (l.length:Int)) (fun _ _=>True) ?_ ?_ (Nat.lt_of_lt_of_le hb hN) trivial]
  · simp only [PB]
    have key:∀ (m:List Int) (k:Nat), ∃ r,Sum.elim (fun _=>some (-1)) (fun r16=>some r16) (lg (ρ:=Int⊕Int) (fun (k:Nat) (_:Unit) y=>if x==y then .inr (.inr (k:Int)) else .inl ()) (fun _=>.inl (l.length:Int)) k () m)=some r∧decide (r ≥ 0)=m.contains x:=by
      intro m
      induction m with
      | nil=>intro k;exact ⟨-1,rfl,rfl⟩
      | cons y m ih =>
        intro k;cases hxy:(x==y)
        · obtain ⟨r,h1,h2⟩:=ih (k+1)
          have hne:x ≠ y:=by simpa using hxy
          refine ⟨r,by simpa [lg,hxy] using h1,by rw [h2];simp [List.contains_cons,hne]⟩
        · have he:x=y:=by simpa using hxy
          exact ⟨k,by simp [lg,hxy],by simp [List.contains_cons,he]⟩
    exact key l 0
  · intro k _ y hy hk _;simp only [iF hk,PD,ik,hy,PB,iJ (Nat.lt_trans hk hb)];cases (x==y)<;>simp
  · intro _ _;simp only [iG,PC]
theorem tP {N:Nat} (hN:gT≤N) {l:List Int} {x:Int} (hb:l.length<gT):kC N l x=some (l.contains x):=by
  unfold kC;obtain ⟨r,h1,h2⟩:=Mc hN hb (x:=x);rw [h1,PB,h2]
def oU (b:List Int):Nat→List Int→List Int
  | _,[]=>[]
  | k,y::l=>if decide (y > (b[k]?).getD 0) then (k:Int)::oU b (k+1) l else oU b (k+1) l
theorem Bb (b:List Int):∀ (l:List Int) (k:Nat),(oU b k l).length≤l.length
  | [],_=>Nat.le_refl _
  | y::l,k=>by
    unfold oU;have:=Bb b l (k+1);split<;>simp<;>omega
theorem zO (b:List Int):∀ (l:List Int) (k:Nat) (acc:List Int),foldI (fun k (acc:List Int) y=>if decide (y > (b[k]?).getD 0) then acc++[(k:Int)] else acc) k acc l=acc++oU b k l
  | [],_,acc=>by simp [foldI,oU]
  | y::l,k,acc=>by
    unfold foldI oU;rw [zO b l];cases decide (y > (b[k]?).getD 0)<;>simp
theorem Mh {N:Nat} (hN:gT≤N) {a b:iY} (ha:a.Pd.length<gT) (hab:a.Pd.length≤b.Pd.length):u5 N a b=some (oU b.Pd 0 a.Pd):=by
  unfold u5
  rw [show (([]:List Int),(0:Int))=(fun (k:Nat) (t:List Int)=>(t,(k:Int))) 0 [] from rfl,
    j0 a.Pd (fun k (t:List Int)=>(t,(k:Int))) (fun k acc y=>if decide (y > (b.Pd[k]?).getD 0) then acc++[(k:Int)] else acc) (fun t=>(t,(a.Pd.length:Int))) (fun k t=>t.length≤k) ?_ ?_ (Nat.lt_of_lt_of_le ha hN) (by simp),zO]
  · simp
  · intro k t y hy hk hI;have hz:b.Pd[k]?=some (b.Pd[k]'(by omega)):=List.getElem?_eq_getElem _;simp only [iF hk,PD,ik,hy,hz,PB,Option.getD_some,iJ (Nat.lt_trans hk ha)];cases decide (y > b.Pd[k]'(by omega))
    · exact ⟨rfl,by simp;omega⟩
    · have:app t [(k:Int)]=some (t++[(k:Int)]):=by unfold app;rw [if_pos (by simp;omega)]
      simp only [this,PB,PD,if_true];exact ⟨trivial,by simp;omega⟩
  · intro t _;simp only [iG,PC]
def rE (own:List Int) (a b:iY):Bool:=lP own&&(j3 a&&(j3 b&&allI (fun k y=>!decide (y > (b.Pd[k]?).getD 0) || own.contains (k:Int)) 0 a.Pd))
theorem Cw (b:List Int) (q:Int→Bool):∀ (l:List Int) (k:Nat),(oU b k l).all q=allI (fun k y=>!decide (y > (b[k]?).getD 0) || q (k:Int)) k l
  | [],_=>rfl
  | y::l,k=>by
    unfold oU allI;rw [← Cw b q l (k+1)];cases decide (y > (b[k]?).getD 0)<;>simp
theorem Ha {N:Nat} (hN:gT≤N) {own:List Int} {a b:iY} (ho:own.length<gT) (ha:a.Pd.length<gT) (hb:b.Pd.length<gT):rK N own a b=some (rE own a b):=by
  unfold rK rE;simp only [zs hN ho,uW hN ha,uW hN hb,PB,j1];cases h1:lP own
  · rfl
  cases h2:j3 a
  · rfl
  cases h3:j3 b
  · rfl
  have l2:=(sG.1 h2).1;have l3:=(sG.1 h3).1;have hl:=Bb b.Pd a.Pd 0;have hB:(oU b.Pd 0 a.Pd).length<gT:=Nat.lt_of_le_of_lt hl ha;simp only [PE,Bool.or_self,PC,Mh hN ha (b:=b) (by omega),PB,PF];rw [jT (oU b.Pd 0 a.Pd) (fun _ y=>own.contains y) (.inl ((oU b.Pd 0 a.Pd).length:Int)) (.inr false) (Nat.lt_of_lt_of_le hB hN),kh,Cw]
  · simp only [PB];cases allI _ 0 a.Pd<;>rfl
  · intro k y hy hk;simp only [iF hk,PD,ik,hy,PB,tP hN ho,iJ (Nat.lt_trans hk hB)];cases own.contains y<;>rfl
  · simp only [iG,PC]
theorem Ms {α ρ:Type} {body:Int→Option (Int⊕ρ)} (x:List α) (h4:x.length=4) (p:Nat→α→Bool) (r r':ρ) {N:Nat} (hN:gT≤N)
    (hs:∀ (k:Nat) (y:α),x[k]?=some y→k<4→decide ((k:Int)<4)=true→body (k:Int)=some (if p k y then .inl ((k+1:Nat):Int) else .inr r')) (he:body 4=some (.inr r)):iter body N 0=some (if allI p 0 x then r else r') :=
  jT x p r r' (by have:16777216≤N:=hN;omega) (fun k y hy hk=>hs k y hy (by omega) (by simp;omega)) (by rw [h4];exact he)
def uB:hO→List iO→Bool
  | _,[]=>true
  | a,b::l=>(kt a b.j6).2&&(j3 b.Pe&&(lP b.own&&uB (kt a b.j6).1 l))
def m9 (l:List iO):Bool:=uB ⟨0,0,0⟩ l&&ig (l.length:Int) 1 3
theorem yr (e:Int) (g:Nat→hO→iO→hO⊕((Int×Int×Int×Int)⊕Bool)) (fin:hO→((Int×Int×Int×Int)⊕Bool)) (k:Option Bool)
    (hg:∀ k t y,g k t y=if (kt t y.j6).2&&(j3 y.Pe&&lP y.own) then .inl (kt t y.j6).1 else .inr (.inr false)) (hf:∀ t, ∃ v,fin t=.inl v) :
    ∀ (l:List iO) (j:Nat) (t:hO),Sum.elim (fun _=>k) (fun r=>some r) (lg g fin j t l)=bif uB t l then k else some false
  | [],j,t=>by obtain ⟨v,hv⟩:=hf t;simp [lg,uB,hv]
  | b::l,j,t=>by
    have ih:=yr e g fin k hg hf l (j+1);simp only [lg,uB,hg];cases (kt t b.j6).2
    · rfl
    cases j3 b.Pe
    · rfl
    cases lP b.own
    · rfl
    simpa using ih _
theorem IC {l:List iO} {y:iO} (hb:iQ jm l<gT) (hy:y ∈ l):y.Pe.Pd.length<gT∧y.own.length<gT:=by
  have:=jh hb hy;unfold jm jU at this;omega
theorem DQ {N:Nat} (hN:gT≤N) {l:List iO} (hb:iQ jm l<gT):sf N l=some (m9 l):=by
  have hl:=jj hb;unfold sf m9
  rw [show ((0:Int),(0:Int),(0:Int),(0:Int))=(fun (k:Nat) (t:hO)=>((k:Int),t.gE,t.gX,t.g8)) 0 ⟨0,0,0⟩ from rfl,
    lK l (fun (k:Nat) (t:hO)=>((k:Int),t.gE,t.gX,t.g8)) (fun k t y=>if (kt t y.j6).2&&(j3 y.Pe&&lP y.own) then .inl (kt t y.j6).1 else .inr (.inr false)) (fun t=>.inl ((l.length:Int),t.gE,t.gX,t.g8)) (fun _ _=>True) ?_ ?_ (Nat.lt_of_lt_of_le hl hN) trivial]
  · simp only [PB,lQ];rw [yr 0 _ _ _ (fun _ _ _=>rfl) (fun t=>⟨_,rfl⟩),kI]
  · intro k t y hy hk _;obtain ⟨b1,b2⟩:=IC hb (List.mem_of_getElem? hy);refine ⟨?_,fun _ _=>trivial⟩;simp only [iF hk,PD,ik,hy,PB,Dz,uW hN b1,zs hN b2,j1,iJ (Nat.lt_trans hk hl)];cases (kt t y.j6).2
    · rfl
    cases j3 y.Pe
    · rfl
    cases lP y.own<;>rfl
  · intro t _;simp only [iG,PC]
theorem Eh {N:Nat} (hN:gT≤N) {l:List iO} (hb:iQ jm l<gT):rU N l=some (m9 l):=by
  have hl:=jj hb;have hN':16777216≤N:=hN;have hlB:l.length<16777216:=hl;unfold rU m9
  rw [show ((0:Int),(0:Int),(0:Int),(0:Int))=(fun (k:Nat) (t:hO)=>((k:Int),t.gE,t.gX,t.g8)) 0 ⟨0,0,0⟩ from rfl,
    lK (l.take 3) (fun (k:Nat) (t:hO)=>((k:Int),t.gE,t.gX,t.g8)) (fun k t y=>if (kt t y.j6).2&&(j3 y.Pe&&lP y.own) then .inl (kt t y.j6).1 else .inr (.inr false)) (fun t=>.inl (((l.take 3).length:Int),t.gE,t.gX,t.g8)) (fun _ _=>True) ?_ ?_ (by simp;omega) trivial]
  · simp only [PB,lv];rw [yr 0 _ _ _ (fun _ _ _=>rfl) (fun t=>⟨_,rfl⟩),kI]
    rcases Nat.lt_or_ge 3 l.length with h | h
    · have:ig (l.length:Int) 1 3=false:=by simp [ig];omega
      simp [this]
    · rw [List.take_of_length_le h]
  · intro k t y hy hk _
    have hk2:k<3∧k<l.length:=by simp at hk;omega
    rw [List.getElem?_take_of_lt hk2.1] at hy;obtain ⟨b1,b2⟩:=IC hb (List.mem_of_getElem? hy);refine ⟨?_,fun _ _=>trivial⟩
    have h3:decide ((k:Int)<3)=true:=by simp;omega
    simp only [iF hk2.2,h3,PD,ik,hy,PB,wo,uX hN b1,zG hN b2,j1,iJ (show k<gT from Nat.lt_trans hk2.1 (by decide))];cases h1:(kt t y.j6).2
    · cases j3 y.Pe<;>cases lP y.own<;>rfl
    cases j3 y.Pe
    · rfl
    cases lP y.own<;>rfl
  · intro t _;simp only [List.length_take]
    rcases Nat.lt_or_ge 3 l.length with h | h
    · have e:min 3 l.length=3:=by omega
      have h3:decide (((3:Nat):Int)<(l.length:Int))=true:=by simp;omega
      simp only [e,h3,PD];rfl
    · have e:min 3 l.length=l.length:=by omega
      simp only [e,iG,PC,PB]
end Go.Kx
namespace Go.Kx
open Go
open Go.IntKind (i64)
set_option linter.unusedVariables false
set_option linter.unusedSimpArgs false
set_option maxRecDepth 10000
def nth {α:Type} [hD α] (l:List α) (i:Int):α:=(l[i.toNat]?).getD hD.zero
theorem i9 {α:Type} [hD α] {l:List α} {i:Int} (h0:0≤i) (h1:i<(l.length:Int)):idx l i=some (nth l i):=by
  have hz:l[i.toNat]?=some (l[i.toNat]'(by omega)):=List.getElem?_eq_getElem _;unfold idx nth;rw [if_pos h0,hz];rfl
theorem AZ {α:Type} [hD α] {l:List α} {i a b:Int} (h:ig i a b=true) (ha:0≤a) (hb:b<(l.length:Int)):idx l i=some (nth l i):=by
  rw [iW] at h;exact i9 (by omega) (by omega)
theorem EU {α:Type} [hD α] {l:List α} {k:Nat} {y:α} (h:l[k]?=some y):nth l (k:Int)=y:=by simp [nth,h]
theorem kZ {α:Type} [hD α] {l:List α} {i:Int} (h0:0≤i) (h1:i<(l.length:Int)):nth l i ∈ l:=by
  have hz:l[i.toNat]?=some (l[i.toNat]'(by omega)):=List.getElem?_eq_getElem _;unfold nth;rw [hz];exact List.getElem_mem _
theorem xh {α:Type} {l:List α} {n:Nat} (h:((l.length:Int) != (n:Int))=false):l.length=n:=by simp at h;omega
theorem vj (N:Nat) (a:Int):lh N a=some (ig a 0 4):=by unfold lh;rw [lQ];rfl
theorem vT (N:Nat) (a:Int):lH N a=some (ig a 0 4):=by unfold lH;rw [lv];rfl
def jd (t:List g6) (i:Int):Bool:=ig i 0 4&&(nth t i).Px
def up (t:List g6) (i:Int):Int:=(nth t i).Pv
def leads (t:List g6):Nat→Int→Bool
  | 0,_=>false
  | n+1,i=>(i==0) || (jd t i&&leads t n (up t i))
def jE (t:List g6):Nat→Int→Int
  | 0,a=>a
  | n+1,a=>if a > 0 then jE t n (up t a) else a
theorem rj (N:Nat) {t:List g6} (h:t.length=5) (i:Int):lF N t i=some (jd t i):=by
  unfold lF jd;rw [vj,PB];cases hi:ig i 0 4
  · rfl
  · simp only [PD,AZ hi (by omega) (show (4:Int)<(t.length:Int) by omega),PB,PF]
theorem Om {k:Nat} (h:k<(List.replicate 5 ()).length):k<5∧decide ((k:Int)<5)=true:=by
  have h:k<5:=by simpa using h
  exact ⟨h,by simp;omega⟩
theorem M8 {k n:Nat} {N:Nat} (hN:gT≤N) (hn:n<16777216):(List.replicate n ()).length<N:=by
  have:16777216≤N:=hN;simp;omega
theorem IT {N:Nat} (hN:gT≤N) {t:List g6} (h:t.length=5) (i:Int):sM N t i=some (leads t 5 i):=by
  unfold sM
  rw [show ((i,0):Int×Int)=(fun (k:Nat) (a:Int)=>(a,(k:Int))) 0 i from rfl,
    lK (List.replicate 5 ()) (fun (k:Nat) (a:Int)=>(a,(k:Int))) (fun _ a _=>if a==0 then .inr (.inr true) else if jd t a then .inl (up t a) else .inr (.inr false)) (fun a=>.inl (a,5)) (fun _ _=>True) ?_ ?_ (M8 (k:=0) hN (by decide)) trivial]
  · have key:∀ (n k:Nat) (a:Int),Sum.elim (fun _=>some false) (fun r20=>some r20) (lg (ρ:=(Int×Int)⊕Bool) (fun (_:Nat) a (_:Unit)=>if a==0 then .inr (.inr true) else if jd t a then .inl (up t a) else .inr (.inr false)) (fun a=>.inl (a,5)) k a (List.replicate n ()))=some (leads t n a):=by
      intro n
      induction n with
      | zero=>intro k a;rfl
      | succ n ih =>
        intro k a;rw [List.replicate_succ];unfold lg leads;cases h0:(a==0)
        · cases h1:jd t a
          · rfl
          · simpa using ih (k+1) (up t a)
        · rfl
    exact key 5 0 i
  · intro k a y hy hk _;obtain ⟨h5,hd⟩:=Om hk;refine ⟨?_,fun _ _=>trivial⟩;simp only [hd,PD,rj N h,PB];cases h0:(a==0)
    · cases h1:jd t a
      · rfl
      · have hin:ig a 0 4=true:=by unfold jd at h1;simp at h1;exact h1.1
        simp only [AZ hin (by omega) (show (4:Int)<(t.length:Int) by omega),iJ (show k<gT from Nat.lt_trans h5 (by decide)),PB];rfl
    · rfl
  · intro a _;rfl
def rN:g6:=g6.mk false 0 (hO.mk 0 0 0)
def nM (t:List g6) (k:Nat) (r:g6):Bool:=if r.Px then iN r.iH&&leads t 5 (k:Int) else decide (r=rN)
def jq (s:hO) (t:List g6):hO:=t.foldl (fun s r=>if r.Px then iS s r.iH else s) s
def jG (t:List g6):Bool:=!((t.length:Int) != 5)&&((nth t 0).Px&&(!((nth t 0).Pv != (-1))&&(allI (nM t) 0 t&&iN (jq ⟨0,0,0⟩ t))))
theorem qQ {N:Nat} (hN:gT≤N) {t:List g6}:lE N t=some (jG t):=by
  unfold lE jG;cases h5:((t.length:Int) != 5)
  · have hl:t.length=5:=xh (n:=5) h5
    have hB:t.length<gT:=by rw [hl];decide
    rw [i9 (l:=t) (i:=0) (by omega) (by omega)];simp only [PC,PB,j1,Bool.not_false,PF];cases h1:(nth t 0).Px
    · rfl
    cases h2:((nth t 0).Pv != (-1))
    · simp only [PE,Bool.or_self,PC,PF,Bool.not_false]
      rw [show ((0:Int),(0:Int),(0:Int),(0:Int))=(fun (k:Nat) (s:hO)=>((k:Int),s.gE,s.gX,s.g8)) 0 ⟨0,0,0⟩ from rfl,
        lK t (fun (k:Nat) (s:hO)=>((k:Int),s.gE,s.gX,s.g8)) (fun k s r=>if nM t k r then .inl (if r.Px then iS s r.iH else s) else .inr (.inr false)) (fun s=>.inl ((t.length:Int),s.gE,s.gX,s.g8)) (fun _ _=>True) ?_ ?_ (Nat.lt_of_lt_of_le hB hN) trivial]
      · simp only [PB,qz]
        have key:∀ (l:List g6) (k:Nat) (s:hO),Sum.elim (fun (o48:Int×Int×Int×Int)=>some (iN (hO.mk o48.2.1 o48.2.2.1 o48.2.2.2))) (fun r53=>some r53) (lg (fun k s r=>if nM t k r then .inl (if r.Px then iS s r.iH else s) else .inr (.inr false)) (fun s=>.inl ((t.length:Int),s.gE,s.gX,s.g8)) k s l)=some (allI (nM t) k l&&iN (jq s l)):=by
          intro l
          induction l with
          | nil=>intro k s;rfl
          | cons r l ih =>
            intro k s;unfold lg allI;cases hp:nM t k r
            · rfl
            · simpa [jq] using ih (k+1) (if r.Px then iS s r.iH else s)
        exact key t 0 _
      · intro k s r hy hk _;refine ⟨?_,fun _ _=>trivial⟩;simp only [iF hk,PD,ik,hy,PB,qz,IT hN hl,tq,j1,iJ (Nat.lt_trans hk hB)];unfold nM;cases hlv:r.Px
        · show (bif !decide (r=rN) then _ else _)=_
          cases decide (r=rN)<;>rfl
        · cases iN r.iH<;>cases leads t 5 (k:Int)<;>rfl
      · intro s _;simp only [iG,PC]
    · rfl
  · rfl
def p1 (t:List g6) (k:Nat) (r:g6):Bool:=!((!r.Px&&!decide (r=rN)) || !iN r.iH)&&!(decide ((k:Int) > 0)&&(r.Px&&(!ig r.Pv 0 4 || (r.Pv==(k:Int) || !(nth t r.Pv).Px))))
def p2 (t:List g6) (k:Nat) (r:g6):Bool:=!(r.Px&&(jE t 5 (k:Int) != 0))
def Good (t:List g6):Prop:=∀ i:Int,0<i→i≤4→(nth t i).Px=true→0≤up t i∧up t i≤4∧up t i ≠ i∧(nth t (up t i)).Px=true
theorem Gh {t:List g6} (hl:t.length=5) (h:allI (p1 t) 0 t=true):Good t:=by
  intro i h0 h4 hlv;rw [l7] at h
  have hz:t[i.toNat]?=some (nth t i):=by
    have:=i9 (l:=t) (i:=i) (by omega) (by omega);unfold idx at this
    rwa [if_pos (by omega)] at this
  have:=h _ _ hz
  have e:((0+i.toNat:Nat):Int)=i:=by omega
  unfold p1 at this;rw [e] at this;unfold up;simp [hlv,ig] at this
  rcases this.2 with q | q
  · omega
  · exact ⟨q.1.1,q.1.2,q.2.1,q.2.2⟩
theorem CJ {t:List g6} (hg:Good t):∀ (n:Nat) (a:Int),0≤a→a≤4→(nth t a).Px=true→0≤jE t n a∧jE t n a≤4∧(nth t (jE t n a)).Px=true
  | 0,a,h0,h4,hlv=>⟨h0,h4,hlv⟩
  | n+1,a,h0,h4,hlv=>by
    unfold jE
    by_cases ha:a > 0
    · rw [if_pos ha];obtain ⟨g1,g2,_,g4⟩:=hg a ha h4 hlv;exact CJ hg n _ g1 g2 g4
    · rw [if_neg ha];exact ⟨h0,h4,hlv⟩
theorem vm (t:List g6):∀ (m n:Nat) (a:Int),jE t (m+n) a=jE t n (jE t m a)
  | 0,n,a=>by simp [jE]
  | m+1,n,a=>by
    rw [show m+1+n=(m+n)+1 by omega]
    show (if a > 0 then jE t (m+n) (up t a) else a)=jE t n (if a > 0 then jE t m (up t a) else a)
    by_cases ha:a > 0
    · rw [if_pos ha,if_pos ha,vm t m n]
    · rw [if_neg ha,if_neg ha];cases n<;>simp [jE,ha]
theorem Bj (t:List g6) (n:Nat):jE t n 0=0:=by cases n<;>simp [jE]
theorem xl {t:List g6} (hg:Good t):∀ (n:Nat) (a:Int),0≤a→a≤4→(nth t a).Px=true→leads t (n+1) a=(jE t n a==0)
  | 0,a,h0,h4,hlv=>by simp [leads,jE]
  | n+1,a,h0,h4,hlv=>by
    rw [show leads t (n+1+1) a=((a==0) || (jd t a&&leads t (n+1) (up t a))) from rfl];unfold jE
    by_cases ha:a=0
    · subst ha;simp
    · have hp:a > 0:=by omega
      obtain ⟨g1,g2,_,g4⟩:=hg a hp h4 hlv;rw [if_pos hp,xl hg n _ g1 g2 g4]
      have:jd t a=true:=by simp [jd,iW,hlv];omega
      have h0':(a==0)=false:=by simpa using ha
      rw [this,h0'];rfl
theorem Kd {t:List g6} (hg:Good t) {a:Int} (h0:0≤a) (h4:a≤4) (hlv:(nth t a).Px=true) (h:jE t 5 a=0):jE t 4 a=0:=by
  have key:∀ (i j:Nat),i+j≤5→jE t i a=jE t (i+j) a→jE t (5 - j) a=0:=by
    intro i j hij e
    have h1:jE t (5 - j) a=jE t (5 - j - i) (jE t i a):=by rw [← vm];congr 1;omega
    have h2:jE t 5 a=jE t (5 - j - i) (jE t (i+j) a):=by rw [← vm];congr 1;omega
    rw [h1,e, ← h2,h]
  have mono:∀ (i j:Nat),jE t i a=0→jE t (i+j) a=0:=by
    intro i j e;rw [vm,e,Bj]
  rcases Decidable.em (jE t 4 a=0) with q | q
  · exact q
  exfalso
  have nz:∀ i,i≤4→jE t i a ≠ 0:=fun i hi e=>q (by have:=mono i (4 - i) e;rwa [show i+(4 - i)=4 by omega] at this)
  have Ab:∀ i,i≤4→1≤jE t i a∧jE t i a≤4:=fun i hi=>by
    obtain ⟨r1,r2,_⟩:=CJ hg i a h0 h4 hlv;have:=nz i hi;omega
  have ne:∀ (i j:Nat),0<j→i+j≤4→jE t i a ≠ jE t (i+j) a:=fun i j hj hij e=>nz (5 - j) (by omega) (key i j (by omega) e);have r0:=Ab 0 (by omega);have r1:=Ab 1 (by omega);have r2:=Ab 2 (by omega);have r3:=Ab 3 (by omega);have r4:=Ab 4 (by omega);have n01:=ne 0 1 (by omega) (by omega);have n02:=ne 0 2 (by omega) (by omega);have n03:=ne 0 3 (by omega) (by omega);have n04:=ne 0 4 (by omega) (by omega);have n12:=ne 1 1 (by omega) (by omega);have n13:=ne 1 2 (by omega) (by omega);have n14:=ne 1 3 (by omega) (by omega);have n23:=ne 2 1 (by omega) (by omega);have n24:=ne 2 2 (by omega) (by omega);have n34:=ne 3 1 (by omega) (by omega);simp only [Nat.zero_add,Nat.reduceAdd] at *;generalize jE t 0 a=c0 at *;generalize jE t 1 a=c1 at *;generalize jE t 2 a=c2 at *;generalize jE t 3 a=c3 at *;generalize jE t 4 a=c4 at *;clear key mono nz Ab ne;omega
theorem Ag {t:List g6} {a:Int} (ha:a ≠ 0) (hu:up t a=a):∀ n,leads t n a=false
  | 0=>rfl
  | n+1=>by
    unfold leads;rw [hu,Ag ha hu n];simp [ha]
theorem Jy {t:List g6} (hl:t.length=5) (h0:(nth t 0).Px=true):(allI (p1 t) 0 t&&allI (p2 t) 0 t)=allI (nM t) 0 t:=by
  have hget:∀ (i:Nat) (r:g6),t[i]?=some r→(i:Int)≤4∧nth t (i:Int)=r:=fun i r h=>⟨by have:=je h;omega,EU h⟩;rw [Bool.eq_iff_iff,PG];constructor
  · rintro ⟨h1,h2⟩;have hg:=Gh hl h1;rw [l7] at h1 h2 ⊢;intro i r hr;obtain ⟨i4,hn⟩:=hget i r hr;have q1:=h1 i r hr;have q2:=h2 i r hr;simp only [Nat.zero_add] at q1 q2 ⊢;unfold p1 at q1;unfold p2 at q2;unfold nM;cases hlv:r.Px
    · simp [hlv] at q1;simp [q1.1]
    · simp [hlv] at q1 q2
      have hlv':(nth t (i:Int)).Px=true:=by rw [hn];exact hlv
      have:=Kd hg (by omega) i4 hlv' q2;simp only [if_true,PG];refine ⟨q1.1,?_⟩;rw [xl hg 4 _ (by omega) i4 hlv',this];rfl
  · intro h;rw [l7] at h
    have hp:∀ (i:Int),0≤i→i≤4→(nth t i).Px=true→iN (nth t i).iH=true∧leads t 5 i=true:=by
      intro i hi hi4 hlv
      have hz:t[i.toNat]?=some (nth t i):=by
        have:=i9 (l:=t) (i:=i) (by omega) (by omega);unfold idx at this
        rwa [if_pos (by omega)] at this
      have:=h _ _ hz;unfold nM at this;rw [if_pos hlv] at this
      have e:((0+i.toNat:Nat):Int)=i:=by omega
      rw [e] at this;simpa using this
    have hg:Good t:=by
      intro i hi hi4 hlv;obtain ⟨_,q⟩:=hp i (by omega) hi4 hlv
      have hne:up t i ≠ i:=fun e=>by rw [Ag (by omega) e] at q;cases q
      have hi0:(i==0)=false:=by simp;omega
      rw [show leads t 5 i=((i==0) || (jd t i&&leads t 4 (up t i))) from rfl,hi0] at q;simp only [Bool.false_or,PG] at q;rw [show leads t 4 (up t i)=((up t i==0) || (jd t (up t i)&&leads t 3 (up t (up t i)))) from rfl] at q
      rcases Decidable.em (up t i=0) with e | e
      · rw [e];exact ⟨by omega,by omega,by omega,h0⟩
      · have e':(up t i==0)=false:=by simpa using e
        rw [e'] at q;simp only [Bool.false_or,PG] at q;have:=q.2.1;simp only [jd,PG,iW] at this;exact ⟨this.1.1,this.1.2,hne,this.2⟩
    rw [l7,l7];refine ⟨fun i r hr=>?_,fun i r hr=>?_⟩
    · obtain ⟨i4,hn⟩:=hget i r hr;have q:=h i r hr;simp only [Nat.zero_add] at q ⊢;unfold p1;unfold nM at q;cases hlv:r.Px
      · simp [hlv] at q;subst q;simp;decide
      · simp [hlv] at q;simp [q.1]
        by_cases hi:i=0
        · exact .inl hi
        · have:=hg (i:Int) (by omega) i4 (by rw [hn];exact hlv);unfold up at this;rw [hn] at this;exact .inr ⟨iW.2 ⟨this.1,this.2.1⟩,this.2.2.1,this.2.2.2⟩
    · obtain ⟨i4,hn⟩:=hget i r hr;simp only [Nat.zero_add];unfold p2;cases hlv:r.Px
      · rfl
      · have hlv':(nth t (i:Int)).Px=true:=by rw [hn];exact hlv
        obtain ⟨_,q⟩:=hp (i:Int) (by omega) i4 hlv';rw [xl hg 4 _ (by omega) i4 hlv'] at q
        have q:jE t 4 (i:Int)=0:=by simpa using q
        have:jE t 5 (i:Int)=0:=by rw [show 5=4+1 from rfl,vm,q,Bj]
        simp [this]
theorem BW {N:Nat} (hN:gT≤N) {t:List g6} (hB:t.length<gT):qZ N t=some (jq ⟨0,0,0⟩ t):=by
  unfold qZ jq
  rw [show ((0:Int),(0:Int),(0:Int),(0:Int))=(fun (k:Nat) (s:hO)=>((k:Int),s.gE,s.gX,s.g8)) 0 ⟨0,0,0⟩ from rfl,
    j0 t (fun (k:Nat) (s:hO)=>((k:Int),s.gE,s.gX,s.g8)) (fun _ s r=>if r.Px then iS s r.iH else s) (fun s=>((t.length:Int),s.gE,s.gX,s.g8)) (fun _ _=>True) ?_ ?_ (Nat.lt_of_lt_of_le hB hN) trivial,lk]
  · rfl
  · intro k s r hy hk _;refine ⟨?_,trivial⟩;simp only [iF hk,PD,ik,hy,PB,iJ (Nat.lt_trans hk hB)];cases r.Px<;>rfl
  · intro s _;simp only [iG,PC]
theorem II {N:Nat} (hN:gT≤N) {t:List g6} (hl:t.length=5) (hg:Good t) {k:Nat} {r:g6} (hr:t[k]?=some r) :
    ∃ n,iter (fun (s72:Int×Int)=>((bif (decide (s72.2<5)) then ((idx t (k:Int)).bind fun y77=>bif y77.Px then (some (decide (s72.1 > 0))) else (some false)) else (some false):Option Bool).bind fun j74=>bif j74 then ((idx t s72.1).bind fun y89=>some (.inl (y89.Pv,i64.wrap (s72.2+1)))) else (some (.inr (s72.1,s72.2))):Option ((Int×Int)⊕(Int×Int)))) N ((k:Int),0)=some (if r.Px then jE t 5 (k:Int) else (k:Int),n):=by
  have hk:=je hr
  rw [show (((k:Int),0):Int×Int)=(fun (n:Nat) (a:Int)=>(a,(n:Int))) 0 (k:Int) from rfl,
    lK (List.replicate 5 ()) (fun (n:Nat) (a:Int)=>(a,(n:Int))) (fun n a _=>if r.Px&&decide (a > 0) then .inl (up t a) else .inr (a,(n:Int))) (fun a=>(a,5)) (fun _ a=>r.Px=true→0≤a∧a≤4∧(nth t a).Px=true) ?_ ?_ (M8 (k:=0) hN (by decide)) (fun h=>⟨by omega,by omega,by rw [EU hr];exact h⟩)]
  · have key:∀ (n j:Nat) (a:Int),(lg (ρ:=Int×Int) (fun (n:Nat) a (_:Unit)=>if r.Px&&decide (a > 0) then .inl (up t a) else .inr (a,(n:Int))) (fun a=>(a,5)) j a (List.replicate n ())).1=if r.Px then jE t n a else a:=by
      intro n
      induction n with
      | zero=>intro j a;simp [lg,jE]
      | succ n ih =>
        intro j a;rw [List.replicate_succ];unfold lg jE;cases hlv:r.Px
        · rfl
        · have ih:=ih (j+1) (up t a);rw [hlv] at ih
          by_cases ha:a > 0
          · simpa [ha] using ih
          · simp [ha]
    have:=key 5 0 (k:Int);exact ⟨_,congrArg some (Prod.ext this rfl)⟩
  · intro n a y hy hn hI;obtain ⟨h5,hd⟩:=Om hn;simp only [hd,PD,ik,hr,PB];cases hlv:r.Px
    · exact ⟨rfl,fun t' h=>by simp at h⟩
    · obtain ⟨i1,i2,i3⟩:=hI hlv
      by_cases ha:a > 0
      · have hd2:decide (a > 0)=true:=by simpa using ha
        simp only [PD,hd2,PB,i9 (l:=t) (i:=a) i1 (by omega),iJ (show n<gT from Nat.lt_trans h5 (by decide)),Bool.and_self,if_true];refine ⟨rfl,fun t' h _=>?_⟩;cases h;obtain ⟨g1,g2,_,g4⟩:=hg a ha i2 i3;exact ⟨g1,g2,g4⟩
      · have hd2:decide (a > 0)=false:=by simpa using ha
        simp only [PD,hd2,PB,PC];exact ⟨rfl,fun t' h=>by simp at h⟩
  · intro a _;rfl
theorem wk {N:Nat} (hN:gT≤N) {t:List g6}:ng N t=some (jG t):=by
  unfold ng jG;cases h5:((t.length:Int) != 5)
  · have hl:t.length=5:=xh (n:=5) h5
    have hB:t.length<gT:=by rw [hl];decide
    rw [i9 (l:=t) (i:=0) (by omega) (by omega)];simp only [PC,PB,j1,Bool.not_false,PF];cases h1:(nth t 0).Px
    · rfl
    cases h2:((nth t 0).Pv != (-1))
    · simp only [PE,Bool.or_self,PC,PF,Bool.not_false];rw [jT t (p1 t) (.inl (t.length:Int)) (.inr false) (Nat.lt_of_lt_of_le hB hN), ← Jy hl h1]
      · simp only [PB];cases hp:allI (p1 t) 0 t
        · rfl
        · have hg:=Gh hl hp;simp only [if_true,Sum.elim_inl,PF];rw [jT t (p2 t) (.inl (t.length:Int)) (.inr false) (Nat.lt_of_lt_of_le hB hN)]
          · simp only [PB,BW hN hB,qt];cases allI (p2 t) 0 t<;>rfl
          · intro k r hy hk;obtain ⟨n,hn⟩:=II hN hl hg hy;simp only [iF hk,PD];rw [hn];simp only [ik,hy,PB,iJ (Nat.lt_trans hk hB)];unfold p2;cases hlv:r.Px
            · rfl
            · simp only [PD,PB,if_true,PF];cases (jE t 5 (k:Int) != 0)<;>rfl
          · simp only [iG,PC]
      · intro k r hy hk;simp only [iF hk,PD,ik,hy,PB,qt,vT,j1,iJ (Nat.lt_trans hk hB)];unfold p1;rw [show g6.mk false 0 (hO.mk 0 0 0)=rN from rfl];cases hin:ig r.Pv 0 4
        · cases r.Px<;>cases decide (r=rN)<;>cases iN r.iH<;>cases decide ((k:Int) > 0)<;>rfl
        · rw [AZ hin (by omega) (show (4:Int)<(t.length:Int) by omega)];simp only [PB];cases r.Px<;>cases decide (r=rN)<;>cases iN r.iH<;>cases decide ((k:Int) > 0)<;>cases (r.Pv==(k:Int))<;>cases (nth t r.Pv).Px<;>rfl
      · simp only [iG,PC]
    · rfl
  · rfl
end Go.Kx
namespace Go.Kx
open Go
open Go.IntKind (i64)
set_option linter.unusedVariables false
set_option linter.unusedSimpArgs false
set_option maxRecDepth 10000
theorem z9 {N:Nat} (hN:gT≤N) {a b:List Int} (ha:a.length<gT):pX N a b=some (decide (a=b)):=BV a b (· != ·) (by intro y z;by_cases h:y=z<;>simp [h]) ha hN
theorem F6 {N:Nat} (hN:gT≤N) {a b:List iM} (ha:a.length<gT):sZ N a b=some (decide (a=b)):=BV a b (fun y z=>!decide (y=z)) (fun _ _=>rfl) ha hN
theorem AK {o:gP} (h:hY o<gT):o.gZ.length<gT∧o.Po.length<gT∧o.Pk.length<gT:=by unfold hY at h;omega
theorem JE {N:Nat} (hN:gT≤N) {a b:gP} (ha:hY a<gT):sy N a b=some (decide (a=b)):=by
  obtain ⟨h1,h2,h3⟩:=AK ha;unfold sy;simp only [z9 hN h1,z9 hN h2,F6 hN h3,PB,kI];congr 1;rw [Bool.eq_iff_iff];cases a;cases b;simp [gP.mk.injEq]
theorem jY {p:bh} (h:ic p<gT):p.Pe.Pd.length<gT∧p.own.length<gT∧p.Pg.length<gT∧iQ hY p.py.ag<gT∧p.py.gc.gQ.length<gT∧p.gR.length<gT:=by
  unfold ic k5 oV jU at h;omega
end Go.Kx
namespace Go.Kx
open Go
open Go.IntKind (i64)
set_option linter.unusedVariables false
set_option linter.unusedSimpArgs false
set_option maxRecDepth 10000
theorem jS {α:Type} {l:List α} (h:l.length<gT):app ([]:List α) l=some l:=by
  unfold app;rw [if_pos (by simpa using h)];rfl
theorem r7 {N:Nat} {l:List Int} (h:l.length<gT):lC N l=some l:=by unfold lC;rw [jS h];rfl
theorem zP {N:Nat} {l:iY} (h:l.Pd.length<gT):nU N l=some l:=by unfold nU;rw [r7 h];rfl
theorem oo {N:Nat} {l:List g6} (h:l.length<gT):la N l=some l:=by unfold la;rw [jS h];rfl
theorem oI {N:Nat} {l:List g6} (h:l.length<gT):kW N l=some l:=by unfold kW;rw [jS h];rfl
theorem Cr {N:Nat} {o:gP} (h:hY o<gT):qD N o=some o:=by
  obtain ⟨h1,h2,h3⟩:=AK h;unfold qD;simp only [r7 h1,r7 h2,jS h3,PB]
theorem GB {N:Nat} {o:gP} (h:hY o<gT):tz N o=some o:=by
  obtain ⟨h1,h2,h3⟩:=AK h;unfold tz;simp only [jS h1,jS h2,jS h3,PB]
theorem uL {N:Nat} (hN:gT≤N) {l:List gP} (hb:iQ hY l<gT):mb N l=some l:=by
  have hl:=jj hb;unfold mb;rw [n4 l (fun _ _=>true) (fun _ y=>y) hl hN,pg (fun _=>true)]
  · simp
  · intro k t y hy hk ht;simp only [iF hk,PD,ik,hy,PB,Cr (jh hb (List.mem_of_getElem? hy)),iJ (Nat.lt_trans hk hl),kB ht (Nat.lt_of_le_of_lt hk hl)];rfl
  · intro t;simp only [iG,PC]
theorem Ao {N:Nat} (hN:gT≤N) {l:List gP} (hb:iQ hY l<gT):oy N l=some l:=by
  have hl:=jj hb;unfold oy;rw [n4 l (fun _ _=>true) (fun _ y=>y) hl hN,pg (fun _=>true)]
  · simp
  · intro k t y hy hk ht;simp only [iF hk,PD,ik,hy,PB,GB (jh hb (List.mem_of_getElem? hy)),iJ (Nat.lt_trans hk hl),kB ht (Nat.lt_of_le_of_lt hk hl)];rfl
  · intro t;simp only [iG,PC]
theorem vD {N:Nat} (hN:gT≤N) {h:g7} (h1:iQ hY h.ag<gT) (h2:h.gc.gQ.length<gT):mP N h=some h:=by
  unfold mP;simp only [uL hN h1,r7 h2,PB]
theorem wS {N:Nat} (hN:gT≤N) {h:g7} (h1:iQ hY h.ag<gT) (h2:h.gc.gQ.length<gT):nn N h=some h:=by
  unfold nn;simp only [Ao hN h1,jS h2,PB]
theorem pM {N:Nat} (hN:gT≤N) {p:bh} (h:ic p<gT):ke N p=some p:=by
  obtain ⟨h1,h2,h3,h4,h5,h6⟩:=jY h;unfold ke;simp only [zP h1,r7 h2,oo h3,vD hN h4 h5,jS h6,PB]
theorem rL {N:Nat} (hN:gT≤N) {p:bh} (h:ic p<gT):lA N p=some p:=by
  obtain ⟨h1,h2,h3,h4,h5,h6⟩:=jY h;unfold lA;simp only [jS h1,jS h2,oI h3,wS hN h4 h5,jS h6,PB]
theorem yt {α:Type} {l:List α} {k:Nat} (h:k≤l.length):sub l 0 (k:Int)=some (l.take k):=by
  unfold sub;rw [if_pos ⟨Int.le_refl _,by omega,by omega⟩];simp
theorem CC {α:Type} (f:α→Nat):∀ (l:List α) (k:Nat),gW f (l.take k)≤gW f l
  | [],k=>by simp
  | y::l,0=>Nat.zero_le _
  | y::l,k+1=>by
    have:=CC f l k;simp only [List.take_succ_cons,gW];omega
theorem KT {α:Type} (f:α→Nat) (l:List α) (k:Nat):iQ f (l.take k)≤iQ f l:=by
  have:=CC f l k;unfold iQ;simp only [List.length_take];omega
end Go.Kx
namespace Go.Kx
open Go
open Go.IntKind (i64)
set_option linter.unusedVariables false
set_option linter.unusedSimpArgs false
set_option maxRecDepth 10000
theorem pD {α:Type} (p:Bool) (a b:α):(bif p then some a else some b)=some (bif p then a else b):=by cases p<;>rfl
theorem Au {ρ τ β:Type} (c:Bool) (a:ρ) (r:τ) (f:ρ→Option β) (g:τ→Option β):Sum.elim f g (if c then .inl a else .inr r)=if c then f a else g r:=by cases c<;>rfl
theorem yg (N:Nat) (a:Int):om N a=some (ig a 0 2):=by unfold om;rw [lQ];rfl
theorem tg (N:Nat) (a:Int):l5 N a=some (ig a 0 9):=by unfold l5;rw [lQ];rfl
theorem wx (N:Nat) (a:Int):lq N a=some (ig a 0 1000000):=by unfold lq;rw [lQ];rfl
theorem pG (N:Nat) (a:Int):lf N a=some (ig a 0 29999):=by unfold lf;rw [lQ];rfl
theorem r9 (N:Nat) (a:Int):kF N a=some (ig a 0 29999):=by unfold kF;rw [lv];rfl
theorem qV (N:Nat) (a:Int):lp N a=some (ig a 0 9):=by unfold lp;rw [lv];rfl
def x8 (m:iM):Bool:=!(bif (m.PA != (-1)) then (!ig m.PA 0 29999 || !ig m.n 0 999) else !ig m.n 0 999)
def tu (o:gP):Bool:=o.gZ.all (fun y=>ig y (-1) 9)&&(o.Po.all (fun y=>ig y 0 999)&&(o.Pk.all x8&&(((o.gZ.length:Int)==2)&&(((o.Po.length:Int)==(bif o.Pf==2 then o.gE else 0))&&decide ((o.Pk.length:Int)≤(bif o.Pf==3 then 2 else 0))))))
theorem JC {N:Nat} (hN:gT≤N) {o:gP} (ho:hY o<gT):ss N o=some (tu o):=by
  obtain ⟨h1,h2,h3⟩:=AK ho;unfold ss tu;rw [jT o.gZ (fun _ y=>ig y (-1) 9) (.inl (o.gZ.length:Int)) (.inr false) (Nat.lt_of_lt_of_le h1 hN),kh,PB]
  · cases o.gZ.all fun y=>ig y (-1) 9
    · rfl
    simp only [if_true,Sum.elim_inl,PF];rw [jT o.Po (fun _ y=>ig y 0 999) (.inl (o.Po.length:Int)) (.inr false) (Nat.lt_of_lt_of_le h2 hN),kh,PB]
    · cases o.Po.all fun y=>ig y 0 999
      · rfl
      simp only [if_true,Sum.elim_inl,PF];rw [jT o.Pk (fun _ y=>x8 y) (.inl (o.Pk.length:Int)) (.inr false) (Nat.lt_of_lt_of_le h3 hN),kh,PB]
      · cases o.Pk.all x8
        · rfl
        simp only [if_true,Sum.elim_inl,PF,pD,PB];congr 1;cases ((o.gZ.length:Int)==2)<;>cases ((o.Po.length:Int)==(bif o.Pf==2 then o.gE else 0))<;>simp
      · intro k y hy hk;simp only [iF hk,PD,ik,hy,PB,lQ,pG,j1,pD,iJ (Nat.lt_trans hk h3)];unfold x8;cases (y.PA != (-1))<;>cases ig y.PA 0 29999<;>cases ig y.n 0 999<;>rfl
      · simp only [iG,PC]
    · intro k y hy hk;simp only [iF hk,PD,ik,hy,PB,lQ,iJ (Nat.lt_trans hk h2)];cases ig y 0 999<;>rfl
    · simp only [iG,PC]
  · intro k y hy hk;simp only [iF hk,PD,ik,hy,PB,lQ,iJ (Nat.lt_trans hk h1)];cases ig y (-1) 9<;>rfl
  · simp only [iG,PC]
def blank (g:Int):gP:=gP.mk g 0 0 0 0 0 0 0 0 false [] [] []
def kg (o:gP):Bool:=ig o.Pw 0 999&&(ig o.Pf 0 4&&(bif o.Pf==0 then decide (o=blank o.Pw) else
  ig o.box (-1) 9&&(ig o.Pu 0 4&&(ig o.iz 0 1000000&&(ig o.gE 0 8&&(tu o&&(bif o.Pf != 4 then (o.Pq==0&&(o.iy==0&&o.im==0)) else
    (o.Pq==0 || ig (i64.wrap (o.Pq - 1)) 0 29999)&&(ig o.iy (-1) 999&&ig o.im 0 1000000))))))))
theorem Gl {N:Nat} (hN:gT≤N) {o:gP} (ho:hY o<gT):tI N o=some (kg o):=by
  unfold tI kg;simp only [lQ,vj,wx,pG,JC hN ho,JE hN ho,PB,j1,kI,pD];rw [show gP.mk o.Pw 0 0 0 0 0 0 0 0 false [] [] []=blank o.Pw from rfl];congr 1;simp only [Bool.cond_true_left,Bool.cond_false_left,Bool.cond_true_right,Bool.cond_false_right,Bool.not_or,Bool.not_not,Bool.and_assoc];cases o.Pq==0<;>rfl
def nC (o:gP):Prop:=-9223372036854775808≤o.Pq
theorem KD {n:Int} (h:-9223372036854775808≤n) (h0:n<0):ig (i64.wrap (n - 1)) 0 29999=false:=by
  rcases Decidable.em (n=-9223372036854775808) with e | e
  · subst e;decide
  · rw [jg (by omega) (by omega)];simp [ig];omega
def Bh (o:gP):Bool:=bif o.Pf != 4 then (o.Pq==0&&(o.iy==0&&o.im==0)) else
    (o.Pq==0 || ig (i64.wrap (o.Pq - 1)) 0 29999)&&(ig o.iy (-1) 999&&ig o.im 0 1000000)
theorem Nr {o : gP} (hw : nC o) (hr : ig o.im 0 1000000 = true) : (bif o.Pf != 4 then bif o.Pq != 0 then true else bif o.iy != 0 then true else bif o.im != 0 then true else bif o.Pf == 4 then
      bif decide (o.Pq < 0) then true else bif decide (o.Pq > 0) then !ig (i64.wrap (o.Pq - 1)) 0 29999 || !ig o.iy (-1) 999 else !ig o.iy (-1) 999 else false
    else bif o.Pf == 4 then bif decide (o.Pq < 0) then true else bif decide (o.Pq > 0) then !ig (i64.wrap (o.Pq - 1)) 0 29999 || !ig o.iy (-1) 999 else !ig o.iy (-1) 999 else false) = !Bh o := by
  unfold Bh;simp only [bne, hr];cases o.Pf == 4
  · simp only [Bool.not_false, PD, PC];cases o.Pq == 0<;>cases o.iy == 0<;>cases o.im == 0<;>rfl
  · simp only [PE, PD, PC]
    rcases Int.lt_trichotomy o.Pq 0 with h | h | h
    · have e1 : decide (o.Pq < 0) = true := by simpa using h
      have e2 : (o.Pq == 0) = false := by simp; omega
      rw [e1, e2, KD hw h]; rfl
    · simp only [h];cases ig o.iy (-1) 999<;>rfl
    · have e1 : decide (o.Pq < 0) = false := by simp; omega
      have e2 : (o.Pq == 0) = false := by simp; omega
      have e3 : decide (o.Pq > 0) = true := by simpa using h
      rw [e1, e2, e3];cases ig (i64.wrap (o.Pq - 1)) 0 29999<;>cases ig o.iy (-1) 999<;>rfl
theorem MV (o:gP):(bif (o.Po.length:Int) != 0 then bif o.Pf != 2 then true else bif (o.Po.length:Int) != o.gE then true else bif o.Pf==2 then (o.Po.length:Int) != o.gE else false
    else bif o.Pf==2 then (o.Po.length:Int) != o.gE else false)=!((o.Po.length:Int)==(bif o.Pf==2 then o.gE else 0)):=by
  simp only [bne];cases o.Pf==2<;>cases h:((o.Po.length:Int)==0)<;>cases h2:((o.Po.length:Int)==o.gE)<;>simp [h,h2]
theorem Ma (o:gP):(bif decide ((o.Pk.length:Int) > 2) then true else bif decide ((o.Pk.length:Int) > 0) then o.Pf != 3 else false)=!decide ((o.Pk.length:Int)≤(bif o.Pf==3 then 2 else 0)):=by
  simp only [bne];cases o.Pf==3
  · simp only [PC]
    rcases Nat.lt_trichotomy o.Pk.length 0 with h | h | h
    · omega
    · simp [h]
    · rw [decide_eq_true (show (o.Pk.length:Int) > 0 by omega),decide_eq_false (show ¬ ((o.Pk.length:Int)≤0) by omega)];cases decide ((o.Pk.length:Int) > 2)<;>rfl
  · simp only [PD]
    rcases Nat.lt_or_ge 2 o.Pk.length with h | h
    · rw [decide_eq_true (show (o.Pk.length:Int) > 2 by omega),decide_eq_false (show ¬ ((o.Pk.length:Int)≤2) by omega)];rfl
    · rw [decide_eq_false (show ¬ ((o.Pk.length:Int) > 2) by omega),decide_eq_true (show (o.Pk.length:Int)≤2 by omega)];cases decide ((o.Pk.length:Int) > 0)<;>rfl
theorem Gy {N:Nat} (hN:gT≤N) {o:gP} (ho:hY o<gT) (hw:nC o):tD N o=some (kg o):=by
  obtain ⟨h1,h2,h3⟩:=AK ho;unfold tD kg;rw [lv,PB];cases hg:ig o.Pw 0 999
  · rfl
  simp only [PE,PC,PF];cases hk0:o.Pf==0
  · simp only [PC,lv,vT,PB,j1]
    have hk0':o.Pf ≠ 0:=by simpa using hk0
    cases hA:(!ig o.Pf 1 4 || (!ig o.box (-1) 9 || (!ig o.Pu 0 4 || (!ig o.iz 0 1000000 || (!ig o.gE 0 8 || ((o.gZ.length:Int) != 2 || !ig o.im 0 1000000))))))
    · simp only [Bool.or_eq_false_iff,Bool.not_eq_false',bne_eq_false_iff_eq] at hA;obtain ⟨a1,a2,a3,a4,a5,a6,a7⟩:=hA
      have a1':ig o.Pf 0 4=true:=by rw [iW] at a1 ⊢;omega
      have hl2:o.gZ.length=2:=by omega
      simp only [PC,a1',a2,a3,a4,a5,PF];rw [jT o.gZ (fun _ y=>ig y (-1) 9) (.inl (2:Int)) (.inr false) (Nat.lt_of_lt_of_le h1 hN),kh,PB,Au]
      · unfold tu;cases hL:o.gZ.all fun y=>ig y (-1) 9
        · rfl
        have e6:((o.gZ.length:Int)==2)=true:=by simp [a6]
        simp only [if_true,PF,e6];simp only [r9,PB,pD];rw [Nr hw a7,MV o];rw [show (bif o.Pf != 4 then (o.Pq==0&&(o.iy==0&&o.im==0)) else (o.Pq==0 || ig (i64.wrap (o.Pq - 1)) 0 29999)&&(ig o.iy (-1) 999&&ig o.im 0 1000000))=Bh o from rfl];cases Bh o
        · simp
        cases ((o.Po.length:Int)==(bif o.Pf==2 then o.gE else 0))
        · simp
        simp only [PE,PC,Bool.and_true,PF];rw [jT o.Po (fun _ y=>ig y 0 999) (.inl (o.Po.length:Int)) (.inr false) (Nat.lt_of_lt_of_le h2 hN),kh,PB,Au,Ma o]
        · cases o.Po.all fun y=>ig y 0 999
          · rfl
          simp only [if_true,PF];cases decide ((o.Pk.length:Int)≤(bif o.Pf==3 then 2 else 0))
          · simp
          simp only [PE,PC,Bool.and_true];rw [jT o.Pk (fun _ y=>x8 y) (.inl (o.Pk.length:Int)) (.inr false) (Nat.lt_of_lt_of_le h3 hN),kh,PB,Au]
          · cases o.Pk.all x8<;>rfl
          · intro k y hy hk;simp only [iF hk,PD,ik,hy,PB,iJ (Nat.lt_trans hk h3)];unfold x8;cases (y.PA != (-1))<;>cases ig y.PA 0 29999<;>cases ig y.n 0 999<;>rfl
          · simp only [iG,PC]
        · intro k y hy hk;simp only [iF hk,PD,ik,hy,PB,iJ (Nat.lt_trans hk h2)];cases ig y 0 999<;>rfl
        · simp only [iG,PC]
      · intro k y hy hk
        have hd:decide ((k:Int)<2)=true:=by simp;omega
        simp only [hd,PD,ik,hy,PB,lv,iJ (Nat.lt_trans hk h1)];cases ig y (-1) 9<;>rfl
      · simp [hl2]
    · simp only [PD];congr 1
      symm
      rw [Bool.eq_false_iff];intro h;simp only [tu,PG,iW,beq_iff_eq] at h;obtain ⟨b0,b1,b2,b3,b4,⟨_,_,_,b5,_,_⟩,b6⟩:=h
      have q1:ig o.Pf 1 4=true:=by rw [iW];omega
      have q2:ig o.box (-1) 9=true:=by rw [iW];omega
      have q3:ig o.Pu 0 4=true:=by rw [iW];omega
      have q4:ig o.iz 0 1000000=true:=by rw [iW];omega
      have q5:ig o.gE 0 8=true:=by rw [iW];omega
      have q6:((o.gZ.length:Int) != 2)=false:=by simp [b5]
      have q7:ig o.im 0 1000000=true:=by
        cases h4:o.Pf != 4
        · rw [h4] at b6;simp only [PC,PG] at b6;exact b6.2.2
        · rw [h4] at b6;simp only [PD,PG,beq_iff_eq] at b6;rw [b6.2.2];decide
      simp [q1,q2,q3,q4,q5,q6,q7] at hA
  · have hk:o.Pf=0:=by simpa using hk0
    simp only [PD,kI,PB];congr 1;rw [Bool.eq_iff_iff];obtain ⟨_,_,_,_,_,_,_,_,_,_,_,_,_⟩:=o;simp only at hk;subst hk;simp [blank,ig]
end Go.Kx
namespace Go.Kx
open Go
open Go.IntKind (i64)
set_option linter.unusedVariables false
set_option linter.unusedSimpArgs false
set_option maxRecDepth 10000
theorem uR {o:gP} (h:kg o=true):o.gZ.length≤2∧∀ y,y ∈ o.gZ→-1≤y∧y≤9:=by
  unfold kg at h;cases hk:o.Pf==0
  · simp only [hk,PC,PG] at h;obtain ⟨_,_,_,_,_,_,hl,_⟩:=h;unfold tu at hl;simp only [PG,List.all_eq_true,iW,beq_iff_eq] at hl;exact ⟨by omega,hl.1⟩
  · simp only [hk,PD,PG,decide_eq_true_eq] at h;rw [h.2.2];simp [blank]
theorem IB {o:gP} (h:kg o=true) (hk:(o.Pf != 0)=true):ig o.box (-1) 9=true∧ig o.Pu 0 4=true∧ig o.iz 0 1000000=true∧ig o.gE 0 8=true:=by
  unfold kg at h
  have hk:(o.Pf==0)=false:=by simpa [bne] using hk
  simp only [hk,PC,PG] at h;exact ⟨h.2.2.1,h.2.2.2.1,h.2.2.2.2.1,h.2.2.2.2.2.1⟩
def vc (l:List gP) (i:Int):Bool:=(nth l i).Pf==0
def wu (l:List gP) (o:gP):Bool:=o.gZ.all fun y=>!(decide (y ≥ 0)&&vc l y)
def uf (l:List gP) (k:Nat) (o:gP):Bool:=(kg o&&!(decide ((k:Int) > 0)&&(o.Pf != 0&&(decide (o.box ≥ 0)&&vc l o.box))))&&wu l o
def vP (l:List gP):Bool:=((nth l 0).Pf != 1) || (((nth l 0).box != (-1)) || ((nth l 0).iz != 1000000))
def jX (l:List gP):Bool:=!((l.length:Int) != 10)&&(!vP l&&allI (uf l) 0 l)
theorem CB {N:Nat} (hN:gT≤N) {l:List gP} (hl:l.length=10) {o:gP} (ho:o.gZ.length≤2) (hr:∀ y,y ∈ o.gZ→-1≤y∧y≤9) :
    iter (fun (s75:Int)=>(bif (decide (s75<(o.gZ.length:Int))) then ((idx o.gZ s75).bind fun y96=>(bif (decide (y96 ≥ 0)) then ((idx l y96).bind fun y108=>some (y108.Pf==0)) else (some false):Option Bool).bind fun j105=>bif j105 then (some (.inr (.inr false))) else (some (.inl (i64.wrap (s75+1))))) else (some (.inr (.inl s75))):Option (Int⊕(Int⊕Bool)))) N 0=some (if wu l o then .inl (o.gZ.length:Int) else .inr false):=by
  have hB:o.gZ.length<gT:=Nat.lt_of_le_of_lt ho (by decide);rw [jT o.gZ (fun _ y=>!(decide (y ≥ 0)&&vc l y)) (.inl (o.gZ.length:Int)) (.inr false) (Nat.lt_of_lt_of_le hB hN),kh]
  · rfl
  · intro k y hy hk;have hm:=hr y (List.mem_of_getElem? hy);simp only [iF hk,PD,ik,hy,PB,iJ (Nat.lt_trans hk hB)];cases h0:decide (y ≥ 0)
    · rfl
    · have h0:y ≥ 0:=by simpa using h0
      simp only [PD,i9 (l:=l) (i:=y) h0 (by omega),PB,PF];unfold vc;cases (nth l y).Pf==0<;>rfl
  · simp only [iG,PC]
theorem GM {l:List gP} (hl:l.length=10) {o:gP} (ho:kg o=true):(bif (decide (o.box ≥ 0)) then ((idx l o.box).bind fun y58=>some (y58.Pf==0)) else (some false):Option Bool)=some (decide (o.box ≥ 0)&&vc l o.box)∨(o.Pf != 0)=false:=by
  cases hk:o.Pf != 0
  · exact .inr rfl
  · left;obtain ⟨hb,_⟩:=IB ho hk;rw [iW] at hb;cases h0:decide (o.box ≥ 0)
    · rfl
    · have h0:o.box ≥ 0:=by simpa using h0
      simp only [PD,i9 (l:=l) (i:=o.box) h0 (by omega),PB,PF];rfl
theorem u7 {N:Nat} (hN:gT≤N) {l:List gP} (hb:iQ hY l<gT):mH N l=some (jX l):=by
  have hlB:=jj hb;unfold mH jX;cases h10:((l.length:Int) != 10)
  · have hl:l.length=10:=xh (n:=10) h10;rw [i9 (l:=l) (i:=0) (by omega) (by omega)];simp only [PC,PB,j1,Bool.not_false,PF];rw [show ((nth l 0).Pf != 1 || ((nth l 0).box != (-1) || (nth l 0).iz != 1000000))=vP l from rfl];cases vP l
    · simp only [PC,Bool.not_false,PF];rw [jT l (uf l) (.inl (l.length:Int)) (.inr false) (Nat.lt_of_lt_of_le hlB hN)]
      · simp only [PB];cases allI (uf l) 0 l<;>rfl
      · intro k y hy hk;have hm:=List.mem_of_getElem? hy;simp only [iF hk,PD,ik,hy,PB,Gl hN (jh hb hm),iJ (Nat.lt_trans hk hlB)];unfold uf;cases ho:kg y
        · rfl
        · obtain ⟨q1,q2⟩:=uR ho;rw [CB hN hl q1 q2]
          rcases GM hl ho with q | q
          · rw [q];simp only [PE,PC,PF,kI,PB];cases (decide ((k:Int) > 0)&&(y.Pf != 0&&(decide (y.box ≥ 0)&&vc l y.box)))<;>cases wu l y<;>rfl
          · simp only [q,PE,PC,PF,Bool.false_and,Bool.and_false,kI,PB];cases wu l y<;>rfl
      · simp only [iG,PC]
    · rfl
  · rfl
def wA (l:List gP):Prop:=∀ o,o ∈ l→nC o
theorem rF {N:Nat} (hN:gT≤N) {l:List gP} (hb:iQ hY l<gT) (hw:wA l):ly N l=some (jX l):=by
  have hlB:=jj hb;unfold ly jX;cases h10:((l.length:Int) != 10)
  · have hl:l.length=10:=xh (n:=10) h10;rw [i9 (l:=l) (i:=0) (by omega) (by omega)];simp only [PC,PB,j1,Bool.not_false,PF];rw [show ((nth l 0).Pf != 1 || ((nth l 0).box != (-1) || (nth l 0).iz != 1000000))=vP l from rfl];cases vP l
    · simp only [PC,Bool.not_false,PF];rw [jT l (uf l) (.inl (l.length:Int)) (.inr false) (Nat.lt_of_lt_of_le hlB hN)]
      · simp only [PB];cases allI (uf l) 0 l<;>rfl
      · intro k y hy hk;have hm:=List.mem_of_getElem? hy;simp only [iF hk,PD,ik,hy,PB,Gy hN (jh hb hm) (hw y hm),iJ (Nat.lt_trans hk hlB)];unfold uf;cases ho:kg y
        · rfl
        · obtain ⟨q1,q2⟩:=uR ho;rw [CB hN hl q1 q2]
          rcases GM hl ho with q | q
          · rw [q];simp only [PE,PC,PF,kI,PB];cases y.Pf != 0<;>cases decide ((k:Int) > 0)<;>cases (decide (y.box ≥ 0)&&vc l y.box)<;>cases wu l y<;>rfl
          · simp only [q,PE,PC,PF,Bool.false_and,Bool.and_false,kI,PB];cases wu l y<;>rfl
      · simp only [iG,PC]
    · rfl
  · rfl
theorem xy {N:Nat} (hN:gT≤N) {l:List Int} {x:Int} (hb:l.length<gT):ma N l x=some (l.contains x):=by
  unfold ma;rw [jT l (fun _ y=>!(y==x)) (.inl (l.length:Int)) (.inr true) (Nat.lt_of_lt_of_le hb hN),kh]
  · have:(l.all fun y=>!(y==x))=!l.contains x:=by
      induction l with
      | nil=>rfl
      | cons y l ih =>
        have ih:=ih (Nat.lt_trans (Nat.lt_succ_self _) hb);rw [List.all_cons,ih,List.contains_cons,Bool.beq_comm (a:=x)];cases (y==x)<;>rfl
    rw [this,PB];cases l.contains x<;>rfl
  · intro k y hy hk;simp only [iF hk,PD,ik,hy,PB,iJ (Nat.lt_trans hk hb)];cases (y==x)<;>rfl
  · simp only [iG,PC]
def vy (g:List Int) (k:Nat) (y:Int):Bool:=ig y 0 9&&!(g.take k).contains y
def zJ (g:i7):Bool:=((g.Ph==0)&&(g.Pr==0)) || ((g.Ph==1)&&(ig g.Pr 0 9&&((g.gQ.length:Int)==0)))
def kp (h:g7):Bool:=jX h.ag&&(zJ h.gc&&(ig h.gc.Pj 0 1000000&&allI (vy h.gc.gQ) 0 h.gc.gQ))
theorem Gw {α:Type} {l:List α} {k:Nat} (h:l.length<gT):(l.take k).length<gT:=Nat.lt_of_le_of_lt (by simp;omega) h
theorem yl {N:Nat} (hN:gT≤N) {h:g7} (h1:iQ hY h.ag<gT) (h2:h.gc.gQ.length<gT):ou N h=some (kp h):=by
  unfold ou kp;rw [jT h.gc.gQ (vy h.gc.gQ) (.inl (h.gc.gQ.length:Int)) (.inr false) (Nat.lt_of_lt_of_le h2 hN)]
  · simp only [PB,tg,wx,u7 hN h1,kI];cases allI (vy h.gc.gQ) 0 h.gc.gQ
    · simp
    · simp only [if_true,Sum.elim_inl,Bool.and_true];unfold zJ;cases jX h.ag
      · rfl
      cases ((h.gc.Ph==0)&&(h.gc.Pr==0))
      · cases ((h.gc.Ph==1)&&(ig h.gc.Pr 0 9&&((h.gc.gQ.length:Int)==0)))<;>rfl
      · rfl
  · intro k y hy hk;simp only [iF hk,PD,ik,hy,PB,tg,yt (Nat.le_of_lt hk),tP hN (Gw h2),iJ (Nat.lt_trans hk h2)];unfold vy;cases ig y 0 9<;>cases (h.gc.gQ.take k).contains y<;>rfl
  · simp only [iG,PC]
theorem LK (n:Nat):decide ((n:Int) > 0)=!((n:Int)==0):=by
  cases n with
  | zero=>rfl
  | succ n=>rw [decide_eq_true (by omega)];simp;omega
theorem yq {N:Nat} (hN:gT≤N) {h:g7} (h1:iQ hY h.ag<gT) (h2:h.gc.gQ.length<gT) (hw:wA h.ag):nZ N h=some (kp h):=by
  unfold nZ kp;rw [jT h.gc.gQ (vy h.gc.gQ) (.inl (h.gc.gQ.length:Int)) (.inr false) (Nat.lt_of_lt_of_le h2 hN)]
  · simp only [PB,qV,lv,rF hN h1 hw,j1,LK];cases jX h.ag
    · rfl
    cases ig h.gc.Pj 0 1000000
    · simp
    unfold zJ
    by_cases q0:h.gc.Ph=0
    · have e0:(h.gc.Ph==0)=true:=by simp [q0]
      have e1:(h.gc.Ph==1)=false:=by simp [q0]
      have e2:ig h.gc.Ph 0 1=true:=by rw [q0];decide
      rw [e0,e1,e2];simp only [bne];cases h.gc.Pr==0
      · rfl
      · cases allI (vy h.gc.gQ) 0 h.gc.gQ<;>rfl
    by_cases q1:h.gc.Ph=1
    · have e0:(h.gc.Ph==0)=false:=by simp [q1]
      have e1:(h.gc.Ph==1)=true:=by simp [q1]
      have e2:ig h.gc.Ph 0 1=true:=by rw [q1];decide
      rw [e0,e1,e2];cases ig h.gc.Pr 0 9
      · rfl
      cases ((h.gc.gQ.length:Int)==0)
      · rfl
      · cases allI (vy h.gc.gQ) 0 h.gc.gQ<;>rfl
    · have e0:(h.gc.Ph==0)=false:=by simp [q0]
      have e1:(h.gc.Ph==1)=false:=by simp [q1]
      have e2:ig h.gc.Ph 0 1=false:=by
        rw [Bool.eq_false_iff,Ne,iW];omega
      rw [e0,e1,e2];rfl
  · intro k y hy hk;simp only [iF hk,PD,ik,hy,PB,qV,yt (Nat.le_of_lt hk),xy hN (Gw h2),iJ (Nat.lt_trans hk h2)];unfold vy;cases ig y 0 9<;>cases (h.gc.gQ.take k).contains y<;>rfl
  · simp only [iG,PC]
def kK (t:iB):Bool:=(ig t.Pu 0 4&&(ig t.jy 0 2&&(ig t.kJ 0 4&&ig t.jR 0 2)))&&(((t.Pf==1)&&ig t.ka 0 1000) || ((t.Pf==2)&&ig t.ka 0 100))
theorem zz (N:Nat) (t:iB):pz N t=some (kK t):=by
  unfold pz kK;simp only [vj,yg,lQ,PB,j1,kI]
  by_cases q:t.Pf=1
  · have e1:(t.Pf==1)=true:=by simp [q]
    have e2:(t.Pf==2)=false:=by simp [q]
    rw [e1,e2];cases ig t.Pu 0 4<;>cases ig t.kJ 0 4<;>cases ig t.jy 0 2<;>cases ig t.jR 0 2<;>cases ig t.ka 0 1000<;>rfl
  · have e1:(t.Pf==1)=false:=by simp [q]
    rw [e1];cases ig t.Pu 0 4<;>cases ig t.kJ 0 4<;>cases ig t.jy 0 2<;>cases ig t.jR 0 2<;>cases (t.Pf==2)<;>cases ig t.ka 0 100<;>rfl
theorem zw (N:Nat) (t:iB):pE N t=some (kK t):=by
  unfold pE kK;simp only [vT,lv,PB,j1,kI]
  by_cases q:t.Pf=1
  · have e1:(t.Pf==1)=true:=by simp [q]
    have e2:(t.Pf==2)=false:=by simp [q]
    rw [e1,e2];cases ig t.Pu 0 4<;>cases ig t.jy 0 2<;>cases ig t.kJ 0 4<;>cases ig t.jR 0 2<;>cases ig t.ka 0 1000<;>rfl
  · have e1:(t.Pf==1)=false:=by simp [q]
    rw [e1];cases ig t.Pu 0 4<;>cases ig t.jy 0 2<;>cases ig t.kJ 0 4<;>cases ig t.jR 0 2<;>cases (t.Pf==2)<;>cases ig t.ka 0 100<;>rfl
def AA (p:bh):Bool:=ig p.Pn 0 9&&(ig p.Pp 0 10&&(iN p.cd&&(ig p.g5 0 1000000&&ig p.Pm 0 1000000)))
def jk (p:bh):Bool:=j3 p.Pe&&(lP p.own&&(jG p.Pg&&(kp p.py&&(!decide ((p.gR.length:Int) > 3)&&(p.gR.all kK&&AA p)))))
theorem ti {N:Nat} (hN:gT≤N) {p:bh} (h:ic p<gT):lU N p=some (jk p):=by
  obtain ⟨h1,h2,h3,h4,h5,h6⟩:=jY h;unfold lU jk;rw [jT p.gR (fun _ t=>kK t) (.inl (p.gR.length:Int)) (.inr false) (Nat.lt_of_lt_of_le h6 hN),kh]
  · simp only [PB,uW hN h1,zs hN h2,qQ hN,yl hN h4 h5,tg,lQ,qz,wx,j1,kI];rw [show (ig p.Pn 0 9&&(ig p.Pp 0 10&&(iN p.cd&&(ig p.g5 0 1000000&&ig p.Pm 0 1000000))))=AA p from rfl];cases p.gR.all kK
    · simp
    · simp only [if_true,Sum.elim_inl,PF];cases j3 p.Pe<;>cases lP p.own<;>cases jG p.Pg<;>cases kp p.py<;>cases decide ((p.gR.length:Int) > 3)<;>rfl
  · intro k y hy hk;simp only [iF hk,PD,ik,hy,PB,zz,iJ (Nat.lt_trans hk h6)];cases kK y<;>rfl
  · simp only [iG,PC]
def wP (p:bh):Prop:=wA p.py.ag
theorem te {N:Nat} (hN:gT≤N) {p:bh} (h:ic p<gT) (hw:wP p):lW N p=some (jk p):=by
  obtain ⟨h1,h2,h3,h4,h5,h6⟩:=jY h;unfold lW jk;rw [jT p.gR (fun _ t=>kK t) (.inl (p.gR.length:Int)) (.inr false) (Nat.lt_of_lt_of_le h6 hN),kh]
  · simp only [PB,uX hN h1,zG hN h2,wk hN,yq hN h4 h5 hw,qV,lv,qt,j1,kI];unfold AA;cases j3 p.Pe
    · rfl
    cases lP p.own
    · rfl
    cases jG p.Pg
    · rfl
    cases kp p.py
    · rfl
    cases decide ((p.gR.length:Int) > 3)
    · simp only [PE,Bool.not_false,Bool.false_or,PF];cases ig p.Pn 0 9<;>cases ig p.Pp 0 10<;>cases iN p.cd<;>cases ig p.g5 0 1000000<;>cases ig p.Pm 0 1000000<;>cases p.gR.all kK<;>rfl
    · rfl
  · intro k y hy hk;simp only [iF hk,PD,ik,hy,PB,zw,iJ (Nat.lt_trans hk h6)];cases kK y<;>rfl
  · simp only [iG,PC]
end Go.Kx
