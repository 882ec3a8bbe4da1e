import Derived.Test.YtdlodpchnaojhaaGreatHa
namespace Go.Kx
open Go
open Go.IntKind (i64)
set_option linter.unusedVariables false
set_option linter.unusedSimpArgs false
set_option maxRecDepth 10000
theorem kp (p q:Bool):(bif p then some q else some false)=some (p&&q):=by cases p<;>rfl
theorem jR (p q:Bool):(bif p then some true else some q)=some (p || q):=by cases p<;>rfl
def ia (a b c:Int):Bool:=decide (b≤a)&&decide (a≤c)
theorem iR {a b c:Int}:ia a b c=true ↔ b≤a∧a≤c:=by simp [ia]
theorem k5 (N:Nat) (a b c:Int):iD N a b c=some (ia a b c):=kp _ _
theorem lv (N:Nat) (a b c:Int):iJ N a b c=some (ia a b c):=kp _ _
def wU (n:Int):Bool:=ia n 0 1000000
theorem M8 (N:Nat) (a:Int):qM N a=some (wU a):=by unfold qM;rw [k5];rfl
theorem AU (N:Nat) (a:Int):mD N a=some (wU a):=by unfold mD;rw [lv];rfl
def iH (a:hJ):Bool:=wU a.gE&&(wU a.gT&&wU a.g8)
theorem qt (N:Nat) (a:hJ):kb N a=some (iH a):=by unfold kb;simp only [M8,Ok,kp];rfl
theorem qe (N:Nat) (a:hJ):ka N a=some (iH a):=by unfold ka;simp only [AU,Ok,kp];rfl
def iO (a b:hJ):hJ:=hJ.mk (i64.wrap (a.gE+b.gE)) (i64.wrap (a.gT+b.gT)) (i64.wrap (a.g8+b.g8))
def kf (a b:hJ):hJ×Bool:=if iH a&&iH b&&iH (iO a b) then (iO a b,true) else (a,false)
theorem vJ (N:Nat) (a b:hJ):mh N a b=some (kf a b):=by
  unfold mh kf;simp only [qt,Ok,jR]
  show (bif (!iH a || !iH b) then some (a,false) else (bif !iH (iO a b) then some (a,false) else some (iO a b,true)))=_
  cases iH a<;>cases iH b<;>cases iH (iO a b)<;>rfl
theorem sN (N:Nat) (a b:hJ):lB N a b=some (iO a b):=rfl
theorem DL (N:Nat) (a b:hJ):rJ N a b=some (kf a b):=by
  unfold rJ kf;simp only [qe,sN,Ok,jR];cases iH a<;>cases iH b<;>cases iH (iO a b)<;>rfl
def jL (l:iI):Bool:=((l.NY.length:Int)==4)&&l.NY.all fun y=>ia y 0 3
theorem oz {l:iI}:jL l=true ↔ l.NY.length=4∧∀ y,y ∈ l.NY→0≤y∧y≤3:=by
  simp only [jL,Oq,List.all_eq_true,iR,beq_iff_eq];constructor
  · rintro ⟨h1,h2⟩;exact ⟨by omega,h2⟩
  · rintro ⟨h1,h2⟩;exact ⟨by omega,h2⟩
theorem qA {N:Nat} (hN:gS≤N) {l:iI} (hb:l.NY.length<gS):k9 N l=some (jL l):=by
  unfold k9 jL;rw [jH l.NY (fun _ y=>ia y 0 3) (.inl (l.NY.length:Int)) (.inr false) (Nat.lt_of_lt_of_le hb hN),j3]
  · cases h:((l.NY.length:Int)==4)
    · have:((l.NY.length:Int) != 4)=true:=by simp [bne,h]
      simp [this]
    · have:((l.NY.length:Int) != 4)=false:=by simp [bne,h]
      simp only [this,Ol,Ok,Oo];cases l.NY.all fun y=>ia y 0 3<;>rfl
  · intro k y hy hk;simp only [iE hk,Om,ij,hy,Ok,k5,iK (Nat.lt_trans hk hb)];cases ia y 0 3<;>rfl
  · simp only [iF,Ol]
theorem ur {N:Nat} (hN:gS≤N) {l:iI} (hb:l.NY.length<gS):ml N l=some (jL l):=by
  unfold ml jL;rw [jH l.NY (fun _ y=>ia y 0 3) (.inl (l.NY.length:Int)) (.inr false) (Nat.lt_of_lt_of_le hb hN),j3]
  · simp only [Ok];cases l.NY.all fun y=>ia y 0 3<;>simp
  · intro k y hy hk;simp only [iE hk,Om,ij,hy,Ok,lv,iK (Nat.lt_trans hk hb)];cases ia y 0 3<;>rfl
  · simp only [iF,Ol]
def vk (l:List Int) (k:Nat) (y:Int):Bool:=ia y 0 3&&match k with
  | 0=>true
  | j+1=>!decide (y≤(l[j]?).getD 0)
def lp (l:List Int):Bool:=allI (vk l) 0 l
theorem FN {l:List Int} {k:Nat} {y:Int} (hy:l[k]?=some y) (hk:k<l.length) (hb:l.length<gS) {N:Nat} :
    (bif (!(ia y 0 3)) then (some true) else (bif (decide ((k:Int) > 0)) then ((idx l (i64.wrap ((k:Int) - 1))).bind fun y18=>some (decide (y≤y18))) else (some false)):Option Bool)=some (!vk l k y):=by
  have hB:l.length<16777216:=hb;unfold vk
  cases k with
  | zero =>
    have:decide (((0:Nat):Int) > 0)=false:=by decide
    simp only [this,Ol];cases ia y 0 3<;>rfl
  | succ j =>
    have:decide (((j+1:Nat):Int) > 0)=true:=by simp
    have e:i64.wrap (((j+1:Nat):Int) - 1)=(j:Int):=by rw [iY (by omega) (by omega)];omega
    have hz:l[j]?=some (l[j]'(by omega)):=List.getElem?_eq_getElem _;simp only [this,Om,e,ij,hz,Ok,Option.getD_some];cases ia y 0 3<;>simp
theorem yQ {N:Nat} (hN:gS≤N) {l:List Int} (hb:l.length<gS):pf N l=some (lp l):=by
  unfold pf lp;rw [jH l (vk l) (.inl (l.length:Int)) (.inr false) (Nat.lt_of_lt_of_le hb hN)]
  · simp only [Ok];cases allI (vk l) 0 l<;>rfl
  · intro k y hy hk;simp only [iE hk,Om,ij,hy,Ok,k5,iK (Nat.lt_trans hk hb)];rw [FN hy hk hb (N:=N)];cases vk l k y<;>rfl
  · simp only [iF,Ol]
theorem yP {N:Nat} (hN:gS≤N) {l:List Int} (hb:l.length<gS):ph N l=some (lp l):=by
  unfold ph lp;rw [jH l (vk l) (.inl (l.length:Int)) (.inr false) (Nat.lt_of_lt_of_le hb hN)]
  · simp only [Ok];cases allI (vk l) 0 l<;>rfl
  · intro k y hy hk;simp only [iE hk,Om,ij,hy,Ok,lv,iK (Nat.lt_trans hk hb),ge_iff_le];rw [FN hy hk hb (N:=N)];cases vk l k y<;>rfl
  · simp only [iF,Ol]
theorem Ku {N:Nat} (hN:gS≤N) {l:List Int} {x:Int} (hb:l.length<gS):∃ r,pJ N l x=some r∧decide (r ≥ 0)=l.contains x:=by
  unfold pJ;have hB:l.length<16777216:=hb;rw [show (0:Int)=(fun (k:Nat) (_:Unit)=>(k:Int)) 0 () from rfl,lD l (fun k (_:Unit)=>(k:Int)) (fun k _ y=>if x==y then .inr (.inr (k:Int)) else .inl ()) (fun _=>.inl (l.length:Int)) (fun _ _=>True) ?_ ?_ (Nat.lt_of_lt_of_le hb hN) trivial]
  · simp only [Ok]
    have key:∀ (m:List Int) (k:Nat), ∃ r,Sum.elim (fun _=>some (-1)) (fun r16=>some r16) (kR (ρ:=Int⊕Int) (fun (k:Nat) (_:Unit) y=>if x==y then .inr (.inr (k:Int)) else .inl ()) (fun _=>.inl (l.length:Int)) k () m)=some r∧decide (r ≥ 0)=m.contains x:=by
      intro m
      induction m with
      | nil=>intro k;exact ⟨-1,rfl,rfl⟩
      | cons y m ih =>
        intro k;cases hxy:(x==y)
        · obtain ⟨r,h1,h2⟩:=ih (k+1)
          have hne:x ≠ y:=by simpa using hxy
          refine ⟨r,by simpa [kR,hxy] using h1,by rw [h2];simp [List.contains_cons,hne]⟩
        · have he:x=y:=by simpa using hxy
          exact ⟨k,by simp [kR,hxy],by simp [List.contains_cons,he]⟩
    exact key l 0
  · intro k _ y hy hk _;simp only [iE hk,Om,ij,hy,Ok,iK (Nat.lt_trans hk hb)];cases (x==y)<;>simp
  · intro _ _;simp only [iF,Ol]
theorem tG {N:Nat} (hN:gS≤N) {l:List Int} {x:Int} (hb:l.length<gS):ko N l x=some (l.contains x):=by
  unfold ko;obtain ⟨r,h1,h2⟩:=Ku hN hb (x:=x);rw [h1,Ok,h2]
def oZ (b:List Int):Nat→List Int→List Int
  | _,[]=>[]
  | k,y::l=>if decide (y > (b[k]?).getD 0) then (k:Int)::oZ b (k+1) l else oZ b (k+1) l
theorem Ag (b:List Int):∀ (l:List Int) (k:Nat),(oZ b k l).length≤l.length
  | [],_=>Nat.le_refl _
  | y::l,k=>by
    unfold oZ;have:=Ag b l (k+1);split<;>simp<;>omega
theorem zp (b:List Int):∀ (l:List Int) (k:Nat) (acc:List Int),foldI (fun k (acc:List Int) y=>if decide (y > (b[k]?).getD 0) then acc++[(k:Int)] else acc) k acc l=acc++oZ b k l
  | [],_,acc=>by simp [foldI,oZ]
  | y::l,k,acc=>by
    unfold foldI oZ;rw [zp b l];cases decide (y > (b[k]?).getD 0)<;>simp
theorem KZ {N:Nat} (hN:gS≤N) {a b:iI} (ha:a.NY.length<gS) (hab:a.NY.length≤b.NY.length):uj N a b=some (oZ b.NY 0 a.NY):=by
  unfold uj
  rw [show (([]:List Int),(0:Int))=(fun (k:Nat) (t:List Int)=>(t,(k:Int))) 0 [] from rfl,
    jM a.NY (fun k (t:List Int)=>(t,(k:Int))) (fun k acc y=>if decide (y > (b.NY[k]?).getD 0) then acc++[(k:Int)] else acc) (fun t=>(t,(a.NY.length:Int))) (fun k t=>t.length≤k) ?_ ?_ (Nat.lt_of_lt_of_le ha hN) (by simp),zp]
  · simp
  · intro k t y hy hk hI;have hz:b.NY[k]?=some (b.NY[k]'(by omega)):=List.getElem?_eq_getElem _;simp only [iE hk,Om,ij,hy,hz,Ok,Option.getD_some,iK (Nat.lt_trans hk ha)];cases decide (y > b.NY[k]'(by omega))
    · exact ⟨rfl,by simp;omega⟩
    · have:app t [(k:Int)]=some (t++[(k:Int)]):=by unfold app;rw [if_pos (by simp;omega)]
      simp only [this,Ok,Om,if_true];exact ⟨trivial,by simp;omega⟩
  · intro t _;simp only [iF,Ol]
def oB (own:List Int) (a b:iI):Bool:=lp own&&(jL a&&(jL b&&allI (fun k y=>!decide (y > (b.NY[k]?).getD 0) || own.contains (k:Int)) 0 a.NY))
theorem BW (b:List Int) (q:Int→Bool):∀ (l:List Int) (k:Nat),(oZ b k l).all q=allI (fun k y=>!decide (y > (b[k]?).getD 0) || q (k:Int)) k l
  | [],_=>rfl
  | y::l,k=>by
    unfold oZ allI;rw [← BW b q l (k+1)];cases decide (y > (b[k]?).getD 0)<;>simp
theorem AG {N:Nat} (hN:gS≤N) {own:List Int} {a b:iI} (ho:own.length<gS) (ha:a.NY.length<gS) (hb:b.NY.length<gS):o9 N own a b=some (oB own a b):=by
  unfold o9 oB;simp only [yP hN ho,ur hN ha,ur hN hb,Ok,jR];cases h1:lp own
  · rfl
  cases h2:jL a
  · rfl
  cases h3:jL b
  · rfl
  have l2:=(oz.1 h2).1;have l3:=(oz.1 h3).1;have hl:=Ag b.NY a.NY 0;have hB:(oZ b.NY 0 a.NY).length<gS:=Nat.lt_of_le_of_lt hl ha;simp only [On,Bool.or_self,Ol,KZ hN ha (b:=b) (by omega),Ok,Oo];rw [jH (oZ b.NY 0 a.NY) (fun _ y=>own.contains y) (.inl ((oZ b.NY 0 a.NY).length:Int)) (.inr false) (Nat.lt_of_lt_of_le hB hN),j3,BW]
  · simp only [Ok];cases allI _ 0 a.NY<;>rfl
  · intro k y hy hk;simp only [iE hk,Om,ij,hy,Ok,tG hN ho,iK (Nat.lt_trans hk hB)];cases own.contains y<;>rfl
  · simp only [iF,Ol]
def Am (a b:iI):Bool:=oB [] a b
theorem KR {N:Nat} (hN:gS≤N) {a b:iI} (ha:a.NY.length<gS) (hb:b.NY.length<gS):ug N a b=some (Am a b):=by
  unfold ug Am;rw [AG hN (by decide) ha hb];rfl
theorem Iw {α ρ:Type} {body:Int→Option (Int⊕ρ)} (x:List α) (h4:x.length=4) (p:Nat→α→Bool) (r r':ρ) {N:Nat} (hN:gS≤N)
    (hs:∀ (k:Nat) (y:α),x[k]?=some y→k<4→decide ((k:Int)<4)=true→body (k:Int)=some (if p k y then .inl ((k+1:Nat):Int) else .inr r')) (he:body 4=some (.inr r)):iter body N 0=some (if allI p 0 x then r else r') :=
  jH x p r r' (by have:16777216≤N:=hN;omega) (fun k y hy hk=>hs k y hy (by omega) (by simp;omega)) (by rw [h4];exact he)
theorem KT {N:Nat} (hN:gS≤N) {a b:iI} (ha:a.NY.length<gS) (hb:b.NY.length<gS):uK N a b=some (Am a b):=by
  unfold uK Am oB;simp only [qA hN ha,qA hN hb,Ok,jR];cases h2:jL a
  · simp
  cases h3:jL b
  · simp
  have l2:=(oz.1 h2).1;have l3:=(oz.1 h3).1;simp only [On,Bool.or_self,Ol];rw [Iw a.NY l2 (fun k y=>!decide (y > (b.NY[k]?).getD 0) || ([]:List Int).contains (k:Int)) (.inl 4) (.inr false) hN]
  · simp only [Ok,show lp []=true from rfl,Oo];cases allI _ 0 a.NY<;>rfl
  · intro k y hy hk hd;have hz:b.NY[k]?=some (b.NY[k]'(by omega)):=List.getElem?_eq_getElem _;simp only [hd,Om,ij,hy,hz,Ok,Option.getD_some,iK (show k<gS from Nat.lt_trans hk (by decide))];cases decide (y > b.NY[k]'(by omega))<;>rfl
  · rfl
def tP:hJ→List iC→Bool
  | _,[]=>true
  | a,b::l=>(kf a b.jU).2&&(jL b.NZ&&(lp b.own&&tP (kf a b.jU).1 l))
def mW (l:List iC):Bool:=tP ⟨0,0,0⟩ l&&ia (l.length:Int) 1 3
theorem xk (e:Int) (g:Nat→hJ→iC→hJ⊕((Int×Int×Int×Int)⊕Bool)) (fin:hJ→((Int×Int×Int×Int)⊕Bool)) (k:Option Bool)
    (hg:∀ k t y,g k t y=if (kf t y.jU).2&&(jL y.NZ&&lp y.own) then .inl (kf t y.jU).1 else .inr (.inr false)) (hf:∀ t, ∃ v,fin t=.inl v) :
    ∀ (l:List iC) (j:Nat) (t:hJ),Sum.elim (fun _=>k) (fun r=>some r) (kR g fin j t l)=bif tP t l then k else some false
  | [],j,t=>by obtain ⟨v,hv⟩:=hf t;simp [kR,tP,hv]
  | b::l,j,t=>by
    have ih:=xk e g fin k hg hf l (j+1);simp only [kR,tP,hg];cases (kf t b.jU).2
    · rfl
    cases jL b.NZ
    · rfl
    cases lp b.own
    · rfl
    simpa using ih _
theorem Ai {l:List iC} {y:iC} (hb:iQ iZ l<gS) (hy:y ∈ l):y.NZ.NY.length<gS∧y.own.length<gS:=by
  have:=jm hb hy;unfold iZ jQ at this;omega
theorem Dv {N:Nat} (hN:gS≤N) {l:List iC} (hb:iQ iZ l<gS):rK N l=some (mW l):=by
  have hl:=jz hb;unfold rK mW
  rw [show ((0:Int),(0:Int),(0:Int),(0:Int))=(fun (k:Nat) (t:hJ)=>((k:Int),t.gE,t.gT,t.g8)) 0 ⟨0,0,0⟩ from rfl,
    lD l (fun (k:Nat) (t:hJ)=>((k:Int),t.gE,t.gT,t.g8)) (fun k t y=>if (kf t y.jU).2&&(jL y.NZ&&lp y.own) then .inl (kf t y.jU).1 else .inr (.inr false)) (fun t=>.inl ((l.length:Int),t.gE,t.gT,t.g8)) (fun _ _=>True) ?_ ?_ (Nat.lt_of_lt_of_le hl hN) trivial]
  · simp only [Ok,lv];rw [xk 0 _ _ _ (fun _ _ _=>rfl) (fun t=>⟨_,rfl⟩),kp]
  · intro k t y hy hk _;obtain ⟨b1,b2⟩:=Ai hb (List.mem_of_getElem? hy);refine ⟨?_,fun _ _=>trivial⟩;simp only [iE hk,Om,ij,hy,Ok,DL,ur hN b1,yP hN b2,jR,iK (Nat.lt_trans hk hl)];cases (kf t y.jU).2
    · rfl
    cases jL y.NZ
    · rfl
    cases lp y.own<;>rfl
  · intro t _;simp only [iF,Ol]
theorem DJ {N:Nat} (hN:gS≤N) {l:List iC} (hb:iQ iZ l<gS):rn N l=some (mW l):=by
  have hl:=jz hb;have hN':16777216≤N:=hN;have hlB:l.length<16777216:=hl;unfold rn mW
  rw [show ((0:Int),(0:Int),(0:Int),(0:Int))=(fun (k:Nat) (t:hJ)=>((k:Int),t.gE,t.gT,t.g8)) 0 ⟨0,0,0⟩ from rfl,
    lD (l.take 3) (fun (k:Nat) (t:hJ)=>((k:Int),t.gE,t.gT,t.g8)) (fun k t y=>if (kf t y.jU).2&&(jL y.NZ&&lp y.own) then .inl (kf t y.jU).1 else .inr (.inr false)) (fun t=>.inl (((l.take 3).length:Int),t.gE,t.gT,t.g8)) (fun _ _=>True) ?_ ?_ (by simp;omega) trivial]
  · simp only [Ok,k5];rw [xk 0 _ _ _ (fun _ _ _=>rfl) (fun t=>⟨_,rfl⟩),kp]
    rcases Nat.lt_or_ge 3 l.length with h | h
    · have:ia (l.length:Int) 1 3=false:=by simp [ia];omega
      simp [this]
    · rw [List.take_of_length_le h]
  · intro k t y hy hk _
    have hk2:k<3∧k<l.length:=by simp at hk;omega
    rw [List.getElem?_take_of_lt hk2.1] at hy;obtain ⟨b1,b2⟩:=Ai hb (List.mem_of_getElem? hy);refine ⟨?_,fun _ _=>trivial⟩
    have h3:decide ((k:Int)<3)=true:=by simp;omega
    simp only [iE hk2.2,h3,Om,ij,hy,Ok,vJ,qA hN b1,yQ hN b2,jR,iK (show k<gS from Nat.lt_trans hk2.1 (by decide))];cases h1:(kf t y.jU).2
    · cases jL y.NZ<;>cases lp y.own<;>rfl
    cases jL y.NZ
    · rfl
    cases lp y.own<;>rfl
  · intro t _;simp only [List.length_take]
    rcases Nat.lt_or_ge 3 l.length with h | h
    · have e:min 3 l.length=3:=by omega
      have h3:decide (((3:Nat):Int)<(l.length:Int))=true:=by simp;omega
      simp only [e,h3,Om];rfl
    · have e:min 3 l.length=l.length:=by omega
      simp only [e,iF,Ol,Ok]
def seen (bs:List iC) (e:iA) (l:iI):Bool:=e.N0==1 || (ia e.NX 0 ((bs.length:Int) - 1)&&Am ((bs[e.NX.toNat]?).getD hD.zero).NZ l)
theorem FA {bs:List iC} {p:Int} (h:ia p 0 ((bs.length:Int) - 1)=true):idx bs p=some ((bs[p.toNat]?).getD hD.zero)∧(bs[p.toNat]?).getD hD.zero ∈ bs:=by
  rw [iR] at h;have hz:bs[p.toNat]?=some (bs[p.toNat]'(by omega)):=List.getElem?_eq_getElem _;unfold idx;rw [if_pos h.1,hz];exact ⟨rfl,List.getElem_mem _⟩
theorem Lf {N:Nat} (hN:gS≤N) {bs:List iC} {e:iA} {l:iI} (hb:iQ iZ bs<gS) (hl:l.NY.length<gS):vK N bs e l=some (seen bs e l):=by
  have hlB:bs.length<16777216:=jz hb;unfold vK seen;rw [lv,Ok,iY (by omega) (by omega)];cases e.N0==1
  · cases h:ia e.NX 0 ((bs.length:Int) - 1)
    · rfl
    · obtain ⟨h1,h2⟩:=FA h;simp only [Ol,Om,h1,Ok,KR hN (Ai hb h2).1 hl,Bool.false_or,Oo]
  · rfl
theorem Ld {N:Nat} (hN:gS≤N) {bs:List iC} {e:iA} {l:iI} (hb:iQ iZ bs<gS) (hl:l.NY.length<gS):vy N bs e l=some (seen bs e l):=by
  have hlB:bs.length<16777216:=jz hb;unfold vy seen;rw [k5,Ok,iY (by omega) (by omega)];cases e.N0==1
  · cases h:ia e.NX 0 ((bs.length:Int) - 1)
    · rfl
    · obtain ⟨h1,h2⟩:=FA h;simp only [Ol,Om,h1,Ok,KT hN (Ai hb h2).1 hl,Bool.false_or,Oo]
  · rfl
end Go.Kx
namespace Go.Kx
open Go
open Go.IntKind (i64)
set_option linter.unusedVariables false
set_option linter.unusedSimpArgs false
set_option maxRecDepth 10000
def nth {α:Type} [hD α] (l:List α) (i:Int):α:=(l[i.toNat]?).getD hD.zero
theorem iT {α:Type} [hD α] {l:List α} {i:Int} (h0:0≤i) (h1:i<(l.length:Int)):idx l i=some (nth l i):=by
  have hz:l[i.toNat]?=some (l[i.toNat]'(by omega)):=List.getElem?_eq_getElem _;unfold idx nth;rw [if_pos h0,hz];rfl
theorem Ak {α:Type} [hD α] {l:List α} {i a b:Int} (h:ia i a b=true) (ha:0≤a) (hb:b<(l.length:Int)):idx l i=some (nth l i):=by
  rw [iR] at h;exact iT (by omega) (by omega)
theorem CV {α:Type} [hD α] {l:List α} {k:Nat} {y:α} (h:l[k]?=some y):nth l (k:Int)=y:=by simp [nth,h]
theorem kJ {α:Type} [hD α] {l:List α} {i:Int} (h0:0≤i) (h1:i<(l.length:Int)):nth l i ∈ l:=by
  have hz:l[i.toNat]?=some (l[i.toNat]'(by omega)):=List.getElem?_eq_getElem _;unfold nth;rw [hz];exact List.getElem_mem _
theorem wF {α:Type} {l:List α} {n:Nat} (h:((l.length:Int) != (n:Int))=false):l.length=n:=by simp at h;omega
theorem uu (N:Nat) (a:Int):kV N a=some (ia a 0 4):=by unfold kV;rw [lv];rfl
theorem vd (N:Nat) (a:Int):lC N a=some (ia a 0 4):=by unfold lC;rw [k5];rfl
def i9 (t:List g7) (i:Int):Bool:=ia i 0 4&&(nth t i).Of
def up (t:List g7) (i:Int):Int:=(nth t i).Og
def leads (t:List g7):Nat→Int→Bool
  | 0,_=>false
  | n+1,i=>(i==0) || (i9 t i&&leads t n (up t i))
def jv (t:List g7):Nat→Int→Int
  | 0,a=>a
  | n+1,a=>if a > 0 then jv t n (up t a) else a
theorem rk (N:Nat) {t:List g7} (h:t.length=5) (i:Int):ll N t i=some (i9 t i):=by
  unfold ll i9;rw [uu,Ok];cases hi:ia i 0 4
  · rfl
  · simp only [Om,Ak hi (by omega) (show (4:Int)<(t.length:Int) by omega),Ok,Oo]
theorem M0 {k:Nat} (h:k<(List.replicate 5 ()).length):k<5∧decide ((k:Int)<5)=true:=by
  have h:k<5:=by simpa using h
  exact ⟨h,by simp;omega⟩
theorem Ml {k n:Nat} {N:Nat} (hN:gS≤N) (hn:n<16777216):(List.replicate n ()).length<N:=by
  have:16777216≤N:=hN;simp;omega
theorem H6 {N:Nat} (hN:gS≤N) {t:List g7} (h:t.length=5) (i:Int):sy N t i=some (leads t 5 i):=by
  unfold sy
  rw [show ((i,0):Int×Int)=(fun (k:Nat) (a:Int)=>(a,(k:Int))) 0 i from rfl,
    lD (List.replicate 5 ()) (fun (k:Nat) (a:Int)=>(a,(k:Int))) (fun _ a _=>if a==0 then .inr (.inr true) else if i9 t a then .inl (up t a) else .inr (.inr false)) (fun a=>.inl (a,5)) (fun _ _=>True) ?_ ?_ (Ml (k:=0) hN (by decide)) trivial]
  · have key:∀ (n k:Nat) (a:Int),Sum.elim (fun _=>some false) (fun r20=>some r20) (kR (ρ:=(Int×Int)⊕Bool) (fun (_:Nat) a (_:Unit)=>if a==0 then .inr (.inr true) else if i9 t a then .inl (up t a) else .inr (.inr false)) (fun a=>.inl (a,5)) k a (List.replicate n ()))=some (leads t n a):=by
      intro n
      induction n with
      | zero=>intro k a;rfl
      | succ n ih =>
        intro k a;rw [List.replicate_succ];unfold kR leads;cases h0:(a==0)
        · cases h1:i9 t a
          · rfl
          · simpa using ih (k+1) (up t a)
        · rfl
    exact key 5 0 i
  · intro k a y hy hk _;obtain ⟨h5,hd⟩:=M0 hk;refine ⟨?_,fun _ _=>trivial⟩;simp only [hd,Om,rk N h,Ok];cases h0:(a==0)
    · cases h1:i9 t a
      · rfl
      · have hin:ia a 0 4=true:=by unfold i9 at h1;simp at h1;exact h1.1
        simp only [Ak hin (by omega) (show (4:Int)<(t.length:Int) by omega),iK (show k<gS from Nat.lt_trans h5 (by decide)),Ok];rfl
    · rfl
  · intro a _;rfl
def qD:g7:=g7.mk false 0 (hJ.mk 0 0 0)
def nD (t:List g7) (k:Nat) (r:g7):Bool:=if r.Of then iH r.iG&&leads t 5 (k:Int) else decide (r=qD)
def jh (s:hJ) (t:List g7):hJ:=t.foldl (fun s r=>if r.Of then iO s r.iG else s) s
def jy (t:List g7):Bool:=!((t.length:Int) != 5)&&((nth t 0).Of&&(!((nth t 0).Og != (-1))&&(allI (nD t) 0 t&&iH (jh ⟨0,0,0⟩ t))))
theorem ri {N:Nat} (hN:gS≤N) {t:List g7}:lu N t=some (jy t):=by
  unfold lu jy;cases h5:((t.length:Int) != 5)
  · have hl:t.length=5:=wF (n:=5) h5
    have hB:t.length<gS:=by rw [hl];decide
    rw [iT (l:=t) (i:=0) (by omega) (by omega)];simp only [Ol,Ok,jR,Bool.not_false,Oo];cases h1:(nth t 0).Of
    · rfl
    cases h2:((nth t 0).Og != (-1))
    · simp only [On,Bool.or_self,Ol,Oo,Bool.not_false]
      rw [show ((0:Int),(0:Int),(0:Int),(0:Int))=(fun (k:Nat) (s:hJ)=>((k:Int),s.gE,s.gT,s.g8)) 0 ⟨0,0,0⟩ from rfl,
        lD t (fun (k:Nat) (s:hJ)=>((k:Int),s.gE,s.gT,s.g8)) (fun k s r=>if nD t k r then .inl (if r.Of then iO s r.iG else s) else .inr (.inr false)) (fun s=>.inl ((t.length:Int),s.gE,s.gT,s.g8)) (fun _ _=>True) ?_ ?_ (Nat.lt_of_lt_of_le hB hN) trivial]
      · simp only [Ok,qe]
        have key:∀ (l:List g7) (k:Nat) (s:hJ),Sum.elim (fun (o48:Int×Int×Int×Int)=>some (iH (hJ.mk o48.2.1 o48.2.2.1 o48.2.2.2))) (fun r53=>some r53) (kR (fun k s r=>if nD t k r then .inl (if r.Of then iO s r.iG else s) else .inr (.inr false)) (fun s=>.inl ((t.length:Int),s.gE,s.gT,s.g8)) k s l)=some (allI (nD t) k l&&iH (jh s l)):=by
          intro l
          induction l with
          | nil=>intro k s;rfl
          | cons r l ih =>
            intro k s;unfold kR allI;cases hp:nD t k r
            · rfl
            · simpa [jh] using ih (k+1) (if r.Of then iO s r.iG else s)
        exact key t 0 _
      · intro k s r hy hk _;refine ⟨?_,fun _ _=>trivial⟩;simp only [iE hk,Om,ij,hy,Ok,qe,H6 hN hl,sN,jR,iK (Nat.lt_trans hk hB)];unfold nD;cases hlv:r.Of
        · show (bif !decide (r=qD) then _ else _)=_
          cases decide (r=qD)<;>rfl
        · cases iH r.iG<;>cases leads t 5 (k:Int)<;>rfl
      · intro s _;simp only [iF,Ol]
    · rfl
  · rfl
def p1 (t:List g7) (k:Nat) (r:g7):Bool:=!((!r.Of&&!decide (r=qD)) || !iH r.iG)&&!(decide ((k:Int) > 0)&&(r.Of&&(!ia r.Og 0 4 || (r.Og==(k:Int) || !(nth t r.Og).Of))))
def p2 (t:List g7) (k:Nat) (r:g7):Bool:=!(r.Of&&(jv t 5 (k:Int) != 0))
def Good (t:List g7):Prop:=∀ i:Int,0<i→i≤4→(nth t i).Of=true→0≤up t i∧up t i≤4∧up t i ≠ i∧(nth t (up t i)).Of=true
theorem FW {t:List g7} (hl:t.length=5) (h:allI (p1 t) 0 t=true):Good t:=by
  intro i h0 h4 hlv;rw [lQ] at h
  have hz:t[i.toNat]?=some (nth t i):=by
    have:=iT (l:=t) (i:=i) (by omega) (by omega);unfold idx at this
    rwa [if_pos (by omega)] at this
  have:=h _ _ hz
  have e:((0+i.toNat:Nat):Int)=i:=by omega
  unfold p1 at this;rw [e] at this;unfold up;simp [hlv,ia] at this
  rcases this.2 with q | q
  · omega
  · exact ⟨q.1.1,q.1.2,q.2.1,q.2.2⟩
theorem Bx {t:List g7} (hg:Good t):∀ (n:Nat) (a:Int),0≤a→a≤4→(nth t a).Of=true→0≤jv t n a∧jv t n a≤4∧(nth t (jv t n a)).Of=true
  | 0,a,h0,h4,hlv=>⟨h0,h4,hlv⟩
  | n+1,a,h0,h4,hlv=>by
    unfold jv
    by_cases ha:a > 0
    · rw [if_pos ha];obtain ⟨g1,g2,_,g4⟩:=hg a ha h4 hlv;exact Bx hg n _ g1 g2 g4
    · rw [if_neg ha];exact ⟨h0,h4,hlv⟩
theorem uC (t:List g7):∀ (m n:Nat) (a:Int),jv t (m+n) a=jv t n (jv t m a)
  | 0,n,a=>by simp [jv]
  | m+1,n,a=>by
    rw [show m+1+n=(m+n)+1 by omega]
    show (if a > 0 then jv t (m+n) (up t a) else a)=jv t n (if a > 0 then jv t m (up t a) else a)
    by_cases ha:a > 0
    · rw [if_pos ha,if_pos ha,uC t m n]
    · rw [if_neg ha,if_neg ha];cases n<;>simp [jv,ha]
theorem zW (t:List g7) (n:Nat):jv t n 0=0:=by cases n<;>simp [jv]
theorem wz {t:List g7} (hg:Good t):∀ (n:Nat) (a:Int),0≤a→a≤4→(nth t a).Of=true→leads t (n+1) a=(jv t n a==0)
  | 0,a,h0,h4,hlv=>by simp [leads,jv]
  | n+1,a,h0,h4,hlv=>by
    rw [show leads t (n+1+1) a=((a==0) || (i9 t a&&leads t (n+1) (up t a))) from rfl];unfold jv
    by_cases ha:a=0
    · subst ha;simp
    · have hp:a > 0:=by omega
      obtain ⟨g1,g2,_,g4⟩:=hg a hp h4 hlv;rw [if_pos hp,wz hg n _ g1 g2 g4]
      have:i9 t a=true:=by simp [i9,iR,hlv];omega
      have h0':(a==0)=false:=by simpa using ha
      rw [this,h0'];rfl
theorem Jb {t:List g7} (hg:Good t) {a:Int} (h0:0≤a) (h4:a≤4) (hlv:(nth t a).Of=true) (h:jv t 5 a=0):jv t 4 a=0:=by
  have key:∀ (i j:Nat),i+j≤5→jv t i a=jv t (i+j) a→jv t (5 - j) a=0:=by
    intro i j hij e
    have h1:jv t (5 - j) a=jv t (5 - j - i) (jv t i a):=by rw [← uC];congr 1;omega
    have h2:jv t 5 a=jv t (5 - j - i) (jv t (i+j) a):=by rw [← uC];congr 1;omega
    rw [h1,e, ← h2,h]
  have mono:∀ (i j:Nat),jv t i a=0→jv t (i+j) a=0:=by
    intro i j e;rw [uC,e,zW]
  rcases Decidable.em (jv t 4 a=0) with q | q
  · exact q
  exfalso
  have nz:∀ i,i≤4→jv t i a ≠ 0:=fun i hi e=>q (by have:=mono i (4 - i) e;rwa [show i+(4 - i)=4 by omega] at this)
  have zj:∀ i,i≤4→1≤jv t i a∧jv t i a≤4:=fun i hi=>by
    obtain ⟨r1,r2,_⟩:=Bx hg i a h0 h4 hlv;have:=nz i hi;omega
  have ne:∀ (i j:Nat),0<j→i+j≤4→jv t i a ≠ jv t (i+j) a:=fun i j hj hij e=>nz (5 - j) (by omega) (key i j (by omega) e);have r0:=zj 0 (by omega);have r1:=zj 1 (by omega);have r2:=zj 2 (by omega);have r3:=zj 3 (by omega);have r4:=zj 4 (by omega);have n01:=ne 0 1 (by omega) (by omega);have n02:=ne 0 2 (by omega) (by omega);have n03:=ne 0 3 (by omega) (by omega);have n04:=ne 0 4 (by omega) (by omega);have n12:=ne 1 1 (by omega) (by omega);have n13:=ne 1 2 (by omega) (by omega);have n14:=ne 1 3 (by omega) (by omega);have n23:=ne 2 1 (by omega) (by omega);have n24:=ne 2 2 (by omega) (by omega);have n34:=ne 3 1 (by omega) (by omega);simp only [Nat.zero_add,Nat.reduceAdd] at *;generalize jv t 0 a=c0 at *;generalize jv t 1 a=c1 at *;generalize jv t 2 a=c2 at *;generalize jv t 3 a=c3 at *;generalize jv t 4 a=c4 at *;clear key mono nz zj ne;omega
theorem zt {t:List g7} {a:Int} (ha:a ≠ 0) (hu:up t a=a):∀ n,leads t n a=false
  | 0=>rfl
  | n+1=>by
    unfold leads;rw [hu,zt ha hu n];simp [ha]
theorem Io {t:List g7} (hl:t.length=5) (h0:(nth t 0).Of=true):(allI (p1 t) 0 t&&allI (p2 t) 0 t)=allI (nD t) 0 t:=by
  have hget:∀ (i:Nat) (r:g7),t[i]?=some r→(i:Int)≤4∧nth t (i:Int)=r:=fun i r h=>⟨by have:=ja h;omega,CV h⟩;rw [Bool.eq_iff_iff,Oq];constructor
  · rintro ⟨h1,h2⟩;have hg:=FW hl h1;rw [lQ] at h1 h2 ⊢;intro i r hr;obtain ⟨i4,hn⟩:=hget i r hr;have q1:=h1 i r hr;have q2:=h2 i r hr;simp only [Nat.zero_add] at q1 q2 ⊢;unfold p1 at q1;unfold p2 at q2;unfold nD;cases hlv:r.Of
    · simp [hlv] at q1;simp [q1.1]
    · simp [hlv] at q1 q2
      have hlv':(nth t (i:Int)).Of=true:=by rw [hn];exact hlv
      have:=Jb hg (by omega) i4 hlv' q2;simp only [if_true,Oq];refine ⟨q1.1,?_⟩;rw [wz hg 4 _ (by omega) i4 hlv',this];rfl
  · intro h;rw [lQ] at h
    have hp:∀ (i:Int),0≤i→i≤4→(nth t i).Of=true→iH (nth t i).iG=true∧leads t 5 i=true:=by
      intro i hi hi4 hlv
      have hz:t[i.toNat]?=some (nth t i):=by
        have:=iT (l:=t) (i:=i) (by omega) (by omega);unfold idx at this
        rwa [if_pos (by omega)] at this
      have:=h _ _ hz;unfold nD at this;rw [if_pos hlv] at this
      have e:((0+i.toNat:Nat):Int)=i:=by omega
      rw [e] at this;simpa using this
    have hg:Good t:=by
      intro i hi hi4 hlv;obtain ⟨_,q⟩:=hp i (by omega) hi4 hlv
      have hne:up t i ≠ i:=fun e=>by rw [zt (by omega) e] at q;cases q
      have hi0:(i==0)=false:=by simp;omega
      rw [show leads t 5 i=((i==0) || (i9 t i&&leads t 4 (up t i))) from rfl,hi0] at q;simp only [Bool.false_or,Oq] at q;rw [show leads t 4 (up t i)=((up t i==0) || (i9 t (up t i)&&leads t 3 (up t (up t i)))) from rfl] at q
      rcases Decidable.em (up t i=0) with e | e
      · rw [e];exact ⟨by omega,by omega,by omega,h0⟩
      · have e':(up t i==0)=false:=by simpa using e
        rw [e'] at q;simp only [Bool.false_or,Oq] at q;have:=q.2.1;simp only [i9,Oq,iR] at this;exact ⟨this.1.1,this.1.2,hne,this.2⟩
    rw [lQ,lQ];refine ⟨fun i r hr=>?_,fun i r hr=>?_⟩
    · obtain ⟨i4,hn⟩:=hget i r hr;have q:=h i r hr;simp only [Nat.zero_add] at q ⊢;unfold p1;unfold nD at q;cases hlv:r.Of
      · simp [hlv] at q;subst q;simp;decide
      · simp [hlv] at q;simp [q.1]
        by_cases hi:i=0
        · exact .inl hi
        · have:=hg (i:Int) (by omega) i4 (by rw [hn];exact hlv);unfold up at this;rw [hn] at this;exact .inr ⟨iR.2 ⟨this.1,this.2.1⟩,this.2.2.1,this.2.2.2⟩
    · obtain ⟨i4,hn⟩:=hget i r hr;simp only [Nat.zero_add];unfold p2;cases hlv:r.Of
      · rfl
      · have hlv':(nth t (i:Int)).Of=true:=by rw [hn];exact hlv
        obtain ⟨_,q⟩:=hp (i:Int) (by omega) i4 hlv';rw [wz hg 4 _ (by omega) i4 hlv'] at q
        have q:jv t 4 (i:Int)=0:=by simpa using q
        have:jv t 5 (i:Int)=0:=by rw [show 5=4+1 from rfl,uC,q,zW]
        simp [this]
theorem Bg {N:Nat} (hN:gS≤N) {t:List g7} (hB:t.length<gS):qF N t=some (jh ⟨0,0,0⟩ t):=by
  unfold qF jh
  rw [show ((0:Int),(0:Int),(0:Int),(0:Int))=(fun (k:Nat) (s:hJ)=>((k:Int),s.gE,s.gT,s.g8)) 0 ⟨0,0,0⟩ from rfl,
    jM t (fun (k:Nat) (s:hJ)=>((k:Int),s.gE,s.gT,s.g8)) (fun _ s r=>if r.Of then iO s r.iG else s) (fun s=>((t.length:Int),s.gE,s.gT,s.g8)) (fun _ _=>True) ?_ ?_ (Nat.lt_of_lt_of_le hB hN) trivial,kX]
  · rfl
  · intro k s r hy hk _;refine ⟨?_,trivial⟩;simp only [iE hk,Om,ij,hy,Ok,iK (Nat.lt_trans hk hB)];cases r.Of<;>rfl
  · intro s _;simp only [iF,Ol]
theorem Hu {N:Nat} (hN:gS≤N) {t:List g7} (hl:t.length=5) (hg:Good t) {k:Nat} {r:g7} (hr:t[k]?=some r) :
    ∃ n,iter (fun (s72:Int×Int)=>((bif (decide (s72.2<5)) then ((idx t (k:Int)).bind fun y77=>bif y77.Of then (some (decide (s72.1 > 0))) else (some false)) else (some false):Option Bool).bind fun j74=>bif j74 then ((idx t s72.1).bind fun y89=>some (.inl (y89.Og,i64.wrap (s72.2+1)))) else (some (.inr (s72.1,s72.2))):Option ((Int×Int)⊕(Int×Int)))) N ((k:Int),0)=some (if r.Of then jv t 5 (k:Int) else (k:Int),n):=by
  have hk:=ja hr
  rw [show (((k:Int),0):Int×Int)=(fun (n:Nat) (a:Int)=>(a,(n:Int))) 0 (k:Int) from rfl,
    lD (List.replicate 5 ()) (fun (n:Nat) (a:Int)=>(a,(n:Int))) (fun n a _=>if r.Of&&decide (a > 0) then .inl (up t a) else .inr (a,(n:Int))) (fun a=>(a,5)) (fun _ a=>r.Of=true→0≤a∧a≤4∧(nth t a).Of=true) ?_ ?_ (Ml (k:=0) hN (by decide)) (fun h=>⟨by omega,by omega,by rw [CV hr];exact h⟩)]
  · have key:∀ (n j:Nat) (a:Int),(kR (ρ:=Int×Int) (fun (n:Nat) a (_:Unit)=>if r.Of&&decide (a > 0) then .inl (up t a) else .inr (a,(n:Int))) (fun a=>(a,5)) j a (List.replicate n ())).1=if r.Of then jv t n a else a:=by
      intro n
      induction n with
      | zero=>intro j a;simp [kR,jv]
      | succ n ih =>
        intro j a;rw [List.replicate_succ];unfold kR jv;cases hlv:r.Of
        · rfl
        · have ih:=ih (j+1) (up t a);rw [hlv] at ih
          by_cases ha:a > 0
          · simpa [ha] using ih
          · simp [ha]
    have:=key 5 0 (k:Int);exact ⟨_,congrArg some (Prod.ext this rfl)⟩
  · intro n a y hy hn hI;obtain ⟨h5,hd⟩:=M0 hn;simp only [hd,Om,ij,hr,Ok];cases hlv:r.Of
    · exact ⟨rfl,fun t' h=>by simp at h⟩
    · obtain ⟨i1,i2,i3⟩:=hI hlv
      by_cases ha:a > 0
      · have hd2:decide (a > 0)=true:=by simpa using ha
        simp only [Om,hd2,Ok,iT (l:=t) (i:=a) i1 (by omega),iK (show n<gS from Nat.lt_trans h5 (by decide)),Bool.and_self,if_true];refine ⟨rfl,fun t' h _=>?_⟩;cases h;obtain ⟨g1,g2,_,g4⟩:=hg a ha i2 i3;exact ⟨g1,g2,g4⟩
      · have hd2:decide (a > 0)=false:=by simpa using ha
        simp only [Om,hd2,Ok,Ol];exact ⟨rfl,fun t' h=>by simp at h⟩
  · intro a _;rfl
theorem vR {N:Nat} (hN:gS≤N) {t:List g7}:mY N t=some (jy t):=by
  unfold mY jy;cases h5:((t.length:Int) != 5)
  · have hl:t.length=5:=wF (n:=5) h5
    have hB:t.length<gS:=by rw [hl];decide
    rw [iT (l:=t) (i:=0) (by omega) (by omega)];simp only [Ol,Ok,jR,Bool.not_false,Oo];cases h1:(nth t 0).Of
    · rfl
    cases h2:((nth t 0).Og != (-1))
    · simp only [On,Bool.or_self,Ol,Oo,Bool.not_false];rw [jH t (p1 t) (.inl (t.length:Int)) (.inr false) (Nat.lt_of_lt_of_le hB hN), ← Io hl h1]
      · simp only [Ok];cases hp:allI (p1 t) 0 t
        · rfl
        · have hg:=FW hl hp;simp only [if_true,Sum.elim_inl,Oo];rw [jH t (p2 t) (.inl (t.length:Int)) (.inr false) (Nat.lt_of_lt_of_le hB hN)]
          · simp only [Ok,Bg hN hB,qt];cases allI (p2 t) 0 t<;>rfl
          · intro k r hy hk;obtain ⟨n,hn⟩:=Hu hN hl hg hy;simp only [iE hk,Om];rw [hn];simp only [ij,hy,Ok,iK (Nat.lt_trans hk hB)];unfold p2;cases hlv:r.Of
            · rfl
            · simp only [Om,Ok,if_true,Oo];cases (jv t 5 (k:Int) != 0)<;>rfl
          · simp only [iF,Ol]
      · intro k r hy hk;simp only [iE hk,Om,ij,hy,Ok,qt,vd,jR,iK (Nat.lt_trans hk hB)];unfold p1;rw [show g7.mk false 0 (hJ.mk 0 0 0)=qD from rfl];cases hin:ia r.Og 0 4
        · cases r.Of<;>cases decide (r=qD)<;>cases iH r.iG<;>cases decide ((k:Int) > 0)<;>rfl
        · rw [Ak hin (by omega) (show (4:Int)<(t.length:Int) by omega)];simp only [Ok];cases r.Of<;>cases decide (r=qD)<;>cases iH r.iG<;>cases decide ((k:Int) > 0)<;>cases (r.Og==(k:Int))<;>cases (nth t r.Og).Of<;>rfl
      · simp only [iF,Ol]
    · rfl
  · rfl
end Go.Kx
