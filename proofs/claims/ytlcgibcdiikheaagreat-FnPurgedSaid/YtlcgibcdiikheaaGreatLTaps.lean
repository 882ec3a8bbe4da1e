import Derived.Test.YtlcgibcdiikheaaGreatLCollect
namespace Go.Kx
open Go
open Go.IntKind (i64)
set_option linter.unusedVariables false
set_option linter.unusedSimpArgs false
set_option maxRecDepth 10000
theorem Cz {N:Nat} (hN:gS≤N) {w:List bh} (hl:w.length<gS) {F:bh→Option bh} (hF:∀ y,y ∈ w→F y=some y) :
    iter (fun (s8:Int×(List bh))=>(bif (decide (s8.1<(w.length:Int))) then ((idx w s8.1).bind fun y11=>(F y11).bind fun y41=>(app s8.2 [y41]).bind fun y57=>some (.inl (i64.wrap (s8.1+1),y57))) else (some (.inr (s8.1,s8.2))):Option ((Int×(List bh))⊕(Int×(List bh))))) N (0,[])=some ((w.length:Int),w):=by
  have e:∀ (l:List bh) (k:Nat) (acc:List bh),foldI (fun _ (acc:List bh) y=>acc++[y]) k acc l=acc++l:=by
    intro l
    induction l with
    | nil=>intro k acc;simp [foldI]
    | cons y l ih=>intro k acc;unfold foldI;rw [ih];simp
  rw [show ((0:Int),([]:List bh))=(fun (k:Nat) (t:List bh)=>((k:Int),t)) 0 [] from rfl,
    jQ w (fun (k:Nat) (t:List bh)=>((k:Int),t)) (fun _ acc y=>acc++[y]) (fun t=>((w.length:Int),t)) (fun k t=>t.length≤k) ?_ ?_ (Nat.lt_of_lt_of_le hl hN) (by simp),e]
  · simp
  · intro k t y hy hk ht;refine ⟨?_,by simp;omega⟩;simp only [iX hk,HY,iz,hy,HW,hF y (List.mem_of_getElem? hy),i5 (Nat.lt_trans hk hl),kr ht (Nat.lt_of_le_of_lt hk hl)]
  · intro t _;simp only [iW,HX]
theorem qz {N:Nat} (hN:gS≤N) {w:g6} (hb:iL ib w.parts<gS):k9 N w=some w:=by
  unfold k9;rw [Cz hN (lr hb) fun y hy=>nS hN (jG hb hy)];rfl
theorem CF {N:Nat} (hN:gS≤N) {w:List iA} (hl:w.length<gS) {F:List gW→Option (List gW)} (hF:∀ y,y ∈ w→F y.HT=some y.HT) :
    iter (fun (s4:(List iA)×Int)=>(bif (decide (s4.2<(w.length:Int))) then ((idx w s4.2).bind fun y7=>(F y7.HT).bind fun y22=>(app s4.1 [iA.mk y22]).bind fun y26=>some (.inl (y26,i64.wrap (s4.2+1)))) else (some (.inr (s4.1,s4.2))):Option (((List iA)×Int)⊕((List iA)×Int)))) N ([],0)=some (w,(w.length:Int)):=by
  rw [pJ w (fun _ _=>true) (fun _ y=>y) hl hN]
  · rw [nZ (fun _=>true) w 0];simp
  · intro k t y hy hk ht;simp only [iX hk,HY,iz,hy,HW,hF y (List.mem_of_getElem? hy),i5 (Nat.lt_trans hk hl),kr ht (Nat.lt_of_le_of_lt hk hl),if_true]
  · intro t;simp only [iW,HX]
def nP (ts:List iA):Prop:=ts.length<gS∧∀ t,t ∈ ts→t.HT.length<gS
theorem Di {N:Nat} (hN:gS≤N) {ts:List iA} (h:nP ts):oE N ts=some ts:=by
  unfold oE;rw [CF hN h.1 fun y hy=>mo (h.2 y hy)];rfl
def uu (a:ig) (w:Int):Int:=if w==0 then a.gE else if w==1 then a.gV else if w==2 then a.hY else 0
theorem xk (N:Nat) (a:ig) (w:Int):nh N a w=some (uu a w):=by
  unfold nh uu;cases w==0<;>cases w==1<;>cases w==2<;>rfl
def BP (t:iS) (n:Int):Int:=if t.HA==1 then (if n<t.mV then n else t.mV) else i64.wrap (Int.tdiv (i64.wrap (t.mV * n)) 100)
def ue (t:iS) (a:ig):Int:=if mh t&&iT a then BP t (uu a t.mg) else 0
theorem B8 (N:Nat) (t:iS) (a:ig):oW N t a=some (ue t a):=by
  unfold oW ue BP;simp only [uc,nq,HW,lB,xk];cases mh t
  · rfl
  cases iT a
  · rfl
  cases t.HA==1
  · simp only [HZ,Bool.or_self,HX,Bool.and_self,if_true,Bool.false_eq_true,if_false];rw [Int.mul_comm]
  · simp only [HZ,Bool.or_self,HX,HY,Bool.and_self,if_true];congr 1;split<;>split<;>omega
def qn (ts:List iA):Bool:=ts.all fun t=>jH t.HT
def lk (ts:List iA) (p:Int) (t:iS):Bool :=
  qn ts&&(!decide ((ts.length:Int) > 3)&&(mh t&&(ia p 0 ((ts.length:Int) - 1)&&(!decide (t.j6 ≥ (ts.length:Int))&&jc (nth ts p).HT t.HP))))
def wV (ts:List iA) (p:Int) (t:iS):Int:=ue t (nth (nth ts p).HT t.HP).iB
def oC (ts:List iA) (p:Int) (t:iS):List iA:=ts.set p.toNat (iA.mk (jz (nth ts p).HT t.HP (pQ t.mg (wV ts p t))).1)
def qh (ts:List iA) (p:Int) (t:iS):List gW×Bool:=pf (nth (oC ts p t) t.j6).HT t.oq (pQ t.mg (wV ts p t))
def lq (ts:List iA) (p:Int) (t:iS):List iA×Int :=
  if lk ts p t&&(qh ts p t).2 then ((oC ts p t).set t.j6.toNat (iA.mk (qh ts p t).1),wV ts p t) else (ts,0)
theorem BH {ts:List iA} (h:nP ts) {k:Nat} {t:List gW} (ht:t.length<gS):nP (ts.set k (iA.mk t)):=by
  refine ⟨by rw [List.length_set];exact h.1,fun y hy=>?_⟩
  rcases List.mem_or_eq_of_mem_set hy with h1 | h1
  · exact h.2 y h1
  · subst h1;exact ht
theorem Er {ts:List iA} {p:Int} (h:qn ts=true) (h0:0≤p) (h1:p<(ts.length:Int)):jH (nth ts p).HT=true:=by
  unfold qn at h;rw [List.all_eq_true] at h;exact h _ (kv h0 h1)
theorem vw {ts:List iA} {p:Int} {t:iS} (h:lk ts p t=true):qn ts=true∧mh t=true∧(0≤p∧p<(ts.length:Int))∧(0≤t.j6∧t.j6<(ts.length:Int))∧jc (nth ts p).HT t.HP=true:=by
  unfold lk at h;simp only [H3,Bool.not_eq_true',decide_eq_false_iff_not,iG] at h;obtain ⟨h1,_,h2,h3,h4,h5⟩:=h;have h2':=h2;unfold mh at h2';simp only [H3,iG] at h2';exact ⟨h1,h2,⟨h3.1,by omega⟩,⟨h2'.1.2.1.1,by omega⟩,h5⟩
theorem Bg {ts:List iA} (h:nP ts) {p:Int} (p0:0≤p) (p1:p<(ts.length:Int)) (t:iS):nP (oC ts p t) :=
  BH h (by rw [kC];exact h.2 _ (kv p0 p1))
theorem u7 (ts:List iA) (p:Int) (t:iS):(oC ts p t).length=ts.length:=by unfold oC;rw [List.length_set]
theorem BI {N:Nat} (hN:gS≤N) {ts:List iA} (h:nP ts) (p:Int) (t:iS):oT N ts p t=some (lq ts p t):=by
  have hl:=h.1;have hB:(16777216:Nat)=gS:=rfl
  have hok:rD N ts=some (qn ts&&decide ((ts.length:Int)≤3)):=by
    unfold rD qn;rw [jY ts (fun _ t=>jH t.HT) (.inl (ts.length:Int)) (.inr false) (Nat.lt_of_lt_of_le hl hN),kq]
    · cases ts.all (fun t=>jH t.HT)<;>rfl
    · intro k y hy hk;simp only [iX hk,HY,iz,hy,HW,rj hN,i5 (Nat.lt_trans hk hl)];cases jH y.HT<;>rfl
    · simp only [iW,HX]
  unfold oT;simp only [Di hN h,hok,HW,uc,ke,iC (n:=(ts.length:Int) - 1) (by omega) (by omega)]
  have h2e:decide ((ts.length:Int)≤3)=!decide ((ts.length:Int) > 3):=by
    by_cases hc:(ts.length:Int)≤3<;>simp [hc]
    omega
  rw [h2e];cases h1:qn ts
  · have:lk ts p t=false:=by unfold lk;rw [h1];rfl
    unfold lq;rw [this];rfl
  cases h2:decide ((ts.length:Int) > 3)
  case true =>
    have:lk ts p t=false:=by unfold lk;rw [h1,h2];rfl
    unfold lq;rw [this];rfl
  cases h3:mh t
  · have:lk ts p t=false:=by unfold lk;rw [h1,h2,h3];rfl
    unfold lq;rw [this];rfl
  cases h4:ia p 0 ((ts.length:Int) - 1)
  · have:lk ts p t=false:=by unfold lk;rw [h1,h2,h3,h4];rfl
    unfold lq;rw [this];rfl
  cases h5:decide (t.j6 ≥ (ts.length:Int))
  case true =>
    have:lk ts p t=false:=by unfold lk;rw [h1,h2,h3,h4,h5];rfl
    unfold lq;rw [this];rfl
  rw [iG] at h4
  have p1:p<(ts.length:Int):=by omega
  have ho:=Er (ts:=ts) h1 h4.1 p1;have h5l:=sA ho;simp only [HZ,Bool.not_false,Bool.and_self,HX,je (l:=ts) h4.1 p1,HW,pd hN,ho,H0];cases h6:jc (nth ts p).HT t.HP
  · have:lk ts p t=false:=by unfold lk;rw [h6];simp
    unfold lq;rw [this];rfl
  have hm:lk ts p t=true:=by unfold lk;rw [h1,h2,h3,h5,h6,iG.2 h4];rfl
  obtain ⟨_,_,_,⟨q0,q1⟩,_⟩:=vw hm;obtain ⟨f0,f4⟩:=mj h6
  simp only [HZ,HX,je (l:=(nth ts p).HT) f0 (by omega),HW,B8,yk,px hN (h.2 _ (kv h4.1 p1)),
    show ue t (nth (nth ts p).HT t.HP).iB=wV ts p t from rfl,show ts.set p.toNat (iA.mk (jz (nth ts p).HT t.HP (pQ t.mg (wV ts p t))).1)=oC ts p t from rfl,
    je (l:=oC ts p t) q0 (by rw [u7];exact q1),sK hN ((Bg h h4.1 p1 t).2 _ (kv q0 (by rw [u7];exact q1)))]
  unfold lq;rw [hm]
  show (bif !(qh ts p t).2 then some (ts,0) else some ((oC ts p t).set t.j6.toNat (iA.mk (qh ts p t).1),wV ts p t))=_
  cases (qh ts p t).2<;>rfl
def lens (ts:List iA):List Nat:=ts.map fun t=>t.HT.length
theorem yi {ts:List iA} {k:Nat} {y:iA} {t:List gW} (hy:ts[k]?=some y) (ht:t.length=y.HT.length):lens (ts.set k (iA.mk t))=lens ts:=by
  unfold lens;rw [List.map_set]
  show (ts.map fun t=>t.HT.length).set k t.length=_
  rw [ht];apply pK;rw [List.getElem?_map,hy];rfl
theorem tW (ts:List iA) (p:Int) (t:iS):lens (lq ts p t).1=lens ts:=by
  unfold lq;split
  · rename_i h;rw [H3] at h;obtain ⟨_,_,⟨p0,p1⟩,⟨q0,q1⟩,_⟩:=vw h.1
    show lens ((oC ts p t).set t.j6.toNat (iA.mk (qh ts p t).1))=_
    refine (yi (oB q0 (by rw [u7];exact q1)) (show (qh ts p t).1.length=_ from rH _ _ _)).trans ?_;exact yi (oB p0 p1) (kC _ _ _)
  · rfl
theorem vl {ts us:List iA} (h:nP ts) (e:lens us=lens ts):nP us:=by
  have hl:us.length=ts.length:=by
    have:=congrArg List.length e;unfold lens at this
    rwa [List.length_map,List.length_map] at this
  refine ⟨by rw [hl];exact h.1,fun y hy=>?_⟩;have hm:y.HT.length ∈ lens us:=List.mem_map.2 ⟨y,hy,rfl⟩;rw [e] at hm;obtain ⟨z,hz,hzz⟩:=List.mem_map.1 hm;rw [← hzz];exact h.2 z hz
def sq (ts:List iA) (p:Int) (gR:List iS):List iA:=gR.foldl (fun ts t=>(lq ts p t).1) ts
theorem qp (p:Int):∀ (gR:List iS) (ts:List iA),lens (sq ts p gR)=lens ts
  | [],_=>rfl
  | t::gR,ts=>(qp p gR (lq ts p t).1).trans (tW ts p t)
theorem C0 {N:Nat} (hN:gS≤N) {gR:List iS} (hl:gR.length<gS) {ts:List iA} (h:nP ts) {p:Int} {F:List iA→iS→Option (List iA×Int)} (hF:∀ ts t,nP ts→F ts t=some (lq ts p t)) :
    iter (fun (s94:(List iA)×Int)=>(bif (decide (s94.2<(gR.length:Int))) then ((idx gR s94.2).bind fun y97=>(F s94.1 y97).bind fun y109=>some (.inl (y109.1,i64.wrap (s94.2+1)))) else (some (.inr (s94.1,s94.2))):Option (((List iA)×Int)⊕((List iA)×Int)))) N (ts,0)=some (sq ts p gR,(gR.length:Int)):=by
  rw [show (ts,(0:Int))=(fun (k:Nat) (t:List iA)=>(t,(k:Int))) 0 ts from rfl,
    jQ gR (fun (k:Nat) (t:List iA)=>(t,(k:Int))) (fun _ ts t=>(lq ts p t).1) (fun t=>(t,(gR.length:Int))) (fun _ t=>lens t=lens ts) ?_ ?_ (Nat.lt_of_lt_of_le hl hN) rfl,lK]
  · rfl
  · intro k t y hy hk ht;refine ⟨?_,(tW t p y).trans ht⟩;simp only [iX hk,HY,iz,hy,HW,hF t y (vl h ht),i5 (Nat.lt_trans hk hl)]
  · intro t _;simp only [iW,HX]
def iw (w:g6) (p:Int):g6:=if jy w&&jk w p then g6.mk w.HQ (kZ w.parts (pD (sq (kf w.parts) p (nth w.parts p).gR))) else w
theorem uG {l:List bh} (hb:iL ib l<gS):nP (kf l):=by
  refine ⟨by unfold kf kS;rw [List.length_map,List.length_map];exact lr hb,fun t ht=>?_⟩;unfold kf kS at ht;rw [List.map_map] at ht;obtain ⟨p,hp,rfl⟩:=List.mem_map.1 ht;exact (kc (jG hb hp)).2.2.1
theorem vU {l:List bh} {p:Int} {gR:List iS}:(sq (kf l) p gR).length=l.length:=by
  have:=congrArg List.length (qp p gR (kf l));unfold lens kf kS at this;rw [List.length_map,List.length_map,List.length_map,List.length_map] at this;exact this
theorem BO {N:Nat} (hN:gS≤N) {ts:List iA} {n:Nat} (hn:ts.length=n) (hl:ts.length<gS) {F:List gW→Option (List gW)} (hF:∀ y,y ∈ ts→F y.HT=some y.HT) :
    iter (fun (s114:Int×(List (List gW)))=>(bif (decide (s114.1<(n:Int))) then ((idx ts s114.1).bind fun y117=>(F y117.HT).bind fun y133=>some (.inl (i64.wrap (s114.1+1),s114.2++[y133]))) else (some (.inr (s114.1,s114.2))):Option ((Int×(List (List gW)))⊕(Int×(List (List gW)))))) N (0,[])=some ((n:Int),pD ts):=by
  subst hn
  have e:∀ (l:List iA) (k:Nat) (acc:List (List gW)),foldI (fun _ (acc:List (List gW)) (y:iA)=>acc++[y.HT]) k acc l=acc++pD l:=by
    intro l
    induction l with
    | nil=>intro k acc;simp [foldI,pD]
    | cons y l ih=>intro k acc;unfold foldI;rw [ih];simp [pD]
  rw [show ((0:Int),([]:List (List gW)))=(fun (k:Nat) (t:List (List gW))=>((k:Int),t)) 0 [] from rfl,
    jQ ts (fun (k:Nat) (t:List (List gW))=>((k:Int),t)) (fun _ acc y=>acc++[y.HT]) (fun t=>((ts.length:Int),t)) (fun _ _=>True) ?_ ?_ (Nat.lt_of_lt_of_le hl hN) trivial,e]
  · rfl
  · intro k t y hy hk _;refine ⟨?_,trivial⟩;simp only [iX hk,HY,iz,hy,HW,hF y (List.mem_of_getElem? hy),i5 (Nat.lt_trans hk hl)]
  · intro t _;simp only [iW,HX]
theorem Bh {N:Nat} (hN:gS≤N) {w:g6} (hb:iL ib w.parts<gS) (hW:wW w.parts) (p:Int):nN N w p=some (iw w p):=by
  have hl:=lr hb;have hB:(16777216:Nat)=gS:=rfl;unfold nN iw;simp only [qz hN hb,rN hN hb hW,ke,iC (n:=(w.parts.length:Int) - 1) (by omega) (by omega),HW,lB];cases hw:jy w
  · rfl
  rw [show ia p 0 ((w.parts.length:Int) - 1)=jk w p from rfl];cases hp:jk w p
  · rfl
  obtain ⟨e,hm⟩:=jT hp;have ht:(nth w.parts p).gR.length<gS:=(kc (jG hb hm)).2.2.2.2.2;have hs:=vl (uG hb) (qp p (nth w.parts p).gR (kf w.parts));simp only [HZ,Bool.or_self,HX,Bool.and_self,if_true,decide_eq_true (Nat.lt_of_lt_of_le hl hN),decide_eq_true hl,e,HW];rw [show (gd true).bind=fun (k:Unit→Option g6)=>k () from rfl];simp only [];rw [C0 hN ht (uG hb) (p:=p) (fun ts t h=>BI hN h p t)];simp only [HW,vU,decide_true];rw [show (gd true).bind=fun (k:Unit→Option g6)=>k () from rfl];simp only [];rw [BO hN vU hs.1 fun y hy=>mo (hs.2 y hy)];rfl
end Go.Kx
namespace Go.Kx
open Go
open Go.IntKind (i64)
set_option linter.unusedVariables false
set_option linter.unusedSimpArgs false
set_option maxRecDepth 10000
theorem z7 {l:List cd} (h:wA l) (i:Int):lN (nth l i):=by
  unfold nth
  cases e:l[i.toNat]? with
  | none=>show (-9223372036854775808:Int)≤0;decide
  | some o=>exact h o (List.mem_of_getElem? e)
theorem xZ {p:bh} (h:wP p) (now:Int):wP (kt p now):=by
  unfold kt;split
  · show wA (rC p now)
    unfold rC;split
    · exact jL h (z7 h _)
    · exact h
  · exact h
theorem B0 {p:bh} (h:wP p) (me now:Int):wP (lv p me now):=by
  unfold lv;split
  · intro o ho;obtain ⟨x,hx,rfl⟩:=List.mem_map.1 (show o ∈ p.py.ag.map _ from ho);split
    · show (-9223372036854775808:Int)≤0;decide
    · exact h x hx
  · exact h
theorem Gb {p:bh} (h:wP p) (now:Int):wP (pA p now).1:=by
  unfold pA;split
  · split
    · exact h
    · exact jL h (z7 h (lp p now))
  · exact h
def pH (p:bh) (i now:Int):bh:=(k5 (lv (kt p now) i now) now 3).1
def rn (n:Nat) (p:bh) (i now:Int):bh:=bif Int.tmod now (n:Int)==i then (pA (pH p i now) now).1 else pH p i now
def kD (n:Nat) (k:Nat) (w:g6):g6:=g6.mk (iw w (k:Int)).HQ ((iw w (k:Int)).parts.set k (rn n (nth (iw w (k:Int)).parts (k:Int)) (k:Int) (iw w (k:Int)).HQ))
def tick (w:g6):g6:=if jy w&&!(w.HQ==1000000) then foldI (fun k t (_:bh)=>kD w.parts.length k t) 0 (g6.mk (i64.wrap (w.HQ+1)) w.parts) w.parts else w
theorem wg {p:bh} {b:Nat} (hb:ib p≤b) (h2:b≤2000000) (hw:wP p) (i now:Int):ib (pH p i now)≤b+1200∧wP (pH p i now):=by
  have h1:=Aa p now;have h3:=zP (kt p now) i now;obtain ⟨a,c⟩:=At (p:=lv (kt p now) i now) (by omega) (B0 (xZ hw now) i now) now 3;exact ⟨by show ib (k5 (lv (kt p now) i now) now 3).1≤_;omega,c⟩
theorem uP {n:Nat} {p:bh} {b:Nat} (hb:ib p≤b) (h2:b≤2000000) (hw:wP p) (i now:Int):ib (rn n p i now)≤b+1300∧wP (rn n p i now):=by
  obtain ⟨a,c⟩:=wg hb h2 hw i now;unfold rn;cases Int.tmod now (n:Int)==i
  · exact ⟨by simp only [HX];omega,c⟩
  · have:=E7 (pH p i now) now;exact ⟨by simp only [HY];omega,Gb c now⟩
theorem yz:∀ {l:List bh} {ts:List (List gW)},ts.map List.length=(kS l).map List.length→(kZ l ts).length=l.length∧∀ q,q ∈ kZ l ts→∃ p,p ∈ l∧ib q=ib p∧q.py=p.py
  | [],[],_=>⟨rfl,fun _ h=>absurd h (by simp [kZ])⟩
  | [],_::_,h=>by simp [kS] at h
  | _::_,[],h=>by simp [kS] at h
  | p::l,t::ts,h=>by
    simp only [kS,List.map_cons,List.cons.injEq] at h;obtain ⟨i1,i2⟩:=yz (l:=l) (ts:=ts) h.2;refine ⟨by show (qZ p t::kZ l ts).length=_;simp [i1],fun q hq=>?_⟩
    rcases List.mem_cons.1 (show q ∈ qZ p t::kZ l ts from hq) with rfl | hq
    · exact ⟨p,List.mem_cons_self,by unfold ib qZ;simp only [h.1],rfl⟩
    · obtain ⟨y,hy,e⟩:=i2 q hq;exact ⟨y,List.mem_cons_of_mem _ hy,e⟩
theorem tQ (w:g6) (p:Int):(iw w p).HQ=w.HQ∧(iw w p).parts.length=w.parts.length∧∀ q,q ∈ (iw w p).parts→∃ p,p ∈ w.parts∧ib q=ib p∧q.py=p.py:=by
  unfold iw;split
  · refine ⟨rfl,yz ?_⟩;have h:(sq (kf w.parts) p (nth w.parts p).gR).map (fun t=>t.HT.length)=(kf w.parts).map (fun t=>t.HT.length):=qp p (nth w.parts p).gR (kf w.parts);unfold pD;rw [List.map_map];refine Eq.trans (show _=(sq (kf w.parts) p (nth w.parts p).gR).map (fun t=>t.HT.length) from rfl) (h.trans ?_);unfold kf;rw [List.map_map];rfl
  · exact ⟨rfl,rfl,fun q hq=>⟨q,hq,rfl,rfl⟩⟩
structure qI (n:Nat) (k:Nat) (t:g6):Prop where
  len:t.parts.length=n
  small:n≤3
  sz:∀ p,p ∈ t.parts→ib p≤1048576+1300 * k∧wP p
theorem qI.oF {n k:Nat} {t:g6} (h:qI n k t) (hk:k≤3):iL ib t.parts<gS:=by
  have hB:(16777216:Nat)=gS:=rfl;have h1:mT ib t.parts≤(1048576+1300 * 3) * t.parts.length:=pM fun y hy=>Nat.le_trans (h.sz y hy).1 (by omega);have h2:=h.len;have h3:=h.small;have h4:(1048576+1300 * 3) * t.parts.length≤(1048576+1300 * 3) * 3:=Nat.mul_le_mul_left _ (by omega);unfold iL;omega
theorem qI.w {n k:Nat} {t:g6} (h:qI n k t):wW t.parts:=fun p hp=>(h.sz p hp).2
theorem qI.gR {n k:Nat} {t:g6} (h:qI n k t) (p:Int):qI n k (iw t p):=by
  obtain ⟨_,h2,h3⟩:=tQ t p;refine ⟨h2.trans h.len,h.small,fun q hq=>?_⟩;obtain ⟨y,hy,e1,e2⟩:=h3 q hq;obtain ⟨a,b⟩:=h.sz y hy;exact ⟨by omega,by unfold wP at *;rw [e2];exact b⟩
theorem qI.step {n k:Nat} {t:g6} (h:qI n k t) (hk:k<n):qI n (k+1) (kD n k t):=by
  have hT:=h.gR (k:Int);have hs:=hT.small;refine ⟨by show ((iw t (k:Int)).parts.set k _).length=n;rw [List.length_set];exact hT.len,hT.small,fun q hq=>?_⟩
  rcases List.mem_or_eq_of_mem_set (show q ∈ (iw t (k:Int)).parts.set k _ from hq) with h1 | h1
  · obtain ⟨a,b⟩:=hT.sz q h1;exact ⟨by omega,b⟩
  · subst h1;have hl:=hT.len;obtain ⟨a,b⟩:=hT.sz _ (kv (l:=(iw t (k:Int)).parts) (i:=(k:Int)) (by omega) (by omega));obtain ⟨c,d⟩:=uP (n:=n) a (by omega) b (k:Int) (iw t (k:Int)).HQ;exact ⟨by omega,d⟩
theorem C7 {N:Nat} (hN:gS≤N) {w:g6} {body:Int×Int×List bh→Option ((Int×Int×List bh)⊕(Int×Int×List bh))} (h0:qI w.parts.length 0 (g6.mk (i64.wrap (w.HQ+1)) w.parts))
    (hs:∀ (k:Nat) (t:g6),k<w.parts.length→k<gS→qI w.parts.length k t→body ((k:Int),t.HQ,t.parts)=some (.inl (((k+1:Nat):Int),(kD w.parts.length k t).HQ,(kD w.parts.length k t).parts)))
    (he:∀ t:g6,qI w.parts.length w.parts.length t→body ((w.parts.length:Int),t.HQ,t.parts)=some (.inr ((w.parts.length:Int),t.HQ,t.parts))) :
    iter body N (0,i64.wrap (w.HQ+1),w.parts)=some ((w.parts.length:Int),(foldI (fun k t (_:bh)=>kD w.parts.length k t) 0 (g6.mk (i64.wrap (w.HQ+1)) w.parts) w.parts).HQ,(foldI (fun k t (_:bh)=>kD w.parts.length k t) 0 (g6.mk (i64.wrap (w.HQ+1)) w.parts) w.parts).parts):=by
  have hB:(16777216:Nat)=gS:=rfl;have h3:=h0.small
  exact jQ w.parts (fun (k:Nat) (t:g6)=>((k:Int),t.HQ,t.parts)) (fun k t _=>kD w.parts.length k t) (fun t=>((w.parts.length:Int),t.HQ,t.parts)) (qI w.parts.length)
    (fun k t y _ hk hI=>⟨hs k t hk (by omega) hI,hI.step hk⟩) he (Nat.lt_of_lt_of_le (show w.parts.length<gS by omega) hN) h0
theorem He {n:Int} (h:n ≠ 0):dz n=some ():=by unfold dz;rw [if_neg h]
theorem zZ {w:g6} (h:jy w=true):1≤w.parts.length∧w.parts.length≤3∧0≤w.HQ∧w.HQ≤1000000:=by
  unfold jy at h;simp only [H3,iG] at h;omega
theorem Ei {N:Nat} (hN:gS≤N) {w:g6} (hb:iL ib w.parts<gS) (hW:wW w.parts) (hT0:jy w=true→qI w.parts.length 0 (g6.mk (i64.wrap (w.HQ+1)) w.parts)):rE N w=some (tick w):=by
  have hB:(16777216:Nat)=gS:=rfl;unfold rE tick;simp only [qz hN hb,rN hN hb hW,HW,lB];cases hw:jy w
  · rfl
  obtain ⟨n1,n3,m0,m1⟩:=zZ hw
  have hge:decide (w.HQ ≥ 1000000)=(w.HQ==1000000):=by
    by_cases h:w.HQ=1000000
    · simp [h]
    · rw [decide_eq_false (by omega)];simp [h]
  rw [hge];cases hm:w.HQ==1000000
  case true=>rfl
  simp only [HZ,Bool.not_false,Bool.or_self,HX,Bool.and_self,if_true];rw [C7 hN (hT0 hw)]
  · rfl
  · intro k t hk hkB hI;have hT:=hI.gR (k:Int);have hl:=hT.len;have hl2:=hI.len;obtain ⟨a,b⟩:=hT.sz _ (kv (l:=(iw t (k:Int)).parts) (i:=(k:Int)) (by omega) (by omega));obtain ⟨c,d⟩:=wg a (by omega) b (k:Int) (iw t (k:Int)).HQ;have q1:=Aa (nth (iw t (k:Int)).parts (k:Int)) (iw t (k:Int)).HQ;have q2:=zP (kt (nth (iw t (k:Int)).parts (k:Int)) (iw t (k:Int)).HQ) (k:Int) (iw t (k:Int)).HQ
    simp only [hl2,iX hk,HY,show g6.mk t.HQ t.parts=t from rfl,Bh hN (hI.oF (by omega)) hI.w,HW,je (l:=(iw t (k:Int)).parts) (i:=(k:Int)) (by omega) (by omega),
      AB hN (p:=nth (iw t (k:Int)).parts (k:Int)) (by omega) b]
    have e0:=A2 hN (p:=kt (nth (iw t (k:Int)).parts (k:Int)) (iw t (k:Int)).HQ) (by omega) (xZ b _) (k:Int) (iw t (k:Int)).HQ;have e1:=xx hN (p:=lv (kt (nth (iw t (k:Int)).parts (k:Int)) (iw t (k:Int)).HQ) (k:Int) (iw t (k:Int)).HQ) (by omega) (B0 (xZ b _) _ _) (iw t (k:Int)).HQ 3;have e2:=BQ hN (p:=pH (nth (iw t (k:Int)).parts (k:Int)) (k:Int) (iw t (k:Int)).HQ) (by omega) d (iw t (k:Int)).HQ;unfold pH at e2;refine Eq.trans (congrArg (fun x=>Option.bind x _) e0) ?_;simp only [HW,e1,hl,He (show (w.parts.length:Int) ≠ 0 by omega),e2,i5 hkB];unfold kD rn pH;generalize pA (k5 (lv (kt (nth (iw t (k:Int)).parts (k:Int)) (iw t (k:Int)).HQ) (k:Int) (iw t (k:Int)).HQ) (iw t (k:Int)).HQ 3).1 (iw t (k:Int)).HQ=R;generalize k5 (lv (kt (nth (iw t (k:Int)).parts (k:Int)) (iw t (k:Int)).HQ) (k:Int) (iw t (k:Int)).HQ) (iw t (k:Int)).HQ 3=C;have hid:=je (l:=(iw t (k:Int)).parts) (i:=(k:Int)) (by omega) (by omega);generalize iw t (k:Int)=X at hid ⊢;cases Int.tmod X.HQ (w.parts.length:Int)==(k:Int)
    · simp only [HX,HW,hid,Int.toNat_natCast]
    · simp only [HY,HW,hid,Int.toNat_natCast]
  · intro t ht;simp only [ht.len,iW,HX]
end Go.Kx
namespace Go.Kx
open Go
open Go.IntKind (i64)
set_option linter.unusedVariables false
set_option linter.unusedSimpArgs false
set_option maxRecDepth 10000
theorem Dn {t:List gW} {f:Int} {a:ig} (h:(jz t f a).2=true):jH t=true∧jc t f=true:=by
  unfold jz at h;split at h
  · rename_i q;simpa using q
  · cases h
theorem CX (t:List gW) (f:Int) (a:ig):(jz t f a).1.map gW.HN=t.map gW.HN:=by
  unfold jz;split
  · rename_i q;simp only [H3] at q;obtain ⟨f0,f4⟩:=mj q.2;have hl:=sA q.1;split
    · rw [List.map_set];refine pK ?_;rw [List.getElem?_map,oB f0 (by omega)];rfl
    · rfl
  · rfl
def uq:Nat→List Bool→Option Nat
  | _,[]=>none
  | k,b::l=>if b then uq (k+1) l else some k
theorem z8 {ρ:Type} (g:Nat→ρ) (r:ρ):∀ (l:List gW) (k:Nat),ly (fun k (_:Unit) (y:gW)=>if y.HN then .inl () else .inr (g k)) (fun _=>r) k () l=(match uq k (l.map gW.HN) with | none=>r | some k=>g k)
  | [],k=>rfl
  | y::l,k=>by
    unfold ly;simp only [List.map_cons,uq];cases y.HN
    · rfl
    · exact z8 g r l (k+1)
theorem C4 {ρ:Type} {N:Nat} (hN:gS≤N) {x:List gW} (hx:x.length<gS) (g:Nat→ρ) (r:ρ) {body:Int→Option (Int⊕ρ)}
    (hs:∀ (k:Nat) (y:gW),x[k]?=some y→k<x.length→body (k:Int)=some (if y.HN then .inl ((k+1:Nat):Int) else .inr (g k))) (he:body (x.length:Int)=some (.inr r)) :
    iter body N 0=some (match uq 0 (x.map gW.HN) with | none=>r | some k=>g k):=by
  rw [show (0:Int)=(fun (k:Nat) (_:Unit)=>(k:Int)) 0 () from rfl,
    mP x (fun (k:Nat) (_:Unit)=>(k:Int)) (fun k _ y=>if y.HN then .inl () else .inr (g k)) (fun _=>r) (fun _ _=>True) ?_ ?_ (Nat.lt_of_lt_of_le hx hN) trivial,z8]
  · intro k _ y hy hk _;refine ⟨?_,fun _ _=>trivial⟩
    show body (k:Int)=_
    rw [hs k y hy hk];cases y.HN<;>rfl
  · intro _ _;exact he
def mn (t:List gW) (f:Int) (a:ig):List gW×Int×Bool :=
  if (jz t f a).2 then (match uq 0 (t.map gW.HN) with | none=>(t,0,false) | some k=>((jz t f a).1.set k (gW.mk true f a),(k:Int),true)) else (t,0,false)
theorem xH (t:List gW) (f:Int) (a:ig):(mn t f a).1.length=t.length:=by
  unfold mn;split
  · split
    · rfl
    · simp only [List.length_set,kC]
  · rfl
theorem zA {N:Nat} (hN:gS≤N) {t:List gW} (hB:t.length<gS) (f:Int) (a:ig):mY N t f a=some (mn t f a):=by
  unfold mY mn;simp only [px hN hB,HW];cases h:(jz t f a).2
  · simp only [Bool.not_false,HY,mo hB,HW,Bool.false_eq_true,if_false]
  have hp:=kC t f a;simp only [HZ,HX,if_true];rw [C4 (x:=(jz t f a).1) hN (by omega) (fun k=>Sum.inr ((jz t f a).1.set k (gW.mk true f a),(k:Int),true)) (Sum.inl ((jz t f a).1.length:Int)),CX]
  · simp only [HW];cases uq 0 (t.map gW.HN)
    · simp only [Sum.elim_inl,mo hB,HW]
    · rfl
  · intro k y hy hk;simp only [iX hk,HY,iz,hy,HW,i5 (show k<gS by omega),Int.toNat_natCast];cases y.HN<;>rfl
  · simp only [iW,HX]
def nw (t:List gW) (f g:Int) (a:ig):List gW×Bool:=if (jz t f a).2&&jc t g then pf (jz t f a).1 g a else (t,false)
theorem yq (t:List gW) (f g:Int) (a:ig):(nw t f g a).1.length=t.length:=by
  unfold nw;split
  · rw [rH,kC]
  · rfl
theorem Bl {N:Nat} (hN:gS≤N) {t:List gW} (hB:t.length<gS) (f g:Int) (a:ig):nA N t f g a=some (nw t f g a):=by
  unfold nA nw;have hp:=kC t f a;simp only [pd hN,px hN hB,HW];cases h:(jz t f a).2
  · cases jH t&&jc t g<;>simp only [Bool.not_false,HZ,HY,HX,mo hB,HW,Bool.false_and,Bool.false_eq_true,if_false]
  rw [(Dn h).1];simp only [H0];cases jc t g
  · simp only [Bool.not_false,HY,mo hB,HW,Bool.false_eq_true,if_false]
  · simp only [HZ,HX,if_true,sK hN (show (jz t f a).1.length<gS by omega),HW]
theorem FQ {t:List gW} (h:Tr t) {i:Int} (hv:jc t i=true) (hi:i ≠ 0):0≤up t i∧up t i≤4∧up t i ≠ i∧(nth t (up t i)).HN=true:=by
  obtain ⟨i0,i4⟩:=mj hv;have hl:=h.len;have hg:=oB (l:=t) i0 (by omega)
  have hlv:(nth t i).HN=true:=by
    unfold jc at hv;simp only [H3] at hv;exact hv.2
  have h1:=h.lead i.toNat (nth t i) hg hlv;rw [show ((i.toNat:Nat):Int)=i by omega] at h1
  have hne:up t i ≠ i:=fun q=>by rw [u6 hi q] at h1;cases h1
  have h2:leads t 4 (up t i)=true:=by
    unfold leads at h1;simpa [hi,hv] using h1
  by_cases hu:up t i=0
  · rw [hu];exact ⟨by omega,by omega,fun q=>hi q.symm,h.AZ⟩
  · unfold leads at h2
    have h3:jc t (up t i)=true:=by
      cases q:jc t (up t i)
      · simp [hu,q] at h2
      · rfl
    obtain ⟨a,b⟩:=mj h3;unfold jc at h3;simp only [H3] at h3;exact ⟨a,b,hne,h3.2⟩
def xf (s:ig) (B:Int):Prop:=(0≤s.gE∧s.gE≤B)∧(0≤s.gV∧s.gV≤B)∧(0≤s.hY∧s.hY≤B)
theorem xp {s a:ig} {B:Int} (hs:xf s B) (ha:iT a=true) (hB:B≤1000000000):(iN s a).gE=s.gE+a.gE∧(iN s a).gV=s.gV+a.gV∧(iN s a).hY=s.hY+a.hY∧xf (iN s a) (B+1000000):=by
  have h:=kQ.1 ha;unfold xf at hs;have w1:(iN s a).gE=s.gE+a.gE:=iC (by omega) (by omega);have w2:(iN s a).gV=s.gV+a.gV:=iC (by omega) (by omega);have w3:(iN s a).hY=s.hY+a.hY:=iC (by omega) (by omega);exact ⟨w1,w2,w3,⟨by omega,by omega⟩,⟨by omega,by omega⟩,⟨by omega,by omega⟩⟩
theorem uX:∀ (t:List gW) (s:ig) (B:Int),(∀ r,r ∈ t→iT r.iB=true)→0≤B→B+1000000 * (t.length:Int)≤1000000000→xf s B→∀ (k:Nat) (r:gW),t[k]?=some r→r.HN=true →
    s.gE+r.iB.gE≤(i6 s t).gE∧s.gV+r.iB.gV≤(i6 s t).gV∧s.hY+r.iB.hY≤(i6 s t).hY
  | [],s,B,_,_,_,_,k,r,hr,_=>by simp at hr
  | x::t,s,B,h,hB,hL,hs,k,r,hr,hv=>by
    have hx:=h x (by simp);simp only [List.length_cons] at hL;obtain ⟨w1,w2,w3,w4⟩:=xp hs hx (by omega);have hx':=kQ.1 hx;have e:i6 s (x::t)=i6 (if x.HN then iN s x.iB else s) t:=rfl;rw [e];have ht:∀ r,r ∈ t→iT r.iB=true:=fun r hr=>h r (by simp [hr])
    match k with
    | 0 =>
      simp only [List.getElem?_cons_zero,Option.some.injEq] at hr;subst hr;rw [if_pos hv];obtain ⟨⟨a1,a2,a3⟩,_⟩:=qV t (iN s x.iB) (B+1000000) ht (by omega) (by omega) w4.1 w4.2.1 w4.2.2;exact ⟨by omega,by omega,by omega⟩
    | k+1 =>
      rw [List.getElem?_cons_succ] at hr;cases hxl:x.HN
      · exact uX t s B ht hB (by omega) hs k r hr hv
      · obtain ⟨a1,a2,a3⟩:=uX t (iN s x.iB) (B+1000000) ht (by omega) (by omega) w4 k r hr hv;rw [if_pos rfl];exact ⟨by omega,by omega,by omega⟩
theorem sS:∀ (t:List gW) (s:ig) (B:Int),(∀ r,r ∈ t→iT r.iB=true)→0≤B→B+1000000 * (t.length:Int)≤1000000000→xf s B→∀ (k j:Nat) (r q:gW),k<j→t[k]?=some r→r.HN=true→t[j]?=some q→q.HN=true →
    r.iB.gE+q.iB.gE≤(i6 s t).gE∧r.iB.gV+q.iB.gV≤(i6 s t).gV∧r.iB.hY+q.iB.hY≤(i6 s t).hY
  | [],s,B,_,_,_,_,k,j,r,q,_,hr,_,_,_=>by simp at hr
  | x::t,s,B,h,hB,hL,hs,k,j,r,q,hkj,hr,hv,hq,hw=>by
    have hx:=h x (by simp);simp only [List.length_cons] at hL;obtain ⟨w1,w2,w3,w4⟩:=xp hs hx (by omega);have e:i6 s (x::t)=i6 (if x.HN then iN s x.iB else s) t:=rfl;rw [e];have ht:∀ r,r ∈ t→iT r.iB=true:=fun r hr=>h r (by simp [hr]);unfold xf at hs
    match k,j,hkj with
    | 0,j+1,_ =>
      simp only [List.getElem?_cons_zero,Option.some.injEq] at hr;subst hr;rw [List.getElem?_cons_succ] at hq;rw [if_pos hv];obtain ⟨a1,a2,a3⟩:=uX t (iN s x.iB) (B+1000000) ht (by omega) (by omega) w4 j q hq hw;exact ⟨by omega,by omega,by omega⟩
    | k+1,j+1,hkj =>
      rw [List.getElem?_cons_succ] at hr hq;cases hxl:x.HN
      · exact sS t s B ht hB (by omega) hs k j r q (by omega) hr hv hq hw
      · rw [if_pos rfl];exact sS t (iN s x.iB) (B+1000000) ht (by omega) (by omega) w4 k j r q (by omega) hr hv hq hw
theorem D8 {t:List gW} (h:Tr t) {u i:Int} (hu:0≤u∧u≤4) (hi:0≤i∧i≤4) (hne:u ≠ i) (h1:(nth t u).HN=true) (h2:(nth t i).HN=true):kj (nth t u).iB (nth t i).iB=(iN (nth t u).iB (nth t i).iB,true):=by
  have hl:=h.len
  have z:xf ⟨0,0,0⟩ 0:=by unfold xf;decide
  have hS:=kQ.1 h.sum;have gu:=oB (l:=t) (i:=u) hu.1 (by omega);have gi:=oB (l:=t) (i:=i) hi.1 (by omega);have bu:=h.iB _ (List.mem_of_getElem? gu);have bi:=h.iB _ (List.mem_of_getElem? gi);have bu':=kQ.1 bu;have bi':=kQ.1 bi
  have key:(nth t u).iB.gE+(nth t i).iB.gE≤(i6 ⟨0,0,0⟩ t).gE∧(nth t u).iB.gV+(nth t i).iB.gV≤(i6 ⟨0,0,0⟩ t).gV∧(nth t u).iB.hY+(nth t i).iB.hY≤(i6 ⟨0,0,0⟩ t).hY:=by
    rcases Int.lt_or_gt_of_ne hne with q | q
    · exact sS t ⟨0,0,0⟩ 0 h.iB (by omega) (by omega) z u.toNat i.toNat _ _ (by omega) gu h1 gi h2
    · obtain ⟨a,b,c⟩:=sS t ⟨0,0,0⟩ 0 h.iB (by omega) (by omega) z i.toNat u.toNat _ _ (by omega) gi h2 gu h1;exact ⟨by omega,by omega,by omega⟩
  have v1:(iN (nth t u).iB (nth t i).iB).gE=(nth t u).iB.gE+(nth t i).iB.gE:=iC (by omega) (by omega);have v2:(iN (nth t u).iB (nth t i).iB).gV=(nth t u).iB.gV+(nth t i).iB.gV:=iC (by omega) (by omega);have v3:(iN (nth t u).iB (nth t i).iB).hY=(nth t u).iB.hY+(nth t i).iB.hY:=iC (by omega) (by omega);have:iT (iN (nth t u).iB (nth t i).iB)=true:=kQ.2 ⟨by omega,by omega,by omega⟩;unfold kj;rw [bu,bi,this];rfl
def vd (i u:Int) (r:gW):gW:=if r.HN&&(r.HO==i) then gW.mk r.HN u r.iB else r
def dropped (t:List gW) (i:Int):List gW:=(t.set (up t i).toNat (wy (nth t (up t i)) (iN (nth t (up t i)).iB (nth t i).iB))).set i.toNat sN
def nX (t:List gW) (i:Int):List gW×Bool:=if (jH t&&jc t i)&&(i != 0) then ((dropped t i).map (vd i (up t i)),true) else (t,false)
theorem yO (t:List gW) (i:Int):(nX t i).1.length=t.length:=by
  unfold nX dropped;split<;>simp
theorem Bi {N:Nat} (hN:gS≤N) {t:List gW} (hB:t.length<gS) (i:Int):nE N t i=some (nX t i):=by
  unfold nE nX;simp only [mo hB,pd hN,HW,lB];cases h:(jH t&&jc t i)
  · rfl
  simp only [H3] at h;have hT:=sG.1 h.1;have hl:=hT.len;cases hi:(i==0)
  case true=>simp only [HZ,Bool.or_true,HY,H0,bne,hi,Bool.false_eq_true,if_false]
  have hi':i ≠ 0:=by simpa using hi
  obtain ⟨i0,i4⟩:=mj h.2;obtain ⟨u0,u4,une,ulv⟩:=FQ hT h.2 hi'
  have ilv:(nth t i).HN=true:=by
    have:=h.2;unfold jc at this;simp only [H3] at this;exact this.2
  have eu:idx t (nth t i).HO=some (nth t (up t i)):=je (i:=up t i) u0 (by omega);have ff:=D8 hT ⟨u0,u4⟩ ⟨i0,i4⟩ une ulv ilv;have e2:∀ z,idx (t.set (nth t i).HO.toNat z) i=some (nth (t.set (nth t i).HO.toNat z) i):=fun z=>je i0 (by simp only [List.length_set];omega);simp only [HZ,Bool.or_false,HX,je (l:=t) i0 (by omega),eu,ri,ff,HW,e2,bne,hi,Bool.not_false,Bool.and_self,if_true];rw [show (((t.set (nth t i).HO.toNat (gW.mk (nth t (up t i)).HN (nth t (up t i)).HO (ig.mk (iN (nth t (up t i)).iB (nth t i).iB).gE (iN (nth t (up t i)).iB (nth t i).iB).gV (iN (nth t (up t i)).iB (nth t i).iB).hY))).set i.toNat (gW.mk false 0 (ig.mk 0 0 0))))=dropped t i from rfl];rw [vc (dropped t i) (vd i (up t i)) (show (dropped t i).length<N by unfold dropped;simp only [List.length_set];omega)]
  · rfl
  · intro k x y hx hty _ hk
    have hk':k<x.length:=by omega
    have hk2:k<t.length:=by unfold dropped at hk;simp only [List.length_set] at hk;omega
    simp only [iX hk',HY,iz,hty,HW,ns,i5 (show k<gS by omega),Int.toNat_natCast];unfold vd;cases (y.HN&&(y.HO==i))
    · simp only [HX,Bool.false_eq_true,if_false,pK hty]
    · simp only [HY,if_true];rfl
  · intro x hx;rw [← hx];simp only [iW,HX]
end Go.Kx
