import Derived.Test.YtlcgibcdiikheaaGreatLPay
namespace Go.Kx
open Go
open Go.IntKind (i64)
set_option linter.unusedVariables false
set_option linter.unusedSimpArgs false
set_option maxRecDepth 10000
def mA (h:g7) (k:Int):g7 :=
  if (h.gc.HD==0)&&(((nth h.ag k).HA != 0)&&!(nth h.ag k).HM) then
    g7.mk (h.ag.set k.toNat (marked (nth h.ag k) true)) (jK.mk h.gc.HD h.gc.HL h.gc.HF (if h.gc.gQ.contains k then h.gc.gQ else h.gc.gQ++[k]))
  else h
theorem De {l:List Int} {k:Int} (h:l.length+1<gS):app l [k]=some (l++[k]):=by
  unfold app;rw [if_pos (by simpa using h)]
theorem wh {N:Nat} (hN:gS≤N) {h:g7} {k:Int} (h0:0≤k) (h1:k<(h.ag.length:Int)) (hg:h.gc.gQ.length+1<gS):mK N h k=some (mA h k):=by
  have hg':h.gc.gQ.length<gS:=by omega
  unfold mK mA;rw [← Bool.cond_eq_ite];simp only [je (l:=h.ag) h0 h1,sE hN hg',De hg,HW,bne];cases h.gc.HD==0
  · rfl
  cases (nth h.ag k).HA==0
  · cases (nth h.ag k).HM
    · cases h.gc.gQ.contains k<;>rfl
    · rfl
  · rfl
theorem uC (h:g7) (k:Int):(mA h k).ag.length=h.ag.length:=by
  unfold mA;split<;>simp
theorem sY (h:g7) (k:Int):(mA h k).gc.gQ.length≤h.gc.gQ.length+1:=by
  unfold mA;split
  · simp only;split
    · exact Nat.le_succ _
    · simp
  · exact Nat.le_succ _
theorem Aj {l:List cd} {i j:Int} {o:cd} (h0:0≤i) (h1:i<(l.length:Int)) (hj:0≤j):nth (l.set i.toNat o) j=if i=j then o else nth l j:=by
  unfold nth;rw [List.getElem?_set]
  by_cases e:i=j
  · subst e;rw [if_pos rfl,if_pos (by omega),if_pos rfl];rfl
  · rw [if_neg (by omega),if_neg e]
theorem BV {h:g7} {k j:Int} {now:Int} (h0:0≤k) (h1:k<(h.ag.length:Int)) (hj:0≤j):jq (nth (mA h k).ag j) now=jq (nth h.ag j) now:=by
  unfold mA;split
  · simp only;rw [Aj h0 h1 hj];split
    · rename_i e;subst e;rfl
    · rfl
  · rfl
def kh (l:List cd) (now:Int) (h:g7) (k:Int):g7:=if jq (nth l k) now then h else mA h k
def iM (h:g7):Int:=nth h.gc.gQ ((h.gc.gQ.length:Int) - 1)
def nO (h:g7):List Int:=h.gc.gQ.take (h.gc.gQ.length - 1)
def ql (h:g7) (now:Int):g7 :=
  if h.gc.gQ.length=0 then g7.mk h.ag (jK.mk 1 0 h.gc.HF h.gc.gQ)
  else if (iM h != 0)&&jq (nth h.ag (iM h)) now then g7.mk h.ag (jK.mk h.gc.HD h.gc.HL h.gc.HF (nO h))
  else (mS h.ag (iM h)).foldl (kh h.ag now) (g7.mk (h.ag.set (iM h).toNat (marked (nth h.ag (iM h)) true)) (jK.mk h.gc.HD h.gc.HL h.gc.HF (nO h)))
def ht (h:g7):List cd×Int×Int×Int×List Int:=(h.ag,h.gc.HD,h.gc.HL,h.gc.HF,h.gc.gQ)
theorem BT {N:Nat} (hN:gS≤N) {l:List cd} {now:Int} {e:List Int} (he:∀ y,y ∈ e→0≤y∧y≤9) (hel:e.length≤10) {h:g7} (hl:h.ag.length=10) {G:Nat} (hg:h.gc.gQ.length≤G) (hG:G+20<gS)
    (hx:∀ j,0≤j→jq (nth h.ag j) now=jq (nth l j) now)
    {body:Int×List cd×Int×Int×Int×List Int→Option ((Int×List cd×Int×Int×Int×List Int)⊕(Int×List cd×Int×Int×Int×List Int))}
    (hs:∀ (k:Nat) (t:g7) (y:Int),e[k]?=some y→k<e.length→t.ag.length=10→t.gc.gQ.length+1<gS→(∀ j,0≤j→jq (nth t.ag j) now=jq (nth l j) now)→0≤y→y≤9→body ((k:Int),ht t)=some (.inl (((k+1:Nat):Int),ht (kh l now t y))))
    (hend:∀ t,body ((e.length:Int),ht t)=some (.inr ((e.length:Int),ht t))) :
    iter body N (0,ht h)=some ((e.length:Int),ht (e.foldl (kh l now) h)):=by
  have hB:e.length<gS:=by omega
  rw [show ((0:Int),ht h)=(fun (k:Nat) (t:g7)=>((k:Int),ht t)) 0 h from rfl,
    jQ e (fun (k:Nat) (t:g7)=>((k:Int),ht t)) (fun _ t y=>kh l now t y) (fun t=>((e.length:Int),ht t)) (fun k t=>t.ag.length=10∧t.gc.gQ.length≤G+k∧∀ j,0≤j→jq (nth t.ag j) now=jq (nth l j) now) ?_ ?_ (Nat.lt_of_lt_of_le hB hN) ⟨hl,hg,hx⟩,lK]
  · intro k t y hy hk ⟨i1,i2,i3⟩;obtain ⟨y0,y9⟩:=he y (List.mem_of_getElem? hy);refine ⟨hs k t y hy hk i1 (by omega) i3 y0 y9,?_⟩;unfold kh;split
    · exact ⟨i1,by omega,i3⟩
    · have:=sY t y;exact ⟨by rw [uC,i1],by omega,fun j hj=>by rw [BV y0 (by omega) hj,i3 j hj]⟩
  · intro t _;exact hend t
theorem zt {h:g7} (q:ki h=true):∀ y,y ∈ h.gc.gQ→0≤y∧y≤9:=by
  unfold ki at q;simp only [H3,lz] at q;intro y hy;obtain ⟨k,hk⟩:=List.getElem?_of_mem hy;have:=q.2.2.2 k y hk;unfold ua at this;rw [H3,iG] at this;exact this.1
theorem tS {h:g7} (q:ki h=true) (hg:h.gc.gQ.length ≠ 0):0≤iM h∧iM h≤9:=zt q _ (kv (by omega) (by omega))
theorem CP {g:List Int} (hg:g.length ≠ 0) (hB:g.length<gS):i64.wrap ((g.length:Int) - 1)=((g.length - 1:Nat):Int)∧sub g 0 ((g.length - 1:Nat):Int)=some (g.take (g.length - 1)):=by
  have:g.length<16777216:=hB;exact ⟨by rw [iC (by omega) (by omega)];omega,yE (by omega)⟩
def wk (l:List cd):List cd:=l.set 0 (marked (nth l 0) true)
def nV (h:g7) (now:Int):Bool:=(h.gc.HL != 0)&&(((nth h.ag h.gc.HL).HA != 0)&&(jq (nth h.ag h.gc.HL) now || !(nth h.ag h.gc.HL).HM))
def l8 (h:g7) (now:Int):List cd:=if nV h now then (lj h.ag h.gc.HL).1 else h.ag.set h.gc.HL.toNat (marked (nth h.ag h.gc.HL) false)
def om (h:g7) (now:Int):g7×Int :=
  (if h.gc.HL==9 then g7.mk (wk (l8 h now)) (jK.mk 0 0 (if 1000000<i64.wrap (h.gc.HF+1) then 1000000 else i64.wrap (h.gc.HF+1)) [0])
    else g7.mk (l8 h now) (jK.mk h.gc.HD (h.gc.HL+1) h.gc.HF h.gc.gQ),if nV h now then h.gc.HL else -1)
def kb (h:g7) (now:Int):g7×Int:=if ki h then (if h.gc.HD==1 then om h now else (ql h now, -1)) else (h, -1)
theorem tM {h:g7} (q:ki h=true):(h.gc.HD=0)∨(h.gc.HD=1∧0≤h.gc.HL∧h.gc.HL≤9):=by
  unfold ki wH at q;simp only [H3,Bool.or_eq_true,beq_iff_eq,iG] at q
  rcases q.2.1 with ⟨h1,_⟩ | ⟨h1,h2,_⟩
  · exact .inl h1
  · exact .inr ⟨h1,h2⟩
theorem xB (l:List cd) (i:Int):(lj l i).1.length=l.length:=by
  unfold lj;split<;>simp
theorem rV (h:g7) (now:Int):(l8 h now).length=h.ag.length:=by
  unfold l8;split
  · exact xB _ _
  · simp
theorem FY {n:Int} (h0:0≤n) (h9:n≤9):((n+1:Int)==10)=(n==9)∧i64.wrap (n+1)=n+1:=by
  rw [iC (by omega) (by omega)];exact ⟨by rw [Bool.eq_iff_iff];simp;omega,rfl⟩
theorem DT (t:g7):g7.mk t.ag (jK.mk t.gc.HD t.gc.HL t.gc.HF t.gc.gQ)=t:=rfl
theorem yL {o:cd} (h:kK o=true) (hk:(o.HA==0)=true):marked o false=o:=by
  unfold kK at h;simp only [hk,HY,H3,decide_eq_true_eq] at h;rw [h.2.2];rfl
theorem B2 {N:Nat} (hN:gS≤N) {h:g7} (q:ki h=true) (h1:iL gX h.ag<gS) (hw:wA h.ag) (h2:h.gc.gQ.length+20<gS) (now:Int):o7 N h now=some (ql h now):=by
  have h2':h.gc.gQ.length<gS:=by omega
  have hB:h.gc.gQ.length<16777216:=h2';have ha:=oh q;unfold o7 ql
  by_cases hg:h.gc.gQ.length=0
  · have:decide (i64.wrap ((h.gc.gQ.length:Int) - 1)<0)=true:=by rw [hg];decide
    rw [this,if_pos hg];rfl
  · obtain ⟨g1,g2⟩:=CP hg h2';obtain ⟨l0,l9⟩:=tS q hg;obtain ⟨e1,e2⟩:=sH ha (iM h)
    have eg:idx h.gc.gQ ((h.gc.gQ.length - 1:Nat):Int)=some (iM h):=by
      rw [je (l:=h.gc.gQ) (i:=((h.gc.gQ.length - 1:Nat):Int)) (by omega) (by omega)];unfold iM;rw [show ((h.gc.gQ.length:Int) - 1)=((h.gc.gQ.length - 1:Nat):Int) by omega]
    have hd:decide (((h.gc.gQ.length - 1:Nat):Int)<0)=false:=by simp
    have hgt:decide (iM h > 0)=(iM h != 0):=by
      rw [Bool.eq_iff_iff];simp;omega
    rw [g1,hd,if_neg hg];simp only [HX,eg,g2,(ha.at l0 l9).1,qu,HW,hgt];rw [show (bif iM h != 0 then some (jq (nth h.ag (iM h)) now) else some false:Option Bool)=some ((iM h != 0)&&jq (nth h.ag (iM h)) now) from ns _ _];simp only [HW];cases hc:((iM h != 0)&&jq (nth h.ag (iM h)) now)
    · simp only [HX,Bool.false_eq_true,if_false];rw [As hN h1 hw ha l0 l9];simp only [HW]
      rw [show ((0:Int),h.ag.set (iM h).toNat (cd.mk (nth h.ag (iM h)).HR (nth h.ag (iM h)).HA (nth h.ag (iM h)).box (nth h.ag (iM h)).HP (nth h.ag (iM h)).iK (nth h.ag (iM h)).gE (nth h.ag (iM h)).HK (nth h.ag (iM h)).iF (nth h.ag (iM h)).iE true (nth h.ag (iM h)).g5 (nth h.ag (iM h)).HI (nth h.ag (iM h)).HE),h.gc.HD,h.gc.HL,h.gc.HF,h.gc.gQ.take (h.gc.gQ.length - 1)) =
        ((0:Int),ht (g7.mk (h.ag.set (iM h).toNat (marked (nth h.ag (iM h)) true)) (jK.mk h.gc.HD h.gc.HL h.gc.HF (nO h)))) from rfl,
        BT hN (l:=h.ag) (now:=now) e1 e2 (h:=g7.mk (h.ag.set (iM h).toNat (marked (nth h.ag (iM h)) true)) (jK.mk h.gc.HD h.gc.HL h.gc.HF (nO h))) (by simp [ha.len]) (G:=h.gc.gQ.length) (by unfold nO;simp) h2
          (fun j hj=>by
            simp only;rw [Aj l0 (by rw [ha.len];omega) hj];split
            · rename_i e;rw [← e];rfl
            · rfl)]
      · rfl
      · intro k t y hy hk t1 t2 t3 y0 y9;simp only [ht,iX hk,HY,iz,hy,HW,je (l:=t.ag) y0 (show y<(t.ag.length:Int) by rw [t1];omega),qu,t3 y y0,DT,wh hN y0 (show y<(t.ag.length:Int) by rw [t1];omega) t2,i5 (show k<gS by omega)];unfold kh;cases jq (nth h.ag y) now<;>rfl
      · intro t;simp only [ht,iW,HX]
    · rfl
theorem vg {N:Nat} (hN:gS≤N) {h:g7} (h1:iL gX h.ag<gS) (hw:wA h.ag) (h2:h.gc.gQ.length+20<gS) (now:Int):mU N h now=some (kb h now):=by
  have h2':h.gc.gQ.length<gS:=by omega
  unfold mU kb;simp only [rX hN h1 h2',sI hN h1 h2' hw,HW];cases q:ki h
  · rfl
  have ha:=oh q;simp only [HZ,HX,if_true]
  rcases tM q with hp | ⟨hp,hr⟩
  · rw [hp];simp only [beq_self_eq_true,HY,B2 hN q h1 hw h2,HW];rfl
  · obtain ⟨e1,e2⟩:=FY hr.1 hr.2;have hsl:=rV h now;have e0:idx (l8 h now) 0=some (nth (l8 h now) 0):=je (by omega) (by rw [hsl,ha.len];decide)
    have hgt:decide (h.gc.HL > 0)=(h.gc.HL != 0):=by rw [Bool.eq_iff_iff];simp;omega
    rw [show (h.gc.HD==0)=false by rw [hp];rfl,show (h.gc.HD==1)=true by rw [hp];rfl];unfold om;simp only [HX,(ha.at hr.1 hr.2).1,qu,zr hN h1 hw,HW,hgt,e1,e2]
    rw [show (bif h.gc.HL != 0 then (bif (nth h.ag h.gc.HL).HA != 0 then (bif !(nth h.ag h.gc.HL).HM then some true else some (jq (nth h.ag h.gc.HL) now)) else some false) else some false:Option Bool)=some (nV h now) by
      unfold nV;rw [lB,ns,ns,Bool.or_comm]]
    simp only [HW]
    have hsw:(bif nV h now then some (h.gc.HL,(lj h.ag h.gc.HL).1) else bif (nth h.ag h.gc.HL).HA != 0 then some (-1,h.ag.set h.gc.HL.toNat (cd.mk (nth h.ag h.gc.HL).HR (nth h.ag h.gc.HL).HA (nth h.ag h.gc.HL).box (nth h.ag h.gc.HL).HP (nth h.ag h.gc.HL).iK (nth h.ag h.gc.HL).gE (nth h.ag h.gc.HL).HK (nth h.ag h.gc.HL).iF (nth h.ag h.gc.HL).iE false (nth h.ag h.gc.HL).g5 (nth h.ag h.gc.HL).HI (nth h.ag h.gc.HL).HE)) else some (-1,h.ag):Option (Int×List cd))=some (if nV h now then h.gc.HL else -1,l8 h now):=by
      unfold l8;cases nV h now
      · cases hk:(nth h.ag h.gc.HL).HA != 0
        · have hk0:((nth h.ag h.gc.HL).HA==0)=true:=by simpa [bne] using hk
          have hid:h.ag.set h.gc.HL.toNat (marked (nth h.ag h.gc.HL) false)=h.ag:=by
            rw [yL (ha.ok _ (ha.at hr.1 hr.2).2) hk0];exact pK (oB hr.1 (by rw [ha.len];omega))
          simp [hid]
        · rfl
      · rfl
    rw [hsw];simp only [HW,e0];cases h.gc.HL==9<;>rfl
theorem xc {α:Type} {f:α→Nat} {z:α}:∀ {l:List α} {k:Nat} {y:α},l[k]?=some y→f z=f y→mT f (l.set k z)=mT f l
  | x::l,0,y,h,e=>by simp at h;subst h;simp [mT,e]
  | x::l,k+1,y,h,e=>by
    simp only [List.set_cons_succ,mT];rw [xc (l:=l) (k:=k) (y:=y) (by simpa using h) e]
theorem mu {l:List cd} {i:Int} {z:cd} (h0:0≤i) (h1:i<(l.length:Int)) (e:gX z=gX (nth l i)):iL gX (l.set i.toNat z)=iL gX l:=by
  unfold iL;rw [xc (oB h0 h1) e,List.length_set]
theorem td {l:List cd} {now:Int}:∀ (e:List Int) (h:g7),(∀ y,y ∈ e→0≤y∧y≤9)→h.ag.length=10→wA h.ag →
    iL gX (e.foldl (kh l now) h).ag=iL gX h.ag∧wA (e.foldl (kh l now) h).ag∧(e.foldl (kh l now) h).gc.gQ.length≤h.gc.gQ.length+e.length
  | [],h,_,_,hw=>⟨rfl,hw,Nat.le_refl _⟩
  | y::e,h,he,hl,hw=>by
    obtain ⟨y0,y9⟩:=he y (by simp)
    have hy:y<(h.ag.length:Int):=by rw [hl];omega
    have key:iL gX (kh l now h y).ag=iL gX h.ag∧wA (kh l now h y).ag∧(kh l now h y).gc.gQ.length≤h.gc.gQ.length+1∧(kh l now h y).ag.length=10:=by
      unfold kh;split
      · exact ⟨rfl,hw,Nat.le_succ _,hl⟩
      · refine ⟨?_,?_,sY h y,by rw [uC,hl]⟩
        · unfold mA;split
          · exact mu y0 hy rfl
          · rfl
        · unfold mA;split
          · exact jL hw (show lN (marked (nth h.ag y) true) from hw (nth h.ag y) (kv y0 hy))
          · exact hw
    obtain ⟨a1,a2,a3⟩:=td e (kh l now h y) (fun z hz=>he z (by simp [hz])) key.2.2.2 key.2.1;simp only [List.foldl_cons,List.length_cons];exact ⟨a1.trans key.1,a2,by omega⟩
theorem Cy (i:Int) (o:cd):gX (v5 i o)=gX o:=by
  unfold v5;split
  · rfl
  · unfold gX;simp
theorem Dw {i:Int} {o:cd} (h:lN o):lN (v5 i o):=by
  unfold v5;split
  · exact h
  · exact h
theorem z4 (g:Int):lN (blank g):=by show (-9223372036854775808:Int)≤0;decide
theorem Bo {l:List cd} (hw:wA l) (i:Int):iL gX (lj l i).1≤iL gX l∧wA (lj l i).1:=by
  unfold lj;split
  · refine ⟨?_,fun o ho=>?_⟩
    · show iL gX ((l.set i.toNat (blank (nth l i).HR)).map (v5 i))≤_
      rw [Ag (Cy i)];exact su
    · obtain ⟨y,hy,rfl⟩:=List.mem_map.1 ho;exact Dw (jL hw (z4 _) y hy)
  · exact ⟨Nat.le_refl _,hw⟩
theorem qU {h:g7} (hw:wA h.ag) (now:Int):iL gX (kb h now).1.ag≤iL gX h.ag∧wA (kb h now).1.ag∧(kb h now).1.gc.gQ.length≤h.gc.gQ.length+10 ∧
    (decide ((kb h now).2 ≥ 0)=true→Ar h.ag∧0≤(kb h now).2∧(kb h now).2≤9):=by
  unfold kb;split
  · rename_i q;have ha:=oh q;have hl:=ha.len;split
    · rename_i hp
      have hp:h.gc.HD=1:=by simpa using hp
      have hr:0≤h.gc.HL∧h.gc.HL≤9:=by
        rcases tM q with e | e
        · rw [hp] at e;cases e
        · exact e.2
      have hs:iL gX (l8 h now)≤iL gX h.ag∧wA (l8 h now):=by
        unfold l8;split
        · exact Bo hw _
        · exact ⟨Nat.le_of_eq (mu hr.1 (by rw [hl];omega) rfl),jL hw (show lN (marked (nth h.ag h.gc.HL) false) from hw (nth h.ag h.gc.HL) (ha.at hr.1 hr.2).2)⟩
      have hsl:=rV h now
      have h0:(0:Int)<((l8 h now).length:Int):=by rw [hsl,hl];decide
      refine ⟨?_,?_,?_,fun hd=>⟨ha,?_⟩⟩
      · unfold om wk;simp only;split
        · show iL gX ((l8 h now).set (0:Int).toNat _)≤_
          rw [mu (z:=marked (nth (l8 h now) 0) true) (Int.le_refl 0) h0 rfl];exact hs.1
        · exact hs.1
      · unfold om wk;simp only;split
        · exact jL hs.2 (show lN (marked (nth (l8 h now) 0) true) from hs.2 (nth (l8 h now) 0) (kv (Int.le_refl 0) h0))
        · exact hs.2
      · unfold om;simp only;split
        · simp
        · exact Nat.le_add_right _ _
      · unfold om at hd ⊢;simp only at hd ⊢;split
        · exact hr
        · rename_i hn;rw [if_neg hn] at hd;simp at hd
    · refine ⟨?_,?_,?_,fun hd=>by simp at hd⟩
      all_goals
        unfold ql
        simp only
        split
        · first | exact Nat.le_refl _ | exact hw | exact Nat.le_add_right _ _
        · rename_i hg
          split
          · first | exact Nat.le_refl _ | exact hw | (unfold nO;simp;omega)
          · obtain ⟨l0,l9⟩:=tS q hg
            obtain ⟨e1,e2⟩:=sH ha (iM h)
            obtain ⟨a1,a2,a3⟩:=td (l:=h.ag) (now:=now) (mS h.ag (iM h)) (g7.mk (h.ag.set (iM h).toNat (marked (nth h.ag (iM h)) true)) (jK.mk h.gc.HD h.gc.HL h.gc.HF (nO h))) e1 (by simp [hl]) (jL hw (show lN (marked (nth h.ag (iM h)) true) from hw (nth h.ag (iM h)) (ha.at l0 l9).2))
            first
              | exact Nat.le_of_eq (a1.trans (mu l0 (by rw [hl];omega) rfl))
              | exact a2
              | (refine Nat.le_trans a3 ?_
                 unfold nO
                 simp
                 omega)
  · exact ⟨Nat.le_refl _,hw,Nat.le_add_right _ _,fun hd=>by simp at hd⟩
structure tU where
  n:Int
  HC:List gW
  py:g7
def pz (now:Int) (c:tU):tU :=
  if decide ((kb c.py now).2 ≥ 0) then ⟨i64.wrap (c.n+1),(pf c.HC (nth c.py.ag (kb c.py now).2).HP ⟨(nth c.py.ag (kb c.py now).2).gE,0,0⟩).1,(kb c.py now).1⟩
  else ⟨c.n,c.HC,(kb c.py now).1⟩
def tT (now:Int):Nat→tU→tU
  | 0,c=>c
  | k+1,c=>tT now k (pz now c)
def k5 (p:bh) (now steps:Int):bh×Int :=
  if jr p&&ia steps 0 100 then
    (bh.mk p.HB p.own (tT now steps.toNat ⟨0,p.HC,p.py⟩).HC (tT now steps.toNat ⟨0,p.HC,p.py⟩).py p.gR p.HH p.HJ p.gP p.g8 p.HG,(tT now steps.toNat ⟨0,p.HC,p.py⟩).n)
  else (p,0)
def ct (k:Nat) (c:tU):Int×Int×List gW×List cd×Int×Int×Int×List Int:=(c.n,(k:Int),c.HC,c.py.ag,c.py.gc.HD,c.py.gc.HL,c.py.gc.HF,c.py.gc.gQ)
structure yn (S T G:Nat) (k:Nat) (c:tU):Prop where
  sz:iL gX c.py.ag≤S
  tl:c.HC.length=T
  gl:c.py.gc.gQ.length≤G+10 * k
  w:wA c.py.ag
theorem vQ {S T G k:Nat} {c:tU} (h:yn S T G k c) (now:Int):yn S T G (k+1) (pz now c):=by
  obtain ⟨s1,s2,s3,_⟩:=qU h.w now;have a1:=h.sz;have a2:=h.tl;have a3:=h.gl;unfold pz;split
  · exact ⟨by simp only;omega,by simp only;rw [rH,a2],by simp only;omega,s2⟩
  · exact ⟨by simp only;omega,a2,by simp only;omega,s2⟩
theorem Ac {S T G:Nat} {now:Int}:∀ (j k:Nat) (c:tU),yn S T G k c→yn S T G (k+j) (tT now j c)
  | 0,k,c,h=>h
  | j+1,k,c,h=>by
    have:=Ac (now:=now) j (k+1) (pz now c) (vQ h now)
    rwa [show k+1+j=k+(j+1) by omega] at this
theorem EF {N:Nat} (hN:gS≤N) {now steps:Int} (h0:0≤steps) (h1:steps≤100) {S T G:Nat} {c:tU} (hc:yn S T G 0 c)
    {body:Int×Int×List gW×List cd×Int×Int×Int×List Int→Option ((Int×Int×List gW×List cd×Int×Int×Int×List Int)⊕(Int×Int×List gW×List cd×Int×Int×Int×List Int))}
    (hs:∀ (k:Nat) (c:tU),k<100→(k:Int)<steps→yn S T G k c→body (ct k c)=some (.inl (ct (k+1) (pz now c)))) (he:∀ c,body (ct steps.toNat c)=some (.inr (ct steps.toNat c))) :
    iter body N (ct 0 c)=some (ct steps.toNat (tT now steps.toNat c)):=by
  have e:∀ (j i:Nat) (c:tU),foldI (fun _ c (_:Unit)=>pz now c) i c (List.replicate j ())=tT now j c:=by
    intro j
    induction j with
    | zero=>intro i c;rfl
    | succ j ih=>intro i c;rw [List.replicate_succ];unfold foldI tT;exact ih _ _
  rw [jQ (List.replicate steps.toNat ()) ct (fun _ c _=>pz now c) (fun c=>ct steps.toNat c) (fun k c=>yn S T G k c) ?_ ?_ (by have:16777216≤N:=hN;simp;omega) hc,e]
  · intro k c y hy hk hI
    have hk:k<steps.toNat:=by simpa using hk
    exact ⟨hs k c (by omega) (by omega) hI,vQ hI now⟩
  · intro c _;rw [show (List.replicate steps.toNat ()).length=steps.toNat by simp];exact he c
theorem xx {N:Nat} (hN:gS≤N) {p:bh} (hb:ib p≤3000000) (hw:wP p) (now steps:Int):ml N p now steps=some (k5 p now steps):=by
  have hB:(16777216:Nat)=gS:=rfl
  have hb':ib p<gS:=by omega
  have hz:iL gX p.py.ag≤3000000∧p.py.gc.gQ.length≤3000000∧p.HC.length≤3000000:=by unfold ib ks oX at hb;omega
  unfold ml k5;simp only [nS hN hb',ph hN hb' hw,ke,HW,lB];cases jr p
  · rfl
  cases hst:ia steps 0 100
  · rfl
  have hr:=iG.1 hst;simp only [HZ,Bool.or_self,HX,Bool.and_self,if_true]
  rw [show ((0:Int),(0:Int),p.HC,p.py.ag,p.py.gc.HD,p.py.gc.HL,p.py.gc.HF,p.py.gc.gQ)=ct 0 ⟨0,p.HC,p.py⟩ from rfl,
    EF hN (now:=now) hr.1 hr.2 (S:=3000000) (T:=p.HC.length) (G:=3000000) (c:=⟨0,p.HC,p.py⟩) ⟨hz.1,rfl,by simp only;omega,hw⟩]
  · rfl
  · intro k c hk hks hI;have g1:iL gX c.py.ag<gS:=Nat.lt_of_le_of_lt hI.sz (by decide)
    have g2:c.py.gc.gQ.length+20<gS:=by have:=hI.gl;omega
    have g3:c.HC.length<gS:=by rw [hI.tl];omega
    have hd:decide ((k:Int)<steps)=true:=by simpa using hks
    obtain ⟨_,_,_,s4⟩:=qU hI.w now
    show (bif decide ((k:Int)<steps) then _ else _)=_
    rw [hd];simp only [ct,HY,DT,vg hN g1 hI.w g2,HW,i5 (show k<gS by omega)];unfold pz;cases hv:decide ((kb c.py now).2 ≥ 0)
    · rfl
    · obtain ⟨har,v0,v9⟩:=s4 hv;simp only [HY,(har.at v0 v9).1,sK hN g3,HW,if_true]
  · intro c
    have hd:decide (((steps.toNat:Nat):Int)<steps)=false:=by simp;omega
    show (bif decide (((steps.toNat:Nat):Int)<steps) then _ else _)=_
    rw [hd];simp only [ct,HX]
theorem At {p:bh} (hb:ib p≤3000000) (hw:wP p) (now steps:Int):ib (k5 p now steps).1≤ib p+1000∧wP (k5 p now steps).1:=by
  unfold k5;split
  · rename_i h;rw [H3,iG] at h;have hI:=Ac (now:=now) steps.toNat 0 ⟨0,p.HC,p.py⟩ (S:=iL gX p.py.ag) (T:=p.HC.length) (G:=p.py.gc.gQ.length) ⟨Nat.le_refl _,rfl,Nat.le_refl _,hw⟩;have a1:=hI.sz;have a2:=hI.tl;have a3:=hI.gl;refine ⟨?_,hI.w⟩;unfold ib ks oX at hb ⊢;simp only;omega
  · exact ⟨Nat.le_add_right _ _,hw⟩
end Go.Kx
