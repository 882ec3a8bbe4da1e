/- Plain laws: a collector's step; what is collected. No program in sight. -/
import Derived.Test.YtikeaiogpfjdnaaGreatLStep
namespace Go.Kx
open Go
set_option linter.unusedVariables false
set_option linter.unusedSimpArgs false
set_option maxRecDepth 10000
def ku (h:ic) (k:Int):ic :=
  if (h.gc.phase==0)&&(((nth h.ag k).kind != 0)&&!(nth h.ag k).mark) then
    ic.mk (h.ag.set k.toNat (marked (nth h.ag k) true)) (jH.mk h.gc.phase h.gc.pos h.gc.round (if h.gc.gE.contains k then h.gc.gE else h.gc.gE++[k]))
  else h
theorem Dg {l:List Int} {k:Int} (h:l.length+1<iy):app l [k]=some (l++[k]):=by
  unfold app;rw [if_pos (by simpa using h)]
theorem EU {N:Nat} (hN:iy≤N) {h:ic} {k:Int} (h0:0≤k) (h1:k<(h.ag.length:Int)) (hg:h.gc.gE.length+1<iy):rM N h k=some (ku h k):=by
  have hg':h.gc.gE.length<iy:=by omega
  unfold rM ku
  rw [← Bool.cond_eq_ite]
  simp only [jk (l:=h.ag) h0 h1,tZ hN hg',Dg hg,Option.bind_some,bne]
  cases h.gc.phase==0
  · rfl
  cases (nth h.ag k).kind==0
  · cases (nth h.ag k).mark
    · cases h.gc.gE.contains k <;> rfl
    · rfl
  · rfl
theorem wC {N:Nat} (hN:iy≤N) {h:ic} {k:Int} (h0:0≤k) (h1:k<(h.ag.length:Int)) (hg:h.gc.gE.length+1<iy):m7 N h k=some (ku h k):=by
  have hg':h.gc.gE.length<iy:=by omega
  unfold m7 ku
  rw [← Bool.cond_eq_ite]
  simp only [jk (l:=h.ag) h0 h1,tE hN hg',Dg hg,Option.bind_some,bne]
  cases h.gc.phase==0
  · rfl
  cases (nth h.ag k).kind==0
  · cases (nth h.ag k).mark
    · cases h.gc.gE.contains k <;> rfl
    · rfl
  · rfl
theorem tu (h:ic) (k:Int):(ku h k).ag.length=h.ag.length:=by
  unfold ku;split <;> simp
theorem tV (h:ic) (k:Int):(ku h k).gc.gE.length≤h.gc.gE.length+1:=by
  unfold ku
  split
  · simp only
    split
    · exact Nat.le_succ _
    · simp
  · exact Nat.le_succ _
theorem lk {l:List bh} {i j:Int} {o:bh} (h0:0≤i) (h1:i<(l.length:Int)) (hj:0≤j):nth (l.set i.toNat o) j=if i=j then o else nth l j:=by
  unfold nth
  rw [List.getElem?_set]
  by_cases e:i=j
  · subst e
    rw [if_pos rfl,if_pos (by omega),if_pos rfl];rfl
  · rw [if_neg (by omega),if_neg e]
theorem Cx {h:ic} {k j:Int} {now:Int} (h0:0≤k) (h1:k<(h.ag.length:Int)) (hj:0≤j):iY (nth (ku h k).ag j) now=iY (nth h.ag j) now:=by
  unfold ku
  split
  · simp only
    rw [lk h0 h1 hj]
    split
    · rename_i e;subst e;rfl
    · rfl
  · rfl
def jm (l:List bh) (now:Int) (h:ic) (k:Int):ic:=if iY (nth l k) now then h else ku h k
def ij (h:ic):Int:=nth h.gc.gE ((h.gc.gE.length:Int) - 1)
def jD (h:ic):List Int:=h.gc.gE.take (h.gc.gE.length - 1)
def ly (h:ic) (now:Int):ic :=
  if h.gc.gE.length=0 then ic.mk h.ag (jH.mk 1 0 h.gc.round h.gc.gE)
  else if (ij h != 0)&&iY (nth h.ag (ij h)) now then ic.mk h.ag (jH.mk h.gc.phase h.gc.pos h.gc.round (jD h))
  else (jL h.ag (ij h)).foldl (jm h.ag now) (ic.mk (h.ag.set (ij h).toNat (marked (nth h.ag (ij h)) true)) (jH.mk h.gc.phase h.gc.pos h.gc.round (jD h)))
def ht (h:ic):List bh×Int×Int×Int×List Int:=(h.ag,h.gc.phase,h.gc.pos,h.gc.round,h.gc.gE)
theorem x6 {N:Nat} (hN:iy≤N) {l:List bh} {now:Int} {e:List Int} (he:∀ y,y ∈ e→0≤y∧y≤9) (hel:e.length≤10) {h:ic} (hl:h.ag.length=10) {G:Nat} (hg:h.gc.gE.length≤G) (hG:G+20<iy)
    (hx:∀ j,0≤j→iY (nth h.ag j) now=iY (nth l j) now)
    {body:Int×List bh×Int×Int×Int×List Int→Option ((Int×List bh×Int×Int×Int×List Int)⊕(Int×List bh×Int×Int×Int×List Int))}
    (hs:∀ (k:Nat) (t:ic) (y:Int),e[k]?=some y→k<e.length→t.ag.length=10→t.gc.gE.length+1<iy→(∀ j,0≤j→iY (nth t.ag j) now=iY (nth l j) now)→0≤y→y≤9→body ((k:Int),ht t)=some (.inl (((k+1:Nat):Int),ht (jm l now t y))))
    (hend:∀ t,body ((e.length:Int),ht t)=some (.inr ((e.length:Int),ht t))) :
    iter body N (0,ht h)=some ((e.length:Int),ht (e.foldl (jm l now) h)):=by
  have hB:e.length<iy:=by omega
  rw [show ((0:Int),ht h)=(fun (k:Nat) (t:ic)=>((k:Int),ht t)) 0 h from rfl,
    mP e (fun (k:Nat) (t:ic)=>((k:Int),ht t)) (fun _ t y=>jm l now t y) (fun t=>((e.length:Int),ht t)) (fun k t=>t.ag.length=10∧t.gc.gE.length≤G+k∧∀ j,0≤j→iY (nth t.ag j) now=iY (nth l j) now) ?_ ?_ (Nat.lt_of_lt_of_le hB hN) ⟨hl,hg,hx⟩,nX]
  · intro k t y hy hk ⟨i1,i2,i3⟩
    obtain ⟨y0,y9⟩:=he y (List.mem_of_getElem? hy)
    refine ⟨hs k t y hy hk i1 (by omega) i3 y0 y9,?_⟩
    unfold jm
    split
    · exact ⟨i1,by omega,i3⟩
    · have:=tV t y
      exact ⟨by rw [tu,i1],by omega,fun j hj=>by rw [Cx y0 (by omega) hj,i3 j hj]⟩
  · intro t _
    exact hend t
theorem zV {h:ic} (q:j7 h=true):∀ y,y ∈ h.gc.gE→0≤y∧y≤9:=by
  unfold j7 at q
  simp only [Bool.and_eq_true,lO] at q
  intro y hy
  obtain ⟨k,hk⟩:=List.getElem?_of_mem hy
  have:=q.2.2.2 k y hk
  unfold oU at this
  rw [Bool.and_eq_true,jb] at this
  exact this.1
theorem k8 {h:ic} (q:j7 h=true) (hg:h.gc.gE.length ≠ 0):0≤ij h∧ij h≤9:=zV q _ (nP (by omega) (by omega))
theorem yP {g:List Int} (hg:g.length ≠ 0) (hB:g.length<iy):IntKind.i64.wrap ((g.length:Int) - 1)=((g.length - 1:Nat):Int)∧sub g 0 ((g.length - 1:Nat):Int)=some (g.take (g.length - 1)):=by
  have:g.length<16777216:=hB
  exact ⟨by rw [iM (by omega) (by omega)];omega,wi (by omega)⟩
def nK (l:List bh):List bh:=l.set 0 (marked (nth l 0) true)
def jC (h:ic) (now:Int):Bool:=(h.gc.pos != 0)&&(((nth h.ag h.gc.pos).kind != 0)&&(iY (nth h.ag h.gc.pos) now || !(nth h.ag h.gc.pos).mark))
def jv (h:ic) (now:Int):List bh:=if jC h now then (kp h.ag h.gc.pos).1 else h.ag.set h.gc.pos.toNat (marked (nth h.ag h.gc.pos) false)
def ka (h:ic) (now:Int):ic×Int :=
  (if h.gc.pos==9 then ic.mk (nK (jv h now)) (jH.mk 0 0 (if 1000000<IntKind.i64.wrap (h.gc.round+1) then 1000000 else IntKind.i64.wrap (h.gc.round+1)) [0])
    else ic.mk (jv h now) (jH.mk h.gc.phase (h.gc.pos+1) h.gc.round h.gc.gE),if jC h now then h.gc.pos else -1)
def jd (h:ic) (now:Int):ic×Int:=if j7 h then (if h.gc.phase==1 then ka h now else (ly h now, -1)) else (h, -1)
theorem sM {h:ic} (q:j7 h=true):(h.gc.phase=0)∨(h.gc.phase=1∧0≤h.gc.pos∧h.gc.pos≤9):=by
  unfold j7 lz at q
  simp only [Bool.and_eq_true,Bool.or_eq_true,beq_iff_eq,jb] at q
  rcases q.2.1 with ⟨h1,_⟩ | ⟨h1,h2,_⟩
  · exact .inl h1
  · exact .inr ⟨h1,h2⟩
theorem yw (l:List bh) (i:Int):(kp l i).1.length=l.length:=by
  unfold kp;split <;> simp
theorem rU (h:ic) (now:Int):(jv h now).length=h.ag.length:=by
  unfold jv
  split
  · exact yw _ _
  · simp
theorem D9 {n:Int} (h0:0≤n) (h9:n≤9):((n+1:Int)==10)=(n==9)∧IntKind.i64.wrap (n+1)=n+1:=by
  rw [iM (by omega) (by omega)]
  exact ⟨by rw [Bool.eq_iff_iff];simp;omega,rfl⟩
theorem Au {N:Nat} (hN:iy≤N) {h:ic} (q:j7 h=true) (hp:h.gc.phase=1) (h1:jr iu h.ag<iy) (now:Int):nD N h now=some (ka h now):=by
  have ha:=mc q
  have hr:0≤h.gc.pos∧h.gc.pos≤9:=by
    rcases sM q with e | e
    · rw [hp] at e;cases e
    · exact e.2
  obtain ⟨e1,e2⟩:=D9 hr.1 hr.2
  have hsl:=rU h now
  have e0:idx (jv h now) 0=some (nth (jv h now) 0):=jk (by omega) (by rw [hsl,ha.len];decide)
  unfold nD ka
  simp only [(ha.at hr.1 hr.2).1,vm,z4 hN h1,Option.bind_some,lp,lG,e1,e2]
  rw [show (h.gc.pos != 0&&((nth h.ag h.gc.pos).kind != 0&&(iY (nth h.ag h.gc.pos) now || !(nth h.ag h.gc.pos).mark)))=jC h now from rfl]
  have hsw:(bif jC h now then some (h.gc.pos,(kp h.ag h.gc.pos).1) else some (-1,h.ag.set h.gc.pos.toNat (bh.mk (nth h.ag h.gc.pos).gen (nth h.ag h.gc.pos).kind (nth h.ag h.gc.pos).box (nth h.ag h.gc.pos).res (nth h.ag h.gc.pos).iN (nth h.ag h.gc.pos).cd (nth h.ag h.gc.pos).wait (nth h.ag h.gc.pos).iO (nth h.ag h.gc.pos).iP false (nth h.ag h.gc.pos).ib (nth h.ag h.gc.pos).data (nth h.ag h.gc.pos).queue)):Option (Int×List bh))=some (if jC h now then h.gc.pos else -1,jv h now):=by
    unfold jv
    cases jC h now <;> rfl
  rw [hsw]
  simp only [Option.bind_some,e0]
  cases h.gc.pos==9 <;> rfl
theorem yy (t:ic):ic.mk t.ag (jH.mk t.gc.phase t.gc.pos t.gc.round t.gc.gE)=t:=rfl
theorem Dx {N:Nat} (hN:iy≤N) {h:ic} (h1:jr iu h.ag<iy) (h2:h.gc.gE.length+20<iy) (now:Int):qp N h now=some (jd h now):=by
  have h2':h.gc.gE.length<iy:=by omega
  unfold qp jd
  simp only [xi hN h1 h2',zv hN h1 h2',Option.bind_some]
  cases q:j7 h
  · rfl
  have ha:=mc q
  simp only [Bool.not_true,cond_false,if_true]
  cases hp:h.gc.phase==1
  · simp only [cond_false,Bool.false_eq_true,if_false]
    unfold ly
    by_cases hg:h.gc.gE.length=0
    · have:((h.gc.gE.length:Int)==0)=true:=by simp [hg]
      rw [this,if_pos hg];rfl
    · have:((h.gc.gE.length:Int)==0)=false:=beq_eq_false_iff_ne.2 (by omega)
      obtain ⟨g1,g2⟩:=yP hg h2'
      obtain ⟨l0,l9⟩:=k8 q hg
      obtain ⟨e1,e2⟩:=k4 ha (ij h)
      have eg:idx h.gc.gE ((h.gc.gE.length - 1:Nat):Int)=some (ij h):=by
        rw [jk (l:=h.gc.gE) (i:=((h.gc.gE.length - 1:Nat):Int)) (by omega) (by omega)]
        unfold ij
        rw [show ((h.gc.gE.length:Int) - 1)=((h.gc.gE.length - 1:Nat):Int) by omega]
      rw [this,if_neg hg,g1]
      simp only [cond_false,eg,g2,(ha.at l0 l9).1,vm,Option.bind_some]
      rw [show (bif ij h != 0 then some (iY (nth h.ag (ij h)) now) else some false:Option Bool)=some ((ij h != 0)&&iY (nth h.ag (ij h)) now) from lp _ _]
      simp only [Option.bind_some]
      cases hc:((ij h != 0)&&iY (nth h.ag (ij h)) now)
      · simp only [cond_false,Bool.false_eq_true,if_false]
        rw [CY hN ha l0 l9]
        simp only [Option.bind_some]
        rw [show ((0:Int),h.ag.set (ij h).toNat (bh.mk (nth h.ag (ij h)).gen (nth h.ag (ij h)).kind (nth h.ag (ij h)).box (nth h.ag (ij h)).res (nth h.ag (ij h)).iN (nth h.ag (ij h)).cd (nth h.ag (ij h)).wait (nth h.ag (ij h)).iO (nth h.ag (ij h)).iP true (nth h.ag (ij h)).ib (nth h.ag (ij h)).data (nth h.ag (ij h)).queue),h.gc.phase,h.gc.pos,h.gc.round,h.gc.gE.take (h.gc.gE.length - 1)) =
          ((0:Int),ht (ic.mk (h.ag.set (ij h).toNat (marked (nth h.ag (ij h)) true)) (jH.mk h.gc.phase h.gc.pos h.gc.round (jD h)))) from rfl,
          x6 hN (l:=h.ag) (now:=now) e1 e2 (h:=ic.mk (h.ag.set (ij h).toNat (marked (nth h.ag (ij h)) true)) (jH.mk h.gc.phase h.gc.pos h.gc.round (jD h))) (by simp [ha.len]) (G:=h.gc.gE.length) (by unfold jD;simp) h2
            (fun j hj=>by
              simp only
              rw [lk l0 (by rw [ha.len];omega) hj]
              split
              · rename_i e;rw [← e];rfl
              · rfl)]
        · rfl
        · intro k t y hy hk t1 t2 t3 y0 y9
          simp only [ht,jt hk,cond_true,iT,hy,Option.bind_some,(ha.at y0 y9).1,vm,yy,EU hN y0 (show y<(t.ag.length:Int) by rw [t1];omega) t2,jo (show k<iy by omega)]
          unfold jm
          cases iY (nth h.ag y) now <;> rfl
        · intro t
          simp only [ht,ju,cond_false]
      · rfl
  · have hp1:h.gc.phase=1:=by simpa using hp
    simp only [cond_true,Au hN q hp1 h1,Option.bind_some,if_true]
theorem zl {o:bh} (h:jF o=true) (hk:(o.kind==0)=true):marked o false=o:=by
  unfold jF at h
  simp only [hk,cond_true,Bool.and_eq_true,decide_eq_true_eq] at h
  rw [h.2.2];rfl
theorem B1 {N:Nat} (hN:iy≤N) {h:ic} (q:j7 h=true) (h1:jr iu h.ag<iy) (hw:wA h.ag) (h2:h.gc.gE.length+20<iy) (now:Int):pG N h now=some (ly h now):=by
  have h2':h.gc.gE.length<iy:=by omega
  have hB:h.gc.gE.length<16777216:=h2'
  have ha:=mc q
  unfold pG ly
  by_cases hg:h.gc.gE.length=0
  · have:decide (IntKind.i64.wrap ((h.gc.gE.length:Int) - 1)<0)=true:=by rw [hg];decide
    rw [this,if_pos hg];rfl
  · obtain ⟨g1,g2⟩:=yP hg h2'
    obtain ⟨l0,l9⟩:=k8 q hg
    obtain ⟨e1,e2⟩:=k4 ha (ij h)
    have eg:idx h.gc.gE ((h.gc.gE.length - 1:Nat):Int)=some (ij h):=by
      rw [jk (l:=h.gc.gE) (i:=((h.gc.gE.length - 1:Nat):Int)) (by omega) (by omega)]
      unfold ij
      rw [show ((h.gc.gE.length:Int) - 1)=((h.gc.gE.length - 1:Nat):Int) by omega]
    have hd:decide (((h.gc.gE.length - 1:Nat):Int)<0)=false:=by simp
    have hgt:decide (ij h > 0)=(ij h != 0):=by
      rw [Bool.eq_iff_iff];simp;omega
    rw [g1,hd,if_neg hg]
    simp only [cond_false,eg,g2,(ha.at l0 l9).1,rL,Option.bind_some,hgt]
    rw [show (bif ij h != 0 then some (iY (nth h.ag (ij h)) now) else some false:Option Bool)=some ((ij h != 0)&&iY (nth h.ag (ij h)) now) from lp _ _]
    simp only [Option.bind_some]
    cases hc:((ij h != 0)&&iY (nth h.ag (ij h)) now)
    · simp only [cond_false,Bool.false_eq_true,if_false]
      rw [xp hN h1 hw ha l0 l9]
      simp only [Option.bind_some]
      rw [show ((0:Int),h.ag.set (ij h).toNat (bh.mk (nth h.ag (ij h)).gen (nth h.ag (ij h)).kind (nth h.ag (ij h)).box (nth h.ag (ij h)).res (nth h.ag (ij h)).iN (nth h.ag (ij h)).cd (nth h.ag (ij h)).wait (nth h.ag (ij h)).iO (nth h.ag (ij h)).iP true (nth h.ag (ij h)).ib (nth h.ag (ij h)).data (nth h.ag (ij h)).queue),h.gc.phase,h.gc.pos,h.gc.round,h.gc.gE.take (h.gc.gE.length - 1)) =
        ((0:Int),ht (ic.mk (h.ag.set (ij h).toNat (marked (nth h.ag (ij h)) true)) (jH.mk h.gc.phase h.gc.pos h.gc.round (jD h)))) from rfl,
        x6 hN (l:=h.ag) (now:=now) e1 e2 (h:=ic.mk (h.ag.set (ij h).toNat (marked (nth h.ag (ij h)) true)) (jH.mk h.gc.phase h.gc.pos h.gc.round (jD h))) (by simp [ha.len]) (G:=h.gc.gE.length) (by unfold jD;simp) h2
          (fun j hj=>by
            simp only
            rw [lk l0 (by rw [ha.len];omega) hj]
            split
            · rename_i e;rw [← e];rfl
            · rfl)]
      · rfl
      · intro k t y hy hk t1 t2 t3 y0 y9
        simp only [ht,jt hk,cond_true,iT,hy,Option.bind_some,jk (l:=t.ag) y0 (show y<(t.ag.length:Int) by rw [t1];omega),rL,t3 y y0,yy,wC hN y0 (show y<(t.ag.length:Int) by rw [t1];omega) t2,jo (show k<iy by omega)]
        unfold jm
        cases iY (nth h.ag y) now <;> rfl
      · intro t
        simp only [ht,ju,cond_false]
    · rfl
theorem wq {N:Nat} (hN:iy≤N) {h:ic} (h1:jr iu h.ag<iy) (hw:wA h.ag) (h2:h.gc.gE.length+20<iy) (now:Int):lX N h now=some (jd h now):=by
  have h2':h.gc.gE.length<iy:=by omega
  unfold lX jd
  simp only [s8 hN h1 h2',sG hN h1 h2' hw,Option.bind_some]
  cases q:j7 h
  · rfl
  have ha:=mc q
  simp only [Bool.not_true,cond_false,if_true]
  rcases sM q with hp | ⟨hp,hr⟩
  · rw [hp]
    simp only [beq_self_eq_true,cond_true,B1 hN q h1 hw h2,Option.bind_some]
    rfl
  · obtain ⟨e1,e2⟩:=D9 hr.1 hr.2
    have hsl:=rU h now
    have e0:idx (jv h now) 0=some (nth (jv h now) 0):=jk (by omega) (by rw [hsl,ha.len];decide)
    have hgt:decide (h.gc.pos > 0)=(h.gc.pos != 0):=by rw [Bool.eq_iff_iff];simp;omega
    rw [show (h.gc.phase==0)=false by rw [hp];rfl,show (h.gc.phase==1)=true by rw [hp];rfl]
    unfold ka
    simp only [cond_false,(ha.at hr.1 hr.2).1,rL,vD hN h1 hw,Option.bind_some,hgt,e1,e2]
    rw [show (bif h.gc.pos != 0 then (bif (nth h.ag h.gc.pos).kind != 0 then (bif !(nth h.ag h.gc.pos).mark then some true else some (iY (nth h.ag h.gc.pos) now)) else some false) else some false:Option Bool)=some (jC h now) by
      unfold jC;rw [lG,lp,lp,Bool.or_comm]]
    simp only [Option.bind_some]
    have hsw:(bif jC h now then some (h.gc.pos,(kp h.ag h.gc.pos).1) else bif (nth h.ag h.gc.pos).kind != 0 then some (-1,h.ag.set h.gc.pos.toNat (bh.mk (nth h.ag h.gc.pos).gen (nth h.ag h.gc.pos).kind (nth h.ag h.gc.pos).box (nth h.ag h.gc.pos).res (nth h.ag h.gc.pos).iN (nth h.ag h.gc.pos).cd (nth h.ag h.gc.pos).wait (nth h.ag h.gc.pos).iO (nth h.ag h.gc.pos).iP false (nth h.ag h.gc.pos).ib (nth h.ag h.gc.pos).data (nth h.ag h.gc.pos).queue)) else some (-1,h.ag):Option (Int×List bh))=some (if jC h now then h.gc.pos else -1,jv h now):=by
      unfold jv
      cases jC h now
      · cases hk:(nth h.ag h.gc.pos).kind != 0
        · have hk0:((nth h.ag h.gc.pos).kind==0)=true:=by simpa [bne] using hk
          have hid:h.ag.set h.gc.pos.toNat (marked (nth h.ag h.gc.pos) false)=h.ag:=by
            rw [zl (ha.ok _ (ha.at hr.1 hr.2).2) hk0]
            exact qg (lj hr.1 (by rw [ha.len];omega))
          simp [hid]
        · rfl
      · rfl
    rw [hsw]
    simp only [Option.bind_some,e0]
    cases h.gc.pos==9 <;> rfl
theorem xO {α:Type} {f:α→Nat} {z:α}:∀ {l:List α} {k:Nat} {y:α},l[k]?=some y→f z=f y→ou f (l.set k z)=ou f l
  | x::l,0,y,h,e=>by simp at h;subst h;simp [ou,e]
  | x::l,k+1,y,h,e=>by
    simp only [List.set_cons_succ,ou]
    rw [xO (l:=l) (k:=k) (y:=y) (by simpa using h) e]
theorem mS {l:List bh} {i:Int} {z:bh} (h0:0≤i) (h1:i<(l.length:Int)) (e:iu z=iu (nth l i)):jr iu (l.set i.toNat z)=jr iu l:=by
  unfold jr
  rw [xO (lj h0 h1) e,List.length_set]
theorem ur {l:List bh} {now:Int}:∀ (e:List Int) (h:ic),(∀ y,y ∈ e→0≤y∧y≤9)→h.ag.length=10→wA h.ag →
    jr iu (e.foldl (jm l now) h).ag=jr iu h.ag∧wA (e.foldl (jm l now) h).ag∧(e.foldl (jm l now) h).gc.gE.length≤h.gc.gE.length+e.length
  | [],h,_,_,hw=>⟨rfl,hw,Nat.le_refl _⟩
  | y::e,h,he,hl,hw=>by
    obtain ⟨y0,y9⟩:=he y (by simp)
    have hy:y<(h.ag.length:Int):=by rw [hl];omega
    have key:jr iu (jm l now h y).ag=jr iu h.ag∧wA (jm l now h y).ag∧(jm l now h y).gc.gE.length≤h.gc.gE.length+1∧(jm l now h y).ag.length=10:=by
      unfold jm
      split
      · exact ⟨rfl,hw,Nat.le_succ _,hl⟩
      · refine ⟨?_,?_,tV h y,by rw [tu,hl]⟩
        · unfold ku
          split
          · exact mS y0 hy rfl
          · rfl
        · unfold ku
          split
          · exact kB hw (show lQ (marked (nth h.ag y) true) from hw (nth h.ag y) (nP y0 hy))
          · exact hw
    obtain ⟨a1,a2,a3⟩:=ur e (jm l now h y) (fun z hz=>he z (by simp [hz])) key.2.2.2 key.2.1
    simp only [List.foldl_cons,List.length_cons]
    exact ⟨a1.trans key.1,a2,by omega⟩
theorem CZ (i:Int) (o:bh):iu (k7 i o)=iu o:=by
  unfold k7
  split
  · rfl
  · unfold iu;simp
theorem DS {i:Int} {o:bh} (h:lQ o):lQ (k7 i o):=by
  unfold k7
  split
  · exact h
  · exact h
theorem Bh (g:Int):lQ (blank g):=by show (-9223372036854775808:Int)≤0;decide
theorem BV {l:List bh} (hw:wA l) (i:Int):jr iu (kp l i).1≤jr iu l∧wA (kp l i).1:=by
  unfold kp
  split
  · refine ⟨?_,fun o ho=>?_⟩
    · show jr iu ((l.set i.toNat (blank (nth l i).gen)).map (k7 i))≤_
      rw [EK (CZ i)]
      exact vr
    · obtain ⟨y,hy,rfl⟩:=List.mem_map.1 ho
      exact DS (kB hw (Bh _) y hy)
  · exact ⟨Nat.le_refl _,hw⟩
theorem nt {h:ic} (hw:wA h.ag) (now:Int):jr iu (jd h now).1.ag≤jr iu h.ag∧wA (jd h now).1.ag∧(jd h now).1.gc.gE.length≤h.gc.gE.length+10 ∧
    (decide ((jd h now).2 ≥ 0)=true→Ar h.ag∧0≤(jd h now).2∧(jd h now).2≤9):=by
  unfold jd
  split
  · rename_i q
    have ha:=mc q
    have hl:=ha.len
    split
    · rename_i hp
      have hp:h.gc.phase=1:=by simpa using hp
      have hr:0≤h.gc.pos∧h.gc.pos≤9:=by
        rcases sM q with e | e
        · rw [hp] at e;cases e
        · exact e.2
      have hs:jr iu (jv h now)≤jr iu h.ag∧wA (jv h now):=by
        unfold jv
        split
        · exact BV hw _
        · exact ⟨Nat.le_of_eq (mS hr.1 (by rw [hl];omega) rfl),kB hw (show lQ (marked (nth h.ag h.gc.pos) false) from hw (nth h.ag h.gc.pos) (ha.at hr.1 hr.2).2)⟩
      have hsl:=rU h now
      have h0:(0:Int)<((jv h now).length:Int):=by rw [hsl,hl];decide
      refine ⟨?_,?_,?_,fun hd=>⟨ha,?_⟩⟩
      · unfold ka nK
        simp only
        split
        · show jr iu ((jv h now).set (0:Int).toNat _)≤_
          rw [mS (z:=marked (nth (jv h now) 0) true) (Int.le_refl 0) h0 rfl];exact hs.1
        · exact hs.1
      · unfold ka nK
        simp only
        split
        · exact kB hs.2 (show lQ (marked (nth (jv h now) 0) true) from hs.2 (nth (jv h now) 0) (nP (Int.le_refl 0) h0))
        · exact hs.2
      · unfold ka
        simp only
        split
        · simp
        · exact Nat.le_add_right _ _
      · unfold ka at hd ⊢
        simp only at hd ⊢
        split
        · exact hr
        · rename_i hn
          rw [if_neg hn] at hd
          simp at hd
    · refine ⟨?_,?_,?_,fun hd=>by simp at hd⟩
      all_goals
        unfold ly
        simp only
        split
        · first | exact Nat.le_refl _ | exact hw | exact Nat.le_add_right _ _
        · rename_i hg
          split
          · first | exact Nat.le_refl _ | exact hw | (unfold jD;simp;omega)
          · obtain ⟨l0,l9⟩:=k8 q hg
            obtain ⟨e1,e2⟩:=k4 ha (ij h)
            obtain ⟨a1,a2,a3⟩:=ur (l:=h.ag) (now:=now) (jL h.ag (ij h)) (ic.mk (h.ag.set (ij h).toNat (marked (nth h.ag (ij h)) true)) (jH.mk h.gc.phase h.gc.pos h.gc.round (jD h))) e1 (by simp [hl]) (kB hw (show lQ (marked (nth h.ag (ij h)) true) from hw (nth h.ag (ij h)) (ha.at l0 l9).2))
            first
              | exact Nat.le_of_eq (a1.trans (mS l0 (by rw [hl];omega) rfl))
              | exact a2
              | (refine Nat.le_trans a3 ?_
                 unfold jD
                 simp
                 omega)
  · exact ⟨Nat.le_refl _,hw,Nat.le_add_right _ _,fun hd=>by simp at hd⟩
structure su where
  n:Int
  tree:List iq
  heap:ic
def lJ (now:Int) (c:su):su :=
  if decide ((jd c.heap now).2 ≥ 0) then ⟨IntKind.i64.wrap (c.n+1),(lf c.tree (nth c.heap.ag (jd c.heap now).2).res ⟨(nth c.heap.ag (jd c.heap now).2).cd,0,0⟩).1,(jd c.heap now).1⟩
  else ⟨c.n,c.tree,(jd c.heap now).1⟩
def sJ (now:Int):Nat→su→su
  | 0,c=>c
  | k+1,c=>sJ now k (lJ now c)
def jS (p:ia) (now steps:Int):ia×Int :=
  if jR p&&iE steps 0 100 then
    (ia.mk p.label p.own (sJ now steps.toNat ⟨0,p.tree,p.heap⟩).tree (sJ now steps.toNat ⟨0,p.tree,p.heap⟩).heap p.iz p.next p.want p.hZ p.iH p.lost,(sJ now steps.toNat ⟨0,p.tree,p.heap⟩).n)
  else (p,0)
def ct (k:Nat) (c:su):Int×Int×List iq×List bh×Int×Int×Int×List Int:=(c.n,(k:Int),c.tree,c.heap.ag,c.heap.gc.phase,c.heap.gc.pos,c.heap.gc.round,c.heap.gc.gE)
structure zo (S T G:Nat) (k:Nat) (c:su):Prop where
  sz:jr iu c.heap.ag≤S
  tl:c.tree.length=T
  gl:c.heap.gc.gE.length≤G+10 * k
  w:wA c.heap.ag
theorem xd {S T G k:Nat} {c:su} (h:zo S T G k c) (now:Int):zo S T G (k+1) (lJ now c):=by
  obtain ⟨s1,s2,s3,_⟩:=nt h.w now
  have a1:=h.sz
  have a2:=h.tl
  have a3:=h.gl
  unfold lJ
  split
  · exact ⟨by simp only;omega,by simp only;rw [uz,a2],by simp only;omega,s2⟩
  · exact ⟨by simp only;omega,a2,by simp only;omega,s2⟩
theorem Be {S T G:Nat} {now:Int}:∀ (j k:Nat) (c:su),zo S T G k c→zo S T G (k+j) (sJ now j c)
  | 0,k,c,h=>h
  | j+1,k,c,h=>by
    have:=Be (now:=now) j (k+1) (lJ now c) (xd h now)
    rwa [show k+1+j=k+(j+1) by omega] at this
theorem Bj {N:Nat} (hN:iy≤N) {now steps:Int} (h0:0≤steps) (h1:steps≤100) {S T G:Nat} {c:su} (hc:zo S T G 0 c)
    {body:Int×Int×List iq×List bh×Int×Int×Int×List Int→Option ((Int×Int×List iq×List bh×Int×Int×Int×List Int)⊕(Int×Int×List iq×List bh×Int×Int×Int×List Int))}
    (hs:∀ (k:Nat) (c:su),k<100→(k:Int)<steps→zo S T G k c→body (ct k c)=some (.inl (ct (k+1) (lJ now c)))) (he:∀ c,body (ct steps.toNat c)=some (.inr (ct steps.toNat c))) :
    iter body N (ct 0 c)=some (ct steps.toNat (sJ now steps.toNat c)):=by
  have e:∀ (j i:Nat) (c:su),foldI (fun _ c (_:Unit)=>lJ now c) i c (List.replicate j ())=sJ now j c:=by
    intro j
    induction j with
    | zero=>intro i c;rfl
    | succ j ih=>intro i c;rw [List.replicate_succ];unfold foldI sJ;exact ih _ _
  rw [mP (List.replicate steps.toNat ()) ct (fun _ c _=>lJ now c) (fun c=>ct steps.toNat c) (fun k c=>zo S T G k c) ?_ ?_ (by have:16777216≤N:=hN;simp;omega) hc,e]
  · intro k c y hy hk hI
    have hk:k<steps.toNat:=by simpa using hk
    exact ⟨hs k c (by omega) (by omega) hI,xd hI now⟩
  · intro c _
    rw [show (List.replicate steps.toNat ()).length=steps.toNat by simp]
    exact he c
theorem yn {N:Nat} (hN:iy≤N) {p:ia} (hb:je p≤3000000) (hw:wP p) (now steps:Int):mM N p now steps=some (jS p now steps):=by
  have hB:(16777216:Nat)=iy:=rfl
  have hb':je p<iy:=by omega
  have hz:jr iu p.heap.ag≤3000000∧p.heap.gc.gE.length≤3000000∧p.tree.length≤3000000:=by unfold je ml oH at hb;omega
  unfold mM jS
  simp only [BH hN hb',DG hN hb',oV,Option.bind_some,lG]
  cases jR p
  · rfl
  cases hst:iE steps 0 100
  · rfl
  have hr:=jb.1 hst
  simp only [Bool.not_true,Bool.or_self,cond_false,Bool.and_self,if_true]
  rw [show ((0:Int),(0:Int),p.tree,p.heap.ag,p.heap.gc.phase,p.heap.gc.pos,p.heap.gc.round,p.heap.gc.gE)=ct 0 ⟨0,p.tree,p.heap⟩ from rfl,
    Bj hN (now:=now) hr.1 hr.2 (S:=3000000) (T:=p.tree.length) (G:=3000000) (c:=⟨0,p.tree,p.heap⟩) ⟨hz.1,rfl,by simp only;omega,hw⟩]
  · rfl
  · intro k c hk hks hI
    have g1:jr iu c.heap.ag<iy:=Nat.lt_of_le_of_lt hI.sz (by decide)
    have g2:c.heap.gc.gE.length+20<iy:=by have:=hI.gl;omega
    have g3:c.tree.length<iy:=by rw [hI.tl];omega
    have hd:decide ((k:Int)<steps)=true:=by simpa using hks
    obtain ⟨_,_,_,s4⟩:=nt hI.w now
    show (bif decide ((k:Int)<steps) then _ else _)=_
    rw [hd]
    simp only [ct,cond_true,yy,Dx hN g1 g2,Option.bind_some,jo (show k<iy by omega)]
    unfold lJ
    cases hv:decide ((jd c.heap now).2 ≥ 0)
    · rfl
    · obtain ⟨har,v0,v9⟩:=s4 hv
      simp only [cond_true,(har.at v0 v9).1,DJ,BM hN g3,Option.bind_some,if_true];rfl
  · intro c
    have hd:decide (((steps.toNat:Nat):Int)<steps)=false:=by simp;omega
    show (bif decide (((steps.toNat:Nat):Int)<steps) then _ else _)=_
    rw [hd]
    simp only [ct,cond_false]
theorem yr {N:Nat} (hN:iy≤N) {p:ia} (hb:je p≤3000000) (hw:wP p) (now steps:Int):mF N p now steps=some (jS p now steps):=by
  have hB:(16777216:Nat)=iy:=rfl
  have hb':je p<iy:=by omega
  have hz:jr iu p.heap.ag≤3000000∧p.heap.gc.gE.length≤3000000∧p.tree.length≤3000000:=by unfold je ml oH at hb;omega
  unfold mF jS
  simp only [uB hN hb',sv hN hb' hw,mw,Option.bind_some,lG]
  cases jR p
  · rfl
  cases hst:iE steps 0 100
  · rfl
  have hr:=jb.1 hst
  simp only [Bool.not_true,Bool.or_self,cond_false,Bool.and_self,if_true]
  rw [show ((0:Int),(0:Int),p.tree,p.heap.ag,p.heap.gc.phase,p.heap.gc.pos,p.heap.gc.round,p.heap.gc.gE)=ct 0 ⟨0,p.tree,p.heap⟩ from rfl,
    Bj hN (now:=now) hr.1 hr.2 (S:=3000000) (T:=p.tree.length) (G:=3000000) (c:=⟨0,p.tree,p.heap⟩) ⟨hz.1,rfl,by simp only;omega,hw⟩]
  · rfl
  · intro k c hk hks hI
    have g1:jr iu c.heap.ag<iy:=Nat.lt_of_le_of_lt hI.sz (by decide)
    have g2:c.heap.gc.gE.length+20<iy:=by have:=hI.gl;omega
    have g3:c.tree.length<iy:=by rw [hI.tl];omega
    have hd:decide ((k:Int)<steps)=true:=by simpa using hks
    obtain ⟨_,_,_,s4⟩:=nt hI.w now
    show (bif decide ((k:Int)<steps) then _ else _)=_
    rw [hd]
    simp only [ct,cond_true,yy,wq hN g1 hI.w g2,Option.bind_some,jo (show k<iy by omega)]
    unfold lJ
    cases hv:decide ((jd c.heap now).2 ≥ 0)
    · rfl
    · obtain ⟨har,v0,v9⟩:=s4 hv
      simp only [cond_true,(har.at v0 v9).1,wQ hN g3,Option.bind_some,if_true]
  · intro c
    have hd:decide (((steps.toNat:Nat):Int)<steps)=false:=by simp;omega
    show (bif decide (((steps.toNat:Nat):Int)<steps) then _ else _)=_
    rw [hd]
    simp only [ct,cond_false]
theorem Bq {p:ia} (hb:je p≤3000000) (hw:wP p) (now steps:Int):je (jS p now steps).1≤je p+1000∧wP (jS p now steps).1:=by
  unfold jS
  split
  · rename_i h
    rw [Bool.and_eq_true,jb] at h
    have hI:=Be (now:=now) steps.toNat 0 ⟨0,p.tree,p.heap⟩ (S:=jr iu p.heap.ag) (T:=p.tree.length) (G:=p.heap.gc.gE.length) ⟨Nat.le_refl _,rfl,Nat.le_refl _,hw⟩
    have a1:=hI.sz
    have a2:=hI.tl
    have a3:=hI.gl
    refine ⟨?_,hI.w⟩
    unfold je ml oH at hb ⊢
    simp only
    omega
  · exact ⟨Nat.le_add_right _ _,hw⟩
end Go.Kx
