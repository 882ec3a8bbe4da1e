/- Plain laws: a collector's step; what is collected. No program in sight. -/
import Derived.Test.YtdlodpchnaojhaaGreatLHandle
namespace Go.Kx
open Go
set_option linter.unusedVariables false
set_option linter.unusedSimpArgs false
set_option maxRecDepth 10000
def lT (h:iA) (k:Int):iA :=
  if (h.gc.phase==0)&&(((nth h.ag k).kind != 0)&&!(nth h.ag k).mark) then
    iA.mk (h.ag.set k.toNat (marked (nth h.ag k) true)) (ks.mk h.gc.phase h.gc.pos h.gc.round (if h.gc.ia.contains k then h.gc.ia else h.gc.ia++[k]))
  else h
theorem E3 {l:List Int} {k:Int} (h:l.length+1<im):app l [k]=some (l++[k]):=by
  unfold app;rw [if_pos (by simpa using h)]
theorem IZ {N:Nat} (hN:im≤N) {h:iA} {k:Int} (h0:0≤k) (h1:k<(h.ag.length:Int)) (hg:h.gc.ia.length+1<im):tW N h k=some (lT h k):=by
  have hg':h.gc.ia.length<im:=by omega
  unfold tW lT
  rw [← Bool.cond_eq_ite]
  simp only [jC (l:=h.ag) h0 h1,wj hN hg',E3 hg,Option.bind_some,bne]
  cases h.gc.phase==0
  · rfl
  cases (nth h.ag k).kind==0
  · cases (nth h.ag k).mark
    · cases h.gc.ia.contains k <;> rfl
    · rfl
  · rfl
theorem z5 {N:Nat} (hN:im≤N) {h:iA} {k:Int} (h0:0≤k) (h1:k<(h.ag.length:Int)) (hg:h.gc.ia.length+1<im):oJ N h k=some (lT h k):=by
  have hg':h.gc.ia.length<im:=by omega
  unfold oJ lT
  rw [← Bool.cond_eq_ite]
  simp only [jC (l:=h.ag) h0 h1,x7 hN hg',E3 hg,Option.bind_some,bne]
  cases h.gc.phase==0
  · rfl
  cases (nth h.ag k).kind==0
  · cases (nth h.ag k).mark
    · cases h.gc.ia.contains k <;> rfl
    · rfl
  · rfl
theorem yx (h:iA) (k:Int):(lT h k).ag.length=h.ag.length:=by
  unfold lT;split <;> simp
theorem wO (h:iA) (k:Int):(lT h k).gc.ia.length≤h.gc.ia.length+1:=by
  unfold lT
  split
  · simp only
    split
    · exact Nat.le_succ _
    · simp
  · exact Nat.le_succ _
theorem uO {l:List cd} {i j:Int} {o:cd} (h0:0≤i) (h1:i<(l.length:Int)) (hj:0≤j):nth (l.set i.toNat o) j=if i=j then o else nth l j:=by
  unfold nth
  rw [List.getElem?_set]
  by_cases e:i=j
  · subst e
    rw [if_pos rfl,if_pos (by omega),if_pos rfl];rfl
  · rw [if_neg (by omega),if_neg e]
theorem Ha {h:iA} {k j:Int} {now:Int} (h0:0≤k) (h1:k<(h.ag.length:Int)) (hj:0≤j):jy (nth (lT h k).ag j) now=jy (nth h.ag j) now:=by
  unfold lT
  split
  · simp only
    rw [uO h0 h1 hj]
    split
    · rename_i e;subst e;rfl
    · rfl
  · rfl
def kB (l:List cd) (now:Int) (h:iA) (k:Int):iA:=if jy (nth l k) now then h else lT h k
def iK (h:iA):Int:=nth h.gc.ia ((h.gc.ia.length:Int) - 1)
def mo (h:iA):List Int:=h.gc.ia.take (h.gc.ia.length - 1)
def oU (h:iA) (now:Int):iA :=
  if h.gc.ia.length=0 then iA.mk h.ag (ks.mk 1 0 h.gc.round h.gc.ia)
  else if (iK h != 0)&&jy (nth h.ag (iK h)) now then iA.mk h.ag (ks.mk h.gc.phase h.gc.pos h.gc.round (mo h))
  else (lE h.ag (iK h)).foldl (kB h.ag now) (iA.mk (h.ag.set (iK h).toNat (marked (nth h.ag (iK h)) true)) (ks.mk h.gc.phase h.gc.pos h.gc.round (mo h)))
def ht (h:iA):List cd×Int×Int×Int×List Int:=(h.ag,h.gc.phase,h.gc.pos,h.gc.round,h.gc.ia)
theorem AT {N:Nat} (hN:im≤N) {l:List cd} {now:Int} {e:List Int} (he:∀ y,y ∈ e→0≤y∧y≤9) (hel:e.length≤10) {h:iA} (hl:h.ag.length=10) {G:Nat} (hg:h.gc.ia.length≤G) (hG:G+20<im)
    (hx:∀ j,0≤j→jy (nth h.ag j) now=jy (nth l j) now)
    {body:Int×List cd×Int×Int×Int×List Int→Option ((Int×List cd×Int×Int×Int×List Int)⊕(Int×List cd×Int×Int×Int×List Int))}
    (hs:∀ (k:Nat) (t:iA) (y:Int),e[k]?=some y→k<e.length→t.ag.length=10→t.gc.ia.length+1<im→(∀ j,0≤j→jy (nth t.ag j) now=jy (nth l j) now)→0≤y→y≤9→body ((k:Int),ht t)=some (.inl (((k+1:Nat):Int),ht (kB l now t y))))
    (hend:∀ t,body ((e.length:Int),ht t)=some (.inr ((e.length:Int),ht t))) :
    iter body N (0,ht h)=some ((e.length:Int),ht (e.foldl (kB l now) h)):=by
  have hB:e.length<im:=by omega
  rw [show ((0:Int),ht h)=(fun (k:Nat) (t:iA)=>((k:Int),ht t)) 0 h from rfl,
    kK e (fun (k:Nat) (t:iA)=>((k:Int),ht t)) (fun _ t y=>kB l now t y) (fun t=>((e.length:Int),ht t)) (fun k t=>t.ag.length=10∧t.gc.ia.length≤G+k∧∀ j,0≤j→jy (nth t.ag j) now=jy (nth l j) now) ?_ ?_ (Nat.lt_of_lt_of_le hB hN) ⟨hl,hg,hx⟩,lA]
  · intro k t y hy hk ⟨i1,i2,i3⟩
    obtain ⟨y0,y9⟩:=he y (List.mem_of_getElem? hy)
    refine ⟨hs k t y hy hk i1 (by omega) i3 y0 y9,?_⟩
    unfold kB
    split
    · exact ⟨i1,by omega,i3⟩
    · have:=wO t y
      exact ⟨by rw [yx,i1],by omega,fun j hj=>by rw [Ha y0 (by omega) hj,i3 j hj]⟩
  · intro t _
    exact hend t
theorem DF {h:iA} (q:ku h=true):∀ y,y ∈ h.gc.ia→0≤y∧y≤9:=by
  unfold ku at q
  simp only [Bool.and_eq_true,mB] at q
  intro y hy
  obtain ⟨k,hk⟩:=List.getElem?_of_mem hy
  have:=q.2.2.2 k y hk
  unfold qY at this
  rw [Bool.and_eq_true,i7] at this
  exact this.1
theorem qj {h:iA} (q:ku h=true) (hg:h.gc.ia.length ≠ 0):0≤iK h∧iK h≤9:=DF q _ (kT (by omega) (by omega))
theorem CV {g:List Int} (hg:g.length ≠ 0) (hB:g.length<im):IntKind.i64.wrap ((g.length:Int) - 1)=((g.length - 1:Nat):Int)∧sub g 0 ((g.length - 1:Nat):Int)=some (g.take (g.length - 1)):=by
  have:g.length<16777216:=hB
  exact ⟨by rw [iI (by omega) (by omega)];omega,wI (by omega)⟩
def zM (l:List cd):List cd:=l.set 0 (marked (nth l 0) true)
def kQ (h:iA) (now:Int):Bool:=(h.gc.pos != 0)&&(((nth h.ag h.gc.pos).kind != 0)&&(jy (nth h.ag h.gc.pos) now || !(nth h.ag h.gc.pos).mark))
def lh (h:iA) (now:Int):List cd:=if kQ h now then (k7 h.ag h.gc.pos).1 else h.ag.set h.gc.pos.toNat (marked (nth h.ag h.gc.pos) false)
def mb (h:iA) (now:Int):iA×Int :=
  (if h.gc.pos==9 then iA.mk (zM (lh h now)) (ks.mk 0 0 (if 1000000<IntKind.i64.wrap (h.gc.round+1) then 1000000 else IntKind.i64.wrap (h.gc.round+1)) [0])
    else iA.mk (lh h now) (ks.mk h.gc.phase (h.gc.pos+1) h.gc.round h.gc.ia),if kQ h now then h.gc.pos else -1)
def kg (h:iA) (now:Int):iA×Int:=if ku h then (if h.gc.phase==1 then mb h now else (oU h now, -1)) else (h, -1)
theorem vb {h:iA} (q:ku h=true):(h.gc.phase=0)∨(h.gc.phase=1∧0≤h.gc.pos∧h.gc.pos≤9):=by
  unfold ku mW at q
  simp only [Bool.and_eq_true,Bool.or_eq_true,beq_iff_eq,i7] at q
  rcases q.2.1 with ⟨h1,_⟩ | ⟨h1,h2,_⟩
  · exact .inl h1
  · exact .inr ⟨h1,h2⟩
theorem Bm (l:List cd) (i:Int):(k7 l i).1.length=l.length:=by
  unfold k7;split <;> simp
theorem uc (h:iA) (now:Int):(lh h now).length=h.ag.length:=by
  unfold lh
  split
  · exact Bm _ _
  · simp
theorem II {n:Int} (h0:0≤n) (h9:n≤9):((n+1:Int)==10)=(n==9)∧IntKind.i64.wrap (n+1)=n+1:=by
  rw [iI (by omega) (by omega)]
  exact ⟨by rw [Bool.eq_iff_iff];simp;omega,rfl⟩
theorem Dk {N:Nat} (hN:im≤N) {h:iA} (q:ku h=true) (hp:h.gc.phase=1) (h1:jo iz h.ag<im) (now:Int):pf N h now=some (mb h now):=by
  have ha:=nZ q
  have hr:0≤h.gc.pos∧h.gc.pos≤9:=by
    rcases vb q with e | e
    · rw [hp] at e;cases e
    · exact e.2
  obtain ⟨e1,e2⟩:=II hr.1 hr.2
  have hsl:=uc h now
  have e0:idx (lh h now) 0=some (nth (lh h now) 0):=jC (by omega) (by rw [hsl,ha.len];decide)
  unfold pf mb
  simp only [(ha.at hr.1 hr.2).1,vo,Dq hN h1,Option.bind_some,lK,lN,e1,e2]
  rw [show (h.gc.pos != 0&&((nth h.ag h.gc.pos).kind != 0&&(jy (nth h.ag h.gc.pos) now || !(nth h.ag h.gc.pos).mark)))=kQ h now from rfl]
  have hsw:(bif kQ h now then some (h.gc.pos,(k7 h.ag h.gc.pos).1) else some (-1,h.ag.set h.gc.pos.toNat (cd.mk (nth h.ag h.gc.pos).gen (nth h.ag h.gc.pos).kind (nth h.ag h.gc.pos).box (nth h.ag h.gc.pos).res (nth h.ag h.gc.pos).iU (nth h.ag h.gc.pos).bh (nth h.ag h.gc.pos).wait (nth h.ag h.gc.pos).iW (nth h.ag h.gc.pos).iR false (nth h.ag h.gc.pos).il (nth h.ag h.gc.pos).data (nth h.ag h.gc.pos).queue)):Option (Int×List cd))=some (if kQ h now then h.gc.pos else -1,lh h now):=by
    unfold lh
    cases kQ h now <;> rfl
  rw [hsw]
  simp only [Option.bind_some,e0]
  cases h.gc.pos==9 <;> rfl
theorem EW (t:iA):iA.mk t.ag (ks.mk t.gc.phase t.gc.pos t.gc.round t.gc.ia)=t:=rfl
theorem Hx {N:Nat} (hN:im≤N) {h:iA} (h1:jo iz h.ag<im) (h2:h.gc.ia.length+20<im) (now:Int):tg N h now=some (kg h now):=by
  have h2':h.gc.ia.length<im:=by omega
  unfold tg kg
  simp only [zr hN h1 h2',Cz hN h1 h2',Option.bind_some]
  cases q:ku h
  · rfl
  have ha:=nZ q
  simp only [Bool.not_true,cond_false,if_true]
  cases hp:h.gc.phase==1
  · simp only [cond_false,Bool.false_eq_true,if_false]
    unfold oU
    by_cases hg:h.gc.ia.length=0
    · have:((h.gc.ia.length:Int)==0)=true:=by simp [hg]
      rw [this,if_pos hg];rfl
    · have:((h.gc.ia.length:Int)==0)=false:=beq_eq_false_iff_ne.2 (by omega)
      obtain ⟨g1,g2⟩:=CV hg h2'
      obtain ⟨l0,l9⟩:=qj q hg
      obtain ⟨e1,e2⟩:=pU ha (iK h)
      have eg:idx h.gc.ia ((h.gc.ia.length - 1:Nat):Int)=some (iK h):=by
        rw [jC (l:=h.gc.ia) (i:=((h.gc.ia.length - 1:Nat):Int)) (by omega) (by omega)]
        unfold iK
        rw [show ((h.gc.ia.length:Int) - 1)=((h.gc.ia.length - 1:Nat):Int) by omega]
      rw [this,if_neg hg,g1]
      simp only [cond_false,eg,g2,(ha.at l0 l9).1,vo,Option.bind_some]
      rw [show (bif iK h != 0 then some (jy (nth h.ag (iK h)) now) else some false:Option Bool)=some ((iK h != 0)&&jy (nth h.ag (iK h)) now) from lK _ _]
      simp only [Option.bind_some]
      cases hc:((iK h != 0)&&jy (nth h.ag (iK h)) now)
      · simp only [cond_false,Bool.false_eq_true,if_false]
        rw [Bc hN ha l0 l9]
        simp only [Option.bind_some]
        rw [show ((0:Int),h.ag.set (iK h).toNat (cd.mk (nth h.ag (iK h)).gen (nth h.ag (iK h)).kind (nth h.ag (iK h)).box (nth h.ag (iK h)).res (nth h.ag (iK h)).iU (nth h.ag (iK h)).bh (nth h.ag (iK h)).wait (nth h.ag (iK h)).iW (nth h.ag (iK h)).iR true (nth h.ag (iK h)).il (nth h.ag (iK h)).data (nth h.ag (iK h)).queue),h.gc.phase,h.gc.pos,h.gc.round,h.gc.ia.take (h.gc.ia.length - 1)) =
          ((0:Int),ht (iA.mk (h.ag.set (iK h).toNat (marked (nth h.ag (iK h)) true)) (ks.mk h.gc.phase h.gc.pos h.gc.round (mo h)))) from rfl,
          AT hN (l:=h.ag) (now:=now) e1 e2 (h:=iA.mk (h.ag.set (iK h).toNat (marked (nth h.ag (iK h)) true)) (ks.mk h.gc.phase h.gc.pos h.gc.round (mo h))) (by simp [ha.len]) (G:=h.gc.ia.length) (by unfold mo;simp) h2
            (fun j hj=>by
              simp only
              rw [uO l0 (by rw [ha.len];omega) hj]
              split
              · rename_i e;rw [← e];rfl
              · rfl)]
        · rfl
        · intro k t y hy hk t1 t2 t3 y0 y9
          simp only [ht,jh hk,cond_true,iO,hy,Option.bind_some,(ha.at y0 y9).1,vo,EW,IZ hN y0 (show y<(t.ag.length:Int) by rw [t1];omega) t2,jm (show k<im by omega)]
          unfold kB
          cases jy (nth h.ag y) now <;> rfl
        · intro t
          simp only [ht,jg,cond_false]
      · rfl
  · have hp1:h.gc.phase=1:=by simpa using hp
    simp only [cond_true,Dk hN q hp1 h1,Option.bind_some,if_true]
theorem Cf {o:cd} (h:jt o=true) (hk:(o.kind==0)=true):marked o false=o:=by
  unfold jt at h
  simp only [hk,cond_true,Bool.and_eq_true,decide_eq_true_eq] at h
  rw [h.2.2];rfl
theorem Gb {N:Nat} (hN:im≤N) {h:iA} (q:ku h=true) (h1:jo iz h.ag<im) (hw:wA h.ag) (h2:h.gc.ia.length+20<im) (now:Int):rV N h now=some (oU h now):=by
  have h2':h.gc.ia.length<im:=by omega
  have hB:h.gc.ia.length<16777216:=h2'
  have ha:=nZ q
  unfold rV oU
  by_cases hg:h.gc.ia.length=0
  · have:decide (IntKind.i64.wrap ((h.gc.ia.length:Int) - 1)<0)=true:=by rw [hg];decide
    rw [this,if_pos hg];rfl
  · obtain ⟨g1,g2⟩:=CV hg h2'
    obtain ⟨l0,l9⟩:=qj q hg
    obtain ⟨e1,e2⟩:=pU ha (iK h)
    have eg:idx h.gc.ia ((h.gc.ia.length - 1:Nat):Int)=some (iK h):=by
      rw [jC (l:=h.gc.ia) (i:=((h.gc.ia.length - 1:Nat):Int)) (by omega) (by omega)]
      unfold iK
      rw [show ((h.gc.ia.length:Int) - 1)=((h.gc.ia.length - 1:Nat):Int) by omega]
    have hd:decide (((h.gc.ia.length - 1:Nat):Int)<0)=false:=by simp
    have hgt:decide (iK h > 0)=(iK h != 0):=by
      rw [Bool.eq_iff_iff];simp;omega
    rw [g1,hd,if_neg hg]
    simp only [cond_false,eg,g2,(ha.at l0 l9).1,ua,Option.bind_some,hgt]
    rw [show (bif iK h != 0 then some (jy (nth h.ag (iK h)) now) else some false:Option Bool)=some ((iK h != 0)&&jy (nth h.ag (iK h)) now) from lK _ _]
    simp only [Option.bind_some]
    cases hc:((iK h != 0)&&jy (nth h.ag (iK h)) now)
    · simp only [cond_false,Bool.false_eq_true,if_false]
      rw [El hN h1 hw ha l0 l9]
      simp only [Option.bind_some]
      rw [show ((0:Int),h.ag.set (iK h).toNat (cd.mk (nth h.ag (iK h)).gen (nth h.ag (iK h)).kind (nth h.ag (iK h)).box (nth h.ag (iK h)).res (nth h.ag (iK h)).iU (nth h.ag (iK h)).bh (nth h.ag (iK h)).wait (nth h.ag (iK h)).iW (nth h.ag (iK h)).iR true (nth h.ag (iK h)).il (nth h.ag (iK h)).data (nth h.ag (iK h)).queue),h.gc.phase,h.gc.pos,h.gc.round,h.gc.ia.take (h.gc.ia.length - 1)) =
        ((0:Int),ht (iA.mk (h.ag.set (iK h).toNat (marked (nth h.ag (iK h)) true)) (ks.mk h.gc.phase h.gc.pos h.gc.round (mo h)))) from rfl,
        AT hN (l:=h.ag) (now:=now) e1 e2 (h:=iA.mk (h.ag.set (iK h).toNat (marked (nth h.ag (iK h)) true)) (ks.mk h.gc.phase h.gc.pos h.gc.round (mo h))) (by simp [ha.len]) (G:=h.gc.ia.length) (by unfold mo;simp) h2
          (fun j hj=>by
            simp only
            rw [uO l0 (by rw [ha.len];omega) hj]
            split
            · rename_i e;rw [← e];rfl
            · rfl)]
      · rfl
      · intro k t y hy hk t1 t2 t3 y0 y9
        simp only [ht,jh hk,cond_true,iO,hy,Option.bind_some,jC (l:=t.ag) y0 (show y<(t.ag.length:Int) by rw [t1];omega),ua,t3 y y0,EW,z5 hN y0 (show y<(t.ag.length:Int) by rw [t1];omega) t2,jm (show k<im by omega)]
        unfold kB
        cases jy (nth h.ag y) now <;> rfl
      · intro t
        simp only [ht,jg,cond_false]
    · rfl
theorem Cv {N:Nat} (hN:im≤N) {h:iA} (h1:jo iz h.ag<im) (hw:wA h.ag) (h2:h.gc.ia.length+20<im) (now:Int):nY N h now=some (kg h now):=by
  have h2':h.gc.ia.length<im:=by omega
  unfold nY kg
  simp only [vz hN h1 h2',wJ hN h1 h2' hw,Option.bind_some]
  cases q:ku h
  · rfl
  have ha:=nZ q
  simp only [Bool.not_true,cond_false,if_true]
  rcases vb q with hp | ⟨hp,hr⟩
  · rw [hp]
    simp only [beq_self_eq_true,cond_true,Gb hN q h1 hw h2,Option.bind_some]
    rfl
  · obtain ⟨e1,e2⟩:=II hr.1 hr.2
    have hsl:=uc h now
    have e0:idx (lh h now) 0=some (nth (lh h now) 0):=jC (by omega) (by rw [hsl,ha.len];decide)
    have hgt:decide (h.gc.pos > 0)=(h.gc.pos != 0):=by rw [Bool.eq_iff_iff];simp;omega
    rw [show (h.gc.phase==0)=false by rw [hp];rfl,show (h.gc.phase==1)=true by rw [hp];rfl]
    unfold mb
    simp only [cond_false,(ha.at hr.1 hr.2).1,ua,yv hN h1 hw,Option.bind_some,hgt,e1,e2]
    rw [show (bif h.gc.pos != 0 then (bif (nth h.ag h.gc.pos).kind != 0 then (bif !(nth h.ag h.gc.pos).mark then some true else some (jy (nth h.ag h.gc.pos) now)) else some false) else some false:Option Bool)=some (kQ h now) by
      unfold kQ;rw [lN,lK,lK,Bool.or_comm]]
    simp only [Option.bind_some]
    have hsw:(bif kQ h now then some (h.gc.pos,(k7 h.ag h.gc.pos).1) else bif (nth h.ag h.gc.pos).kind != 0 then some (-1,h.ag.set h.gc.pos.toNat (cd.mk (nth h.ag h.gc.pos).gen (nth h.ag h.gc.pos).kind (nth h.ag h.gc.pos).box (nth h.ag h.gc.pos).res (nth h.ag h.gc.pos).iU (nth h.ag h.gc.pos).bh (nth h.ag h.gc.pos).wait (nth h.ag h.gc.pos).iW (nth h.ag h.gc.pos).iR false (nth h.ag h.gc.pos).il (nth h.ag h.gc.pos).data (nth h.ag h.gc.pos).queue)) else some (-1,h.ag):Option (Int×List cd))=some (if kQ h now then h.gc.pos else -1,lh h now):=by
      unfold lh
      cases kQ h now
      · cases hk:(nth h.ag h.gc.pos).kind != 0
        · have hk0:((nth h.ag h.gc.pos).kind==0)=true:=by simpa [bne] using hk
          have hid:h.ag.set h.gc.pos.toNat (marked (nth h.ag h.gc.pos) false)=h.ag:=by
            rw [Cf (ha.ok _ (ha.at hr.1 hr.2).2) hk0]
            exact nI (ky hr.1 (by rw [ha.len];omega))
          simp [hid]
        · rfl
      · rfl
    rw [hsw]
    simp only [Option.bind_some,e0]
    cases h.gc.pos==9 <;> rfl
theorem Bb {α:Type} {f:α→Nat} {z:α}:∀ {l:List α} {k:Nat} {y:α},l[k]?=some y→f z=f y→nF f (l.set k z)=nF f l
  | x::l,0,y,h,e=>by simp at h;subst h;simp [nF,e]
  | x::l,k+1,y,h,e=>by
    simp only [List.set_cons_succ,nF]
    rw [Bb (l:=l) (k:=k) (y:=y) (by simpa using h) e]
theorem n5 {l:List cd} {i:Int} {z:cd} (h0:0≤i) (h1:i<(l.length:Int)) (e:iz z=iz (nth l i)):jo iz (l.set i.toNat z)=jo iz l:=by
  unfold jo
  rw [Bb (ky h0 h1) e,List.length_set]
theorem w8 {l:List cd} {now:Int}:∀ (e:List Int) (h:iA),(∀ y,y ∈ e→0≤y∧y≤9)→h.ag.length=10→wA h.ag →
    jo iz (e.foldl (kB l now) h).ag=jo iz h.ag∧wA (e.foldl (kB l now) h).ag∧(e.foldl (kB l now) h).gc.ia.length≤h.gc.ia.length+e.length
  | [],h,_,_,hw=>⟨rfl,hw,Nat.le_refl _⟩
  | y::e,h,he,hl,hw=>by
    obtain ⟨y0,y9⟩:=he y (by simp)
    have hy:y<(h.ag.length:Int):=by rw [hl];omega
    have key:jo iz (kB l now h y).ag=jo iz h.ag∧wA (kB l now h y).ag∧(kB l now h y).gc.ia.length≤h.gc.ia.length+1∧(kB l now h y).ag.length=10:=by
      unfold kB
      split
      · exact ⟨rfl,hw,Nat.le_succ _,hl⟩
      · refine ⟨?_,?_,wO h y,by rw [yx,hl]⟩
        · unfold lT
          split
          · exact n5 y0 hy rfl
          · rfl
        · unfold lT
          split
          · exact kL hw (show mO (marked (nth h.ag y) true) from hw (nth h.ag y) (kT y0 hy))
          · exact hw
    obtain ⟨a1,a2,a3⟩:=w8 e (kB l now h y) (fun z hz=>he z (by simp [hz])) key.2.2.2 key.2.1
    simp only [List.foldl_cons,List.length_cons]
    exact ⟨a1.trans key.1,a2,by omega⟩
theorem GS (i:Int) (o:cd):iz (oo i o)=iz o:=by
  unfold oo
  split
  · rfl
  · unfold iz;simp
theorem IF {i:Int} {o:cd} (h:mO o):mO (oo i o):=by
  unfold oo
  split
  · exact h
  · exact h
theorem D4 (g:Int):mO (blank g):=by show (-9223372036854775808:Int)≤0;decide
theorem FB {l:List cd} (hw:wA l) (i:Int):jo iz (k7 l i).1≤jo iz l∧wA (k7 l i).1:=by
  unfold k7
  split
  · refine ⟨?_,fun o ho=>?_⟩
    · show jo iz ((l.set i.toNat (blank (nth l i).gen)).map (oo i))≤_
      rw [DY (GS i)]
      exact uQ
    · obtain ⟨y,hy,rfl⟩:=List.mem_map.1 ho
      exact IF (kL hw (D4 _) y hy)
  · exact ⟨Nat.le_refl _,hw⟩
theorem sW {h:iA} (hw:wA h.ag) (now:Int):jo iz (kg h now).1.ag≤jo iz h.ag∧wA (kg h now).1.ag∧(kg h now).1.gc.ia.length≤h.gc.ia.length+10 ∧
    (decide ((kg h now).2 ≥ 0)=true→Ar h.ag∧0≤(kg h now).2∧(kg h now).2≤9):=by
  unfold kg
  split
  · rename_i q
    have ha:=nZ q
    have hl:=ha.len
    split
    · rename_i hp
      have hp:h.gc.phase=1:=by simpa using hp
      have hr:0≤h.gc.pos∧h.gc.pos≤9:=by
        rcases vb q with e | e
        · rw [hp] at e;cases e
        · exact e.2
      have hs:jo iz (lh h now)≤jo iz h.ag∧wA (lh h now):=by
        unfold lh
        split
        · exact FB hw _
        · exact ⟨Nat.le_of_eq (n5 hr.1 (by rw [hl];omega) rfl),kL hw (show mO (marked (nth h.ag h.gc.pos) false) from hw (nth h.ag h.gc.pos) (ha.at hr.1 hr.2).2)⟩
      have hsl:=uc h now
      have h0:(0:Int)<((lh h now).length:Int):=by rw [hsl,hl];decide
      refine ⟨?_,?_,?_,fun hd=>⟨ha,?_⟩⟩
      · unfold mb zM
        simp only
        split
        · show jo iz ((lh h now).set (0:Int).toNat _)≤_
          rw [n5 (z:=marked (nth (lh h now) 0) true) (Int.le_refl 0) h0 rfl];exact hs.1
        · exact hs.1
      · unfold mb zM
        simp only
        split
        · exact kL hs.2 (show mO (marked (nth (lh h now) 0) true) from hs.2 (nth (lh h now) 0) (kT (Int.le_refl 0) h0))
        · exact hs.2
      · unfold mb
        simp only
        split
        · simp
        · exact Nat.le_add_right _ _
      · unfold mb at hd ⊢
        simp only at hd ⊢
        split
        · exact hr
        · rename_i hn
          rw [if_neg hn] at hd
          simp at hd
    · refine ⟨?_,?_,?_,fun hd=>by simp at hd⟩
      all_goals
        unfold oU
        simp only
        split
        · first | exact Nat.le_refl _ | exact hw | exact Nat.le_add_right _ _
        · rename_i hg
          split
          · first | exact Nat.le_refl _ | exact hw | (unfold mo;simp;omega)
          · obtain ⟨l0,l9⟩:=qj q hg
            obtain ⟨e1,e2⟩:=pU ha (iK h)
            obtain ⟨a1,a2,a3⟩:=w8 (l:=h.ag) (now:=now) (lE h.ag (iK h)) (iA.mk (h.ag.set (iK h).toNat (marked (nth h.ag (iK h)) true)) (ks.mk h.gc.phase h.gc.pos h.gc.round (mo h))) e1 (by simp [hl]) (kL hw (show mO (marked (nth h.ag (iK h)) true) from hw (nth h.ag (iK h)) (ha.at l0 l9).2))
            first
              | exact Nat.le_of_eq (a1.trans (n5 l0 (by rw [hl];omega) rfl))
              | exact a2
              | (refine Nat.le_trans a3 ?_
                 unfold mo
                 simp
                 omega)
  · exact ⟨Nat.le_refl _,hw,Nat.le_add_right _ _,fun hd=>by simp at hd⟩
structure vq where
  n:Int
  tree:List ir
  heap:iA
def px (now:Int) (c:vq):vq :=
  if decide ((kg c.heap now).2 ≥ 0) then ⟨IntKind.i64.wrap (c.n+1),(lJ c.tree (nth c.heap.ag (kg c.heap now).2).res ⟨(nth c.heap.ag (kg c.heap now).2).bh,0,0⟩).1,(kg c.heap now).1⟩
  else ⟨c.n,c.tree,(kg c.heap now).1⟩
def wx (now:Int):Nat→vq→vq
  | 0,c=>c
  | k+1,c=>wx now k (px now c)
def kO (p:dW) (now steps:Int):dW×Int :=
  if iS p&&iE steps 0 100 then
    (dW.mk p.label p.own (wx now steps.toNat ⟨0,p.tree,p.heap⟩).tree (wx now steps.toNat ⟨0,p.tree,p.heap⟩).heap p.ij p.next p.want p.gE p.iH p.lost,(wx now steps.toNat ⟨0,p.tree,p.heap⟩).n)
  else (p,0)
def ct (k:Nat) (c:vq):Int×Int×List ir×List cd×Int×Int×Int×List Int:=(c.n,(k:Int),c.tree,c.heap.ag,c.heap.gc.phase,c.heap.gc.pos,c.heap.gc.round,c.heap.gc.ia)
structure C0 (S T G:Nat) (k:Nat) (c:vq):Prop where
  sz:jo iz c.heap.ag≤S
  tl:c.tree.length=T
  gl:c.heap.gc.ia.length≤G+10 * k
  w:wA c.heap.ag
theorem zS {S T G k:Nat} {c:vq} (h:C0 S T G k c) (now:Int):C0 S T G (k+1) (px now c):=by
  obtain ⟨s1,s2,s3,_⟩:=sW h.w now
  have a1:=h.sz
  have a2:=h.tl
  have a3:=h.gl
  unfold px
  split
  · exact ⟨by simp only;omega,by simp only;rw [vm,a2],by simp only;omega,s2⟩
  · exact ⟨by simp only;omega,a2,by simp only;omega,s2⟩
theorem Eb {S T G:Nat} {now:Int}:∀ (j k:Nat) (c:vq),C0 S T G k c→C0 S T G (k+j) (wx now j c)
  | 0,k,c,h=>h
  | j+1,k,c,h=>by
    have:=Eb (now:=now) j (k+1) (px now c) (zS h now)
    rwa [show k+1+j=k+(j+1) by omega] at this
theorem Jh {N:Nat} (hN:im≤N) {now steps:Int} (h0:0≤steps) (h1:steps≤100) {S T G:Nat} {c:vq} (hc:C0 S T G 0 c)
    {body:Int×Int×List ir×List cd×Int×Int×Int×List Int→Option ((Int×Int×List ir×List cd×Int×Int×Int×List Int)⊕(Int×Int×List ir×List cd×Int×Int×Int×List Int))}
    (hs:∀ (k:Nat) (c:vq),k<100→(k:Int)<steps→C0 S T G k c→body (ct k c)=some (.inl (ct (k+1) (px now c)))) (he:∀ c,body (ct steps.toNat c)=some (.inr (ct steps.toNat c))) :
    iter body N (ct 0 c)=some (ct steps.toNat (wx now steps.toNat c)):=by
  have e:∀ (j i:Nat) (c:vq),foldI (fun _ c (_:Unit)=>px now c) i c (List.replicate j ())=wx now j c:=by
    intro j
    induction j with
    | zero=>intro i c;rfl
    | succ j ih=>intro i c;rw [List.replicate_succ];unfold foldI wx;exact ih _ _
  rw [kK (List.replicate steps.toNat ()) ct (fun _ c _=>px now c) (fun c=>ct steps.toNat c) (fun k c=>C0 S T G k c) ?_ ?_ (by have:16777216≤N:=hN;simp;omega) hc,e]
  · intro k c y hy hk hI
    have hk:k<steps.toNat:=by simpa using hk
    exact ⟨hs k c (by omega) (by omega) hI,zS hI now⟩
  · intro c _
    rw [show (List.replicate steps.toNat ()).length=steps.toNat by simp]
    exact he c
theorem Bs {N:Nat} (hN:im≤N) {p:dW} (hb:iG p≤3000000) (hw:wP p) (now steps:Int):nX N p now steps=some (kO p now steps):=by
  have hB:(16777216:Nat)=im:=rfl
  have hb':iG p<im:=by omega
  have hz:jo iz p.heap.ag≤3000000∧p.heap.gc.ia.length≤3000000∧p.tree.length≤3000000:=by unfold iG mr sf at hb;omega
  unfold nX kO
  simp only [sO hN hb',tF hN hb',oF,Option.bind_some,lN]
  cases iS p
  · rfl
  cases hst:iE steps 0 100
  · rfl
  have hr:=i7.1 hst
  simp only [Bool.not_true,Bool.or_self,cond_false,Bool.and_self,if_true]
  rw [show ((0:Int),(0:Int),p.tree,p.heap.ag,p.heap.gc.phase,p.heap.gc.pos,p.heap.gc.round,p.heap.gc.ia)=ct 0 ⟨0,p.tree,p.heap⟩ from rfl,
    Jh hN (now:=now) hr.1 hr.2 (S:=3000000) (T:=p.tree.length) (G:=3000000) (c:=⟨0,p.tree,p.heap⟩) ⟨hz.1,rfl,by simp only;omega,hw⟩]
  · rfl
  · intro k c hk hks hI
    have g1:jo iz c.heap.ag<im:=Nat.lt_of_le_of_lt hI.sz (by decide)
    have g2:c.heap.gc.ia.length+20<im:=by have:=hI.gl;omega
    have g3:c.tree.length<im:=by rw [hI.tl];omega
    have hd:decide ((k:Int)<steps)=true:=by simpa using hks
    obtain ⟨_,_,_,s4⟩:=sW hI.w now
    show (bif decide ((k:Int)<steps) then _ else _)=_
    rw [hd]
    simp only [ct,cond_true,EW,Hx hN g1 g2,Option.bind_some,jm (show k<im by omega)]
    unfold px
    cases hv:decide ((kg c.heap now).2 ≥ 0)
    · rfl
    · obtain ⟨har,v0,v9⟩:=s4 hv
      simp only [cond_true,(har.at v0 v9).1,yY,zA hN g3,Option.bind_some,if_true];rfl
  · intro c
    have hd:decide (((steps.toNat:Nat):Int)<steps)=false:=by simp;omega
    show (bif decide (((steps.toNat:Nat):Int)<steps) then _ else _)=_
    rw [hd]
    simp only [ct,cond_false]
theorem ET {p:dW} (hb:iG p≤3000000) (hw:wP p) (now steps:Int):iG (kO p now steps).1≤iG p+1000∧wP (kO p now steps).1:=by
  unfold kO
  split
  · rename_i h
    rw [Bool.and_eq_true,i7] at h
    have hI:=Eb (now:=now) steps.toNat 0 ⟨0,p.tree,p.heap⟩ (S:=jo iz p.heap.ag) (T:=p.tree.length) (G:=p.heap.gc.ia.length) ⟨Nat.le_refl _,rfl,Nat.le_refl _,hw⟩
    have a1:=hI.sz
    have a2:=hI.tl
    have a3:=hI.gl
    refine ⟨?_,hI.w⟩
    unfold iG mr sf at hb ⊢
    simp only
    omega
  · exact ⟨Nat.le_add_right _ _,hw⟩
end Go.Kx
