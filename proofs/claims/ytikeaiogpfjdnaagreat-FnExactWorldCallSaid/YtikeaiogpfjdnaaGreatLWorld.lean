/- Plain laws: what a call does in a world. No program in sight. -/
import Derived.Test.YtikeaiogpfjdnaaGreatLCall
import Derived.Test.YtikeaiogpfjdnaaGreatLSum
namespace Go.Kx
open Go
set_option linter.unusedVariables false
set_option linter.unusedSimpArgs false
set_option maxRecDepth 10000
structure Wq (w:ql):Prop where
  xn:qZ qm w.parts<pR
  each:∀ p,p ∈ w.parts→qm p≤3000000
  w:wW w.parts
theorem Gk {α:Type} {l:List α} {i:Int} {y:α} (h0:0≤i) (h1:i<(l.length:Int)):idx (l.set i.toNat y) i=some y:=by
  have:=Ij (l:=l) (k:=i.toNat) (y:=y) (by omega)
  rwa [Int.toNat_of_nonneg h0] at this
theorem JB {α:Type} {t:List α} {z:α} (h:t.length≤1000000):app t [z]=some (t++[z]):=uq h (by decide)
def B2 (w:ql) (q:Int) (z:cd):ql:=ql.mk w.now (w.parts.set q.toNat z)
def wj (w:ql) (p a b:Int):Bool:=xx (nth w.parts p).own (nth w.parts a).label (nth w.parts b).label
def K2 (p:cd):cd:=cd.mk p.label p.own p.tree p.heap p.pN p.next p.want p.dz p.pV (if 1000000<IntKind.i64.wrap (p.lost+1) then 1000000 else IntKind.i64.wrap (p.lost+1))
def vK (l:List eg) (i:Int):Bool:=decide (i ≥ 0)&&(((nth l i).kind==3)&&decide (((nth l i).queue.length:Int)<2))
def N0 (p:cd) (i n:Int):cd:=yB p (p.heap.ag.set i.toNat (vH (nth p.heap.ag i) ((nth p.heap.ag i).queue++[qt.mk (-1) n])))
def zY (c:qn):qy:=qy.mk c.a c.b c.c (IntKind.i64.wrap (Int.tdiv c.d 10)) (Int.tmod c.d 10) c.e
def Aq (w:ql) (p q:Int) (c:qn):Int×Int×ql :=
  bif !wj w p q p then (3,0,w) else ((ra (nth w.parts q) q w.now c).1,(ra (nth w.parts q) q w.now c).2.1,w)
def CS (p:cd) (i n:Int):cd:=bif vK p.heap.ag i then N0 p i n else K2 p
def An (w:ql) (p q:Int) (c:qn):Int×Int×ql :=
  bif !qg c.b 0 999 then (2,0,w) else bif !wj w p p q then (3,0,w) else
  (0,0,B2 w q (CS (nth w.parts q) (qb (nth w.parts q).heap.ag w.now q c.a) c.b))
def C9 (w:ql) (p q:Int) (c:qn):Int×Int×ql :=
  bif decide (c.d<0) || !uU (zY c) then (2,0,w) else bif !wj w p p q then (3,0,w) else
  bif !ri (nth w.parts p).tree c.a then (6,0,w) else bif decide (((nth w.parts p).pN.length:Int) ≥ 3) then (7,0,w) else
  (0,IntKind.i64.wrap ((((nth w.parts p).pN++[zY c]).length:Int) - 1),B2 w p (Cj (nth w.parts p) ((nth w.parts p).pN++[zY c])))
def Au (r:Int×Int×ql):ql×qh:=bif r.1 != 0 then (r.2.2,qh.mk r.1 0) else (r.2.2,qh.mk 0 r.2.1)
def u7 (w:ql) (p th:Int) (c:qn):ql×qh :=
  bif !sx w || !ru w p then (w,qh.mk 2 0) else bif !tG (nth w.parts p) w.now th then (w,qh.mk 1 0) else
  bif decide (other w p c<0) then (w,qh.mk 2 0) else
  bif c.kind==7 then Au (Aq w p (other w p c) c) else bif c.kind==17 then Au (An w p (other w p c) c) else bif c.kind==16 then Au (C9 w p (other w p c) c) else
  (B2 w p (uK (nth w.parts p) p w.now th c).1,(uK (nth w.parts p) p w.now th c).2)
theorem GD (r:Int×Int×ql):(bif r.1 != 0 then some (ql.mk r.2.2.now r.2.2.parts,qh.mk r.1 0) else some (ql.mk r.2.2.now r.2.2.parts,qh.mk 0 r.2.1))=some (Au r):=by
  unfold Au
  cases r.1 != 0 <;> rfl
theorem J4 (w:ql) (p q:Int) (c:qn):(Aq w p q c).2.2=w:=by
  unfold Aq
  cases !wj w p q p <;> rfl
theorem BZ {w:ql} (h:sx w=true) {p:cd} (hp:p ∈ w.parts):rV p=true:=by
  unfold sx at h
  simp only [Bool.and_eq_true,List.all_eq_true] at h
  exact h.2.2.1 p hp
theorem De {w:ql} {p:Int} (h:ru w p=true):0≤p∧p<(w.parts.length:Int):=by
  unfold ru at h
  rw [rL] at h
  omega
theorem Wq.L3 {w:ql} (h:Wq w) (ok:sx w=true) {p:cd} (hp:p ∈ w.parts):sP p:=⟨BZ ok hp,h.each p hp,h.w p hp⟩
section
variable {N:Nat} {w:ql} {p q:Int} {c:qn}
theorem CA (hN:pR≤N) (hw:Wq w) {a b d:Int} (ha:ru w a=true) (hb:ru w b=true) (hd:ru w d=true):vw N w a b d=some (wj w a b d):=by
  obtain ⟨a1,a2⟩:=rU ha
  obtain ⟨b1,b2⟩:=rU hb
  obtain ⟨d1,d2⟩:=rU hd
  unfold vw wj
  simp only [a1,b1,d1,Option.bind_some,JI hN (sc (rp hw.xn a2)).2.1 (sc (rp hw.xn b2)).1 (sc (rp hw.xn d2)).1]
theorem Ll {P:cd} {me now:Int} (h:(c.kind==7)=true):fin c P (ra P me now c)=(P,bif (ra P me now c).1==0 then qh.mk 0 (ra P me now c).2.1 else qh.mk (ra P me now c).1 0):=by
  have hp:(ra P me now c).2.2=P:=by
    unfold ra
    rw [h]
    cases qY P.heap.ag now me c.a 2 != 0
    · cases !qg c.b 0 (((nth P.heap.ag (qb P.heap.ag now me c.a)).data.length:Int) - 1) <;> rfl
    · rfl
  have h1:(c.kind==1)=false:=by
    have:c.kind=7:=by simpa using h
    rw [this];rfl
  unfold fin
  rw [hp,h1]
  cases (ra P me now c).1==0 <;> rfl
theorem NP (hN:pR≤N) (hw:Wq w) (ok:sx w=true) (hp:ru w p=true) (hq:ru w q=true) (c:qn):wo N w p q c=some ((Aq w p q c).1,(Aq w p q c).2.1):=by
  obtain ⟨q1,q2⟩:=rU hq
  unfold wo Aq
  simp only [CA hN hw hp hq hp,Option.bind_some]
  cases wj w p q p
  · rfl
  simp only [Bool.not_true,cond_false,q1,Option.bind_some,Cv hN (rp hw.xn q2),J8 hN (hw.L3 ok q2)]
theorem Np (hN:pR≤N) (hw:Wq w) (ok:sx w=true) (hp:ru w p=true) (hq:ru w q=true) (hk:(c.kind==7)=true):xX N w p q c=some (Au (Aq w p q c)):=by
  obtain ⟨p1,p2⟩:=rU hp
  obtain ⟨q1,q2⟩:=rU hq
  obtain ⟨q0,q9⟩:=De hq
  have hc:c.kind=7:=by simpa using hk
  unfold xX Aq wj
  simp only [p1,q1,Option.bind_some,Cr hN (sc (rp hw.xn p2)).2.1 (sc (rp hw.xn q2)).1 (sc (rp hw.xn p2)).1]
  cases xx (nth w.parts p).own (nth w.parts q).label (nth w.parts p).label
  · rfl
  simp only [Bool.not_true,cond_false,KE hN (hw.L3 ok q2) q w.now (c:=c) (by rw [hc];rfl) (by rw [hc];rfl),Option.bind_some,Fy]
  rw [Ll hk]
  simp only [Option.bind_some]
  rw [show w.parts.set q.toNat (cd.mk (nth w.parts q).label (nth w.parts q).own (nth w.parts q).tree (qe.mk (nth w.parts q).heap.ag (rr.mk (nth w.parts q).heap.gc.phase (nth w.parts q).heap.gc.pos (nth w.parts q).heap.gc.round (nth w.parts q).heap.gc.j8)) (nth w.parts q).pN (nth w.parts q).next (nth w.parts q).want (nth w.parts q).dz (nth w.parts q).pV (nth w.parts q).lost)=w.parts from BS (zO q0 q9)]
  unfold Au bne
  cases (ra (nth w.parts q) q w.now c).1==0 <;> rfl
theorem NJ (hN:pR≤N) (hw:Wq w) (ok:sx w=true) (hp:ru w p=true) (hq:ru w q=true) (c:qn):vL N w p q c=some ((An w p q c).1,(An w p q c).2.2):=by
  obtain ⟨q1,q2⟩:=rU hq
  have ar:=uH (BZ ok q2)
  have hb:=(sc (rp hw.xn q2)).2.2.2.1
  unfold vL An
  simp only [ud,CA hN hw hp hp hq,Option.bind_some]
  cases qg c.b 0 999
  · rfl
  cases wj w p p q
  · rfl
  simp only [Bool.not_true,cond_false,q1,Option.bind_some,Ca hN hb]
  have hg:=A0 (l:=(nth w.parts q).heap.ag) (now:=w.now) (me:=q) (h:=c.a) ar.len
  generalize qb (nth w.parts q).heap.ag w.now q c.a=g at *
  unfold CS
  have e:(bif decide (g ≥ 0) then (idx (nth w.parts q).heap.ag g).bind fun y45=>bif y45.kind==3 then some (decide ((y45.queue.length:Int)<2)) else some false else some false)=some (vK (nth w.parts q).heap.ag g):=by
    unfold vK
    cases h:decide (g ≥ 0)
    · rfl
    have h:=of_decide_eq_true h
    rw [rl h (hg h),Option.bind_some]
    simp only [cond_true,Bool.true_and,tD]
  rw [e,Option.bind_some]
  cases h:vK (nth w.parts q).heap.ag g
  · rfl
  have h':=h
  unfold vK at h'
  simp only [Bool.and_eq_true,decide_eq_true_eq] at h'
  rw [cond_true,rl h'.1 (hg h'.1),Option.bind_some,JB (by omega)]
  rfl
theorem N8 (hN:pR≤N) (hw:Wq w) (ok:sx w=true) (hp:ru w p=true) (hq:ru w q=true) (c:qn):ya N w p q c=some (Au (An w p q c)):=by
  obtain ⟨p1,p2⟩:=rU hp
  obtain ⟨q1,q2⟩:=rU hq
  have ar:=uH (BZ ok q2)
  have hb:=(sc (rp hw.xn q2)).2.2.2.1
  unfold ya An wj
  simp only [uk,p1,q1,Cr hN (sc (rp hw.xn p2)).2.1 (sc (rp hw.xn p2)).1 (sc (rp hw.xn q2)).1,Option.bind_some]
  cases qg c.b 0 999
  · rfl
  cases xx (nth w.parts p).own (nth w.parts p).label (nth w.parts q).label
  · rfl
  simp only [Bool.not_true,cond_false,Option.bind_some,Cf hN hb (hw.w _ q2)]
  have hg:=A0 (l:=(nth w.parts q).heap.ag) (now:=w.now) (me:=q) (h:=c.a) ar.len
  generalize qb (nth w.parts q).heap.ag w.now q c.a=g at *
  unfold CS
  have e:(bif decide (g<0) then some true else (idx (nth w.parts q).heap.ag g).bind fun y84=>bif y84.kind != 3 then some true else some (decide ((y84.queue.length:Int) ≥ 2)))=some (!vK (nth w.parts q).heap.ag g):=by
    unfold vK
    by_cases h:g<0
    · rw [decide_eq_true h,decide_eq_false (show ¬ g ≥ 0 by omega)];rfl
    rw [decide_eq_false h,decide_eq_true (show g ≥ 0 by omega),cond_false,rl (by omega) (hg (by omega)),Option.bind_some,sG,Bool.true_and,Bool.not_and]
    unfold bne
    by_cases k:((nth (nth w.parts q).heap.ag g).queue.length:Int)<2
    · rw [decide_eq_true k,decide_eq_false (show ¬ ((nth (nth w.parts q).heap.ag g).queue.length:Int) ≥ 2 by omega)];rfl
    · rw [decide_eq_false k,decide_eq_true (show ((nth (nth w.parts q).heap.ag g).queue.length:Int) ≥ 2 by omega)];rfl
  rw [e,Option.bind_some]
  cases h:vK (nth w.parts q).heap.ag g
  · rfl
  have h':=h
  unfold vK at h'
  simp only [Bool.and_eq_true,decide_eq_true_eq] at h'
  rw [Bool.not_true,cond_false,rl h'.1 (hg h'.1),Option.bind_some,rO (Nat.lt_trans (show _<2 by omega) (by decide)),Option.bind_some,JB (by omega)]
  rfl
theorem OP (hN:pR≤N) (hw:Wq w) (ok:sx w=true) (hp:ru w p=true) (hq:ru w q=true) (c:qn):wG N w p q c=some (C9 w p q c):=by
  obtain ⟨p1,p2⟩:=rU hp
  obtain ⟨p0,p9⟩:=De hp
  have hT:=xG.1 (BL (BZ ok p2))
  unfold wG C9
  simp only [p1,It,CA hN hw hp hp hq,yD N hT.len,Option.bind_some,sG]
  show (bif (decide (c.d<0) || !uU (zY c)) then _ else _)=_
  cases decide (c.d<0) || !uU (zY c)
  case true=>rfl
  cases wj w p p q
  case false=>rfl
  cases ri (nth w.parts p).tree c.a
  case false=>rfl
  cases h:decide (((nth w.parts p).pN.length:Int) ≥ 3)
  case true=>rfl
  have h:=of_decide_eq_false h
  simp only [Bool.not_true,cond_false]
  rw [JB (by omega),Option.bind_some,Gk p0 p9]
  rfl
theorem Of (hN:pR≤N) (hw:Wq w) (ok:sx w=true) (hp:ru w p=true) (hq:ru w q=true) (c:qn):zl N w p q c=some (Au (C9 w p q c)):=by
  obtain ⟨p1,p2⟩:=rU hp
  obtain ⟨q1,q2⟩:=rU hq
  obtain ⟨p0,p9⟩:=De hp
  have hT:=BL (BZ ok p2)
  unfold zl C9 wj
  simp only [p1,q1,Ix,Cr hN (sc (rp hw.xn p2)).2.1 (sc (rp hw.xn p2)).1 (sc (rp hw.xn q2)).1,zP hN,hT,Bool.true_and,Option.bind_some]
  cases decide (c.d<0)
  case true=>rfl
  show (bif !uU (zY c) then _ else _)=some (Au (bif !uU (zY c) then _ else _))
  cases uU (zY c)
  case false=>rfl
  cases xx (nth w.parts p).own (nth w.parts p).label (nth w.parts q).label
  case false=>rfl
  cases ri (nth w.parts p).tree c.a
  case false=>rfl
  cases h:decide (((nth w.parts p).pN.length:Int) ≥ 3)
  case true=>rfl
  have h:=of_decide_eq_false h
  simp only [Bool.not_true,cond_false]
  rw [rO (Nat.lt_trans (show _<3 by omega) (by decide)),Option.bind_some,JB (by omega),Option.bind_some,Option.bind_some,Gk p0 p9]
  rfl
theorem HB (hN:pR+1≤N) (hw:Wq w) (p th:Int) (c:qn):uW N w p th c=some (u7 w p th c):=by
  have hN':pR≤N:=Nat.le_of_succ_le hN
  have hl:=rQ hw.xn
  unfold uW u7
  simp only [HZ hN' hw.xn,Ke hN' hw.xn,ER hl,Option.bind_some,sG]
  cases hok:!sx w || !ru w p
  case true=>rfl
  have hok:sx w=true∧ru w p=true:=by simpa using hok
  obtain ⟨ok,hp⟩:=hok
  obtain ⟨p1,p2⟩:=rU hp
  simp only [cond_false,p1,Option.bind_some,ES hN' (rp hw.xn p2)]
  cases hc:tG (nth w.parts p) w.now th
  case false=>rfl
  simp only [Bool.not_true,cond_false,H7 hl,Option.bind_some]
  cases ho:decide (other w p c<0)
  case true=>rfl
  have hq:=Ap ho
  generalize other w p c=q at *
  simp only [cond_false]
  cases c.kind==7
  case true=>simp only [cond_true,NP hN' hw ok hp hq,Option.bind_some];rw [← GD,J4];rfl
  cases c.kind==17
  case true=>simp only [cond_true,cond_false,NJ hN' hw ok hp hq,Option.bind_some];unfold An;cases qg c.b 0 999 <;> cases wj w p p q <;> rfl
  cases c.kind==16
  case true=>simp only [cond_true,cond_false,OP hN' hw ok hp hq,Option.bind_some];rw [← GD];rfl
  simp only [cond_false,Jw hN (hw.each _ p2) (hw.w _ p2),Option.bind_some]
  rfl
theorem HT (hN:pR≤N) (hw:Wq w) (p th:Int) (c:qn):wm N w p th c=some (u7 w p th c):=by
  have hl:w.parts.length<16777216:=rQ hw.xn
  unfold wm u7
  simp only [J0 hN hw.xn,Kp hN hw.xn hw.w,uk,Option.bind_some,sG]
  rw [rN (by omega) (by omega),show qg p 0 ((w.parts.length:Int) - 1)=ru w p from rfl]
  cases hok:!sx w || !ru w p
  case true=>rfl
  have hok:sx w=true∧ru w p=true:=by simpa using hok
  obtain ⟨ok,hp⟩:=hok
  obtain ⟨p1,p2⟩:=rU hp
  simp only [cond_false,p1,Option.bind_some,Fl hN (rp hw.xn p2) (hw.w _ p2)]
  cases hc:tG (nth w.parts p) w.now th
  case false=>rfl
  simp only [Bool.not_true,cond_false,HD hl,Option.bind_some,I3 hN (hw.each _ p2) (hw.w _ p2)]
  have hself:((c.kind==7) || ((c.kind==17) || (c.kind==16)))=false→decide (other w p c<0)=false:=fun h=>by
    have h0:=De hp
    simp only [Bool.or_eq_false_iff] at h
    unfold other target
    rw [h.1,h.2.1,h.2.2]
    simp only [Bool.or_self,Bool.false_eq_true,if_false,hp,if_true]
    exact decide_eq_false (by omega)
  cases k7:c.kind==7
  case true =>
    simp only [cond_true,Option.bind_some]
    cases ho:decide (other w p c<0)
    case true=>rfl
    simp only [cond_false,Np hN hw ok hp (Ap ho) k7,Option.bind_some]
  cases k17:c.kind==17
  case true =>
    simp only [cond_true,cond_false,Option.bind_some]
    cases ho:decide (other w p c<0)
    case true=>rfl
    simp only [cond_false,N8 hN hw ok hp (Ap ho),Option.bind_some]
  cases k16:c.kind==16
  case true =>
    simp only [cond_true,cond_false,Option.bind_some]
    cases ho:decide (other w p c<0)
    case true=>rfl
    simp only [cond_false,Of hN hw ok hp (Ap ho),Option.bind_some]
  rw [hself (by rw [k7,k17,k16];rfl)]
  simp only [cond_false,Option.bind_some]
  rfl
end
end Go.Kx
/- Plain laws: what a call leaves of a world is small. No program in sight. -/
namespace Go.Kx
open Go
set_option linter.unusedVariables false
set_option linter.unusedSimpArgs false
set_option maxRecDepth 10000
theorem KG {p:cd} (hp:sP p) {now me h:Int} (n:Int):xp p (CS p (qb p.heap.ag now me h) n):=by
  unfold CS
  have hg:=A0 (l:=p.heap.ag) (now:=now) (me:=me) (h:=h) hp.ar.len
  generalize qb p.heap.ag now me h=g at *
  cases q:vK p.heap.ag g
  · exact uY rfl rfl rfl (by show qZ qd p.heap.ag≤_;omega) (Nat.le_succ _) (Nat.le_refl _) hp.w rfl
  · unfold vK at q
    simp only [Bool.and_eq_true,decide_eq_true_eq] at q
    have hl:=hp.ar.len
    have g9:=hg q.1
    have ho:=va hp.ar q.1 (by omega)
    have hwi:xR (nth p.heap.ag g):=hp.w _ (zJ q.1 g9)
    refine uY rfl rfl rfl (Nat.le_trans (Af ?_) (by omega)) (Nat.le_succ _) (Nat.le_refl _) (tA hp.w hwi) List.length_set
    unfold qd at ho
    unfold qd vH
    simp only [List.length_append,List.length_cons,List.length_nil]
    omega
theorem MU {p:cd} (hp:sP p) (t:qy):xp p (Cj p (p.pN++[t])):=by
  refine ⟨?_,hp.w,rfl⟩
  unfold qm Cj
  simp only [List.length_append,List.length_cons,List.length_nil]
  omega
theorem MH {w:ql} (hw:Wq w) (p th:Int) (c:qn):(u7 w p th c).1=w∨∃ q z,ru w q=true∧xp (nth w.parts q) z∧(u7 w p th c).1=B2 w q z:=by
  unfold u7
  cases hok:!sx w || !ru w p
  case true=>exact .inl rfl
  have hok:sx w=true∧ru w p=true:=by simpa using hok
  obtain ⟨ok,hp⟩:=hok
  obtain ⟨p1,p2⟩:=rU hp
  have pp:=hw.L3 ok p2
  cases hc:tG (nth w.parts p) w.now th
  case false=>exact .inl rfl
  cases ho:decide (other w p c<0)
  case true=>exact .inl rfl
  have hq:=Ap ho
  generalize other w p c=q at *
  obtain ⟨q1,q2⟩:=rU hq
  have pq:=hw.L3 ok q2
  simp only [cond_false,Bool.not_true]
  have f3:∀ r:Int×Int×ql,(Au r).1=r.2.2:=fun r=>by unfold Au;cases r.1 != 0 <;> rfl
  cases c.kind==7
  case true=>rw [cond_true,f3,J4];exact .inl rfl
  cases c.kind==17
  case true =>
    rw [cond_false,cond_true,f3]
    unfold An
    cases qg c.b 0 999
    case false=>exact .inl rfl
    cases wj w p p q
    case false=>exact .inl rfl
    exact .inr ⟨q,_,hq,KG pq c.b,rfl⟩
  cases c.kind==16
  case true =>
    rw [cond_false,cond_false,cond_true,f3]
    unfold C9
    cases decide (c.d<0) || !uU (zY c)
    case true=>exact .inl rfl
    cases wj w p p q
    case false=>exact .inl rfl
    cases ri (nth w.parts p).tree c.a
    case false=>exact .inl rfl
    cases decide (((nth w.parts p).pN.length:Int) ≥ 3)
    case true=>exact .inl rfl
    exact .inr ⟨p,_,hp,MU pp (zY c),rfl⟩
  have h:=MV pp.sz pp.w p w.now th c
  exact .inr ⟨p,_,hp,⟨h.1,h.2,K0 pp.sz pp.w p w.now th c⟩,rfl⟩
theorem JH {w:ql} {q:Int} (hq:ru w q=true) {z:cd} (hn:xp (nth w.parts q) z):qZ qm (B2 w q z).parts≤2 * qZ qm w.parts+300:=by
  have h1:qZ qm (w.parts.set q.toNat z)≤_:=EC
  have h2:qm (nth w.parts q)≤qZ qm w.parts:=Nat.le_of_lt_succ (rp (Nat.lt_succ_self _) (rU hq).2)
  have h3:=hn.sz
  show qZ qm (w.parts.set q.toNat z)≤_
  omega
theorem Mu {w:ql} (hw:Wq w) (p th:Int) (c:qn):qZ qm (u7 w p th c).1.parts≤2 * qZ qm w.parts+300:=by
  rcases MH hw p th c with e | ⟨q,z,hq,hn,e⟩
  · rw [e];omega
  · rw [e];exact JH hq hn
end Go.Kx
/- The plain law of 'FnExactWorldCall'. No program in sight. -/
namespace Go.Kx
open Go
set_option linter.unusedVariables false
set_option linter.unusedSimpArgs false
set_option maxRecDepth 10000
theorem CV {w:ql} {p th:Int} {c:qn} (hw:Fit.fit w) (hp:Fit.fit p) (ht:Fit.fit th) (hc:Fit.fit c):∃ N,tj N w p th c=some true:=by
  suffices h:∀ N,pR+1≤N→tj N w p th c=some true from ⟨pR+1,h (pR+1) (Nat.le_refl _)⟩
  intro N hN'
  have hN:pR≤N:=Nat.le_of_succ_le hN'
  unfold tj
  refine guard (by decide) (by decide) (K5 hN (by decide) (by decide) hw) fun b h0 h1 hs=>?_
  have hb:sY w<pR:=small hs
  have hB:(16777216:Nat)=pR:=rfl
  have hs':qZ qm w.parts≤1048576:=by unfold sY at hs;omega
  have hb':qZ qm w.parts<pR:=by omega
  have hq:Wq w:=⟨hb',fun q hq=>by have:=rp (Nat.lt_succ_of_le hs') hq;omega,Ni hw⟩
  have sw:=Mu hq p th c
  simp only [K1 hN hb,Ml,HT hN hq,HB hN' hq,Option.bind_some]
  generalize u7 w p th c=r at *
  obtain ⟨q,v⟩:=r
  simp only at sw ⊢
  have b2:sY q<pR:=by unfold sY;omega
  have s1:=CX w.parts
  have s2:=CX q.parts
  have n1:decide (1+((pQ rP w.parts:Nat):Int)<0)=false:=decide_eq_false (by omega)
  have n2:decide (1+((pQ rP q.parts:Nat):Int)<0)=false:=decide_eq_false (by omega)
  simp only [Hh hN b2,Hh hN hb,Lh,Option.bind_some,Bool.not_true,cond_false,Dx hN (n:=1) hb (by decide) (by omega),Dx hN (n:=1) b2 (by decide) (by omega),sv (sA _ _ _ _),n1,n2,
    HM hN (n:=1) (x:=q) (z:=ql.mk q.now (r8 za rP 1 q.parts)) b2 (by decide) (by omega) rfl,bne_self_eq_false]
end Go.Kx
