import Derived.Test.YtlcgibcdiikheaaGreatLReach
namespace Go.Kx
open Go
open Go.IntKind (i64)
set_option linter.unusedVariables false
set_option linter.unusedSimpArgs false
set_option maxRecDepth 10000
def tW (w n:Int):qj:=if w==0 then ⟨n,0,0⟩ else if w==1 then ⟨0,n,0⟩ else if w==2 then ⟨0,0,n⟩ else ⟨0,0,0⟩
theorem D6 (N:Nat) (w n:Int):vz N w n=some (tW w n):=by
  unfold vz tW;cases w==0<;>cases w==1<;>cases w==2<;>rfl
theorem Kb (N:Nat) (w n:Int):zk N w n=some (tW w n):=by
  unfold zk tW;cases w==0<;>cases w==1<;>cases w==2<;>rfl
def vP (a b:qj):Bool:=re a&&(re b&&(decide (a.gE≤b.gE)&&(decide (a.qa≤b.qa)&&decide (a.qg≤b.qg))))
theorem Pm (N:Nat) (a b:qj):zT N a b=some (vP a b):=by
  unfold zT vP;simp only [yr,Vw,tz]
theorem OK (N:Nat) (a b:qj):zK N a b=some (vP a b):=by
  unfold zK vP;simp only [zt,Vw,tz]
def JA (a b:qj):qj:=⟨i64.wrap (a.gE - b.gE),i64.wrap (a.qa - b.qa),i64.wrap (a.qg - b.qg)⟩
def DO (a b:qj):qj×Bool:=if vP b a then (JA a b,true) else (a,false)
theorem Pr (N:Nat) (a b:qj):AS N a b=some (DO a b):=by
  unfold AS DO;rw [Pm,Vw];cases vP b a<;>rfl
theorem Qc (N:Nat) (a b:qj):AQ N a b=some (DO a b):=by
  unfold AQ DO;rw [OK,Vw];cases vP b a<;>rfl
def HN (r:qc) (b:qj):qc:=qc.mk r.Vs r.Vq b
theorem xl {α:Type} [qe α] {l:List α} {i:Int} (h0:0≤i) (h1:i<(l.length:Int)):l[i.toNat]?=some (nth l i):=by
  have:=ri (l:=l) h0 h1;unfold idx at this
  rwa [if_pos h0] at this
def rK (t:List qc) (f:Int) (a:qj):List qc×Bool :=
  if r9 t&&ru t f then (if vP a (nth t f).qI then (t.set f.toNat (HN (nth t f) (JA (nth t f).qI a)),true) else (t,false)) else (t,false)
theorem BV {N:Nat} (hN:pW≤N) {t:List qc} (hB:t.length<pW) (f:Int) (a:qj):u6 N t f a=some (rK t f a):=by
  unfold u6 rK;simp only [wV hB,Ae hN,Vw];cases ht:r9 t
  · rfl
  have hl:=xp ht;simp only [Vz,Vx,yW N hl,Vw];cases hv:ru t f
  · rfl
  obtain ⟨f0,f4⟩:=tM hv;simp only [Vz,Vx,ri (l:=t) f0 (by omega),Pr,Vw,Bool.and_self,if_true];unfold DO;cases vP a (nth t f).qI
  · have:t.set f.toNat (qc.mk (nth t f).Vs (nth t f).Vq (qj.mk (nth t f).qI.gE (nth t f).qI.qa (nth t f).qI.qg))=t:=vR (xl f0 (by omega));simp only [Bool.false_eq_true,if_false];rw [this]
  · rfl
theorem Az {N:Nat} (hN:pW≤N) {t:List qc} (hB:t.length<pW) (f:Int) (a:qj):um N t f a=some (rK t f a):=by
  unfold um rK;simp only [w5 hB,Af hN,Vw];cases h:(r9 t&&ru t f)
  · rfl
  rw [VB] at h;have hl:=xp h.1;obtain ⟨f0,f4⟩:=tM h.2;simp only [Vz,Vx,ri (l:=t) f0 (by omega),Qc,Vw,if_true];unfold DO;cases vP a (nth t f).qI<;>rfl
theorem tL (t:List qc) (f:Int) (a:qj):(rK t f a).1.length=t.length:=by
  unfold rK;split
  · split<;>simp
  · rfl
def D0 (last pick:Int):Int→Int→List Int→Int
  | least,next,[]=>if decide (next ≥ 0) then next else least
  | least,next,y::l=>if decide (y<0) then D0 last pick least next l else if y==pick then y else
      D0 last pick (if decide (least<0) || decide (y<least) then y else least) (if decide (y > last)&&(decide (next<0) || decide (y<next)) then y else next) l
def zo (l:List Int) (last pick:Int):Int:=D0 last pick (-1) (-1) l
theorem Gr {last pick:Int} {P:Int→Prop}:∀ (l:List Int) (a b:Int),P a→P b→(∀ y,y ∈ l→P y)→P (D0 last pick a b l)
  | [],a,b,ha,hb,_=>by unfold D0;split<;>assumption
  | y::l,a,b,ha,hb,h=>by
    have hy:=h y (by simp);have hl:∀ z,z ∈ l→P z:=fun z hz=>h z (by simp [hz]);unfold D0;split
    · exact Gr l a b ha hb hl
    · split
      · exact hy
      · refine Gr l _ _ ?_ ?_ hl
        · split<;>assumption
        · split<;>assumption
theorem Lo (l:List Int) (last pick:Int) (h:decide (zo l last pick<0)=false):zo l last pick ∈ l:=by
  have:=Gr (last:=last) (pick:=pick) (P:=fun y=>y=-1∨y ∈ l) l (-1) (-1) (.inl rfl) (.inl rfl) fun y hy=>.inr hy
  rcases this with q | q
  · unfold zo at h;rw [q] at h;simp at h
  · exact q
theorem N8 {N:Nat} (hN:pW≤N) {l:List Int} (hl:l.length<pW) (last pick:Int) {body:Int×Int×Int→Option ((Int×Int×Int)⊕((Int×Int×Int)⊕Int))}
    (hs:∀ (k:Nat) (a b y:Int),l[k]?=some y→k<l.length→body (a,b,(k:Int))=some (if decide (y<0) then .inl (a,b,((k+1:Nat):Int)) else if y==pick then .inr (.inr y) else
      .inl (if decide (a<0) || decide (y<a) then y else a,if decide (y > last)&&(decide (b<0) || decide (y<b)) then y else b,((k+1:Nat):Int)))) (he:∀ a b,body (a,b,(l.length:Int))=some (.inr (.inl (a,b,(l.length:Int))))) :
    (iter body N (-1, -1,0)).bind (fun o29=>Sum.elim (fun o29=>bif (decide (o29.2.1 ≥ 0)) then (some o29.2.1) else (some o29.1)) (fun r33=>some r33) o29)=some (zo l last pick):=by
  rw [show ((-1:Int),(-1:Int),(0:Int))=(fun (k:Nat) (t:Int×Int)=>(t.1,t.2,(k:Int))) 0 (-1, -1) from rfl,
    vh l (fun (k:Nat) (t:Int×Int)=>(t.1,t.2,(k:Int))) (fun _ t y=>if decide (y<0) then .inl t else if y==pick then .inr (.inr y) else .inl (if decide (t.1<0) || decide (y<t.1) then y else t.1,if decide (y > last)&&(decide (t.2<0) || decide (y<t.2)) then y else t.2)) (fun t=>.inl (t.1,t.2,(l.length:Int))) (fun _ _=>True) ?_ ?_ (Nat.lt_of_lt_of_le hl hN) trivial]
  · simp only [Vw]
    have key:∀ (m:List Int) (k:Nat) (t:Int×Int),Sum.elim (fun (o29:Int×Int×Int)=>bif (decide (o29.2.1 ≥ 0)) then (some o29.2.1) else (some o29.1)) (fun r33=>some r33) (tV (ρ:=(Int×Int×Int)⊕Int) (fun _ t y=>if decide (y<0) then .inl t else if y==pick then .inr (.inr y) else .inl (if decide (t.1<0) || decide (y<t.1) then y else t.1,if decide (y > last)&&(decide (t.2<0) || decide (y<t.2)) then y else t.2)) (fun t=>.inl (t.1,t.2,(l.length:Int))) k t m)=some (D0 last pick t.1 t.2 m):=by
      intro m
      induction m with
      | nil =>
        intro k t;unfold tV D0;simp only [Sum.elim_inl];cases decide (t.2 ≥ 0)<;>rfl
      | cons y m ih =>
        intro k t;unfold tV D0;cases decide (y<0)
        · cases y==pick
          · exact ih (k+1) _
          · rfl
        · exact ih (k+1) t
    exact key l 0 (-1, -1)
  · intro k t y hy hk _;refine ⟨?_,fun _ _=>trivial⟩;rw [hs k t.1 t.2 y hy hk];cases decide (y<0)
    · cases y==pick<;>rfl
    · rfl
  · intro t _;exact he t.1 t.2
theorem Ov {N:Nat} (hN:pW≤N) {l:List Int} (hl:l.length<pW) (last pick:Int):zQ N l last pick=some (zo l last pick):=by
  unfold zQ;refine N8 hN hl last pick ?_ ?_
  · intro k a b y hy hk;simp only [qQ hk,Vy,qv,hy,Vw,qV (Nat.lt_trans hk hl)];cases decide (y<0)<;>cases y==pick<;>cases decide (a<0)<;>cases decide (y<a)<;>cases decide (y > last)<;>cases decide (b<0)<;>cases decide (y<b)<;>rfl
  · intro a b;simp only [qR,Vx]
theorem O9 {N:Nat} (hN:pW≤N) {l:List Int} (hl:l.length<pW) (last pick:Int):zG N l last pick=some (zo l last pick):=by
  unfold zG;refine N8 hN hl last pick ?_ ?_
  · intro k a b y hy hk;simp only [qQ hk,Vy,qv,hy,Vw,qV (Nat.lt_trans hk hl)];cases h1:decide (y<0)
    · cases h2:y==pick
      · cases decide (a<0)<;>cases decide (y<a)<;>cases decide (y > last)<;>cases decide (b<0)<;>cases decide (y<b)<;>rfl
      · have:y=pick:=by simpa using h2
        rw [this];rfl
    · rfl
  · intro a b;simp only [qR,Vx]
def LF (o:j8):j8:=j8.mk o.Vr o.Vc o.box o.Vp o.qx o.gE o.Vl o.qw (i64.wrap (o.qq+1)) o.Vm o.pX o.Vh o.Vf
def ue (p:cd) (now:Int):Int:=zo (runnable p now) p.Vj (i64.wrap (p.Vk - 1))
def I4 (p:cd) (now:Int):Bool:=decide (ue p now<0) || (decide (p.bh.qg ≥ 1000000) || decide ((nth p.U7.ag (ue p now)).qq ≥ 1000000))
def xy (p:cd) (now:Int):cd×Int :=
  if rF p then
    (if I4 p now then (cd.mk p.Vb p.own p.Vd p.U7 p.pU p.Vj 0 p.bh p.pZ p.Vi, -1) else
      (cd.mk p.Vb p.own (rK p.Vd (we p (nth p.U7.ag (ue p now)).Vp) ⟨0,0,1⟩).1 (qd.mk (p.U7.ag.set (ue p now).toNat (LF (nth p.U7.ag (ue p now)))) p.U7.gc) p.pU (ue p now) 0
        (qj.mk p.bh.gE p.bh.qa (i64.wrap (p.bh.qg+1))) p.pZ p.Vi,ue p now))
  else (p, -1)
theorem EL {p:cd} {now:Int} (h:decide (ue p now<0)=false):rF p=true∧0≤ue p now∧ue p now≤9:=by
  have:=Lo _ _ _ h;unfold runnable at this;exact u7 (List.mem_filter.1 this).1
theorem S4 {o:j8} (h:sB o=true):0≤o.qq∧o.qq≤1000000:=by
  unfold sB at h;cases hk:o.Vc==0
  · simp only [hk,Vx,VB] at h;have h:=h.2.2.2.2.2.2.2;cases h4:o.Vc != 4
    · rw [h4] at h;simp only [Vx,VB] at h;exact rk.1 h.2.2
    · rw [h4] at h;simp only [Vy,VB,beq_iff_eq] at h;omega
  · simp only [hk,Vy,VB,decide_eq_true_eq] at h;rw [h.2.2];exact ⟨Int.le_refl _,by show (0:Int)≤1000000;decide⟩
theorem O2 {n:Int} (h:n≤1000000):(n==1000000)=decide (n ≥ 1000000):=by
  rw [Bool.eq_iff_iff];simp;omega
theorem OC {a:qj} (h:re a=true):(0≤a.gE∧a.gE≤1000000)∧(0≤a.qa∧a.qa≤1000000)∧(0≤a.qg∧a.qg≤1000000):=by
  unfold re EA at h;simpa only [VB,rk] using h
theorem Kd {p:cd} (h:rF p=true):re p.bh=true:=by
  unfold rF Hm at h;simp only [VB] at h;exact h.2.2.2.2.2.2.2.2.1
theorem OE {N:Nat} (hN:pW≤N) {p:cd} (hb:qh p<pW) (now:Int):zz N p now=some (xy p now):=by
  have hr:(runnable p now).length<pW:=Nat.lt_of_le_of_lt (ED p now) (by decide);unfold zz xy;simp only [xR hN hb,Ac hN hb,ND hN hb,Ov hN hr,Vw];cases hp:rF p
  · rfl
  simp only [Vz,Vx,if_true];rw [show zo (runnable p now) p.Vj (i64.wrap (p.Vk - 1))=ue p now from rfl];unfold I4;have hsp:=OC (Kd hp);cases hn:decide (ue p now<0)
  · obtain ⟨_,n0,n9⟩:=EL hn;obtain ⟨e1,e2⟩:=(sg hp).at n0 n9;have hran:=S4 ((sg hp).ok _ e2);simp only [Vx,e1,Vw,O2 hsp.2.2.2,O2 hran.2,D6,Hw hN,BV hN (sm hb).2.2.1,Ao,Bool.false_or];cases decide (p.bh.qg ≥ 1000000)
    · cases decide ((nth p.U7.ag (ue p now)).qq ≥ 1000000)
      · have ea:qY p.bh (tW 2 1)=qj.mk p.bh.gE p.bh.qa (i64.wrap (p.bh.qg+1)):=by
          show qj.mk (i64.wrap (p.bh.gE+0)) (i64.wrap (p.bh.qa+0)) (i64.wrap (p.bh.qg+1))=_
          rw [rG (n:=p.bh.gE+0) (by omega) (by omega),rG (n:=p.bh.qa+0) (by omega) (by omega),Int.add_zero,Int.add_zero]
        rw [ea];rfl
      · rfl
    · rfl
  · rfl
theorem Ou {N:Nat} (hN:pW≤N) {p:cd} (hb:qh p<pW) (hw:wP p) (now:Int):zD N p now=some (xy p now):=by
  have hr:(runnable p now).length<pW:=Nat.lt_of_le_of_lt (ED p now) (by decide);unfold zD xy;simp only [At hN hb,Ag hN hb hw,NB hN hb hw,O9 hN hr,Vw];cases hp:rF p
  · rfl
  simp only [Vz,Vx,if_true];rw [show zo (runnable p now) p.Vj (i64.wrap (p.Vk - 1))=ue p now from rfl];unfold I4;cases hn:decide (ue p now<0)
  · obtain ⟨_,n0,n9⟩:=EL hn;obtain ⟨e1,e2⟩:=(sg hp).at n0 n9;simp only [Vx,e1,Vw,DJ hN,Az hN (sm hb).2.2.1,Bool.false_or];cases decide (p.bh.qg ≥ 1000000)
    · cases decide ((nth p.U7.ag (ue p now)).qq ≥ 1000000)<;>rfl
    · rfl
  · rfl
theorem R0 (p:cd) (now:Int):qh (xy p now).1≤qh p+100:=by
  unfold xy;split
  · rename_i hp;split
    · exact Nat.le_add_right _ _
    · rename_i hn;unfold I4 at hn;simp only [Bool.or_eq_true,not_or,Bool.not_eq_true] at hn;obtain ⟨_,n0,n9⟩:=EL hn.1;have h1:=Ep ((sg hp).ok _ ((sg hp).at n0 n9).2);have h2:qU qf (p.U7.ag.set (ue p now).toNat (LF (nth p.U7.ag (ue p now))))≤qU qf p.U7.ag+12:=Nat.le_trans Bh (Nat.add_le_add_left h1 _);have h3:=tL p.Vd (we p (nth p.U7.ag (ue p now)).Vp) ⟨0,0,1⟩;unfold qh sy;simp only [h3];omega
  · exact Nat.le_add_right _ _
end Go.Kx
namespace Go.Kx
open Go
open Go.IntKind (i64)
set_option linter.unusedVariables false
set_option linter.unusedSimpArgs false
set_option maxRecDepth 10000
def El (i:Int) (x:Int):Int:=if x==i then -1 else x
def FL (i:Int) (o:j8):j8:=if o.Vc==0 then o else j8.mk o.Vr o.Vc (if o.box==i then -1 else o.box) o.Vp o.qx o.gE o.Vl o.qw o.qq o.Vm (o.pX.map (El i)) o.Vh o.Vf
def uL (l:List j8) (i:Int):List j8×Bool:=if sk l&&(qn i 1 9&&((nth l i).Vc != 0)) then ((l.set i.toNat (blank (nth l i).Vr)).map (FL i),true) else (l,false)
theorem J6 {l:List j8} (h:Ar l) {i g:Int} {k:Nat} {y:j8} (hy:(l.set i.toNat (blank g))[k]?=some y) (hk:(y.Vc==0)=false):sB y=true:=by
  rcases List.mem_or_eq_of_mem_set (List.mem_of_getElem? hy) with q | q
  · exact h.ok y q
  · rw [q] at hk;simp [blank] at hk
theorem Dm {o:j8} (h:sB o=true) (hk:(o.Vc==0)=false):o.pX.length=2:=by
  unfold sB at h;simp only [hk,Vx,VB] at h;obtain ⟨_,_,_,_,_,_,hl,_⟩:=h;unfold Al at hl;simp only [VB,beq_iff_eq] at hl;omega
theorem Li {N:Nat} (hN:pW≤N) {l:List j8} (hb:qU qf l<pW) (i:Int):xU N l i=some (uL l i):=by
  unfold xU uL;simp only [BC hN hb,BY hN hb,uA,Vw];cases ha:sk l
  · rfl
  have h:=sG.1 ha;cases hi:qn i 1 9
  · rfl
  have hr:=rk.1 hi;simp only [Vz,Vx,(h.at (i:=i) (by omega) hr.2).1,Vw,bne,VA];cases hk:(nth l i).Vc==0
  · simp only [Vx,Bool.not_false,if_true];rw [show j8.mk (nth l i).Vr 0 0 0 0 0 0 0 0 false [] [] []=blank (nth l i).Vr from rfl];have hlen:(l.set i.toNat (blank (nth l i).Vr)).length=l.length:=List.length_set;rw [Ai (l.set i.toNat (blank (nth l i).Vr)) (FL i) (by rw [hlen];exact Nat.lt_of_lt_of_le h.DG hN)]
    · rfl
    · intro k t y ht hty hy hkl
      have hk10:k<10:=by rw [hlen,h.len] at hkl;exact hkl
      have hd:decide ((k:Int)<(l.length:Int))=true:=by simp [h.len];omega
      have hkt:k<t.length:=rD hty;simp only [hd,Vy,qv,hty,Vw,qV (show k<pW from Nat.lt_trans hk10 (by decide))];unfold FL;cases hyk:y.Vc==0
      · have ho:=J6 h hy hyk;have h2:=Dm ho hyk
        have hLB:y.pX.length<pW:=by rw [h2];decide
        have inner:iter (fun (s124:(List Int)×Int)=>(bif (decide (s124.2<(y.pX.length:Int))) then ((idx s124.1 s124.2).bind fun y127=>bif (y127==i) then (some (.inl (s124.1.set (s124.2:Int).toNat (-1),i64.wrap (s124.2+1)))) else (some (.inl (s124.1,i64.wrap (s124.2+1))))) else (some (.inr (s124.1,s124.2))):Option (((List Int)×Int)⊕((List Int)×Int)))) N (y.pX,0)=some (y.pX.map (El i),(y.pX.length:Int)):=by
          rw [Ai y.pX (El i) (Nat.lt_of_lt_of_le hLB hN)]
          · intro j t2 z ht2 hz _ hj;simp only [qQ hj,Vy,qv,hz,Vw,qV (Nat.lt_trans hj hLB),Int.toNat_natCast];unfold El;cases z==i
            · simp [vR hz]
            · rfl
          · intro t2 ht2;simp only [qR,Vx]
        simp only [Vx,Bool.false_eq_true,if_false];cases hbx:y.box==i
        · simp only [Vx,Vw,qv,hty,Bool.false_eq_true,if_false];rw [inner];rfl
        · simp only [Vy,Vw,Int.toNat_natCast,qv,List.getElem?_set_self hkt,if_true];rw [inner];simp only [Vw,List.set_set]
      · simp only [Vy,if_true];rw [vR hty]
    · intro t ht
      have hd:decide (((l.set i.toNat (blank (nth l i).Vr)).length:Int)<(l.length:Int))=false:=by rw [hlen];simp
      simp only [hd,Vx]
  · rfl
theorem Lx {N:Nat} (hN:pW≤N) {l:List j8} (hb:qU qf l<pW) (hw:wA l) (i:Int):ya N l i=some (uL l i):=by
  unfold ya uL;simp only [Gl hN hb,yS hN hb hw,ua,Vw];cases ha:sk l
  · rfl
  have h:=sG.1 ha;cases hi:qn i 1 9
  · rfl
  have hr:=rk.1 hi;simp only [Vz,Vx,(h.at (i:=i) (by omega) hr.2).1,Vw,bne,VA];cases hk:(nth l i).Vc==0
  · simp only [Vx,Bool.not_false,if_true];rw [show j8.mk (nth l i).Vr 0 0 0 0 0 0 0 0 false [] [] []=blank (nth l i).Vr from rfl];have hlen:(l.set i.toNat (blank (nth l i).Vr)).length=l.length:=List.length_set;rw [Ai (l.set i.toNat (blank (nth l i).Vr)) (FL i) (by rw [hlen];exact Nat.lt_of_lt_of_le h.DG hN)]
    · rfl
    · intro k t y ht hty hy hkl
      have hk10:k<10:=by rw [hlen,h.len] at hkl;exact hkl
      have hkt:k<t.length:=rD hty;simp only [qQ hkt,Vy,qv,hty,Vw,qV (show k<pW from Nat.lt_trans hk10 (by decide))];unfold FL;cases hyk:y.Vc==0
      · have ho:=J6 h hy hyk;have h2:=Dm ho hyk;simp only [Vx,Bool.false_eq_true,if_false]
        have inner:∀ (t2:List j8) (z:j8),t2.length=t.length→t2[k]?=some z→z.pX.length=2→iter (fun (s90:(List j8)×Int)=>(bif (decide (s90.2<2)) then ((idx s90.1 (k:Int)).bind fun y93=>(idx y93.pX s90.2).bind fun y115=>bif (y115==i) then (some (.inl ((s90.1.set (k:Int).toNat (j8.mk y93.Vr y93.Vc y93.box y93.Vp y93.qx y93.gE y93.Vl y93.qw y93.qq y93.Vm (y93.pX.set (s90.2:Int).toNat (-1)) y93.Vh y93.Vf)),i64.wrap (s90.2+1)))) else (some (.inl (s90.1,i64.wrap (s90.2+1))))) else (some (.inr (s90.1,s90.2))):Option (((List j8)×Int)⊕((List j8)×Int)))) N (t2,0) =
            some (t2.set k (j8.mk z.Vr z.Vc z.box z.Vp z.qx z.gE z.Vl z.qw z.qq z.Vm (z.pX.map (El i)) z.Vh z.Vf),2):=by
          intro t2 z hl2 hz hz2
          have hk2:k<t2.length:=by omega
          obtain ⟨a,b,hab⟩:∃ a b,z.pX=[a,b]:=by
            match hq:z.pX with
            | []=>simp [hq] at hz2
            | [a]=>simp [hq] at hz2
            | [a,b]=>exact ⟨a,b,rfl⟩
            | a::b::c::r=>simp [hq] at hz2
          obtain ⟨M,rfl⟩:∃ M,N=M+3:=⟨N - 3,by have:16777216≤N:=hN;omega⟩;have hset:∀ u:j8,(t2.set k u)[k]?=some u:=fun u=>List.getElem?_set_self hk2
          have hid:t2.set k (j8.mk z.Vr z.Vc z.box z.Vp z.qx z.gE z.Vl z.qw z.qq z.Vm [a,b] z.Vh z.Vf)=t2:=by rw [← hab];exact vR hz
          have w1:i64.wrap (0+1)=1:=by decide
          have w2:i64.wrap (1+1)=2:=by decide
          unfold iter;simp only [show decide ((0:Int)<2)=true from rfl,Vy,qv,hz,Vw,hab,show idx [a,b] 0=some a from rfl,w1,Int.toNat_natCast];cases hA:a==i
          · simp only [Vx,Vw];unfold iter;simp only [show decide ((1:Int)<2)=true from rfl,Vy,qv,hz,Vw,hab,show idx [a,b] 1=some b from rfl,w2,Int.toNat_natCast];cases hB:b==i
            · simp only [Vx,Vw];unfold iter;simp [El,hA,hB,hid]
            · simp only [Vy,Vw];unfold iter;simp [El,hA,hB]
          · simp only [Vy,Vw];unfold iter;simp only [show decide ((1:Int)<2)=true from rfl,Vy,qv,hset,Vw,w2,Int.toNat_natCast];rw [show idx ([a,b].set (0:Int).toNat (-1)) 1=some b from rfl];simp only [Vw];cases hB:b==i
            · simp only [Vx,Vw];unfold iter;simp [El,hA,hB]
            · simp only [Vy,Vw,List.set_set];unfold iter;simp [El,hA,hB]
        simp only [qv,Int.toNat_natCast] at inner ⊢;cases hbx:y.box==i
        · simp only [Vx,Vw,Bool.false_eq_true,if_false];rw [inner t y rfl hty h2];rfl
        · simp only [Vy,Vw,Int.toNat_natCast,if_true];have e:=inner (t.set k (j8.mk y.Vr y.Vc (-1) y.Vp y.qx y.gE y.Vl y.qw y.qq y.Vm y.pX y.Vh y.Vf)) (j8.mk y.Vr y.Vc (-1) y.Vp y.qx y.gE y.Vl y.qw y.qq y.Vm y.pX y.Vh y.Vf) List.length_set (List.getElem?_set_self hkt) h2;rw [e];simp only [Vw,List.set_set]
      · simp only [Vy,if_true];rw [vR hty]
    · intro t ht;rw [← ht];simp only [qR,Vx]
  · rfl
def xO (t:List qc) (f:Int) (a:qj):List qc×Bool :=
  if r9 t&&(re a&&re (qY (vo t) a)) then
    (t.set (if ru t f then f else 0).toNat (HN (nth t (if ru t f then f else 0)) (qY (nth t (if ru t f then f else 0)).qI a)),true)
  else (t,false)
theorem CI (t:List qc) (f:Int) (a:qj):(xO t f a).1.length=t.length:=by
  unfold xO;split<;>simp
theorem Eg {N:Nat} (hN:pW≤N) {t:List qc} (hB:t.length<pW) (f:Int) (a:qj):vU N t f a=some (xO t f a):=by
  unfold vU xO;simp only [wV hB,Ae hN,yr,Ii hN hB,Ao,Vw,sA];cases ht:r9 t
  · rfl
  have hl:=xp ht;cases re a
  · rfl
  cases re (qY (vo t) a)
  · rfl
  simp only [Vz,Bool.or_self,Vx,yW N hl,Vw,Bool.and_self,if_true];cases hv:ru t f
  · simp only [Bool.not_false,Vy,Vw,ri (l:=t) (i:=0) (by omega) (by omega),Bool.false_eq_true,if_false];rfl
  · obtain ⟨f0,f4⟩:=tM hv;simp only [Vz,Vx,Vw,ri (l:=t) f0 (by omega),if_true];rfl
theorem RX {n:Int}:EA n=true ↔ 0≤n∧n≤1000000:=rk
theorem tq {a:qj}:re a=true ↔ (0≤a.gE∧a.gE≤1000000)∧(0≤a.qa∧a.qa≤1000000)∧(0≤a.qg∧a.qg≤1000000):=by
  unfold re;simp only [VB,RX]
theorem Cp:∀ (t:List qc) (s:qj) (B:Int),(∀ r,r ∈ t→re r.qI=true)→0≤B→B+1000000 * (t.length:Int)≤1000000000→(0≤s.gE∧s.gE≤B)→(0≤s.qa∧s.qa≤B)→(0≤s.qg∧s.qg≤B) →
    (s.gE≤(rL s t).gE∧s.qa≤(rL s t).qa∧s.qg≤(rL s t).qg) ∧
      ∀ r,r ∈ t→r.Vs=true→r.qI.gE≤(rL s t).gE∧r.qI.qa≤(rL s t).qa∧r.qI.qg≤(rL s t).qg
  | [],s,B,_,_,_,_,_,_=>⟨⟨Int.le_refl _,Int.le_refl _,Int.le_refl _⟩,fun r hr=>by simp at hr⟩
  | r::t,s,B,h,hB,hL,h1,h2,h3=>by
    have hr:=tq.1 (h r (by simp));simp only [List.length_cons] at hL;have e:rL s (r::t)=rL (if r.Vs then qY s r.qI else s) t:=rfl;rw [e];cases hv:r.Vs
    · obtain ⟨q1,q2⟩:=Cp t s B (fun x hx=>h x (by simp [hx])) hB (by omega) h1 h2 h3;refine ⟨q1,fun x hx hl=>?_⟩
      rcases List.mem_cons.1 hx with rfl | hx
      · rw [hv] at hl;cases hl
      · exact q2 x hx hl
    · simp only [if_true];have w1:(qY s r.qI).gE=s.gE+r.qI.gE:=rG (by omega) (by omega);have w2:(qY s r.qI).qa=s.qa+r.qI.qa:=rG (by omega) (by omega);have w3:(qY s r.qI).qg=s.qg+r.qI.qg:=rG (by omega) (by omega);obtain ⟨⟨a1,a2,a3⟩,q2⟩:=Cp t (qY s r.qI) (B+1000000) (fun x hx=>h x (by simp [hx])) (by omega) (by omega) (by omega) (by omega) (by omega);refine ⟨⟨by omega,by omega,by omega⟩,fun x hx hl=>?_⟩
      rcases List.mem_cons.1 hx with rfl | hx
      · exact ⟨by omega,by omega,by omega⟩
      · exact q2 x hx hl
theorem Ih {t:List qc} (h:Tr t) {a:qj} (ha:re a=true) (hs:re (qY (rL ⟨0,0,0⟩ t) a)=true) {i:Int} (hi:0≤i∧i≤4) (hv:(nth t i).Vs=true):v5 (nth t i).qI a=(qY (nth t i).qI a,true):=by
  have hl:=h.len;have hm:nth t i ∈ t:=tP hi.1 (by omega);obtain ⟨_,q⟩:=Cp t ⟨0,0,0⟩ 0 h.qI (by omega) (by omega) ⟨by decide,by decide⟩ ⟨by decide,by decide⟩ ⟨by decide,by decide⟩;obtain ⟨q1,q2,q3⟩:=q _ hm hv;have hb:=tq.1 (h.qI _ hm);have ha':=tq.1 ha;have hS:=tq.1 h.sum;have w1:(qY (rL ⟨0,0,0⟩ t) a).gE=(rL ⟨0,0,0⟩ t).gE+a.gE:=rG (by omega) (by omega);have w2:(qY (rL ⟨0,0,0⟩ t) a).qa=(rL ⟨0,0,0⟩ t).qa+a.qa:=rG (by omega) (by omega);have w3:(qY (rL ⟨0,0,0⟩ t) a).qg=(rL ⟨0,0,0⟩ t).qg+a.qg:=rG (by omega) (by omega);have hs':=tq.1 hs;have v1:(qY (nth t i).qI a).gE=(nth t i).qI.gE+a.gE:=rG (by omega) (by omega);have v2:(qY (nth t i).qI a).qa=(nth t i).qI.qa+a.qa:=rG (by omega) (by omega);have v3:(qY (nth t i).qI a).qg=(nth t i).qI.qg+a.qg:=rG (by omega) (by omega);have:re (qY (nth t i).qI a)=true:=tq.2 ⟨by omega,by omega,by omega⟩;unfold v5;rw [h.qI _ hm,ha,this];rfl
theorem D8 {N:Nat} (hN:pW≤N) {t:List qc} (hB:t.length<pW) (f:Int) (a:qj):vY N t f a=some (xO t f a):=by
  unfold vY xO;simp only [w5 hB,C1 hN,HH hN hB,Ev,Af hN,Vw];cases ht:r9 t
  · rfl
  have hT:=zr.1 ht;have hl:=hT.len
  have e:(v5 (rL ⟨0,0,0⟩ t) a).2=(re a&&re (qY (vo t) a)):=by
    unfold v5 vo;rw [hT.sum,ht];simp only [if_true,VA];cases re a&&re (qY (rL ⟨0,0,0⟩ t) a)<;>rfl
  rw [e];simp only [Vz,Vx,VA];cases hc:(re a&&re (qY (vo t) a))
  · rfl
  rw [VB] at hc
  have hs:re (qY (rL ⟨0,0,0⟩ t) a)=true:=by
    have:=hc.2;unfold vo at this
    rwa [ht,if_pos rfl] at this
  simp only [Vz,Vx,if_true];cases hv:ru t f
  · simp only [Bool.not_false,Vy,Vw,ri (l:=t) (i:=0) (by omega) (by omega),Ih hT hc.1 hs (i:=0) ⟨by omega,by omega⟩ hT.Mk,Bool.false_eq_true,if_false];rfl
  · obtain ⟨f0,f4⟩:=tM hv
    have hlv:(nth t f).Vs=true:=by unfold ru at hv;rw [VB] at hv;exact hv.2
    simp only [Vz,Vx,Vw,ri (l:=t) f0 (by omega),Ih hT hc.1 hs (i:=f) ⟨f0,f4⟩ hlv,if_true];rfl
end Go.Kx
namespace Go.Kx
open Go
open Go.IntKind (i64)
set_option linter.unusedVariables false
set_option linter.unusedSimpArgs false
set_option maxRecDepth 10000
def wz (h:qd) (k:Int):qd :=
  if (h.gc.Ve==0)&&(((nth h.ag k).Vc != 0)&&!(nth h.ag k).Vm) then
    qd.mk (h.ag.set k.toNat (marked (nth h.ag k) true)) (rl.mk h.gc.Ve h.gc.Vn h.gc.Vg (if h.gc.pT.contains k then h.gc.pT else h.gc.pT++[k]))
  else h
theorem Kt {l:List Int} {k:Int} (h:l.length+1<pW):app l [k]=some (l++[k]):=by
  unfold app;rw [if_pos (by simpa using h)]
theorem LD {N:Nat} (hN:pW≤N) {h:qd} {k:Int} (h0:0≤k) (h1:k<(h.ag.length:Int)) (hg:h.gc.pT.length+1<pW):Am N h k=some (wz h k):=by
  have hg':h.gc.pT.length<pW:=by omega
  unfold Am wz;rw [← Bool.cond_eq_ite];simp only [ri (l:=h.ag) h0 h1,A8 hN hg',Kt hg,Vw,bne];cases h.gc.Ve==0
  · rfl
  cases (nth h.ag k).Vc==0
  · cases (nth h.ag k).Vm
    · cases h.gc.pT.contains k<;>rfl
    · rfl
  · rfl
theorem G6 {N:Nat} (hN:pW≤N) {h:qd} {k:Int} (h0:0≤k) (h1:k<(h.ag.length:Int)) (hg:h.gc.pT.length+1<pW):xB N h k=some (wz h k):=by
  have hg':h.gc.pT.length<pW:=by omega
  unfold xB wz;rw [← Bool.cond_eq_ite];simp only [ri (l:=h.ag) h0 h1,DS hN hg',Kt hg,Vw,bne];cases h.gc.Ve==0
  · rfl
  cases (nth h.ag k).Vc==0
  · cases (nth h.ag k).Vm
    · cases h.gc.pT.contains k<;>rfl
    · rfl
  · rfl
theorem F7 (h:qd) (k:Int):(wz h k).ag.length=h.ag.length:=by
  unfold wz;split<;>simp
theorem Eb (h:qd) (k:Int):(wz h k).gc.pT.length≤h.gc.pT.length+1:=by
  unfold wz;split
  · simp only;split
    · exact Nat.le_succ _
    · simp
  · exact Nat.le_succ _
theorem Hz {l:List j8} {i j:Int} {o:j8} (h0:0≤i) (h1:i<(l.length:Int)) (hj:0≤j):nth (l.set i.toNat o) j=if i=j then o else nth l j:=by
  unfold nth;rw [List.getElem?_set]
  by_cases e:i=j
  · subst e;rw [if_pos rfl,if_pos (by omega),if_pos rfl];rfl
  · rw [if_neg (by omega),if_neg e]
theorem Pg {h:qd} {k j:Int} {now:Int} (h0:0≤k) (h1:k<(h.ag.length:Int)) (hj:0≤j):rN (nth (wz h k).ag j) now=rN (nth h.ag j) now:=by
  unfold wz;split
  · simp only;rw [Hz h0 h1 hj];split
    · rename_i e;subst e;rfl
    · rfl
  · rfl
def uH (l:List j8) (now:Int) (h:qd) (k:Int):qd:=if rN (nth l k) now then h else wz h k
def qK (h:qd):Int:=nth h.gc.pT ((h.gc.pT.length:Int) - 1)
def wc (h:qd):List Int:=h.gc.pT.take (h.gc.pT.length - 1)
def Da (h:qd) (now:Int):qd :=
  if h.gc.pT.length=0 then qd.mk h.ag (rl.mk 1 0 h.gc.Vg h.gc.pT)
  else if (qK h != 0)&&rN (nth h.ag (qK h)) now then qd.mk h.ag (rl.mk h.gc.Ve h.gc.Vn h.gc.Vg (wc h))
  else (uk h.ag (qK h)).foldl (uH h.ag now) (qd.mk (h.ag.set (qK h).toNat (marked (nth h.ag (qK h)) true)) (rl.mk h.gc.Ve h.gc.Vn h.gc.Vg (wc h)))
def ht (h:qd):List j8×Int×Int×Int×List Int:=(h.ag,h.gc.Ve,h.gc.Vn,h.gc.Vg,h.gc.pT)
theorem H5 {N:Nat} (hN:pW≤N) {l:List j8} {now:Int} {e:List Int} (he:∀ y,y ∈ e→0≤y∧y≤9) (hel:e.length≤10) {h:qd} (hl:h.ag.length=10) {G:Nat} (hg:h.gc.pT.length≤G) (hG:G+20<pW)
    (hx:∀ j,0≤j→rN (nth h.ag j) now=rN (nth l j) now)
    {body:Int×List j8×Int×Int×Int×List Int→Option ((Int×List j8×Int×Int×Int×List Int)⊕(Int×List j8×Int×Int×Int×List Int))}
    (hs:∀ (k:Nat) (t:qd) (y:Int),e[k]?=some y→k<e.length→t.ag.length=10→t.gc.pT.length+1<pW→(∀ j,0≤j→rN (nth t.ag j) now=rN (nth l j) now)→0≤y→y≤9→body ((k:Int),ht t)=some (.inl (((k+1:Nat):Int),ht (uH l now t y))))
    (hend:∀ t,body ((e.length:Int),ht t)=some (.inr ((e.length:Int),ht t))) :
    iter body N (0,ht h)=some ((e.length:Int),ht (e.foldl (uH l now) h)):=by
  have hB:e.length<pW:=by omega
  rw [show ((0:Int),ht h)=(fun (k:Nat) (t:qd)=>((k:Int),ht t)) 0 h from rfl,
    sC e (fun (k:Nat) (t:qd)=>((k:Int),ht t)) (fun _ t y=>uH l now t y) (fun t=>((e.length:Int),ht t)) (fun k t=>t.ag.length=10∧t.gc.pT.length≤G+k∧∀ j,0≤j→rN (nth t.ag j) now=rN (nth l j) now) ?_ ?_ (Nat.lt_of_lt_of_le hB hN) ⟨hl,hg,hx⟩,tJ]
  · intro k t y hy hk ⟨i1,i2,i3⟩;obtain ⟨y0,y9⟩:=he y (List.mem_of_getElem? hy);refine ⟨hs k t y hy hk i1 (by omega) i3 y0 y9,?_⟩;unfold uH;split
    · exact ⟨i1,by omega,i3⟩
    · have:=Eb t y;exact ⟨by rw [F7,i1],by omega,fun j hj=>by rw [Pg y0 (by omega) hj,i3 j hj]⟩
  · intro t _;exact hend t
theorem Kv {h:qd} (q:sK h=true):∀ y,y ∈ h.gc.pT→0≤y∧y≤9:=by
  unfold sK at q;simp only [VB,vX] at q;intro y hy;obtain ⟨k,hk⟩:=List.getElem?_of_mem hy;have:=q.2.2.2 k y hk;unfold Cr at this;rw [VB,rk] at this;exact this.1
theorem CS {h:qd} (q:sK h=true) (hg:h.gc.pT.length ≠ 0):0≤qK h∧qK h≤9:=Kv q _ (tP (by omega) (by omega))
theorem JE {g:List Int} (hg:g.length ≠ 0) (hB:g.length<pW):i64.wrap ((g.length:Int) - 1)=((g.length - 1:Nat):Int)∧sub g 0 ((g.length - 1:Nat):Int)=some (g.take (g.length - 1)):=by
  have:g.length<16777216:=hB;exact ⟨by rw [rG (by omega) (by omega)];omega,Es (by omega)⟩
def JG (l:List j8):List j8:=l.set 0 (marked (nth l 0) true)
def ve (h:qd) (now:Int):Bool:=(h.gc.Vn != 0)&&(((nth h.ag h.gc.Vn).Vc != 0)&&(rN (nth h.ag h.gc.Vn) now || !(nth h.ag h.gc.Vn).Vm))
def uY (h:qd) (now:Int):List j8:=if ve h now then (uL h.ag h.gc.Vn).1 else h.ag.set h.gc.Vn.toNat (marked (nth h.ag h.gc.Vn) false)
def xG (h:qd) (now:Int):qd×Int :=
  (if h.gc.Vn==9 then qd.mk (JG (uY h now)) (rl.mk 0 0 (if 1000000<i64.wrap (h.gc.Vg+1) then 1000000 else i64.wrap (h.gc.Vg+1)) [0])
    else qd.mk (uY h now) (rl.mk h.gc.Ve (h.gc.Vn+1) h.gc.Vg h.gc.pT),if ve h now then h.gc.Vn else -1)
def uP (h:qd) (now:Int):qd×Int:=if sK h then (if h.gc.Ve==1 then xG h now else (Da h now, -1)) else (h, -1)
theorem C4 {h:qd} (q:sK h=true):(h.gc.Ve=0)∨(h.gc.Ve=1∧0≤h.gc.Vn∧h.gc.Vn≤9):=by
  unfold sK Fu at q;simp only [VB,Bool.or_eq_true,beq_iff_eq,rk] at q
  rcases q.2.1 with ⟨h1,_⟩ | ⟨h1,h2,_⟩
  · exact .inl h1
  · exact .inr ⟨h1,h2⟩
theorem IM (l:List j8) (i:Int):(uL l i).1.length=l.length:=by
  unfold uL;split<;>simp
theorem EB (h:qd) (now:Int):(uY h now).length=h.ag.length:=by
  unfold uY;split
  · exact IM _ _
  · simp
theorem QE {n:Int} (h0:0≤n) (h9:n≤9):((n+1:Int)==10)=(n==9)∧i64.wrap (n+1)=n+1:=by
  rw [rG (by omega) (by omega)];exact ⟨by rw [Bool.eq_iff_iff];simp;omega,rfl⟩
theorem KI {N:Nat} (hN:pW≤N) {h:qd} (q:sK h=true) (hp:h.gc.Ve=1) (h1:qU qf h.ag<pW) (now:Int):yh N h now=some (xG h now):=by
  have ha:=vf q
  have hr:0≤h.gc.Vn∧h.gc.Vn≤9:=by
    rcases C4 q with e | e
    · rw [hp] at e;cases e
    · exact e.2
  obtain ⟨e1,e2⟩:=QE hr.1 hr.2;have hsl:=EB h now;have e0:idx (uY h now) 0=some (nth (uY h now) 0):=ri (by omega) (by rw [hsl,ha.len];decide);unfold yh xG;simp only [(ha.at hr.1 hr.2).1,Dk,Li hN h1,Vw,tz,sA,e1,e2];rw [show (h.gc.Vn != 0&&((nth h.ag h.gc.Vn).Vc != 0&&(rN (nth h.ag h.gc.Vn) now || !(nth h.ag h.gc.Vn).Vm)))=ve h now from rfl]
  have hsw:(bif ve h now then some (h.gc.Vn,(uL h.ag h.gc.Vn).1) else some (-1,h.ag.set h.gc.Vn.toNat (j8.mk (nth h.ag h.gc.Vn).Vr (nth h.ag h.gc.Vn).Vc (nth h.ag h.gc.Vn).box (nth h.ag h.gc.Vn).Vp (nth h.ag h.gc.Vn).qx (nth h.ag h.gc.Vn).gE (nth h.ag h.gc.Vn).Vl (nth h.ag h.gc.Vn).qw (nth h.ag h.gc.Vn).qq false (nth h.ag h.gc.Vn).pX (nth h.ag h.gc.Vn).Vh (nth h.ag h.gc.Vn).Vf)):Option (Int×List j8))=some (if ve h now then h.gc.Vn else -1,uY h now):=by
    unfold uY;cases ve h now<;>rfl
  rw [hsw];simp only [Vw,e0];cases h.gc.Vn==9<;>rfl
theorem I2 (t:qd):qd.mk t.ag (rl.mk t.gc.Ve t.gc.Vn t.gc.Vg t.gc.pT)=t:=rfl
theorem PV {N:Nat} (hN:pW≤N) {h:qd} (h1:qU qf h.ag<pW) (h2:h.gc.pT.length+20<pW) (now:Int):A9 N h now=some (uP h now):=by
  have h2':h.gc.pT.length<pW:=by omega
  unfold A9 uP;simp only [Cg hN h1 h2',Eo hN h1 h2',Vw];cases q:sK h
  · rfl
  have ha:=vf q;simp only [Vz,Vx,if_true];cases hp:h.gc.Ve==1
  · simp only [Vx,Bool.false_eq_true,if_false];unfold Da
    by_cases hg:h.gc.pT.length=0
    · have:((h.gc.pT.length:Int)==0)=true:=by simp [hg]
      rw [this,if_pos hg];rfl
    · have:((h.gc.pT.length:Int)==0)=false:=beq_eq_false_iff_ne.2 (by omega);obtain ⟨g1,g2⟩:=JE hg h2';obtain ⟨l0,l9⟩:=CS q hg;obtain ⟨e1,e2⟩:=Bk ha (qK h)
      have eg:idx h.gc.pT ((h.gc.pT.length - 1:Nat):Int)=some (qK h):=by
        rw [ri (l:=h.gc.pT) (i:=((h.gc.pT.length - 1:Nat):Int)) (by omega) (by omega)];unfold qK;rw [show ((h.gc.pT.length:Int) - 1)=((h.gc.pT.length - 1:Nat):Int) by omega]
      rw [this,if_neg hg,g1];simp only [Vx,eg,g2,(ha.at l0 l9).1,Dk,Vw];rw [show (bif qK h != 0 then some (rN (nth h.ag (qK h)) now) else some false:Option Bool)=some ((qK h != 0)&&rN (nth h.ag (qK h)) now) from tz _ _];simp only [Vw];cases hc:((qK h != 0)&&rN (nth h.ag (qK h)) now)
      · simp only [Vx,Bool.false_eq_true,if_false];rw [HV hN ha l0 l9];simp only [Vw]
        rw [show ((0:Int),h.ag.set (qK h).toNat (j8.mk (nth h.ag (qK h)).Vr (nth h.ag (qK h)).Vc (nth h.ag (qK h)).box (nth h.ag (qK h)).Vp (nth h.ag (qK h)).qx (nth h.ag (qK h)).gE (nth h.ag (qK h)).Vl (nth h.ag (qK h)).qw (nth h.ag (qK h)).qq true (nth h.ag (qK h)).pX (nth h.ag (qK h)).Vh (nth h.ag (qK h)).Vf),h.gc.Ve,h.gc.Vn,h.gc.Vg,h.gc.pT.take (h.gc.pT.length - 1)) =
          ((0:Int),ht (qd.mk (h.ag.set (qK h).toNat (marked (nth h.ag (qK h)) true)) (rl.mk h.gc.Ve h.gc.Vn h.gc.Vg (wc h)))) from rfl,
          H5 hN (l:=h.ag) (now:=now) e1 e2 (h:=qd.mk (h.ag.set (qK h).toNat (marked (nth h.ag (qK h)) true)) (rl.mk h.gc.Ve h.gc.Vn h.gc.Vg (wc h))) (by simp [ha.len]) (G:=h.gc.pT.length) (by unfold wc;simp) h2
            (fun j hj=>by
              simp only;rw [Hz l0 (by rw [ha.len];omega) hj];split
              · rename_i e;rw [← e];rfl
              · rfl)]
        · rfl
        · intro k t y hy hk t1 t2 t3 y0 y9;simp only [ht,qQ hk,Vy,qv,hy,Vw,(ha.at y0 y9).1,Dk,I2,LD hN y0 (show y<(t.ag.length:Int) by rw [t1];omega) t2,qV (show k<pW by omega)];unfold uH;cases rN (nth h.ag y) now<;>rfl
        · intro t;simp only [ht,qR,Vx]
      · rfl
  · have hp1:h.gc.Ve=1:=by simpa using hp
    simp only [Vy,KI hN q hp1 h1,Vw,if_true]
theorem JR {o:j8} (h:sB o=true) (hk:(o.Vc==0)=true):marked o false=o:=by
  unfold sB at h;simp only [hk,Vy,VB,decide_eq_true_eq] at h;rw [h.2.2];rfl
theorem O1 {N:Nat} (hN:pW≤N) {h:qd} (q:sK h=true) (h1:qU qf h.ag<pW) (hw:wA h.ag) (h2:h.gc.pT.length+20<pW) (now:Int):zL N h now=some (Da h now):=by
  have h2':h.gc.pT.length<pW:=by omega
  have hB:h.gc.pT.length<16777216:=h2';have ha:=vf q;unfold zL Da
  by_cases hg:h.gc.pT.length=0
  · have:decide (i64.wrap ((h.gc.pT.length:Int) - 1)<0)=true:=by rw [hg];decide
    rw [this,if_pos hg];rfl
  · obtain ⟨g1,g2⟩:=JE hg h2';obtain ⟨l0,l9⟩:=CS q hg;obtain ⟨e1,e2⟩:=Bk ha (qK h)
    have eg:idx h.gc.pT ((h.gc.pT.length - 1:Nat):Int)=some (qK h):=by
      rw [ri (l:=h.gc.pT) (i:=((h.gc.pT.length - 1:Nat):Int)) (by omega) (by omega)];unfold qK;rw [show ((h.gc.pT.length:Int) - 1)=((h.gc.pT.length - 1:Nat):Int) by omega]
    have hd:decide (((h.gc.pT.length - 1:Nat):Int)<0)=false:=by simp
    have hgt:decide (qK h > 0)=(qK h != 0):=by
      rw [Bool.eq_iff_iff];simp;omega
    rw [g1,hd,if_neg hg];simp only [Vx,eg,g2,(ha.at l0 l9).1,BT,Vw,hgt];rw [show (bif qK h != 0 then some (rN (nth h.ag (qK h)) now) else some false:Option Bool)=some ((qK h != 0)&&rN (nth h.ag (qK h)) now) from tz _ _];simp only [Vw];cases hc:((qK h != 0)&&rN (nth h.ag (qK h)) now)
    · simp only [Vx,Bool.false_eq_true,if_false];rw [L5 hN h1 hw ha l0 l9];simp only [Vw]
      rw [show ((0:Int),h.ag.set (qK h).toNat (j8.mk (nth h.ag (qK h)).Vr (nth h.ag (qK h)).Vc (nth h.ag (qK h)).box (nth h.ag (qK h)).Vp (nth h.ag (qK h)).qx (nth h.ag (qK h)).gE (nth h.ag (qK h)).Vl (nth h.ag (qK h)).qw (nth h.ag (qK h)).qq true (nth h.ag (qK h)).pX (nth h.ag (qK h)).Vh (nth h.ag (qK h)).Vf),h.gc.Ve,h.gc.Vn,h.gc.Vg,h.gc.pT.take (h.gc.pT.length - 1)) =
        ((0:Int),ht (qd.mk (h.ag.set (qK h).toNat (marked (nth h.ag (qK h)) true)) (rl.mk h.gc.Ve h.gc.Vn h.gc.Vg (wc h)))) from rfl,
        H5 hN (l:=h.ag) (now:=now) e1 e2 (h:=qd.mk (h.ag.set (qK h).toNat (marked (nth h.ag (qK h)) true)) (rl.mk h.gc.Ve h.gc.Vn h.gc.Vg (wc h))) (by simp [ha.len]) (G:=h.gc.pT.length) (by unfold wc;simp) h2
          (fun j hj=>by
            simp only;rw [Hz l0 (by rw [ha.len];omega) hj];split
            · rename_i e;rw [← e];rfl
            · rfl)]
      · rfl
      · intro k t y hy hk t1 t2 t3 y0 y9;simp only [ht,qQ hk,Vy,qv,hy,Vw,ri (l:=t.ag) y0 (show y<(t.ag.length:Int) by rw [t1];omega),BT,t3 y y0,I2,G6 hN y0 (show y<(t.ag.length:Int) by rw [t1];omega) t2,qV (show k<pW by omega)];unfold uH;cases rN (nth h.ag y) now<;>rfl
      · intro t;simp only [ht,qR,Vx]
    · rfl
theorem P7 {N:Nat} (hN:pW≤N) {h:qd} (h1:qU qf h.ag<pW) (hw:wA h.ag) (h2:h.gc.pT.length+20<pW) (now:Int):AV N h now=some (uP h now):=by
  have h2':h.gc.pT.length<pW:=by omega
  unfold AV uP;simp only [Dv hN h1 h2',D9 hN h1 h2' hw,Vw];cases q:sK h
  · rfl
  have ha:=vf q;simp only [Vz,Vx,if_true]
  rcases C4 q with hp | ⟨hp,hr⟩
  · rw [hp];simp only [beq_self_eq_true,Vy,O1 hN q h1 hw h2,Vw];rfl
  · obtain ⟨e1,e2⟩:=QE hr.1 hr.2;have hsl:=EB h now;have e0:idx (uY h now) 0=some (nth (uY h now) 0):=ri (by omega) (by rw [hsl,ha.len];decide)
    have hgt:decide (h.gc.Vn > 0)=(h.gc.Vn != 0):=by rw [Bool.eq_iff_iff];simp;omega
    rw [show (h.gc.Ve==0)=false by rw [hp];rfl,show (h.gc.Ve==1)=true by rw [hp];rfl];unfold xG;simp only [Vx,(ha.at hr.1 hr.2).1,BT,Lx hN h1 hw,Vw,hgt,e1,e2]
    rw [show (bif h.gc.Vn != 0 then (bif (nth h.ag h.gc.Vn).Vc != 0 then (bif !(nth h.ag h.gc.Vn).Vm then some true else some (rN (nth h.ag h.gc.Vn) now)) else some false) else some false:Option Bool)=some (ve h now) by
      unfold ve;rw [sA,tz,tz,Bool.or_comm]]
    simp only [Vw]
    have hsw:(bif ve h now then some (h.gc.Vn,(uL h.ag h.gc.Vn).1) else bif (nth h.ag h.gc.Vn).Vc != 0 then some (-1,h.ag.set h.gc.Vn.toNat (j8.mk (nth h.ag h.gc.Vn).Vr (nth h.ag h.gc.Vn).Vc (nth h.ag h.gc.Vn).box (nth h.ag h.gc.Vn).Vp (nth h.ag h.gc.Vn).qx (nth h.ag h.gc.Vn).gE (nth h.ag h.gc.Vn).Vl (nth h.ag h.gc.Vn).qw (nth h.ag h.gc.Vn).qq false (nth h.ag h.gc.Vn).pX (nth h.ag h.gc.Vn).Vh (nth h.ag h.gc.Vn).Vf)) else some (-1,h.ag):Option (Int×List j8))=some (if ve h now then h.gc.Vn else -1,uY h now):=by
      unfold uY;cases ve h now
      · cases hk:(nth h.ag h.gc.Vn).Vc != 0
        · have hk0:((nth h.ag h.gc.Vn).Vc==0)=true:=by simpa [bne] using hk
          have hid:h.ag.set h.gc.Vn.toNat (marked (nth h.ag h.gc.Vn) false)=h.ag:=by
            rw [JR (ha.ok _ (ha.at hr.1 hr.2).2) hk0];exact vR (xl hr.1 (by rw [ha.len];omega))
          simp [hid]
        · rfl
      · rfl
    rw [hsw];simp only [Vw,e0];cases h.gc.Vn==9<;>rfl
theorem Ip {α:Type} {f:α→Nat} {z:α}:∀ {l:List α} {k:Nat} {y:α},l[k]?=some y→f z=f y→qb f (l.set k z)=qb f l
  | x::l,0,y,h,e=>by simp at h;subst h;simp [qb,e]
  | x::l,k+1,y,h,e=>by
    simp only [List.set_cons_succ,qb];rw [Ip (l:=l) (k:=k) (y:=y) (by simpa using h) e]
theorem xJ {l:List j8} {i:Int} {z:j8} (h0:0≤i) (h1:i<(l.length:Int)) (e:qf z=qf (nth l i)):qU qf (l.set i.toNat z)=qU qf l:=by
  unfold qU;rw [Ip (xl h0 h1) e,List.length_set]
theorem Ey {l:List j8} {now:Int}:∀ (e:List Int) (h:qd),(∀ y,y ∈ e→0≤y∧y≤9)→h.ag.length=10→wA h.ag →
    qU qf (e.foldl (uH l now) h).ag=qU qf h.ag∧wA (e.foldl (uH l now) h).ag∧(e.foldl (uH l now) h).gc.pT.length≤h.gc.pT.length+e.length
  | [],h,_,_,hw=>⟨rfl,hw,Nat.le_refl _⟩
  | y::e,h,he,hl,hw=>by
    obtain ⟨y0,y9⟩:=he y (by simp)
    have hy:y<(h.ag.length:Int):=by rw [hl];omega
    have key:qU qf (uH l now h y).ag=qU qf h.ag∧wA (uH l now h y).ag∧(uH l now h y).gc.pT.length≤h.gc.pT.length+1∧(uH l now h y).ag.length=10:=by
      unfold uH;split
      · exact ⟨rfl,hw,Nat.le_succ _,hl⟩
      · refine ⟨?_,?_,Eb h y,by rw [F7,hl]⟩
        · unfold wz;split
          · exact xJ y0 hy rfl
          · rfl
        · unfold wz;split
          · exact s6 hw (show wg (marked (nth h.ag y) true) from hw (nth h.ag y) (tP y0 hy))
          · exact hw
    obtain ⟨a1,a2,a3⟩:=Ey e (uH l now h y) (fun z hz=>he z (by simp [hz])) key.2.2.2 key.2.1;simp only [List.foldl_cons,List.length_cons];exact ⟨a1.trans key.1,a2,by omega⟩
theorem SJ (i:Int) (o:j8):qf (FL i o)=qf o:=by
  unfold FL;split
  · rfl
  · unfold qf;simp
theorem Tv {i:Int} {o:j8} (h:wg o):wg (FL i o):=by
  unfold FL;split
  · exact h
  · exact h
theorem RW (g:Int):wg (blank g):=by show (-9223372036854775808:Int)≤0;decide
theorem M7 {l:List j8} (hw:wA l) (i:Int):qU qf (uL l i).1≤qU qf l∧wA (uL l i).1:=by
  unfold uL;split
  · refine ⟨?_,fun o ho=>?_⟩
    · show qU qf ((l.set i.toNat (blank (nth l i).Vr)).map (FL i))≤_
      rw [LZ (SJ i)];exact Bh
    · obtain ⟨y,hy,rfl⟩:=List.mem_map.1 ho;exact Tv (s6 hw (RW _) y hy)
  · exact ⟨Nat.le_refl _,hw⟩
theorem DX {h:qd} (hw:wA h.ag) (now:Int):qU qf (uP h now).1.ag≤qU qf h.ag∧wA (uP h now).1.ag∧(uP h now).1.gc.pT.length≤h.gc.pT.length+10 ∧
    (decide ((uP h now).2 ≥ 0)=true→Ar h.ag∧0≤(uP h now).2∧(uP h now).2≤9):=by
  unfold uP;split
  · rename_i q;have ha:=vf q;have hl:=ha.len;split
    · rename_i hp
      have hp:h.gc.Ve=1:=by simpa using hp
      have hr:0≤h.gc.Vn∧h.gc.Vn≤9:=by
        rcases C4 q with e | e
        · rw [hp] at e;cases e
        · exact e.2
      have hs:qU qf (uY h now)≤qU qf h.ag∧wA (uY h now):=by
        unfold uY;split
        · exact M7 hw _
        · exact ⟨Nat.le_of_eq (xJ hr.1 (by rw [hl];omega) rfl),s6 hw (show wg (marked (nth h.ag h.gc.Vn) false) from hw (nth h.ag h.gc.Vn) (ha.at hr.1 hr.2).2)⟩
      have hsl:=EB h now
      have h0:(0:Int)<((uY h now).length:Int):=by rw [hsl,hl];decide
      refine ⟨?_,?_,?_,fun hd=>⟨ha,?_⟩⟩
      · unfold xG JG;simp only;split
        · show qU qf ((uY h now).set (0:Int).toNat _)≤_
          rw [xJ (z:=marked (nth (uY h now) 0) true) (Int.le_refl 0) h0 rfl];exact hs.1
        · exact hs.1
      · unfold xG JG;simp only;split
        · exact s6 hs.2 (show wg (marked (nth (uY h now) 0) true) from hs.2 (nth (uY h now) 0) (tP (Int.le_refl 0) h0))
        · exact hs.2
      · unfold xG;simp only;split
        · simp
        · exact Nat.le_add_right _ _
      · unfold xG at hd ⊢;simp only at hd ⊢;split
        · exact hr
        · rename_i hn;rw [if_neg hn] at hd;simp at hd
    · refine ⟨?_,?_,?_,fun hd=>by simp at hd⟩
      all_goals
        unfold Da
        simp only
        split
        · first | exact Nat.le_refl _ | exact hw | exact Nat.le_add_right _ _
        · rename_i hg
          split
          · first | exact Nat.le_refl _ | exact hw | (unfold wc;simp;omega)
          · obtain ⟨l0,l9⟩:=CS q hg
            obtain ⟨e1,e2⟩:=Bk ha (qK h)
            obtain ⟨a1,a2,a3⟩:=Ey (l:=h.ag) (now:=now) (uk h.ag (qK h)) (qd.mk (h.ag.set (qK h).toNat (marked (nth h.ag (qK h)) true)) (rl.mk h.gc.Ve h.gc.Vn h.gc.Vg (wc h))) e1 (by simp [hl]) (s6 hw (show wg (marked (nth h.ag (qK h)) true) from hw (nth h.ag (qK h)) (ha.at l0 l9).2))
            first
              | exact Nat.le_of_eq (a1.trans (xJ l0 (by rw [hl];omega) rfl))
              | exact a2
              | (refine Nat.le_trans a3 ?_
                 unfold wc
                 simp
                 omega)
  · exact ⟨Nat.le_refl _,hw,Nat.le_add_right _ _,fun hd=>by simp at hd⟩
structure Fo where
  n:Int
  Vd:List qc
  U7:qd
def zv (now:Int) (c:Fo):Fo :=
  if decide ((uP c.U7 now).2 ≥ 0) then ⟨i64.wrap (c.n+1),(xO c.Vd (nth c.U7.ag (uP c.U7 now).2).Vp ⟨(nth c.U7.ag (uP c.U7 now).2).gE,0,0⟩).1,(uP c.U7 now).1⟩
  else ⟨c.n,c.Vd,(uP c.U7 now).1⟩
def EI (now:Int):Nat→Fo→Fo
  | 0,c=>c
  | k+1,c=>EI now k (zv now c)
def tf (p:cd) (now steps:Int):cd×Int :=
  if rF p&&qn steps 0 100 then
    (cd.mk p.Vb p.own (EI now steps.toNat ⟨0,p.Vd,p.U7⟩).Vd (EI now steps.toNat ⟨0,p.Vd,p.U7⟩).U7 p.pU p.Vj p.Vk p.bh p.pZ p.Vi,(EI now steps.toNat ⟨0,p.Vd,p.U7⟩).n)
  else (p,0)
def ct (k:Nat) (c:Fo):Int×Int×List qc×List j8×Int×Int×Int×List Int:=(c.n,(k:Int),c.Vd,c.U7.ag,c.U7.gc.Ve,c.U7.gc.Vn,c.U7.gc.Vg,c.U7.gc.pT)
structure Jm (S T G:Nat) (k:Nat) (c:Fo):Prop where
  sz:qU qf c.U7.ag≤S
  tl:c.Vd.length=T
  gl:c.U7.gc.pT.length≤G+10 * k
  w:wA c.U7.ag
theorem GR {S T G k:Nat} {c:Fo} (h:Jm S T G k c) (now:Int):Jm S T G (k+1) (zv now c):=by
  obtain ⟨s1,s2,s3,_⟩:=DX h.w now;have a1:=h.sz;have a2:=h.tl;have a3:=h.gl;unfold zv;split
  · exact ⟨by simp only;omega,by simp only;rw [CI,a2],by simp only;omega,s2⟩
  · exact ⟨by simp only;omega,a2,by simp only;omega,s2⟩
theorem L0 {S T G:Nat} {now:Int}:∀ (j k:Nat) (c:Fo),Jm S T G k c→Jm S T G (k+j) (EI now j c)
  | 0,k,c,h=>h
  | j+1,k,c,h=>by
    have:=L0 (now:=now) j (k+1) (zv now c) (GR h now)
    rwa [show k+1+j=k+(j+1) by omega] at this
theorem LX {N:Nat} (hN:pW≤N) {now steps:Int} (h0:0≤steps) (h1:steps≤100) {S T G:Nat} {c:Fo} (hc:Jm S T G 0 c)
    {body:Int×Int×List qc×List j8×Int×Int×Int×List Int→Option ((Int×Int×List qc×List j8×Int×Int×Int×List Int)⊕(Int×Int×List qc×List j8×Int×Int×Int×List Int))}
    (hs:∀ (k:Nat) (c:Fo),k<100→(k:Int)<steps→Jm S T G k c→body (ct k c)=some (.inl (ct (k+1) (zv now c)))) (he:∀ c,body (ct steps.toNat c)=some (.inr (ct steps.toNat c))) :
    iter body N (ct 0 c)=some (ct steps.toNat (EI now steps.toNat c)):=by
  have e:∀ (j i:Nat) (c:Fo),foldI (fun _ c (_:Unit)=>zv now c) i c (List.replicate j ())=EI now j c:=by
    intro j
    induction j with
    | zero=>intro i c;rfl
    | succ j ih=>intro i c;rw [List.replicate_succ];unfold foldI EI;exact ih _ _
  rw [sC (List.replicate steps.toNat ()) ct (fun _ c _=>zv now c) (fun c=>ct steps.toNat c) (fun k c=>Jm S T G k c) ?_ ?_ (by have:16777216≤N:=hN;simp;omega) hc,e]
  · intro k c y hy hk hI
    have hk:k<steps.toNat:=by simpa using hk
    exact ⟨hs k c (by omega) (by omega) hI,GR hI now⟩
  · intro c _;rw [show (List.replicate steps.toNat ()).length=steps.toNat by simp];exact he c
theorem IV {N:Nat} (hN:pW≤N) {p:cd} (hb:qh p≤3000000) (hw:wP p) (now steps:Int):wE N p now steps=some (tf p now steps):=by
  have hB:(16777216:Nat)=pW:=rfl
  have hb':qh p<pW:=by omega
  have hz:qU qf p.U7.ag≤3000000∧p.U7.gc.pT.length≤3000000∧p.Vd.length≤3000000:=by unfold qh sy vk at hb;omega
  unfold wE tf;simp only [xR hN hb',Ac hN hb',uA,Vw,sA];cases rF p
  · rfl
  cases hst:qn steps 0 100
  · rfl
  have hr:=rk.1 hst;simp only [Vz,Bool.or_self,Vx,Bool.and_self,if_true]
  rw [show ((0:Int),(0:Int),p.Vd,p.U7.ag,p.U7.gc.Ve,p.U7.gc.Vn,p.U7.gc.Vg,p.U7.gc.pT)=ct 0 ⟨0,p.Vd,p.U7⟩ from rfl,
    LX hN (now:=now) hr.1 hr.2 (S:=3000000) (T:=p.Vd.length) (G:=3000000) (c:=⟨0,p.Vd,p.U7⟩) ⟨hz.1,rfl,by simp only;omega,hw⟩]
  · rfl
  · intro k c hk hks hI;have g1:qU qf c.U7.ag<pW:=Nat.lt_of_le_of_lt hI.sz (by decide)
    have g2:c.U7.gc.pT.length+20<pW:=by have:=hI.gl;omega
    have g3:c.Vd.length<pW:=by rw [hI.tl];omega
    have hd:decide ((k:Int)<steps)=true:=by simpa using hks
    obtain ⟨_,_,_,s4⟩:=DX hI.w now
    show (bif decide ((k:Int)<steps) then _ else _)=_
    rw [hd];simp only [ct,Vy,I2,PV hN g1 g2,Vw,qV (show k<pW by omega)];unfold zv;cases hv:decide ((uP c.U7 now).2 ≥ 0)
    · rfl
    · obtain ⟨har,v0,v9⟩:=s4 hv;simp only [Vy,(har.at v0 v9).1,D6,Eg hN g3,Vw,if_true];rfl
  · intro c
    have hd:decide (((steps.toNat:Nat):Int)<steps)=false:=by simp;omega
    show (bif decide (((steps.toNat:Nat):Int)<steps) then _ else _)=_
    rw [hd];simp only [ct,Vx]
theorem IY {N:Nat} (hN:pW≤N) {p:cd} (hb:qh p≤3000000) (hw:wP p) (now steps:Int):wG N p now steps=some (tf p now steps):=by
  have hB:(16777216:Nat)=pW:=rfl
  have hb':qh p<pW:=by omega
  have hz:qU qf p.U7.ag≤3000000∧p.U7.gc.pT.length≤3000000∧p.Vd.length≤3000000:=by unfold qh sy vk at hb;omega
  unfold wG tf;simp only [At hN hb',Ag hN hb' hw,ua,Vw,sA];cases rF p
  · rfl
  cases hst:qn steps 0 100
  · rfl
  have hr:=rk.1 hst;simp only [Vz,Bool.or_self,Vx,Bool.and_self,if_true]
  rw [show ((0:Int),(0:Int),p.Vd,p.U7.ag,p.U7.gc.Ve,p.U7.gc.Vn,p.U7.gc.Vg,p.U7.gc.pT)=ct 0 ⟨0,p.Vd,p.U7⟩ from rfl,
    LX hN (now:=now) hr.1 hr.2 (S:=3000000) (T:=p.Vd.length) (G:=3000000) (c:=⟨0,p.Vd,p.U7⟩) ⟨hz.1,rfl,by simp only;omega,hw⟩]
  · rfl
  · intro k c hk hks hI;have g1:qU qf c.U7.ag<pW:=Nat.lt_of_le_of_lt hI.sz (by decide)
    have g2:c.U7.gc.pT.length+20<pW:=by have:=hI.gl;omega
    have g3:c.Vd.length<pW:=by rw [hI.tl];omega
    have hd:decide ((k:Int)<steps)=true:=by simpa using hks
    obtain ⟨_,_,_,s4⟩:=DX hI.w now
    show (bif decide ((k:Int)<steps) then _ else _)=_
    rw [hd];simp only [ct,Vy,I2,P7 hN g1 hI.w g2,Vw,qV (show k<pW by omega)];unfold zv;cases hv:decide ((uP c.U7 now).2 ≥ 0)
    · rfl
    · obtain ⟨har,v0,v9⟩:=s4 hv;simp only [Vy,(har.at v0 v9).1,D8 hN g3,Vw,if_true]
  · intro c
    have hd:decide (((steps.toNat:Nat):Int)<steps)=false:=by simp;omega
    show (bif decide (((steps.toNat:Nat):Int)<steps) then _ else _)=_
    rw [hd];simp only [ct,Vx]
theorem MP {p:cd} (hb:qh p≤3000000) (hw:wP p) (now steps:Int):qh (tf p now steps).1≤qh p+1000∧wP (tf p now steps).1:=by
  unfold tf;split
  · rename_i h;rw [VB,rk] at h;have hI:=L0 (now:=now) steps.toNat 0 ⟨0,p.Vd,p.U7⟩ (S:=qU qf p.U7.ag) (T:=p.Vd.length) (G:=p.U7.gc.pT.length) ⟨Nat.le_refl _,rfl,Nat.le_refl _,hw⟩;have a1:=hI.sz;have a2:=hI.tl;have a3:=hI.gl;refine ⟨?_,hI.w⟩;unfold qh sy vk at hb ⊢;simp only;omega
  · exact ⟨Nat.le_add_right _ _,hw⟩
end Go.Kx
