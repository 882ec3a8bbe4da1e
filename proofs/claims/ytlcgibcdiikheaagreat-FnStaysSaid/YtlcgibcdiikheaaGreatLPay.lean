import Derived.Test.YtlcgibcdiikheaaGreatLSum
namespace Go.Kx
open Go
open Go.IntKind (i64)
set_option linter.unusedVariables false
set_option linter.unusedSimpArgs false
set_option maxRecDepth 10000
def lG (w n:Int):gT:=if w==0 then ⟨n,0,0⟩ else if w==1 then ⟨0,n,0⟩ else if w==2 then ⟨0,0,n⟩ else ⟨0,0,0⟩
theorem AN (N:Nat) (w n:Int):pd N w n=some (lG w n):=by
  unfold pd lG;cases w==0<;>cases w==1<;>cases w==2<;>rfl
theorem Fh (N:Nat) (w n:Int):sL N w n=some (lG w n):=by
  unfold sL lG;cases w==0<;>cases w==1<;>cases w==2<;>rfl
def lY (a b:gT):Bool:=iC a&&(iC b&&(decide (a.bh≤b.bh)&&(decide (a.gS≤b.gS)&&decide (a.gW≤b.gW))))
theorem K9 (N:Nat) (a b:gT):tP N a b=some (lY a b):=by
  unfold tP lY;simp only [um,Q8,mh]
theorem KM (N:Nat) (a b:gT):tS N a b=some (lY a b):=by
  unfold tS lY;simp only [rh,Q8,mh]
def vl (a b:gT):gT:=⟨i64.wrap (a.bh - b.bh),i64.wrap (a.gS - b.gS),i64.wrap (a.gW - b.gW)⟩
def xS (a b:gT):gT×Bool:=if lY b a then (vl a b,true) else (a,false)
theorem LX (N:Nat) (a b:gT):u9 N a b=some (xS a b):=by
  unfold u9 xS;rw [K9,Q8];cases lY b a<;>rfl
theorem L4 (N:Nat) (a b:gT):vf N a b=some (xS a b):=by
  unfold vf xS;rw [KM,Q8];cases lY b a<;>rfl
def mB (r:g6) (b:gT):g6:=g6.mk r.Q2 r.Q4 b
theorem jv {α:Type} [ia α] {l:List α} {i:Int} (h0:0≤i) (h1:i<(l.length:Int)):l[i.toNat]?=some (nth l i):=by
  have:=jh (l:=l) h0 h1;unfold idx at this
  rwa [if_pos h0] at this
def iQ (t:List g6) (f:Int) (a:gT):List g6×Bool :=
  if jD t&&iH t f then (if lY a (nth t f).iw then (t.set f.toNat (mB (nth t f) (vl (nth t f).iw a)),true) else (t,false)) else (t,false)
theorem CX {N:Nat} (hN:gX≤N) {t:List g6} (hB:t.length<gX) (f:Int) (a:gT):rv N t f a=some (iQ t f a):=by
  unfold rv iQ;simp only [we hB,vm hN,Q8];cases ht:jD t
  · rfl
  have hl:=rq ht;simp only [Rd,Q9,wF N hl,Q8];cases hv:iH t f
  · rfl
  obtain ⟨f0,f4⟩:=kJ hv;simp only [Rd,Q9,jh (l:=t) f0 (by omega),LX,Q8,Bool.and_self,if_true];unfold xS;cases lY a (nth t f).iw
  · have:t.set f.toNat (g6.mk (nth t f).Q2 (nth t f).Q4 (gT.mk (nth t f).iw.bh (nth t f).iw.gS (nth t f).iw.gW))=t:=nA (jv f0 (by omega));simp only [Bool.false_eq_true,if_false];rw [this]
  · rfl
theorem uv {N:Nat} (hN:gX≤N) {t:List g6} (hB:t.length<gX) (f:Int) (a:gT):mT N t f a=some (iQ t f a):=by
  unfold mT iQ;simp only [pM hB,uf hN,Q8];cases h:(jD t&&iH t f)
  · rfl
  rw [Rg] at h;have hl:=rq h.1;obtain ⟨f0,f4⟩:=kJ h.2;simp only [Rd,Q9,jh (l:=t) f0 (by omega),L4,Q8,if_true];unfold xS;cases lY a (nth t f).iw<;>rfl
theorem mV (t:List g6) (f:Int) (a:gT):(iQ t f a).1.length=t.length:=by
  unfold iQ;split
  · split<;>simp
  · rfl
def vU (last pick:Int):Int→Int→List Int→Int
  | least,next,[]=>if decide (next ≥ 0) then next else least
  | least,next,y::l=>if decide (y<0) then vU last pick least next l else if y==pick then y else
      vU last pick (if decide (least<0) || decide (y<least) then y else least) (if decide (y > last)&&(decide (next<0) || decide (y<next)) then y else next) l
def oG (l:List Int) (last pick:Int):Int:=vU last pick (-1) (-1) l
theorem AI {last pick:Int} {P:Int→Prop}:∀ (l:List Int) (a b:Int),P a→P b→(∀ y,y ∈ l→P y)→P (vU last pick a b l)
  | [],a,b,ha,hb,_=>by unfold vU;split<;>assumption
  | y::l,a,b,ha,hb,h=>by
    have hy:=h y (by simp);have hl:∀ z,z ∈ l→P z:=fun z hz=>h z (by simp [hz]);unfold vU;split
    · exact AI l a b ha hb hl
    · split
      · exact hy
      · refine AI l _ _ ?_ ?_ hl
        · split<;>assumption
        · split<;>assumption
theorem Ax (l:List Int) (last pick:Int) (h:decide (oG l last pick<0)=false):oG l last pick ∈ l:=by
  have:=AI (last:=last) (pick:=pick) (P:=fun y=>y=-1∨y ∈ l) l (-1) (-1) (.inl rfl) (.inl rfl) fun y hy=>.inr hy
  rcases this with q | q
  · unfold oG at h;rw [q] at h;simp at h
  · exact q
theorem Kr {N:Nat} (hN:gX≤N) {l:List Int} (hl:l.length<gX) (last pick:Int) {body:Int×Int×Int→Option ((Int×Int×Int)⊕((Int×Int×Int)⊕Int))}
    (hs:∀ (k:Nat) (a b y:Int),l[k]?=some y→k<l.length→body (a,b,(k:Int))=some (if decide (y<0) then .inl (a,b,((k+1:Nat):Int)) else if y==pick then .inr (.inr y) else
      .inl (if decide (a<0) || decide (y<a) then y else a,if decide (y > last)&&(decide (b<0) || decide (y<b)) then y else b,((k+1:Nat):Int)))) (he:∀ a b,body (a,b,(l.length:Int))=some (.inr (.inl (a,b,(l.length:Int))))) :
    (iter body N (-1, -1,0)).bind (fun o29=>Sum.elim (fun o29=>bif (decide (o29.2.1 ≥ 0)) then (some o29.2.1) else (some o29.1)) (fun r33=>some r33) o29)=some (oG l last pick):=by
  rw [show ((-1:Int),(-1:Int),(0:Int))=(fun (k:Nat) (t:Int×Int)=>(t.1,t.2,(k:Int))) 0 (-1, -1) from rfl,
    nP l (fun (k:Nat) (t:Int×Int)=>(t.1,t.2,(k:Int))) (fun _ t y=>if decide (y<0) then .inl t else if y==pick then .inr (.inr y) else .inl (if decide (t.1<0) || decide (y<t.1) then y else t.1,if decide (y > last)&&(decide (t.2<0) || decide (y<t.2)) then y else t.2)) (fun t=>.inl (t.1,t.2,(l.length:Int))) (fun _ _=>True) ?_ ?_ (Nat.lt_of_lt_of_le hl hN) trivial]
  · simp only [Q8]
    have key:∀ (m:List Int) (k:Nat) (t:Int×Int),Sum.elim (fun (o29:Int×Int×Int)=>bif (decide (o29.2.1 ≥ 0)) then (some o29.2.1) else (some o29.1)) (fun r33=>some r33) (mO (ρ:=(Int×Int×Int)⊕Int) (fun _ t y=>if decide (y<0) then .inl t else if y==pick then .inr (.inr y) else .inl (if decide (t.1<0) || decide (y<t.1) then y else t.1,if decide (y > last)&&(decide (t.2<0) || decide (y<t.2)) then y else t.2)) (fun t=>.inl (t.1,t.2,(l.length:Int))) k t m)=some (vU last pick t.1 t.2 m):=by
      intro m
      induction m with
      | nil =>
        intro k t;unfold mO vU;simp only [Sum.elim_inl];cases decide (t.2 ≥ 0)<;>rfl
      | cons y m ih =>
        intro k t;unfold mO vU;cases decide (y<0)
        · cases y==pick
          · exact ih (k+1) _
          · rfl
        · exact ih (k+1) t
    exact key l 0 (-1, -1)
  · intro k t y hy hk _;refine ⟨?_,fun _ _=>trivial⟩;rw [hs k t.1 t.2 y hy hk];cases decide (y<0)
    · cases y==pick<;>rfl
    · rfl
  · intro t _;exact he t.1 t.2
theorem K1 {N:Nat} (hN:gX≤N) {l:List Int} (hl:l.length<gX) (last pick:Int):tX N l last pick=some (oG l last pick):=by
  unfold tX;refine Kr hN hl last pick ?_ ?_
  · intro k a b y hy hk;simp only [iX hk,Rb,iE,hy,Q8,iZ (Nat.lt_trans hk hl)];cases decide (y<0)<;>cases y==pick<;>cases decide (a<0)<;>cases decide (y<a)<;>cases decide (y > last)<;>cases decide (b<0)<;>cases decide (y<b)<;>rfl
  · intro a b;simp only [iW,Q9]
theorem Kv {N:Nat} (hN:gX≤N) {l:List Int} (hl:l.length<gX) (last pick:Int):tV N l last pick=some (oG l last pick):=by
  unfold tV;refine Kr hN hl last pick ?_ ?_
  · intro k a b y hy hk;simp only [iX hk,Rb,iE,hy,Q8,iZ (Nat.lt_trans hk hl)];cases h1:decide (y<0)
    · cases h2:y==pick
      · cases decide (a<0)<;>cases decide (y<a)<;>cases decide (y > last)<;>cases decide (b<0)<;>cases decide (y<b)<;>rfl
      · have:y=pick:=by simpa using h2
        rw [this];rfl
    · rfl
  · intro a b;simp only [iW,Q9]
def sE (o:gE):gE:=gE.mk o.Q3 o.py o.box o.res o.iF o.bh o.QW o.iK (i64.wrap (o.iG+1)) o.mark o.gZ o.QV o.QU
def jC (p:cd) (now:Int):Int:=oG (runnable p now) p.QZ (i64.wrap (p.QY - 1))
def pD (p:cd) (now:Int):Bool:=decide (jC p now<0) || (decide (p.gP.gW ≥ 1000000) || decide ((nth p.heap.ag (jC p now)).iG ≥ 1000000))
def kG (p:cd) (now:Int):cd×Int :=
  if ik p then
    (if pD p now then (cd.mk p.QQ p.own p.QR p.heap p.gR p.QZ 0 p.gP p.hY p.QX, -1) else
      (cd.mk p.QQ p.own (iQ p.QR (kK p (nth p.heap.ag (jC p now)).res) ⟨0,0,1⟩).1 (gV.mk (p.heap.ag.set (jC p now).toNat (sE (nth p.heap.ag (jC p now)))) p.heap.gc) p.gR (jC p now) 0
        (gT.mk p.gP.bh p.gP.gS (i64.wrap (p.gP.gW+1))) p.hY p.QX,jC p now))
  else (p, -1)
theorem vO {p:cd} {now:Int} (h:decide (jC p now<0)=false):ik p=true∧0≤jC p now∧jC p now≤9:=by
  have:=Ax _ _ _ h;unfold runnable at this;exact oB (List.mem_filter.1 this).1
theorem Jj {o:gE} (h:iN o=true):0≤o.iG∧o.iG≤1000000:=by
  unfold iN at h;cases hk:o.py==0
  · simp only [hk,Q9,Rg] at h;have h:=h.2.2.2.2.2.2.2;cases h4:o.py != 4
    · rw [h4] at h;simp only [Q9,Rg] at h;exact ir.1 h.2.2
    · rw [h4] at h;simp only [Rb,Rg,beq_iff_eq] at h;omega
  · simp only [hk,Rb,Rg,decide_eq_true_eq] at h;rw [h.2.2];exact ⟨Int.le_refl _,by show (0:Int)≤1000000;decide⟩
theorem Jr {n:Int} (h:n≤1000000):(n==1000000)=decide (n ≥ 1000000):=by
  rw [Bool.eq_iff_iff];simp;omega
theorem ui {a:gT} (h:iC a=true):(0≤a.bh∧a.bh≤1000000)∧(0≤a.gS∧a.gS≤1000000)∧(0≤a.gW∧a.gW≤1000000):=by
  unfold iC wM at h;simpa only [Rg,ir] using h
theorem nR {p:cd} (h:ik p=true):iC p.gP=true:=by
  unfold ik pX at h;simp only [Rg] at h;exact h.2.2.2.2.2.2.2.2.1
theorem Jy {N:Nat} (hN:gX≤N) {p:cd} (hb:ij p<gX) (now:Int):tK N p now=some (kG p now):=by
  have hr:(runnable p now).length<gX:=Nat.lt_of_le_of_lt (za p now) (by decide);unfold tK kG;simp only [vc hN hb,vy hN hb,ID hN hb,K1 hN hr,Q8];cases hp:ik p
  · rfl
  simp only [Rd,Q9,if_true];rw [show oG (runnable p now) p.QZ (i64.wrap (p.QY - 1))=jC p now from rfl];unfold pD;have hsp:=ui (nR hp);cases hn:decide (jC p now<0)
  · obtain ⟨_,n0,n9⟩:=vO hn;obtain ⟨e1,e2⟩:=(iT hp).at n0 n9;have hran:=Jj ((iT hp).ok _ e2);simp only [Q9,e1,Q8,Jr hsp.2.2.2,Jr hran.2,AN,Hl hN,CX hN (kC hb).2.2.1,wo,Bool.false_or];cases decide (p.gP.gW ≥ 1000000)
    · cases decide ((nth p.heap.ag (jC p now)).iG ≥ 1000000)
      · have ea:iD p.gP (lG 2 1)=gT.mk p.gP.bh p.gP.gS (i64.wrap (p.gP.gW+1)):=by
          show gT.mk (i64.wrap (p.gP.bh+0)) (i64.wrap (p.gP.gS+0)) (i64.wrap (p.gP.gW+1))=_
          rw [ig (n:=p.gP.bh+0) (by omega) (by omega),ig (n:=p.gP.gS+0) (by omega) (by omega),Int.add_zero,Int.add_zero]
        rw [ea];rfl
      · rfl
    · rfl
  · rfl
theorem La {N:Nat} (hN:gX≤N) {p:cd} (hb:ij p<gX) (hw:wP p) (now:Int):tI N p now=some (kG p now):=by
  have hr:(runnable p now).length<gX:=Nat.lt_of_le_of_lt (za p now) (by decide);unfold tI kG;simp only [sc hN hb,ud hN hb hw,Ir hN hb hw,Kv hN hr,Q8];cases hp:ik p
  · rfl
  simp only [Rd,Q9,if_true];rw [show oG (runnable p now) p.QZ (i64.wrap (p.QY - 1))=jC p now from rfl];unfold pD;cases hn:decide (jC p now<0)
  · obtain ⟨_,n0,n9⟩:=vO hn;obtain ⟨e1,e2⟩:=(iT hp).at n0 n9;simp only [Q9,e1,Q8,xP hN,uv hN (kC hb).2.2.1,Bool.false_or];cases decide (p.gP.gW ≥ 1000000)
    · cases decide ((nth p.heap.ag (jC p now)).iG ≥ 1000000)<;>rfl
    · rfl
  · rfl
theorem Jh (p:cd) (now:Int):ij (kG p now).1≤ij p+100:=by
  unfold kG;split
  · rename_i hp;split
    · exact Nat.le_add_right _ _
    · rename_i hn;unfold pD at hn;simp only [Bool.or_eq_true,not_or,Bool.not_eq_true] at hn;obtain ⟨_,n0,n9⟩:=vO hn.1;have h1:=ye ((iT hp).ok _ ((iT hp).at n0 n9).2);have h2:iY ib (p.heap.ag.set (jC p now).toNat (sE (nth p.heap.ag (jC p now))))≤iY ib p.heap.ag+12:=Nat.le_trans x5 (Nat.add_le_add_left h1 _);have h3:=mV p.QR (kK p (nth p.heap.ag (jC p now)).res) ⟨0,0,1⟩;unfold ij my;simp only [h3];omega
  · exact Nat.le_add_right _ _
end Go.Kx
namespace Go.Kx
open Go
open Go.IntKind (i64)
set_option linter.unusedVariables false
set_option linter.unusedSimpArgs false
set_option maxRecDepth 10000
def uP (i:Int) (x:Int):Int:=if x==i then -1 else x
def nf (i:Int) (o:gE):gE:=if o.py==0 then o else gE.mk o.Q3 o.py (if o.box==i then -1 else o.box) o.res o.iF o.bh o.QW o.iK o.iG o.mark (o.gZ.map (uP i)) o.QV o.QU
def lF (l:List gE) (i:Int):List gE×Bool:=if kM l&&(ic i 1 9&&((nth l i).py != 0)) then ((l.set i.toNat (blank (nth l i).Q3)).map (nf i),true) else (l,false)
theorem EW {l:List gE} (h:Ar l) {i g:Int} {k:Nat} {y:gE} (hy:(l.set i.toNat (blank g))[k]?=some y) (hk:(y.py==0)=false):iN y=true:=by
  rcases List.mem_or_eq_of_mem_set (List.mem_of_getElem? hy) with q | q
  · exact h.ok y q
  · rw [q] at hk;simp [blank] at hk
theorem zo {o:gE} (h:iN o=true) (hk:(o.py==0)=false):o.gZ.length=2:=by
  unfold iN at h;simp only [hk,Q9,Rg] at h;obtain ⟨_,_,_,_,_,_,hl,_⟩:=h;unfold lZ at hl;simp only [Rg,beq_iff_eq] at hl;omega
theorem Gf {N:Nat} (hN:gX≤N) {l:List gE} (hb:iY ib l<gX) (i:Int):qR N l i=some (lF l i):=by
  unfold qR lF;simp only [Ae hN hb,zi hN hb,qg,Q8];cases ha:kM l
  · rfl
  have h:=jJ.1 ha;cases hi:ic i 1 9
  · rfl
  have hr:=ir.1 hi;simp only [Rd,Q9,(h.at (i:=i) (by omega) hr.2).1,Q8,bne,Re];cases hk:(nth l i).py==0
  · simp only [Q9,Bool.not_false,if_true];rw [show gE.mk (nth l i).Q3 0 0 0 0 0 0 0 0 false [] [] []=blank (nth l i).Q3 from rfl];have hlen:(l.set i.toNat (blank (nth l i).Q3)).length=l.length:=List.length_set;rw [vj (l.set i.toNat (blank (nth l i).Q3)) (nf i) (by rw [hlen];exact Nat.lt_of_lt_of_le h.xw hN)]
    · rfl
    · intro k t y ht hty hy hkl
      have hk10:k<10:=by rw [hlen,h.len] at hkl;exact hkl
      have hd:decide ((k:Int)<(l.length:Int))=true:=by simp [h.len];omega
      have hkt:k<t.length:=iU hty;simp only [hd,Rb,iE,hty,Q8,iZ (show k<gX from Nat.lt_trans hk10 (by decide))];unfold nf;cases hyk:y.py==0
      · have ho:=EW h hy hyk;have h2:=zo ho hyk
        have hLB:y.gZ.length<gX:=by rw [h2];decide
        have inner:iter (fun (s124:(List Int)×Int)=>(bif (decide (s124.2<(y.gZ.length:Int))) then ((idx s124.1 s124.2).bind fun y127=>bif (y127==i) then (some (.inl (s124.1.set (s124.2:Int).toNat (-1),i64.wrap (s124.2+1)))) else (some (.inl (s124.1,i64.wrap (s124.2+1))))) else (some (.inr (s124.1,s124.2))):Option (((List Int)×Int)⊕((List Int)×Int)))) N (y.gZ,0)=some (y.gZ.map (uP i),(y.gZ.length:Int)):=by
          rw [vj y.gZ (uP i) (Nat.lt_of_lt_of_le hLB hN)]
          · intro j t2 z ht2 hz _ hj;simp only [iX hj,Rb,iE,hz,Q8,iZ (Nat.lt_trans hj hLB),Int.toNat_natCast];unfold uP;cases z==i
            · simp [nA hz]
            · rfl
          · intro t2 ht2;simp only [iW,Q9]
        simp only [Q9,Bool.false_eq_true,if_false];cases hbx:y.box==i
        · simp only [Q9,Q8,iE,hty,Bool.false_eq_true,if_false];rw [inner];rfl
        · simp only [Rb,Q8,Int.toNat_natCast,iE,List.getElem?_set_self hkt,if_true];rw [inner];simp only [Q8,List.set_set]
      · simp only [Rb,if_true];rw [nA hty]
    · intro t ht
      have hd:decide (((l.set i.toNat (blank (nth l i).Q3)).length:Int)<(l.length:Int))=false:=by rw [hlen];simp
      simp only [hd,Q9]
  · rfl
theorem FJ {N:Nat} (hN:gX≤N) {l:List gE} (hb:iY ib l<gX) (hw:wA l) (i:Int):qN N l i=some (lF l i):=by
  unfold qN lF;simp only [AJ hN hb,sd hN hb hw,mF,Q8];cases ha:kM l
  · rfl
  have h:=jJ.1 ha;cases hi:ic i 1 9
  · rfl
  have hr:=ir.1 hi;simp only [Rd,Q9,(h.at (i:=i) (by omega) hr.2).1,Q8,bne,Re];cases hk:(nth l i).py==0
  · simp only [Q9,Bool.not_false,if_true];rw [show gE.mk (nth l i).Q3 0 0 0 0 0 0 0 0 false [] [] []=blank (nth l i).Q3 from rfl];have hlen:(l.set i.toNat (blank (nth l i).Q3)).length=l.length:=List.length_set;rw [vj (l.set i.toNat (blank (nth l i).Q3)) (nf i) (by rw [hlen];exact Nat.lt_of_lt_of_le h.xw hN)]
    · rfl
    · intro k t y ht hty hy hkl
      have hk10:k<10:=by rw [hlen,h.len] at hkl;exact hkl
      have hkt:k<t.length:=iU hty;simp only [iX hkt,Rb,iE,hty,Q8,iZ (show k<gX from Nat.lt_trans hk10 (by decide))];unfold nf;cases hyk:y.py==0
      · have ho:=EW h hy hyk;have h2:=zo ho hyk;simp only [Q9,Bool.false_eq_true,if_false]
        have inner:∀ (t2:List gE) (z:gE),t2.length=t.length→t2[k]?=some z→z.gZ.length=2→iter (fun (s90:(List gE)×Int)=>(bif (decide (s90.2<2)) then ((idx s90.1 (k:Int)).bind fun y93=>(idx y93.gZ s90.2).bind fun y115=>bif (y115==i) then (some (.inl ((s90.1.set (k:Int).toNat (gE.mk y93.Q3 y93.py y93.box y93.res y93.iF y93.bh y93.QW y93.iK y93.iG y93.mark (y93.gZ.set (s90.2:Int).toNat (-1)) y93.QV y93.QU)),i64.wrap (s90.2+1)))) else (some (.inl (s90.1,i64.wrap (s90.2+1))))) else (some (.inr (s90.1,s90.2))):Option (((List gE)×Int)⊕((List gE)×Int)))) N (t2,0) =
            some (t2.set k (gE.mk z.Q3 z.py z.box z.res z.iF z.bh z.QW z.iK z.iG z.mark (z.gZ.map (uP i)) z.QV z.QU),2):=by
          intro t2 z hl2 hz hz2
          have hk2:k<t2.length:=by omega
          obtain ⟨a,b,hab⟩:∃ a b,z.gZ=[a,b]:=by
            match hq:z.gZ with
            | []=>simp [hq] at hz2
            | [a]=>simp [hq] at hz2
            | [a,b]=>exact ⟨a,b,rfl⟩
            | a::b::c::r=>simp [hq] at hz2
          obtain ⟨M,rfl⟩:∃ M,N=M+3:=⟨N - 3,by have:16777216≤N:=hN;omega⟩;have hset:∀ u:gE,(t2.set k u)[k]?=some u:=fun u=>List.getElem?_set_self hk2
          have hid:t2.set k (gE.mk z.Q3 z.py z.box z.res z.iF z.bh z.QW z.iK z.iG z.mark [a,b] z.QV z.QU)=t2:=by rw [← hab];exact nA hz
          have w1:i64.wrap (0+1)=1:=by decide
          have w2:i64.wrap (1+1)=2:=by decide
          unfold iter;simp only [show decide ((0:Int)<2)=true from rfl,Rb,iE,hz,Q8,hab,show idx [a,b] 0=some a from rfl,w1,Int.toNat_natCast];cases hA:a==i
          · simp only [Q9,Q8];unfold iter;simp only [show decide ((1:Int)<2)=true from rfl,Rb,iE,hz,Q8,hab,show idx [a,b] 1=some b from rfl,w2,Int.toNat_natCast];cases hB:b==i
            · simp only [Q9,Q8];unfold iter;simp [uP,hA,hB,hid]
            · simp only [Rb,Q8];unfold iter;simp [uP,hA,hB]
          · simp only [Rb,Q8];unfold iter;simp only [show decide ((1:Int)<2)=true from rfl,Rb,iE,hset,Q8,w2,Int.toNat_natCast];rw [show idx ([a,b].set (0:Int).toNat (-1)) 1=some b from rfl];simp only [Q8];cases hB:b==i
            · simp only [Q9,Q8];unfold iter;simp [uP,hA,hB]
            · simp only [Rb,Q8,List.set_set];unfold iter;simp [uP,hA,hB]
        simp only [iE,Int.toNat_natCast] at inner ⊢;cases hbx:y.box==i
        · simp only [Q9,Q8,Bool.false_eq_true,if_false];rw [inner t y rfl hty h2];rfl
        · simp only [Rb,Q8,Int.toNat_natCast,if_true];have e:=inner (t.set k (gE.mk y.Q3 y.py (-1) y.res y.iF y.bh y.QW y.iK y.iG y.mark y.gZ y.QV y.QU)) (gE.mk y.Q3 y.py (-1) y.res y.iF y.bh y.QW y.iK y.iG y.mark y.gZ y.QV y.QU) List.length_set (List.getElem?_set_self hkt) h2;rw [e];simp only [Q8,List.set_set]
      · simp only [Rb,if_true];rw [nA hty]
    · intro t ht;rw [← ht];simp only [iW,Q9]
  · rfl
def mw (t:List g6) (f:Int) (a:gT):List g6×Bool :=
  if jD t&&(iC a&&iC (iD (jU t) a)) then
    (t.set (if iH t f then f else 0).toNat (mB (nth t (if iH t f then f else 0)) (iD (nth t (if iH t f then f else 0)).iw a)),true)
  else (t,false)
theorem w7 (t:List g6) (f:Int) (a:gT):(mw t f a).1.length=t.length:=by
  unfold mw;split<;>simp
theorem BC {N:Nat} (hN:gX≤N) {t:List g6} (hB:t.length<gX) (f:Int) (a:gT):pT N t f a=some (mw t f a):=by
  unfold pT mw;simp only [we hB,vm hN,um,Da hN hB,wo,Q8,lM];cases ht:jD t
  · rfl
  have hl:=rq ht;cases iC a
  · rfl
  cases iC (iD (jU t) a)
  · rfl
  simp only [Rd,Bool.or_self,Q9,wF N hl,Q8,Bool.and_self,if_true];cases hv:iH t f
  · simp only [Bool.not_false,Rb,Q8,jh (l:=t) (i:=0) (by omega) (by omega),Bool.false_eq_true,if_false];rfl
  · obtain ⟨f0,f4⟩:=kJ hv;simp only [Rd,Q9,Q8,jh (l:=t) f0 (by omega),if_true];rfl
theorem NR {n:Int}:wM n=true ↔ 0≤n∧n≤1000000:=ir
theorem iR {a:gT}:iC a=true ↔ (0≤a.bh∧a.bh≤1000000)∧(0≤a.gS∧a.gS≤1000000)∧(0≤a.gW∧a.gW≤1000000):=by
  unfold iC;simp only [Rg,NR]
theorem sK:∀ (t:List g6) (s:gT) (B:Int),(∀ r,r ∈ t→iC r.iw=true)→0≤B→B+1000000 * (t.length:Int)≤1000000000→(0≤s.bh∧s.bh≤B)→(0≤s.gS∧s.gS≤B)→(0≤s.gW∧s.gW≤B) →
    (s.bh≤(jd s t).bh∧s.gS≤(jd s t).gS∧s.gW≤(jd s t).gW) ∧
      ∀ r,r ∈ t→r.Q2=true→r.iw.bh≤(jd s t).bh∧r.iw.gS≤(jd s t).gS∧r.iw.gW≤(jd s t).gW
  | [],s,B,_,_,_,_,_,_=>⟨⟨Int.le_refl _,Int.le_refl _,Int.le_refl _⟩,fun r hr=>by simp at hr⟩
  | r::t,s,B,h,hB,hL,h1,h2,h3=>by
    have hr:=iR.1 (h r (by simp));simp only [List.length_cons] at hL;have e:jd s (r::t)=jd (if r.Q2 then iD s r.iw else s) t:=rfl;rw [e];cases hv:r.Q2
    · obtain ⟨q1,q2⟩:=sK t s B (fun x hx=>h x (by simp [hx])) hB (by omega) h1 h2 h3;refine ⟨q1,fun x hx hl=>?_⟩
      rcases List.mem_cons.1 hx with rfl | hx
      · rw [hv] at hl;cases hl
      · exact q2 x hx hl
    · simp only [if_true];have w1:(iD s r.iw).bh=s.bh+r.iw.bh:=ig (by omega) (by omega);have w2:(iD s r.iw).gS=s.gS+r.iw.gS:=ig (by omega) (by omega);have w3:(iD s r.iw).gW=s.gW+r.iw.gW:=ig (by omega) (by omega);obtain ⟨⟨a1,a2,a3⟩,q2⟩:=sK t (iD s r.iw) (B+1000000) (fun x hx=>h x (by simp [hx])) (by omega) (by omega) (by omega) (by omega) (by omega);refine ⟨⟨by omega,by omega,by omega⟩,fun x hx hl=>?_⟩
      rcases List.mem_cons.1 hx with rfl | hx
      · exact ⟨by omega,by omega,by omega⟩
      · exact q2 x hx hl
theorem Dd {t:List g6} (h:Tr t) {a:gT} (ha:iC a=true) (hs:iC (iD (jd ⟨0,0,0⟩ t) a)=true) {i:Int} (hi:0≤i∧i≤4) (hv:(nth t i).Q2=true):kz (nth t i).iw a=(iD (nth t i).iw a,true):=by
  have hl:=h.len;have hm:nth t i ∈ t:=j7 hi.1 (by omega);obtain ⟨_,q⟩:=sK t ⟨0,0,0⟩ 0 h.iw (by omega) (by omega) ⟨by decide,by decide⟩ ⟨by decide,by decide⟩ ⟨by decide,by decide⟩;obtain ⟨q1,q2,q3⟩:=q _ hm hv;have hb:=iR.1 (h.iw _ hm);have ha':=iR.1 ha;have hS:=iR.1 h.sum;have w1:(iD (jd ⟨0,0,0⟩ t) a).bh=(jd ⟨0,0,0⟩ t).bh+a.bh:=ig (by omega) (by omega);have w2:(iD (jd ⟨0,0,0⟩ t) a).gS=(jd ⟨0,0,0⟩ t).gS+a.gS:=ig (by omega) (by omega);have w3:(iD (jd ⟨0,0,0⟩ t) a).gW=(jd ⟨0,0,0⟩ t).gW+a.gW:=ig (by omega) (by omega);have hs':=iR.1 hs;have v1:(iD (nth t i).iw a).bh=(nth t i).iw.bh+a.bh:=ig (by omega) (by omega);have v2:(iD (nth t i).iw a).gS=(nth t i).iw.gS+a.gS:=ig (by omega) (by omega);have v3:(iD (nth t i).iw a).gW=(nth t i).iw.gW+a.gW:=ig (by omega) (by omega);have:iC (iD (nth t i).iw a)=true:=iR.2 ⟨by omega,by omega,by omega⟩;unfold kz;rw [h.iw _ hm,ha,this];rfl
theorem yk {N:Nat} (hN:gX≤N) {t:List g6} (hB:t.length<gX) (f:Int) (a:gT):oK N t f a=some (mw t f a):=by
  unfold oK mw;simp only [pM hB,xa hN,BQ hN hB,xe,uf hN,Q8];cases ht:jD t
  · rfl
  have hT:=jL.1 ht;have hl:=hT.len
  have e:(kz (jd ⟨0,0,0⟩ t) a).2=(iC a&&iC (iD (jU t) a)):=by
    unfold kz jU;rw [hT.sum,ht];simp only [if_true,Re];cases iC a&&iC (iD (jd ⟨0,0,0⟩ t) a)<;>rfl
  rw [e];simp only [Rd,Q9,Re];cases hc:(iC a&&iC (iD (jU t) a))
  · rfl
  rw [Rg] at hc
  have hs:iC (iD (jd ⟨0,0,0⟩ t) a)=true:=by
    have:=hc.2;unfold jU at this
    rwa [ht,if_pos rfl] at this
  simp only [Rd,Q9,if_true];cases hv:iH t f
  · simp only [Bool.not_false,Rb,Q8,jh (l:=t) (i:=0) (by omega) (by omega),Dd hT hc.1 hs (i:=0) ⟨by omega,by omega⟩ hT.rC,Bool.false_eq_true,if_false];rfl
  · obtain ⟨f0,f4⟩:=kJ hv
    have hlv:(nth t f).Q2=true:=by unfold iH at hv;rw [Rg] at hv;exact hv.2
    simp only [Rd,Q9,Q8,jh (l:=t) f0 (by omega),Dd hT hc.1 hs (i:=f) ⟨f0,f4⟩ hlv,if_true];rfl
end Go.Kx
namespace Go.Kx
open Go
open Go.IntKind (i64)
set_option linter.unusedVariables false
set_option linter.unusedSimpArgs false
set_option maxRecDepth 10000
def jG (h:gV) (k:Int):gV :=
  if (h.gc.QS==0)&&(((nth h.ag k).py != 0)&&!(nth h.ag k).mark) then
    gV.mk (h.ag.set k.toNat (marked (nth h.ag k) true)) (ka.mk h.gc.QS h.gc.Q0 h.gc.QT (if h.gc.gQ.contains k then h.gc.gQ else h.gc.gQ++[k]))
  else h
theorem Ea {l:List Int} {k:Int} (h:l.length+1<gX):app l [k]=some (l++[k]):=by
  unfold app;rw [if_pos (by simpa using h)]
theorem N3 {N:Nat} (hN:gX≤N) {h:gV} {k:Int} (h0:0≤k) (h1:k<(h.ag.length:Int)) (hg:h.gc.gQ.length+1<gX):vN N h k=some (jG h k):=by
  have hg':h.gc.gQ.length<gX:=by omega
  unfold vN jG;rw [← Bool.cond_eq_ite];simp only [jh (l:=h.ag) h0 h1,yr hN hg',Ea hg,Q8,bne];cases h.gc.QS==0
  · rfl
  cases (nth h.ag k).py==0
  · cases (nth h.ag k).mark
    · cases h.gc.gQ.contains k<;>rfl
    · rfl
  · rfl
theorem A8 {N:Nat} (hN:gX≤N) {h:gV} {k:Int} (h0:0≤k) (h1:k<(h.ag.length:Int)) (hg:h.gc.gQ.length+1<gX):pW N h k=some (jG h k):=by
  have hg':h.gc.gQ.length<gX:=by omega
  unfold pW jG;rw [← Bool.cond_eq_ite];simp only [jh (l:=h.ag) h0 h1,xW hN hg',Ea hg,Q8,bne];cases h.gc.QS==0
  · rfl
  cases (nth h.ag k).py==0
  · cases (nth h.ag k).mark
    · cases h.gc.gQ.contains k<;>rfl
    · rfl
  · rfl
theorem xx (h:gV) (k:Int):(jG h k).ag.length=h.ag.length:=by
  unfold jG;split<;>simp
theorem yB (h:gV) (k:Int):(jG h k).gc.gQ.length≤h.gc.gQ.length+1:=by
  unfold jG;split
  · simp only;split
    · exact Nat.le_succ _
    · simp
  · exact Nat.le_succ _
theorem ko {l:List gE} {i j:Int} {o:gE} (h0:0≤i) (h1:i<(l.length:Int)) (hj:0≤j):nth (l.set i.toNat o) j=if i=j then o else nth l j:=by
  unfold nth;rw [List.getElem?_set]
  by_cases e:i=j
  · subst e;rw [if_pos rfl,if_pos (by omega),if_pos rfl];rfl
  · rw [if_neg (by omega),if_neg e]
theorem KF {h:gV} {k j:Int} {now:Int} (h0:0≤k) (h1:k<(h.ag.length:Int)) (hj:0≤j):iI (nth (jG h k).ag j) now=iI (nth h.ag j) now:=by
  unfold jG;split
  · simp only;rw [ko h0 h1 hj];split
    · rename_i e;subst e;rfl
    · rfl
  · rfl
def jy (l:List gE) (now:Int) (h:gV) (k:Int):gV:=if iI (nth l k) now then h else jG h k
def hO (h:gV):Int:=nth h.gc.gQ ((h.gc.gQ.length:Int) - 1)
def kf (h:gV):List Int:=h.gc.gQ.take (h.gc.gQ.length - 1)
def nv (h:gV) (now:Int):gV :=
  if h.gc.gQ.length=0 then gV.mk h.ag (ka.mk 1 0 h.gc.QT h.gc.gQ)
  else if (hO h != 0)&&iI (nth h.ag (hO h)) now then gV.mk h.ag (ka.mk h.gc.QS h.gc.Q0 h.gc.QT (kf h))
  else (jr h.ag (hO h)).foldl (jy h.ag now) (gV.mk (h.ag.set (hO h).toNat (marked (nth h.ag (hO h)) true)) (ka.mk h.gc.QS h.gc.Q0 h.gc.QT (kf h)))
def ht (h:gV):List gE×Int×Int×Int×List Int:=(h.ag,h.gc.QS,h.gc.Q0,h.gc.QT,h.gc.gQ)
theorem C5 {N:Nat} (hN:gX≤N) {l:List gE} {now:Int} {e:List Int} (he:∀ y,y ∈ e→0≤y∧y≤9) (hel:e.length≤10) {h:gV} (hl:h.ag.length=10) {G:Nat} (hg:h.gc.gQ.length≤G) (hG:G+20<gX)
    (hx:∀ j,0≤j→iI (nth h.ag j) now=iI (nth l j) now)
    {body:Int×List gE×Int×Int×Int×List Int→Option ((Int×List gE×Int×Int×Int×List Int)⊕(Int×List gE×Int×Int×Int×List Int))}
    (hs:∀ (k:Nat) (t:gV) (y:Int),e[k]?=some y→k<e.length→t.ag.length=10→t.gc.gQ.length+1<gX→(∀ j,0≤j→iI (nth t.ag j) now=iI (nth l j) now)→0≤y→y≤9→body ((k:Int),ht t)=some (.inl (((k+1:Nat):Int),ht (jy l now t y))))
    (hend:∀ t,body ((e.length:Int),ht t)=some (.inr ((e.length:Int),ht t))) :
    iter body N (0,ht h)=some ((e.length:Int),ht (e.foldl (jy l now) h)):=by
  have hB:e.length<gX:=by omega
  rw [show ((0:Int),ht h)=(fun (k:Nat) (t:gV)=>((k:Int),ht t)) 0 h from rfl,
    kO e (fun (k:Nat) (t:gV)=>((k:Int),ht t)) (fun _ t y=>jy l now t y) (fun t=>((e.length:Int),ht t)) (fun k t=>t.ag.length=10∧t.gc.gQ.length≤G+k∧∀ j,0≤j→iI (nth t.ag j) now=iI (nth l j) now) ?_ ?_ (Nat.lt_of_lt_of_le hB hN) ⟨hl,hg,hx⟩,mf]
  · intro k t y hy hk ⟨i1,i2,i3⟩;obtain ⟨y0,y9⟩:=he y (List.mem_of_getElem? hy);refine ⟨hs k t y hy hk i1 (by omega) i3 y0 y9,?_⟩;unfold jy;split
    · exact ⟨i1,by omega,i3⟩
    · have:=yB t y;exact ⟨by rw [xx,i1],by omega,fun j hj=>by rw [KF y0 (by omega) hj,i3 j hj]⟩
  · intro t _;exact hend t
theorem F8 {h:gV} (q:kb h=true):∀ y,y ∈ h.gc.gQ→0≤y∧y≤9:=by
  unfold kb at q;simp only [Rg,mq] at q;intro y hy;obtain ⟨k,hk⟩:=List.getElem?_of_mem hy;have:=q.2.2.2 k y hk;unfold sP at this;rw [Rg,ir] at this;exact this.1
theorem m3 {h:gV} (q:kb h=true) (hg:h.gc.gQ.length ≠ 0):0≤hO h∧hO h≤9:=F8 q _ (j7 (by omega) (by omega))
theorem Ep {g:List Int} (hg:g.length ≠ 0) (hB:g.length<gX):i64.wrap ((g.length:Int) - 1)=((g.length - 1:Nat):Int)∧sub g 0 ((g.length - 1:Nat):Int)=some (g.take (g.length - 1)):=by
  have:g.length<16777216:=hB;exact ⟨by rw [ig (by omega) (by omega)];omega,yd (by omega)⟩
def qK (l:List gE):List gE:=l.set 0 (marked (nth l 0) true)
def kc (h:gV) (now:Int):Bool:=(h.gc.Q0 != 0)&&(((nth h.ag h.gc.Q0).py != 0)&&(iI (nth h.ag h.gc.Q0) now || !(nth h.ag h.gc.Q0).mark))
def jF (h:gV) (now:Int):List gE:=if kc h now then (lF h.ag h.gc.Q0).1 else h.ag.set h.gc.Q0.toNat (marked (nth h.ag h.gc.Q0) false)
def kV (h:gV) (now:Int):gV×Int :=
  (if h.gc.Q0==9 then gV.mk (qK (jF h now)) (ka.mk 0 0 (if 1000000<i64.wrap (h.gc.QT+1) then 1000000 else i64.wrap (h.gc.QT+1)) [0])
    else gV.mk (jF h now) (ka.mk h.gc.QS (h.gc.Q0+1) h.gc.QT h.gc.gQ),if kc h now then h.gc.Q0 else -1)
def ji (h:gV) (now:Int):gV×Int:=if kb h then (if h.gc.QS==1 then kV h now else (nv h now, -1)) else (h, -1)
theorem wH {h:gV} (q:kb h=true):(h.gc.QS=0)∨(h.gc.QS=1∧0≤h.gc.Q0∧h.gc.Q0≤9):=by
  unfold kb nw at q;simp only [Rg,Bool.or_eq_true,beq_iff_eq,ir] at q
  rcases q.2.1 with ⟨h1,_⟩ | ⟨h1,h2,_⟩
  · exact .inl h1
  · exact .inr ⟨h1,h2⟩
theorem Dr (l:List gE) (i:Int):(lF l i).1.length=l.length:=by
  unfold lF;split<;>simp
theorem vE (h:gV) (now:Int):(jF h now).length=h.ag.length:=by
  unfold jF;split
  · exact Dr _ _
  · simp
theorem MF {n:Int} (h0:0≤n) (h9:n≤9):((n+1:Int)==10)=(n==9)∧i64.wrap (n+1)=n+1:=by
  rw [ig (by omega) (by omega)];exact ⟨by rw [Bool.eq_iff_iff];simp;omega,rfl⟩
theorem Gc {N:Nat} (hN:gX≤N) {h:gV} (q:kb h=true) (hp:h.gc.QS=1) (h1:iY ib h.ag<gX) (now:Int):qG N h now=some (kV h now):=by
  have ha:=pC q
  have hr:0≤h.gc.Q0∧h.gc.Q0≤9:=by
    rcases wH q with e | e
    · rw [hp] at e;cases e
    · exact e.2
  obtain ⟨e1,e2⟩:=MF hr.1 hr.2;have hsl:=vE h now;have e0:idx (jF h now) 0=some (nth (jF h now) 0):=jh (by omega) (by rw [hsl,ha.len];decide);unfold qG kV;simp only [(ha.at hr.1 hr.2).1,xv,Gf hN h1,Q8,mh,lM,e1,e2];rw [show (h.gc.Q0 != 0&&((nth h.ag h.gc.Q0).py != 0&&(iI (nth h.ag h.gc.Q0) now || !(nth h.ag h.gc.Q0).mark)))=kc h now from rfl]
  have hsw:(bif kc h now then some (h.gc.Q0,(lF h.ag h.gc.Q0).1) else some (-1,h.ag.set h.gc.Q0.toNat (gE.mk (nth h.ag h.gc.Q0).Q3 (nth h.ag h.gc.Q0).py (nth h.ag h.gc.Q0).box (nth h.ag h.gc.Q0).res (nth h.ag h.gc.Q0).iF (nth h.ag h.gc.Q0).bh (nth h.ag h.gc.Q0).QW (nth h.ag h.gc.Q0).iK (nth h.ag h.gc.Q0).iG false (nth h.ag h.gc.Q0).gZ (nth h.ag h.gc.Q0).QV (nth h.ag h.gc.Q0).QU)):Option (Int×List gE))=some (if kc h now then h.gc.Q0 else -1,jF h now):=by
    unfold jF;cases kc h now<;>rfl
  rw [hsw];simp only [Q8,e0];cases h.gc.Q0==9<;>rfl
theorem DH (t:gV):gV.mk t.ag (ka.mk t.gc.QS t.gc.Q0 t.gc.QT t.gc.gQ)=t:=rfl
theorem Lx {N:Nat} (hN:gX≤N) {h:gV} (h1:iY ib h.ag<gX) (h2:h.gc.gQ.length+20<gX) (now:Int):u6 N h now=some (ji h now):=by
  have h2':h.gc.gQ.length<gX:=by omega
  unfold u6 ji;simp only [Bs hN h1 h2',EG hN h1 h2',Q8];cases q:kb h
  · rfl
  have ha:=pC q;simp only [Rd,Q9,if_true];cases hp:h.gc.QS==1
  · simp only [Q9,Bool.false_eq_true,if_false];unfold nv
    by_cases hg:h.gc.gQ.length=0
    · have:((h.gc.gQ.length:Int)==0)=true:=by simp [hg]
      rw [this,if_pos hg];rfl
    · have:((h.gc.gQ.length:Int)==0)=false:=beq_eq_false_iff_ne.2 (by omega);obtain ⟨g1,g2⟩:=Ep hg h2';obtain ⟨l0,l9⟩:=m3 q hg;obtain ⟨e1,e2⟩:=mX ha (hO h)
      have eg:idx h.gc.gQ ((h.gc.gQ.length - 1:Nat):Int)=some (hO h):=by
        rw [jh (l:=h.gc.gQ) (i:=((h.gc.gQ.length - 1:Nat):Int)) (by omega) (by omega)];unfold hO;rw [show ((h.gc.gQ.length:Int) - 1)=((h.gc.gQ.length - 1:Nat):Int) by omega]
      rw [this,if_neg hg,g1];simp only [Q9,eg,g2,(ha.at l0 l9).1,xv,Q8];rw [show (bif hO h != 0 then some (iI (nth h.ag (hO h)) now) else some false:Option Bool)=some ((hO h != 0)&&iI (nth h.ag (hO h)) now) from mh _ _];simp only [Q8];cases hc:((hO h != 0)&&iI (nth h.ag (hO h)) now)
      · simp only [Q9,Bool.false_eq_true,if_false];rw [CK hN ha l0 l9];simp only [Q8]
        rw [show ((0:Int),h.ag.set (hO h).toNat (gE.mk (nth h.ag (hO h)).Q3 (nth h.ag (hO h)).py (nth h.ag (hO h)).box (nth h.ag (hO h)).res (nth h.ag (hO h)).iF (nth h.ag (hO h)).bh (nth h.ag (hO h)).QW (nth h.ag (hO h)).iK (nth h.ag (hO h)).iG true (nth h.ag (hO h)).gZ (nth h.ag (hO h)).QV (nth h.ag (hO h)).QU),h.gc.QS,h.gc.Q0,h.gc.QT,h.gc.gQ.take (h.gc.gQ.length - 1)) =
          ((0:Int),ht (gV.mk (h.ag.set (hO h).toNat (marked (nth h.ag (hO h)) true)) (ka.mk h.gc.QS h.gc.Q0 h.gc.QT (kf h)))) from rfl,
          C5 hN (l:=h.ag) (now:=now) e1 e2 (h:=gV.mk (h.ag.set (hO h).toNat (marked (nth h.ag (hO h)) true)) (ka.mk h.gc.QS h.gc.Q0 h.gc.QT (kf h))) (by simp [ha.len]) (G:=h.gc.gQ.length) (by unfold kf;simp) h2
            (fun j hj=>by
              simp only;rw [ko l0 (by rw [ha.len];omega) hj];split
              · rename_i e;rw [← e];rfl
              · rfl)]
        · rfl
        · intro k t y hy hk t1 t2 t3 y0 y9;simp only [ht,iX hk,Rb,iE,hy,Q8,(ha.at y0 y9).1,xv,DH,N3 hN y0 (show y<(t.ag.length:Int) by rw [t1];omega) t2,iZ (show k<gX by omega)];unfold jy;cases iI (nth h.ag y) now<;>rfl
        · intro t;simp only [ht,iW,Q9]
      · rfl
  · have hp1:h.gc.QS=1:=by simpa using hp
    simp only [Rb,Gc hN q hp1 h1,Q8,if_true]
theorem EC {o:gE} (h:iN o=true) (hk:(o.py==0)=true):marked o false=o:=by
  unfold iN at h;simp only [hk,Rb,Rg,decide_eq_true_eq] at h;rw [h.2.2];rfl
theorem Jz {N:Nat} (hN:gX≤N) {h:gV} (q:kb h=true) (h1:iY ib h.ag<gX) (hw:wA h.ag) (h2:h.gc.gQ.length+20<gX) (now:Int):tA N h now=some (nv h now):=by
  have h2':h.gc.gQ.length<gX:=by omega
  have hB:h.gc.gQ.length<16777216:=h2';have ha:=pC q;unfold tA nv
  by_cases hg:h.gc.gQ.length=0
  · have:decide (i64.wrap ((h.gc.gQ.length:Int) - 1)<0)=true:=by rw [hg];decide
    rw [this,if_pos hg];rfl
  · obtain ⟨g1,g2⟩:=Ep hg h2';obtain ⟨l0,l9⟩:=m3 q hg;obtain ⟨e1,e2⟩:=mX ha (hO h)
    have eg:idx h.gc.gQ ((h.gc.gQ.length - 1:Nat):Int)=some (hO h):=by
      rw [jh (l:=h.gc.gQ) (i:=((h.gc.gQ.length - 1:Nat):Int)) (by omega) (by omega)];unfold hO;rw [show ((h.gc.gQ.length:Int) - 1)=((h.gc.gQ.length - 1:Nat):Int) by omega]
    have hd:decide (((h.gc.gQ.length - 1:Nat):Int)<0)=false:=by simp
    have hgt:decide (hO h > 0)=(hO h != 0):=by
      rw [Bool.eq_iff_iff];simp;omega
    rw [g1,hd,if_neg hg];simp only [Q9,eg,g2,(ha.at l0 l9).1,vQ,Q8,hgt];rw [show (bif hO h != 0 then some (iI (nth h.ag (hO h)) now) else some false:Option Bool)=some ((hO h != 0)&&iI (nth h.ag (hO h)) now) from mh _ _];simp only [Q8];cases hc:((hO h != 0)&&iI (nth h.ag (hO h)) now)
    · simp only [Q9,Bool.false_eq_true,if_false];rw [HI hN h1 hw ha l0 l9];simp only [Q8]
      rw [show ((0:Int),h.ag.set (hO h).toNat (gE.mk (nth h.ag (hO h)).Q3 (nth h.ag (hO h)).py (nth h.ag (hO h)).box (nth h.ag (hO h)).res (nth h.ag (hO h)).iF (nth h.ag (hO h)).bh (nth h.ag (hO h)).QW (nth h.ag (hO h)).iK (nth h.ag (hO h)).iG true (nth h.ag (hO h)).gZ (nth h.ag (hO h)).QV (nth h.ag (hO h)).QU),h.gc.QS,h.gc.Q0,h.gc.QT,h.gc.gQ.take (h.gc.gQ.length - 1)) =
        ((0:Int),ht (gV.mk (h.ag.set (hO h).toNat (marked (nth h.ag (hO h)) true)) (ka.mk h.gc.QS h.gc.Q0 h.gc.QT (kf h)))) from rfl,
        C5 hN (l:=h.ag) (now:=now) e1 e2 (h:=gV.mk (h.ag.set (hO h).toNat (marked (nth h.ag (hO h)) true)) (ka.mk h.gc.QS h.gc.Q0 h.gc.QT (kf h))) (by simp [ha.len]) (G:=h.gc.gQ.length) (by unfold kf;simp) h2
          (fun j hj=>by
            simp only;rw [ko l0 (by rw [ha.len];omega) hj];split
            · rename_i e;rw [← e];rfl
            · rfl)]
      · rfl
      · intro k t y hy hk t1 t2 t3 y0 y9;simp only [ht,iX hk,Rb,iE,hy,Q8,jh (l:=t.ag) y0 (show y<(t.ag.length:Int) by rw [t1];omega),vQ,t3 y y0,DH,A8 hN y0 (show y<(t.ag.length:Int) by rw [t1];omega) t2,iZ (show k<gX by omega)];unfold jy;cases iI (nth h.ag y) now<;>rfl
      · intro t;simp only [ht,iW,Q9]
    · rfl
theorem AR {N:Nat} (hN:gX≤N) {h:gV} (h1:iY ib h.ag<gX) (hw:wA h.ag) (h2:h.gc.gQ.length+20<gX) (now:Int):qz N h now=some (ji h now):=by
  have h2':h.gc.gQ.length<gX:=by omega
  unfold qz ji;simp only [xo hN h1 h2',ya hN h1 h2' hw,Q8];cases q:kb h
  · rfl
  have ha:=pC q;simp only [Rd,Q9,if_true]
  rcases wH q with hp | ⟨hp,hr⟩
  · rw [hp];simp only [beq_self_eq_true,Rb,Jz hN q h1 hw h2,Q8];rfl
  · obtain ⟨e1,e2⟩:=MF hr.1 hr.2;have hsl:=vE h now;have e0:idx (jF h now) 0=some (nth (jF h now) 0):=jh (by omega) (by rw [hsl,ha.len];decide)
    have hgt:decide (h.gc.Q0 > 0)=(h.gc.Q0 != 0):=by rw [Bool.eq_iff_iff];simp;omega
    rw [show (h.gc.QS==0)=false by rw [hp];rfl,show (h.gc.QS==1)=true by rw [hp];rfl];unfold kV;simp only [Q9,(ha.at hr.1 hr.2).1,vQ,FJ hN h1 hw,Q8,hgt,e1,e2]
    rw [show (bif h.gc.Q0 != 0 then (bif (nth h.ag h.gc.Q0).py != 0 then (bif !(nth h.ag h.gc.Q0).mark then some true else some (iI (nth h.ag h.gc.Q0) now)) else some false) else some false:Option Bool)=some (kc h now) by
      unfold kc;rw [lM,mh,mh,Bool.or_comm]]
    simp only [Q8]
    have hsw:(bif kc h now then some (h.gc.Q0,(lF h.ag h.gc.Q0).1) else bif (nth h.ag h.gc.Q0).py != 0 then some (-1,h.ag.set h.gc.Q0.toNat (gE.mk (nth h.ag h.gc.Q0).Q3 (nth h.ag h.gc.Q0).py (nth h.ag h.gc.Q0).box (nth h.ag h.gc.Q0).res (nth h.ag h.gc.Q0).iF (nth h.ag h.gc.Q0).bh (nth h.ag h.gc.Q0).QW (nth h.ag h.gc.Q0).iK (nth h.ag h.gc.Q0).iG false (nth h.ag h.gc.Q0).gZ (nth h.ag h.gc.Q0).QV (nth h.ag h.gc.Q0).QU)) else some (-1,h.ag):Option (Int×List gE))=some (if kc h now then h.gc.Q0 else -1,jF h now):=by
      unfold jF;cases kc h now
      · cases hk:(nth h.ag h.gc.Q0).py != 0
        · have hk0:((nth h.ag h.gc.Q0).py==0)=true:=by simpa [bne] using hk
          have hid:h.ag.set h.gc.Q0.toNat (marked (nth h.ag h.gc.Q0) false)=h.ag:=by
            rw [EC (ha.ok _ (ha.at hr.1 hr.2).2) hk0];exact nA (jv hr.1 (by rw [ha.len];omega))
          simp [hid]
        · rfl
      · rfl
    rw [hsw];simp only [Q8,e0];cases h.gc.Q0==9<;>rfl
theorem Df {α:Type} {f:α→Nat} {z:α}:∀ {l:List α} {k:Nat} {y:α},l[k]?=some y→f z=f y→oU f (l.set k z)=oU f l
  | x::l,0,y,h,e=>by simp at h;subst h;simp [oU,e]
  | x::l,k+1,y,h,e=>by
    simp only [List.set_cons_succ,oU];rw [Df (l:=l) (k:=k) (y:=y) (by simpa using h) e]
theorem pI {l:List gE} {i:Int} {z:gE} (h0:0≤i) (h1:i<(l.length:Int)) (e:ib z=ib (nth l i)):iY ib (l.set i.toNat z)=iY ib l:=by
  unfold iY;rw [Df (jv h0 h1) e,List.length_set]
theorem yG {l:List gE} {now:Int}:∀ (e:List Int) (h:gV),(∀ y,y ∈ e→0≤y∧y≤9)→h.ag.length=10→wA h.ag →
    iY ib (e.foldl (jy l now) h).ag=iY ib h.ag∧wA (e.foldl (jy l now) h).ag∧(e.foldl (jy l now) h).gc.gQ.length≤h.gc.gQ.length+e.length
  | [],h,_,_,hw=>⟨rfl,hw,Nat.le_refl _⟩
  | y::e,h,he,hl,hw=>by
    obtain ⟨y0,y9⟩:=he y (by simp)
    have hy:y<(h.ag.length:Int):=by rw [hl];omega
    have key:iY ib (jy l now h y).ag=iY ib h.ag∧wA (jy l now h y).ag∧(jy l now h y).gc.gQ.length≤h.gc.gQ.length+1∧(jy l now h y).ag.length=10:=by
      unfold jy;split
      · exact ⟨rfl,hw,Nat.le_succ _,hl⟩
      · refine ⟨?_,?_,yB h y,by rw [xx,hl]⟩
        · unfold jG;split
          · exact pI y0 hy rfl
          · rfl
        · unfold jG;split
          · exact lz hw (show n8 (marked (nth h.ag y) true) from hw (nth h.ag y) (j7 y0 hy))
          · exact hw
    obtain ⟨a1,a2,a3⟩:=yG e (jy l now h y) (fun z hz=>he z (by simp [hz])) key.2.2.2 key.2.1;simp only [List.foldl_cons,List.length_cons];exact ⟨a1.trans key.1,a2,by omega⟩
theorem Lb (i:Int) (o:gE):ib (nf i o)=ib o:=by
  unfold nf;split
  · rfl
  · unfold ib;simp
theorem MN {i:Int} {o:gE} (h:n8 o):n8 (nf i o):=by
  unfold nf;split
  · exact h
  · exact h
theorem Hz (g:Int):n8 (blank g):=by show (-9223372036854775808:Int)≤0;decide
theorem HW {l:List gE} (hw:wA l) (i:Int):iY ib (lF l i).1≤iY ib l∧wA (lF l i).1:=by
  unfold lF;split
  · refine ⟨?_,fun o ho=>?_⟩
    · show iY ib ((l.set i.toNat (blank (nth l i).Q3)).map (nf i))≤_
      rw [Hr (Lb i)];exact x5
    · obtain ⟨y,hy,rfl⟩:=List.mem_map.1 ho;exact MN (lz hw (Hz _) y hy)
  · exact ⟨Nat.le_refl _,hw⟩
theorem su {h:gV} (hw:wA h.ag) (now:Int):iY ib (ji h now).1.ag≤iY ib h.ag∧wA (ji h now).1.ag∧(ji h now).1.gc.gQ.length≤h.gc.gQ.length+10 ∧
    (decide ((ji h now).2 ≥ 0)=true→Ar h.ag∧0≤(ji h now).2∧(ji h now).2≤9):=by
  unfold ji;split
  · rename_i q;have ha:=pC q;have hl:=ha.len;split
    · rename_i hp
      have hp:h.gc.QS=1:=by simpa using hp
      have hr:0≤h.gc.Q0∧h.gc.Q0≤9:=by
        rcases wH q with e | e
        · rw [hp] at e;cases e
        · exact e.2
      have hs:iY ib (jF h now)≤iY ib h.ag∧wA (jF h now):=by
        unfold jF;split
        · exact HW hw _
        · exact ⟨Nat.le_of_eq (pI hr.1 (by rw [hl];omega) rfl),lz hw (show n8 (marked (nth h.ag h.gc.Q0) false) from hw (nth h.ag h.gc.Q0) (ha.at hr.1 hr.2).2)⟩
      have hsl:=vE h now
      have h0:(0:Int)<((jF h now).length:Int):=by rw [hsl,hl];decide
      refine ⟨?_,?_,?_,fun hd=>⟨ha,?_⟩⟩
      · unfold kV qK;simp only;split
        · show iY ib ((jF h now).set (0:Int).toNat _)≤_
          rw [pI (z:=marked (nth (jF h now) 0) true) (Int.le_refl 0) h0 rfl];exact hs.1
        · exact hs.1
      · unfold kV qK;simp only;split
        · exact lz hs.2 (show n8 (marked (nth (jF h now) 0) true) from hs.2 (nth (jF h now) 0) (j7 (Int.le_refl 0) h0))
        · exact hs.2
      · unfold kV;simp only;split
        · simp
        · exact Nat.le_add_right _ _
      · unfold kV at hd ⊢;simp only at hd ⊢;split
        · exact hr
        · rename_i hn;rw [if_neg hn] at hd;simp at hd
    · refine ⟨?_,?_,?_,fun hd=>by simp at hd⟩
      all_goals
        unfold nv
        simp only
        split
        · first | exact Nat.le_refl _ | exact hw | exact Nat.le_add_right _ _
        · rename_i hg
          split
          · first | exact Nat.le_refl _ | exact hw | (unfold kf;simp;omega)
          · obtain ⟨l0,l9⟩:=m3 q hg
            obtain ⟨e1,e2⟩:=mX ha (hO h)
            obtain ⟨a1,a2,a3⟩:=yG (l:=h.ag) (now:=now) (jr h.ag (hO h)) (gV.mk (h.ag.set (hO h).toNat (marked (nth h.ag (hO h)) true)) (ka.mk h.gc.QS h.gc.Q0 h.gc.QT (kf h))) e1 (by simp [hl]) (lz hw (show n8 (marked (nth h.ag (hO h)) true) from hw (nth h.ag (hO h)) (ha.at l0 l9).2))
            first
              | exact Nat.le_of_eq (a1.trans (pI l0 (by rw [hl];omega) rfl))
              | exact a2
              | (refine Nat.le_trans a3 ?_
                 unfold kf
                 simp
                 omega)
  · exact ⟨Nat.le_refl _,hw,Nat.le_add_right _ _,fun hd=>by simp at hd⟩
structure wV where
  n:Int
  QR:List g6
  heap:gV
def nU (now:Int) (c:wV):wV :=
  if decide ((ji c.heap now).2 ≥ 0) then ⟨i64.wrap (c.n+1),(mw c.QR (nth c.heap.ag (ji c.heap now).2).res ⟨(nth c.heap.ag (ji c.heap now).2).bh,0,0⟩).1,(ji c.heap now).1⟩
  else ⟨c.n,c.QR,(ji c.heap now).1⟩
def wZ (now:Int):Nat→wV→wV
  | 0,c=>c
  | k+1,c=>wZ now k (nU now c)
def kh (p:cd) (now steps:Int):cd×Int :=
  if ik p&&ic steps 0 100 then
    (cd.mk p.QQ p.own (wZ now steps.toNat ⟨0,p.QR,p.heap⟩).QR (wZ now steps.toNat ⟨0,p.QR,p.heap⟩).heap p.gR p.QZ p.QY p.gP p.hY p.QX,(wZ now steps.toNat ⟨0,p.QR,p.heap⟩).n)
  else (p,0)
def ct (k:Nat) (c:wV):Int×Int×List g6×List gE×Int×Int×Int×List Int:=(c.n,(k:Int),c.QR,c.heap.ag,c.heap.gc.QS,c.heap.gc.Q0,c.heap.gc.QT,c.heap.gc.gQ)
structure Ef (S T G:Nat) (k:Nat) (c:wV):Prop where
  sz:iY ib c.heap.ag≤S
  tl:c.QR.length=T
  gl:c.heap.gc.gQ.length≤G+10 * k
  w:wA c.heap.ag
theorem By {S T G k:Nat} {c:wV} (h:Ef S T G k c) (now:Int):Ef S T G (k+1) (nU now c):=by
  obtain ⟨s1,s2,s3,_⟩:=su h.w now;have a1:=h.sz;have a2:=h.tl;have a3:=h.gl;unfold nU;split
  · exact ⟨by simp only;omega,by simp only;rw [w7,a2],by simp only;omega,s2⟩
  · exact ⟨by simp only;omega,a2,by simp only;omega,s2⟩
theorem He {S T G:Nat} {now:Int}:∀ (j k:Nat) (c:wV),Ef S T G k c→Ef S T G (k+j) (wZ now j c)
  | 0,k,c,h=>h
  | j+1,k,c,h=>by
    have:=He (now:=now) j (k+1) (nU now c) (By h now)
    rwa [show k+1+j=k+(j+1) by omega] at this
theorem Hp {N:Nat} (hN:gX≤N) {now steps:Int} (h0:0≤steps) (h1:steps≤100) {S T G:Nat} {c:wV} (hc:Ef S T G 0 c)
    {body:Int×Int×List g6×List gE×Int×Int×Int×List Int→Option ((Int×Int×List g6×List gE×Int×Int×Int×List Int)⊕(Int×Int×List g6×List gE×Int×Int×Int×List Int))}
    (hs:∀ (k:Nat) (c:wV),k<100→(k:Int)<steps→Ef S T G k c→body (ct k c)=some (.inl (ct (k+1) (nU now c)))) (he:∀ c,body (ct steps.toNat c)=some (.inr (ct steps.toNat c))) :
    iter body N (ct 0 c)=some (ct steps.toNat (wZ now steps.toNat c)):=by
  have e:∀ (j i:Nat) (c:wV),foldI (fun _ c (_:Unit)=>nU now c) i c (List.replicate j ())=wZ now j c:=by
    intro j
    induction j with
    | zero=>intro i c;rfl
    | succ j ih=>intro i c;rw [List.replicate_succ];unfold foldI wZ;exact ih _ _
  rw [kO (List.replicate steps.toNat ()) ct (fun _ c _=>nU now c) (fun c=>ct steps.toNat c) (fun k c=>Ef S T G k c) ?_ ?_ (by have:16777216≤N:=hN;simp;omega) hc,e]
  · intro k c y hy hk hI
    have hk:k<steps.toNat:=by simpa using hk
    exact ⟨hs k c (by omega) (by omega) hI,By hI now⟩
  · intro c _;rw [show (List.replicate steps.toNat ()).length=steps.toNat by simp];exact he c
theorem Dq {N:Nat} (hN:gX≤N) {p:cd} (hb:ij p≤3000000) (hw:wP p) (now steps:Int):pt N p now steps=some (kh p now steps):=by
  have hB:(16777216:Nat)=gX:=rfl
  have hb':ij p<gX:=by omega
  have hz:iY ib p.heap.ag≤3000000∧p.heap.gc.gQ.length≤3000000∧p.QR.length≤3000000:=by unfold ij my rR at hb;omega
  unfold pt kh;simp only [vc hN hb',vy hN hb',qg,Q8,lM];cases ik p
  · rfl
  cases hst:ic steps 0 100
  · rfl
  have hr:=ir.1 hst;simp only [Rd,Bool.or_self,Q9,Bool.and_self,if_true]
  rw [show ((0:Int),(0:Int),p.QR,p.heap.ag,p.heap.gc.QS,p.heap.gc.Q0,p.heap.gc.QT,p.heap.gc.gQ)=ct 0 ⟨0,p.QR,p.heap⟩ from rfl,
    Hp hN (now:=now) hr.1 hr.2 (S:=3000000) (T:=p.QR.length) (G:=3000000) (c:=⟨0,p.QR,p.heap⟩) ⟨hz.1,rfl,by simp only;omega,hw⟩]
  · rfl
  · intro k c hk hks hI;have g1:iY ib c.heap.ag<gX:=Nat.lt_of_le_of_lt hI.sz (by decide)
    have g2:c.heap.gc.gQ.length+20<gX:=by have:=hI.gl;omega
    have g3:c.QR.length<gX:=by rw [hI.tl];omega
    have hd:decide ((k:Int)<steps)=true:=by simpa using hks
    obtain ⟨_,_,_,s4⟩:=su hI.w now
    show (bif decide ((k:Int)<steps) then _ else _)=_
    rw [hd];simp only [ct,Rb,DH,Lx hN g1 g2,Q8,iZ (show k<gX by omega)];unfold nU;cases hv:decide ((ji c.heap now).2 ≥ 0)
    · rfl
    · obtain ⟨har,v0,v9⟩:=s4 hv;simp only [Rb,(har.at v0 v9).1,AN,BC hN g3,Q8,if_true];rfl
  · intro c
    have hd:decide (((steps.toNat:Nat):Int)<steps)=false:=by simp;omega
    show (bif decide (((steps.toNat:Nat):Int)<steps) then _ else _)=_
    rw [hd];simp only [ct,Q9]
theorem Dl {N:Nat} (hN:gX≤N) {p:cd} (hb:ij p≤3000000) (hw:wP p) (now steps:Int):px N p now steps=some (kh p now steps):=by
  have hB:(16777216:Nat)=gX:=rfl
  have hb':ij p<gX:=by omega
  have hz:iY ib p.heap.ag≤3000000∧p.heap.gc.gQ.length≤3000000∧p.QR.length≤3000000:=by unfold ij my rR at hb;omega
  unfold px kh;simp only [sc hN hb',ud hN hb' hw,mF,Q8,lM];cases ik p
  · rfl
  cases hst:ic steps 0 100
  · rfl
  have hr:=ir.1 hst;simp only [Rd,Bool.or_self,Q9,Bool.and_self,if_true]
  rw [show ((0:Int),(0:Int),p.QR,p.heap.ag,p.heap.gc.QS,p.heap.gc.Q0,p.heap.gc.QT,p.heap.gc.gQ)=ct 0 ⟨0,p.QR,p.heap⟩ from rfl,
    Hp hN (now:=now) hr.1 hr.2 (S:=3000000) (T:=p.QR.length) (G:=3000000) (c:=⟨0,p.QR,p.heap⟩) ⟨hz.1,rfl,by simp only;omega,hw⟩]
  · rfl
  · intro k c hk hks hI;have g1:iY ib c.heap.ag<gX:=Nat.lt_of_le_of_lt hI.sz (by decide)
    have g2:c.heap.gc.gQ.length+20<gX:=by have:=hI.gl;omega
    have g3:c.QR.length<gX:=by rw [hI.tl];omega
    have hd:decide ((k:Int)<steps)=true:=by simpa using hks
    obtain ⟨_,_,_,s4⟩:=su hI.w now
    show (bif decide ((k:Int)<steps) then _ else _)=_
    rw [hd];simp only [ct,Rb,DH,AR hN g1 hI.w g2,Q8,iZ (show k<gX by omega)];unfold nU;cases hv:decide ((ji c.heap now).2 ≥ 0)
    · rfl
    · obtain ⟨har,v0,v9⟩:=s4 hv;simp only [Rb,(har.at v0 v9).1,yk hN g3,Q8,if_true]
  · intro c
    have hd:decide (((steps.toNat:Nat):Int)<steps)=false:=by simp;omega
    show (bif decide (((steps.toNat:Nat):Int)<steps) then _ else _)=_
    rw [hd];simp only [ct,Q9]
theorem I8 {p:cd} (hb:ij p≤3000000) (hw:wP p) (now steps:Int):ij (kh p now steps).1≤ij p+1000∧wP (kh p now steps).1:=by
  unfold kh;split
  · rename_i h;rw [Rg,ir] at h;have hI:=He (now:=now) steps.toNat 0 ⟨0,p.QR,p.heap⟩ (S:=iY ib p.heap.ag) (T:=p.QR.length) (G:=p.heap.gc.gQ.length) ⟨Nat.le_refl _,rfl,Nat.le_refl _,hw⟩;have a1:=hI.sz;have a2:=hI.tl;have a3:=hI.gl;refine ⟨?_,hI.w⟩;unfold ij my rR at hb ⊢;simp only;omega
  · exact ⟨Nat.le_add_right _ _,hw⟩
end Go.Kx
