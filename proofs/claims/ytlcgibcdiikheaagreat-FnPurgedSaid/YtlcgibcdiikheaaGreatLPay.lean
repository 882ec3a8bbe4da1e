import Derived.Test.YtlcgibcdiikheaaGreatLPut
namespace Go.Kx
open Go
open Go.IntKind (i64)
set_option linter.unusedVariables false
set_option linter.unusedSimpArgs false
set_option maxRecDepth 10000
def pQ (w n:Int):ig:=if w==0 then ⟨n,0,0⟩ else if w==1 then ⟨0,n,0⟩ else if w==2 then ⟨0,0,n⟩ else ⟨0,0,0⟩
theorem yk (N:Nat) (w n:Int):oy N w n=some (pQ w n):=by
  unfold oy pQ;cases w==0<;>cases w==1<;>cases w==2<;>rfl
def re (a b:ig):Bool:=iT a&&(iT b&&(decide (a.gE≤b.gE)&&(decide (a.gV≤b.gV)&&decide (a.hY≤b.hY))))
theorem CA (N:Nat) (a b:ig):o4 N a b=some (re a b):=by
  unfold o4 re;simp only [nq,HW,ns]
def yN (a b:ig):ig:=⟨i64.wrap (a.gE - b.gE),i64.wrap (a.gV - b.gV),i64.wrap (a.hY - b.hY)⟩
def yy (a b:ig):ig×Bool:=if re b a then (yN a b,true) else (a,false)
theorem CV (N:Nat) (a b:ig):pO N a b=some (yy a b):=by
  unfold pO yy;rw [CA,HW];cases re b a<;>rfl
def wy (r:gW) (b:ig):gW:=gW.mk r.HN r.HO b
theorem oB {α:Type} [gT α] {l:List α} {i:Int} (h0:0≤i) (h1:i<(l.length:Int)):l[i.toNat]?=some (nth l i):=by
  have:=je (l:=l) h0 h1;unfold idx at this
  rwa [if_pos h0] at this
def jz (t:List gW) (f:Int) (a:ig):List gW×Bool :=
  if jH t&&jc t f then (if re a (nth t f).iB then (t.set f.toNat (wy (nth t f) (yN (nth t f).iB a)),true) else (t,false)) else (t,false)
theorem px {N:Nat} (hN:gS≤N) {t:List gW} (hB:t.length<gS) (f:Int) (a:ig):kA N t f a=some (jz t f a):=by
  unfold kA jz;simp only [mo hB,pd hN,HW];cases h:(jH t&&jc t f)
  · rfl
  rw [H3] at h;have hl:=sA h.1;obtain ⟨f0,f4⟩:=mj h.2;simp only [HZ,HX,je (l:=t) f0 (by omega),CV,HW,if_true];unfold yy;cases re a (nth t f).iB<;>rfl
theorem kC (t:List gW) (f:Int) (a:ig):(jz t f a).1.length=t.length:=by
  unfold jz;split
  · split<;>simp
  · rfl
def sL (last pick:Int):Int→Int→List Int→Int
  | least,next,[]=>if decide (next ≥ 0) then next else least
  | least,next,y::l=>if decide (y<0) then sL last pick least next l else if y==pick then y else
      sL last pick (if decide (least<0) || decide (y<least) then y else least) (if decide (y > last)&&(decide (next<0) || decide (y<next)) then y else next) l
def qg (l:List Int) (last pick:Int):Int:=sL last pick (-1) (-1) l
theorem uW {last pick:Int} {P:Int→Prop}:∀ (l:List Int) (a b:Int),P a→P b→(∀ y,y ∈ l→P y)→P (sL last pick a b l)
  | [],a,b,ha,hb,_=>by unfold sL;split<;>assumption
  | y::l,a,b,ha,hb,h=>by
    have hy:=h y (by simp);have hl:∀ z,z ∈ l→P z:=fun z hz=>h z (by simp [hz]);unfold sL;split
    · exact uW l a b ha hb hl
    · split
      · exact hy
      · refine uW l _ _ ?_ ?_ hl
        · split<;>assumption
        · split<;>assumption
theorem ze (l:List Int) (last pick:Int) (h:decide (qg l last pick<0)=false):qg l last pick ∈ l:=by
  have:=uW (last:=last) (pick:=pick) (P:=fun y=>y=-1∨y ∈ l) l (-1) (-1) (.inl rfl) (.inl rfl) fun y hy=>.inr hy
  rcases this with q | q
  · unfold qg at h;rw [q] at h;simp at h
  · exact q
theorem EY {N:Nat} (hN:gS≤N) {l:List Int} (hl:l.length<gS) (last pick:Int) {body:Int×Int×Int→Option ((Int×Int×Int)⊕((Int×Int×Int)⊕Int))}
    (hs:∀ (k:Nat) (a b y:Int),l[k]?=some y→k<l.length→body (a,b,(k:Int))=some (if decide (y<0) then .inl (a,b,((k+1:Nat):Int)) else if y==pick then .inr (.inr y) else
      .inl (if decide (a<0) || decide (y<a) then y else a,if decide (y > last)&&(decide (b<0) || decide (y<b)) then y else b,((k+1:Nat):Int)))) (he:∀ a b,body (a,b,(l.length:Int))=some (.inr (.inl (a,b,(l.length:Int))))) :
    (iter body N (-1, -1,0)).bind (fun o29=>Sum.elim (fun o29=>bif (decide (o29.2.1 ≥ 0)) then (some o29.2.1) else (some o29.1)) (fun r33=>some r33) o29)=some (qg l last pick):=by
  rw [show ((-1:Int),(-1:Int),(0:Int))=(fun (k:Nat) (t:Int×Int)=>(t.1,t.2,(k:Int))) 0 (-1, -1) from rfl,
    mP l (fun (k:Nat) (t:Int×Int)=>(t.1,t.2,(k:Int))) (fun _ t y=>if decide (y<0) then .inl t else if y==pick then .inr (.inr y) else .inl (if decide (t.1<0) || decide (y<t.1) then y else t.1,if decide (y > last)&&(decide (t.2<0) || decide (y<t.2)) then y else t.2)) (fun t=>.inl (t.1,t.2,(l.length:Int))) (fun _ _=>True) ?_ ?_ (Nat.lt_of_lt_of_le hl hN) trivial]
  · simp only [HW]
    have key:∀ (m:List Int) (k:Nat) (t:Int×Int),Sum.elim (fun (o29:Int×Int×Int)=>bif (decide (o29.2.1 ≥ 0)) then (some o29.2.1) else (some o29.1)) (fun r33=>some r33) (ly (ρ:=(Int×Int×Int)⊕Int) (fun _ t y=>if decide (y<0) then .inl t else if y==pick then .inr (.inr y) else .inl (if decide (t.1<0) || decide (y<t.1) then y else t.1,if decide (y > last)&&(decide (t.2<0) || decide (y<t.2)) then y else t.2)) (fun t=>.inl (t.1,t.2,(l.length:Int))) k t m)=some (sL last pick t.1 t.2 m):=by
      intro m
      induction m with
      | nil =>
        intro k t;unfold ly sL;simp only [Sum.elim_inl];cases decide (t.2 ≥ 0)<;>rfl
      | cons y m ih =>
        intro k t;unfold ly sL;cases decide (y<0)
        · cases y==pick
          · exact ih (k+1) _
          · rfl
        · exact ih (k+1) t
    exact key l 0 (-1, -1)
  · intro k t y hy hk _;refine ⟨?_,fun _ _=>trivial⟩;rw [hs k t.1 t.2 y hy hk];cases decide (y<0)
    · cases y==pick<;>rfl
    · rfl
  · intro t _;exact he t.1 t.2
theorem BJ {N:Nat} (hN:gS≤N) {l:List Int} (hl:l.length<gS) (last pick:Int):pb N l last pick=some (qg l last pick):=by
  unfold pb;refine EY hN hl last pick ?_ ?_
  · intro k a b y hy hk;simp only [iX hk,HY,iz,hy,HW,i5 (Nat.lt_trans hk hl)];cases h1:decide (y<0)
    · cases h2:y==pick
      · cases decide (a<0)<;>cases decide (y<a)<;>cases decide (y > last)<;>cases decide (b<0)<;>cases decide (y<b)<;>rfl
      · have:y=pick:=by simpa using h2
        rw [this];rfl
    · rfl
  · intro a b;simp only [iW,HX]
def z0 (o:cd):cd:=cd.mk o.HR o.HA o.box o.HP o.iK o.gE o.HK o.iF (i64.wrap (o.iE+1)) o.HM o.g5 o.HI o.HE
def lp (p:bh) (now:Int):Int:=qg (runnable p now) p.HH (i64.wrap (p.HJ - 1))
def Bm (p:bh) (now:Int):Bool:=decide (lp p now<0) || (decide (p.gP.hY ≥ 1000000) || decide ((nth p.py.ag (lp p now)).iE ≥ 1000000))
def pA (p:bh) (now:Int):bh×Int :=
  if jr p then
    (if Bm p now then (bh.mk p.HB p.own p.HC p.py p.gR p.HH 0 p.gP p.g8 p.HG, -1) else
      (bh.mk p.HB p.own (jz p.HC (nv p (nth p.py.ag (lp p now)).HP) ⟨0,0,1⟩).1 (g7.mk (p.py.ag.set (lp p now).toNat (z0 (nth p.py.ag (lp p now)))) p.py.gc) p.gR (lp p now) 0
        (ig.mk p.gP.gE p.gP.gV (i64.wrap (p.gP.hY+1))) p.g8 p.HG,lp p now))
  else (p, -1)
theorem xg {p:bh} {now:Int} (h:decide (lp p now<0)=false):jr p=true∧0≤lp p now∧lp p now≤9:=by
  have:=ze _ _ _ h;unfold runnable at this;exact ni (List.mem_filter.1 this).1
theorem BQ {N:Nat} (hN:gS≤N) {p:bh} (hb:ib p<gS) (hw:wP p) (now:Int):oV N p now=some (pA p now):=by
  have hr:(runnable p now).length<gS:=Nat.lt_of_le_of_lt (xS p now) (by decide);unfold oV pA;simp only [nS hN hb,ph hN hb hw,Ay hN hb hw,BJ hN hr,HW];cases hp:jr p
  · rfl
  simp only [HZ,HX,if_true];rw [show qg (runnable p now) p.HH (i64.wrap (p.HJ - 1))=lp p now from rfl];unfold Bm;cases hn:decide (lp p now<0)
  · obtain ⟨_,n0,n9⟩:=xg hn;obtain ⟨e1,e2⟩:=(jU hp).at n0 n9;simp only [HX,e1,HW,sr hN,px hN (kc hb).2.2.1,Bool.false_or];cases decide (p.gP.hY ≥ 1000000)
    · cases decide ((nth p.py.ag (lp p now)).iE ≥ 1000000)<;>rfl
    · rfl
  · rfl
theorem E7 (p:bh) (now:Int):ib (pA p now).1≤ib p+100:=by
  unfold pA;split
  · rename_i hp;split
    · exact Nat.le_add_right _ _
    · rename_i hn;unfold Bm at hn;simp only [Bool.or_eq_true,not_or,Bool.not_eq_true] at hn;obtain ⟨_,n0,n9⟩:=xg hn.1;have h1:=sF ((jU hp).ok _ ((jU hp).at n0 n9).2);have h2:iL gX (p.py.ag.set (lp p now).toNat (z0 (nth p.py.ag (lp p now))))≤iL gX p.py.ag+12:=Nat.le_trans su (Nat.add_le_add_left h1 _);have h3:=kC p.HC (nv p (nth p.py.ag (lp p now)).HP) ⟨0,0,1⟩;unfold ib ks;simp only [h3];omega
  · exact Nat.le_add_right _ _
end Go.Kx
namespace Go.Kx
open Go
open Go.IntKind (i64)
set_option linter.unusedVariables false
set_option linter.unusedSimpArgs false
set_option maxRecDepth 10000
def wD (i:Int) (x:Int):Int:=if x==i then -1 else x
def v5 (i:Int) (o:cd):cd:=if o.HA==0 then o else cd.mk o.HR o.HA (if o.box==i then -1 else o.box) o.HP o.iK o.gE o.HK o.iF o.iE o.HM (o.g5.map (wD i)) o.HI o.HE
def lj (l:List cd) (i:Int):List cd×Bool:=if kg l&&(ia i 1 9&&((nth l i).HA != 0)) then ((l.set i.toNat (blank (nth l i).HR)).map (v5 i),true) else (l,false)
theorem Dh {l:List cd} (h:Ar l) {i g:Int} {k:Nat} {y:cd} (hy:(l.set i.toNat (blank g))[k]?=some y) (hk:(y.HA==0)=false):kK y=true:=by
  rcases List.mem_or_eq_of_mem_set (List.mem_of_getElem? hy) with q | q
  · exact h.ok y q
  · rw [q] at hk;simp [blank] at hk
theorem xb {o:cd} (h:kK o=true) (hk:(o.HA==0)=false):o.g5.length=2:=by
  unfold kK at h;simp only [hk,HX,H3] at h;obtain ⟨_,_,_,_,_,_,hl,_⟩:=h;unfold qY at hl;simp only [H3,beq_iff_eq] at hl;omega
theorem zr {N:Nat} (hN:gS≤N) {l:List cd} (hb:iL gX l<gS) (hw:wA l) (i:Int):m7 N l i=some (lj l i):=by
  unfold m7 lj;simp only [uY hN hb,nQ hN hb hw,ke,HW];cases ha:kg l
  · rfl
  have h:=km.1 ha;cases hi:ia i 1 9
  · rfl
  have hr:=iG.1 hi;simp only [HZ,HX,(h.at (i:=i) (by omega) hr.2).1,HW,bne,H0];cases hk:(nth l i).HA==0
  · simp only [HX,Bool.not_false,if_true];rw [show cd.mk (nth l i).HR 0 0 0 0 0 0 0 0 false [] [] []=blank (nth l i).HR from rfl];have hlen:(l.set i.toNat (blank (nth l i).HR)).length=l.length:=List.length_set;rw [vc (l.set i.toNat (blank (nth l i).HR)) (v5 i) (by rw [hlen];exact Nat.lt_of_lt_of_le h.wq hN)]
    · rfl
    · intro k t y ht hty hy hkl
      have hk10:k<10:=by rw [hlen,h.len] at hkl;exact hkl
      have hkt:k<t.length:=iQ hty;simp only [iX hkt,HY,iz,hty,HW,i5 (show k<gS from Nat.lt_trans hk10 (by decide))];unfold v5;cases hyk:y.HA==0
      · have ho:=Dh h hy hyk;have h2:=xb ho hyk;simp only [HX,Bool.false_eq_true,if_false]
        have inner:∀ (t2:List cd) (z:cd),t2.length=t.length→t2[k]?=some z→z.g5.length=2→iter (fun (s90:(List cd)×Int)=>(bif (decide (s90.2<2)) then ((idx s90.1 (k:Int)).bind fun y93=>(idx y93.g5 s90.2).bind fun y115=>bif (y115==i) then (some (.inl ((s90.1.set (k:Int).toNat (cd.mk y93.HR y93.HA y93.box y93.HP y93.iK y93.gE y93.HK y93.iF y93.iE y93.HM (y93.g5.set (s90.2:Int).toNat (-1)) y93.HI y93.HE)),i64.wrap (s90.2+1)))) else (some (.inl (s90.1,i64.wrap (s90.2+1))))) else (some (.inr (s90.1,s90.2))):Option (((List cd)×Int)⊕((List cd)×Int)))) N (t2,0) =
            some (t2.set k (cd.mk z.HR z.HA z.box z.HP z.iK z.gE z.HK z.iF z.iE z.HM (z.g5.map (wD i)) z.HI z.HE),2):=by
          intro t2 z hl2 hz hz2
          have hk2:k<t2.length:=by omega
          obtain ⟨a,b,hab⟩:∃ a b,z.g5=[a,b]:=by
            match hq:z.g5 with
            | []=>simp [hq] at hz2
            | [a]=>simp [hq] at hz2
            | [a,b]=>exact ⟨a,b,rfl⟩
            | a::b::c::r=>simp [hq] at hz2
          obtain ⟨M,rfl⟩:∃ M,N=M+3:=⟨N - 3,by have:16777216≤N:=hN;omega⟩;have hset:∀ u:cd,(t2.set k u)[k]?=some u:=fun u=>List.getElem?_set_self hk2
          have hid:t2.set k (cd.mk z.HR z.HA z.box z.HP z.iK z.gE z.HK z.iF z.iE z.HM [a,b] z.HI z.HE)=t2:=by rw [← hab];exact pK hz
          have w1:i64.wrap (0+1)=1:=by decide
          have w2:i64.wrap (1+1)=2:=by decide
          unfold iter;simp only [show decide ((0:Int)<2)=true from rfl,HY,iz,hz,HW,hab,show idx [a,b] 0=some a from rfl,w1,Int.toNat_natCast];cases hA:a==i
          · simp only [HX,HW];unfold iter;simp only [show decide ((1:Int)<2)=true from rfl,HY,iz,hz,HW,hab,show idx [a,b] 1=some b from rfl,w2,Int.toNat_natCast];cases hB:b==i
            · simp only [HX,HW];unfold iter;simp [wD,hA,hB,hid]
            · simp only [HY,HW];unfold iter;simp [wD,hA,hB]
          · simp only [HY,HW];unfold iter;simp only [show decide ((1:Int)<2)=true from rfl,HY,iz,hset,HW,w2,Int.toNat_natCast];rw [show idx ([a,b].set (0:Int).toNat (-1)) 1=some b from rfl];simp only [HW];cases hB:b==i
            · simp only [HX,HW];unfold iter;simp [wD,hA,hB]
            · simp only [HY,HW,List.set_set];unfold iter;simp [wD,hA,hB]
        simp only [iz,Int.toNat_natCast] at inner ⊢;cases hbx:y.box==i
        · simp only [HX,HW,Bool.false_eq_true,if_false];rw [inner t y rfl hty h2];rfl
        · simp only [HY,HW,Int.toNat_natCast,if_true];have e:=inner (t.set k (cd.mk y.HR y.HA (-1) y.HP y.iK y.gE y.HK y.iF y.iE y.HM y.g5 y.HI y.HE)) (cd.mk y.HR y.HA (-1) y.HP y.iK y.gE y.HK y.iF y.iE y.HM y.g5 y.HI y.HE) List.length_set (List.getElem?_set_self hkt) h2;rw [e];simp only [HW,List.set_set]
      · simp only [HY,if_true];rw [pK hty]
    · intro t ht;rw [← ht];simp only [iW,HX]
  · rfl
def pf (t:List gW) (f:Int) (a:ig):List gW×Bool :=
  if jH t&&(iT a&&iT (iN (mG t) a)) then
    (t.set (if jc t f then f else 0).toNat (wy (nth t (if jc t f then f else 0)) (iN (nth t (if jc t f then f else 0)).iB a)),true)
  else (t,false)
theorem rH (t:List gW) (f:Int) (a:ig):(pf t f a).1.length=t.length:=by
  unfold pf;split<;>simp
theorem D2 {n:Int}:vr n=true ↔ 0≤n∧n≤1000000:=iG
theorem kQ {a:ig}:iT a=true ↔ (0≤a.gE∧a.gE≤1000000)∧(0≤a.gV∧a.gV≤1000000)∧(0≤a.hY∧a.hY≤1000000):=by
  unfold iT;simp only [H3,D2]
theorem qV:∀ (t:List gW) (s:ig) (B:Int),(∀ r,r ∈ t→iT r.iB=true)→0≤B→B+1000000 * (t.length:Int)≤1000000000→(0≤s.gE∧s.gE≤B)→(0≤s.gV∧s.gV≤B)→(0≤s.hY∧s.hY≤B) →
    (s.gE≤(i6 s t).gE∧s.gV≤(i6 s t).gV∧s.hY≤(i6 s t).hY) ∧
      ∀ r,r ∈ t→r.HN=true→r.iB.gE≤(i6 s t).gE∧r.iB.gV≤(i6 s t).gV∧r.iB.hY≤(i6 s t).hY
  | [],s,B,_,_,_,_,_,_=>⟨⟨Int.le_refl _,Int.le_refl _,Int.le_refl _⟩,fun r hr=>by simp at hr⟩
  | r::t,s,B,h,hB,hL,h1,h2,h3=>by
    have hr:=kQ.1 (h r (by simp));simp only [List.length_cons] at hL;have e:i6 s (r::t)=i6 (if r.HN then iN s r.iB else s) t:=rfl;rw [e];cases hv:r.HN
    · obtain ⟨q1,q2⟩:=qV t s B (fun x hx=>h x (by simp [hx])) hB (by omega) h1 h2 h3;refine ⟨q1,fun x hx hl=>?_⟩
      rcases List.mem_cons.1 hx with rfl | hx
      · rw [hv] at hl;cases hl
      · exact q2 x hx hl
    · simp only [if_true];have w1:(iN s r.iB).gE=s.gE+r.iB.gE:=iC (by omega) (by omega);have w2:(iN s r.iB).gV=s.gV+r.iB.gV:=iC (by omega) (by omega);have w3:(iN s r.iB).hY=s.hY+r.iB.hY:=iC (by omega) (by omega);obtain ⟨⟨a1,a2,a3⟩,q2⟩:=qV t (iN s r.iB) (B+1000000) (fun x hx=>h x (by simp [hx])) (by omega) (by omega) (by omega) (by omega) (by omega);refine ⟨⟨by omega,by omega,by omega⟩,fun x hx hl=>?_⟩
      rcases List.mem_cons.1 hx with rfl | hx
      · exact ⟨by omega,by omega,by omega⟩
      · exact q2 x hx hl
theorem w5 {t:List gW} (h:Tr t) {a:ig} (ha:iT a=true) (hs:iT (iN (i6 ⟨0,0,0⟩ t) a)=true) {i:Int} (hi:0≤i∧i≤4) (hv:(nth t i).HN=true):kj (nth t i).iB a=(iN (nth t i).iB a,true):=by
  have hl:=h.len;have hm:nth t i ∈ t:=kv hi.1 (by omega);obtain ⟨_,q⟩:=qV t ⟨0,0,0⟩ 0 h.iB (by omega) (by omega) ⟨by decide,by decide⟩ ⟨by decide,by decide⟩ ⟨by decide,by decide⟩;obtain ⟨q1,q2,q3⟩:=q _ hm hv;have hb:=kQ.1 (h.iB _ hm);have ha':=kQ.1 ha;have hS:=kQ.1 h.sum;have w1:(iN (i6 ⟨0,0,0⟩ t) a).gE=(i6 ⟨0,0,0⟩ t).gE+a.gE:=iC (by omega) (by omega);have w2:(iN (i6 ⟨0,0,0⟩ t) a).gV=(i6 ⟨0,0,0⟩ t).gV+a.gV:=iC (by omega) (by omega);have w3:(iN (i6 ⟨0,0,0⟩ t) a).hY=(i6 ⟨0,0,0⟩ t).hY+a.hY:=iC (by omega) (by omega);have hs':=kQ.1 hs;have v1:(iN (nth t i).iB a).gE=(nth t i).iB.gE+a.gE:=iC (by omega) (by omega);have v2:(iN (nth t i).iB a).gV=(nth t i).iB.gV+a.gV:=iC (by omega) (by omega);have v3:(iN (nth t i).iB a).hY=(nth t i).iB.hY+a.hY:=iC (by omega) (by omega);have:iT (iN (nth t i).iB a)=true:=kQ.2 ⟨by omega,by omega,by omega⟩;unfold kj;rw [h.iB _ hm,ha,this];rfl
theorem sK {N:Nat} (hN:gS≤N) {t:List gW} (hB:t.length<gS) (f:Int) (a:ig):lP N t f a=some (pf t f a):=by
  unfold lP pf;simp only [mo hB,rj hN,wT hN hB,ri,pd hN,HW];cases ht:jH t
  · rfl
  have hT:=sG.1 ht;have hl:=hT.len
  have e:(kj (i6 ⟨0,0,0⟩ t) a).2=(iT a&&iT (iN (mG t) a)):=by
    unfold kj mG;rw [hT.sum,ht];simp only [if_true,H0];cases iT a&&iT (iN (i6 ⟨0,0,0⟩ t) a)<;>rfl
  rw [e];simp only [HZ,HX,H0];cases hc:(iT a&&iT (iN (mG t) a))
  · rfl
  rw [H3] at hc
  have hs:iT (iN (i6 ⟨0,0,0⟩ t) a)=true:=by
    have:=hc.2;unfold mG at this
    rwa [ht,if_pos rfl] at this
  simp only [HZ,HX,if_true];cases hv:jc t f
  · simp only [Bool.not_false,HY,HW,je (l:=t) (i:=0) (by omega) (by omega),w5 hT hc.1 hs (i:=0) ⟨by omega,by omega⟩ hT.AZ,Bool.false_eq_true,if_false];rfl
  · obtain ⟨f0,f4⟩:=mj hv
    have hlv:(nth t f).HN=true:=by unfold jc at hv;rw [H3] at hv;exact hv.2
    simp only [HZ,HX,HW,je (l:=t) f0 (by omega),w5 hT hc.1 hs (i:=f) ⟨f0,f4⟩ hlv,if_true];rfl
end Go.Kx
