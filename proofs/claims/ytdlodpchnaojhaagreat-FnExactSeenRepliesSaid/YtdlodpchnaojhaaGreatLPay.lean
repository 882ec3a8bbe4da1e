import Derived.Test.YtdlodpchnaojhaaGreatLSum
namespace Go.Kx
open Go
open Go.IntKind (i64)
set_option linter.unusedVariables false
set_option linter.unusedSimpArgs false
set_option maxRecDepth 10000
def lh (w n:Int):hJ:=if w==0 then ⟨n,0,0⟩ else if w==1 then ⟨0,n,0⟩ else if w==2 then ⟨0,0,n⟩ else ⟨0,0,0⟩
theorem xh (N:Nat) (w n:Int):m4 N w n=some (lh w n):=by
  unfold m4 lh;cases w==0<;>cases w==1<;>cases w==2<;>rfl
theorem D5 (N:Nat) (w n:Int):rr N w n=some (lh w n):=by
  unfold rr lh;cases w==0<;>cases w==1<;>cases w==2<;>rfl
def ni (a b:hJ):Bool:=iH a&&(iH b&&(decide (a.gE≤b.gE)&&(decide (a.gT≤b.gT)&&decide (a.g8≤b.g8))))
theorem H0 (N:Nat) (a b:hJ):rU N a b=some (ni a b):=by
  unfold rU ni;simp only [qe,Ok,kp]
theorem IE (N:Nat) (a b:hJ):sq N a b=some (ni a b):=by
  unfold sq ni;simp only [qt,Ok,kp]
def DE (a b:hJ):hJ:=⟨i64.wrap (a.gE - b.gE),i64.wrap (a.gT - b.gT),i64.wrap (a.g8 - b.g8)⟩
def wX (a b:hJ):hJ×Bool:=if ni b a then (DE a b,true) else (a,false)
theorem Ju (N:Nat) (a b:hJ):s7 N a b=some (wX a b):=by
  unfold s7 wX;rw [H0,Ok];cases ni b a<;>rfl
theorem JA (N:Nat) (a b:hJ):tq N a b=some (wX a b):=by
  unfold tq wX;rw [IE,Ok];cases ni b a<;>rfl
def A1 (r:g7) (b:hJ):g7:=g7.mk r.Of r.Og b
theorem oY {α:Type} [hD α] {l:List α} {i:Int} (h0:0≤i) (h1:i<(l.length:Int)):l[i.toNat]?=some (nth l i):=by
  have:=iT (l:=l) h0 h1;unfold idx at this
  rwa [if_pos h0] at this
def ji (t:List g7) (f:Int) (a:hJ):List g7×Bool :=
  if jy t&&i9 t f then (if ni a (nth t f).iG then (t.set f.toNat (A1 (nth t f) (DE (nth t f).iG a)),true) else (t,false)) else (t,false)
theorem um {N:Nat} (hN:gS≤N) {t:List g7} (hB:t.length<gS) (f:Int) (a:hJ):mq N t f a=some (ji t f a):=by
  unfold mq ji;simp only [ot hB,ri hN,Ok];cases ht:jy t
  · rfl
  have hl:=o3 ht;simp only [On,Ol,rk N hl,Ok];cases hv:i9 t f
  · rfl
  obtain ⟨f0,f4⟩:=kZ hv;simp only [On,Ol,iT (l:=t) f0 (by omega),Ju,Ok,Bool.and_self,if_true];unfold wX;cases ni a (nth t f).iG
  · have:t.set f.toNat (g7.mk (nth t f).Of (nth t f).Og (hJ.mk (nth t f).iG.gE (nth t f).iG.gT (nth t f).iG.g8))=t:=nh (oY f0 (by omega));simp only [Bool.false_eq_true,if_false];rw [this]
  · rfl
theorem sX {N:Nat} (hN:gS≤N) {t:List g7} (hB:t.length<gS) (f:Int) (a:hJ):lH N t f a=some (ji t f a):=by
  unfold lH ji;simp only [oE hB,sH hN,Ok];cases h:(jy t&&i9 t f)
  · rfl
  rw [Oq] at h;have hl:=o3 h.1;obtain ⟨f0,f4⟩:=kZ h.2;simp only [On,Ol,iT (l:=t) f0 (by omega),JA,Ok,if_true];unfold wX;cases ni a (nth t f).iG<;>rfl
theorem kW (t:List g7) (f:Int) (a:hJ):(ji t f a).1.length=t.length:=by
  unfold ji;split
  · split<;>simp
  · rfl
def xl (last pick:Int):Int→Int→List Int→Int
  | least,next,[]=>if decide (next ≥ 0) then next else least
  | least,next,y::l=>if decide (y<0) then xl last pick least next l else if y==pick then y else
      xl last pick (if decide (least<0) || decide (y<least) then y else least) (if decide (y > last)&&(decide (next<0) || decide (y<next)) then y else next) l
def rv (l:List Int) (last pick:Int):Int:=xl last pick (-1) (-1) l
theorem zA {last pick:Int} {P:Int→Prop}:∀ (l:List Int) (a b:Int),P a→P b→(∀ y,y ∈ l→P y)→P (xl last pick a b l)
  | [],a,b,ha,hb,_=>by unfold xl;split<;>assumption
  | y::l,a,b,ha,hb,h=>by
    have hy:=h y (by simp);have hl:∀ z,z ∈ l→P z:=fun z hz=>h z (by simp [hz]);unfold xl;split
    · exact zA l a b ha hb hl
    · split
      · exact hy
      · refine zA l _ _ ?_ ?_ hl
        · split<;>assumption
        · split<;>assumption
theorem EX (l:List Int) (last pick:Int) (h:decide (rv l last pick<0)=false):rv l last pick ∈ l:=by
  have:=zA (last:=last) (pick:=pick) (P:=fun y=>y=-1∨y ∈ l) l (-1) (-1) (.inl rfl) (.inl rfl) fun y hy=>.inr hy
  rcases this with q | q
  · unfold rv at h;rw [q] at h;simp at h
  · exact q
theorem HW {N:Nat} (hN:gS≤N) {l:List Int} (hl:l.length<gS) (last pick:Int) {body:Int×Int×Int→Option ((Int×Int×Int)⊕((Int×Int×Int)⊕Int))}
    (hs:∀ (k:Nat) (a b y:Int),l[k]?=some y→k<l.length→body (a,b,(k:Int))=some (if decide (y<0) then .inl (a,b,((k+1:Nat):Int)) else if y==pick then .inr (.inr y) else
      .inl (if decide (a<0) || decide (y<a) then y else a,if decide (y > last)&&(decide (b<0) || decide (y<b)) then y else b,((k+1:Nat):Int)))) (he:∀ a b,body (a,b,(l.length:Int))=some (.inr (.inl (a,b,(l.length:Int))))) :
    (iter body N (-1, -1,0)).bind (fun o29=>Sum.elim (fun o29=>bif (decide (o29.2.1 ≥ 0)) then (some o29.2.1) else (some o29.1)) (fun r33=>some r33) o29)=some (rv l last pick):=by
  rw [show ((-1:Int),(-1:Int),(0:Int))=(fun (k:Nat) (t:Int×Int)=>(t.1,t.2,(k:Int))) 0 (-1, -1) from rfl,
    lD l (fun (k:Nat) (t:Int×Int)=>(t.1,t.2,(k:Int))) (fun _ t y=>if decide (y<0) then .inl t else if y==pick then .inr (.inr y) else .inl (if decide (t.1<0) || decide (y<t.1) then y else t.1,if decide (y > last)&&(decide (t.2<0) || decide (y<t.2)) then y else t.2)) (fun t=>.inl (t.1,t.2,(l.length:Int))) (fun _ _=>True) ?_ ?_ (Nat.lt_of_lt_of_le hl hN) trivial]
  · simp only [Ok]
    have key:∀ (m:List Int) (k:Nat) (t:Int×Int),Sum.elim (fun (o29:Int×Int×Int)=>bif (decide (o29.2.1 ≥ 0)) then (some o29.2.1) else (some o29.1)) (fun r33=>some r33) (kR (ρ:=(Int×Int×Int)⊕Int) (fun _ t y=>if decide (y<0) then .inl t else if y==pick then .inr (.inr y) else .inl (if decide (t.1<0) || decide (y<t.1) then y else t.1,if decide (y > last)&&(decide (t.2<0) || decide (y<t.2)) then y else t.2)) (fun t=>.inl (t.1,t.2,(l.length:Int))) k t m)=some (xl last pick t.1 t.2 m):=by
      intro m
      induction m with
      | nil =>
        intro k t;unfold kR xl;simp only [Sum.elim_inl];cases decide (t.2 ≥ 0)<;>rfl
      | cons y m ih =>
        intro k t;unfold kR xl;cases decide (y<0)
        · cases y==pick
          · exact ih (k+1) _
          · rfl
        · exact ih (k+1) t
    exact key l 0 (-1, -1)
  · intro k t y hy hk _;refine ⟨?_,fun _ _=>trivial⟩;rw [hs k t.1 t.2 y hy hk];cases decide (y<0)
    · cases y==pick<;>rfl
    · rfl
  · intro t _;exact he t.1 t.2
theorem Im {N:Nat} (hN:gS≤N) {l:List Int} (hl:l.length<gS) (last pick:Int):so N l last pick=some (rv l last pick):=by
  unfold so;refine HW hN hl last pick ?_ ?_
  · intro k a b y hy hk;simp only [iE hk,Om,ij,hy,Ok,iK (Nat.lt_trans hk hl)];cases decide (y<0)<;>cases y==pick<;>cases decide (a<0)<;>cases decide (y<a)<;>cases decide (y > last)<;>cases decide (b<0)<;>cases decide (y<b)<;>rfl
  · intro a b;simp only [iF,Ol]
theorem IL {N:Nat} (hN:gS≤N) {l:List Int} (hl:l.length<gS) (last pick:Int):sw N l last pick=some (rv l last pick):=by
  unfold sw;refine HW hN hl last pick ?_ ?_
  · intro k a b y hy hk;simp only [iE hk,Om,ij,hy,Ok,iK (Nat.lt_trans hk hl)];cases h1:decide (y<0)
    · cases h2:y==pick
      · cases decide (a<0)<;>cases decide (y<a)<;>cases decide (y > last)<;>cases decide (b<0)<;>cases decide (y<b)<;>rfl
      · have:y=pick:=by simpa using h2
        rw [this];rfl
    · rfl
  · intro a b;simp only [iF,Ol]
def FQ (o:gP):gP:=gP.mk o.Oe o.N0 o.box o.Od o.iw o.gE o.N9 o.iv (i64.wrap (o.iu+1)) o.Ob o.gX o.N8 o.N4
def lE (p:cd) (now:Int):Int:=rv (runnable p now) p.N6 (i64.wrap (p.N7 - 1))
def CE (p:cd) (now:Int):Bool:=decide (lE p now<0) || (decide (p.bh.g8 ≥ 1000000) || decide ((nth p.py.ag (lE p now)).iu ≥ 1000000))
def o8 (p:cd) (now:Int):cd×Int :=
  if jd p then
    (if CE p now then (cd.mk p.NZ p.own p.N1 p.py p.gR p.N6 0 p.bh p.gW p.N5, -1) else
      (cd.mk p.NZ p.own (ji p.N1 (nE p (nth p.py.ag (lE p now)).Od) ⟨0,0,1⟩).1 (g5.mk (p.py.ag.set (lE p now).toNat (FQ (nth p.py.ag (lE p now)))) p.py.gc) p.gR (lE p now) 0
        (hJ.mk p.bh.gE p.bh.gT (i64.wrap (p.bh.g8+1))) p.gW p.N5,lE p now))
  else (p, -1)
theorem yv {p:cd} {now:Int} (h:decide (lE p now<0)=false):jd p=true∧0≤lE p now∧lE p now≤9:=by
  have:=EX _ _ _ h;unfold runnable at this;exact mw (List.mem_filter.1 this).1
theorem Ma {o:gP} (h:j2 o=true):0≤o.iu∧o.iu≤1000000:=by
  unfold j2 at h;cases hk:o.N0==0
  · simp only [hk,Ol,Oq] at h;have h:=h.2.2.2.2.2.2.2;cases h4:o.N0 != 4
    · rw [h4] at h;simp only [Ol,Oq] at h;exact iR.1 h.2.2
    · rw [h4] at h;simp only [Om,Oq,beq_iff_eq] at h;omega
  · simp only [hk,Om,Oq,decide_eq_true_eq] at h;rw [h.2.2];exact ⟨Int.le_refl _,by show (0:Int)≤1000000;decide⟩
theorem Ht {n:Int} (h:n≤1000000):(n==1000000)=decide (n ≥ 1000000):=by
  rw [Bool.eq_iff_iff];simp;omega
theorem Ix {a:hJ} (h:iH a=true):(0≤a.gE∧a.gE≤1000000)∧(0≤a.gT∧a.gT≤1000000)∧(0≤a.g8∧a.g8≤1000000):=by
  unfold iH wU at h;simpa only [Oq,iR] using h
theorem CZ {p:cd} (h:jd p=true):iH p.bh=true:=by
  unfold jd Aj at h;simp only [Oq] at h;exact h.2.2.2.2.2.2.2.2.1
theorem IF {N:Nat} (hN:gS≤N) {p:cd} (hb:ic p<gS) (now:Int):r8 N p now=some (o8 p now):=by
  have hr:(runnable p now).length<gS:=Nat.lt_of_le_of_lt (xV p now) (by decide);unfold r8 o8;simp only [pC hN hb,sK hN hb,GF hN hb,Im hN hr,Ok];cases hp:jd p
  · rfl
  simp only [On,Ol,if_true];rw [show rv (runnable p now) p.N6 (i64.wrap (p.N7 - 1))=lE p now from rfl];unfold CE;have hsp:=Ix (CZ hp);cases hn:decide (lE p now<0)
  · obtain ⟨_,n0,n9⟩:=yv hn;obtain ⟨e1,e2⟩:=(jF hp).at n0 n9;have hran:=Ma ((jF hp).ok _ e2);simp only [Ol,e1,Ok,Ht hsp.2.2.2,Ht hran.2,xh,A5 hN,um hN (jK hb).2.2.1,sN,Bool.false_or];cases decide (p.bh.g8 ≥ 1000000)
    · cases decide ((nth p.py.ag (lE p now)).iu ≥ 1000000)
      · have ea:iO p.bh (lh 2 1)=hJ.mk p.bh.gE p.bh.gT (i64.wrap (p.bh.g8+1)):=by
          show hJ.mk (i64.wrap (p.bh.gE+0)) (i64.wrap (p.bh.gT+0)) (i64.wrap (p.bh.g8+1))=_
          rw [iY (n:=p.bh.gE+0) (by omega) (by omega),iY (n:=p.bh.gT+0) (by omega) (by omega),Int.add_zero,Int.add_zero]
        rw [ea];rfl
      · rfl
    · rfl
  · rfl
theorem H4 {N:Nat} (hN:gS≤N) {p:cd} (hb:ic p<gS) (hw:wP p) (now:Int):rR N p now=some (o8 p now):=by
  have hr:(runnable p now).length<gS:=Nat.lt_of_le_of_lt (xV p now) (by decide);unfold rR o8;simp only [qz hN hb,sF hN hb hw,Ha hN hb hw,IL hN hr,Ok];cases hp:jd p
  · rfl
  simp only [On,Ol,if_true];rw [show rv (runnable p now) p.N6 (i64.wrap (p.N7 - 1))=lE p now from rfl];unfold CE;cases hn:decide (lE p now<0)
  · obtain ⟨_,n0,n9⟩:=yv hn;obtain ⟨e1,e2⟩:=(jF hp).at n0 n9;simp only [Ol,e1,Ok,wV hN,sX hN (jK hb).2.2.1,Bool.false_or];cases decide (p.bh.g8 ≥ 1000000)
    · cases decide ((nth p.py.ag (lE p now)).iu ≥ 1000000)<;>rfl
    · rfl
  · rfl
theorem L5 (p:cd) (now:Int):ic (o8 p now).1≤ic p+100:=by
  unfold o8;split
  · rename_i hp;split
    · exact Nat.le_add_right _ _
    · rename_i hn;unfold CE at hn;simp only [Bool.or_eq_true,not_or,Bool.not_eq_true] at hn;obtain ⟨_,n0,n9⟩:=yv hn.1;have h1:=xw ((jF hp).ok _ ((jF hp).at n0 n9).2);have h2:iQ hX (p.py.ag.set (lE p now).toNat (FQ (nth p.py.ag (lE p now))))≤iQ hX p.py.ag+12:=Nat.le_trans w6 (Nat.add_le_add_left h1 _);have h3:=kW p.N1 (nE p (nth p.py.ag (lE p now)).Od) ⟨0,0,1⟩;unfold ic oD;simp only [h3];omega
  · exact Nat.le_add_right _ _
end Go.Kx
namespace Go.Kx
open Go
open Go.IntKind (i64)
set_option linter.unusedVariables false
set_option linter.unusedSimpArgs false
set_option maxRecDepth 10000
def xm (i:Int) (x:Int):Int:=if x==i then -1 else x
def yU (i:Int) (o:gP):gP:=if o.N0==0 then o else gP.mk o.Oe o.N0 (if o.box==i then -1 else o.box) o.Od o.iw o.gE o.N9 o.iv o.iu o.Ob (o.gX.map (xm i)) o.N8 o.N4
def lW (l:List gP) (i:Int):List gP×Bool:=if jJ l&&(ia i 1 9&&((nth l i).N0 != 0)) then ((l.set i.toNat (blank (nth l i).Oe)).map (yU i),true) else (l,false)
theorem D3 {l:List gP} (h:Ar l) {i g:Int} {k:Nat} {y:gP} (hy:(l.set i.toNat (blank g))[k]?=some y) (hk:(y.N0==0)=false):j2 y=true:=by
  rcases List.mem_or_eq_of_mem_set (List.mem_of_getElem? hy) with q | q
  · exact h.ok y q
  · rw [q] at hk;simp [blank] at hk
theorem wv {o:gP} (h:j2 o=true) (hk:(o.N0==0)=false):o.gX.length=2:=by
  unfold j2 at h;simp only [hk,Ol,Oq] at h;obtain ⟨_,_,_,_,_,_,hl,_⟩:=h;unfold sR at hl;simp only [Oq,beq_iff_eq] at hl;omega
theorem Fe {N:Nat} (hN:gS≤N) {l:List gP} (hb:iQ hX l<gS) (i:Int):pQ N l i=some (lW l i):=by
  unfold pQ lW;simp only [uf hN hb,uB hN hb,lv,Ok];cases ha:jJ l
  · rfl
  have h:=j5.1 ha;cases hi:ia i 1 9
  · rfl
  have hr:=iR.1 hi;simp only [On,Ol,(h.at (i:=i) (by omega) hr.2).1,Ok,bne,Oo];cases hk:(nth l i).N0==0
  · simp only [Ol,Bool.not_false,if_true];rw [show gP.mk (nth l i).Oe 0 0 0 0 0 0 0 0 false [] [] []=blank (nth l i).Oe from rfl];have hlen:(l.set i.toNat (blank (nth l i).Oe)).length=l.length:=List.length_set;rw [sG (l.set i.toNat (blank (nth l i).Oe)) (yU i) (by rw [hlen];exact Nat.lt_of_lt_of_le h.wF hN)]
    · rfl
    · intro k t y ht hty hy hkl
      have hk10:k<10:=by rw [hlen,h.len] at hkl;exact hkl
      have hd:decide ((k:Int)<(l.length:Int))=true:=by simp [h.len];omega
      have hkt:k<t.length:=ja hty;simp only [hd,Om,ij,hty,Ok,iK (show k<gS from Nat.lt_trans hk10 (by decide))];unfold yU;cases hyk:y.N0==0
      · have ho:=D3 h hy hyk;have h2:=wv ho hyk
        have hLB:y.gX.length<gS:=by rw [h2];decide
        have inner:iter (fun (s124:(List Int)×Int)=>(bif (decide (s124.2<(y.gX.length:Int))) then ((idx s124.1 s124.2).bind fun y127=>bif (y127==i) then (some (.inl (s124.1.set (s124.2:Int).toNat (-1),i64.wrap (s124.2+1)))) else (some (.inl (s124.1,i64.wrap (s124.2+1))))) else (some (.inr (s124.1,s124.2))):Option (((List Int)×Int)⊕((List Int)×Int)))) N (y.gX,0)=some (y.gX.map (xm i),(y.gX.length:Int)):=by
          rw [sG y.gX (xm i) (Nat.lt_of_lt_of_le hLB hN)]
          · intro j t2 z ht2 hz _ hj;simp only [iE hj,Om,ij,hz,Ok,iK (Nat.lt_trans hj hLB),Int.toNat_natCast];unfold xm;cases z==i
            · simp [nh hz]
            · rfl
          · intro t2 ht2;simp only [iF,Ol]
        simp only [Ol,Bool.false_eq_true,if_false];cases hbx:y.box==i
        · simp only [Ol,Ok,ij,hty,Bool.false_eq_true,if_false];rw [inner];rfl
        · simp only [Om,Ok,Int.toNat_natCast,ij,List.getElem?_set_self hkt,if_true];rw [inner];simp only [Ok,List.set_set]
      · simp only [Om,if_true];rw [nh hty]
    · intro t ht
      have hd:decide (((l.set i.toNat (blank (nth l i).Oe)).length:Int)<(l.length:Int))=false:=by rw [hlen];simp
      simp only [hd,Ol]
  · rfl
theorem EK {N:Nat} (hN:gS≤N) {l:List gP} (hb:iQ hX l<gS) (hw:wA l) (i:Int):pS N l i=some (lW l i):=by
  unfold pS lW;simp only [zy hN hb,ra hN hb hw,k5,Ok];cases ha:jJ l
  · rfl
  have h:=j5.1 ha;cases hi:ia i 1 9
  · rfl
  have hr:=iR.1 hi;simp only [On,Ol,(h.at (i:=i) (by omega) hr.2).1,Ok,bne,Oo];cases hk:(nth l i).N0==0
  · simp only [Ol,Bool.not_false,if_true];rw [show gP.mk (nth l i).Oe 0 0 0 0 0 0 0 0 false [] [] []=blank (nth l i).Oe from rfl];have hlen:(l.set i.toNat (blank (nth l i).Oe)).length=l.length:=List.length_set;rw [sG (l.set i.toNat (blank (nth l i).Oe)) (yU i) (by rw [hlen];exact Nat.lt_of_lt_of_le h.wF hN)]
    · rfl
    · intro k t y ht hty hy hkl
      have hk10:k<10:=by rw [hlen,h.len] at hkl;exact hkl
      have hkt:k<t.length:=ja hty;simp only [iE hkt,Om,ij,hty,Ok,iK (show k<gS from Nat.lt_trans hk10 (by decide))];unfold yU;cases hyk:y.N0==0
      · have ho:=D3 h hy hyk;have h2:=wv ho hyk;simp only [Ol,Bool.false_eq_true,if_false]
        have inner:∀ (t2:List gP) (z:gP),t2.length=t.length→t2[k]?=some z→z.gX.length=2→iter (fun (s90:(List gP)×Int)=>(bif (decide (s90.2<2)) then ((idx s90.1 (k:Int)).bind fun y93=>(idx y93.gX s90.2).bind fun y115=>bif (y115==i) then (some (.inl ((s90.1.set (k:Int).toNat (gP.mk y93.Oe y93.N0 y93.box y93.Od y93.iw y93.gE y93.N9 y93.iv y93.iu y93.Ob (y93.gX.set (s90.2:Int).toNat (-1)) y93.N8 y93.N4)),i64.wrap (s90.2+1)))) else (some (.inl (s90.1,i64.wrap (s90.2+1))))) else (some (.inr (s90.1,s90.2))):Option (((List gP)×Int)⊕((List gP)×Int)))) N (t2,0) =
            some (t2.set k (gP.mk z.Oe z.N0 z.box z.Od z.iw z.gE z.N9 z.iv z.iu z.Ob (z.gX.map (xm i)) z.N8 z.N4),2):=by
          intro t2 z hl2 hz hz2
          have hk2:k<t2.length:=by omega
          obtain ⟨a,b,hab⟩:∃ a b,z.gX=[a,b]:=by
            match hq:z.gX with
            | []=>simp [hq] at hz2
            | [a]=>simp [hq] at hz2
            | [a,b]=>exact ⟨a,b,rfl⟩
            | a::b::c::r=>simp [hq] at hz2
          obtain ⟨M,rfl⟩:∃ M,N=M+3:=⟨N - 3,by have:16777216≤N:=hN;omega⟩;have hset:∀ u:gP,(t2.set k u)[k]?=some u:=fun u=>List.getElem?_set_self hk2
          have hid:t2.set k (gP.mk z.Oe z.N0 z.box z.Od z.iw z.gE z.N9 z.iv z.iu z.Ob [a,b] z.N8 z.N4)=t2:=by rw [← hab];exact nh hz
          have w1:i64.wrap (0+1)=1:=by decide
          have w2:i64.wrap (1+1)=2:=by decide
          unfold iter;simp only [show decide ((0:Int)<2)=true from rfl,Om,ij,hz,Ok,hab,show idx [a,b] 0=some a from rfl,w1,Int.toNat_natCast];cases hA:a==i
          · simp only [Ol,Ok];unfold iter;simp only [show decide ((1:Int)<2)=true from rfl,Om,ij,hz,Ok,hab,show idx [a,b] 1=some b from rfl,w2,Int.toNat_natCast];cases hB:b==i
            · simp only [Ol,Ok];unfold iter;simp [xm,hA,hB,hid]
            · simp only [Om,Ok];unfold iter;simp [xm,hA,hB]
          · simp only [Om,Ok];unfold iter;simp only [show decide ((1:Int)<2)=true from rfl,Om,ij,hset,Ok,w2,Int.toNat_natCast];rw [show idx ([a,b].set (0:Int).toNat (-1)) 1=some b from rfl];simp only [Ok];cases hB:b==i
            · simp only [Ol,Ok];unfold iter;simp [xm,hA,hB]
            · simp only [Om,Ok,List.set_set];unfold iter;simp [xm,hA,hB]
        simp only [ij,Int.toNat_natCast] at inner ⊢;cases hbx:y.box==i
        · simp only [Ol,Ok,Bool.false_eq_true,if_false];rw [inner t y rfl hty h2];rfl
        · simp only [Om,Ok,Int.toNat_natCast,if_true];have e:=inner (t.set k (gP.mk y.Oe y.N0 (-1) y.Od y.iw y.gE y.N9 y.iv y.iu y.Ob y.gX y.N8 y.N4)) (gP.mk y.Oe y.N0 (-1) y.Od y.iw y.gE y.N9 y.iv y.iu y.Ob y.gX y.N8 y.N4) List.length_set (List.getElem?_set_self hkt) h2;rw [e];simp only [Ok,List.set_set]
      · simp only [Om,if_true];rw [nh hty]
    · intro t ht;rw [← ht];simp only [iF,Ol]
  · rfl
def pG (t:List g7) (f:Int) (a:hJ):List g7×Bool :=
  if jy t&&(iH a&&iH (iO (mP t) a)) then
    (t.set (if i9 t f then f else 0).toNat (A1 (nth t (if i9 t f then f else 0)) (iO (nth t (if i9 t f then f else 0)).iG a)),true)
  else (t,false)
theorem vo (t:List g7) (f:Int) (a:hJ):(pG t f a).1.length=t.length:=by
  unfold pG;split<;>simp
theorem w9 {N:Nat} (hN:gS≤N) {t:List g7} (hB:t.length<gS) (f:Int) (a:hJ):nu N t f a=some (pG t f a):=by
  unfold nu pG;simp only [ot hB,ri hN,qe,B9 hN hB,sN,Ok,jR];cases ht:jy t
  · rfl
  have hl:=o3 ht;cases iH a
  · rfl
  cases iH (iO (mP t) a)
  · rfl
  simp only [On,Bool.or_self,Ol,rk N hl,Ok,Bool.and_self,if_true];cases hv:i9 t f
  · simp only [Bool.not_false,Om,Ok,iT (l:=t) (i:=0) (by omega) (by omega),Bool.false_eq_true,if_false];rfl
  · obtain ⟨f0,f4⟩:=kZ hv;simp only [On,Ol,Ok,iT (l:=t) f0 (by omega),if_true];rfl
theorem Kp {n:Int}:wU n=true ↔ 0≤n∧n≤1000000:=iR
theorem kA {a:hJ}:iH a=true ↔ (0≤a.gE∧a.gE≤1000000)∧(0≤a.gT∧a.gT≤1000000)∧(0≤a.g8∧a.g8≤1000000):=by
  unfold iH;simp only [Oq,Kp]
theorem uY:∀ (t:List g7) (s:hJ) (B:Int),(∀ r,r ∈ t→iH r.iG=true)→0≤B→B+1000000 * (t.length:Int)≤1000000000→(0≤s.gE∧s.gE≤B)→(0≤s.gT∧s.gT≤B)→(0≤s.g8∧s.g8≤B) →
    (s.gE≤(jh s t).gE∧s.gT≤(jh s t).gT∧s.g8≤(jh s t).g8) ∧
      ∀ r,r ∈ t→r.Of=true→r.iG.gE≤(jh s t).gE∧r.iG.gT≤(jh s t).gT∧r.iG.g8≤(jh s t).g8
  | [],s,B,_,_,_,_,_,_=>⟨⟨Int.le_refl _,Int.le_refl _,Int.le_refl _⟩,fun r hr=>by simp at hr⟩
  | r::t,s,B,h,hB,hL,h1,h2,h3=>by
    have hr:=kA.1 (h r (by simp));simp only [List.length_cons] at hL;have e:jh s (r::t)=jh (if r.Of then iO s r.iG else s) t:=rfl;rw [e];cases hv:r.Of
    · obtain ⟨q1,q2⟩:=uY t s B (fun x hx=>h x (by simp [hx])) hB (by omega) h1 h2 h3;refine ⟨q1,fun x hx hl=>?_⟩
      rcases List.mem_cons.1 hx with rfl | hx
      · rw [hv] at hl;cases hl
      · exact q2 x hx hl
    · simp only [if_true];have w1:(iO s r.iG).gE=s.gE+r.iG.gE:=iY (by omega) (by omega);have w2:(iO s r.iG).gT=s.gT+r.iG.gT:=iY (by omega) (by omega);have w3:(iO s r.iG).g8=s.g8+r.iG.g8:=iY (by omega) (by omega);obtain ⟨⟨a1,a2,a3⟩,q2⟩:=uY t (iO s r.iG) (B+1000000) (fun x hx=>h x (by simp [hx])) (by omega) (by omega) (by omega) (by omega) (by omega);refine ⟨⟨by omega,by omega,by omega⟩,fun x hx hl=>?_⟩
      rcases List.mem_cons.1 hx with rfl | hx
      · exact ⟨by omega,by omega,by omega⟩
      · exact q2 x hx hl
theorem By {t:List g7} (h:Tr t) {a:hJ} (ha:iH a=true) (hs:iH (iO (jh ⟨0,0,0⟩ t) a)=true) {i:Int} (hi:0≤i∧i≤4) (hv:(nth t i).Of=true):kf (nth t i).iG a=(iO (nth t i).iG a,true):=by
  have hl:=h.len;have hm:nth t i ∈ t:=kJ hi.1 (by omega);obtain ⟨_,q⟩:=uY t ⟨0,0,0⟩ 0 h.iG (by omega) (by omega) ⟨by decide,by decide⟩ ⟨by decide,by decide⟩ ⟨by decide,by decide⟩;obtain ⟨q1,q2,q3⟩:=q _ hm hv;have hb:=kA.1 (h.iG _ hm);have ha':=kA.1 ha;have hS:=kA.1 h.sum;have w1:(iO (jh ⟨0,0,0⟩ t) a).gE=(jh ⟨0,0,0⟩ t).gE+a.gE:=iY (by omega) (by omega);have w2:(iO (jh ⟨0,0,0⟩ t) a).gT=(jh ⟨0,0,0⟩ t).gT+a.gT:=iY (by omega) (by omega);have w3:(iO (jh ⟨0,0,0⟩ t) a).g8=(jh ⟨0,0,0⟩ t).g8+a.g8:=iY (by omega) (by omega);have hs':=kA.1 hs;have v1:(iO (nth t i).iG a).gE=(nth t i).iG.gE+a.gE:=iY (by omega) (by omega);have v2:(iO (nth t i).iG a).gT=(nth t i).iG.gT+a.gT:=iY (by omega) (by omega);have v3:(iO (nth t i).iG a).g8=(nth t i).iG.g8+a.g8:=iY (by omega) (by omega);have:iH (iO (nth t i).iG a)=true:=kA.2 ⟨by omega,by omega,by omega⟩;unfold kf;rw [h.iG _ hm,ha,this];rfl
theorem xg {N:Nat} (hN:gS≤N) {t:List g7} (hB:t.length<gS) (f:Int) (a:hJ):np N t f a=some (pG t f a):=by
  unfold np pG;simp only [oE hB,vR hN,Bg hN hB,vJ,sH hN,Ok];cases ht:jy t
  · rfl
  have hT:=rE.1 ht;have hl:=hT.len
  have e:(kf (jh ⟨0,0,0⟩ t) a).2=(iH a&&iH (iO (mP t) a)):=by
    unfold kf mP;rw [hT.sum,ht];simp only [if_true,Oo];cases iH a&&iH (iO (jh ⟨0,0,0⟩ t) a)<;>rfl
  rw [e];simp only [On,Ol,Oo];cases hc:(iH a&&iH (iO (mP t) a))
  · rfl
  rw [Oq] at hc
  have hs:iH (iO (jh ⟨0,0,0⟩ t) a)=true:=by
    have:=hc.2;unfold mP at this
    rwa [ht,if_pos rfl] at this
  simp only [On,Ol,if_true];cases hv:i9 t f
  · simp only [Bool.not_false,Om,Ok,iT (l:=t) (i:=0) (by omega) (by omega),By hT hc.1 hs (i:=0) ⟨by omega,by omega⟩ hT.Gv,Bool.false_eq_true,if_false];rfl
  · obtain ⟨f0,f4⟩:=kZ hv
    have hlv:(nth t f).Of=true:=by unfold i9 at hv;rw [Oq] at hv;exact hv.2
    simp only [On,Ol,Ok,iT (l:=t) f0 (by omega),By hT hc.1 hs (i:=f) ⟨f0,f4⟩ hlv,if_true];rfl
end Go.Kx
namespace Go.Kx
open Go
open Go.IntKind (i64)
set_option linter.unusedVariables false
set_option linter.unusedSimpArgs false
set_option maxRecDepth 10000
def ou (h:g5) (k:Int):g5 :=
  if (h.gc.N2==0)&&(((nth h.ag k).N0 != 0)&&!(nth h.ag k).Ob) then
    g5.mk (h.ag.set k.toNat (marked (nth h.ag k) true)) (iW.mk h.gc.N2 h.gc.Oa h.gc.N3 (if h.gc.gQ.contains k then h.gc.gQ else h.gc.gQ++[k]))
  else h
theorem CY {l:List Int} {k:Int} (h:l.length+1<gS):app l [k]=some (l++[k]):=by
  unfold app;rw [if_pos (by simpa using h)]
theorem FI {N:Nat} (hN:gS≤N) {h:g5} {k:Int} (h0:0≤k) (h1:k<(h.ag.length:Int)) (hg:h.gc.gQ.length+1<gS):sP N h k=some (ou h k):=by
  have hg':h.gc.gQ.length<gS:=by omega
  unfold sP ou;rw [← Bool.cond_eq_ite];simp only [iT (l:=h.ag) h0 h1,tG hN hg',CY hg,Ok,bne];cases h.gc.N2==0
  · rfl
  cases (nth h.ag k).N0==0
  · cases (nth h.ag k).Ob
    · cases h.gc.gQ.contains k<;>rfl
    · rfl
  · rfl
theorem Au {N:Nat} (hN:gS≤N) {h:g5} {k:Int} (h0:0≤k) (h1:k<(h.ag.length:Int)) (hg:h.gc.gQ.length+1<gS):oO N h k=some (ou h k):=by
  have hg':h.gc.gQ.length<gS:=by omega
  unfold oO ou;rw [← Bool.cond_eq_ite];simp only [iT (l:=h.ag) h0 h1,wR hN hg',CY hg,Ok,bne];cases h.gc.N2==0
  · rfl
  cases (nth h.ag k).N0==0
  · cases (nth h.ag k).Ob
    · cases h.gc.gQ.contains k<;>rfl
    · rfl
  · rfl
theorem y8 (h:g5) (k:Int):(ou h k).ag.length=h.ag.length:=by
  unfold ou;split<;>simp
theorem xc (h:g5) (k:Int):(ou h k).gc.gQ.length≤h.gc.gQ.length+1:=by
  unfold ou;split
  · simp only;split
    · exact Nat.le_succ _
    · simp
  · exact Nat.le_succ _
theorem Bj {l:List gP} {i j:Int} {o:gP} (h0:0≤i) (h1:i<(l.length:Int)) (hj:0≤j):nth (l.set i.toNat o) j=if i=j then o else nth l j:=by
  unfold nth;rw [List.getElem?_set]
  by_cases e:i=j
  · subst e;rw [if_pos rfl,if_pos (by omega),if_pos rfl];rfl
  · rw [if_neg (by omega),if_neg e]
theorem IV {h:g5} {k j:Int} {now:Int} (h0:0≤k) (h1:k<(h.ag.length:Int)) (hj:0≤j):jg (nth (ou h k).ag j) now=jg (nth h.ag j) now:=by
  unfold ou;split
  · simp only;rw [Bj h0 h1 hj];split
    · rename_i e;subst e;rfl
    · rfl
  · rfl
def lT (l:List gP) (now:Int) (h:g5) (k:Int):g5:=if jg (nth l k) now then h else ou h k
def iB (h:g5):Int:=nth h.gc.gQ ((h.gc.gQ.length:Int) - 1)
def nn (h:g5):List Int:=h.gc.gQ.take (h.gc.gQ.length - 1)
def vv (h:g5) (now:Int):g5 :=
  if h.gc.gQ.length=0 then g5.mk h.ag (iW.mk 1 0 h.gc.N3 h.gc.gQ)
  else if (iB h != 0)&&jg (nth h.ag (iB h)) now then g5.mk h.ag (iW.mk h.gc.N2 h.gc.Oa h.gc.N3 (nn h))
  else (lF h.ag (iB h)).foldl (lT h.ag now) (g5.mk (h.ag.set (iB h).toNat (marked (nth h.ag (iB h)) true)) (iW.mk h.gc.N2 h.gc.Oa h.gc.N3 (nn h)))
def ht (h:g5):List gP×Int×Int×Int×List Int:=(h.ag,h.gc.N2,h.gc.Oa,h.gc.N3,h.gc.gQ)
theorem BC {N:Nat} (hN:gS≤N) {l:List gP} {now:Int} {e:List Int} (he:∀ y,y ∈ e→0≤y∧y≤9) (hel:e.length≤10) {h:g5} (hl:h.ag.length=10) {G:Nat} (hg:h.gc.gQ.length≤G) (hG:G+20<gS)
    (hx:∀ j,0≤j→jg (nth h.ag j) now=jg (nth l j) now)
    {body:Int×List gP×Int×Int×Int×List Int→Option ((Int×List gP×Int×Int×Int×List Int)⊕(Int×List gP×Int×Int×Int×List Int))}
    (hs:∀ (k:Nat) (t:g5) (y:Int),e[k]?=some y→k<e.length→t.ag.length=10→t.gc.gQ.length+1<gS→(∀ j,0≤j→jg (nth t.ag j) now=jg (nth l j) now)→0≤y→y≤9→body ((k:Int),ht t)=some (.inl (((k+1:Nat):Int),ht (lT l now t y))))
    (hend:∀ t,body ((e.length:Int),ht t)=some (.inr ((e.length:Int),ht t))) :
    iter body N (0,ht h)=some ((e.length:Int),ht (e.foldl (lT l now) h)):=by
  have hB:e.length<gS:=by omega
  rw [show ((0:Int),ht h)=(fun (k:Nat) (t:g5)=>((k:Int),ht t)) 0 h from rfl,
    jM e (fun (k:Nat) (t:g5)=>((k:Int),ht t)) (fun _ t y=>lT l now t y) (fun t=>((e.length:Int),ht t)) (fun k t=>t.ag.length=10∧t.gc.gQ.length≤G+k∧∀ j,0≤j→jg (nth t.ag j) now=jg (nth l j) now) ?_ ?_ (Nat.lt_of_lt_of_le hB hN) ⟨hl,hg,hx⟩,kX]
  · intro k t y hy hk ⟨i1,i2,i3⟩;obtain ⟨y0,y9⟩:=he y (List.mem_of_getElem? hy);refine ⟨hs k t y hy hk i1 (by omega) i3 y0 y9,?_⟩;unfold lT;split
    · exact ⟨i1,by omega,i3⟩
    · have:=xc t y;exact ⟨by rw [y8,i1],by omega,fun j hj=>by rw [IV y0 (by omega) hj,i3 j hj]⟩
  · intro t _;exact hend t
theorem Ff {h:g5} (q:j9 h=true):∀ y,y ∈ h.gc.gQ→0≤y∧y≤9:=by
  unfold j9 at q;simp only [Oq,lQ] at q;intro y hy;obtain ⟨k,hk⟩:=List.getElem?_of_mem hy;have:=q.2.2.2 k y hk;unfold uV at this;rw [Oq,iR] at this;exact this.1
theorem vF {h:g5} (q:j9 h=true) (hg:h.gc.gQ.length ≠ 0):0≤iB h∧iB h≤9:=Ff q _ (kJ (by omega) (by omega))
theorem DP {g:List Int} (hg:g.length ≠ 0) (hB:g.length<gS):i64.wrap ((g.length:Int) - 1)=((g.length - 1:Nat):Int)∧sub g 0 ((g.length - 1:Nat):Int)=some (g.take (g.length - 1)):=by
  have:g.length<16777216:=hB;exact ⟨by rw [iY (by omega) (by omega)];omega,xv (by omega)⟩
def Ee (l:List gP):List gP:=l.set 0 (marked (nth l 0) true)
def mH (h:g5) (now:Int):Bool:=(h.gc.Oa != 0)&&(((nth h.ag h.gc.Oa).N0 != 0)&&(jg (nth h.ag h.gc.Oa) now || !(nth h.ag h.gc.Oa).Ob))
def mj (h:g5) (now:Int):List gP:=if mH h now then (lW h.ag h.gc.Oa).1 else h.ag.set h.gc.Oa.toNat (marked (nth h.ag h.gc.Oa) false)
def px (h:g5) (now:Int):g5×Int :=
  (if h.gc.Oa==9 then g5.mk (Ee (mj h now)) (iW.mk 0 0 (if 1000000<i64.wrap (h.gc.N3+1) then 1000000 else i64.wrap (h.gc.N3+1)) [0])
    else g5.mk (mj h now) (iW.mk h.gc.N2 (h.gc.Oa+1) h.gc.N3 h.gc.gQ),if mH h now then h.gc.Oa else -1)
def l6 (h:g5) (now:Int):g5×Int:=if j9 h then (if h.gc.N2==1 then px h now else (vv h now, -1)) else (h, -1)
theorem vC {h:g5} (q:j9 h=true):(h.gc.N2=0)∨(h.gc.N2=1∧0≤h.gc.Oa∧h.gc.Oa≤9):=by
  unfold j9 yJ at q;simp only [Oq,Bool.or_eq_true,beq_iff_eq,iR] at q
  rcases q.2.1 with ⟨h1,_⟩ | ⟨h1,h2,_⟩
  · exact .inl h1
  · exact .inr ⟨h1,h2⟩
theorem Cp (l:List gP) (i:Int):(lW l i).1.length=l.length:=by
  unfold lW;split<;>simp
theorem xZ (h:g5) (now:Int):(mj h now).length=h.ag.length:=by
  unfold mj;split
  · exact Cp _ _
  · simp
theorem Kl {n:Int} (h0:0≤n) (h9:n≤9):((n+1:Int)==10)=(n==9)∧i64.wrap (n+1)=n+1:=by
  rw [iY (by omega) (by omega)];exact ⟨by rw [Bool.eq_iff_iff];simp;omega,rfl⟩
theorem ET {N:Nat} (hN:gS≤N) {h:g5} (q:j9 h=true) (hp:h.gc.N2=1) (h1:iQ hX h.ag<gS) (now:Int):pN N h now=some (px h now):=by
  have ha:=mC q
  have hr:0≤h.gc.Oa∧h.gc.Oa≤9:=by
    rcases vC q with e | e
    · rw [hp] at e;cases e
    · exact e.2
  obtain ⟨e1,e2⟩:=Kl hr.1 hr.2;have hsl:=xZ h now;have e0:idx (mj h now) 0=some (nth (mj h now) 0):=iT (by omega) (by rw [hsl,ha.len];decide);unfold pN px;simp only [(ha.at hr.1 hr.2).1,wg,Fe hN h1,Ok,kp,jR,e1,e2];rw [show (h.gc.Oa != 0&&((nth h.ag h.gc.Oa).N0 != 0&&(jg (nth h.ag h.gc.Oa) now || !(nth h.ag h.gc.Oa).Ob)))=mH h now from rfl]
  have hsw:(bif mH h now then some (h.gc.Oa,(lW h.ag h.gc.Oa).1) else some (-1,h.ag.set h.gc.Oa.toNat (gP.mk (nth h.ag h.gc.Oa).Oe (nth h.ag h.gc.Oa).N0 (nth h.ag h.gc.Oa).box (nth h.ag h.gc.Oa).Od (nth h.ag h.gc.Oa).iw (nth h.ag h.gc.Oa).gE (nth h.ag h.gc.Oa).N9 (nth h.ag h.gc.Oa).iv (nth h.ag h.gc.Oa).iu false (nth h.ag h.gc.Oa).gX (nth h.ag h.gc.Oa).N8 (nth h.ag h.gc.Oa).N4)):Option (Int×List gP))=some (if mH h now then h.gc.Oa else -1,mj h now):=by
    unfold mj;cases mH h now<;>rfl
  rw [hsw];simp only [Ok,e0];cases h.gc.Oa==9<;>rfl
theorem CB (t:g5):g5.mk t.ag (iW.mk t.gc.N2 t.gc.Oa t.gc.N3 t.gc.gQ)=t:=rfl
theorem Jz {N:Nat} (hN:gS≤N) {h:g5} (h1:iQ hX h.ag<gS) (h2:h.gc.gQ.length+20<gS) (now:Int):tz N h now=some (l6 h now):=by
  have h2':h.gc.gQ.length<gS:=by omega
  unfold tz l6;simp only [uT hN h1 h2',xa hN h1 h2',Ok];cases q:j9 h
  · rfl
  have ha:=mC q;simp only [On,Ol,if_true];cases hp:h.gc.N2==1
  · simp only [Ol,Bool.false_eq_true,if_false];unfold vv
    by_cases hg:h.gc.gQ.length=0
    · have:((h.gc.gQ.length:Int)==0)=true:=by simp [hg]
      rw [this,if_pos hg];rfl
    · have:((h.gc.gQ.length:Int)==0)=false:=beq_eq_false_iff_ne.2 (by omega);obtain ⟨g1,g2⟩:=DP hg h2';obtain ⟨l0,l9⟩:=vF q hg;obtain ⟨e1,e2⟩:=tV ha (iB h)
      have eg:idx h.gc.gQ ((h.gc.gQ.length - 1:Nat):Int)=some (iB h):=by
        rw [iT (l:=h.gc.gQ) (i:=((h.gc.gQ.length - 1:Nat):Int)) (by omega) (by omega)];unfold iB;rw [show ((h.gc.gQ.length:Int) - 1)=((h.gc.gQ.length - 1:Nat):Int) by omega]
      rw [this,if_neg hg,g1];simp only [Ol,eg,g2,(ha.at l0 l9).1,wg,Ok];rw [show (bif iB h != 0 then some (jg (nth h.ag (iB h)) now) else some false:Option Bool)=some ((iB h != 0)&&jg (nth h.ag (iB h)) now) from kp _ _];simp only [Ok];cases hc:((iB h != 0)&&jg (nth h.ag (iB h)) now)
      · simp only [Ol,Bool.false_eq_true,if_false];rw [Bw hN ha l0 l9];simp only [Ok]
        rw [show ((0:Int),h.ag.set (iB h).toNat (gP.mk (nth h.ag (iB h)).Oe (nth h.ag (iB h)).N0 (nth h.ag (iB h)).box (nth h.ag (iB h)).Od (nth h.ag (iB h)).iw (nth h.ag (iB h)).gE (nth h.ag (iB h)).N9 (nth h.ag (iB h)).iv (nth h.ag (iB h)).iu true (nth h.ag (iB h)).gX (nth h.ag (iB h)).N8 (nth h.ag (iB h)).N4),h.gc.N2,h.gc.Oa,h.gc.N3,h.gc.gQ.take (h.gc.gQ.length - 1)) =
          ((0:Int),ht (g5.mk (h.ag.set (iB h).toNat (marked (nth h.ag (iB h)) true)) (iW.mk h.gc.N2 h.gc.Oa h.gc.N3 (nn h)))) from rfl,
          BC hN (l:=h.ag) (now:=now) e1 e2 (h:=g5.mk (h.ag.set (iB h).toNat (marked (nth h.ag (iB h)) true)) (iW.mk h.gc.N2 h.gc.Oa h.gc.N3 (nn h))) (by simp [ha.len]) (G:=h.gc.gQ.length) (by unfold nn;simp) h2
            (fun j hj=>by
              simp only;rw [Bj l0 (by rw [ha.len];omega) hj];split
              · rename_i e;rw [← e];rfl
              · rfl)]
        · rfl
        · intro k t y hy hk t1 t2 t3 y0 y9;simp only [ht,iE hk,Om,ij,hy,Ok,(ha.at y0 y9).1,wg,CB,FI hN y0 (show y<(t.ag.length:Int) by rw [t1];omega) t2,iK (show k<gS by omega)];unfold lT;cases jg (nth h.ag y) now<;>rfl
        · intro t;simp only [ht,iF,Ol]
      · rfl
  · have hp1:h.gc.N2=1:=by simpa using hp
    simp only [Om,ET hN q hp1 h1,Ok,if_true]
theorem CJ {o:gP} (h:j2 o=true) (hk:(o.N0==0)=true):marked o false=o:=by
  unfold j2 at h;simp only [hk,Om,Oq,decide_eq_true_eq] at h;rw [h.2.2];rfl
theorem Ic {N:Nat} (hN:gS≤N) {h:g5} (q:j9 h=true) (h1:iQ hX h.ag<gS) (hw:wA h.ag) (h2:h.gc.gQ.length+20<gS) (now:Int):rV N h now=some (vv h now):=by
  have h2':h.gc.gQ.length<gS:=by omega
  have hB:h.gc.gQ.length<16777216:=h2';have ha:=mC q;unfold rV vv
  by_cases hg:h.gc.gQ.length=0
  · have:decide (i64.wrap ((h.gc.gQ.length:Int) - 1)<0)=true:=by rw [hg];decide
    rw [this,if_pos hg];rfl
  · obtain ⟨g1,g2⟩:=DP hg h2';obtain ⟨l0,l9⟩:=vF q hg;obtain ⟨e1,e2⟩:=tV ha (iB h)
    have eg:idx h.gc.gQ ((h.gc.gQ.length - 1:Nat):Int)=some (iB h):=by
      rw [iT (l:=h.gc.gQ) (i:=((h.gc.gQ.length - 1:Nat):Int)) (by omega) (by omega)];unfold iB;rw [show ((h.gc.gQ.length:Int) - 1)=((h.gc.gQ.length - 1:Nat):Int) by omega]
    have hd:decide (((h.gc.gQ.length - 1:Nat):Int)<0)=false:=by simp
    have hgt:decide (iB h > 0)=(iB h != 0):=by
      rw [Bool.eq_iff_iff];simp;omega
    rw [g1,hd,if_neg hg];simp only [Ol,eg,g2,(ha.at l0 l9).1,uh,Ok,hgt];rw [show (bif iB h != 0 then some (jg (nth h.ag (iB h)) now) else some false:Option Bool)=some ((iB h != 0)&&jg (nth h.ag (iB h)) now) from kp _ _];simp only [Ok];cases hc:((iB h != 0)&&jg (nth h.ag (iB h)) now)
    · simp only [Ol,Bool.false_eq_true,if_false];rw [FM hN h1 hw ha l0 l9];simp only [Ok]
      rw [show ((0:Int),h.ag.set (iB h).toNat (gP.mk (nth h.ag (iB h)).Oe (nth h.ag (iB h)).N0 (nth h.ag (iB h)).box (nth h.ag (iB h)).Od (nth h.ag (iB h)).iw (nth h.ag (iB h)).gE (nth h.ag (iB h)).N9 (nth h.ag (iB h)).iv (nth h.ag (iB h)).iu true (nth h.ag (iB h)).gX (nth h.ag (iB h)).N8 (nth h.ag (iB h)).N4),h.gc.N2,h.gc.Oa,h.gc.N3,h.gc.gQ.take (h.gc.gQ.length - 1)) =
        ((0:Int),ht (g5.mk (h.ag.set (iB h).toNat (marked (nth h.ag (iB h)) true)) (iW.mk h.gc.N2 h.gc.Oa h.gc.N3 (nn h)))) from rfl,
        BC hN (l:=h.ag) (now:=now) e1 e2 (h:=g5.mk (h.ag.set (iB h).toNat (marked (nth h.ag (iB h)) true)) (iW.mk h.gc.N2 h.gc.Oa h.gc.N3 (nn h))) (by simp [ha.len]) (G:=h.gc.gQ.length) (by unfold nn;simp) h2
          (fun j hj=>by
            simp only;rw [Bj l0 (by rw [ha.len];omega) hj];split
            · rename_i e;rw [← e];rfl
            · rfl)]
      · rfl
      · intro k t y hy hk t1 t2 t3 y0 y9;simp only [ht,iE hk,Om,ij,hy,Ok,iT (l:=t.ag) y0 (show y<(t.ag.length:Int) by rw [t1];omega),uh,t3 y y0,CB,Au hN y0 (show y<(t.ag.length:Int) by rw [t1];omega) t2,iK (show k<gS by omega)];unfold lT;cases jg (nth h.ag y) now<;>rfl
      · intro t;simp only [ht,iF,Ol]
    · rfl
theorem I6 {N:Nat} (hN:gS≤N) {h:g5} (h1:iQ hX h.ag<gS) (hw:wA h.ag) (h2:h.gc.gQ.length+20<gS) (now:Int):tr N h now=some (l6 h now):=by
  have h2':h.gc.gQ.length<gS:=by omega
  unfold tr l6;simp only [wq hN h1 h2',xt hN h1 h2' hw,Ok];cases q:j9 h
  · rfl
  have ha:=mC q;simp only [On,Ol,if_true]
  rcases vC q with hp | ⟨hp,hr⟩
  · rw [hp];simp only [beq_self_eq_true,Om,Ic hN q h1 hw h2,Ok];rfl
  · obtain ⟨e1,e2⟩:=Kl hr.1 hr.2;have hsl:=xZ h now;have e0:idx (mj h now) 0=some (nth (mj h now) 0):=iT (by omega) (by rw [hsl,ha.len];decide)
    have hgt:decide (h.gc.Oa > 0)=(h.gc.Oa != 0):=by rw [Bool.eq_iff_iff];simp;omega
    rw [show (h.gc.N2==0)=false by rw [hp];rfl,show (h.gc.N2==1)=true by rw [hp];rfl];unfold px;simp only [Ol,(ha.at hr.1 hr.2).1,uh,EK hN h1 hw,Ok,hgt,e1,e2]
    rw [show (bif h.gc.Oa != 0 then (bif (nth h.ag h.gc.Oa).N0 != 0 then (bif !(nth h.ag h.gc.Oa).Ob then some true else some (jg (nth h.ag h.gc.Oa) now)) else some false) else some false:Option Bool)=some (mH h now) by
      unfold mH;rw [jR,kp,kp,Bool.or_comm]]
    simp only [Ok]
    have hsw:(bif mH h now then some (h.gc.Oa,(lW h.ag h.gc.Oa).1) else bif (nth h.ag h.gc.Oa).N0 != 0 then some (-1,h.ag.set h.gc.Oa.toNat (gP.mk (nth h.ag h.gc.Oa).Oe (nth h.ag h.gc.Oa).N0 (nth h.ag h.gc.Oa).box (nth h.ag h.gc.Oa).Od (nth h.ag h.gc.Oa).iw (nth h.ag h.gc.Oa).gE (nth h.ag h.gc.Oa).N9 (nth h.ag h.gc.Oa).iv (nth h.ag h.gc.Oa).iu false (nth h.ag h.gc.Oa).gX (nth h.ag h.gc.Oa).N8 (nth h.ag h.gc.Oa).N4)) else some (-1,h.ag):Option (Int×List gP))=some (if mH h now then h.gc.Oa else -1,mj h now):=by
      unfold mj;cases mH h now
      · cases hk:(nth h.ag h.gc.Oa).N0 != 0
        · have hk0:((nth h.ag h.gc.Oa).N0==0)=true:=by simpa [bne] using hk
          have hid:h.ag.set h.gc.Oa.toNat (marked (nth h.ag h.gc.Oa) false)=h.ag:=by
            rw [CJ (ha.ok _ (ha.at hr.1 hr.2).2) hk0];exact nh (oY hr.1 (by rw [ha.len];omega))
          simp [hid]
        · rfl
      · rfl
    rw [hsw];simp only [Ok,e0];cases h.gc.Oa==9<;>rfl
theorem Bv {α:Type} {f:α→Nat} {z:α}:∀ {l:List α} {k:Nat} {y:α},l[k]?=some y→f z=f y→iV f (l.set k z)=iV f l
  | x::l,0,y,h,e=>by simp at h;subst h;simp [iV,e]
  | x::l,k+1,y,h,e=>by
    simp only [List.set_cons_succ,iV];rw [Bv (l:=l) (k:=k) (y:=y) (by simpa using h) e]
theorem pI {l:List gP} {i:Int} {z:gP} (h0:0≤i) (h1:i<(l.length:Int)) (e:hX z=hX (nth l i)):iQ hX (l.set i.toNat z)=iQ hX l:=by
  unfold iQ;rw [Bv (oY h0 h1) e,List.length_set]
theorem xK {l:List gP} {now:Int}:∀ (e:List Int) (h:g5),(∀ y,y ∈ e→0≤y∧y≤9)→h.ag.length=10→wA h.ag →
    iQ hX (e.foldl (lT l now) h).ag=iQ hX h.ag∧wA (e.foldl (lT l now) h).ag∧(e.foldl (lT l now) h).gc.gQ.length≤h.gc.gQ.length+e.length
  | [],h,_,_,hw=>⟨rfl,hw,Nat.le_refl _⟩
  | y::e,h,he,hl,hw=>by
    obtain ⟨y0,y9⟩:=he y (by simp)
    have hy:y<(h.ag.length:Int):=by rw [hl];omega
    have key:iQ hX (lT l now h y).ag=iQ hX h.ag∧wA (lT l now h y).ag∧(lT l now h y).gc.gQ.length≤h.gc.gQ.length+1∧(lT l now h y).ag.length=10:=by
      unfold lT;split
      · exact ⟨rfl,hw,Nat.le_succ _,hl⟩
      · refine ⟨?_,?_,xc h y,by rw [y8,hl]⟩
        · unfold ou;split
          · exact pI y0 hy rfl
          · rfl
        · unfold ou;split
          · exact kr hw (show nB (marked (nth h.ag y) true) from hw (nth h.ag y) (kJ y0 hy))
          · exact hw
    obtain ⟨a1,a2,a3⟩:=xK e (lT l now h y) (fun z hz=>he z (by simp [hz])) key.2.2.2 key.2.1;simp only [List.foldl_cons,List.length_cons];exact ⟨a1.trans key.1,a2,by omega⟩
theorem Lt (i:Int) (o:gP):hX (yU i o)=hX o:=by
  unfold yU;split
  · rfl
  · unfold hX;simp
theorem ME {i:Int} {o:gP} (h:nB o):nB (yU i o):=by
  unfold yU;split
  · exact h
  · exact h
theorem Kw (g:Int):nB (blank g):=by show (-9223372036854775808:Int)≤0;decide
theorem Gy {l:List gP} (hw:wA l) (i:Int):iQ hX (lW l i).1≤iQ hX l∧wA (lW l i).1:=by
  unfold lW;split
  · refine ⟨?_,fun o ho=>?_⟩
    · show iQ hX ((l.set i.toNat (blank (nth l i).Oe)).map (yU i))≤_
      rw [FV (Lt i)];exact w6
    · obtain ⟨y,hy,rfl⟩:=List.mem_map.1 ho;exact ME (kr hw (Kw _) y hy)
  · exact ⟨Nat.le_refl _,hw⟩
theorem xn {h:g5} (hw:wA h.ag) (now:Int):iQ hX (l6 h now).1.ag≤iQ hX h.ag∧wA (l6 h now).1.ag∧(l6 h now).1.gc.gQ.length≤h.gc.gQ.length+10 ∧
    (decide ((l6 h now).2 ≥ 0)=true→Ar h.ag∧0≤(l6 h now).2∧(l6 h now).2≤9):=by
  unfold l6;split
  · rename_i q;have ha:=mC q;have hl:=ha.len;split
    · rename_i hp
      have hp:h.gc.N2=1:=by simpa using hp
      have hr:0≤h.gc.Oa∧h.gc.Oa≤9:=by
        rcases vC q with e | e
        · rw [hp] at e;cases e
        · exact e.2
      have hs:iQ hX (mj h now)≤iQ hX h.ag∧wA (mj h now):=by
        unfold mj;split
        · exact Gy hw _
        · exact ⟨Nat.le_of_eq (pI hr.1 (by rw [hl];omega) rfl),kr hw (show nB (marked (nth h.ag h.gc.Oa) false) from hw (nth h.ag h.gc.Oa) (ha.at hr.1 hr.2).2)⟩
      have hsl:=xZ h now
      have h0:(0:Int)<((mj h now).length:Int):=by rw [hsl,hl];decide
      refine ⟨?_,?_,?_,fun hd=>⟨ha,?_⟩⟩
      · unfold px Ee;simp only;split
        · show iQ hX ((mj h now).set (0:Int).toNat _)≤_
          rw [pI (z:=marked (nth (mj h now) 0) true) (Int.le_refl 0) h0 rfl];exact hs.1
        · exact hs.1
      · unfold px Ee;simp only;split
        · exact kr hs.2 (show nB (marked (nth (mj h now) 0) true) from hs.2 (nth (mj h now) 0) (kJ (Int.le_refl 0) h0))
        · exact hs.2
      · unfold px;simp only;split
        · simp
        · exact Nat.le_add_right _ _
      · unfold px at hd ⊢;simp only at hd ⊢;split
        · exact hr
        · rename_i hn;rw [if_neg hn] at hd;simp at hd
    · refine ⟨?_,?_,?_,fun hd=>by simp at hd⟩
      all_goals
        unfold vv
        simp only
        split
        · first | exact Nat.le_refl _ | exact hw | exact Nat.le_add_right _ _
        · rename_i hg
          split
          · first | exact Nat.le_refl _ | exact hw | (unfold nn;simp;omega)
          · obtain ⟨l0,l9⟩:=vF q hg
            obtain ⟨e1,e2⟩:=tV ha (iB h)
            obtain ⟨a1,a2,a3⟩:=xK (l:=h.ag) (now:=now) (lF h.ag (iB h)) (g5.mk (h.ag.set (iB h).toNat (marked (nth h.ag (iB h)) true)) (iW.mk h.gc.N2 h.gc.Oa h.gc.N3 (nn h))) e1 (by simp [hl]) (kr hw (show nB (marked (nth h.ag (iB h)) true) from hw (nth h.ag (iB h)) (ha.at l0 l9).2))
            first
              | exact Nat.le_of_eq (a1.trans (pI l0 (by rw [hl];omega) rfl))
              | exact a2
              | (refine Nat.le_trans a3 ?_
                 unfold nn
                 simp
                 omega)
  · exact ⟨Nat.le_refl _,hw,Nat.le_add_right _ _,fun hd=>by simp at hd⟩
structure yf where
  n:Int
  N1:List g7
  py:g5
def rG (now:Int) (c:yf):yf :=
  if decide ((l6 c.py now).2 ≥ 0) then ⟨i64.wrap (c.n+1),(pG c.N1 (nth c.py.ag (l6 c.py now).2).Od ⟨(nth c.py.ag (l6 c.py now).2).gE,0,0⟩).1,(l6 c.py now).1⟩
  else ⟨c.n,c.N1,(l6 c.py now).1⟩
def x7 (now:Int):Nat→yf→yf
  | 0,c=>c
  | k+1,c=>x7 now k (rG now c)
def ky (p:cd) (now steps:Int):cd×Int :=
  if jd p&&ia steps 0 100 then
    (cd.mk p.NZ p.own (x7 now steps.toNat ⟨0,p.N1,p.py⟩).N1 (x7 now steps.toNat ⟨0,p.N1,p.py⟩).py p.gR p.N6 p.N7 p.bh p.gW p.N5,(x7 now steps.toNat ⟨0,p.N1,p.py⟩).n)
  else (p,0)
def ct (k:Nat) (c:yf):Int×Int×List g7×List gP×Int×Int×Int×List Int:=(c.n,(k:Int),c.N1,c.py.ag,c.py.gc.N2,c.py.gc.Oa,c.py.gc.N3,c.py.gc.gQ)
structure Dd (S T G:Nat) (k:Nat) (c:yf):Prop where
  sz:iQ hX c.py.ag≤S
  tl:c.N1.length=T
  gl:c.py.gc.gQ.length≤G+10 * k
  w:wA c.py.ag
theorem Ae {S T G k:Nat} {c:yf} (h:Dd S T G k c) (now:Int):Dd S T G (k+1) (rG now c):=by
  obtain ⟨s1,s2,s3,_⟩:=xn h.w now;have a1:=h.sz;have a2:=h.tl;have a3:=h.gl;unfold rG;split
  · exact ⟨by simp only;omega,by simp only;rw [vo,a2],by simp only;omega,s2⟩
  · exact ⟨by simp only;omega,a2,by simp only;omega,s2⟩
theorem FG {S T G:Nat} {now:Int}:∀ (j k:Nat) (c:yf),Dd S T G k c→Dd S T G (k+j) (x7 now j c)
  | 0,k,c,h=>h
  | j+1,k,c,h=>by
    have:=FG (now:=now) j (k+1) (rG now c) (Ae h now)
    rwa [show k+1+j=k+(j+1) by omega] at this
theorem FC {N:Nat} (hN:gS≤N) {now steps:Int} (h0:0≤steps) (h1:steps≤100) {S T G:Nat} {c:yf} (hc:Dd S T G 0 c)
    {body:Int×Int×List g7×List gP×Int×Int×Int×List Int→Option ((Int×Int×List g7×List gP×Int×Int×Int×List Int)⊕(Int×Int×List g7×List gP×Int×Int×Int×List Int))}
    (hs:∀ (k:Nat) (c:yf),k<100→(k:Int)<steps→Dd S T G k c→body (ct k c)=some (.inl (ct (k+1) (rG now c)))) (he:∀ c,body (ct steps.toNat c)=some (.inr (ct steps.toNat c))) :
    iter body N (ct 0 c)=some (ct steps.toNat (x7 now steps.toNat c)):=by
  have e:∀ (j i:Nat) (c:yf),foldI (fun _ c (_:Unit)=>rG now c) i c (List.replicate j ())=x7 now j c:=by
    intro j
    induction j with
    | zero=>intro i c;rfl
    | succ j ih=>intro i c;rw [List.replicate_succ];unfold foldI x7;exact ih _ _
  rw [jM (List.replicate steps.toNat ()) ct (fun _ c _=>rG now c) (fun c=>ct steps.toNat c) (fun k c=>Dd S T G k c) ?_ ?_ (by have:16777216≤N:=hN;simp;omega) hc,e]
  · intro k c y hy hk hI
    have hk:k<steps.toNat:=by simpa using hk
    exact ⟨hs k c (by omega) (by omega) hI,Ae hI now⟩
  · intro c _;rw [show (List.replicate steps.toNat ()).length=steps.toNat by simp];exact he c
theorem Cl {N:Nat} (hN:gS≤N) {p:cd} (hb:ic p≤3000000) (hw:wP p) (now steps:Int):nS N p now steps=some (ky p now steps):=by
  have hB:(16777216:Nat)=gS:=rfl
  have hb':ic p<gS:=by omega
  have hz:iQ hX p.py.ag≤3000000∧p.py.gc.gQ.length≤3000000∧p.N1.length≤3000000:=by unfold ic oD vD at hb;omega
  unfold nS ky;simp only [pC hN hb',sK hN hb',lv,Ok,jR];cases jd p
  · rfl
  cases hst:ia steps 0 100
  · rfl
  have hr:=iR.1 hst;simp only [On,Bool.or_self,Ol,Bool.and_self,if_true]
  rw [show ((0:Int),(0:Int),p.N1,p.py.ag,p.py.gc.N2,p.py.gc.Oa,p.py.gc.N3,p.py.gc.gQ)=ct 0 ⟨0,p.N1,p.py⟩ from rfl,
    FC hN (now:=now) hr.1 hr.2 (S:=3000000) (T:=p.N1.length) (G:=3000000) (c:=⟨0,p.N1,p.py⟩) ⟨hz.1,rfl,by simp only;omega,hw⟩]
  · rfl
  · intro k c hk hks hI;have g1:iQ hX c.py.ag<gS:=Nat.lt_of_le_of_lt hI.sz (by decide)
    have g2:c.py.gc.gQ.length+20<gS:=by have:=hI.gl;omega
    have g3:c.N1.length<gS:=by rw [hI.tl];omega
    have hd:decide ((k:Int)<steps)=true:=by simpa using hks
    obtain ⟨_,_,_,s4⟩:=xn hI.w now
    show (bif decide ((k:Int)<steps) then _ else _)=_
    rw [hd];simp only [ct,Om,CB,Jz hN g1 g2,Ok,iK (show k<gS by omega)];unfold rG;cases hv:decide ((l6 c.py now).2 ≥ 0)
    · rfl
    · obtain ⟨har,v0,v9⟩:=s4 hv;simp only [Om,(har.at v0 v9).1,xh,w9 hN g3,Ok,if_true];rfl
  · intro c
    have hd:decide (((steps.toNat:Nat):Int)<steps)=false:=by simp;omega
    show (bif decide (((steps.toNat:Nat):Int)<steps) then _ else _)=_
    rw [hd];simp only [ct,Ol]
theorem Cw {N:Nat} (hN:gS≤N) {p:cd} (hb:ic p≤3000000) (hw:wP p) (now steps:Int):nW N p now steps=some (ky p now steps):=by
  have hB:(16777216:Nat)=gS:=rfl
  have hb':ic p<gS:=by omega
  have hz:iQ hX p.py.ag≤3000000∧p.py.gc.gQ.length≤3000000∧p.N1.length≤3000000:=by unfold ic oD vD at hb;omega
  unfold nW ky;simp only [qz hN hb',sF hN hb' hw,k5,Ok,jR];cases jd p
  · rfl
  cases hst:ia steps 0 100
  · rfl
  have hr:=iR.1 hst;simp only [On,Bool.or_self,Ol,Bool.and_self,if_true]
  rw [show ((0:Int),(0:Int),p.N1,p.py.ag,p.py.gc.N2,p.py.gc.Oa,p.py.gc.N3,p.py.gc.gQ)=ct 0 ⟨0,p.N1,p.py⟩ from rfl,
    FC hN (now:=now) hr.1 hr.2 (S:=3000000) (T:=p.N1.length) (G:=3000000) (c:=⟨0,p.N1,p.py⟩) ⟨hz.1,rfl,by simp only;omega,hw⟩]
  · rfl
  · intro k c hk hks hI;have g1:iQ hX c.py.ag<gS:=Nat.lt_of_le_of_lt hI.sz (by decide)
    have g2:c.py.gc.gQ.length+20<gS:=by have:=hI.gl;omega
    have g3:c.N1.length<gS:=by rw [hI.tl];omega
    have hd:decide ((k:Int)<steps)=true:=by simpa using hks
    obtain ⟨_,_,_,s4⟩:=xn hI.w now
    show (bif decide ((k:Int)<steps) then _ else _)=_
    rw [hd];simp only [ct,Om,CB,I6 hN g1 hI.w g2,Ok,iK (show k<gS by omega)];unfold rG;cases hv:decide ((l6 c.py now).2 ≥ 0)
    · rfl
    · obtain ⟨har,v0,v9⟩:=s4 hv;simp only [Om,(har.at v0 v9).1,xg hN g3,Ok,if_true]
  · intro c
    have hd:decide (((steps.toNat:Nat):Int)<steps)=false:=by simp;omega
    show (bif decide (((steps.toNat:Nat):Int)<steps) then _ else _)=_
    rw [hd];simp only [ct,Ol]
theorem F9 {p:cd} (hb:ic p≤3000000) (hw:wP p) (now steps:Int):ic (ky p now steps).1≤ic p+1000∧wP (ky p now steps).1:=by
  unfold ky;split
  · rename_i h;rw [Oq,iR] at h;have hI:=FG (now:=now) steps.toNat 0 ⟨0,p.N1,p.py⟩ (S:=iQ hX p.py.ag) (T:=p.N1.length) (G:=p.py.gc.gQ.length) ⟨Nat.le_refl _,rfl,Nat.le_refl _,hw⟩;have a1:=hI.sz;have a2:=hI.tl;have a3:=hI.gl;refine ⟨?_,hI.w⟩;unfold ic oD vD at hb ⊢;simp only;omega
  · exact ⟨Nat.le_add_right _ _,hw⟩
end Go.Kx
