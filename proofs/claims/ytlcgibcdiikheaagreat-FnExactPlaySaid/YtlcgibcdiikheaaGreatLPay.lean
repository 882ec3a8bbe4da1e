import Derived.Test.YtlcgibcdiikheaaGreatLReach
namespace Go.Kx
open Go
open Go.IntKind (i64)
set_option linter.unusedVariables false
set_option linter.unusedSimpArgs false
set_option maxRecDepth 10000
def lz (w n:Int):hO:=if w==0 then ⟨n,0,0⟩ else if w==1 then ⟨0,n,0⟩ else if w==2 then ⟨0,0,n⟩ else ⟨0,0,0⟩
theorem xW (N:Nat) (w n:Int):nf N w n=some (lz w n):=by
  unfold nf lz;cases w==0<;>cases w==1<;>cases w==2<;>rfl
theorem Di (N:Nat) (w n:Int):r6 N w n=some (lz w n):=by
  unfold r6 lz;cases w==0<;>cases w==1<;>cases w==2<;>rfl
def np (a b:hO):Bool:=iN a&&(iN b&&(decide (a.gE≤b.gE)&&(decide (a.gX≤b.gX)&&decide (a.g8≤b.g8))))
theorem Jl (N:Nat) (a b:hO):sw N a b=some (np a b):=by
  unfold sw np;simp only [qz,PB,kI]
theorem Jz (N:Nat) (a b:hO):sS N a b=some (np a b):=by
  unfold sS np;simp only [qt,PB,kI]
def EP (a b:hO):hO:=⟨i64.wrap (a.gE - b.gE),i64.wrap (a.gX - b.gX),i64.wrap (a.g8 - b.g8)⟩
def xD (a b:hO):hO×Bool:=if np b a then (EP a b,true) else (a,false)
theorem Ku (N:Nat) (a b:hO):ue N a b=some (xD a b):=by
  unfold ue xD;rw [Jl,PB];cases np b a<;>rfl
theorem Ks (N:Nat) (a b:hO):tT N a b=some (xD a b):=by
  unfold tT xD;rw [Jz,PB];cases np b a<;>rfl
def BO (r:g6) (b:hO):g6:=g6.mk r.Px r.Pv b
theorem o9 {α:Type} [hD α] {l:List α} {i:Int} (h0:0≤i) (h1:i<(l.length:Int)):l[i.toNat]?=some (nth l i):=by
  have:=i9 (l:=l) h0 h1;unfold idx at this
  rwa [if_pos h0] at this
def jo (t:List g6) (f:Int) (a:hO):List g6×Bool :=
  if jG t&&jd t f then (if np a (nth t f).iH then (t.set f.toNat (BO (nth t f) (EP (nth t f).iH a)),true) else (t,false)) else (t,false)
theorem uV {N:Nat} (hN:gT≤N) {t:List g6} (hB:t.length<gT) (f:Int) (a:hO):mB N t f a=some (jo t f a):=by
  unfold mB jo;simp only [oo hB,qQ hN,PB];cases ht:jG t
  · rfl
  have hl:=ph ht;simp only [PE,PC,rj N hl,PB];cases hv:jd t f
  · rfl
  obtain ⟨f0,f4⟩:=ll hv;simp only [PE,PC,i9 (l:=t) f0 (by omega),Ku,PB,Bool.and_self,if_true];unfold xD;cases np a (nth t f).iH
  · have:t.set f.toNat (g6.mk (nth t f).Px (nth t f).Pv (hO.mk (nth t f).iH.gE (nth t f).iH.gX (nth t f).iH.g8))=t:=nv (o9 f0 (by omega));simp only [Bool.false_eq_true,if_false];rw [this]
  · rfl
theorem tw {N:Nat} (hN:gT≤N) {t:List g6} (hB:t.length<gT) (f:Int) (a:hO):lR N t f a=some (jo t f a):=by
  unfold lR jo;simp only [oI hB,s7 hN,PB];cases h:(jG t&&jd t f)
  · rfl
  rw [PG] at h;have hl:=ph h.1;obtain ⟨f0,f4⟩:=ll h.2;simp only [PE,PC,i9 (l:=t) f0 (by omega),Ks,PB,if_true];unfold xD;cases np a (nth t f).iH<;>rfl
theorem lj (t:List g6) (f:Int) (a:hO):(jo t f a).1.length=t.length:=by
  unfold jo;split
  · split<;>simp
  · rfl
def xT (last pick:Int):Int→Int→List Int→Int
  | least,next,[]=>if decide (next ≥ 0) then next else least
  | least,next,y::l=>if decide (y<0) then xT last pick least next l else if y==pick then y else
      xT last pick (if decide (least<0) || decide (y<least) then y else least) (if decide (y > last)&&(decide (next<0) || decide (y<next)) then y else next) l
def rS (l:List Int) (last pick:Int):Int:=xT last pick (-1) (-1) l
theorem An {last pick:Int} {P:Int→Prop}:∀ (l:List Int) (a b:Int),P a→P b→(∀ y,y ∈ l→P y)→P (xT last pick a b l)
  | [],a,b,ha,hb,_=>by unfold xT;split<;>assumption
  | y::l,a,b,ha,hb,h=>by
    have hy:=h y (by simp);have hl:∀ z,z ∈ l→P z:=fun z hz=>h z (by simp [hz]);unfold xT;split
    · exact An l a b ha hb hl
    · split
      · exact hy
      · refine An l _ _ ?_ ?_ hl
        · split<;>assumption
        · split<;>assumption
theorem Gb (l:List Int) (last pick:Int) (h:decide (rS l last pick<0)=false):rS l last pick ∈ l:=by
  have:=An (last:=last) (pick:=pick) (P:=fun y=>y=-1∨y ∈ l) l (-1) (-1) (.inl rfl) (.inl rfl) fun y hy=>.inr hy
  rcases this with q | q
  · unfold rS at h;rw [q] at h;simp at h
  · exact q
theorem Js {N:Nat} (hN:gT≤N) {l:List Int} (hl:l.length<gT) (last pick:Int) {body:Int×Int×Int→Option ((Int×Int×Int)⊕((Int×Int×Int)⊕Int))}
    (hs:∀ (k:Nat) (a b y:Int),l[k]?=some y→k<l.length→body (a,b,(k:Int))=some (if decide (y<0) then .inl (a,b,((k+1:Nat):Int)) else if y==pick then .inr (.inr y) else
      .inl (if decide (a<0) || decide (y<a) then y else a,if decide (y > last)&&(decide (b<0) || decide (y<b)) then y else b,((k+1:Nat):Int)))) (he:∀ a b,body (a,b,(l.length:Int))=some (.inr (.inl (a,b,(l.length:Int))))) :
    (iter body N (-1, -1,0)).bind (fun o29=>Sum.elim (fun o29=>bif (decide (o29.2.1 ≥ 0)) then (some o29.2.1) else (some o29.1)) (fun r33=>some r33) o29)=some (rS l last pick):=by
  rw [show ((-1:Int),(-1:Int),(0:Int))=(fun (k:Nat) (t:Int×Int)=>(t.1,t.2,(k:Int))) 0 (-1, -1) from rfl,
    lK l (fun (k:Nat) (t:Int×Int)=>(t.1,t.2,(k:Int))) (fun _ t y=>if decide (y<0) then .inl t else if y==pick then .inr (.inr y) else .inl (if decide (t.1<0) || decide (y<t.1) then y else t.1,if decide (y > last)&&(decide (t.2<0) || decide (y<t.2)) then y else t.2)) (fun t=>.inl (t.1,t.2,(l.length:Int))) (fun _ _=>True) ?_ ?_ (Nat.lt_of_lt_of_le hl hN) trivial]
  · simp only [PB]
    have key:∀ (m:List Int) (k:Nat) (t:Int×Int),Sum.elim (fun (o29:Int×Int×Int)=>bif (decide (o29.2.1 ≥ 0)) then (some o29.2.1) else (some o29.1)) (fun r33=>some r33) (lg (ρ:=(Int×Int×Int)⊕Int) (fun _ t y=>if decide (y<0) then .inl t else if y==pick then .inr (.inr y) else .inl (if decide (t.1<0) || decide (y<t.1) then y else t.1,if decide (y > last)&&(decide (t.2<0) || decide (y<t.2)) then y else t.2)) (fun t=>.inl (t.1,t.2,(l.length:Int))) k t m)=some (xT last pick t.1 t.2 m):=by
      intro m
      induction m with
      | nil =>
        intro k t;unfold lg xT;simp only [Sum.elim_inl];cases decide (t.2 ≥ 0)<;>rfl
      | cons y m ih =>
        intro k t;unfold lg xT;cases decide (y<0)
        · cases y==pick
          · exact ih (k+1) _
          · rfl
        · exact ih (k+1) t
    exact key l 0 (-1, -1)
  · intro k t y hy hk _;refine ⟨?_,fun _ _=>trivial⟩;rw [hs k t.1 t.2 y hy hk];cases decide (y<0)
    · cases y==pick<;>rfl
    · rfl
  · intro t _;exact he t.1 t.2
theorem Ix {N:Nat} (hN:gT≤N) {l:List Int} (hl:l.length<gT) (last pick:Int):sW N l last pick=some (rS l last pick):=by
  unfold sW;refine Js hN hl last pick ?_ ?_
  · intro k a b y hy hk;simp only [iF hk,PD,ik,hy,PB,iJ (Nat.lt_trans hk hl)];cases decide (y<0)<;>cases y==pick<;>cases decide (a<0)<;>cases decide (y<a)<;>cases decide (y > last)<;>cases decide (b<0)<;>cases decide (y<b)<;>rfl
  · intro a b;simp only [iG,PC]
theorem Jc {N:Nat} (hN:gT≤N) {l:List Int} (hl:l.length<gT) (last pick:Int):sX N l last pick=some (rS l last pick):=by
  unfold sX;refine Js hN hl last pick ?_ ?_
  · intro k a b y hy hk;simp only [iF hk,PD,ik,hy,PB,iJ (Nat.lt_trans hk hl)];cases h1:decide (y<0)
    · cases h2:y==pick
      · cases decide (a<0)<;>cases decide (y<a)<;>cases decide (y > last)<;>cases decide (b<0)<;>cases decide (y<b)<;>rfl
      · have:y=pick:=by simpa using h2
        rw [this];rfl
    · rfl
  · intro a b;simp only [iG,PC]
def GO (o:gP):gP:=gP.mk o.Pw o.Pf o.box o.Pu o.iz o.gE o.Pq o.iy (i64.wrap (o.im+1)) o.Ps o.gZ o.Po o.Pk
def lI (p:bh) (now:Int):Int:=rS (runnable p now) p.Pn (i64.wrap (p.Pp - 1))
def De (p:bh) (now:Int):Bool:=decide (lI p now<0) || (decide (p.cd.g8 ≥ 1000000) || decide ((nth p.py.ag (lI p now)).im ≥ 1000000))
def oY (p:bh) (now:Int):bh×Int :=
  if jk p then
    (if De p now then (bh.mk p.Pe p.own p.Pg p.py p.gR p.Pn 0 p.cd p.g5 p.Pm, -1) else
      (bh.mk p.Pe p.own (jo p.Pg (nN p (nth p.py.ag (lI p now)).Pu) ⟨0,0,1⟩).1 (g7.mk (p.py.ag.set (lI p now).toNat (GO (nth p.py.ag (lI p now)))) p.py.gc) p.gR (lI p now) 0
        (hO.mk p.cd.gE p.cd.gX (i64.wrap (p.cd.g8+1))) p.g5 p.Pm,lI p now))
  else (p, -1)
theorem zl {p:bh} {now:Int} (h:decide (lI p now<0)=false):jk p=true∧0≤lI p now∧lI p now≤9:=by
  have:=Gb _ _ _ h;unfold runnable at this;exact mD (List.mem_filter.1 this).1
theorem Mu {o:gP} (h:kg o=true):0≤o.im∧o.im≤1000000:=by
  unfold kg at h;cases hk:o.Pf==0
  · simp only [hk,PC,PG] at h;have h:=h.2.2.2.2.2.2.2;cases h4:o.Pf != 4
    · rw [h4] at h;simp only [PC,PG] at h;exact iW.1 h.2.2
    · rw [h4] at h;simp only [PD,PG,beq_iff_eq] at h;omega
  · simp only [hk,PD,PG,decide_eq_true_eq] at h;rw [h.2.2];exact ⟨Int.le_refl _,by show (0:Int)≤1000000;decide⟩
theorem Jj {n:Int} (h:n≤1000000):(n==1000000)=decide (n ≥ 1000000):=by
  rw [Bool.eq_iff_iff];simp;omega
theorem IE {a:hO} (h:iN a=true):(0≤a.gE∧a.gE≤1000000)∧(0≤a.gX∧a.gX≤1000000)∧(0≤a.g8∧a.g8≤1000000):=by
  unfold iN xA at h;simpa only [PG,iW] using h
theorem DH {p:bh} (h:jk p=true):iN p.cd=true:=by
  unfold jk AA at h;simp only [PG] at h;exact h.2.2.2.2.2.2.2.2.1
theorem Jb {N:Nat} (hN:gT≤N) {p:bh} (hb:ic p<gT) (now:Int):sC N p now=some (oY p now):=by
  have hr:(runnable p now).length<gT:=Nat.lt_of_le_of_lt (zh p now) (by decide);unfold sC oY;simp only [pM hN hb,ti hN hb,Hi hN hb,Ix hN hr,PB];cases hp:jk p
  · rfl
  simp only [PE,PC,if_true];rw [show rS (runnable p now) p.Pn (i64.wrap (p.Pp - 1))=lI p now from rfl];unfold De;have hsp:=IE (DH hp);cases hn:decide (lI p now<0)
  · obtain ⟨_,n0,n9⟩:=zl hn;obtain ⟨e1,e2⟩:=(jQ hp).at n0 n9;have hran:=Mu ((jQ hp).ok _ e2);simp only [PC,e1,PB,Jj hsp.2.2.2,Jj hran.2,xW,BJ hN,uV hN (jY hb).2.2.1,tq,Bool.false_or];cases decide (p.cd.g8 ≥ 1000000)
    · cases decide ((nth p.py.ag (lI p now)).im ≥ 1000000)
      · have ea:iS p.cd (lz 2 1)=hO.mk p.cd.gE p.cd.gX (i64.wrap (p.cd.g8+1)):=by
          show hO.mk (i64.wrap (p.cd.gE+0)) (i64.wrap (p.cd.gX+0)) (i64.wrap (p.cd.g8+1))=_
          rw [jg (n:=p.cd.gE+0) (by omega) (by omega),jg (n:=p.cd.gX+0) (by omega) (by omega),Int.add_zero,Int.add_zero]
        rw [ea];rfl
      · rfl
    · rfl
  · rfl
theorem JU {N:Nat} (hN:gT≤N) {p:bh} (hb:ic p<gT) (hw:wP p) (now:Int):sK N p now=some (oY p now):=by
  have hr:(runnable p now).length<gT:=Nat.lt_of_le_of_lt (zh p now) (by decide);unfold sK oY;simp only [rL hN hb,te hN hb hw,HI hN hb hw,Jc hN hr,PB];cases hp:jk p
  · rfl
  simp only [PE,PC,if_true];rw [show rS (runnable p now) p.Pn (i64.wrap (p.Pp - 1))=lI p now from rfl];unfold De;cases hn:decide (lI p now<0)
  · obtain ⟨_,n0,n9⟩:=zl hn;obtain ⟨e1,e2⟩:=(jQ hp).at n0 n9;simp only [PC,e1,PB,xC hN,tw hN (jY hb).2.2.1,Bool.false_or];cases decide (p.cd.g8 ≥ 1000000)
    · cases decide ((nth p.py.ag (lI p now)).im ≥ 1000000)<;>rfl
    · rfl
  · rfl
theorem MU (p:bh) (now:Int):ic (oY p now).1≤ic p+100:=by
  unfold oY;split
  · rename_i hp;split
    · exact Nat.le_add_right _ _
    · rename_i hn;unfold De at hn;simp only [Bool.or_eq_true,not_or,Bool.not_eq_true] at hn;obtain ⟨_,n0,n9⟩:=zl hn.1;have h1:=yo ((jQ hp).ok _ ((jQ hp).at n0 n9).2);have h2:iQ hY (p.py.ag.set (lI p now).toNat (GO (nth p.py.ag (lI p now))))≤iQ hY p.py.ag+12:=Nat.le_trans xx (Nat.add_le_add_left h1 _);have h3:=lj p.Pg (nN p (nth p.py.ag (lI p now)).Pu) ⟨0,0,1⟩;unfold ic k5;simp only [h3];omega
  · exact Nat.le_add_right _ _
end Go.Kx
namespace Go.Kx
open Go
open Go.IntKind (i64)
set_option linter.unusedVariables false
set_option linter.unusedSimpArgs false
set_option maxRecDepth 10000
def xU (i:Int) (x:Int):Int:=if x==i then -1 else x
def zX (i:Int) (o:gP):gP:=if o.Pf==0 then o else gP.mk o.Pw o.Pf (if o.box==i then -1 else o.box) o.Pu o.iz o.gE o.Pq o.iy o.im o.Ps (o.gZ.map (xU i)) o.Po o.Pk
def mc (l:List gP) (i:Int):List gP×Bool:=if jX l&&(ig i 1 9&&((nth l i).Pf != 0)) then ((l.set i.toNat (blank (nth l i).Pw)).map (zX i),true) else (l,false)
theorem DW {l:List gP} (h:Ar l) {i g:Int} {k:Nat} {y:gP} (hy:(l.set i.toNat (blank g))[k]?=some y) (hk:(y.Pf==0)=false):kg y=true:=by
  rcases List.mem_or_eq_of_mem_set (List.mem_of_getElem? hy) with q | q
  · exact h.ok y q
  · rw [q] at hk;simp [blank] at hk
theorem xa {o:gP} (h:kg o=true) (hk:(o.Pf==0)=false):o.gZ.length=2:=by
  unfold kg at h;simp only [hk,PC,PG] at h;obtain ⟨_,_,_,_,_,_,hl,_⟩:=h;unfold tu at hl;simp only [PG,beq_iff_eq] at hl;omega
theorem Ff {N:Nat} (hN:gT≤N) {l:List gP} (hb:iQ hY l<gT) (i:Int):pT N l i=some (mc l i):=by
  unfold pT mc;simp only [uL hN hb,u7 hN hb,lQ,PB];cases ha:jX l
  · rfl
  have h:=kl.1 ha;cases hi:ig i 1 9
  · rfl
  have hr:=iW.1 hi;simp only [PE,PC,(h.at (i:=i) (by omega) hr.2).1,PB,bne,PF];cases hk:(nth l i).Pf==0
  · simp only [PC,Bool.not_false,if_true];rw [show gP.mk (nth l i).Pw 0 0 0 0 0 0 0 0 false [] [] []=blank (nth l i).Pw from rfl];have hlen:(l.set i.toNat (blank (nth l i).Pw)).length=l.length:=List.length_set;rw [td (l.set i.toNat (blank (nth l i).Pw)) (zX i) (by rw [hlen];exact Nat.lt_of_lt_of_le h.xh hN)]
    · rfl
    · intro k t y ht hty hy hkl
      have hk10:k<10:=by rw [hlen,h.len] at hkl;exact hkl
      have hd:decide ((k:Int)<(l.length:Int))=true:=by simp [h.len];omega
      have hkt:k<t.length:=je hty;simp only [hd,PD,ik,hty,PB,iJ (show k<gT from Nat.lt_trans hk10 (by decide))];unfold zX;cases hyk:y.Pf==0
      · have ho:=DW h hy hyk;have h2:=xa ho hyk
        have hLB:y.gZ.length<gT:=by rw [h2];decide
        have inner:iter (fun (s124:(List Int)×Int)=>(bif (decide (s124.2<(y.gZ.length:Int))) then ((idx s124.1 s124.2).bind fun y127=>bif (y127==i) then (some (.inl (s124.1.set (s124.2:Int).toNat (-1),i64.wrap (s124.2+1)))) else (some (.inl (s124.1,i64.wrap (s124.2+1))))) else (some (.inr (s124.1,s124.2))):Option (((List Int)×Int)⊕((List Int)×Int)))) N (y.gZ,0)=some (y.gZ.map (xU i),(y.gZ.length:Int)):=by
          rw [td y.gZ (xU i) (Nat.lt_of_lt_of_le hLB hN)]
          · intro j t2 z ht2 hz _ hj;simp only [iF hj,PD,ik,hz,PB,iJ (Nat.lt_trans hj hLB),Int.toNat_natCast];unfold xU;cases z==i
            · simp [nv hz]
            · rfl
          · intro t2 ht2;simp only [iG,PC]
        simp only [PC,Bool.false_eq_true,if_false];cases hbx:y.box==i
        · simp only [PC,PB,ik,hty,Bool.false_eq_true,if_false];rw [inner];rfl
        · simp only [PD,PB,Int.toNat_natCast,ik,List.getElem?_set_self hkt,if_true];rw [inner];simp only [PB,List.set_set]
      · simp only [PD,if_true];rw [nv hty]
    · intro t ht
      have hd:decide (((l.set i.toNat (blank (nth l i).Pw)).length:Int)<(l.length:Int))=false:=by rw [hlen];simp
      simp only [hd,PC]
  · rfl
theorem FJ {N:Nat} (hN:gT≤N) {l:List gP} (hb:iQ hY l<gT) (hw:wA l) (i:Int):pR N l i=some (mc l i):=by
  unfold pR mc;simp only [Ao hN hb,rF hN hb hw,lv,PB];cases ha:jX l
  · rfl
  have h:=kl.1 ha;cases hi:ig i 1 9
  · rfl
  have hr:=iW.1 hi;simp only [PE,PC,(h.at (i:=i) (by omega) hr.2).1,PB,bne,PF];cases hk:(nth l i).Pf==0
  · simp only [PC,Bool.not_false,if_true];rw [show gP.mk (nth l i).Pw 0 0 0 0 0 0 0 0 false [] [] []=blank (nth l i).Pw from rfl];have hlen:(l.set i.toNat (blank (nth l i).Pw)).length=l.length:=List.length_set;rw [td (l.set i.toNat (blank (nth l i).Pw)) (zX i) (by rw [hlen];exact Nat.lt_of_lt_of_le h.xh hN)]
    · rfl
    · intro k t y ht hty hy hkl
      have hk10:k<10:=by rw [hlen,h.len] at hkl;exact hkl
      have hkt:k<t.length:=je hty;simp only [iF hkt,PD,ik,hty,PB,iJ (show k<gT from Nat.lt_trans hk10 (by decide))];unfold zX;cases hyk:y.Pf==0
      · have ho:=DW h hy hyk;have h2:=xa ho hyk;simp only [PC,Bool.false_eq_true,if_false]
        have inner:∀ (t2:List gP) (z:gP),t2.length=t.length→t2[k]?=some z→z.gZ.length=2→iter (fun (s90:(List gP)×Int)=>(bif (decide (s90.2<2)) then ((idx s90.1 (k:Int)).bind fun y93=>(idx y93.gZ s90.2).bind fun y115=>bif (y115==i) then (some (.inl ((s90.1.set (k:Int).toNat (gP.mk y93.Pw y93.Pf y93.box y93.Pu y93.iz y93.gE y93.Pq y93.iy y93.im y93.Ps (y93.gZ.set (s90.2:Int).toNat (-1)) y93.Po y93.Pk)),i64.wrap (s90.2+1)))) else (some (.inl (s90.1,i64.wrap (s90.2+1))))) else (some (.inr (s90.1,s90.2))):Option (((List gP)×Int)⊕((List gP)×Int)))) N (t2,0) =
            some (t2.set k (gP.mk z.Pw z.Pf z.box z.Pu z.iz z.gE z.Pq z.iy z.im z.Ps (z.gZ.map (xU i)) z.Po z.Pk),2):=by
          intro t2 z hl2 hz hz2
          have hk2:k<t2.length:=by omega
          obtain ⟨a,b,hab⟩:∃ a b,z.gZ=[a,b]:=by
            match hq:z.gZ with
            | []=>simp [hq] at hz2
            | [a]=>simp [hq] at hz2
            | [a,b]=>exact ⟨a,b,rfl⟩
            | a::b::c::r=>simp [hq] at hz2
          obtain ⟨M,rfl⟩:∃ M,N=M+3:=⟨N - 3,by have:16777216≤N:=hN;omega⟩;have hset:∀ u:gP,(t2.set k u)[k]?=some u:=fun u=>List.getElem?_set_self hk2
          have hid:t2.set k (gP.mk z.Pw z.Pf z.box z.Pu z.iz z.gE z.Pq z.iy z.im z.Ps [a,b] z.Po z.Pk)=t2:=by rw [← hab];exact nv hz
          have w1:i64.wrap (0+1)=1:=by decide
          have w2:i64.wrap (1+1)=2:=by decide
          unfold iter;simp only [show decide ((0:Int)<2)=true from rfl,PD,ik,hz,PB,hab,show idx [a,b] 0=some a from rfl,w1,Int.toNat_natCast];cases hA:a==i
          · simp only [PC,PB];unfold iter;simp only [show decide ((1:Int)<2)=true from rfl,PD,ik,hz,PB,hab,show idx [a,b] 1=some b from rfl,w2,Int.toNat_natCast];cases hB:b==i
            · simp only [PC,PB];unfold iter;simp [xU,hA,hB,hid]
            · simp only [PD,PB];unfold iter;simp [xU,hA,hB]
          · simp only [PD,PB];unfold iter;simp only [show decide ((1:Int)<2)=true from rfl,PD,ik,hset,PB,w2,Int.toNat_natCast];rw [show idx ([a,b].set (0:Int).toNat (-1)) 1=some b from rfl];simp only [PB];cases hB:b==i
            · simp only [PC,PB];unfold iter;simp [xU,hA,hB]
            · simp only [PD,PB,List.set_set];unfold iter;simp [xU,hA,hB]
        simp only [ik,Int.toNat_natCast] at inner ⊢;cases hbx:y.box==i
        · simp only [PC,PB,Bool.false_eq_true,if_false];rw [inner t y rfl hty h2];rfl
        · simp only [PD,PB,Int.toNat_natCast,if_true];have e:=inner (t.set k (gP.mk y.Pw y.Pf (-1) y.Pu y.iz y.gE y.Pq y.iy y.im y.Ps y.gZ y.Po y.Pk)) (gP.mk y.Pw y.Pf (-1) y.Pu y.iz y.gE y.Pq y.iy y.im y.Ps y.gZ y.Po y.Pk) List.length_set (List.getElem?_set_self hkt) h2;rw [e];simp only [PB,List.set_set]
      · simp only [PD,if_true];rw [nv hty]
    · intro t ht;rw [← ht];simp only [iG,PC]
  · rfl
def pO (t:List g6) (f:Int) (a:hO):List g6×Bool :=
  if jG t&&(iN a&&iN (iS (mX t) a)) then
    (t.set (if jd t f then f else 0).toNat (BO (nth t (if jd t f then f else 0)) (iS (nth t (if jd t f then f else 0)).iH a)),true)
  else (t,false)
theorem wc (t:List g6) (f:Int) (a:hO):(pO t f a).1.length=t.length:=by
  unfold pO;split<;>simp
theorem yj {N:Nat} (hN:gT≤N) {t:List g6} (hB:t.length<gT) (f:Int) (a:hO):nK N t f a=some (pO t f a):=by
  unfold nK pO;simp only [oo hB,qQ hN,qz,Ck hN hB,tq,PB,j1];cases ht:jG t
  · rfl
  have hl:=ph ht;cases iN a
  · rfl
  cases iN (iS (mX t) a)
  · rfl
  simp only [PE,Bool.or_self,PC,rj N hl,PB,Bool.and_self,if_true];cases hv:jd t f
  · simp only [Bool.not_false,PD,PB,i9 (l:=t) (i:=0) (by omega) (by omega),Bool.false_eq_true,if_false];rfl
  · obtain ⟨f0,f4⟩:=ll hv;simp only [PE,PC,PB,i9 (l:=t) f0 (by omega),if_true];rfl
theorem LH {n:Int}:xA n=true ↔ 0≤n∧n≤1000000:=iW
theorem kR {a:hO}:iN a=true ↔ (0≤a.gE∧a.gE≤1000000)∧(0≤a.gX∧a.gX≤1000000)∧(0≤a.g8∧a.g8≤1000000):=by
  unfold iN;simp only [PG,LH]
theorem vC:∀ (t:List g6) (s:hO) (B:Int),(∀ r,r ∈ t→iN r.iH=true)→0≤B→B+1000000 * (t.length:Int)≤1000000000→(0≤s.gE∧s.gE≤B)→(0≤s.gX∧s.gX≤B)→(0≤s.g8∧s.g8≤B) →
    (s.gE≤(jq s t).gE∧s.gX≤(jq s t).gX∧s.g8≤(jq s t).g8) ∧
      ∀ r,r ∈ t→r.Px=true→r.iH.gE≤(jq s t).gE∧r.iH.gX≤(jq s t).gX∧r.iH.g8≤(jq s t).g8
  | [],s,B,_,_,_,_,_,_=>⟨⟨Int.le_refl _,Int.le_refl _,Int.le_refl _⟩,fun r hr=>by simp at hr⟩
  | r::t,s,B,h,hB,hL,h1,h2,h3=>by
    have hr:=kR.1 (h r (by simp));simp only [List.length_cons] at hL;have e:jq s (r::t)=jq (if r.Px then iS s r.iH else s) t:=rfl;rw [e];cases hv:r.Px
    · obtain ⟨q1,q2⟩:=vC t s B (fun x hx=>h x (by simp [hx])) hB (by omega) h1 h2 h3;refine ⟨q1,fun x hx hl=>?_⟩
      rcases List.mem_cons.1 hx with rfl | hx
      · rw [hv] at hl;cases hl
      · exact q2 x hx hl
    · simp only [if_true];have w1:(iS s r.iH).gE=s.gE+r.iH.gE:=jg (by omega) (by omega);have w2:(iS s r.iH).gX=s.gX+r.iH.gX:=jg (by omega) (by omega);have w3:(iS s r.iH).g8=s.g8+r.iH.g8:=jg (by omega) (by omega);obtain ⟨⟨a1,a2,a3⟩,q2⟩:=vC t (iS s r.iH) (B+1000000) (fun x hx=>h x (by simp [hx])) (by omega) (by omega) (by omega) (by omega) (by omega);refine ⟨⟨by omega,by omega,by omega⟩,fun x hx hl=>?_⟩
      rcases List.mem_cons.1 hx with rfl | hx
      · exact ⟨by omega,by omega,by omega⟩
      · exact q2 x hx hl
theorem Cy {t:List g6} (h:Tr t) {a:hO} (ha:iN a=true) (hs:iN (iS (jq ⟨0,0,0⟩ t) a)=true) {i:Int} (hi:0≤i∧i≤4) (hv:(nth t i).Px=true):kt (nth t i).iH a=(iS (nth t i).iH a,true):=by
  have hl:=h.len;have hm:nth t i ∈ t:=kZ hi.1 (by omega);obtain ⟨_,q⟩:=vC t ⟨0,0,0⟩ 0 h.iH (by omega) (by omega) ⟨by decide,by decide⟩ ⟨by decide,by decide⟩ ⟨by decide,by decide⟩;obtain ⟨q1,q2,q3⟩:=q _ hm hv;have hb:=kR.1 (h.iH _ hm);have ha':=kR.1 ha;have hS:=kR.1 h.sum;have w1:(iS (jq ⟨0,0,0⟩ t) a).gE=(jq ⟨0,0,0⟩ t).gE+a.gE:=jg (by omega) (by omega);have w2:(iS (jq ⟨0,0,0⟩ t) a).gX=(jq ⟨0,0,0⟩ t).gX+a.gX:=jg (by omega) (by omega);have w3:(iS (jq ⟨0,0,0⟩ t) a).g8=(jq ⟨0,0,0⟩ t).g8+a.g8:=jg (by omega) (by omega);have hs':=kR.1 hs;have v1:(iS (nth t i).iH a).gE=(nth t i).iH.gE+a.gE:=jg (by omega) (by omega);have v2:(iS (nth t i).iH a).gX=(nth t i).iH.gX+a.gX:=jg (by omega) (by omega);have v3:(iS (nth t i).iH a).g8=(nth t i).iH.g8+a.g8:=jg (by omega) (by omega);have:iN (iS (nth t i).iH a)=true:=kR.2 ⟨by omega,by omega,by omega⟩;unfold kt;rw [h.iH _ hm,ha,this];rfl
theorem ya {N:Nat} (hN:gT≤N) {t:List g6} (hB:t.length<gT) (f:Int) (a:hO):nD N t f a=some (pO t f a):=by
  unfold nD pO;simp only [oI hB,wk hN,BW hN hB,wo,s7 hN,PB];cases ht:jG t
  · rfl
  have hT:=rW.1 ht;have hl:=hT.len
  have e:(kt (jq ⟨0,0,0⟩ t) a).2=(iN a&&iN (iS (mX t) a)):=by
    unfold kt mX;rw [hT.sum,ht];simp only [if_true,PF];cases iN a&&iN (iS (jq ⟨0,0,0⟩ t) a)<;>rfl
  rw [e];simp only [PE,PC,PF];cases hc:(iN a&&iN (iS (mX t) a))
  · rfl
  rw [PG] at hc
  have hs:iN (iS (jq ⟨0,0,0⟩ t) a)=true:=by
    have:=hc.2;unfold mX at this
    rwa [ht,if_pos rfl] at this
  simp only [PE,PC,if_true];cases hv:jd t f
  · simp only [Bool.not_false,PD,PB,i9 (l:=t) (i:=0) (by omega) (by omega),Cy hT hc.1 hs (i:=0) ⟨by omega,by omega⟩ hT.HN,Bool.false_eq_true,if_false];rfl
  · obtain ⟨f0,f4⟩:=ll hv
    have hlv:(nth t f).Px=true:=by unfold jd at hv;rw [PG] at hv;exact hv.2
    simp only [PE,PC,PB,i9 (l:=t) f0 (by omega),Cy hT hc.1 hs (i:=f) ⟨f0,f4⟩ hlv,if_true];rfl
end Go.Kx
namespace Go.Kx
open Go
open Go.IntKind (i64)
set_option linter.unusedVariables false
set_option linter.unusedSimpArgs false
set_option maxRecDepth 10000
def n7 (h:g7) (k:Int):g7 :=
  if (h.gc.Ph==0)&&(((nth h.ag k).Pf != 0)&&!(nth h.ag k).Ps) then
    g7.mk (h.ag.set k.toNat (marked (nth h.ag k) true)) (i7.mk h.gc.Ph h.gc.Pr h.gc.Pj (if h.gc.gQ.contains k then h.gc.gQ else h.gc.gQ++[k]))
  else h
theorem Du {l:List Int} {k:Int} (h:l.length+1<gT):app l [k]=some (l++[k]):=by
  unfold app;rw [if_pos (by simpa using h)]
theorem Gk {N:Nat} (hN:gT≤N) {h:g7} {k:Int} (h0:0≤k) (h1:k<(h.ag.length:Int)) (hg:h.gc.gQ.length+1<gT):tC N h k=some (n7 h k):=by
  have hg':h.gc.gQ.length<gT:=by omega
  unfold tC n7;rw [← Bool.cond_eq_ite];simp only [i9 (l:=h.ag) h0 h1,tP hN hg',Du hg,PB,bne];cases h.gc.Ph==0
  · rfl
  cases (nth h.ag k).Pf==0
  · cases (nth h.ag k).Ps
    · cases h.gc.gQ.contains k<;>rfl
    · rfl
  · rfl
theorem AP {N:Nat} (hN:gT≤N) {h:g7} {k:Int} (h0:0≤k) (h1:k<(h.ag.length:Int)) (hg:h.gc.gQ.length+1<gT):pe N h k=some (n7 h k):=by
  have hg':h.gc.gQ.length<gT:=by omega
  unfold pe n7;rw [← Bool.cond_eq_ite];simp only [i9 (l:=h.ag) h0 h1,xy hN hg',Du hg,PB,bne];cases h.gc.Ph==0
  · rfl
  cases (nth h.ag k).Pf==0
  · cases (nth h.ag k).Ps
    · cases h.gc.gQ.contains k<;>rfl
    · rfl
  · rfl
theorem z7 (h:g7) (k:Int):(n7 h k).ag.length=h.ag.length:=by
  unfold n7;split<;>simp
theorem xY (h:g7) (k:Int):(n7 h k).gc.gQ.length≤h.gc.gQ.length+1:=by
  unfold n7;split
  · simp only;split
    · exact Nat.le_succ _
    · simp
  · exact Nat.le_succ _
theorem BH {l:List gP} {i j:Int} {o:gP} (h0:0≤i) (h1:i<(l.length:Int)) (hj:0≤j):nth (l.set i.toNat o) j=if i=j then o else nth l j:=by
  unfold nth;rw [List.getElem?_set]
  by_cases e:i=j
  · subst e;rw [if_pos rfl,if_pos (by omega),if_pos rfl];rfl
  · rw [if_neg (by omega),if_neg e]
theorem JR {h:g7} {k j:Int} {now:Int} (h0:0≤k) (h1:k<(h.ag.length:Int)) (hj:0≤j):jr (nth (n7 h k).ag j) now=jr (nth h.ag j) now:=by
  unfold n7;split
  · simp only;rw [BH h0 h1 hj];split
    · rename_i e;subst e;rfl
    · rfl
  · rfl
def l8 (l:List gP) (now:Int) (h:g7) (k:Int):g7:=if jr (nth l k) now then h else n7 h k
def iE (h:g7):Int:=nth h.gc.gQ ((h.gc.gQ.length:Int) - 1)
def nA (h:g7):List Int:=h.gc.gQ.take (h.gc.gQ.length - 1)
def vU (h:g7) (now:Int):g7 :=
  if h.gc.gQ.length=0 then g7.mk h.ag (i7.mk 1 0 h.gc.Pj h.gc.gQ)
  else if (iE h != 0)&&jr (nth h.ag (iE h)) now then g7.mk h.ag (i7.mk h.gc.Ph h.gc.Pr h.gc.Pj (nA h))
  else (lN h.ag (iE h)).foldl (l8 h.ag now) (g7.mk (h.ag.set (iE h).toNat (marked (nth h.ag (iE h)) true)) (i7.mk h.gc.Ph h.gc.Pr h.gc.Pj (nA h)))
def ht (h:g7):List gP×Int×Int×Int×List Int:=(h.ag,h.gc.Ph,h.gc.Pr,h.gc.Pj,h.gc.gQ)
theorem B8 {N:Nat} (hN:gT≤N) {l:List gP} {now:Int} {e:List Int} (he:∀ y,y ∈ e→0≤y∧y≤9) (hel:e.length≤10) {h:g7} (hl:h.ag.length=10) {G:Nat} (hg:h.gc.gQ.length≤G) (hG:G+20<gT)
    (hx:∀ j,0≤j→jr (nth h.ag j) now=jr (nth l j) now)
    {body:Int×List gP×Int×Int×Int×List Int→Option ((Int×List gP×Int×Int×Int×List Int)⊕(Int×List gP×Int×Int×Int×List Int))}
    (hs:∀ (k:Nat) (t:g7) (y:Int),e[k]?=some y→k<e.length→t.ag.length=10→t.gc.gQ.length+1<gT→(∀ j,0≤j→jr (nth t.ag j) now=jr (nth l j) now)→0≤y→y≤9→body ((k:Int),ht t)=some (.inl (((k+1:Nat):Int),ht (l8 l now t y))))
    (hend:∀ t,body ((e.length:Int),ht t)=some (.inr ((e.length:Int),ht t))) :
    iter body N (0,ht h)=some ((e.length:Int),ht (e.foldl (l8 l now) h)):=by
  have hB:e.length<gT:=by omega
  rw [show ((0:Int),ht h)=(fun (k:Nat) (t:g7)=>((k:Int),ht t)) 0 h from rfl,
    j0 e (fun (k:Nat) (t:g7)=>((k:Int),ht t)) (fun _ t y=>l8 l now t y) (fun t=>((e.length:Int),ht t)) (fun k t=>t.ag.length=10∧t.gc.gQ.length≤G+k∧∀ j,0≤j→jr (nth t.ag j) now=jr (nth l j) now) ?_ ?_ (Nat.lt_of_lt_of_le hB hN) ⟨hl,hg,hx⟩,lk]
  · intro k t y hy hk ⟨i1,i2,i3⟩;obtain ⟨y0,y9⟩:=he y (List.mem_of_getElem? hy);refine ⟨hs k t y hy hk i1 (by omega) i3 y0 y9,?_⟩;unfold l8;split
    · exact ⟨i1,by omega,i3⟩
    · have:=xY t y;exact ⟨by rw [z7,i1],by omega,fun j hj=>by rw [JR y0 (by omega) hj,i3 j hj]⟩
  · intro t _;exact hend t
theorem Fw {h:g7} (q:kp h=true):∀ y,y ∈ h.gc.gQ→0≤y∧y≤9:=by
  unfold kp at q;simp only [PG,l7] at q;intro y hy;obtain ⟨k,hk⟩:=List.getElem?_of_mem hy;have:=q.2.2.2 k y hk;unfold vy at this;rw [PG,iW] at this;exact this.1
theorem wH {h:g7} (q:kp h=true) (hg:h.gc.gQ.length ≠ 0):0≤iE h∧iE h≤9:=Fw q _ (kZ (by omega) (by omega))
theorem Dt {g:List Int} (hg:g.length ≠ 0) (hB:g.length<gT):i64.wrap ((g.length:Int) - 1)=((g.length - 1:Nat):Int)∧sub g 0 ((g.length - 1:Nat):Int)=some (g.take (g.length - 1)):=by
  have:g.length<16777216:=hB;exact ⟨by rw [jg (by omega) (by omega)];omega,yt (by omega)⟩
def Dy (l:List gP):List gP:=l.set 0 (marked (nth l 0) true)
def mQ (h:g7) (now:Int):Bool:=(h.gc.Pr != 0)&&(((nth h.ag h.gc.Pr).Pf != 0)&&(jr (nth h.ag h.gc.Pr) now || !(nth h.ag h.gc.Pr).Ps))
def mI (h:g7) (now:Int):List gP:=if mQ h now then (mc h.ag h.gc.Pr).1 else h.ag.set h.gc.Pr.toNat (marked (nth h.ag h.gc.Pr) false)
def pC (h:g7) (now:Int):g7×Int :=
  (if h.gc.Pr==9 then g7.mk (Dy (mI h now)) (i7.mk 0 0 (if 1000000<i64.wrap (h.gc.Pj+1) then 1000000 else i64.wrap (h.gc.Pj+1)) [0])
    else g7.mk (mI h now) (i7.mk h.gc.Ph (h.gc.Pr+1) h.gc.Pj h.gc.gQ),if mQ h now then h.gc.Pr else -1)
def ml (h:g7) (now:Int):g7×Int:=if kp h then (if h.gc.Ph==1 then pC h now else (vU h now, -1)) else (h, -1)
theorem wB {h:g7} (q:kp h=true):(h.gc.Ph=0)∨(h.gc.Ph=1∧0≤h.gc.Pr∧h.gc.Pr≤9):=by
  unfold kp zJ at q;simp only [PG,Bool.or_eq_true,beq_iff_eq,iW] at q
  rcases q.2.1 with ⟨h1,_⟩ | ⟨h1,h2,_⟩
  · exact .inl h1
  · exact .inr ⟨h1,h2⟩
theorem C9 (l:List gP) (i:Int):(mc l i).1.length=l.length:=by
  unfold mc;split<;>simp
theorem yD (h:g7) (now:Int):(mI h now).length=h.ag.length:=by
  unfold mI;split
  · exact C9 _ _
  · simp
theorem Lr {n:Int} (h0:0≤n) (h9:n≤9):((n+1:Int)==10)=(n==9)∧i64.wrap (n+1)=n+1:=by
  rw [jg (by omega) (by omega)];exact ⟨by rw [Bool.eq_iff_iff];simp;omega,rfl⟩
theorem E8 {N:Nat} (hN:gT≤N) {h:g7} (q:kp h=true) (hp:h.gc.Ph=1) (h1:iQ hY h.ag<gT) (now:Int):pZ N h now=some (pC h now):=by
  have ha:=mN q
  have hr:0≤h.gc.Pr∧h.gc.Pr≤9:=by
    rcases wB q with e | e
    · rw [hp] at e;cases e
    · exact e.2
  obtain ⟨e1,e2⟩:=Lr hr.1 hr.2;have hsl:=yD h now;have e0:idx (mI h now) 0=some (nth (mI h now) 0):=i9 (by omega) (by rw [hsl,ha.len];decide);unfold pZ pC;simp only [(ha.at hr.1 hr.2).1,xc,Ff hN h1,PB,kI,j1,e1,e2];rw [show (h.gc.Pr != 0&&((nth h.ag h.gc.Pr).Pf != 0&&(jr (nth h.ag h.gc.Pr) now || !(nth h.ag h.gc.Pr).Ps)))=mQ h now from rfl]
  have hsw:(bif mQ h now then some (h.gc.Pr,(mc h.ag h.gc.Pr).1) else some (-1,h.ag.set h.gc.Pr.toNat (gP.mk (nth h.ag h.gc.Pr).Pw (nth h.ag h.gc.Pr).Pf (nth h.ag h.gc.Pr).box (nth h.ag h.gc.Pr).Pu (nth h.ag h.gc.Pr).iz (nth h.ag h.gc.Pr).gE (nth h.ag h.gc.Pr).Pq (nth h.ag h.gc.Pr).iy (nth h.ag h.gc.Pr).im false (nth h.ag h.gc.Pr).gZ (nth h.ag h.gc.Pr).Po (nth h.ag h.gc.Pr).Pk)):Option (Int×List gP))=some (if mQ h now then h.gc.Pr else -1,mI h now):=by
    unfold mI;cases mQ h now<;>rfl
  rw [hsw];simp only [PB,e0];cases h.gc.Pr==9<;>rfl
theorem Dd (t:g7):g7.mk t.ag (i7.mk t.gc.Ph t.gc.Pr t.gc.Pj t.gc.gQ)=t:=rfl
theorem KK {N:Nat} (hN:gT≤N) {h:g7} (h1:iQ hY h.ag<gT) (h2:h.gc.gQ.length+20<gT) (now:Int):tR N h now=some (ml h now):=by
  have h2':h.gc.gQ.length<gT:=by omega
  unfold tR ml;simp only [vD hN h1 h2',yl hN h1 h2',PB];cases q:kp h
  · rfl
  have ha:=mN q;simp only [PE,PC,if_true];cases hp:h.gc.Ph==1
  · simp only [PC,Bool.false_eq_true,if_false];unfold vU
    by_cases hg:h.gc.gQ.length=0
    · have:((h.gc.gQ.length:Int)==0)=true:=by simp [hg]
      rw [this,if_pos hg];rfl
    · have:((h.gc.gQ.length:Int)==0)=false:=beq_eq_false_iff_ne.2 (by omega);obtain ⟨g1,g2⟩:=Dt hg h2';obtain ⟨l0,l9⟩:=wH q hg;obtain ⟨e1,e2⟩:=uz ha (iE h)
      have eg:idx h.gc.gQ ((h.gc.gQ.length - 1:Nat):Int)=some (iE h):=by
        rw [i9 (l:=h.gc.gQ) (i:=((h.gc.gQ.length - 1:Nat):Int)) (by omega) (by omega)];unfold iE;rw [show ((h.gc.gQ.length:Int) - 1)=((h.gc.gQ.length - 1:Nat):Int) by omega]
      rw [this,if_neg hg,g1];simp only [PC,eg,g2,(ha.at l0 l9).1,xc,PB];rw [show (bif iE h != 0 then some (jr (nth h.ag (iE h)) now) else some false:Option Bool)=some ((iE h != 0)&&jr (nth h.ag (iE h)) now) from kI _ _];simp only [PB];cases hc:((iE h != 0)&&jr (nth h.ag (iE h)) now)
      · simp only [PC,Bool.false_eq_true,if_false];rw [Cp hN ha l0 l9];simp only [PB]
        rw [show ((0:Int),h.ag.set (iE h).toNat (gP.mk (nth h.ag (iE h)).Pw (nth h.ag (iE h)).Pf (nth h.ag (iE h)).box (nth h.ag (iE h)).Pu (nth h.ag (iE h)).iz (nth h.ag (iE h)).gE (nth h.ag (iE h)).Pq (nth h.ag (iE h)).iy (nth h.ag (iE h)).im true (nth h.ag (iE h)).gZ (nth h.ag (iE h)).Po (nth h.ag (iE h)).Pk),h.gc.Ph,h.gc.Pr,h.gc.Pj,h.gc.gQ.take (h.gc.gQ.length - 1)) =
          ((0:Int),ht (g7.mk (h.ag.set (iE h).toNat (marked (nth h.ag (iE h)) true)) (i7.mk h.gc.Ph h.gc.Pr h.gc.Pj (nA h)))) from rfl,
          B8 hN (l:=h.ag) (now:=now) e1 e2 (h:=g7.mk (h.ag.set (iE h).toNat (marked (nth h.ag (iE h)) true)) (i7.mk h.gc.Ph h.gc.Pr h.gc.Pj (nA h))) (by simp [ha.len]) (G:=h.gc.gQ.length) (by unfold nA;simp) h2
            (fun j hj=>by
              simp only;rw [BH l0 (by rw [ha.len];omega) hj];split
              · rename_i e;rw [← e];rfl
              · rfl)]
        · rfl
        · intro k t y hy hk t1 t2 t3 y0 y9;simp only [ht,iF hk,PD,ik,hy,PB,(ha.at y0 y9).1,xc,Dd,Gk hN y0 (show y<(t.ag.length:Int) by rw [t1];omega) t2,iJ (show k<gT by omega)];unfold l8;cases jr (nth h.ag y) now<;>rfl
        · intro t;simp only [ht,iG,PC]
      · rfl
  · have hp1:h.gc.Ph=1:=by simpa using hp
    simp only [PD,E8 hN q hp1 h1,PB,if_true]
theorem D0 {o:gP} (h:kg o=true) (hk:(o.Pf==0)=true):marked o false=o:=by
  unfold kg at h;simp only [hk,PD,PG,decide_eq_true_eq] at h;rw [h.2.2];rfl
theorem I0 {N:Nat} (hN:gT≤N) {h:g7} (q:kp h=true) (h1:iQ hY h.ag<gT) (hw:wA h.ag) (h2:h.gc.gQ.length+20<gT) (now:Int):sE N h now=some (vU h now):=by
  have h2':h.gc.gQ.length<gT:=by omega
  have hB:h.gc.gQ.length<16777216:=h2';have ha:=mN q;unfold sE vU
  by_cases hg:h.gc.gQ.length=0
  · have:decide (i64.wrap ((h.gc.gQ.length:Int) - 1)<0)=true:=by rw [hg];decide
    rw [this,if_pos hg];rfl
  · obtain ⟨g1,g2⟩:=Dt hg h2';obtain ⟨l0,l9⟩:=wH q hg;obtain ⟨e1,e2⟩:=uz ha (iE h)
    have eg:idx h.gc.gQ ((h.gc.gQ.length - 1:Nat):Int)=some (iE h):=by
      rw [i9 (l:=h.gc.gQ) (i:=((h.gc.gQ.length - 1:Nat):Int)) (by omega) (by omega)];unfold iE;rw [show ((h.gc.gQ.length:Int) - 1)=((h.gc.gQ.length - 1:Nat):Int) by omega]
    have hd:decide (((h.gc.gQ.length - 1:Nat):Int)<0)=false:=by simp
    have hgt:decide (iE h > 0)=(iE h != 0):=by
      rw [Bool.eq_iff_iff];simp;omega
    rw [g1,hd,if_neg hg];simp only [PC,eg,g2,(ha.at l0 l9).1,va,PB,hgt];rw [show (bif iE h != 0 then some (jr (nth h.ag (iE h)) now) else some false:Option Bool)=some ((iE h != 0)&&jr (nth h.ag (iE h)) now) from kI _ _];simp only [PB];cases hc:((iE h != 0)&&jr (nth h.ag (iE h)) now)
    · simp only [PC,Bool.false_eq_true,if_false];rw [Gp hN h1 hw ha l0 l9];simp only [PB]
      rw [show ((0:Int),h.ag.set (iE h).toNat (gP.mk (nth h.ag (iE h)).Pw (nth h.ag (iE h)).Pf (nth h.ag (iE h)).box (nth h.ag (iE h)).Pu (nth h.ag (iE h)).iz (nth h.ag (iE h)).gE (nth h.ag (iE h)).Pq (nth h.ag (iE h)).iy (nth h.ag (iE h)).im true (nth h.ag (iE h)).gZ (nth h.ag (iE h)).Po (nth h.ag (iE h)).Pk),h.gc.Ph,h.gc.Pr,h.gc.Pj,h.gc.gQ.take (h.gc.gQ.length - 1)) =
        ((0:Int),ht (g7.mk (h.ag.set (iE h).toNat (marked (nth h.ag (iE h)) true)) (i7.mk h.gc.Ph h.gc.Pr h.gc.Pj (nA h)))) from rfl,
        B8 hN (l:=h.ag) (now:=now) e1 e2 (h:=g7.mk (h.ag.set (iE h).toNat (marked (nth h.ag (iE h)) true)) (i7.mk h.gc.Ph h.gc.Pr h.gc.Pj (nA h))) (by simp [ha.len]) (G:=h.gc.gQ.length) (by unfold nA;simp) h2
          (fun j hj=>by
            simp only;rw [BH l0 (by rw [ha.len];omega) hj];split
            · rename_i e;rw [← e];rfl
            · rfl)]
      · rfl
      · intro k t y hy hk t1 t2 t3 y0 y9;simp only [ht,iF hk,PD,ik,hy,PB,i9 (l:=t.ag) y0 (show y<(t.ag.length:Int) by rw [t1];omega),va,t3 y y0,Dd,AP hN y0 (show y<(t.ag.length:Int) by rw [t1];omega) t2,iJ (show k<gT by omega)];unfold l8;cases jr (nth h.ag y) now<;>rfl
      · intro t;simp only [ht,iG,PC]
    · rfl
theorem Kc {N:Nat} (hN:gT≤N) {h:g7} (h1:iQ hY h.ag<gT) (hw:wA h.ag) (h2:h.gc.gQ.length+20<gT) (now:Int):uh N h now=some (ml h now):=by
  have h2':h.gc.gQ.length<gT:=by omega
  unfold uh ml;simp only [wS hN h1 h2',yq hN h1 h2' hw,PB];cases q:kp h
  · rfl
  have ha:=mN q;simp only [PE,PC,if_true]
  rcases wB q with hp | ⟨hp,hr⟩
  · rw [hp];simp only [beq_self_eq_true,PD,I0 hN q h1 hw h2,PB];rfl
  · obtain ⟨e1,e2⟩:=Lr hr.1 hr.2;have hsl:=yD h now;have e0:idx (mI h now) 0=some (nth (mI h now) 0):=i9 (by omega) (by rw [hsl,ha.len];decide)
    have hgt:decide (h.gc.Pr > 0)=(h.gc.Pr != 0):=by rw [Bool.eq_iff_iff];simp;omega
    rw [show (h.gc.Ph==0)=false by rw [hp];rfl,show (h.gc.Ph==1)=true by rw [hp];rfl];unfold pC;simp only [PC,(ha.at hr.1 hr.2).1,va,FJ hN h1 hw,PB,hgt,e1,e2]
    rw [show (bif h.gc.Pr != 0 then (bif (nth h.ag h.gc.Pr).Pf != 0 then (bif !(nth h.ag h.gc.Pr).Ps then some true else some (jr (nth h.ag h.gc.Pr) now)) else some false) else some false:Option Bool)=some (mQ h now) by
      unfold mQ;rw [j1,kI,kI,Bool.or_comm]]
    simp only [PB]
    have hsw:(bif mQ h now then some (h.gc.Pr,(mc h.ag h.gc.Pr).1) else bif (nth h.ag h.gc.Pr).Pf != 0 then some (-1,h.ag.set h.gc.Pr.toNat (gP.mk (nth h.ag h.gc.Pr).Pw (nth h.ag h.gc.Pr).Pf (nth h.ag h.gc.Pr).box (nth h.ag h.gc.Pr).Pu (nth h.ag h.gc.Pr).iz (nth h.ag h.gc.Pr).gE (nth h.ag h.gc.Pr).Pq (nth h.ag h.gc.Pr).iy (nth h.ag h.gc.Pr).im false (nth h.ag h.gc.Pr).gZ (nth h.ag h.gc.Pr).Po (nth h.ag h.gc.Pr).Pk)) else some (-1,h.ag):Option (Int×List gP))=some (if mQ h now then h.gc.Pr else -1,mI h now):=by
      unfold mI;cases mQ h now
      · cases hk:(nth h.ag h.gc.Pr).Pf != 0
        · have hk0:((nth h.ag h.gc.Pr).Pf==0)=true:=by simpa [bne] using hk
          have hid:h.ag.set h.gc.Pr.toNat (marked (nth h.ag h.gc.Pr) false)=h.ag:=by
            rw [D0 (ha.ok _ (ha.at hr.1 hr.2).2) hk0];exact nv (o9 hr.1 (by rw [ha.len];omega))
          simp [hid]
        · rfl
      · rfl
    rw [hsw];simp only [PB,e0];cases h.gc.Pr==9<;>rfl
theorem CI {α:Type} {f:α→Nat} {z:α}:∀ {l:List α} {k:Nat} {y:α},l[k]?=some y→f z=f y→gW f (l.set k z)=gW f l
  | x::l,0,y,h,e=>by simp at h;subst h;simp [gW,e]
  | x::l,k+1,y,h,e=>by
    simp only [List.set_cons_succ,gW];rw [CI (l:=l) (k:=k) (y:=y) (by simpa using h) e]
theorem pJ {l:List gP} {i:Int} {z:gP} (h0:0≤i) (h1:i<(l.length:Int)) (e:hY z=hY (nth l i)):iQ hY (l.set i.toNat z)=iQ hY l:=by
  unfold iQ;rw [CI (o9 h0 h1) e,List.length_set]
theorem yu {l:List gP} {now:Int}:∀ (e:List Int) (h:g7),(∀ y,y ∈ e→0≤y∧y≤9)→h.ag.length=10→wA h.ag →
    iQ hY (e.foldl (l8 l now) h).ag=iQ hY h.ag∧wA (e.foldl (l8 l now) h).ag∧(e.foldl (l8 l now) h).gc.gQ.length≤h.gc.gQ.length+e.length
  | [],h,_,_,hw=>⟨rfl,hw,Nat.le_refl _⟩
  | y::e,h,he,hl,hw=>by
    obtain ⟨y0,y9⟩:=he y (by simp)
    have hy:y<(h.ag.length:Int):=by rw [hl];omega
    have key:iQ hY (l8 l now h y).ag=iQ hY h.ag∧wA (l8 l now h y).ag∧(l8 l now h y).gc.gQ.length≤h.gc.gQ.length+1∧(l8 l now h y).ag.length=10:=by
      unfold l8;split
      · exact ⟨rfl,hw,Nat.le_succ _,hl⟩
      · refine ⟨?_,?_,xY h y,by rw [z7,hl]⟩
        · unfold n7;split
          · exact pJ y0 hy rfl
          · rfl
        · unfold n7;split
          · exact kD hw (show nC (marked (nth h.ag y) true) from hw (nth h.ag y) (kZ y0 hy))
          · exact hw
    obtain ⟨a1,a2,a3⟩:=yu e (l8 l now h y) (fun z hz=>he z (by simp [hz])) key.2.2.2 key.2.1;simp only [List.foldl_cons,List.length_cons];exact ⟨a1.trans key.1,a2,by omega⟩
theorem NJ (i:Int) (o:gP):hY (zX i o)=hY o:=by
  unfold zX;split
  · rfl
  · unfold hY;simp
theorem N6 {i:Int} {o:gP} (h:nC o):nC (zX i o):=by
  unfold zX;split
  · exact h
  · exact h
theorem Ly (g:Int):nC (blank g):=by show (-9223372036854775808:Int)≤0;decide
theorem Hx {l:List gP} (hw:wA l) (i:Int):iQ hY (mc l i).1≤iQ hY l∧wA (mc l i).1:=by
  unfold mc;split
  · refine ⟨?_,fun o ho=>?_⟩
    · show iQ hY ((l.set i.toNat (blank (nth l i).Pw)).map (zX i))≤_
      rw [GC (NJ i)];exact xx
    · obtain ⟨y,hy,rfl⟩:=List.mem_map.1 ho;exact N6 (kD hw (Ly _) y hy)
  · exact ⟨Nat.le_refl _,hw⟩
theorem x6 {h:g7} (hw:wA h.ag) (now:Int):iQ hY (ml h now).1.ag≤iQ hY h.ag∧wA (ml h now).1.ag∧(ml h now).1.gc.gQ.length≤h.gc.gQ.length+10 ∧
    (decide ((ml h now).2 ≥ 0)=true→Ar h.ag∧0≤(ml h now).2∧(ml h now).2≤9):=by
  unfold ml;split
  · rename_i q;have ha:=mN q;have hl:=ha.len;split
    · rename_i hp
      have hp:h.gc.Ph=1:=by simpa using hp
      have hr:0≤h.gc.Pr∧h.gc.Pr≤9:=by
        rcases wB q with e | e
        · rw [hp] at e;cases e
        · exact e.2
      have hs:iQ hY (mI h now)≤iQ hY h.ag∧wA (mI h now):=by
        unfold mI;split
        · exact Hx hw _
        · exact ⟨Nat.le_of_eq (pJ hr.1 (by rw [hl];omega) rfl),kD hw (show nC (marked (nth h.ag h.gc.Pr) false) from hw (nth h.ag h.gc.Pr) (ha.at hr.1 hr.2).2)⟩
      have hsl:=yD h now
      have h0:(0:Int)<((mI h now).length:Int):=by rw [hsl,hl];decide
      refine ⟨?_,?_,?_,fun hd=>⟨ha,?_⟩⟩
      · unfold pC Dy;simp only;split
        · show iQ hY ((mI h now).set (0:Int).toNat _)≤_
          rw [pJ (z:=marked (nth (mI h now) 0) true) (Int.le_refl 0) h0 rfl];exact hs.1
        · exact hs.1
      · unfold pC Dy;simp only;split
        · exact kD hs.2 (show nC (marked (nth (mI h now) 0) true) from hs.2 (nth (mI h now) 0) (kZ (Int.le_refl 0) h0))
        · exact hs.2
      · unfold pC;simp only;split
        · simp
        · exact Nat.le_add_right _ _
      · unfold pC at hd ⊢;simp only at hd ⊢;split
        · exact hr
        · rename_i hn;rw [if_neg hn] at hd;simp at hd
    · refine ⟨?_,?_,?_,fun hd=>by simp at hd⟩
      all_goals
        unfold vU
        simp only
        split
        · first | exact Nat.le_refl _ | exact hw | exact Nat.le_add_right _ _
        · rename_i hg
          split
          · first | exact Nat.le_refl _ | exact hw | (unfold nA;simp;omega)
          · obtain ⟨l0,l9⟩:=wH q hg
            obtain ⟨e1,e2⟩:=uz ha (iE h)
            obtain ⟨a1,a2,a3⟩:=yu (l:=h.ag) (now:=now) (lN h.ag (iE h)) (g7.mk (h.ag.set (iE h).toNat (marked (nth h.ag (iE h)) true)) (i7.mk h.gc.Ph h.gc.Pr h.gc.Pj (nA h))) e1 (by simp [hl]) (kD hw (show nC (marked (nth h.ag (iE h)) true) from hw (nth h.ag (iE h)) (ha.at l0 l9).2))
            first
              | exact Nat.le_of_eq (a1.trans (pJ l0 (by rw [hl];omega) rfl))
              | exact a2
              | (refine Nat.le_trans a3 ?_
                 unfold nA
                 simp
                 omega)
  · exact ⟨Nat.le_refl _,hw,Nat.le_add_right _ _,fun hd=>by simp at hd⟩
structure zm where
  n:Int
  Pg:List g6
  py:g7
def rX (now:Int) (c:zm):zm :=
  if decide ((ml c.py now).2 ≥ 0) then ⟨i64.wrap (c.n+1),(pO c.Pg (nth c.py.ag (ml c.py now).2).Pu ⟨(nth c.py.ag (ml c.py now).2).gE,0,0⟩).1,(ml c.py now).1⟩
  else ⟨c.n,c.Pg,(ml c.py now).1⟩
def ze (now:Int):Nat→zm→zm
  | 0,c=>c
  | k+1,c=>ze now k (rX now c)
def kN (p:bh) (now steps:Int):bh×Int :=
  if jk p&&ig steps 0 100 then
    (bh.mk p.Pe p.own (ze now steps.toNat ⟨0,p.Pg,p.py⟩).Pg (ze now steps.toNat ⟨0,p.Pg,p.py⟩).py p.gR p.Pn p.Pp p.cd p.g5 p.Pm,(ze now steps.toNat ⟨0,p.Pg,p.py⟩).n)
  else (p,0)
def ct (k:Nat) (c:zm):Int×Int×List g6×List gP×Int×Int×Int×List Int:=(c.n,(k:Int),c.Pg,c.py.ag,c.py.gc.Ph,c.py.gc.Pr,c.py.gc.Pj,c.py.gc.gQ)
structure Dn (S T G:Nat) (k:Nat) (c:zm):Prop where
  sz:iQ hY c.py.ag≤S
  tl:c.Pg.length=T
  gl:c.py.gc.gQ.length≤G+10 * k
  w:wA c.py.ag
theorem Bu {S T G k:Nat} {c:zm} (h:Dn S T G k c) (now:Int):Dn S T G (k+1) (rX now c):=by
  obtain ⟨s1,s2,s3,_⟩:=x6 h.w now;have a1:=h.sz;have a2:=h.tl;have a3:=h.gl;unfold rX;split
  · exact ⟨by simp only;omega,by simp only;rw [wc,a2],by simp only;omega,s2⟩
  · exact ⟨by simp only;omega,a2,by simp only;omega,s2⟩
theorem Gv {S T G:Nat} {now:Int}:∀ (j k:Nat) (c:zm),Dn S T G k c→Dn S T G (k+j) (ze now j c)
  | 0,k,c,h=>h
  | j+1,k,c,h=>by
    have:=Gv (now:=now) j (k+1) (rX now c) (Bu h now)
    rwa [show k+1+j=k+(j+1) by omega] at this
theorem Gs {N:Nat} (hN:gT≤N) {now steps:Int} (h0:0≤steps) (h1:steps≤100) {S T G:Nat} {c:zm} (hc:Dn S T G 0 c)
    {body:Int×Int×List g6×List gP×Int×Int×Int×List Int→Option ((Int×Int×List g6×List gP×Int×Int×Int×List Int)⊕(Int×Int×List g6×List gP×Int×Int×Int×List Int))}
    (hs:∀ (k:Nat) (c:zm),k<100→(k:Int)<steps→Dn S T G k c→body (ct k c)=some (.inl (ct (k+1) (rX now c)))) (he:∀ c,body (ct steps.toNat c)=some (.inr (ct steps.toNat c))) :
    iter body N (ct 0 c)=some (ct steps.toNat (ze now steps.toNat c)):=by
  have e:∀ (j i:Nat) (c:zm),foldI (fun _ c (_:Unit)=>rX now c) i c (List.replicate j ())=ze now j c:=by
    intro j
    induction j with
    | zero=>intro i c;rfl
    | succ j ih=>intro i c;rw [List.replicate_succ];unfold foldI ze;exact ih _ _
  rw [j0 (List.replicate steps.toNat ()) ct (fun _ c _=>rX now c) (fun c=>ct steps.toNat c) (fun k c=>Dn S T G k c) ?_ ?_ (by have:16777216≤N:=hN;simp;omega) hc,e]
  · intro k c y hy hk hI
    have hk:k<steps.toNat:=by simpa using hk
    exact ⟨hs k c (by omega) (by omega) hI,Bu hI now⟩
  · intro c _;rw [show (List.replicate steps.toNat ()).length=steps.toNat by simp];exact he c
theorem C6 {N:Nat} (hN:gT≤N) {p:bh} (hb:ic p≤3000000) (hw:wP p) (now steps:Int):n5 N p now steps=some (kN p now steps):=by
  have hB:(16777216:Nat)=gT:=rfl
  have hb':ic p<gT:=by omega
  have hz:iQ hY p.py.ag≤3000000∧p.py.gc.gQ.length≤3000000∧p.Pg.length≤3000000:=by unfold ic k5 oV at hb;omega
  unfold n5 kN;simp only [pM hN hb',ti hN hb',lQ,PB,j1];cases jk p
  · rfl
  cases hst:ig steps 0 100
  · rfl
  have hr:=iW.1 hst;simp only [PE,Bool.or_self,PC,Bool.and_self,if_true]
  rw [show ((0:Int),(0:Int),p.Pg,p.py.ag,p.py.gc.Ph,p.py.gc.Pr,p.py.gc.Pj,p.py.gc.gQ)=ct 0 ⟨0,p.Pg,p.py⟩ from rfl,
    Gs hN (now:=now) hr.1 hr.2 (S:=3000000) (T:=p.Pg.length) (G:=3000000) (c:=⟨0,p.Pg,p.py⟩) ⟨hz.1,rfl,by simp only;omega,hw⟩]
  · rfl
  · intro k c hk hks hI;have g1:iQ hY c.py.ag<gT:=Nat.lt_of_le_of_lt hI.sz (by decide)
    have g2:c.py.gc.gQ.length+20<gT:=by have:=hI.gl;omega
    have g3:c.Pg.length<gT:=by rw [hI.tl];omega
    have hd:decide ((k:Int)<steps)=true:=by simpa using hks
    obtain ⟨_,_,_,s4⟩:=x6 hI.w now
    show (bif decide ((k:Int)<steps) then _ else _)=_
    rw [hd];simp only [ct,PD,Dd,KK hN g1 g2,PB,iJ (show k<gT by omega)];unfold rX;cases hv:decide ((ml c.py now).2 ≥ 0)
    · rfl
    · obtain ⟨har,v0,v9⟩:=s4 hv;simp only [PD,(har.at v0 v9).1,xW,yj hN g3,PB,if_true];rfl
  · intro c
    have hd:decide (((steps.toNat:Nat):Int)<steps)=false:=by simp;omega
    show (bif decide (((steps.toNat:Nat):Int)<steps) then _ else _)=_
    rw [hd];simp only [ct,PC]
theorem CV {N:Nat} (hN:gT≤N) {p:bh} (hb:ic p≤3000000) (hw:wP p) (now steps:Int):od N p now steps=some (kN p now steps):=by
  have hB:(16777216:Nat)=gT:=rfl
  have hb':ic p<gT:=by omega
  have hz:iQ hY p.py.ag≤3000000∧p.py.gc.gQ.length≤3000000∧p.Pg.length≤3000000:=by unfold ic k5 oV at hb;omega
  unfold od kN;simp only [rL hN hb',te hN hb' hw,lv,PB,j1];cases jk p
  · rfl
  cases hst:ig steps 0 100
  · rfl
  have hr:=iW.1 hst;simp only [PE,Bool.or_self,PC,Bool.and_self,if_true]
  rw [show ((0:Int),(0:Int),p.Pg,p.py.ag,p.py.gc.Ph,p.py.gc.Pr,p.py.gc.Pj,p.py.gc.gQ)=ct 0 ⟨0,p.Pg,p.py⟩ from rfl,
    Gs hN (now:=now) hr.1 hr.2 (S:=3000000) (T:=p.Pg.length) (G:=3000000) (c:=⟨0,p.Pg,p.py⟩) ⟨hz.1,rfl,by simp only;omega,hw⟩]
  · rfl
  · intro k c hk hks hI;have g1:iQ hY c.py.ag<gT:=Nat.lt_of_le_of_lt hI.sz (by decide)
    have g2:c.py.gc.gQ.length+20<gT:=by have:=hI.gl;omega
    have g3:c.Pg.length<gT:=by rw [hI.tl];omega
    have hd:decide ((k:Int)<steps)=true:=by simpa using hks
    obtain ⟨_,_,_,s4⟩:=x6 hI.w now
    show (bif decide ((k:Int)<steps) then _ else _)=_
    rw [hd];simp only [ct,PD,Dd,Kc hN g1 hI.w g2,PB,iJ (show k<gT by omega)];unfold rX;cases hv:decide ((ml c.py now).2 ≥ 0)
    · rfl
    · obtain ⟨har,v0,v9⟩:=s4 hv;simp only [PD,(har.at v0 v9).1,ya hN g3,PB,if_true]
  · intro c
    have hd:decide (((steps.toNat:Nat):Int)<steps)=false:=by simp;omega
    show (bif decide (((steps.toNat:Nat):Int)<steps) then _ else _)=_
    rw [hd];simp only [ct,PC]
theorem HT {p:bh} (hb:ic p≤3000000) (hw:wP p) (now steps:Int):ic (kN p now steps).1≤ic p+1000∧wP (kN p now steps).1:=by
  unfold kN;split
  · rename_i h;rw [PG,iW] at h;have hI:=Gv (now:=now) steps.toNat 0 ⟨0,p.Pg,p.py⟩ (S:=iQ hY p.py.ag) (T:=p.Pg.length) (G:=p.py.gc.gQ.length) ⟨Nat.le_refl _,rfl,Nat.le_refl _,hw⟩;have a1:=hI.sz;have a2:=hI.tl;have a3:=hI.gl;refine ⟨?_,hI.w⟩;unfold ic k5 oV at hb ⊢;simp only;omega
  · exact ⟨Nat.le_add_right _ _,hw⟩
end Go.Kx
namespace Go.Kx
open Go
open Go.IntKind (i64)
set_option linter.unusedVariables false
set_option linter.unusedSimpArgs false
set_option maxRecDepth 10000
theorem Cv {N:Nat} (hN:gT≤N) {w:List bh} (hl:w.length<gT) {F:bh→Option bh} (hF:∀ y,y ∈ w→F y=some y) :
    iter (fun (s8:Int×(List bh))=>(bif (decide (s8.1<(w.length:Int))) then ((idx w s8.1).bind fun y11=>(F y11).bind fun y41=>(app s8.2 [y41]).bind fun y57=>some (.inl (i64.wrap (s8.1+1),y57))) else (some (.inr (s8.1,s8.2))):Option ((Int×(List bh))⊕(Int×(List bh))))) N (0,[])=some ((w.length:Int),w):=by
  have e:∀ (l:List bh) (k:Nat) (acc:List bh),foldI (fun _ (acc:List bh) y=>acc++[y]) k acc l=acc++l:=by
    intro l
    induction l with
    | nil=>intro k acc;simp [foldI]
    | cons y l ih=>intro k acc;unfold foldI;rw [ih];simp
  rw [show ((0:Int),([]:List bh))=(fun (k:Nat) (t:List bh)=>((k:Int),t)) 0 [] from rfl,
    j0 w (fun (k:Nat) (t:List bh)=>((k:Int),t)) (fun _ acc y=>acc++[y]) (fun t=>((w.length:Int),t)) (fun k t=>t.length≤k) ?_ ?_ (Nat.lt_of_lt_of_le hl hN) (by simp),e]
  · simp
  · intro k t y hy hk ht;refine ⟨?_,by simp;omega⟩;simp only [iF hk,PD,ik,hy,PB,hF y (List.mem_of_getElem? hy),iJ (Nat.lt_trans hk hl),kB ht (Nat.lt_of_le_of_lt hk hl)]
  · intro t _;simp only [iG,PC]
theorem sN {N:Nat} (hN:gT≤N) {w:hJ} (hb:iQ ic w.parts<gT):lD N w=some w:=by
  unfold lD;rw [Cv hN (jj hb) fun y hy=>pM hN (jh hb hy)];rfl
theorem vh {N:Nat} (hN:gT≤N) {w:hJ} (hb:iQ ic w.parts<gT):mJ N w=some w:=by
  unfold mJ;rw [Cv hN (jj hb) fun y hy=>rL hN (jh hb hy)];rfl
theorem Cs {N:Nat} (hN:gT≤N) {w:List iC} (hl:w.length<gT) {F:List g6→Option (List g6)} (hF:∀ y,y ∈ w→F y.Py=some y.Py) :
    iter (fun (s4:(List iC)×Int)=>(bif (decide (s4.2<(w.length:Int))) then ((idx w s4.2).bind fun y7=>(F y7.Py).bind fun y22=>(app s4.1 [iC.mk y22]).bind fun y26=>some (.inl (y26,i64.wrap (s4.2+1)))) else (some (.inr (s4.1,s4.2))):Option (((List iC)×Int)⊕((List iC)×Int)))) N ([],0)=some (w,(w.length:Int)):=by
  rw [n4 w (fun _ _=>true) (fun _ y=>y) hl hN]
  · rw [pg (fun _=>true) w 0];simp
  · intro k t y hy hk ht;simp only [iF hk,PD,ik,hy,PB,hF y (List.mem_of_getElem? hy),iJ (Nat.lt_trans hk hl),kB ht (Nat.lt_of_le_of_lt hk hl),if_true]
  · intro t;simp only [iG,PC]
def o5 (ts:List iC):Prop:=ts.length<gT∧∀ t,t ∈ ts→t.Py.length<gT
theorem Fg {N:Nat} (hN:gT≤N) {ts:List iC} (h:o5 ts):nY N ts=some ts:=by
  unfold nY;rw [Cs hN h.1 fun y hy=>oo (h.2 y hy)];rfl
theorem KI {N:Nat} (hN:gT≤N) {ts:List iC} (h:o5 ts):sd N ts=some ts:=by
  unfold sd;rw [Cs hN h.1 fun y hy=>oI (h.2 y hy)];rfl
def kM (a:hO) (w:Int):Int:=if w==0 then a.gE else if w==1 then a.gX else if w==2 then a.g8 else 0
theorem Cg (N:Nat) (a:hO) (w:Int):qq N a w=some (kM a w):=by
  unfold qq kM;cases w==0<;>cases w==1<;>cases w==2<;>rfl
theorem Ca (N:Nat) (a:hO) (w:Int):qw N a w=some (kM a w):=by
  unfold qw kM;cases w==0<;>cases w==1<;>cases w==2<;>rfl
def mi (t:iB) (n:Int):Int:=if t.Pf==1 then (if n<t.ka then n else t.ka) else i64.wrap (Int.tdiv (i64.wrap (t.ka * n)) 100)
def r8 (t:iB) (a:hO):Int:=if kK t&&iN a then mi t (kM a t.jR) else 0
theorem JA (N:Nat) (t:iB) (a:hO):sm N t a=some (r8 t a):=by
  unfold sm r8 mi;simp only [zz,qz,PB,j1,Cg];cases kK t
  · rfl
  cases iN a
  · rfl
  cases t.Pf==1<;>rfl
theorem Ja (N:Nat) (t:iB) (a:hO):sR N t a=some (r8 t a):=by
  unfold sR r8 mi;simp only [zw,qt,PB,j1,Ca];cases kK t
  · rfl
  cases iN a
  · rfl
  cases t.Pf==1
  · simp only [PE,Bool.or_self,PC,Bool.and_self,if_true,Bool.false_eq_true,if_false];rw [Int.mul_comm]
  · simp only [PE,Bool.or_self,PC,PD,Bool.and_self,if_true];congr 1;split<;>split<;>omega
theorem Aq {t:iB} {n:Int} (ht:kK t=true) (h0:0≤n) (h1:n≤1000000):0≤mi t n∧mi t n≤n:=by
  unfold kK at ht;simp only [PG,Bool.or_eq_true,iW,beq_iff_eq] at ht;unfold mi
  rcases ht.2 with ⟨hk,r0,r1⟩ | ⟨hk,r0,r1⟩
  · rw [hk];simp only [beq_self_eq_true,if_true];split<;>omega
  · rw [hk,show ((2:Int)==1)=false from rfl];simp only [Bool.false_eq_true,if_false];have m1:0≤t.ka * n:=Int.mul_nonneg r0 h0;have m2:t.ka * n≤100 * n:=Int.mul_le_mul_of_nonneg_right r1 h0;rw [jg (n:=t.ka * n) (by omega) (by omega),Int.tdiv_eq_ediv_of_nonneg m1]
    have d0:0≤t.ka * n / 100:=by omega
    have d1:t.ka * n / 100≤n:=by omega
    rw [jg (by omega) (by omega)];exact ⟨d0,d1⟩
theorem IK {t:iB} {a:hO} (ht:kK t=true) (ha:iN a=true):np (lz t.jR (r8 t a)) a=true:=by
  unfold r8;rw [ht,ha];simp only [Bool.and_self,if_true];have ht':=ht;unfold kK at ht';simp only [PG,iW] at ht';have ha':=kR.1 ha
  have hw:t.jR=0∨t.jR=1∨t.jR=2:=by omega
  unfold np;rw [ha]
  rcases hw with e | e | e<;>rw [e]
  · obtain ⟨q0,q1⟩:=Aq ht (n:=kM a 0) ha'.1.1 ha'.1.2;have q2:mi t (kM a 0)≤a.gE:=q1;have:iN (lz 0 (mi t (kM a 0)))=true:=kR.2 (show (0≤mi t (kM a 0)∧mi t (kM a 0)≤1000000)∧(0≤(0:Int)∧(0:Int)≤1000000)∧(0≤(0:Int)∧(0:Int)≤1000000) from ⟨⟨q0,by omega⟩,by decide,by decide⟩);rw [this];simp only [PF,PG,decide_eq_true_eq];exact ⟨q2,ha'.2.1.1,ha'.2.2.1⟩
  · obtain ⟨q0,q1⟩:=Aq ht (n:=kM a 1) ha'.2.1.1 ha'.2.1.2;have q2:mi t (kM a 1)≤a.gX:=q1;have:iN (lz 1 (mi t (kM a 1)))=true:=kR.2 (show (0≤(0:Int)∧(0:Int)≤1000000)∧(0≤mi t (kM a 1)∧mi t (kM a 1)≤1000000)∧(0≤(0:Int)∧(0:Int)≤1000000) from ⟨by decide,⟨q0,by omega⟩,by decide⟩);rw [this];simp only [PF,PG,decide_eq_true_eq];exact ⟨ha'.1.1,q2,ha'.2.2.1⟩
  · obtain ⟨q0,q1⟩:=Aq ht (n:=kM a 2) ha'.2.2.1 ha'.2.2.2;have q2:mi t (kM a 2)≤a.g8:=q1;have:iN (lz 2 (mi t (kM a 2)))=true:=kR.2 (show (0≤(0:Int)∧(0:Int)≤1000000)∧(0≤(0:Int)∧(0:Int)≤1000000)∧(0≤mi t (kM a 2)∧mi t (kM a 2)≤1000000) from ⟨by decide,by decide,⟨q0,by omega⟩⟩);rw [this];simp only [PF,PG,decide_eq_true_eq];exact ⟨ha'.1.1,ha'.2.1.1,q2⟩
def nw (ts:List iC):Bool:=ts.all fun t=>jG t.Py
def j2 (ts:List iC) (p:Int) (t:iB):Bool :=
  nw ts&&(!decide ((ts.length:Int) > 3)&&(kK t&&(ig p 0 ((ts.length:Int) - 1)&&(!decide (t.jy ≥ (ts.length:Int))&&jd (nth ts p).Py t.Pu))))
def wg (ts:List iC) (p:Int) (t:iB):Int:=r8 t (nth (nth ts p).Py t.Pu).iH
def nT (ts:List iC) (p:Int) (t:iB):List iC:=ts.set p.toNat (iC.mk (jo (nth ts p).Py t.Pu (lz t.jR (wg ts p t))).1)
def qx (ts:List iC) (p:Int) (t:iB):List g6×Bool:=pO (nth (nT ts p t) t.jy).Py t.kJ (lz t.jR (wg ts p t))
def kA (ts:List iC) (p:Int) (t:iB):List iC×Int :=
  if j2 ts p t&&(qx ts p t).2 then ((nT ts p t).set t.jy.toNat (iC.mk (qx ts p t).1),wg ts p t) else (ts,0)
theorem Jv {ts:List iC} (h:o5 ts) {k:Nat} {t:List g6} (ht:t.length<gT):o5 (ts.set k (iC.mk t)):=by
  refine ⟨by rw [List.length_set];exact h.1,fun y hy=>?_⟩
  rcases List.mem_or_eq_of_mem_set hy with h1 | h1
  · exact h.2 y h1
  · subst h1;exact ht
theorem B2 {ts:List iC} {p:Int} (h:nw ts=true) (h0:0≤p) (h1:p<(ts.length:Int)):jG (nth ts p).Py=true:=by
  unfold nw at h;rw [List.all_eq_true] at h;exact h _ (kZ h0 h1)
theorem vE {ts:List iC} {p:Int} {t:iB} (h:j2 ts p t=true):nw ts=true∧kK t=true∧(0≤p∧p<(ts.length:Int))∧(0≤t.jy∧t.jy<(ts.length:Int))∧jd (nth ts p).Py t.Pu=true:=by
  unfold j2 at h;simp only [PG,Bool.not_eq_true',decide_eq_false_iff_not,iW] at h;obtain ⟨h1,_,h2,h3,h4,h5⟩:=h;have h2':=h2;unfold kK at h2';simp only [PG,iW] at h2';exact ⟨h1,h2,⟨h3.1,by omega⟩,⟨h2'.1.2.1.1,by omega⟩,h5⟩
theorem MC {ts:List iC} {p:Int} {t:iB} (h:j2 ts p t=true):(jo (nth ts p).Py t.Pu (lz t.jR (wg ts p t))).2=true:=by
  obtain ⟨h1,h2,⟨p0,p1⟩,_,h5⟩:=vE h;have ho:=B2 h1 p0 p1;obtain ⟨f0,f4⟩:=ll h5
  have hb:iN (nth (nth ts p).Py t.Pu).iH=true:=by
    have hT:=ho;have hl:=ph ho;unfold jG at hT;simp only [PG] at hT;have hP:=l7.1 hT.2.2.2.1 t.Pu.toNat _ (o9 f0 (by omega))
    have hv:(nth (nth ts p).Py t.Pu).Px=true:=by
      unfold jd at h5;rw [PG] at h5;exact h5.2
    unfold nM at hP;rw [hv,if_pos rfl,PG] at hP;exact hP.1
  unfold jo;rw [ho,h5];simp only [Bool.and_self,if_true];rw [show np (lz t.jR (wg ts p t)) (nth (nth ts p).Py t.Pu).iH=true from IK h2 hb];rfl
theorem Bw {ts:List iC} (h:o5 ts) {p:Int} (p0:0≤p) (p1:p<(ts.length:Int)) (t:iB):o5 (nT ts p t) :=
  Jv h (by rw [lj];exact h.2 _ (kZ p0 p1))
theorem wD (ts:List iC) (p:Int) (t:iB):(nT ts p t).length=ts.length:=by unfold nT;rw [List.length_set]
theorem Jp {N:Nat} (hN:gT≤N) {ts:List iC} (h:o5 ts) (p:Int) (t:iB):sQ N ts p t=some (kA ts p t):=by
  have hl:=h.1;have hB:(16777216:Nat)=gT:=rfl;unfold sQ;simp only [Fg hN h,PB];rw [jT ts (fun _ t=>jG t.Py) (.inl (ts.length:Int)) (.inr (ts,0)) (Nat.lt_of_lt_of_le hl hN),kh]
  · simp only [PB,zz,lQ,jg (n:=(ts.length:Int) - 1) (by omega) (by omega)];cases h1:ts.all (fun t=>jG t.Py)
    · have:j2 ts p t=false:=by unfold j2 nw;rw [h1];rfl
      unfold kA;rw [this];rfl
    cases h2:decide ((ts.length:Int) > 3)
    case true =>
      have:j2 ts p t=false:=by unfold j2 nw;rw [h1,h2];rfl
      unfold kA;rw [this];rfl
    cases h3:kK t
    · have:j2 ts p t=false:=by unfold j2 nw;rw [h1,h2,h3];rfl
      unfold kA;rw [this];rfl
    cases h4:ig p 0 ((ts.length:Int) - 1)
    · have:j2 ts p t=false:=by unfold j2 nw;rw [h1,h2,h3,h4];rfl
      unfold kA;rw [this];rfl
    cases h5:decide (t.jy ≥ (ts.length:Int))
    case true =>
      have:j2 ts p t=false:=by unfold j2 nw;rw [h1,h2,h3,h4,h5];rfl
      unfold kA;rw [this];rfl
    rw [iW] at h4
    have p1:p<(ts.length:Int):=by omega
    have ho:=B2 (ts:=ts) h1 h4.1 p1;have h5l:=ph ho;simp only [if_true,Sum.elim_inl,PE,PC,i9 (l:=ts) h4.1 p1,PB,rj N h5l];cases h6:jd (nth ts p).Py t.Pu
    · have:j2 ts p t=false:=by unfold j2;rw [h6];simp
      unfold kA;rw [this];rfl
    have hm:j2 ts p t=true:=by unfold j2 nw;rw [h1,h2,h3,h5,h6,iW.2 h4];rfl
    obtain ⟨_,_,_,⟨q0,q1⟩,_⟩:=vE hm;obtain ⟨f0,f4⟩:=ll h6
    simp only [PE,PC,i9 (l:=(nth ts p).Py) f0 (by omega),PB,JA,xW,uV hN (h.2 _ (kZ h4.1 p1)),
      show r8 t (nth (nth ts p).Py t.Pu).iH=wg ts p t from rfl,MC hm,show ts.set p.toNat (iC.mk (jo (nth ts p).Py t.Pu (lz t.jR (wg ts p t))).1)=nT ts p t from rfl,
      i9 (l:=nT ts p t) q0 (by rw [wD];exact q1),yj hN ((Bw h h4.1 p1 t).2 _ (kZ q0 (by rw [wD];exact q1)))]
    unfold kA;rw [hm]
    show (bif !(qx ts p t).2 then some (ts,0) else some ((nT ts p t).set t.jy.toNat (iC.mk (qx ts p t).1),wg ts p t))=_
    cases (qx ts p t).2<;>rfl
  · intro k y hy hk;simp only [iF hk,PD,ik,hy,PB,qQ hN,iJ (Nat.lt_trans hk hl)];cases jG y.Py<;>rfl
  · simp only [iG,PC]
theorem ID {N:Nat} (hN:gT≤N) {ts:List iC} (h:o5 ts) (p:Int) (t:iB):sn N ts p t=some (kA ts p t):=by
  have hl:=h.1;have hB:(16777216:Nat)=gT:=rfl
  have hok:wy N ts=some (nw ts&&decide ((ts.length:Int)≤3)):=by
    unfold wy nw;rw [jT ts (fun _ t=>jG t.Py) (.inl (ts.length:Int)) (.inr false) (Nat.lt_of_lt_of_le hl hN),kh]
    · cases ts.all (fun t=>jG t.Py)<;>rfl
    · intro k y hy hk;simp only [iF hk,PD,ik,hy,PB,wk hN,iJ (Nat.lt_trans hk hl)];cases jG y.Py<;>rfl
    · simp only [iG,PC]
  unfold sn;simp only [KI hN h,hok,PB,zw,lv,jg (n:=(ts.length:Int) - 1) (by omega) (by omega)]
  have h2e:decide ((ts.length:Int)≤3)=!decide ((ts.length:Int) > 3):=by
    by_cases hc:(ts.length:Int)≤3<;>simp [hc]
    omega
  rw [h2e];cases h1:nw ts
  · have:j2 ts p t=false:=by unfold j2;rw [h1];rfl
    unfold kA;rw [this];rfl
  cases h2:decide ((ts.length:Int) > 3)
  case true =>
    have:j2 ts p t=false:=by unfold j2;rw [h1,h2];rfl
    unfold kA;rw [this];rfl
  cases h3:kK t
  · have:j2 ts p t=false:=by unfold j2;rw [h1,h2,h3];rfl
    unfold kA;rw [this];rfl
  cases h4:ig p 0 ((ts.length:Int) - 1)
  · have:j2 ts p t=false:=by unfold j2;rw [h1,h2,h3,h4];rfl
    unfold kA;rw [this];rfl
  cases h5:decide (t.jy ≥ (ts.length:Int))
  case true =>
    have:j2 ts p t=false:=by unfold j2;rw [h1,h2,h3,h4,h5];rfl
    unfold kA;rw [this];rfl
  rw [iW] at h4
  have p1:p<(ts.length:Int):=by omega
  have ho:=B2 (ts:=ts) h1 h4.1 p1;have h5l:=ph ho;simp only [PE,Bool.not_false,Bool.and_self,PC,i9 (l:=ts) h4.1 p1,PB,s7 hN,ho,PF];cases h6:jd (nth ts p).Py t.Pu
  · have:j2 ts p t=false:=by unfold j2;rw [h6];simp
    unfold kA;rw [this];rfl
  have hm:j2 ts p t=true:=by unfold j2;rw [h1,h2,h3,h5,h6,iW.2 h4];rfl
  obtain ⟨_,_,_,⟨q0,q1⟩,_⟩:=vE hm;obtain ⟨f0,f4⟩:=ll h6
  simp only [PE,PC,i9 (l:=(nth ts p).Py) f0 (by omega),PB,Ja,Di,tw hN (h.2 _ (kZ h4.1 p1)),
    show r8 t (nth (nth ts p).Py t.Pu).iH=wg ts p t from rfl,show ts.set p.toNat (iC.mk (jo (nth ts p).Py t.Pu (lz t.jR (wg ts p t))).1)=nT ts p t from rfl,
    i9 (l:=nT ts p t) q0 (by rw [wD];exact q1),ya hN ((Bw h h4.1 p1 t).2 _ (kZ q0 (by rw [wD];exact q1)))]
  unfold kA;rw [hm]
  show (bif !(qx ts p t).2 then some (ts,0) else some ((nT ts p t).set t.jy.toNat (iC.mk (qx ts p t).1),wg ts p t))=_
  cases (qx ts p t).2<;>rfl
def lens (ts:List iC):List Nat:=ts.map fun t=>t.Py.length
theorem EA {ts:List iC} {k:Nat} {y:iC} {t:List g6} (hy:ts[k]?=some y) (ht:t.length=y.Py.length):lens (ts.set k (iC.mk t))=lens ts:=by
  unfold lens;rw [List.map_set]
  show (ts.map fun t=>t.Py.length).set k t.length=_
  rw [ht];apply nv;rw [List.getElem?_map,hy];rfl
theorem yT (ts:List iC) (p:Int) (t:iB):lens (kA ts p t).1=lens ts:=by
  unfold kA;split
  · rename_i h;rw [PG] at h;obtain ⟨_,_,⟨p0,p1⟩,⟨q0,q1⟩,_⟩:=vE h.1
    show lens ((nT ts p t).set t.jy.toNat (iC.mk (qx ts p t).1))=_
    refine (EA (o9 q0 (by rw [wD];exact q1)) (show (qx ts p t).1.length=_ from wc _ _ _)).trans ?_;exact EA (o9 p0 p1) (lj _ _ _)
  · rfl
theorem AQ {ts us:List iC} (h:o5 ts) (e:lens us=lens ts):o5 us:=by
  have hl:us.length=ts.length:=by
    have:=congrArg List.length e;unfold lens at this
    rwa [List.length_map,List.length_map] at this
  refine ⟨by rw [hl];exact h.1,fun y hy=>?_⟩;have hm:y.Py.length ∈ lens us:=List.mem_map.2 ⟨y,hy,rfl⟩;rw [e] at hm;obtain ⟨z,hz,hzz⟩:=List.mem_map.1 hm;rw [← hzz];exact h.2 z hz
def xJ (ts:List iC) (p:Int) (gR:List iB):List iC:=gR.foldl (fun ts t=>(kA ts p t).1) ts
theorem uQ (p:Int):∀ (gR:List iB) (ts:List iC),lens (xJ ts p gR)=lens ts
  | [],_=>rfl
  | t::gR,ts=>(uQ p gR (kA ts p t).1).trans (yT ts p t)
theorem EV {N:Nat} (hN:gT≤N) {gR:List iB} (hl:gR.length<gT) {ts:List iC} (h:o5 ts) {p:Int} {F:List iC→iB→Option (List iC×Int)} (hF:∀ ts t,o5 ts→F ts t=some (kA ts p t)) :
    iter (fun (s94:(List iC)×Int)=>(bif (decide (s94.2<(gR.length:Int))) then ((idx gR s94.2).bind fun y97=>(F s94.1 y97).bind fun y109=>some (.inl (y109.1,i64.wrap (s94.2+1)))) else (some (.inr (s94.1,s94.2))):Option (((List iC)×Int)⊕((List iC)×Int)))) N (ts,0)=some (xJ ts p gR,(gR.length:Int)):=by
  rw [show (ts,(0:Int))=(fun (k:Nat) (t:List iC)=>(t,(k:Int))) 0 ts from rfl,
    j0 gR (fun (k:Nat) (t:List iC)=>(t,(k:Int))) (fun _ ts t=>(kA ts p t).1) (fun t=>(t,(gR.length:Int))) (fun _ t=>lens t=lens ts) ?_ ?_ (Nat.lt_of_lt_of_le hl hN) rfl,lk]
  · rfl
  · intro k t y hy hk ht;refine ⟨?_,(yT t p y).trans ht⟩;simp only [iF hk,PD,ik,hy,PB,hF t y (AQ h ht),iJ (Nat.lt_trans hk hl)]
  · intro t _;simp only [iG,PC]
def iv (w:hJ) (p:Int):hJ:=if jD w&&jb w p then hJ.mk w.Pt (ky w.parts (lr (xJ (ku w.parts) p (nth w.parts p).gR))) else w
theorem xm {l:List bh} (hb:iQ ic l<gT):o5 (ku l):=by
  refine ⟨by unfold ku kQ;rw [List.length_map,List.length_map];exact jj hb,fun t ht=>?_⟩;unfold ku kQ at ht;rw [List.map_map] at ht;obtain ⟨p,hp,rfl⟩:=List.mem_map.1 ht;exact (jY (jh hb hp)).2.2.1
theorem xX {l:List bh} {p:Int} {gR:List iB}:(xJ (ku l) p gR).length=l.length:=by
  have:=congrArg List.length (uQ p gR (ku l));unfold lens ku kQ at this;rw [List.length_map,List.length_map,List.length_map,List.length_map] at this;exact this
theorem Ho {N:Nat} (hN:gT≤N) {w:hJ} (hb:iQ ic w.parts<gT) (p:Int):rG N w p=some (iv w p):=by
  unfold rG iv;simp only [sN hN hb,w8 hN hb,wU (jj hb),PB,j1];cases hw:jD w
  · rfl
  cases hp:jb w p
  · rfl
  obtain ⟨e,hm⟩:=jF hp;have hl:=jj hb;have ht:(nth w.parts p).gR.length<gT:=(jY (jh hb hm)).2.2.2.2.2;simp only [PE,Bool.or_self,PC,Bool.and_self,if_true,decide_eq_true (Nat.lt_of_lt_of_le hl hN),decide_eq_true hl,e,PB];rw [show (gd true).bind=fun (k:Unit→Option hJ)=>k () from rfl];simp only [];rw [EV hN ht (xm hb) (p:=p) (fun ts t h=>Jp hN h p t)];simp only [PB,xX,decide_true];rfl
theorem Jm {N:Nat} (hN:gT≤N) {ts:List iC} {n:Nat} (hn:ts.length=n) (hl:ts.length<gT) {F:List g6→Option (List g6)} (hF:∀ y,y ∈ ts→F y.Py=some y.Py) :
    iter (fun (s114:Int×(List (List g6)))=>(bif (decide (s114.1<(n:Int))) then ((idx ts s114.1).bind fun y117=>(F y117.Py).bind fun y133=>some (.inl (i64.wrap (s114.1+1),s114.2++[y133]))) else (some (.inr (s114.1,s114.2))):Option ((Int×(List (List g6)))⊕(Int×(List (List g6)))))) N (0,[])=some ((n:Int),lr ts):=by
  subst hn
  have e:∀ (l:List iC) (k:Nat) (acc:List (List g6)),foldI (fun _ (acc:List (List g6)) (y:iC)=>acc++[y.Py]) k acc l=acc++lr l:=by
    intro l
    induction l with
    | nil=>intro k acc;simp [foldI,lr]
    | cons y l ih=>intro k acc;unfold foldI;rw [ih];simp [lr]
  rw [show ((0:Int),([]:List (List g6)))=(fun (k:Nat) (t:List (List g6))=>((k:Int),t)) 0 [] from rfl,
    j0 ts (fun (k:Nat) (t:List (List g6))=>((k:Int),t)) (fun _ acc y=>acc++[y.Py]) (fun t=>((ts.length:Int),t)) (fun _ _=>True) ?_ ?_ (Nat.lt_of_lt_of_le hl hN) trivial,e]
  · rfl
  · intro k t y hy hk _;refine ⟨?_,trivial⟩;simp only [iF hk,PD,ik,hy,PB,hF y (List.mem_of_getElem? hy),iJ (Nat.lt_trans hk hl)]
  · intro t _;simp only [iG,PC]
theorem He {N:Nat} (hN:gT≤N) {w:hJ} (hb:iQ ic w.parts<gT) (hW:wW w.parts) (p:Int):rh N w p=some (iv w p):=by
  have hl:=jj hb;have hB:(16777216:Nat)=gT:=rfl;unfold rh iv;simp only [vh hN hb,wR hN hb hW,lv,jg (n:=(w.parts.length:Int) - 1) (by omega) (by omega),PB,j1];cases hw:jD w
  · rfl
  rw [show ig p 0 ((w.parts.length:Int) - 1)=jb w p from rfl];cases hp:jb w p
  · rfl
  obtain ⟨e,hm⟩:=jF hp;have ht:(nth w.parts p).gR.length<gT:=(jY (jh hb hm)).2.2.2.2.2;have hs:=AQ (xm hb) (uQ p (nth w.parts p).gR (ku w.parts));simp only [PE,Bool.or_self,PC,Bool.and_self,if_true,decide_eq_true (Nat.lt_of_lt_of_le hl hN),decide_eq_true hl,e,PB];rw [show (gd true).bind=fun (k:Unit→Option hJ)=>k () from rfl];simp only [];rw [EV hN ht (xm hb) (p:=p) (fun ts t h=>ID hN h p t)];simp only [PB,xX,decide_true];rw [show (gd true).bind=fun (k:Unit→Option hJ)=>k () from rfl];simp only [];rw [Jm hN xX hs.1 fun y hy=>oI (hs.2 y hy)];rfl
end Go.Kx
namespace Go.Kx
open Go
open Go.IntKind (i64)
set_option linter.unusedVariables false
set_option linter.unusedSimpArgs false
set_option maxRecDepth 10000
theorem GG {l:List gP} (h:wA l) (i:Int):nC (nth l i):=by
  unfold nth
  cases e:l[i.toNat]? with
  | none=>show (-9223372036854775808:Int)≤0;decide
  | some o=>exact h o (List.mem_of_getElem? e)
theorem AL {p:bh} (h:wP p) (now:Int):wP (j9 p now):=by
  unfold j9;split
  · show wA (ve p now)
    unfold ve;split
    · exact kD h (GG h _)
    · exact h
  · exact h
theorem D5 {p:bh} (h:wP p) (me now:Int):wP (k6 p me now):=by
  unfold k6;split
  · intro o ho;obtain ⟨x,hx,rfl⟩:=List.mem_map.1 (show o ∈ p.py.ag.map _ from ho);split
    · show (-9223372036854775808:Int)≤0;decide
    · exact h x hx
  · exact h
theorem N5 {p:bh} (h:wP p) (now:Int):wP (oY p now).1:=by
  unfold oY;split
  · split
    · exact h
    · exact kD h (GG h (lI p now))
  · exact h
def o4 (p:bh) (i now:Int):bh:=(kN (k6 (j9 p now) i now) now 3).1
def uC (n:Nat) (p:bh) (i now:Int):bh:=bif Int.tmod now (n:Int)==i then (oY (o4 p i now) now).1 else o4 p i now
def lT (n:Nat) (k:Nat) (w:hJ):hJ:=hJ.mk (iv w (k:Int)).Pt ((iv w (k:Int)).parts.set k (uC n (nth (iv w (k:Int)).parts (k:Int)) (k:Int) (iv w (k:Int)).Pt))
def tick (w:hJ):hJ:=if jD w&&!(w.Pt==1000000) then foldI (fun k t (_:bh)=>lT w.parts.length k t) 0 (hJ.mk (i64.wrap (w.Pt+1)) w.parts) w.parts else w
theorem xQ {p:bh} {b:Nat} (hb:ic p≤b) (h2:b≤2000000) (hw:wP p) (i now:Int):ic (o4 p i now)≤b+1200∧wP (o4 p i now):=by
  have h1:=BC p now;have h3:=BT (j9 p now) i now;obtain ⟨a,c⟩:=HT (p:=k6 (j9 p now) i now) (by omega) (D5 (AL hw now) i now) now 3;exact ⟨by show ic (kN (k6 (j9 p now) i now) now 3).1≤_;omega,c⟩
theorem zW {n:Nat} {p:bh} {b:Nat} (hb:ic p≤b) (h2:b≤2000000) (hw:wP p) (i now:Int):ic (uC n p i now)≤b+1300∧wP (uC n p i now):=by
  obtain ⟨a,c⟩:=xQ hb h2 hw i now;unfold uC;cases Int.tmod now (n:Int)==i
  · exact ⟨by simp only [PC];omega,c⟩
  · have:=MU (o4 p i now) now;exact ⟨by simp only [PD];omega,N5 c now⟩
theorem D2:∀ {l:List bh} {ts:List (List g6)},ts.map List.length=(kQ l).map List.length→(ky l ts).length=l.length∧∀ q,q ∈ ky l ts→∃ p,p ∈ l∧ic q=ic p∧q.py=p.py
  | [],[],_=>⟨rfl,fun _ h=>absurd h (by simp [ky])⟩
  | [],_::_,h=>by simp [kQ] at h
  | _::_,[],h=>by simp [kQ] at h
  | p::l,t::ts,h=>by
    simp only [kQ,List.map_cons,List.cons.injEq] at h;obtain ⟨i1,i2⟩:=D2 (l:=l) (ts:=ts) h.2;refine ⟨by show (tJ p t::ky l ts).length=_;simp [i1],fun q hq=>?_⟩
    rcases List.mem_cons.1 (show q ∈ tJ p t::ky l ts from hq) with rfl | hq
    · exact ⟨p,List.mem_cons_self,by unfold ic tJ;simp only [h.1],rfl⟩
    · obtain ⟨y,hy,e⟩:=i2 q hq;exact ⟨y,List.mem_cons_of_mem _ hy,e⟩
theorem Co (w:hJ) (p:Int):(iv w p).Pt=w.Pt∧(iv w p).parts.length=w.parts.length∧∀ q,q ∈ (iv w p).parts→∃ p,p ∈ w.parts∧ic q=ic p∧q.py=p.py:=by
  unfold iv;split
  · refine ⟨rfl,D2 ?_⟩;have h:(xJ (ku w.parts) p (nth w.parts p).gR).map (fun t=>t.Py.length)=(ku w.parts).map (fun t=>t.Py.length):=uQ p (nth w.parts p).gR (ku w.parts);unfold lr;rw [List.map_map];refine Eq.trans (show _=(xJ (ku w.parts) p (nth w.parts p).gR).map (fun t=>t.Py.length) from rfl) (h.trans ?_);unfold ku;rw [List.map_map];rfl
  · exact ⟨rfl,rfl,fun q hq=>⟨q,hq,rfl,rfl⟩⟩
structure uZ (n:Nat) (k:Nat) (t:hJ):Prop where
  len:t.parts.length=n
  small:n≤3
  sz:∀ p,p ∈ t.parts→ic p≤1048576+1300 * k∧wP p
theorem uZ.nG {n k:Nat} {t:hJ} (h:uZ n k t) (hk:k≤3):iQ ic t.parts<gT:=by
  have hB:(16777216:Nat)=gT:=rfl;have h1:gW ic t.parts≤(1048576+1300 * 3) * t.parts.length:=zB fun y hy=>Nat.le_trans (h.sz y hy).1 (by omega);have h2:=h.len;have h3:=h.small;have h4:(1048576+1300 * 3) * t.parts.length≤(1048576+1300 * 3) * 3:=Nat.mul_le_mul_left _ (by omega);unfold iQ;omega
theorem uZ.w {n k:Nat} {t:hJ} (h:uZ n k t):wW t.parts:=fun p hp=>(h.sz p hp).2
theorem uZ.gR {n k:Nat} {t:hJ} (h:uZ n k t) (p:Int):uZ n k (iv t p):=by
  obtain ⟨_,h2,h3⟩:=Co t p;refine ⟨h2.trans h.len,h.small,fun q hq=>?_⟩;obtain ⟨y,hy,e1,e2⟩:=h3 q hq;obtain ⟨a,b⟩:=h.sz y hy;exact ⟨by omega,by unfold wP at *;rw [e2];exact b⟩
theorem uZ.step {n k:Nat} {t:hJ} (h:uZ n k t) (hk:k<n):uZ n (k+1) (lT n k t):=by
  have hT:=h.gR (k:Int);have hs:=hT.small;refine ⟨by show ((iv t (k:Int)).parts.set k _).length=n;rw [List.length_set];exact hT.len,hT.small,fun q hq=>?_⟩
  rcases List.mem_or_eq_of_mem_set (show q ∈ (iv t (k:Int)).parts.set k _ from hq) with h1 | h1
  · obtain ⟨a,b⟩:=hT.sz q h1;exact ⟨by omega,b⟩
  · subst h1;have hl:=hT.len;obtain ⟨a,b⟩:=hT.sz _ (kZ (l:=(iv t (k:Int)).parts) (i:=(k:Int)) (by omega) (by omega));obtain ⟨c,d⟩:=zW (n:=n) a (by omega) b (k:Int) (iv t (k:Int)).Pt;exact ⟨by omega,d⟩
theorem DN {N:Nat} (hN:gT≤N) {w:hJ} {body:Int×Int×List bh→Option ((Int×Int×List bh)⊕(Int×Int×List bh))} (h0:uZ w.parts.length 0 (hJ.mk (i64.wrap (w.Pt+1)) w.parts))
    (hs:∀ (k:Nat) (t:hJ),k<w.parts.length→k<gT→uZ w.parts.length k t→body ((k:Int),t.Pt,t.parts)=some (.inl (((k+1:Nat):Int),(lT w.parts.length k t).Pt,(lT w.parts.length k t).parts)))
    (he:∀ t:hJ,uZ w.parts.length w.parts.length t→body ((w.parts.length:Int),t.Pt,t.parts)=some (.inr ((w.parts.length:Int),t.Pt,t.parts))) :
    iter body N (0,i64.wrap (w.Pt+1),w.parts)=some ((w.parts.length:Int),(foldI (fun k t (_:bh)=>lT w.parts.length k t) 0 (hJ.mk (i64.wrap (w.Pt+1)) w.parts) w.parts).Pt,(foldI (fun k t (_:bh)=>lT w.parts.length k t) 0 (hJ.mk (i64.wrap (w.Pt+1)) w.parts) w.parts).parts):=by
  have hB:(16777216:Nat)=gT:=rfl;have h3:=h0.small
  exact j0 w.parts (fun (k:Nat) (t:hJ)=>((k:Int),t.Pt,t.parts)) (fun k t _=>lT w.parts.length k t) (fun t=>((w.parts.length:Int),t.Pt,t.parts)) (uZ w.parts.length)
    (fun k t y _ hk hI=>⟨hs k t hk (by omega) hI,hI.step hk⟩) he (Nat.lt_of_lt_of_le (show w.parts.length<gT by omega) hN) h0
theorem Nk {n:Int} (h:n ≠ 0):dz n=some ():=by unfold dz;rw [if_neg h]
theorem BM {w:hJ} (h:jD w=true):1≤w.parts.length∧w.parts.length≤3∧0≤w.Pt∧w.Pt≤1000000:=by
  unfold jD at h;simp only [PG,iW] at h;omega
theorem Mq {N:Nat} (hN:gT≤N) {w:hJ} (hb:iQ ic w.parts<gT) (hW:wW w.parts) (hT0:jD w=true→uZ w.parts.length 0 (hJ.mk (i64.wrap (w.Pt+1)) w.parts)):v7 N w=some (tick w):=by
  have hB:(16777216:Nat)=gT:=rfl;unfold v7 tick;simp only [sN hN hb,w8 hN hb,PB,j1];cases hw:jD w
  · rfl
  cases hm:w.Pt==1000000
  case true=>rfl
  obtain ⟨n1,n3,_,_⟩:=BM hw;simp only [PE,Bool.not_false,Bool.or_self,PC,Bool.and_self,if_true];rw [DN hN (hT0 hw)]
  · rfl
  · intro k t hk hkB hI;have hT:=hI.gR (k:Int);have hl:=hT.len;obtain ⟨a,b⟩:=hT.sz _ (kZ (l:=(iv t (k:Int)).parts) (i:=(k:Int)) (by omega) (by omega));obtain ⟨c,d⟩:=xQ a (by omega) b (k:Int) (iv t (k:Int)).Pt;have q1:=BC (nth (iv t (k:Int)).parts (k:Int)) (iv t (k:Int)).Pt;have q2:=BT (j9 (nth (iv t (k:Int)).parts (k:Int)) (iv t (k:Int)).Pt) (k:Int) (iv t (k:Int)).Pt
    simp only [iF hk,PD,show hJ.mk t.Pt t.parts=t from rfl,Ho hN (hI.nG (by omega)),PB,i9 (l:=(iv t (k:Int)).parts) (i:=(k:Int)) (by omega) (by omega),
      Hs hN (p:=nth (iv t (k:Int)).parts (k:Int)) (by omega),Ii hN (p:=j9 (nth (iv t (k:Int)).parts (k:Int)) (iv t (k:Int)).Pt) (by omega)]
    have e1:=C6 hN (p:=k6 (j9 (nth (iv t (k:Int)).parts (k:Int)) (iv t (k:Int)).Pt) (k:Int) (iv t (k:Int)).Pt) (by omega) (D5 (AL b _) _ _) (iv t (k:Int)).Pt 3;have e2:=Jb hN (p:=o4 (nth (iv t (k:Int)).parts (k:Int)) (k:Int) (iv t (k:Int)).Pt) (by omega) (iv t (k:Int)).Pt;unfold o4 at e2;have e3:((k:Int)==Int.tmod (iv t (k:Int)).Pt (w.parts.length:Int))=(Int.tmod (iv t (k:Int)).Pt (w.parts.length:Int)==(k:Int)):=Bool.beq_comm ..;refine Eq.trans (congrArg (fun x=>Option.bind x _) e1) ?_;simp only [PB,Nk (show (w.parts.length:Int) ≠ 0 by omega),e2,e3,iJ hkB];unfold lT uC o4;generalize oY (kN (k6 (j9 (nth (iv t (k:Int)).parts (k:Int)) (iv t (k:Int)).Pt) (k:Int) (iv t (k:Int)).Pt) (iv t (k:Int)).Pt 3).1 (iv t (k:Int)).Pt=R;generalize kN (k6 (j9 (nth (iv t (k:Int)).parts (k:Int)) (iv t (k:Int)).Pt) (k:Int) (iv t (k:Int)).Pt) (iv t (k:Int)).Pt 3=C;have hid:=i9 (l:=(iv t (k:Int)).parts) (i:=(k:Int)) (by omega) (by omega);generalize iv t (k:Int)=X at hid ⊢;cases Int.tmod X.Pt (w.parts.length:Int)==(k:Int)
    · simp only [PC,PB,hid,Int.toNat_natCast]
    · simp only [PD,PB,hid,Int.toNat_natCast]
  · intro t _;simp only [iG,PC]
theorem LJ {N:Nat} (hN:gT≤N) {w:hJ} (hb:iQ ic w.parts<gT) (hW:wW w.parts) (hT0:jD w=true→uZ w.parts.length 0 (hJ.mk (i64.wrap (w.Pt+1)) w.parts)):wh N w=some (tick w):=by
  have hB:(16777216:Nat)=gT:=rfl;unfold wh tick;simp only [vh hN hb,wR hN hb hW,PB,j1];cases hw:jD w
  · rfl
  obtain ⟨n1,n3,m0,m1⟩:=BM hw
  have hge:decide (w.Pt ≥ 1000000)=(w.Pt==1000000):=by
    by_cases h:w.Pt=1000000
    · simp [h]
    · rw [decide_eq_false (by omega)];simp [h]
  rw [hge];cases hm:w.Pt==1000000
  case true=>rfl
  simp only [PE,Bool.not_false,Bool.or_self,PC,Bool.and_self,if_true];rw [DN hN (hT0 hw)]
  · rfl
  · intro k t hk hkB hI;have hT:=hI.gR (k:Int);have hl:=hT.len;have hl2:=hI.len;obtain ⟨a,b⟩:=hT.sz _ (kZ (l:=(iv t (k:Int)).parts) (i:=(k:Int)) (by omega) (by omega));obtain ⟨c,d⟩:=xQ a (by omega) b (k:Int) (iv t (k:Int)).Pt;have q1:=BC (nth (iv t (k:Int)).parts (k:Int)) (iv t (k:Int)).Pt;have q2:=BT (j9 (nth (iv t (k:Int)).parts (k:Int)) (iv t (k:Int)).Pt) (k:Int) (iv t (k:Int)).Pt
    simp only [hl2,iF hk,PD,show hJ.mk t.Pt t.parts=t from rfl,He hN (hI.nG (by omega)) hI.w,PB,i9 (l:=(iv t (k:Int)).parts) (i:=(k:Int)) (by omega) (by omega),
      G9 hN (p:=nth (iv t (k:Int)).parts (k:Int)) (by omega) b]
    have e0:=HL hN (p:=j9 (nth (iv t (k:Int)).parts (k:Int)) (iv t (k:Int)).Pt) (by omega) (AL b _) (k:Int) (iv t (k:Int)).Pt;have e1:=CV hN (p:=k6 (j9 (nth (iv t (k:Int)).parts (k:Int)) (iv t (k:Int)).Pt) (k:Int) (iv t (k:Int)).Pt) (by omega) (D5 (AL b _) _ _) (iv t (k:Int)).Pt 3;have e2:=JU hN (p:=o4 (nth (iv t (k:Int)).parts (k:Int)) (k:Int) (iv t (k:Int)).Pt) (by omega) d (iv t (k:Int)).Pt;unfold o4 at e2;refine Eq.trans (congrArg (fun x=>Option.bind x _) e0) ?_;simp only [PB,e1,hl,Nk (show (w.parts.length:Int) ≠ 0 by omega),e2,iJ hkB];unfold lT uC o4;generalize oY (kN (k6 (j9 (nth (iv t (k:Int)).parts (k:Int)) (iv t (k:Int)).Pt) (k:Int) (iv t (k:Int)).Pt) (iv t (k:Int)).Pt 3).1 (iv t (k:Int)).Pt=R;generalize kN (k6 (j9 (nth (iv t (k:Int)).parts (k:Int)) (iv t (k:Int)).Pt) (k:Int) (iv t (k:Int)).Pt) (iv t (k:Int)).Pt 3=C;have hid:=i9 (l:=(iv t (k:Int)).parts) (i:=(k:Int)) (by omega) (by omega);generalize iv t (k:Int)=X at hid ⊢;cases Int.tmod X.Pt (w.parts.length:Int)==(k:Int)
    · simp only [PC,PB,hid,Int.toNat_natCast]
    · simp only [PD,PB,hid,Int.toNat_natCast]
  · intro t ht;simp only [ht.len,iG,PC]
end Go.Kx
namespace Go.Kx
open Go
open Go.IntKind (i64)
set_option linter.unusedVariables false
set_option linter.unusedSimpArgs false
set_option maxRecDepth 10000
theorem Nn {t:List g6} {f:Int} {a:hO} (h:(jo t f a).2=false):(jo t f a).1=t:=by
  unfold jo at h ⊢;split
  · rename_i q;rw [if_pos q] at h;split
    · rename_i q2;rw [if_pos q2] at h;cases h
    · rfl
  · rfl
theorem DZ {t:List g6} {f:Int} {a:hO} (h:(jo t f a).2=true):jG t=true∧jd t f=true:=by
  unfold jo at h;split at h
  · rename_i q;simpa using q
  · cases h
theorem KN (t:List g6) (f:Int) (a:hO):(jo t f a).1.map g6.Px=t.map g6.Px:=by
  unfold jo;split
  · rename_i q;simp only [PG] at q;obtain ⟨f0,f4⟩:=ll q.2;have hl:=ph q.1;split
    · rw [List.map_set];refine nv ?_;rw [List.getElem?_map,o9 f0 (by omega)];rfl
    · rfl
  · rfl
def xR:Nat→List Bool→Option Nat
  | _,[]=>none
  | k,b::l=>if b then xR (k+1) l else some k
theorem GR {ρ:Type} (g:Nat→ρ) (r:ρ):∀ (l:List g6) (k:Nat),lg (fun k (_:Unit) (y:g6)=>if y.Px then .inl () else .inr (g k)) (fun _=>r) k () l=(match xR k (l.map g6.Px) with | none=>r | some k=>g k)
  | [],k=>rfl
  | y::l,k=>by
    unfold lg;simp only [List.map_cons,xR];cases y.Px
    · rfl
    · exact GR g r l (k+1)
theorem Ea {ρ:Type} {N:Nat} (hN:gT≤N) {x:List g6} (hx:x.length<gT) (g:Nat→ρ) (r:ρ) {body:Int→Option (Int⊕ρ)}
    (hs:∀ (k:Nat) (y:g6),x[k]?=some y→k<x.length→body (k:Int)=some (if y.Px then .inl ((k+1:Nat):Int) else .inr (g k))) (he:body (x.length:Int)=some (.inr r)) :
    iter body N 0=some (match xR 0 (x.map g6.Px) with | none=>r | some k=>g k):=by
  rw [show (0:Int)=(fun (k:Nat) (_:Unit)=>(k:Int)) 0 () from rfl,
    lK x (fun (k:Nat) (_:Unit)=>(k:Int)) (fun k _ y=>if y.Px then .inl () else .inr (g k)) (fun _=>r) (fun _ _=>True) ?_ ?_ (Nat.lt_of_lt_of_le hx hN) trivial,GR]
  · intro k _ y hy hk _;refine ⟨?_,fun _ _=>trivial⟩
    show body (k:Int)=_
    rw [hs k y hy hk];cases y.Px<;>rfl
  · intro _ _;exact he
def lM (t:List g6) (f:Int) (a:hO):List g6×Int×Bool :=
  if (jo t f a).2 then (match xR 0 (t.map g6.Px) with | none=>(t,0,false) | some k=>((jo t f a).1.set k (g6.mk true f a),(k:Int),true)) else (t,0,false)
theorem CK (t:List g6) (f:Int) (a:hO):(lM t f a).1.length=t.length:=by
  unfold lM;split
  · split
    · rfl
    · simp only [List.length_set,lj]
  · rfl
theorem FW {N:Nat} (hN:gT≤N) {t:List g6} (hB:t.length<gT) (f:Int) (a:hO):pQ N t f a=some (lM t f a):=by
  unfold pQ lM;simp only [uV hN hB,PB];cases h:(jo t f a).2
  · simp only [Bool.not_false,PD,Nn h,Bool.false_eq_true,if_false]
  simp only [PE,PC,if_true];rw [Ea hN hB (fun k=>Sum.inr ((jo t f a).1.set k (g6.mk true f a),(k:Int),true)) (Sum.inl (t.length:Int))]
  · simp only [PB];cases xR 0 (t.map g6.Px)
    · simp only [Sum.elim_inl,oo hB,PB]
    · rfl
  · intro k y hy hk;have hp:=lj t f a;simp only [iF hk,PD,ik,hy,PB,iJ (Nat.lt_trans hk hB),Int.toNat_natCast];cases y.Px
    · have:((jo t f a).1[k]?)=some ((jo t f a).1[k]'(by omega)):=List.getElem?_eq_getElem (by omega);simp only [this,Bool.not_false,PD,PB,Bool.false_eq_true,if_false]
    · simp only [PE,PC,if_true]
  · simp only [iG,PC]
theorem Fb {N:Nat} (hN:gT≤N) {t:List g6} (hB:t.length<gT) (f:Int) (a:hO):pW N t f a=some (lM t f a):=by
  unfold pW lM;simp only [tw hN hB,PB];cases h:(jo t f a).2
  · simp only [Bool.not_false,PD,oI hB,PB,Bool.false_eq_true,if_false]
  have hp:=lj t f a;simp only [PE,PC,if_true];rw [Ea (x:=(jo t f a).1) hN (by omega) (fun k=>Sum.inr ((jo t f a).1.set k (g6.mk true f a),(k:Int),true)) (Sum.inl ((jo t f a).1.length:Int)),KN]
  · simp only [PB];cases xR 0 (t.map g6.Px)
    · simp only [Sum.elim_inl,oI hB,PB]
    · rfl
  · intro k y hy hk;simp only [iF hk,PD,ik,hy,PB,iJ (show k<gT by omega),Int.toNat_natCast];cases y.Px<;>rfl
  · simp only [iG,PC]
def m3 (t:List g6) (f g:Int) (a:hO):List g6×Bool:=if (jo t f a).2&&jd t g then pO (jo t f a).1 g a else (t,false)
theorem DE (t:List g6) (f g:Int) (a:hO):(m3 t f g a).1.length=t.length:=by
  unfold m3;split
  · rw [wc,lj]
  · rfl
theorem GW {N:Nat} (hN:gT≤N) {t:List g6} (hB:t.length<gT) (f g:Int) (a:hO):ra N t f g a=some (m3 t f g a):=by
  unfold ra m3;have hp:=lj t f a;simp only [uV hN hB,PB];cases h:(jo t f a).2
  · simp only [Bool.not_false,PD,oo hB,PB,Bool.false_and,Bool.false_eq_true,if_false]
  have hl:=ph (DZ h).1;simp only [PE,PC,rj N hl,PB,PF];cases jd t g
  · simp only [Bool.not_false,PD,oo hB,PB,Bool.false_eq_true,if_false]
  · simp only [PE,PC,if_true,yj hN (show (jo t f a).1.length<gT by omega),PB]
theorem H8 {N:Nat} (hN:gT≤N) {t:List g6} (hB:t.length<gT) (f g:Int) (a:hO):rk N t f g a=some (m3 t f g a):=by
  unfold rk m3;have hp:=lj t f a;simp only [s7 hN,tw hN hB,PB];cases h:(jo t f a).2
  · cases jG t&&jd t g<;>simp only [Bool.not_false,PE,PD,PC,oI hB,PB,Bool.false_and,Bool.false_eq_true,if_false]
  rw [(DZ h).1];simp only [PF];cases jd t g
  · simp only [Bool.not_false,PD,oI hB,PB,Bool.false_eq_true,if_false]
  · simp only [PE,PC,if_true,ya hN (show (jo t f a).1.length<gT by omega),PB]
theorem J3 {t:List g6} (h:Tr t) {i:Int} (hv:jd t i=true) (hi:i ≠ 0):0≤up t i∧up t i≤4∧up t i ≠ i∧(nth t (up t i)).Px=true:=by
  obtain ⟨i0,i4⟩:=ll hv;have hl:=h.len;have hg:=o9 (l:=t) i0 (by omega)
  have hlv:(nth t i).Px=true:=by
    unfold jd at hv;simp only [PG] at hv;exact hv.2
  have h1:=h.lead i.toNat (nth t i) hg hlv;rw [show ((i.toNat:Nat):Int)=i by omega] at h1
  have hne:up t i ≠ i:=fun q=>by rw [Ag hi q] at h1;cases h1
  have h2:leads t 4 (up t i)=true:=by
    unfold leads at h1;simpa [hi,hv] using h1
  by_cases hu:up t i=0
  · rw [hu];exact ⟨by omega,by omega,fun q=>hi q.symm,h.HN⟩
  · unfold leads at h2
    have h3:jd t (up t i)=true:=by
      cases q:jd t (up t i)
      · simp [hu,q] at h2
      · rfl
    obtain ⟨a,b⟩:=ll h3;unfold jd at h3;simp only [PG] at h3;exact ⟨a,b,hne,h3.2⟩
def CH (s:hO) (B:Int):Prop:=(0≤s.gE∧s.gE≤B)∧(0≤s.gX∧s.gX≤B)∧(0≤s.g8∧s.g8≤B)
theorem Cu {s a:hO} {B:Int} (hs:CH s B) (ha:iN a=true) (hB:B≤1000000000):(iS s a).gE=s.gE+a.gE∧(iS s a).gX=s.gX+a.gX∧(iS s a).g8=s.g8+a.g8∧CH (iS s a) (B+1000000):=by
  have h:=kR.1 ha;unfold CH at hs;have w1:(iS s a).gE=s.gE+a.gE:=jg (by omega) (by omega);have w2:(iS s a).gX=s.gX+a.gX:=jg (by omega) (by omega);have w3:(iS s a).g8=s.g8+a.g8:=jg (by omega) (by omega);exact ⟨w1,w2,w3,⟨by omega,by omega⟩,⟨by omega,by omega⟩,⟨by omega,by omega⟩⟩
theorem Af:∀ (t:List g6) (s:hO) (B:Int),(∀ r,r ∈ t→iN r.iH=true)→0≤B→B+1000000 * (t.length:Int)≤1000000000→CH s B→∀ (k:Nat) (r:g6),t[k]?=some r→r.Px=true →
    s.gE+r.iH.gE≤(jq s t).gE∧s.gX+r.iH.gX≤(jq s t).gX∧s.g8+r.iH.g8≤(jq s t).g8
  | [],s,B,_,_,_,_,k,r,hr,_=>by simp at hr
  | x::t,s,B,h,hB,hL,hs,k,r,hr,hv=>by
    have hx:=h x (by simp);simp only [List.length_cons] at hL;obtain ⟨w1,w2,w3,w4⟩:=Cu hs hx (by omega);have hx':=kR.1 hx;have e:jq s (x::t)=jq (if x.Px then iS s x.iH else s) t:=rfl;rw [e];have ht:∀ r,r ∈ t→iN r.iH=true:=fun r hr=>h r (by simp [hr])
    match k with
    | 0 =>
      simp only [List.getElem?_cons_zero,Option.some.injEq] at hr;subst hr;rw [if_pos hv];obtain ⟨⟨a1,a2,a3⟩,_⟩:=vC t (iS s x.iH) (B+1000000) ht (by omega) (by omega) w4.1 w4.2.1 w4.2.2;exact ⟨by omega,by omega,by omega⟩
    | k+1 =>
      rw [List.getElem?_cons_succ] at hr;cases hxl:x.Px
      · exact Af t s B ht hB (by omega) hs k r hr hv
      · obtain ⟨a1,a2,a3⟩:=Af t (iS s x.iH) (B+1000000) ht (by omega) (by omega) w4 k r hr hv;rw [if_pos rfl];exact ⟨by omega,by omega,by omega⟩
theorem x7:∀ (t:List g6) (s:hO) (B:Int),(∀ r,r ∈ t→iN r.iH=true)→0≤B→B+1000000 * (t.length:Int)≤1000000000→CH s B→∀ (k j:Nat) (r q:g6),k<j→t[k]?=some r→r.Px=true→t[j]?=some q→q.Px=true →
    r.iH.gE+q.iH.gE≤(jq s t).gE∧r.iH.gX+q.iH.gX≤(jq s t).gX∧r.iH.g8+q.iH.g8≤(jq s t).g8
  | [],s,B,_,_,_,_,k,j,r,q,_,hr,_,_,_=>by simp at hr
  | x::t,s,B,h,hB,hL,hs,k,j,r,q,hkj,hr,hv,hq,hw=>by
    have hx:=h x (by simp);simp only [List.length_cons] at hL;obtain ⟨w1,w2,w3,w4⟩:=Cu hs hx (by omega);have e:jq s (x::t)=jq (if x.Px then iS s x.iH else s) t:=rfl;rw [e];have ht:∀ r,r ∈ t→iN r.iH=true:=fun r hr=>h r (by simp [hr]);unfold CH at hs
    match k,j,hkj with
    | 0,j+1,_ =>
      simp only [List.getElem?_cons_zero,Option.some.injEq] at hr;subst hr;rw [List.getElem?_cons_succ] at hq;rw [if_pos hv];obtain ⟨a1,a2,a3⟩:=Af t (iS s x.iH) (B+1000000) ht (by omega) (by omega) w4 j q hq hw;exact ⟨by omega,by omega,by omega⟩
    | k+1,j+1,hkj =>
      rw [List.getElem?_cons_succ] at hr hq;cases hxl:x.Px
      · exact x7 t s B ht hB (by omega) hs k j r q (by omega) hr hv hq hw
      · rw [if_pos rfl];exact x7 t (iS s x.iH) (B+1000000) ht (by omega) (by omega) w4 k j r q (by omega) hr hv hq hw
theorem LU {t:List g6} (h:Tr t) {u i:Int} (hu:0≤u∧u≤4) (hi:0≤i∧i≤4) (hne:u ≠ i) (h1:(nth t u).Px=true) (h2:(nth t i).Px=true):kt (nth t u).iH (nth t i).iH=(iS (nth t u).iH (nth t i).iH,true):=by
  have hl:=h.len
  have z:CH ⟨0,0,0⟩ 0:=by unfold CH;decide
  have hS:=kR.1 h.sum;have gu:=o9 (l:=t) (i:=u) hu.1 (by omega);have gi:=o9 (l:=t) (i:=i) hi.1 (by omega);have bu:=h.iH _ (List.mem_of_getElem? gu);have bi:=h.iH _ (List.mem_of_getElem? gi);have bu':=kR.1 bu;have bi':=kR.1 bi
  have key:(nth t u).iH.gE+(nth t i).iH.gE≤(jq ⟨0,0,0⟩ t).gE∧(nth t u).iH.gX+(nth t i).iH.gX≤(jq ⟨0,0,0⟩ t).gX∧(nth t u).iH.g8+(nth t i).iH.g8≤(jq ⟨0,0,0⟩ t).g8:=by
    rcases Int.lt_or_gt_of_ne hne with q | q
    · exact x7 t ⟨0,0,0⟩ 0 h.iH (by omega) (by omega) z u.toNat i.toNat _ _ (by omega) gu h1 gi h2
    · obtain ⟨a,b,c⟩:=x7 t ⟨0,0,0⟩ 0 h.iH (by omega) (by omega) z i.toNat u.toNat _ _ (by omega) gi h2 gu h1;exact ⟨by omega,by omega,by omega⟩
  have v1:(iS (nth t u).iH (nth t i).iH).gE=(nth t u).iH.gE+(nth t i).iH.gE:=jg (by omega) (by omega);have v2:(iS (nth t u).iH (nth t i).iH).gX=(nth t u).iH.gX+(nth t i).iH.gX:=jg (by omega) (by omega);have v3:(iS (nth t u).iH (nth t i).iH).g8=(nth t u).iH.g8+(nth t i).iH.g8:=jg (by omega) (by omega);have:iN (iS (nth t u).iH (nth t i).iH)=true:=kR.2 ⟨by omega,by omega,by omega⟩;unfold kt;rw [bu,bi,this];rfl
def v8 (i u:Int) (r:g6):g6:=if r.Px&&(r.Pv==i) then g6.mk r.Px u r.iH else r
def dropped (t:List g6) (i:Int):List g6:=(t.set (up t i).toNat (BO (nth t (up t i)) (iS (nth t (up t i)).iH (nth t i).iH))).set i.toNat rN
def m4 (t:List g6) (i:Int):List g6×Bool:=if (jG t&&jd t i)&&(i != 0) then ((dropped t i).map (v8 i (up t i)),true) else (t,false)
theorem DA (t:List g6) (i:Int):(m4 t i).1.length=t.length:=by
  unfold m4 dropped;split<;>simp
theorem H3 {N:Nat} (hN:gT≤N) {t:List g6} (hB:t.length<gT) (i:Int):rf N t i=some (m4 t i):=by
  unfold rf m4;simp only [oI hB,s7 hN,PB,j1];cases h:(jG t&&jd t i)
  · rfl
  simp only [PG] at h;have hT:=rW.1 h.1;have hl:=hT.len;cases hi:(i==0)
  case true=>simp only [PE,Bool.or_true,PD,PF,bne,hi,Bool.false_eq_true,if_false]
  have hi':i ≠ 0:=by simpa using hi
  obtain ⟨i0,i4⟩:=ll h.2;obtain ⟨u0,u4,une,ulv⟩:=J3 hT h.2 hi'
  have ilv:(nth t i).Px=true:=by
    have:=h.2;unfold jd at this;simp only [PG] at this;exact this.2
  have eu:idx t (nth t i).Pv=some (nth t (up t i)):=i9 (i:=up t i) u0 (by omega);have ff:=LU hT ⟨u0,u4⟩ ⟨i0,i4⟩ une ulv ilv;have e2:∀ z,idx (t.set (nth t i).Pv.toNat z) i=some (nth (t.set (nth t i).Pv.toNat z) i):=fun z=>i9 i0 (by simp only [List.length_set];omega);simp only [PE,Bool.or_false,PC,i9 (l:=t) i0 (by omega),eu,wo,ff,PB,e2,bne,hi,Bool.not_false,Bool.and_self,if_true];rw [show (((t.set (nth t i).Pv.toNat (g6.mk (nth t (up t i)).Px (nth t (up t i)).Pv (hO.mk (iS (nth t (up t i)).iH (nth t i).iH).gE (iS (nth t (up t i)).iH (nth t i).iH).gX (iS (nth t (up t i)).iH (nth t i).iH).g8))).set i.toNat (g6.mk false 0 (hO.mk 0 0 0))))=dropped t i from rfl];rw [td (dropped t i) (v8 i (up t i)) (show (dropped t i).length<N by unfold dropped;simp only [List.length_set];omega)]
  · rfl
  · intro k x y hx hty _ hk
    have hk':k<x.length:=by omega
    have hk2:k<t.length:=by unfold dropped at hk;simp only [List.length_set] at hk;omega
    simp only [iF hk',PD,ik,hty,PB,kI,iJ (show k<gT by omega),Int.toNat_natCast];unfold v8;cases (y.Px&&(y.Pv==i))
    · simp only [PC,Bool.false_eq_true,if_false,nv hty]
    · simp only [PD,if_true];rfl
  · intro x hx;rw [← hx];simp only [iG,PC]
theorem HA {N:Nat} (hN:gT≤N) {t:List g6} (hB:t.length<gT) (i:Int):qU N t i=some (m4 t i):=by
  unfold qU m4;simp only [oo hB,qQ hN,PB];cases ht:jG t
  · rfl
  have hT:=rW.1 ht;have hl:=hT.len;cases hi:(i==0)
  case true=>simp only [PE,PC,PD,PB,PF,bne,hi,Bool.and_false,Bool.false_eq_true,if_false]
  have hi':i ≠ 0:=by simpa using hi
  simp only [PE,PC,rj N hl,PB];cases hv:jd t i
  · rfl
  obtain ⟨i0,i4⟩:=ll hv;obtain ⟨u0,u4,une,ulv⟩:=J3 hT hv hi';have eu:idx t (nth t i).Pv=some (nth t (up t i)):=i9 (i:=up t i) u0 (by omega);have e2:∀ z,idx (t.set (nth t i).Pv.toNat z) i=some (nth (t.set (nth t i).Pv.toNat z) i):=fun z=>i9 i0 (by simp only [List.length_set];omega);simp only [PE,PC,i9 (l:=t) i0 (by omega),eu,tq,PB,e2,bne,hi,Bool.not_false,Bool.and_self,if_true];rw [show (((t.set (nth t i).Pv.toNat (g6.mk (nth t (up t i)).Px (nth t (up t i)).Pv (iS (nth t (up t i)).iH (nth t i).iH))).set i.toNat (g6.mk false 0 (hO.mk 0 0 0))))=dropped t i from rfl];rw [td (dropped t i) (v8 i (up t i)) (show (dropped t i).length<N by unfold dropped;simp only [List.length_set];omega)]
  · rfl
  · intro k x y hx hty _ hk
    have hk':k<t.length:=by unfold dropped at hk;simp only [List.length_set] at hk;omega
    simp only [iF hk',PD,ik,hty,PB,kI,iJ (show k<gT by omega),Int.toNat_natCast];unfold v8;cases (y.Px&&(y.Pv==i))
    · simp only [PC,Bool.false_eq_true,if_false,nv hty]
    · simp only [PD,if_true];rfl
  · intro x hx;rw [show (dropped t i).length=t.length by unfold dropped;simp only [List.length_set]];simp only [iG,PC]
end Go.Kx
