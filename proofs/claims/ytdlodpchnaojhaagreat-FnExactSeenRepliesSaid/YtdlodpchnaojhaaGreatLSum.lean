import Derived.Test.YtdlodpchnaojhaaGreatLReach
namespace Go.Kx
open Go
open Go.IntKind (i64)
set_option linter.unusedVariables false
set_option linter.unusedSimpArgs false
set_option maxRecDepth 10000
def NA (a:hJ):Prop:=i64.wrap a.gE=a.gE∧i64.wrap a.gT=a.gT∧i64.wrap a.g8=a.g8
theorem wrap_wrap (n:Int):i64.wrap (i64.wrap n)=i64.wrap n:=by
  have:-9223372036854775808≤i64.wrap n∧i64.wrap n≤9223372036854775807:=by
    simp only [IntKind.wrap,IntKind.signed,IntKind.bits];simp;omega
  exact iY this.1 this.2
theorem NA.sum (a b:hJ):NA (iO a b):=⟨wrap_wrap _,wrap_wrap _,wrap_wrap _⟩
theorem NA.zero:NA ⟨0,0,0⟩:=⟨by decide,by decide,by decide⟩
theorem Jj {a:hJ} (h:NA a):iO a ⟨0,0,0⟩=a:=by
  obtain ⟨h1,h2,h3⟩:=h;unfold iO;simp only [Int.add_zero,h1,h2,h3]
def mP (t:List g7):hJ:=if jy t then jh ⟨0,0,0⟩ t else ⟨0,0,0⟩
theorem HK {N:Nat} (hN:gS≤N) {t:List g7} (hB:t.length<gS):sv N t=some (mP t):=by
  unfold sv mP;rw [vR hN,Ok,Bg hN hB];cases jy t<;>rfl
theorem CG:∀ (t:List g7) (s:hJ),NA s→(∀ r,r ∈ t→r.Of=false→r.iG=⟨0,0,0⟩)→t.foldl (fun s r=>iO s r.iG) s=jh s t
  | [],s,_,_=>rfl
  | r::t,s,hs,h=>by
    unfold jh;simp only [List.foldl_cons];cases hl:r.Of
    · rw [h r (by simp) hl,Jj hs];exact CG t s hs fun x hx=>h x (by simp [hx])
    · exact CG t _ (NA.sum _ _) fun x hx=>h x (by simp [hx])
structure Tr (t:List g7):Prop where
  len:t.length=5
  Gv:(nth t 0).Of=true
  NL:(nth t 0).Og=-1
  dead:∀ r,r ∈ t→r.Of=false→r=qD
  iG:∀ r,r ∈ t→iH r.iG=true
  lead:∀ (k:Nat) (r:g7),t[k]?=some r→r.Of=true→leads t 5 (k:Int)=true
  sum:iH (jh ⟨0,0,0⟩ t)=true
theorem Ja:iH qD.iG=true:=by decide
theorem rE {t:List g7}:jy t=true ↔ Tr t:=by
  unfold jy;simp only [Oq,Bool.not_eq_true',bne_eq_false_iff_eq,lQ,Nat.zero_add];constructor
  · rintro ⟨h1,h2,h3,h4,h5⟩;have hm:∀ r,r ∈ t→∃ k:Nat,t[k]?=some r:=fun o ho=>List.getElem?_of_mem ho;refine ⟨by omega,h2,h3,fun r hr hl=>?_,fun r hr=>?_,fun k r hk hl=>?_,h5⟩
    · obtain ⟨k,hk⟩:=hm r hr;have:=h4 k r hk;unfold nD at this;simpa [hl] using this
    · obtain ⟨k,hk⟩:=hm r hr;have:=h4 k r hk;unfold nD at this;split at this
      · simp only [Oq] at this;exact this.1
      · simp only [decide_eq_true_eq] at this;rw [this];exact Ja
    · have:=h4 k r hk;unfold nD at this;rw [if_pos hl] at this;simp only [Oq] at this;exact this.2
  · intro h;refine ⟨by have:=h.len;omega,h.Gv,h.NL,fun k r hr=>?_,h.sum⟩;unfold nD;have hm:=List.mem_of_getElem? hr;cases hl:r.Of
    · simp [h.dead r hm hl]
    · simp [h.iG r hm,h.lead k r hr hl]
theorem B9 {N:Nat} (hN:gS≤N) {t:List g7} (hB:t.length<gS):qj N t=some (mP t):=by
  unfold qj mP;rw [ri hN,Ok];cases h:jy t
  · rfl
  have ht:=rE.1 h;simp only [On,Ol,if_true]
  rw [show ((0:Int),(0:Int),(0:Int),(0:Int))=(fun (k:Nat) (s:hJ)=>((k:Int),s.gE,s.gT,s.g8)) 0 ⟨0,0,0⟩ from rfl,
    jM t (fun (k:Nat) (s:hJ)=>((k:Int),s.gE,s.gT,s.g8)) (fun _ s r=>iO s r.iG) (fun s=>((t.length:Int),s.gE,s.gT,s.g8)) (fun _ _=>True) ?_ ?_ (Nat.lt_of_lt_of_le hB hN) trivial,kX,CG t _ NA.zero fun r hr hl=>by rw [ht.dead r hr hl];rfl]
  · rfl
  · intro k s r hy hk _;simp only [iE hk,Om,ij,hy,Ok,sN,iK (Nat.lt_trans hk hB)];exact ⟨trivial,trivial⟩
  · intro s _;simp only [iF,Ol]
def held (p:cd):Int:=((p.py.ag.take 10).filter j2).foldl (fun n o=>i64.wrap (n+o.gE)) 0
theorem foldl_filter {α β:Type} (p:α→Bool) (g:β→α→β):∀ (l:List α) (b:β),(l.filter p).foldl g b=l.foldl (fun b y=>if p y then g b y else b) b
  | [],_=>rfl
  | y::l,b=>by
    rw [List.filter_cons,List.foldl_cons];cases h:p y
    · simp [foldl_filter p g l]
    · simp [foldl_filter p g l]
theorem foldl_map' {α β γ:Type} (f:α→γ) (g:β→γ→β):∀ (l:List α) (b:β),(l.map f).foldl g b=l.foldl (fun b y=>g b (f y)) b
  | [],_=>rfl
  | y::l,b=>by simp [foldl_map' f g l]
theorem BD {α β:Type} (p:α→Bool) (h:α→β):∀ (l:List α) (k:Nat),lZ (fun _ y=>p y) (fun _ y=>h y) k l=(l.filter p).map h
  | [],_=>rfl
  | y::l,k=>by
    unfold lZ;rw [BD p h l,List.filter_cons];split<;>simp
theorem LK {N:Nat} (hN:gS≤N) {p:cd} (hb:ic p<gS) (hw:wP p):vh N p=some (held p):=by
  have h4:=(jK hb).2.2.2.1;have hl:=jz h4;have hN':16777216≤N:=hN;unfold vh held
  rw [foldl_filter,show ((0:Int),(0:Int))=(fun (k:Nat) (n:Int)=>(n,(k:Int))) 0 0 from rfl,
    jM (p.py.ag.take 10) (fun (k:Nat) (n:Int)=>(n,(k:Int))) (fun _ n o=>if j2 o then i64.wrap (n+o.gE) else n) (fun n=>(n,(((p.py.ag.take 10).length:Nat):Int))) (fun _ _=>True) ?_ ?_ (by simp;omega) trivial,kX]
  · rfl
  · intro k n y hy hk _
    have hk2:k<10∧k<p.py.ag.length:=by simp at hk;omega
    rw [List.getElem?_take_of_lt hk2.1] at hy;have hm:=List.mem_of_getElem? hy
    have h3:decide ((k:Int)<10)=true:=by simp;omega
    refine ⟨?_,trivial⟩;simp only [iE hk2.2,h3,Om,ij,hy,Ok,FY hN (jm h4 hm) (hw y hm),iK (show k<gS from Nat.lt_trans hk2.1 (by decide))];cases j2 y<;>rfl
  · intro n _;simp only [List.length_take]
    rcases Nat.lt_or_ge 10 p.py.ag.length with h | h
    · have e:min 10 p.py.ag.length=10:=by omega
      have h3:decide (((10:Nat):Int)<(p.py.ag.length:Int))=true:=by simp;omega
      simp only [e,h3,Om];rfl
    · have e:min 10 p.py.ag.length=p.py.ag.length:=by omega
      simp only [e,iF,Ol,Ok]
def view (o:gP):pF:=pF.mk o.Oe o.N0 o.box o.Od o.iw o.gE o.N9 o.iv o.iu o.Ob
theorem MT (n:Nat):(if (10:Int)<(n:Int) then (10:Int) else (n:Int))=((min 10 n:Nat):Int):=by split<;>omega
theorem Cy {N:Nat} (hN:gS≤N) {p:cd} (hb:ic p<gS):om N p=some (((p.py.ag.take 10).filter j2).map view):=by
  have h4:=(jK hb).2.2.2.1;have h10:iQ hX (p.py.ag.take 10)<gS:=Nat.lt_of_le_of_lt (I9 _ _ _) h4;have hl:=jz h10;unfold om
  have e:p.py.ag.take (min 10 p.py.ag.length)=p.py.ag.take 10:=by
    rcases Nat.lt_or_ge 10 p.py.ag.length with h | h
    · rw [show min 10 p.py.ag.length=10 by omega]
    · rw [show min 10 p.py.ag.length=p.py.ag.length by omega,List.take_of_length_le h,List.take_length]
  rw [MT,xv (by omega),e,Ok,mB (p.py.ag.take 10) (fun _ o=>j2 o) (fun _ o=>view o) hl hN,BD]
  · rfl
  · intro k t y hy hk ht;have hz:=jm h10 (List.mem_of_getElem? hy);simp only [iE hk,Om,ij,hy,Ok,Ft hN hz,iK (Nat.lt_trans hk hl),j6 ht (Nat.lt_of_le_of_lt hk hl)];cases j2 y<;>rfl
  · intro t;simp only [iF,Ol]
theorem L9 {N:Nat} (hN:gS≤N) {p:cd} (hb:ic p<gS):vj N p=some (held p):=by
  unfold vj held;rw [Cy hN hb,Ok]
  have hl:(((p.py.ag.take 10).filter j2).map view).length<gS:=by
    have h1:=List.length_filter_le j2 (p.py.ag.take 10);have h2:(16777216:Nat)=gS:=rfl;simp only [List.length_map];simp only [List.length_take] at h1;omega
  have e:=foldl_map' view (fun (n:Int) (o:pF)=>i64.wrap (n+o.gE)) ((p.py.ag.take 10).filter j2) 0;generalize ((p.py.ag.take 10).filter j2).map view=v at *
  rw [show ((0:Int),(0:Int))=(fun (k:Nat) (n:Int)=>(n,(k:Int))) 0 0 from rfl,
    jM v (fun (k:Nat) (n:Int)=>(n,(k:Int))) (fun _ n o=>i64.wrap (n+o.gE)) (fun n=>(n,(v.length:Int))) (fun _ _=>True) ?_ ?_ (Nat.lt_of_lt_of_le hl hN) trivial,kX,e]
  · rfl
  · intro k n y hy hk _;simp only [iE hk,Om,ij,hy,Ok,iK (Nat.lt_trans hk hl)];exact ⟨trivial,trivial⟩
  · intro n _;simp only [iF,Ol]
def rp (p:cd):hJ:=if iH p.bh then iO ⟨i64.wrap ((mP p.N1).gE+held p),(mP p.N1).gT,(mP p.N1).g8⟩ p.bh else mP p.N1
theorem Ij {N:Nat} (hN:gS≤N) {p:cd} (hb:ic p<gS):sd N p=some (rp p):=by
  unfold sd rp;simp only [B9 hN (jK hb).2.2.1,qe,L9 hN hb,sN,Ok];cases iH p.bh<;>rfl
theorem Ip {N:Nat} (hN:gS≤N) {p:cd} (hb:ic p<gS) (hw:wP p):r7 N p=some (rp p):=by
  unfold r7 rp;simp only [HK hN (jK hb).2.2.1,qt,LK hN hb hw,Ok];cases iH p.bh<;>rfl
def vf (s:hJ) (l:List cd):hJ:=l.foldl (fun s p=>iO s (rp p)) s
def ju (w:hO):Bool:=ia w.Oc 0 1000000&&(ia (w.parts.length:Int) 1 3&&(w.parts.all jd&&iH (vf ⟨0,0,0⟩ w.parts)))
def wW (l:List cd):Prop:=∀ p,p ∈ l→wP p
theorem Jn {N:Nat} (hN:gS≤N) {l:List cd} (hb:iQ ic l<gS) (hw:wW l):tf N l=some (vf ⟨0,0,0⟩ l):=by
  have hB:=jz hb;unfold tf vf
  rw [show ((0:Int),(0:Int),(0:Int),(0:Int))=(fun (k:Nat) (s:hJ)=>((k:Int),s.gE,s.gT,s.g8)) 0 ⟨0,0,0⟩ from rfl,
    jM l (fun (k:Nat) (s:hJ)=>((k:Int),s.gE,s.gT,s.g8)) (fun _ s p=>iO s (rp p)) (fun s=>((l.length:Int),s.gE,s.gT,s.g8)) (fun _ _=>True) ?_ ?_ (Nat.lt_of_lt_of_le hB hN) trivial,kX]
  · rfl
  · intro k s p hy hk _;have hm:=List.mem_of_getElem? hy;simp only [iE hk,Om,ij,hy,Ok,Ip hN (jm hb hm) (hw p hm),iK (Nat.lt_trans hk hB)];exact ⟨rfl,trivial⟩
  · intro s _;simp only [iF,Ol]
theorem vZ {N:Nat} (hN:gS≤N) {w:hO} (hb:iQ ic w.parts<gS) (hw:wW w.parts):m7 N w=some (ju w):=by
  have hB:=jz hb;unfold m7 ju;simp only [k5,Ok,jR];cases ia w.Oc 0 1000000
  · rfl
  cases ia (w.parts.length:Int) 1 3
  · rfl
  simp only [On,Bool.or_self,Ol,Oo];rw [jH w.parts (fun _ p=>jd p) (.inl (w.parts.length:Int)) (.inr false) (Nat.lt_of_lt_of_le hB hN),j3]
  · simp only [Ok,Jn hN hb hw,qt];cases w.parts.all jd<;>rfl
  · intro k y hy hk;have hm:=List.mem_of_getElem? hy;simp only [iE hk,Om,ij,hy,Ok,sF hN (jm hb hm) (hw y hm),iK (Nat.lt_trans hk hB)];cases jd y<;>rfl
  · simp only [iF,Ol]
theorem wu {N:Nat} (hN:gS≤N) {w:hO} (hb:iQ ic w.parts<gS):m6 N w=some (ju w):=by
  have hB:=jz hb;unfold m6 ju;simp only [vu,lv,Ok,jR];cases ia w.Oc 0 1000000
  · rfl
  cases ia (w.parts.length:Int) 1 3
  · rfl
  simp only [On,Bool.or_self,Ol,Oo]
  rw [show ((0:Int),(0:Int),(0:Int),(0:Int))=(fun (k:Nat) (s:hJ)=>((k:Int),s.gE,s.gT,s.g8)) 0 ⟨0,0,0⟩ from rfl,
    lD w.parts (fun (k:Nat) (s:hJ)=>((k:Int),s.gE,s.gT,s.g8)) (fun _ s p=>if jd p then .inl (iO s (rp p)) else .inr (.inr false)) (fun s=>.inl ((w.parts.length:Int),s.gE,s.gT,s.g8)) (fun _ _=>True) ?_ ?_ (Nat.lt_of_lt_of_le hB hN) trivial]
  · simp only [Ok,qe]
    have key:∀ (l:List cd) (k:Nat) (s:hJ),Sum.elim (fun (o56:Int×Int×Int×Int)=>some (iH (hJ.mk o56.2.1 o56.2.2.1 o56.2.2.2))) (fun r61=>some r61) (kR (fun _ s p=>if jd p then .inl (iO s (rp p)) else .inr (.inr false)) (fun s=>.inl ((w.parts.length:Int),s.gE,s.gT,s.g8)) k s l)=some (l.all jd&&iH (vf s l)):=by
      intro l
      induction l with
      | nil=>intro k s;rfl
      | cons p l ih =>
        intro k s;unfold kR;rw [List.all_cons];cases hp:jd p
        · rfl
        · simpa [vf] using ih (k+1) (iO s (rp p))
    exact key w.parts 0 _
  · intro k s p hy hk _;have hm:=List.mem_of_getElem? hy;refine ⟨?_,fun _ _=>trivial⟩;simp only [iE hk,Om,ij,hy,Ok,sK hN (jm hb hm),Ij hN (jm hb hm),sN,iK (Nat.lt_trans hk hB)];cases jd p<;>rfl
  · intro s _;simp only [iF,Ol]
end Go.Kx
namespace Go.Kx
open Go
open Go.IntKind (i64)
set_option linter.unusedVariables false
set_option linter.unusedSimpArgs false
set_option maxRecDepth 10000
theorem o3 {t:List g7} (h:jy t=true):t.length=5:=(rE.1 h).len
def nE (p:cd) (i:Int):Int:=if jy p.N1&&i9 p.N1 i then i else 0
theorem kZ {t:List g7} {i:Int} (h:i9 t i=true):0≤i∧i≤4:=by
  unfold i9 at h;simp only [Oq,iR] at h;exact h.1
theorem ui (p:cd) (i:Int):0≤nE p i∧nE p i≤4:=by
  unfold nE;split
  · rename_i h;simp only [Oq] at h;exact kZ h.2
  · omega
theorem A5 {N:Nat} (hN:gS≤N) (p:cd) (i:Int):qy N p i=some (nE p i):=by
  unfold qy nE;rw [ri hN,Ok];cases h:jy p.N1
  · rfl
  · simp only [On,Ol,rk N (o3 h),Ok,Oo];cases i9 p.N1 i<;>rfl
theorem sH {N:Nat} (hN:gS≤N) (t:List g7) (i:Int):lL N t i=some (jy t&&i9 t i):=by
  unfold lL i9;simp only [vR hN,vd,Ok];cases h:jy t
  · rfl
  have hl:=o3 h;cases hi:ia i 0 4
  · rfl
  · simp only [Om,Ak hi (by omega) (show (4:Int)<(t.length:Int) by omega),Ok,Oo]
theorem wV {N:Nat} (hN:gS≤N) (p:cd) (i:Int):lU N p i=some (nE p i):=by
  unfold lU nE;rw [sH hN,Ok];cases (jy p.N1&&i9 p.N1 i)<;>rfl
theorem wI {p:cd} (h:jd p=true):jy p.N1=true:=by
  unfold jd at h;simp only [Oq] at h;exact h.2.2.1
theorem wS {p:cd} (h:jd p=true) {i:Int} (h0:0≤i) (h4:i≤4):idx p.N1 i=some (nth p.N1 i):=iT h0 (by have:=o3 (wI h);omega)
def sB (p:cd) (i:Int):hJ:=(nth p.N1 (nE p (nth p.py.ag i).Od)).iG
theorem yA {N:Nat} (hN:gS≤N) {p:cd} (h:jd p=true) {i:Int} (h0:0≤i) (h9:i≤9):pj N p i=some (sB p i):=by
  unfold pj sB;obtain ⟨r0,r4⟩:=ui p (nth p.py.ag i).Od;simp only [((jF h).at h0 h9).1,Ok,A5 hN,wS h r0 r4]
def vE (p:cd) (i:Int):Bool:=((nth p.py.ag i).N9==0)&&decide ((sB p i).g8 > 0)
def runnable (p:cd) (now:Int):List Int:=(threads p now).filter (vE p)
theorem xV (p:cd) (now:Int):(runnable p now).length≤10:=by
  unfold runnable;refine Nat.le_trans (List.length_filter_le _ _) ?_;unfold threads;split
  · rename_i hp;refine Nat.le_trans (uF _ _ _ _) ?_;rw [pg (jF hp)];exact Nat.le_refl _
  · exact Nat.zero_le _
theorem GF {N:Nat} (hN:gS≤N) {p:cd} (hb:ic p<gS) (now:Int):qV N p now=some (runnable p now):=by
  have hl:=qp p now;unfold qV runnable;rw [yk hN hb,Ok,mB (threads p now) (fun _ i=>vE p i) (fun _ y=>y) hl hN,o6]
  · rfl
  · intro k t y hy hk ht;obtain ⟨hp,y0,y9⟩:=mw (List.mem_of_getElem? hy);simp only [iE hk,Om,ij,hy,Ok,((jF hp).at y0 y9).1,yA hN hp y0 y9,kp,iK (Nat.lt_trans hk hl),j6 ht (Nat.lt_of_le_of_lt hk hl)]
    show (bif vE p y then _ else _)=_
    cases vE p y<;>rfl
  · intro t;simp only [iF,Ol]
theorem Ha {N:Nat} (hN:gS≤N) {p:cd} (hb:ic p<gS) (hw:wP p) (now:Int):qK N p now=some (runnable p now):=by
  have hl:=qp p now;unfold qK runnable;rw [ym hN hb hw,Ok,mB (threads p now) (fun _ i=>vE p i) (fun _ y=>y) hl hN,o6]
  · rfl
  · intro k t y hy hk ht;obtain ⟨hp,y0,y9⟩:=mw (List.mem_of_getElem? hy);obtain ⟨r0,r4⟩:=ui p (nth p.py.ag y).Od;simp only [iE hk,Om,ij,hy,Ok,((jF hp).at y0 y9).1,wV hN,wS hp r0 r4,kp,iK (Nat.lt_trans hk hl),j6 ht (Nat.lt_of_le_of_lt hk hl)]
    show (bif vE p y then _ else _)=_
    cases vE p y<;>rfl
  · intro t;simp only [iF,Ol]
end Go.Kx
namespace Go.Kx
open Go
open Go.IntKind (i64)
set_option linter.unusedVariables false
set_option linter.unusedSimpArgs false
set_option maxRecDepth 10000
def mU (h:Int):Bool:=ia h 0 29999
def mX (h:Int):Int:=if mU h then h % 3 else -1
def m3 (h:Int):Int:=if mU h then h / 3 % 10 else -1
def zw (h:Int):Int:=if mU h then h / 3 / 10 else -1
theorem Br {h:Int}:mU h=true ↔ 0≤h∧h≤29999:=iR
theorem hdiv {h:Int} (q:mU h=true):i64.wrap (Int.tdiv h 3)=h / 3∧Int.tmod h 3=h % 3∧Int.tmod (h / 3) 10=h / 3 % 10∧i64.wrap (Int.tdiv (h / 3) 10)=h / 3 / 10:=by
  rw [Br] at q
  have h3:0≤h / 3:=by omega
  refine ⟨?_,Int.tmod_eq_emod_of_nonneg q.1,Int.tmod_eq_emod_of_nonneg h3,?_⟩
  · rw [Int.tdiv_eq_ediv_of_nonneg q.1,iY (by omega) (by omega)]
  · rw [Int.tdiv_eq_ediv_of_nonneg h3,iY (by omega) (by omega)]
theorem vT (N:Nat) (h:Int):mg N h=some (mX h):=by
  unfold mg mX;rw [pD,Ok];cases q:ia h 0 29999
  · simp [mU,q]
  · simp [mU,q,(hdiv (h:=h) q).2.1]
theorem vp (N:Nat) (h:Int):l8 N h=some (mX h):=by
  unfold l8 mX;rw [rD,Ok];cases q:ia h 0 29999
  · simp [mU,q]
  · simp [mU,q,(hdiv (h:=h) q).2.1]
theorem DV (N:Nat) (h:Int):pb N h=some (m3 h):=by
  unfold pb m3;rw [pD,Ok];cases q:ia h 0 29999
  · simp [mU,q]
  · simp [mU,q,(hdiv (h:=h) q).1,(hdiv (h:=h) q).2.2.1]
theorem Ea (N:Nat) (h:Int):oK N h=some (m3 h):=by
  unfold oK m3;rw [rD,Ok];cases q:ia h 0 29999
  · simp [mU,q]
  · simp [mU,q,(hdiv (h:=h) q).1,(hdiv (h:=h) q).2.2.1]
theorem EV (N:Nat) (h:Int):pZ N h=some (zw h):=by
  unfold pZ zw;rw [pD,Ok];cases q:ia h 0 29999
  · simp [mU,q]
  · simp [mU,q,(hdiv (h:=h) q).1,(hdiv (h:=h) q).2.2.2]
theorem E7 (N:Nat) (h:Int):pW N h=some (zw h):=by
  unfold pW zw;rw [rD,Ok];cases q:ia h 0 29999
  · simp [mU,q]
  · simp [mU,q,(hdiv (h:=h) q).1,(hdiv (h:=h) q).2.2.2]
def tO (p i g:Int):Int:=if ia p 0 2&&(ia i 0 9&&ia g 0 999) then i64.wrap ((i64.wrap ((i64.wrap ((i64.wrap (g * 10))+i)) * 3))+p) else -1
theorem Az (N:Nat) (p i g:Int):oP N p i g=some (tO p i g):=by
  unfold oP tO;simp only [xE,sE,lv,Ok,jR];cases ia p 0 2<;>cases ia i 0 9<;>cases ia g 0 999<;>rfl
theorem AE (N:Nat) (p i g:Int):o1 N p i g=some (tO p i g):=by
  unfold o1 tO;simp only [qR,k5,Ok,jR];cases ia p 0 2<;>cases ia i 0 9<;>cases ia g 0 999<;>rfl
theorem H9 {h:Int} (q:0≤mX h):mU h=true∧0≤m3 h∧m3 h≤9:=by
  unfold mX at q;unfold m3;cases hk:mU h
  · simp [hk] at q
  · rw [Br] at hk;simp only [if_true];exact ⟨trivial,by omega,by omega⟩
def iX (w:hO) (p:Int):Bool:=ia p 0 ((w.parts.length:Int) - 1)
theorem wh {N:Nat} {w:hO} (hl:w.parts.length<gS) (p:Int):m9 N w p=some (iX w p):=by
  have hl:w.parts.length<16777216:=hl;unfold m9 iX;rw [lv,iY (by omega) (by omega)];rfl
theorem jw {w:hO} {p:Int} (h:iX w p=true):idx w.parts p=some (nth w.parts p)∧nth w.parts p ∈ w.parts:=by
  unfold iX at h;rw [iR] at h;exact ⟨iT h.1 (by omega),kJ h.1 (by omega)⟩
end Go.Kx
namespace Go.Kx
open Go
open Go.IntKind (i64)
set_option linter.unusedVariables false
set_option linter.unusedSimpArgs false
set_option maxRecDepth 10000
theorem xx {N:Nat} (hN:gS≤N) {own:List Int} {a b:iI} (ho:own.length<gS) (ha:a.NY.length<gS) (hb:b.NY.length<gS):nt N own a b=some (oB own a b):=by
  unfold nt oB;simp only [yQ hN ho,qA hN ha,qA hN hb,Ok,jR];cases h1:lp own
  · rfl
  cases h2:jL a
  · rfl
  cases h3:jL b
  · rfl
  have l2:=(oz.1 h2).1;have l3:=(oz.1 h3).1;simp only [On,Bool.or_self,Ol,Oo];rw [Iw a.NY l2 (fun k y=>!decide (y > (b.NY[k]?).getD 0) || own.contains (k:Int)) (.inl 4) (.inr false) hN]
  · simp only [Ok];cases allI _ 0 a.NY<;>rfl
  · intro k y hy hk hd;have hz:b.NY[k]?=some (b.NY[k]'(by omega)):=List.getElem?_eq_getElem _;simp only [hd,Om,ij,hy,hz,Ok,Option.getD_some,wR hN ho,iK (show k<gS from Nat.lt_trans hk (by decide))];cases decide (y > b.NY[k]'(by omega))<;>cases own.contains (k:Int)<;>rfl
  · rfl
def target (p:Int) (c:ir):Int:=if (c.N0==7) || (c.N0==17) then mX c.a else if c.N0==16 then c.b else p
def other (w:hO) (p:Int) (c:ir):Int:=if iX w (target p c) then target p c else -1
theorem EH {N:Nat} {w:hO} (hl:w.parts.length<gS) (p:Int) (c:ir):pP N w p c=some (other w p c):=by
  unfold pP other target;simp only [vT,wh hl,Ok]
  cases c.N0==7<;>cases c.N0==17<;>cases c.N0==16<;>simp only [Om,Ol,Ok,Bool.or_self,Bool.or_true,Bool.true_or,Bool.or_false,if_true,if_false,Bool.false_eq_true] <;>
    first | (cases iX w (mX c.a)<;>rfl) | (cases iX w c.b<;>rfl) | (cases iX w p<;>rfl)
theorem E6 {N:Nat} {w:hO} (hl:w.parts.length<gS) (p:Int) (c:ir):pY N w p c=some (other w p c):=by
  have hl:w.parts.length<16777216:=hl;unfold pY other target iX;simp only [vp,k5,Ok];rw [iY (by omega) (by omega)]
  cases c.N0==7<;>cases c.N0==17<;>cases c.N0==16<;>simp only [Om,Ol,Ok,Bool.or_self,Bool.or_true,Bool.true_or,Bool.or_false,if_true,if_false,Bool.false_eq_true] <;>
    first | (cases ia (mX c.a) 0 ((w.parts.length:Int) - 1)<;>rfl) | (cases ia c.b 0 ((w.parts.length:Int) - 1)<;>rfl) | (cases ia p 0 ((w.parts.length:Int) - 1)<;>rfl)
theorem uq {w:hO} {p:Int} {c:ir} (h:decide (other w p c<0)=false):iX w (other w p c)=true:=by
  unfold other at h ⊢;cases hp:iX w (target p c)
  · simp [hp] at h
  · simp [hp]
end Go.Kx
namespace Go.Kx
open Go
open Go.IntKind (i64)
set_option linter.unusedVariables false
set_option linter.unusedSimpArgs false
set_option maxRecDepth 10000
def better (p:cd) (v i:Int):Int:=if decide ((sB p i).g8≤(sB p v).g8) then i else v
def pO (p:cd) (now:Int):Int:=match threads p now with
  | a::b::l=>(b::l).foldl (better p) a
  | _=>-1
theorem Al {p:cd} {m:List Int}:∀ (l:List Int) (v:Int),v ∈ m→(∀ y,y ∈ l→y ∈ m)→l.foldl (better p) v ∈ m
  | [],v,hv,_=>hv
  | y::l,v,hv,h=>by
    rw [List.foldl_cons];refine Al l _ ?_ fun z hz=>h z (by simp [hz]);unfold better;split
    · exact h y (by simp)
    · exact hv
theorem xD {p:cd} {now:Int} (h:decide (pO p now ≥ 0)=true):pO p now ∈ threads p now:=by
  unfold pO at h ⊢
  cases ht:threads p now with
  | nil=>rw [ht] at h;simp at h
  | cons a l=>cases l with
    | nil=>rw [ht] at h;simp at h
    | cons b l=>exact Al (b::l) a (by simp) fun y hy=>by simp at hy ⊢;exact .inr hy
theorem Kt {N:Nat} (hN:gS≤N) {p:cd} {l:List Int} (hl:l.length<gS) {body:Int×Int→Option ((Int×Int)⊕(Int×Int))} (hm:∀ y,y ∈ l→y ∈ l) {v0:Int} (I:Int→Prop) (h0:I v0)
    (hs:∀ (k:Nat) (v y:Int),l[k]?=some y→k<l.length→I v→body (v,(k:Int))=some (.inl (better p v y,((k+1:Nat):Int)))∧I (better p v y)) (he:∀ v,body (v,(l.length:Int))=some (.inr (v,(l.length:Int)))) :
    iter body N (v0,0)=some (l.foldl (better p) v0,(l.length:Int)):=by
  rw [show (v0,(0:Int))=(fun (k:Nat) (v:Int)=>(v,(k:Int))) 0 v0 from rfl,
    jM l (fun (k:Nat) (v:Int)=>(v,(k:Int))) (fun _ v y=>better p v y) (fun v=>(v,(l.length:Int))) (fun _ v=>I v) (fun k v y hy hk hI=>hs k v y hy hk hI) (fun v _=>he v) (Nat.lt_of_lt_of_le hl hN) h0,kX]
theorem xz {p:cd} {now y:Int} (h:y ∈ threads p now):jd p=true∧0≤y∧y≤9:=mw h
theorem Jv {N:Nat} (hN:gS≤N) {p:cd} (hb:ic p<gS) (now:Int):s6 N p now=some (pO p now):=by
  have hl:=qp p now;unfold s6 pO;rw [yk hN hb,Ok]
  cases ht:threads p now with
  | nil=>rfl
  | cons a l=>cases l with
    | nil=>rfl
    | cons b l =>
      have hm:∀ y,y ∈ a::b::l→jd p=true∧0≤y∧y≤9:=fun y hy=>xz (by rw [ht];exact hy);rw [ht] at hl;rw [show decide ((((a::b::l).length:Nat):Int)<2)=false by simp;omega,show idx (a::b::l) 0=some a from rfl];simp only [Ol,Ok];rw [Kt hN (p:=p) (l:=a::b::l) hl (fun _ h=>h) (fun v=>jd p=true∧0≤v∧v≤9) (hm a (by simp))]
      · have e:better p a a=a:=by unfold better;split<;>rfl
        rw [Ok,List.foldl_cons,e]
      · intro k v y hy hk hI;obtain ⟨hp,y0,y9⟩:=hm y (List.mem_of_getElem? hy);refine ⟨?_,?_⟩
        · simp only [iE hk,Om,ij,hy,Ok,yA hN hp y0 y9,yA hN hp hI.2.1 hI.2.2,iK (Nat.lt_trans hk hl)];unfold better;cases decide ((sB p y).g8≤(sB p v).g8)<;>rfl
        · unfold better;split
          · exact ⟨hp,y0,y9⟩
          · exact hI
      · intro v;simp only [iF,Ol]
theorem Jp {N:Nat} (hN:gS≤N) {p:cd} (hb:ic p<gS) (hw:wP p) (now:Int):ti N p now=some (pO p now):=by
  have hl:=qp p now;have hB:(16777216:Nat)=gS:=rfl;unfold ti pO;rw [ym hN hb hw,Ok]
  cases ht:threads p now with
  | nil=>rfl
  | cons a l=>cases l with
    | nil=>rfl
    | cons b l =>
      have hm:∀ y,y ∈ a::b::l→jd p=true∧0≤y∧y≤9:=fun y hy=>xz (by rw [ht];exact hy);rw [ht] at hl;rw [show decide ((((a::b::l).length:Nat):Int)<2)=false by simp;omega];simp only [Ol];obtain ⟨hpa,a0,a9⟩:=hm a (by simp)
      have step:∀ (k:Nat) (v y:Int),(a::b::l)[k]?=some y→k<(a::b::l).length→(v=-1∨0≤v∧v≤9) →
          (bif (decide ((k:Int)<(((a::b::l).length:Nat):Int))) then ((bif (decide (v<0)) then (some true) else ((idx (a::b::l) (k:Int)).bind fun y14=>(idx p.py.ag y14).bind fun y27=>(idx p.py.ag v).bind fun y45=>(lU N p y27.Od).bind fun y63=>(idx p.N1 y63).bind fun y65=>(lU N p y45.Od).bind fun y74=>(idx p.N1 y74).bind fun y76=>some (decide (y65.iG.g8≤y76.iG.g8))):Option Bool).bind fun j11=>bif j11 then ((idx (a::b::l) (k:Int)).bind fun y87=>some (.inl (y87,i64.wrap ((k:Int)+1)))) else (some (.inl (v,i64.wrap ((k:Int)+1))))) else (some (.inr (v,(k:Int)))):Option ((Int×Int)⊕(Int×Int))) =
          some (.inl (if decide (v<0) then y else better p v y,((k+1:Nat):Int))):=by
        intro k v y hy hk hv;obtain ⟨hp,y0,y9⟩:=hm y (List.mem_of_getElem? hy);simp only [iE hk,Om,ij,hy,Ok,iK (Nat.lt_trans hk hl)];cases hd:decide (v<0)
        · have hv:0≤v∧v≤9:=by simp at hd;omega
          obtain ⟨r0,r4⟩:=ui p (nth p.py.ag y).Od;obtain ⟨q0,q4⟩:=ui p (nth p.py.ag v).Od;simp only [Ol,((jF hp).at y0 y9).1,((jF hp).at hv.1 hv.2).1,wV hN,wS hp r0 r4,wS hp q0 q4,Ok,Bool.false_eq_true,if_false];unfold better;rw [show (nth p.N1 (nE p (nth p.py.ag y).Od)).iG.g8=(sB p y).g8 from rfl,show (nth p.N1 (nE p (nth p.py.ag v).Od)).iG.g8=(sB p v).g8 from rfl];cases decide ((sB p y).g8≤(sB p v).g8)<;>rfl
        · rfl
      rw [show ((-1:Int),(0:Int))=(fun (k:Nat) (v:Int)=>(v,(k:Int))) 0 (-1) from rfl,
        jM (a::b::l) (fun (k:Nat) (v:Int)=>(v,(k:Int))) (fun _ v y=>if decide (v<0) then y else better p v y) (fun v=>(v,(((a::b::l).length:Nat):Int))) (fun _ v=>v=-1∨0≤v∧v≤9) ?_ ?_ (by omega) (.inl rfl),kX]
      · simp only [Ok];congr 1
        have key:∀ (m:List Int) (v:Int),0≤v→(∀ y,y ∈ m→0≤y)→m.foldl (fun v y=>if decide (v<0) then y else better p v y) v=m.foldl (better p) v:=by
          intro m
          induction m with
          | nil=>intro v _ _;rfl
          | cons y m ih =>
            intro v hv hy
            have hd:decide (v<0)=false:=by simp;omega
            simp only [List.foldl_cons,hd,Bool.false_eq_true,if_false];refine ih _ ?_ fun z hz=>hy z (by simp [hz]);unfold better;split
            · exact hy y (by simp)
            · exact hv
        rw [List.foldl_cons];exact key (b::l) a a0 fun y hy=>(hm y (by simp at hy ⊢;exact .inr hy)).2.1
      · intro k v y hy hk hI;refine ⟨step k v y hy hk hI,.inr ?_⟩;obtain ⟨hp,y0,y9⟩:=hm y (List.mem_of_getElem? hy);split
        · exact ⟨y0,y9⟩
        · rename_i hd;unfold better;split
          · exact ⟨y0,y9⟩
          · simp at hd;omega
      · intro v _;simp only [iF,Ol]
def ns (p:cd) (l:List gP):cd:=cd.mk p.NZ p.own p.N1 (g5.mk l p.py.gc) p.gR p.N6 p.N7 p.bh p.gW p.N5
def Hq (o:gP) (t:Int):gP:=gP.mk o.Oe o.N0 o.box o.Od t o.gE o.N9 o.iv o.iu o.Ob o.gX o.N8 o.N4
def uk (p:cd) (now:Int):List gP:=if decide (pO p now ≥ 0) then p.py.ag.set (pO p now).toNat (Hq (nth p.py.ag (pO p now)) (i64.wrap (now - 1))) else p.py.ag
def j0 (p:cd) (now:Int):cd:=if jd p&&(ia now 1 1000000&&!decide (p.gW<3)) then cd.mk p.NZ p.own p.N1 (g5.mk (uk p now) p.py.gc) p.gR p.N6 p.N7 p.bh 0 p.N5 else p
theorem F8 {N:Nat} (hN:gS≤N) {p:cd} (hb:ic p<gS) (now:Int):qU N p now=some (j0 p now):=by
  unfold qU j0 uk;simp only [pC hN hb,sK hN hb,lv,Jv hN hb,Ok,jR];cases hp:jd p
  · rfl
  cases ia now 1 1000000
  · rfl
  cases decide (p.gW<3)
  · cases hv:decide (pO p now ≥ 0)
    · rfl
    · obtain ⟨_,v0,v9⟩:=mw (xD hv);simp only [On,Bool.or_self,Ol,Om,((jF hp).at v0 v9).1,Ok,if_true];rfl
  · rfl
theorem He {N:Nat} (hN:gS≤N) {p:cd} (hb:ic p<gS) (hw:wP p) (now:Int):qx N p now=some (j0 p now):=by
  unfold qx j0 uk;simp only [qz hN hb,sF hN hb hw,k5,Jp hN hb hw,Ok,jR];cases hp:jd p
  · rfl
  cases ia now 1 1000000
  · rfl
  cases decide (p.gW<3)
  · cases hv:decide (pO p now ≥ 0)
    · rfl
    · obtain ⟨_,v0,v9⟩:=mw (xD hv);simp only [On,Bool.or_self,Ol,Om,((jF hp).at v0 v9).1,Ok,if_true];rfl
  · rfl
def AT (l:List gP) (now part h:Int):Bool:=(jJ l&&(mU h&&(mX h==part)))&&(((nth l (m3 h)).N0 != 0)&&(((nth l (m3 h)).Oe==zw h)&&nth (reach l now) (m3 h)))
def hY (l:List gP) (now part h:Int):Int:=bif AT l now part h then m3 h else -1
theorem zF {h:Int} (q:mU h=true):0≤m3 h∧m3 h≤9:=(H9 (h:=h) (by unfold mX;rw [q,if_pos rfl];rw [Br] at q;omega)).2
theorem uZ {N:Nat} (hN:gS≤N) {l:List gP} (hb:iQ hX l<gS) (now part h:Int):mA N l now part h=some (hY l now part h):=by
  unfold mA hY AT;simp only [FE hN hb,pD,vT,DV,EV,Ok,jR];cases ha:jJ l
  · have e:reach l now=[]:=by unfold reach;rw [ha];rfl
    rw [e];rfl
  have har:=j5.1 ha;have hl:=pg har now;rw [show (((reach l now).length:Int)==0)=false by rw [hl];rfl,show ia h 0 29999=mU h from rfl];cases hh:mU h
  · rfl
  obtain ⟨s0,s9⟩:=zF hh;simp only [bne,(har.at s0 s9).1,iT (l:=reach l now) s0 (by omega),Ok];cases mX h==part<;>cases (nth l (m3 h)).N0==0<;>cases (nth l (m3 h)).Oe==zw h<;>cases nth (reach l now) (m3 h)<;>rfl
theorem u6 {N:Nat} (hN:gS≤N) {l:List gP} (hb:iQ hX l<gS) (hw:wA l) (now part h:Int):my N l now part h=some (hY l now part h):=by
  unfold my hY AT;simp only [ra hN hb hw,FD hN hb hw,rD,vp,Ea,E7,Ok,jR];cases ha:jJ l
  · rfl
  have har:=j5.1 ha;have hl:=pg har now;rw [show ia h 0 29999=mU h from rfl];cases hh:mU h
  · rfl
  obtain ⟨s0,s9⟩:=zF hh;simp only [bne,(har.at s0 s9).1,iT (l:=reach l now) s0 (by omega),Ok];cases mX h==part<;>cases (nth l (m3 h)).N0==0<;>cases (nth l (m3 h)).Oe==zw h<;>cases nth (reach l now) (m3 h)<;>rfl
def xG (p:cd) (me now:Int) (o:gP):Bool:=decide (o.N9 > 0)&&decide (hY p.py.ag now me (i64.wrap (o.N9 - 1))<0)
def Hj (o:gP):gP:=gP.mk o.Oe o.N0 o.box o.Od o.iw o.gE 0 (-1) o.iu o.Ob o.gX o.N8 o.N4
def AD (p:cd) (me now:Int):List gP:=p.py.ag.map fun o=>if xG p me now o then Hj o else o
def kM (p:cd) (me now:Int):cd:=if jd p&&ia me 0 2 then ns p (AD p me now) else p
theorem sG {α:Type} {body:List α×Int→Option ((List α×Int)⊕(List α×Int))} (x:List α) (f:α→α) {N:Nat} (hN:x.length<N)
    (hs:∀ (k:Nat) (t:List α) (y:α),t.length=x.length→t[k]?=some y→x[k]?=some y→k<x.length→body (t,(k:Int))=some (.inl (t.set k (f y),((k+1:Nat):Int))))
    (he:∀ t,t.length=x.length→body (t,(x.length:Int))=some (.inr (t,(x.length:Int)))):iter body N (x,0)=some (x.map f,(x.length:Int)):=by
  have key:∀ (r:List α) (d d':List α) (M:Nat),d'.length=d.length→x=d'++r→r.length<M→iter body M (d++r,(d.length:Int))=some (d++r.map f,(x.length:Int)):=by
    intro r
    induction r with
    | nil =>
      intro d d' M hd hx hM
      cases M with
      | zero=>simp at hM
      | succ M =>
        have e:d.length=x.length:=by rw [hx];simp [hd]
        unfold iter;rw [List.append_nil,e,he d e];simp
    | cons y r ih =>
      intro d d' M hd hx hM
      cases M with
      | zero=>simp at hM
      | succ M =>
        have hlen:(d++y::r).length=x.length:=by rw [hx];simp [hd]
        unfold iter;rw [hs d.length (d++y::r) y hlen (by rw [List.getElem?_append_right (Nat.le_refl _)];simp) (by rw [hx,List.getElem?_append_right (by omega)];simp [hd]) (by rw [← hlen];simp)]
        have e:(d++y::r).set d.length (f y)=(d++[f y])++r:=by rw [List.set_append_right _ _ (Nat.le_refl _)];simp
        have e2:d.length+1=(d++[f y]).length:=by simp
        simp only [Ok,e];rw [e2,ih (d++[f y]) (d'++[y]) M (by simp [hd]) (by rw [hx];simp) (by simp at hM;omega)];simp
  exact key x [] [] N rfl rfl hN
theorem nh {α:Type} {l:List α} {k:Nat} {y:α} (h:l[k]?=some y):l.set k y=l:=by
  apply List.ext_getElem? fun i=>?_;rw [List.getElem?_set];split
  · rename_i e;subst e;rw [if_pos (ja h),h]
  · rfl
theorem Gl {N:Nat} (hN:gS≤N) {p:cd} (hb:ic p<gS) (me now:Int):rj N p me now=some (kM p me now):=by
  have h4:=(jK hb).2.2.2.1;have hl:=jz h4;unfold rj kM AD ns;simp only [pC hN hb,sK hN hb,xE,Ok,jR];cases hp:jd p
  · rfl
  cases ia me 0 2
  · rfl
  simp only [On,Bool.or_self,Ol,Bool.and_self,if_true];rw [sG p.py.ag (fun o=>if xG p me now o then Hj o else o) (Nat.lt_of_lt_of_le hl hN)]
  · rfl
  · intro k t y ht hty hy hk;simp only [iE hk,Om,ij,hy,hty,Ok,uZ hN h4,kp,iK (Nat.lt_trans hk hl),Int.toNat_natCast,List.getElem?_set_self (show k<t.length by omega),List.set_set];rw [show (decide (y.N9 > 0)&&decide (hY p.py.ag now me (i64.wrap (y.N9 - 1))<0))=xG p me now y from rfl];cases xG p me now y
    · simp [nh hty]
    · rfl
  · intro t ht;simp only [iF,Ol]
theorem Ga {N:Nat} (hN:gS≤N) {p:cd} (hb:ic p<gS) (hw:wP p) (me now:Int):qQ N p me now=some (kM p me now):=by
  have h4:=(jK hb).2.2.2.1;have hl:=jz h4;unfold qQ kM AD ns;simp only [qz hN hb,sF hN hb hw,k5,Ok,jR];cases hp:jd p
  · rfl
  cases ia me 0 2
  · rfl
  simp only [On,Bool.or_self,Ol,Bool.and_self,if_true];rw [sG p.py.ag (fun o=>if xG p me now o then Hj o else o) (Nat.lt_of_lt_of_le hl hN)]
  · rfl
  · intro k t y ht hty hy hk;simp only [ht,iE hk,Om,ij,hy,hty,Ok,u6 hN h4 hw,kp,iK (Nat.lt_trans hk hl),Int.toNat_natCast,List.getElem?_set_self (show k<t.length by omega),List.set_set];rw [show (decide (y.N9 > 0)&&decide (hY p.py.ag now me (i64.wrap (y.N9 - 1))<0))=xG p me now y from rfl];cases xG p me now y
    · simp [nh hty]
    · rfl
  · intro t ht;simp only [ht,iF,Ol]
theorem C4 {f:gP→Nat} {g:gP→gP} (h:∀ o,f (g o)=f o):∀ l:List gP,iV f (l.map g)=iV f l
  | []=>rfl
  | o::l=>by simp only [List.map_cons,iV,h,C4 h l]
theorem FV {f:gP→Nat} {g:gP→gP} (h:∀ o,f (g o)=f o) (l:List gP):iQ f (l.map g)=iQ f l:=by
  unfold iQ;rw [C4 h,List.length_map]
theorem Bh (p:cd) (me now:Int):ic (kM p me now)=ic p:=by
  unfold kM;split
  · unfold ic ns oD AD;simp only;rw [FV fun o=>by split<;>rfl]
  · rfl
theorem Bk (p:cd) (now:Int):ic (j0 p now)≤ic p+100:=by
  unfold j0;split
  · rename_i h;simp only [Oq] at h
    have hsz:iQ hX (uk p now)≤iQ hX p.py.ag+12:=by
      unfold uk;split
      · rename_i hv;obtain ⟨_,v0,v9⟩:=mw (xD hv);have:=xw ((jF h.1).ok _ ((jF h.1).at v0 v9).2);exact Nat.le_trans w6 (Nat.add_le_add_left this _)
      · omega
    unfold ic oD;simp only;omega
  · omega
end Go.Kx
