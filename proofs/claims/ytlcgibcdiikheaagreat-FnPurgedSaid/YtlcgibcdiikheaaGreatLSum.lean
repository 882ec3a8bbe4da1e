import Derived.Test.YtlcgibcdiikheaaGreatLReach
namespace Go.Kx
open Go
open Go.IntKind (i64)
set_option linter.unusedVariables false
set_option linter.unusedSimpArgs false
set_option maxRecDepth 10000
def NA (a:ig):Prop:=i64.wrap a.gE=a.gE∧i64.wrap a.gV=a.gV∧i64.wrap a.hY=a.hY
theorem wrap_wrap (n:Int):i64.wrap (i64.wrap n)=i64.wrap n:=by
  have:-9223372036854775808≤i64.wrap n∧i64.wrap n≤9223372036854775807:=by
    simp only [IntKind.wrap,IntKind.signed,IntKind.bits];simp;omega
  exact iC this.1 this.2
theorem NA.sum (a b:ig):NA (iN a b):=⟨wrap_wrap _,wrap_wrap _,wrap_wrap _⟩
theorem NA.zero:NA ⟨0,0,0⟩:=⟨by decide,by decide,by decide⟩
def mG (t:List gW):ig:=if jH t then i6 ⟨0,0,0⟩ t else ⟨0,0,0⟩
theorem Cs {N:Nat} (hN:gS≤N) {t:List gW} (hB:t.length<gS):oJ N t=some (mG t):=by
  unfold oJ mG;rw [rj hN,HW,wT hN hB];cases jH t<;>rfl
structure Tr (t:List gW):Prop where
  len:t.length=5
  AZ:(nth t 0).HN=true
  GO:(nth t 0).HO=-1
  dead:∀ r,r ∈ t→r.HN=false→r=sN
  iB:∀ r,r ∈ t→iT r.iB=true
  lead:∀ (k:Nat) (r:gW),t[k]?=some r→r.HN=true→leads t 5 (k:Int)=true
  sum:iT (i6 ⟨0,0,0⟩ t)=true
theorem Dq:iT sN.iB=true:=by decide
theorem sG {t:List gW}:jH t=true ↔ Tr t:=by
  unfold jH;simp only [H3,Bool.not_eq_true',bne_eq_false_iff_eq,lz,Nat.zero_add];constructor
  · rintro ⟨h1,h2,h3,h4,h5⟩;have hm:∀ r,r ∈ t→∃ k:Nat,t[k]?=some r:=fun o ho=>List.getElem?_of_mem ho;refine ⟨by omega,h2,h3,fun r hr hl=>?_,fun r hr=>?_,fun k r hk hl=>?_,h5⟩
    · obtain ⟨k,hk⟩:=hm r hr;have:=h4 k r hk;unfold qR at this;simpa [hl] using this
    · obtain ⟨k,hk⟩:=hm r hr;have:=h4 k r hk;unfold qR at this;split at this
      · simp only [H3] at this;exact this.1
      · simp only [decide_eq_true_eq] at this;rw [this];exact Dq
    · have:=h4 k r hk;unfold qR at this;rw [if_pos hl] at this;simp only [H3] at this;exact this.2
  · intro h;refine ⟨by have:=h.len;omega,h.AZ,h.GO,fun k r hr=>?_,h.sum⟩;unfold qR;have hm:=List.mem_of_getElem? hr;cases hl:r.HN
    · simp [h.dead r hm hl]
    · simp [h.iB r hm,h.lead k r hr hl]
def held (p:bh):Int:=((p.py.ag.take 10).filter kK).foldl (fun n o=>i64.wrap (n+o.gE)) 0
theorem foldl_filter {α β:Type} (p:α→Bool) (g:β→α→β):∀ (l:List α) (b:β),(l.filter p).foldl g b=l.foldl (fun b y=>if p y then g b y else b) b
  | [],_=>rfl
  | y::l,b=>by
    rw [List.filter_cons,List.foldl_cons];cases h:p y
    · simp [foldl_filter p g l]
    · simp [foldl_filter p g l]
theorem E4 {N:Nat} (hN:gS≤N) {p:bh} (hb:ib p<gS) (hw:wP p):rJ N p=some (held p):=by
  have h4:=(kc hb).2.2.2.1;have hl:=lr h4;have hN':16777216≤N:=hN;unfold rJ held
  rw [foldl_filter,show ((0:Int),(0:Int))=(fun (k:Nat) (n:Int)=>(n,(k:Int))) 0 0 from rfl,
    jQ (p.py.ag.take 10) (fun (k:Nat) (n:Int)=>(n,(k:Int))) (fun _ n o=>if kK o then i64.wrap (n+o.gE) else n) (fun n=>(n,(((p.py.ag.take 10).length:Nat):Int))) (fun _ _=>True) ?_ ?_ (by simp;omega) trivial,lK]
  · rfl
  · intro k n y hy hk _
    have hk2:k<10∧k<p.py.ag.length:=by simp at hk;omega
    rw [List.getElem?_take_of_lt hk2.1] at hy;have hm:=List.mem_of_getElem? hy
    have h3:decide ((k:Int)<10)=true:=by simp;omega
    refine ⟨?_,trivial⟩;simp only [iX hk2.2,h3,HY,iz,hy,HW,zV hN (jG h4 hm) (hw y hm),i5 (show k<gS from Nat.lt_trans hk2.1 (by decide))];cases kK y<;>rfl
  · intro n _;simp only [List.length_take]
    rcases Nat.lt_or_ge 10 p.py.ag.length with h | h
    · have e:min 10 p.py.ag.length=10:=by omega
      have h3:decide (((10:Nat):Int)<(p.py.ag.length:Int))=true:=by simp;omega
      simp only [e,h3,HY];rfl
    · have e:min 10 p.py.ag.length=p.py.ag.length:=by omega
      simp only [e,iW,HX,HW]
def ug (p:bh):ig:=if iT p.gP then iN ⟨i64.wrap ((mG p.HC).gE+held p),(mG p.HC).gV,(mG p.HC).hY⟩ p.gP else mG p.HC
theorem CC {N:Nat} (hN:gS≤N) {p:bh} (hb:ib p<gS) (hw:wP p):oS N p=some (ug p):=by
  unfold oS ug;simp only [Cs hN (kc hb).2.2.1,nq,E4 hN hb hw,HW];cases iT p.gP<;>rfl
def uZ (s:ig) (l:List bh):ig:=l.foldl (fun s p=>iN s (ug p)) s
def jy (w:g6):Bool:=ia w.HQ 0 1000000&&(ia (w.parts.length:Int) 1 3&&(w.parts.all jr&&iT (uZ ⟨0,0,0⟩ w.parts)))
def wW (l:List bh):Prop:=∀ p,p ∈ l→wP p
theorem Ds {N:Nat} (hN:gS≤N) {l:List bh} (hb:iL ib l<gS) (hw:wW l):qa N l=some (uZ ⟨0,0,0⟩ l):=by
  have hB:=lr hb;unfold qa uZ
  rw [show ((0:Int),(0:Int),(0:Int),(0:Int))=(fun (k:Nat) (s:ig)=>((k:Int),s.gE,s.gV,s.hY)) 0 ⟨0,0,0⟩ from rfl,
    jQ l (fun (k:Nat) (s:ig)=>((k:Int),s.gE,s.gV,s.hY)) (fun _ s p=>iN s (ug p)) (fun s=>((l.length:Int),s.gE,s.gV,s.hY)) (fun _ _=>True) ?_ ?_ (Nat.lt_of_lt_of_le hB hN) trivial,lK]
  · rfl
  · intro k s p hy hk _;have hm:=List.mem_of_getElem? hy;simp only [iX hk,HY,iz,hy,HW,CC hN (jG hb hm) (hw p hm),i5 (Nat.lt_trans hk hB)];exact ⟨rfl,trivial⟩
  · intro s _;simp only [iW,HX]
theorem rN {N:Nat} (hN:gS≤N) {w:g6} (hb:iL ib w.parts<gS) (hw:wW w.parts):lI N w=some (jy w):=by
  have hB:=lr hb;unfold lI jy;simp only [ke,HW,lB];cases ia w.HQ 0 1000000
  · rfl
  cases ia (w.parts.length:Int) 1 3
  · rfl
  simp only [HZ,Bool.or_self,HX,H0];rw [jY w.parts (fun _ p=>jr p) (.inl (w.parts.length:Int)) (.inr false) (Nat.lt_of_lt_of_le hB hN),kq]
  · simp only [HW,Ds hN hb hw,nq];cases w.parts.all jr<;>rfl
  · intro k y hy hk;have hm:=List.mem_of_getElem? hy;simp only [iX hk,HY,iz,hy,HW,ph hN (jG hb hm) (hw y hm),i5 (Nat.lt_trans hk hB)];cases jr y<;>rfl
  · simp only [iW,HX]
end Go.Kx
namespace Go.Kx
open Go
open Go.IntKind (i64)
set_option linter.unusedVariables false
set_option linter.unusedSimpArgs false
set_option maxRecDepth 10000
theorem sA {t:List gW} (h:jH t=true):t.length=5:=(sG.1 h).len
def nv (p:bh) (i:Int):Int:=if jH p.HC&&jc p.HC i then i else 0
theorem mj {t:List gW} {i:Int} (h:jc t i=true):0≤i∧i≤4:=by
  unfold jc at h;simp only [H3,iG] at h;exact h.1
theorem r8 (p:bh) (i:Int):0≤nv p i∧nv p i≤4:=by
  unfold nv;split
  · rename_i h;simp only [H3] at h;exact mj h.2
  · omega
theorem pd {N:Nat} (hN:gS≤N) (t:List gW) (i:Int):kM N t i=some (jH t&&jc t i):=by
  unfold kM jc;simp only [rj hN,rh,HW];cases h:jH t
  · rfl
  have hl:=sA h;cases hi:ia i 0 4
  · rfl
  · simp only [HY,Ca hi (by omega) (show (4:Int)<(t.length:Int) by omega),HW,H0]
theorem sr {N:Nat} (hN:gS≤N) (p:bh) (i:Int):kR N p i=some (nv p i):=by
  unfold kR nv;rw [pd hN,HW];cases (jH p.HC&&jc p.HC i)<;>rfl
theorem uK {p:bh} (h:jr p=true):jH p.HC=true:=by
  unfold jr at h;simp only [H3] at h;exact h.2.2.1
theorem uo {p:bh} (h:jr p=true) {i:Int} (h0:0≤i) (h4:i≤4):idx p.HC i=some (nth p.HC i):=je h0 (by have:=sA (uK h);omega)
def rL (p:bh) (i:Int):ig:=(nth p.HC (nv p (nth p.py.ag i).HP)).iB
def vz (p:bh) (i:Int):Bool:=((nth p.py.ag i).HK==0)&&decide ((rL p i).hY > 0)
def runnable (p:bh) (now:Int):List Int:=(threads p now).filter (vz p)
theorem xS (p:bh) (now:Int):(runnable p now).length≤10:=by
  unfold runnable;refine Nat.le_trans (List.length_filter_le _ _) ?_;unfold threads;split
  · rename_i hp;refine Nat.le_trans (rU _ _ _ _) ?_;rw [pG (jU hp)];exact Nat.le_refl _
  · exact Nat.zero_le _
theorem Ay {N:Nat} (hN:gS≤N) {p:bh} (hb:ib p<gS) (hw:wP p) (now:Int):nL N p now=some (runnable p now):=by
  have hl:=so p now;unfold nL runnable;rw [r7 hN hb hw,HW,pJ (threads p now) (fun _ i=>vz p i) (fun _ y=>y) hl hN,nZ]
  · rfl
  · intro k t y hy hk ht;obtain ⟨hp,y0,y9⟩:=ni (List.mem_of_getElem? hy);obtain ⟨r0,r4⟩:=r8 p (nth p.py.ag y).HP;simp only [iX hk,HY,iz,hy,HW,((jU hp).at y0 y9).1,sr hN,uo hp r0 r4,ns,i5 (Nat.lt_trans hk hl),kr ht (Nat.lt_of_le_of_lt hk hl)]
    show (bif vz p y then _ else _)=_
    cases vz p y<;>rfl
  · intro t;simp only [iW,HX]
end Go.Kx
namespace Go.Kx
open Go
open Go.IntKind (i64)
set_option linter.unusedVariables false
set_option linter.unusedSimpArgs false
set_option maxRecDepth 10000
def nU (h:Int):Bool:=ia h 0 29999
def nt (h:Int):Int:=if nU h then h % 3 else -1
def nu (h:Int):Int:=if nU h then h / 3 % 10 else -1
def AJ (h:Int):Int:=if nU h then h / 3 / 10 else -1
theorem wM {h:Int}:nU h=true ↔ 0≤h∧h≤29999:=iG
theorem hdiv {h:Int} (q:nU h=true):i64.wrap (Int.tdiv h 3)=h / 3∧Int.tmod h 3=h % 3∧Int.tmod (h / 3) 10=h / 3 % 10∧i64.wrap (Int.tdiv (h / 3) 10)=h / 3 / 10:=by
  rw [wM] at q
  have h3:0≤h / 3:=by omega
  refine ⟨?_,Int.tmod_eq_emod_of_nonneg q.1,Int.tmod_eq_emod_of_nonneg h3,?_⟩
  · rw [Int.tdiv_eq_ediv_of_nonneg q.1,iC (by omega) (by omega)]
  · rw [Int.tdiv_eq_ediv_of_nonneg h3,iC (by omega) (by omega)]
theorem rF (N:Nat) (h:Int):kY N h=some (nt h):=by
  unfold kY nt;rw [oz,HW];cases q:ia h 0 29999
  · simp [nU,q]
  · simp [nU,q,(hdiv (h:=h) q).2.1]
theorem ye (N:Nat) (h:Int):mM N h=some (nu h):=by
  unfold mM nu;rw [oz,HW];cases q:ia h 0 29999
  · simp [nU,q]
  · simp [nU,q,(hdiv (h:=h) q).1,(hdiv (h:=h) q).2.2.1]
theorem zw (N:Nat) (h:Int):m5 N h=some (AJ h):=by
  unfold m5 AJ;rw [oz,HW];cases q:ia h 0 29999
  · simp [nU,q]
  · simp [nU,q,(hdiv (h:=h) q).1,(hdiv (h:=h) q).2.2.2]
def sP (p i g:Int):Int:=if ia p 0 2&&(ia i 0 9&&ia g 0 999) then i64.wrap ((i64.wrap ((i64.wrap ((i64.wrap (g * 10))+i)) * 3))+p) else -1
theorem qX (N:Nat) (p i g:Int):lg N p i g=some (sP p i g):=by
  unfold lg sP;simp only [ny,ke,HW,lB];cases ia p 0 2<;>cases ia i 0 9<;>cases ia g 0 999<;>rfl
theorem Cj {h:Int} (q:0≤nt h):nU h=true∧0≤nu h∧nu h≤9:=by
  unfold nt at q;unfold nu;cases hk:nU h
  · simp [hk] at q
  · rw [wM] at hk;simp only [if_true];exact ⟨trivial,by omega,by omega⟩
def jk (w:g6) (p:Int):Bool:=ia p 0 ((w.parts.length:Int) - 1)
theorem jT {w:g6} {p:Int} (h:jk w p=true):idx w.parts p=some (nth w.parts p)∧nth w.parts p ∈ w.parts:=by
  unfold jk at h;rw [iG] at h;exact ⟨je h.1 (by omega),kv h.1 (by omega)⟩
end Go.Kx
namespace Go.Kx
open Go
open Go.IntKind (i64)
set_option linter.unusedVariables false
set_option linter.unusedSimpArgs false
set_option maxRecDepth 10000
theorem sM {N:Nat} (hN:gS≤N) {own:List Int} {a b:iO} (ho:own.length<gS) (ha:a.Hz.length<gS) (hb:b.Hz.length<gS):lR N own a b=some (my own a b):=by
  unfold lR my;simp only [uf hN ho,qD hN ha,qD hN hb,HW,lB];cases h1:kp own
  · rfl
  cases h2:iU a
  · rfl
  cases h3:iU b
  · rfl
  have l2:=(nj.1 h2).1;have l3:=(nj.1 h3).1;simp only [HZ,Bool.or_self,HX,H0];rw [EM a.Hz l2 (fun k y=>!decide (y > (b.Hz[k]?).getD 0) || own.contains (k:Int)) (.inl 4) (.inr false) hN]
  · simp only [HW];cases allI _ 0 a.Hz<;>rfl
  · intro k y hy hk hd;have hz:b.Hz[k]?=some (b.Hz[k]'(by omega)):=List.getElem?_eq_getElem _;simp only [hd,HY,iz,hy,hz,HW,Option.getD_some,sE hN ho,i5 (show k<gS from Nat.lt_trans hk (by decide))];cases decide (y > b.Hz[k]'(by omega))<;>cases own.contains (k:Int)<;>rfl
  · rfl
def target (p:Int) (c:il):Int:=if (c.HA==7) || (c.HA==17) then nt c.a else if c.HA==16 then c.b else p
def other (w:g6) (p:Int) (c:il):Int:=if jk w (target p c) then target p c else -1
theorem zz {N:Nat} {w:g6} (hl:w.parts.length<gS) (p:Int) (c:il):m4 N w p c=some (other w p c):=by
  have hl:w.parts.length<16777216:=hl;unfold m4 other target jk;simp only [rF,ke,HW];rw [iC (by omega) (by omega)]
  cases c.HA==7<;>cases c.HA==17<;>cases c.HA==16<;>simp only [HY,HX,HW,Bool.or_self,Bool.or_true,Bool.true_or,Bool.or_false,if_true,if_false,Bool.false_eq_true] <;>
    first | (cases ia (nt c.a) 0 ((w.parts.length:Int) - 1)<;>rfl) | (cases ia c.b 0 ((w.parts.length:Int) - 1)<;>rfl) | (cases ia p 0 ((w.parts.length:Int) - 1)<;>rfl)
theorem rR {w:g6} {p:Int} {c:il} (h:decide (other w p c<0)=false):jk w (other w p c)=true:=by
  unfold other at h ⊢;cases hp:jk w (target p c)
  · simp [hp] at h
  · simp [hp]
end Go.Kx
