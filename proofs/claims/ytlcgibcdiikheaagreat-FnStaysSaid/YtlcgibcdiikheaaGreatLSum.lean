import Derived.Test.YtlcgibcdiikheaaGreatLReach
namespace Go.Kx
open Go
open Go.IntKind (i64)
set_option linter.unusedVariables false
set_option linter.unusedSimpArgs false
set_option maxRecDepth 10000
def NA (a:gT):Prop:=i64.wrap a.bh=a.bh∧i64.wrap a.gS=a.gS∧i64.wrap a.gW=a.gW
theorem wrap_wrap (n:Int):i64.wrap (i64.wrap n)=i64.wrap n:=by
  have:-9223372036854775808≤i64.wrap n∧i64.wrap n≤9223372036854775807:=by
    simp only [IntKind.wrap,IntKind.signed,IntKind.bits];simp;omega
  exact ig this.1 this.2
theorem NA.sum (a b:gT):NA (iD a b):=⟨wrap_wrap _,wrap_wrap _,wrap_wrap _⟩
theorem NA.zero:NA ⟨0,0,0⟩:=⟨by decide,by decide,by decide⟩
theorem Lw {a:gT} (h:NA a):iD a ⟨0,0,0⟩=a:=by
  obtain ⟨h1,h2,h3⟩:=h;unfold iD;simp only [Int.add_zero,h1,h2,h3]
def jU (t:List g6):gT:=if jD t then jd ⟨0,0,0⟩ t else ⟨0,0,0⟩
theorem JR {N:Nat} (hN:gX≤N) {t:List g6} (hB:t.length<gX):tz N t=some (jU t):=by
  unfold tz jU;rw [xa hN,Q8,BQ hN hB];cases jD t<;>rfl
theorem E4:∀ (t:List g6) (s:gT),NA s→(∀ r,r ∈ t→r.Q2=false→r.iw=⟨0,0,0⟩)→t.foldl (fun s r=>iD s r.iw) s=jd s t
  | [],s,_,_=>rfl
  | r::t,s,hs,h=>by
    unfold jd;simp only [List.foldl_cons];cases hl:r.Q2
    · rw [h r (by simp) hl,Lw hs];exact E4 t s hs fun x hx=>h x (by simp [hx])
    · exact E4 t _ (NA.sum _ _) fun x hx=>h x (by simp [hx])
structure Tr (t:List g6):Prop where
  len:t.length=5
  rC:(nth t 0).Q2=true
  B2:(nth t 0).Q4=-1
  dead:∀ r,r ∈ t→r.Q2=false→r=nX
  iw:∀ r,r ∈ t→iC r.iw=true
  lead:∀ (k:Nat) (r:g6),t[k]?=some r→r.Q2=true→leads t 5 (k:Int)=true
  sum:iC (jd ⟨0,0,0⟩ t)=true
theorem FB:iC nX.iw=true:=by decide
theorem jL {t:List g6}:jD t=true ↔ Tr t:=by
  unfold jD;simp only [Rg,Bool.not_eq_true',bne_eq_false_iff_eq,mq,Nat.zero_add];constructor
  · rintro ⟨h1,h2,h3,h4,h5⟩;have hm:∀ r,r ∈ t→∃ k:Nat,t[k]?=some r:=fun o ho=>List.getElem?_of_mem ho;refine ⟨by omega,h2,h3,fun r hr hl=>?_,fun r hr=>?_,fun k r hk hl=>?_,h5⟩
    · obtain ⟨k,hk⟩:=hm r hr;have:=h4 k r hk;unfold oP at this;simpa [hl] using this
    · obtain ⟨k,hk⟩:=hm r hr;have:=h4 k r hk;unfold oP at this;split at this
      · simp only [Rg] at this;exact this.1
      · simp only [decide_eq_true_eq] at this;rw [this];exact FB
    · have:=h4 k r hk;unfold oP at this;rw [if_pos hl] at this;simp only [Rg] at this;exact this.2
  · intro h;refine ⟨by have:=h.len;omega,h.rC,h.B2,fun k r hr=>?_,h.sum⟩;unfold oP;have hm:=List.mem_of_getElem? hr;cases hl:r.Q2
    · simp [h.dead r hm hl]
    · simp [h.iw r hm,h.lead k r hr hl]
theorem Da {N:Nat} (hN:gX≤N) {t:List g6} (hB:t.length<gX):re N t=some (jU t):=by
  unfold re jU;rw [vm hN,Q8];cases h:jD t
  · rfl
  have ht:=jL.1 h;simp only [Rd,Q9,if_true]
  rw [show ((0:Int),(0:Int),(0:Int),(0:Int))=(fun (k:Nat) (s:gT)=>((k:Int),s.bh,s.gS,s.gW)) 0 ⟨0,0,0⟩ from rfl,
    kO t (fun (k:Nat) (s:gT)=>((k:Int),s.bh,s.gS,s.gW)) (fun _ s r=>iD s r.iw) (fun s=>((t.length:Int),s.bh,s.gS,s.gW)) (fun _ _=>True) ?_ ?_ (Nat.lt_of_lt_of_le hB hN) trivial,mf,E4 t _ NA.zero fun r hr hl=>by rw [ht.dead r hr hl];rfl]
  · rfl
  · intro k s r hy hk _;simp only [iX hk,Rb,iE,hy,Q8,wo,iZ (Nat.lt_trans hk hB)];exact ⟨trivial,trivial⟩
  · intro s _;simp only [iW,Q9]
def held (p:cd):Int:=((p.heap.ag.take 10).filter iN).foldl (fun n o=>i64.wrap (n+o.bh)) 0
theorem foldl_filter {α β:Type} (p:α→Bool) (g:β→α→β):∀ (l:List α) (b:β),(l.filter p).foldl g b=l.foldl (fun b y=>if p y then g b y else b) b
  | [],_=>rfl
  | y::l,b=>by
    rw [List.filter_cons,List.foldl_cons];cases h:p y
    · simp [foldl_filter p g l]
    · simp [foldl_filter p g l]
theorem foldl_map' {α β γ:Type} (f:α→γ) (g:β→γ→β):∀ (l:List α) (b:β),(l.map f).foldl g b=l.foldl (fun b y=>g b (f y)) b
  | [],_=>rfl
  | y::l,b=>by simp [foldl_map' f g l]
theorem CC {α β:Type} (p:α→Bool) (h:α→β):∀ (l:List α) (k:Nat),kW (fun _ y=>p y) (fun _ y=>h y) k l=(l.filter p).map h
  | [],_=>rfl
  | y::l,k=>by
    unfold kW;rw [CC p h l,List.filter_cons];split<;>simp
theorem O5 {N:Nat} (hN:gX≤N) {p:cd} (hb:ij p<gX) (hw:wP p):wR N p=some (held p):=by
  have h4:=(kC hb).2.2.2.1;have hl:=lN h4;have hN':16777216≤N:=hN;unfold wR held
  rw [foldl_filter,show ((0:Int),(0:Int))=(fun (k:Nat) (n:Int)=>(n,(k:Int))) 0 0 from rfl,
    kO (p.heap.ag.take 10) (fun (k:Nat) (n:Int)=>(n,(k:Int))) (fun _ n o=>if iN o then i64.wrap (n+o.bh) else n) (fun n=>(n,(((p.heap.ag.take 10).length:Nat):Int))) (fun _ _=>True) ?_ ?_ (by simp;omega) trivial,mf]
  · rfl
  · intro k n y hy hk _
    have hk2:k<10∧k<p.heap.ag.length:=by simp at hk;omega
    rw [List.getElem?_take_of_lt hk2.1] at hy;have hm:=List.mem_of_getElem? hy
    have h3:decide ((k:Int)<10)=true:=by simp;omega
    refine ⟨?_,trivial⟩;simp only [iX hk2.2,h3,Rb,iE,hy,Q8,HS hN (kn h4 hm) (hw y hm),iZ (show k<gX from Nat.lt_trans hk2.1 (by decide))];cases iN y<;>rfl
  · intro n _;simp only [List.length_take]
    rcases Nat.lt_or_ge 10 p.heap.ag.length with h | h
    · have e:min 10 p.heap.ag.length=10:=by omega
      have h3:decide (((10:Nat):Int)<(p.heap.ag.length:Int))=true:=by simp;omega
      simp only [e,h3,Rb];rfl
    · have e:min 10 p.heap.ag.length=p.heap.ag.length:=by omega
      simp only [e,iW,Q9,Q8]
def view (o:gE):qt:=qt.mk o.Q3 o.py o.box o.res o.iF o.bh o.QW o.iK o.iG o.mark
theorem Pp (n:Nat):(if (10:Int)<(n:Int) then (10:Int) else (n:Int))=((min 10 n:Nat):Int):=by split<;>omega
theorem DA {N:Nat} (hN:gX≤N) {p:cd} (hb:ij p<gX):pe N p=some (((p.heap.ag.take 10).filter iN).map view):=by
  have h4:=(kC hb).2.2.2.1;have h10:iY ib (p.heap.ag.take 10)<gX:=Nat.lt_of_le_of_lt (Ln _ _ _) h4;have hl:=lN h10;unfold pe
  have e:p.heap.ag.take (min 10 p.heap.ag.length)=p.heap.ag.take 10:=by
    rcases Nat.lt_or_ge 10 p.heap.ag.length with h | h
    · rw [show min 10 p.heap.ag.length=10 by omega]
    · rw [show min 10 p.heap.ag.length=p.heap.ag.length by omega,List.take_of_length_le h,List.take_length]
  rw [Pp,yd (by omega),e,Q8,pc (p.heap.ag.take 10) (fun _ o=>iN o) (fun _ o=>view o) hl hN,CC]
  · rfl
  · intro k t y hy hk ht;have hz:=kn h10 (List.mem_of_getElem? hy);simp only [iX hk,Rb,iE,hy,Q8,GV hN hz,iZ (Nat.lt_trans hk hl),kX ht (Nat.lt_of_le_of_lt hk hl)];cases iN y<;>rfl
  · intro t;simp only [iW,Q9]
theorem Ox {N:Nat} (hN:gX≤N) {p:cd} (hb:ij p<gX):wz N p=some (held p):=by
  unfold wz held;rw [DA hN hb,Q8]
  have hl:(((p.heap.ag.take 10).filter iN).map view).length<gX:=by
    have h1:=List.length_filter_le iN (p.heap.ag.take 10);have h2:(16777216:Nat)=gX:=rfl;simp only [List.length_map];simp only [List.length_take] at h1;omega
  have e:=foldl_map' view (fun (n:Int) (o:qt)=>i64.wrap (n+o.bh)) ((p.heap.ag.take 10).filter iN) 0;generalize ((p.heap.ag.take 10).filter iN).map view=v at *
  rw [show ((0:Int),(0:Int))=(fun (k:Nat) (n:Int)=>(n,(k:Int))) 0 0 from rfl,
    kO v (fun (k:Nat) (n:Int)=>(n,(k:Int))) (fun _ n o=>i64.wrap (n+o.bh)) (fun n=>(n,(v.length:Int))) (fun _ _=>True) ?_ ?_ (Nat.lt_of_lt_of_le hl hN) trivial,mf,e]
  · rfl
  · intro k n y hy hk _;simp only [iX hk,Rb,iE,hy,Q8,iZ (Nat.lt_trans hk hl)];exact ⟨trivial,trivial⟩
  · intro n _;simp only [iW,Q9]
def kN (p:cd):gT:=if iC p.gP then iD ⟨i64.wrap ((jU p.QR).bh+held p),(jU p.QR).gS,(jU p.QR).gW⟩ p.gP else jU p.QR
theorem KB {N:Nat} (hN:gX≤N) {p:cd} (hb:ij p<gX):tB N p=some (kN p):=by
  unfold tB kN;simp only [Da hN (kC hb).2.2.1,um,Ox hN hb,wo,Q8];cases iC p.gP<;>rfl
theorem KS {N:Nat} (hN:gX≤N) {p:cd} (hb:ij p<gX) (hw:wP p):tq N p=some (kN p):=by
  unfold tq kN;simp only [JR hN (kC hb).2.2.1,rh,O5 hN hb hw,Q8];cases iC p.gP<;>rfl
def nY (s:gT) (l:List cd):gT:=l.foldl (fun s p=>iD s (kN p)) s
def jj (w:g7):Bool:=ic w.Q1 0 1000000&&(ic (w.parts.length:Int) 1 3&&(w.parts.all ik&&iC (nY ⟨0,0,0⟩ w.parts)))
def wW (l:List cd):Prop:=∀ p,p ∈ l→wP p
theorem Mi {N:Nat} (hN:gX≤N) {l:List cd} (hb:iY ij l<gX) (hw:wW l):uM N l=some (nY ⟨0,0,0⟩ l):=by
  have hB:=lN hb;unfold uM nY
  rw [show ((0:Int),(0:Int),(0:Int),(0:Int))=(fun (k:Nat) (s:gT)=>((k:Int),s.bh,s.gS,s.gW)) 0 ⟨0,0,0⟩ from rfl,
    kO l (fun (k:Nat) (s:gT)=>((k:Int),s.bh,s.gS,s.gW)) (fun _ s p=>iD s (kN p)) (fun s=>((l.length:Int),s.bh,s.gS,s.gW)) (fun _ _=>True) ?_ ?_ (Nat.lt_of_lt_of_le hB hN) trivial,mf]
  · rfl
  · intro k s p hy hk _;have hm:=List.mem_of_getElem? hy;simp only [iX hk,Rb,iE,hy,Q8,KS hN (kn hb hm) (hw p hm),iZ (Nat.lt_trans hk hB)];exact ⟨rfl,trivial⟩
  · intro s _;simp only [iW,Q9]
theorem xu {N:Nat} (hN:gX≤N) {w:g7} (hb:iY ij w.parts<gX) (hw:wW w.parts):oy N w=some (jj w):=by
  have hB:=lN hb;unfold oy jj;simp only [mF,Q8,lM];cases ic w.Q1 0 1000000
  · rfl
  cases ic (w.parts.length:Int) 1 3
  · rfl
  simp only [Rd,Bool.or_self,Q9,Re];rw [kv w.parts (fun _ p=>ik p) (.inl (w.parts.length:Int)) (.inr false) (Nat.lt_of_lt_of_le hB hN),lr]
  · simp only [Q8,Mi hN hb hw,rh];cases w.parts.all ik<;>rfl
  · intro k y hy hk;have hm:=List.mem_of_getElem? hy;simp only [iX hk,Rb,iE,hy,Q8,ud hN (kn hb hm) (hw y hm),iZ (Nat.lt_trans hk hB)];cases ik y<;>rfl
  · simp only [iW,Q9]
theorem CP {N:Nat} (hN:gX≤N) {w:g7} (hb:iY ij w.parts<gX):rj N w=some (jj w):=by
  have hB:=lN hb;unfold rj jj;simp only [yp,qg,Q8,lM];cases ic w.Q1 0 1000000
  · rfl
  cases ic (w.parts.length:Int) 1 3
  · rfl
  simp only [Rd,Bool.or_self,Q9,Re]
  rw [show ((0:Int),(0:Int),(0:Int),(0:Int))=(fun (k:Nat) (s:gT)=>((k:Int),s.bh,s.gS,s.gW)) 0 ⟨0,0,0⟩ from rfl,
    nP w.parts (fun (k:Nat) (s:gT)=>((k:Int),s.bh,s.gS,s.gW)) (fun _ s p=>if ik p then .inl (iD s (kN p)) else .inr (.inr false)) (fun s=>.inl ((w.parts.length:Int),s.bh,s.gS,s.gW)) (fun _ _=>True) ?_ ?_ (Nat.lt_of_lt_of_le hB hN) trivial]
  · simp only [Q8,um]
    have key:∀ (l:List cd) (k:Nat) (s:gT),Sum.elim (fun (o56:Int×Int×Int×Int)=>some (iC (gT.mk o56.2.1 o56.2.2.1 o56.2.2.2))) (fun r61=>some r61) (mO (fun _ s p=>if ik p then .inl (iD s (kN p)) else .inr (.inr false)) (fun s=>.inl ((w.parts.length:Int),s.bh,s.gS,s.gW)) k s l)=some (l.all ik&&iC (nY s l)):=by
      intro l
      induction l with
      | nil=>intro k s;rfl
      | cons p l ih =>
        intro k s;unfold mO;rw [List.all_cons];cases hp:ik p
        · rfl
        · simpa [nY] using ih (k+1) (iD s (kN p))
    exact key w.parts 0 _
  · intro k s p hy hk _;have hm:=List.mem_of_getElem? hy;refine ⟨?_,fun _ _=>trivial⟩;simp only [iX hk,Rb,iE,hy,Q8,vy hN (kn hb hm),KB hN (kn hb hm),wo,iZ (Nat.lt_trans hk hB)];cases ik p<;>rfl
  · intro s _;simp only [iW,Q9]
end Go.Kx
namespace Go.Kx
open Go
open Go.IntKind (i64)
set_option linter.unusedVariables false
set_option linter.unusedSimpArgs false
set_option maxRecDepth 10000
theorem rq {t:List g6} (h:jD t=true):t.length=5:=(jL.1 h).len
def kK (p:cd) (i:Int):Int:=if jD p.QR&&iH p.QR i then i else 0
theorem kJ {t:List g6} {i:Int} (h:iH t i=true):0≤i∧i≤4:=by
  unfold iH at h;simp only [Rg,ir] at h;exact h.1
theorem rU (p:cd) (i:Int):0≤kK p i∧kK p i≤4:=by
  unfold kK;split
  · rename_i h;simp only [Rg] at h;exact kJ h.2
  · omega
theorem Hl {N:Nat} (hN:gX≤N) (p:cd) (i:Int):uw N p i=some (kK p i):=by
  unfold uw kK;rw [vm hN,Q8];cases h:jD p.QR
  · rfl
  · simp only [Rd,Q9,wF N (rq h),Q8,Re];cases iH p.QR i<;>rfl
theorem uf {N:Nat} (hN:gX≤N) (t:List g6) (i:Int):nb N t i=some (jD t&&iH t i):=by
  unfold nb iH;simp only [xa hN,wq,Q8];cases h:jD t
  · rfl
  have hl:=rq h;cases hi:ic i 0 4
  · rfl
  · simp only [Rb,Be hi (by omega) (show (4:Int)<(t.length:Int) by omega),Q8,Re]
theorem xP {N:Nat} (hN:gX≤N) (p:cd) (i:Int):nm N p i=some (kK p i):=by
  unfold nm kK;rw [uf hN,Q8];cases (jD p.QR&&iH p.QR i)<;>rfl
theorem lP {p:cd} (h:ik p=true):jD p.QR=true:=by
  unfold ik at h;simp only [Rg] at h;exact h.2.2.1
theorem xM {p:cd} (h:ik p=true) {i:Int} (h0:0≤i) (h4:i≤4):idx p.QR i=some (nth p.QR i):=jh h0 (by have:=rq (lP h);omega)
def om (p:cd) (i:Int):gT:=(nth p.QR (kK p (nth p.heap.ag i).res)).iw
theorem BR {N:Nat} (hN:gX≤N) {p:cd} (h:ik p=true) {i:Int} (h0:0≤i) (h9:i≤9):rT N p i=some (om p i):=by
  unfold rT om;obtain ⟨r0,r4⟩:=rU p (nth p.heap.ag i).res;simp only [((iT h).at h0 h9).1,Q8,Hl hN,xM h r0 r4]
def pb (p:cd) (i:Int):Bool:=((nth p.heap.ag i).QW==0)&&decide ((om p i).gW > 0)
def runnable (p:cd) (now:Int):List Int:=(threads p now).filter (pb p)
theorem za (p:cd) (now:Int):(runnable p now).length≤10:=by
  unfold runnable;refine Nat.le_trans (List.length_filter_le _ _) ?_;unfold threads;split
  · rename_i hp;refine Nat.le_trans (xi _ _ _ _) ?_;rw [pE (iT hp)];exact Nat.le_refl _
  · exact Nat.zero_le _
theorem ID {N:Nat} (hN:gX≤N) {p:cd} (hb:ij p<gX) (now:Int):rL N p now=some (runnable p now):=by
  have hl:=tL p now;unfold rL runnable;rw [CA hN hb,Q8,pc (threads p now) (fun _ i=>pb p i) (fun _ y=>y) hl hN,pY]
  · rfl
  · intro k t y hy hk ht;obtain ⟨hp,y0,y9⟩:=oB (List.mem_of_getElem? hy);simp only [iX hk,Rb,iE,hy,Q8,((iT hp).at y0 y9).1,BR hN hp y0 y9,mh,iZ (Nat.lt_trans hk hl),kX ht (Nat.lt_of_le_of_lt hk hl)]
    show (bif pb p y then _ else _)=_
    cases pb p y<;>rfl
  · intro t;simp only [iW,Q9]
theorem Ir {N:Nat} (hN:gX≤N) {p:cd} (hb:ij p<gX) (hw:wP p) (now:Int):rY N p now=some (runnable p now):=by
  have hl:=tL p now;unfold rY runnable;rw [xg hN hb hw,Q8,pc (threads p now) (fun _ i=>pb p i) (fun _ y=>y) hl hN,pY]
  · rfl
  · intro k t y hy hk ht;obtain ⟨hp,y0,y9⟩:=oB (List.mem_of_getElem? hy);obtain ⟨r0,r4⟩:=rU p (nth p.heap.ag y).res;simp only [iX hk,Rb,iE,hy,Q8,((iT hp).at y0 y9).1,xP hN,xM hp r0 r4,mh,iZ (Nat.lt_trans hk hl),kX ht (Nat.lt_of_le_of_lt hk hl)]
    show (bif pb p y then _ else _)=_
    cases pb p y<;>rfl
  · intro t;simp only [iW,Q9]
def H5 (h:gV) (r:List Bool) (k:Nat) (o:gE):Bool:=(decide ((k:Int)<h.gc.Q0)&&o.mark) || (decide ((k:Int) ≥ h.gc.Q0)&&(decide ((k:Int) > 0)&&(nth r (k:Int)&&!o.mark)))
def black (h:gV) (r:List Bool) (k:Nat) (o:gE):Bool:=nth r (k:Int)&&((o.mark || ((k:Int)==0))&&!h.gc.gQ.contains (k:Int))
def M0 (h:gV) (r:List Bool) (y:Int):Bool:=decide (y > 0)&&(nth r y&&!(nth h.ag y).mark)
def Oh (h:gV) (r:List Bool) (k:Nat) (o:gE):Bool:=!black h r k o || (jr h.ag (k:Int)).all fun y=>!M0 h r y
def EA (h:gV) (now:Int):Bool:=kb h&&(bif h.gc.QS==1 then allI (fun k o=>!H5 h (reach h.ag now) k o) 0 h.ag else allI (Oh h (reach h.ag now)) 0 h.ag)
end Go.Kx
namespace Go.Kx
open Go
open Go.IntKind (i64)
set_option linter.unusedVariables false
set_option linter.unusedSimpArgs false
set_option maxRecDepth 10000
def nQ (h:Int):Bool:=ic h 0 29999
def og (h:Int):Int:=if nQ h then h % 3 else -1
def nG (h:Int):Int:=if nQ h then h / 3 % 10 else -1
def ym (h:Int):Int:=if nQ h then h / 3 / 10 else -1
theorem xU {h:Int}:nQ h=true ↔ 0≤h∧h≤29999:=ir
theorem hdiv {h:Int} (q:nQ h=true):i64.wrap (Int.tdiv h 3)=h / 3∧Int.tmod h 3=h % 3∧Int.tmod (h / 3) 10=h / 3 % 10∧i64.wrap (Int.tdiv (h / 3) 10)=h / 3 / 10:=by
  rw [xU] at q
  have h3:0≤h / 3:=by omega
  refine ⟨?_,Int.tmod_eq_emod_of_nonneg q.1,Int.tmod_eq_emod_of_nonneg h3,?_⟩
  · rw [Int.tdiv_eq_ediv_of_nonneg q.1,ig (by omega) (by omega)]
  · rw [Int.tdiv_eq_ediv_of_nonneg h3,ig (by omega) (by omega)]
theorem DN (N:Nat) (h:Int):qd N h=some (og h):=by
  unfold qd og;rw [sy,Q8];cases q:ic h 0 29999
  · simp [nQ,q]
  · simp [nQ,q,(hdiv (h:=h) q).2.1]
theorem w9 (N:Nat) (h:Int):nt N h=some (og h):=by
  unfold nt og;rw [sJ,Q8];cases q:ic h 0 29999
  · simp [nQ,q]
  · simp [nQ,q,(hdiv (h:=h) q).2.1]
theorem DQ (N:Nat) (h:Int):qe N h=some (nG h):=by
  unfold qe nG;rw [sy,Q8];cases q:ic h 0 29999
  · simp [nQ,q]
  · simp [nQ,q,(hdiv (h:=h) q).1,(hdiv (h:=h) q).2.2.1]
theorem FC (N:Nat) (h:Int):pZ N h=some (nG h):=by
  unfold pZ nG;rw [sJ,Q8];cases q:ic h 0 29999
  · simp [nQ,q]
  · simp [nQ,q,(hdiv (h:=h) q).1,(hdiv (h:=h) q).2.2.1]
theorem FW (N:Nat) (h:Int):qS N h=some (ym h):=by
  unfold qS ym;rw [sy,Q8];cases q:ic h 0 29999
  · simp [nQ,q]
  · simp [nQ,q,(hdiv (h:=h) q).1,(hdiv (h:=h) q).2.2.2]
theorem Gs (N:Nat) (h:Int):qW N h=some (ym h):=by
  unfold qW ym;rw [sJ,Q8];cases q:ic h 0 29999
  · simp [nQ,q]
  · simp [nQ,q,(hdiv (h:=h) q).1,(hdiv (h:=h) q).2.2.2]
def lC (p i g:Int):Int:=if ic p 0 2&&(ic i 0 9&&ic g 0 999) then i64.wrap ((i64.wrap ((i64.wrap ((i64.wrap (g * 10))+i)) * 3))+p) else -1
theorem uV (N:Nat) (p i g:Int):na N p i g=some (lC p i g):=by
  unfold na lC;simp only [sn,mF,Q8,lM];cases ic p 0 2<;>cases ic i 0 9<;>cases ic g 0 999<;>rfl
theorem Jd {h:Int} (q:0≤og h):nQ h=true∧0≤nG h∧nG h≤9:=by
  unfold og at q;unfold nG;cases hk:nQ h
  · simp [hk] at q
  · rw [xU] at hk;simp only [if_true];exact ⟨trivial,by omega,by omega⟩
def ju (w:g7) (p:Int):Bool:=ic p 0 ((w.parts.length:Int) - 1)
theorem Km {N:Nat} {w:g7} (hl:w.parts.length<gX) (p:Int):tO N w p=some (ju w p):=by
  have hl:w.parts.length<16777216:=hl;unfold tO ju;rw [qg,ig (by omega) (by omega)];rfl
theorem kp {w:g7} {p:Int} (h:ju w p=true):idx w.parts p=some (nth w.parts p)∧nth w.parts p ∈ w.parts:=by
  unfold ju at h;rw [ir] at h;exact ⟨jh h.1 (by omega),j7 h.1 (by omega)⟩
end Go.Kx
namespace Go.Kx
open Go
open Go.IntKind (i64)
set_option linter.unusedVariables false
set_option linter.unusedSimpArgs false
set_option maxRecDepth 10000
theorem yb {N:Nat} (hN:gX≤N) {own:List Int} {a b:kj} (ho:own.length<gX) (ha:a.so.length<gX) (hb:b.so.length<gX):oH N own a b=some (vr own a b):=by
  unfold oH vr;simp only [zO hN ho,vR hN ha,vR hN hb,Q8,lM];cases h1:mJ own
  · rfl
  cases h2:jE a
  · rfl
  cases h3:jE b
  · rfl
  have l2:=(xF.1 h2).1;have l3:=(xF.1 h3).1;simp only [Rd,Bool.or_self,Q9,Re];rw [Oi a.so l2 (fun k y=>!decide (y > (b.so[k]?).getD 0) || own.contains (k:Int)) (.inl 4) (.inr false) hN]
  · simp only [Q8];cases allI _ 0 a.so<;>rfl
  · intro k y hy hk hd;have hz:b.so[k]?=some (b.so[k]'(by omega)):=List.getElem?_eq_getElem _;simp only [hd,Rb,iE,hy,hz,Q8,Option.getD_some,xW hN ho,iZ (show k<gX from Nat.lt_trans hk (by decide))];cases decide (y > b.so[k]'(by omega))<;>cases own.contains (k:Int)<;>rfl
  · rfl
def target (p:Int) (c:iA):Int:=if (c.py==7) || (c.py==17) then og c.a else if c.py==16 then c.b else p
def other (w:g7) (p:Int) (c:iA):Int:=if ju w (target p c) then target p c else -1
theorem FX {N:Nat} {w:g7} (hl:w.parts.length<gX) (p:Int) (c:iA):qX N w p c=some (other w p c):=by
  have hl:w.parts.length<16777216:=hl;unfold qX other target ju;simp only [w9,mF,Q8];rw [ig (by omega) (by omega)]
  cases c.py==7<;>cases c.py==17<;>cases c.py==16<;>simp only [Rb,Q9,Q8,Bool.or_self,Bool.or_true,Bool.true_or,Bool.or_false,if_true,if_false,Bool.false_eq_true] <;>
    first | (cases ic (og c.a) 0 ((w.parts.length:Int) - 1)<;>rfl) | (cases ic c.b 0 ((w.parts.length:Int) - 1)<;>rfl) | (cases ic p 0 ((w.parts.length:Int) - 1)<;>rfl)
theorem uF {w:g7} {p:Int} {c:iA} (h:decide (other w p c<0)=false):ju w (other w p c)=true:=by
  unfold other at h ⊢;cases hp:ju w (target p c)
  · simp [hp] at h
  · simp [hp]
end Go.Kx
namespace Go.Kx
open Go
open Go.IntKind (i64)
set_option linter.unusedVariables false
set_option linter.unusedSimpArgs false
set_option maxRecDepth 10000
def better (p:cd) (v i:Int):Int:=if decide ((om p i).gW≤(om p v).gW) then i else v
def n7 (p:cd) (now:Int):Int:=match threads p now with
  | a::b::l=>(b::l).foldl (better p) a
  | _=>-1
theorem A3 {p:cd} {m:List Int}:∀ (l:List Int) (v:Int),v ∈ m→(∀ y,y ∈ l→y ∈ m)→l.foldl (better p) v ∈ m
  | [],v,hv,_=>hv
  | y::l,v,hv,h=>by
    rw [List.foldl_cons];refine A3 l _ ?_ fun z hz=>h z (by simp [hz]);unfold better;split
    · exact h y (by simp)
    · exact hv
theorem sB {p:cd} {now:Int} (h:decide (n7 p now ≥ 0)=true):n7 p now ∈ threads p now:=by
  unfold n7 at h ⊢
  cases ht:threads p now with
  | nil=>rw [ht] at h;simp at h
  | cons a l=>cases l with
    | nil=>rw [ht] at h;simp at h
    | cons b l=>exact A3 (b::l) a (by simp) fun y hy=>by simp at hy ⊢;exact .inr hy
theorem Np {N:Nat} (hN:gX≤N) {p:cd} {l:List Int} (hl:l.length<gX) {body:Int×Int→Option ((Int×Int)⊕(Int×Int))} (hm:∀ y,y ∈ l→y ∈ l) {v0:Int} (I:Int→Prop) (h0:I v0)
    (hs:∀ (k:Nat) (v y:Int),l[k]?=some y→k<l.length→I v→body (v,(k:Int))=some (.inl (better p v y,((k+1:Nat):Int)))∧I (better p v y)) (he:∀ v,body (v,(l.length:Int))=some (.inr (v,(l.length:Int)))) :
    iter body N (v0,0)=some (l.foldl (better p) v0,(l.length:Int)):=by
  rw [show (v0,(0:Int))=(fun (k:Nat) (v:Int)=>(v,(k:Int))) 0 v0 from rfl,
    kO l (fun (k:Nat) (v:Int)=>(v,(k:Int))) (fun _ v y=>better p v y) (fun v=>(v,(l.length:Int))) (fun _ v=>I v) (fun k v y hy hk hI=>hs k v y hy hk hI) (fun v _=>he v) (Nat.lt_of_lt_of_le hl hN) h0,mf]
theorem sN {p:cd} {now y:Int} (h:y ∈ threads p now):ik p=true∧0≤y∧y≤9:=oB h
theorem Lm {N:Nat} (hN:gX≤N) {p:cd} (hb:ij p<gX) (now:Int):vb N p now=some (n7 p now):=by
  have hl:=tL p now;unfold vb n7;rw [CA hN hb,Q8]
  cases ht:threads p now with
  | nil=>rfl
  | cons a l=>cases l with
    | nil=>rfl
    | cons b l =>
      have hm:∀ y,y ∈ a::b::l→ik p=true∧0≤y∧y≤9:=fun y hy=>sN (by rw [ht];exact hy);rw [ht] at hl;rw [show decide ((((a::b::l).length:Nat):Int)<2)=false by simp;omega,show idx (a::b::l) 0=some a from rfl];simp only [Q9,Q8];rw [Np hN (p:=p) (l:=a::b::l) hl (fun _ h=>h) (fun v=>ik p=true∧0≤v∧v≤9) (hm a (by simp))]
      · have e:better p a a=a:=by unfold better;split<;>rfl
        rw [Q8,List.foldl_cons,e]
      · intro k v y hy hk hI;obtain ⟨hp,y0,y9⟩:=hm y (List.mem_of_getElem? hy);refine ⟨?_,?_⟩
        · simp only [iX hk,Rb,iE,hy,Q8,BR hN hp y0 y9,BR hN hp hI.2.1 hI.2.2,iZ (Nat.lt_trans hk hl)];unfold better;cases decide ((om p y).gW≤(om p v).gW)<;>rfl
        · unfold better;split
          · exact ⟨hp,y0,y9⟩
          · exact hI
      · intro v;simp only [iW,Q9]
theorem LG {N:Nat} (hN:gX≤N) {p:cd} (hb:ij p<gX) (hw:wP p) (now:Int):uS N p now=some (n7 p now):=by
  have hl:=tL p now;have hB:(16777216:Nat)=gX:=rfl;unfold uS n7;rw [xg hN hb hw,Q8]
  cases ht:threads p now with
  | nil=>rfl
  | cons a l=>cases l with
    | nil=>rfl
    | cons b l =>
      have hm:∀ y,y ∈ a::b::l→ik p=true∧0≤y∧y≤9:=fun y hy=>sN (by rw [ht];exact hy);rw [ht] at hl;rw [show decide ((((a::b::l).length:Nat):Int)<2)=false by simp;omega];simp only [Q9];obtain ⟨hpa,a0,a9⟩:=hm a (by simp)
      have step:∀ (k:Nat) (v y:Int),(a::b::l)[k]?=some y→k<(a::b::l).length→(v=-1∨0≤v∧v≤9) →
          (bif (decide ((k:Int)<(((a::b::l).length:Nat):Int))) then ((bif (decide (v<0)) then (some true) else ((idx (a::b::l) (k:Int)).bind fun y14=>(idx p.heap.ag y14).bind fun y27=>(idx p.heap.ag v).bind fun y45=>(nm N p y27.res).bind fun y63=>(idx p.QR y63).bind fun y65=>(nm N p y45.res).bind fun y74=>(idx p.QR y74).bind fun y76=>some (decide (y65.iw.gW≤y76.iw.gW))):Option Bool).bind fun j11=>bif j11 then ((idx (a::b::l) (k:Int)).bind fun y87=>some (.inl (y87,i64.wrap ((k:Int)+1)))) else (some (.inl (v,i64.wrap ((k:Int)+1))))) else (some (.inr (v,(k:Int)))):Option ((Int×Int)⊕(Int×Int))) =
          some (.inl (if decide (v<0) then y else better p v y,((k+1:Nat):Int))):=by
        intro k v y hy hk hv;obtain ⟨hp,y0,y9⟩:=hm y (List.mem_of_getElem? hy);simp only [iX hk,Rb,iE,hy,Q8,iZ (Nat.lt_trans hk hl)];cases hd:decide (v<0)
        · have hv:0≤v∧v≤9:=by simp at hd;omega
          obtain ⟨r0,r4⟩:=rU p (nth p.heap.ag y).res;obtain ⟨q0,q4⟩:=rU p (nth p.heap.ag v).res;simp only [Q9,((iT hp).at y0 y9).1,((iT hp).at hv.1 hv.2).1,xP hN,xM hp r0 r4,xM hp q0 q4,Q8,Bool.false_eq_true,if_false];unfold better;rw [show (nth p.QR (kK p (nth p.heap.ag y).res)).iw.gW=(om p y).gW from rfl,show (nth p.QR (kK p (nth p.heap.ag v).res)).iw.gW=(om p v).gW from rfl];cases decide ((om p y).gW≤(om p v).gW)<;>rfl
        · rfl
      rw [show ((-1:Int),(0:Int))=(fun (k:Nat) (v:Int)=>(v,(k:Int))) 0 (-1) from rfl,
        kO (a::b::l) (fun (k:Nat) (v:Int)=>(v,(k:Int))) (fun _ v y=>if decide (v<0) then y else better p v y) (fun v=>(v,(((a::b::l).length:Nat):Int))) (fun _ v=>v=-1∨0≤v∧v≤9) ?_ ?_ (by omega) (.inl rfl),mf]
      · simp only [Q8];congr 1
        have key:∀ (m:List Int) (v:Int),0≤v→(∀ y,y ∈ m→0≤y)→m.foldl (fun v y=>if decide (v<0) then y else better p v y) v=m.foldl (better p) v:=by
          intro m
          induction m with
          | nil=>intro v _ _;rfl
          | cons y m ih =>
            intro v hv hy
            have hd:decide (v<0)=false:=by simp;omega
            simp only [List.foldl_cons,hd,Bool.false_eq_true,if_false];refine ih _ ?_ fun z hz=>hy z (by simp [hz]);unfold better;split
            · exact hy y (by simp)
            · exact hv
        rw [List.foldl_cons];exact key (b::l) a a0 fun y hy=>(hm y (by simp at hy ⊢;exact .inr hy)).2.1
      · intro k v y hy hk hI;refine ⟨step k v y hy hk hI,.inr ?_⟩;obtain ⟨hp,y0,y9⟩:=hm y (List.mem_of_getElem? hy);split
        · exact ⟨y0,y9⟩
        · rename_i hd;unfold better;split
          · exact ⟨y0,y9⟩
          · simp at hd;omega
      · intro v _;simp only [iW,Q9]
def mu (p:cd) (l:List gE):cd:=cd.mk p.QQ p.own p.QR (gV.mk l p.heap.gc) p.gR p.QZ p.QY p.gP p.hY p.QX
def nq (o:gE) (t:Int):gE:=gE.mk o.Q3 o.py o.box o.res t o.bh o.QW o.iK o.iG o.mark o.gZ o.QV o.QU
def qf (p:cd) (now:Int):List gE:=if decide (n7 p now ≥ 0) then p.heap.ag.set (n7 p now).toNat (nq (nth p.heap.ag (n7 p now)) (i64.wrap (now - 1))) else p.heap.ag
def jB (p:cd) (now:Int):cd:=if ik p&&(ic now 1 1000000&&!decide (p.hY<3)) then cd.mk p.QQ p.own p.QR (gV.mk (qf p now) p.heap.gc) p.gR p.QZ p.QY p.gP 0 p.QX else p
theorem H3 {N:Nat} (hN:gX≤N) {p:cd} (hb:ij p<gX) (now:Int):rO N p now=some (jB p now):=by
  unfold rO jB qf;simp only [vc hN hb,vy hN hb,qg,Lm hN hb,Q8,lM];cases hp:ik p
  · rfl
  cases ic now 1 1000000
  · rfl
  cases decide (p.hY<3)
  · cases hv:decide (n7 p now ≥ 0)
    · rfl
    · obtain ⟨_,v0,v9⟩:=oB (sB hv);simp only [Rd,Bool.or_self,Q9,Rb,((iT hp).at v0 v9).1,Q8,if_true];rfl
  · rfl
theorem IP {N:Nat} (hN:gX≤N) {p:cd} (hb:ij p<gX) (hw:wP p) (now:Int):rX N p now=some (jB p now):=by
  unfold rX jB qf;simp only [sc hN hb,ud hN hb hw,mF,LG hN hb hw,Q8,lM];cases hp:ik p
  · rfl
  cases ic now 1 1000000
  · rfl
  cases decide (p.hY<3)
  · cases hv:decide (n7 p now ≥ 0)
    · rfl
    · obtain ⟨_,v0,v9⟩:=oB (sB hv);simp only [Rd,Bool.or_self,Q9,Rb,((iT hp).at v0 v9).1,Q8,if_true];rfl
  · rfl
def v5 (l:List gE) (now part h:Int):Bool:=(kM l&&(nQ h&&(og h==part)))&&(((nth l (nG h)).py != 0)&&(((nth l (nG h)).Q3==ym h)&&nth (reach l now) (nG h)))
def hD (l:List gE) (now part h:Int):Int:=bif v5 l now part h then nG h else -1
theorem AV {h:Int} (q:nQ h=true):0≤nG h∧nG h≤9:=(Jd (h:=h) (by unfold og;rw [q,if_pos rfl];rw [xU] at q;omega)).2
theorem Ia {N:Nat} (hN:gX≤N) {l:List gE} (hb:iY ib l<gX) (now part h:Int):sh N l now part h=some (hD l now part h):=by
  unfold sh hD v5;simp only [Hi hN hb,sy,DN,DQ,FW,Q8,lM];cases ha:kM l
  · have e:reach l now=[]:=by unfold reach;rw [ha];rfl
    rw [e];rfl
  have har:=jJ.1 ha;have hl:=pE har now;rw [show (((reach l now).length:Int)==0)=false by rw [hl];rfl,show ic h 0 29999=nQ h from rfl];cases hh:nQ h
  · rfl
  obtain ⟨s0,s9⟩:=AV hh;simp only [bne,(har.at s0 s9).1,jh (l:=reach l now) s0 (by omega),Q8];cases og h==part<;>cases (nth l (nG h)).py==0<;>cases (nth l (nG h)).Q3==ym h<;>cases nth (reach l now) (nG h)<;>rfl
theorem uQ {N:Nat} (hN:gX≤N) {l:List gE} (hb:iY ib l<gX) (hw:wA l) (now part h:Int):mW N l now part h=some (hD l now part h):=by
  unfold mW hD v5;simp only [sd hN hb hw,Cs hN hb hw,sJ,w9,FC,Gs,Q8,lM];cases ha:kM l
  · rfl
  have har:=jJ.1 ha;have hl:=pE har now;rw [show ic h 0 29999=nQ h from rfl];cases hh:nQ h
  · rfl
  obtain ⟨s0,s9⟩:=AV hh;simp only [bne,(har.at s0 s9).1,jh (l:=reach l now) s0 (by omega),Q8];cases og h==part<;>cases (nth l (nG h)).py==0<;>cases (nth l (nG h)).Q3==ym h<;>cases nth (reach l now) (nG h)<;>rfl
def vA (p:cd) (me now:Int) (o:gE):Bool:=decide (o.QW > 0)&&decide (hD p.heap.ag now me (i64.wrap (o.QW - 1))<0)
def yg (o:gE):gE:=gE.mk o.Q3 o.py o.box o.res o.iF o.bh 0 (-1) o.iG o.mark o.gZ o.QV o.QU
def o9 (p:cd) (me now:Int):List gE:=p.heap.ag.map fun o=>if vA p me now o then yg o else o
def jQ (p:cd) (me now:Int):cd:=if ik p&&ic me 0 2 then mu p (o9 p me now) else p
theorem vj {α:Type} {body:List α×Int→Option ((List α×Int)⊕(List α×Int))} (x:List α) (f:α→α) {N:Nat} (hN:x.length<N)
    (hs:∀ (k:Nat) (t:List α) (y:α),t.length=x.length→t[k]?=some y→x[k]?=some y→k<x.length→body (t,(k:Int))=some (.inl (t.set k (f y),((k+1:Nat):Int))))
    (he:∀ t,t.length=x.length→body (t,(x.length:Int))=some (.inr (t,(x.length:Int)))):iter body N (x,0)=some (x.map f,(x.length:Int)):=by
  have key:∀ (r:List α) (d d':List α) (M:Nat),d'.length=d.length→x=d'++r→r.length<M→iter body M (d++r,(d.length:Int))=some (d++r.map f,(x.length:Int)):=by
    intro r
    induction r with
    | nil =>
      intro d d' M hd hx hM
      cases M with
      | zero=>simp at hM
      | succ M =>
        have e:d.length=x.length:=by rw [hx];simp [hd]
        unfold iter;rw [List.append_nil,e,he d e];simp
    | cons y r ih =>
      intro d d' M hd hx hM
      cases M with
      | zero=>simp at hM
      | succ M =>
        have hlen:(d++y::r).length=x.length:=by rw [hx];simp [hd]
        unfold iter;rw [hs d.length (d++y::r) y hlen (by rw [List.getElem?_append_right (Nat.le_refl _)];simp) (by rw [hx,List.getElem?_append_right (by omega)];simp [hd]) (by rw [← hlen];simp)]
        have e:(d++y::r).set d.length (f y)=(d++[f y])++r:=by rw [List.set_append_right _ _ (Nat.le_refl _)];simp
        have e2:d.length+1=(d++[f y]).length:=by simp
        simp only [Q8,e];rw [e2,ih (d++[f y]) (d'++[y]) M (by simp [hd]) (by rw [hx];simp) (by simp at hM;omega)];simp
  exact key x [] [] N rfl rfl hN
theorem nA {α:Type} {l:List α} {k:Nat} {y:α} (h:l[k]?=some y):l.set k y=l:=by
  apply List.ext_getElem? fun i=>?_;rw [List.getElem?_set];split
  · rename_i e;subst e;rw [if_pos (iU h),h]
  · rfl
theorem IA {N:Nat} (hN:gX≤N) {p:cd} (hb:ij p<gX) (me now:Int):rE N p me now=some (jQ p me now):=by
  have h4:=(kC hb).2.2.2.1;have hl:=lN h4;unfold rE jQ o9 mu;simp only [vc hN hb,vy hN hb,EN,Q8,lM];cases hp:ik p
  · rfl
  cases ic me 0 2
  · rfl
  simp only [Rd,Bool.or_self,Q9,Bool.and_self,if_true];rw [vj p.heap.ag (fun o=>if vA p me now o then yg o else o) (Nat.lt_of_lt_of_le hl hN)]
  · rfl
  · intro k t y ht hty hy hk;simp only [iX hk,Rb,iE,hy,hty,Q8,Ia hN h4,mh,iZ (Nat.lt_trans hk hl),Int.toNat_natCast,List.getElem?_set_self (show k<t.length by omega),List.set_set];rw [show (decide (y.QW > 0)&&decide (hD p.heap.ag now me (i64.wrap (y.QW - 1))<0))=vA p me now y from rfl];cases vA p me now y
    · simp [nA hty]
    · rfl
  · intro t ht;simp only [iW,Q9]
theorem HV {N:Nat} (hN:gX≤N) {p:cd} (hb:ij p<gX) (hw:wP p) (me now:Int):rH N p me now=some (jQ p me now):=by
  have h4:=(kC hb).2.2.2.1;have hl:=lN h4;unfold rH jQ o9 mu;simp only [sc hN hb,ud hN hb hw,mF,Q8,lM];cases hp:ik p
  · rfl
  cases ic me 0 2
  · rfl
  simp only [Rd,Bool.or_self,Q9,Bool.and_self,if_true];rw [vj p.heap.ag (fun o=>if vA p me now o then yg o else o) (Nat.lt_of_lt_of_le hl hN)]
  · rfl
  · intro k t y ht hty hy hk;simp only [ht,iX hk,Rb,iE,hy,hty,Q8,uQ hN h4 hw,mh,iZ (Nat.lt_trans hk hl),Int.toNat_natCast,List.getElem?_set_self (show k<t.length by omega),List.set_set];rw [show (decide (y.QW > 0)&&decide (hD p.heap.ag now me (i64.wrap (y.QW - 1))<0))=vA p me now y from rfl];cases vA p me now y
    · simp [nA hty]
    · rfl
  · intro t ht;simp only [ht,iW,Q9]
theorem E5 {f:gE→Nat} {g:gE→gE} (h:∀ o,f (g o)=f o):∀ l:List gE,oU f (l.map g)=oU f l
  | []=>rfl
  | o::l=>by simp only [List.map_cons,oU,h,E5 h l]
theorem Hr {f:gE→Nat} {g:gE→gE} (h:∀ o,f (g o)=f o) (l:List gE):iY f (l.map g)=iY f l:=by
  unfold iY;rw [E5 h,List.length_map]
theorem Co (p:cd) (me now:Int):ij (jQ p me now)=ij p:=by
  unfold jQ;split
  · unfold ij mu my o9;simp only;rw [Hr fun o=>by split<;>rfl]
  · rfl
theorem Cl (p:cd) (now:Int):ij (jB p now)≤ij p+100:=by
  unfold jB;split
  · rename_i h;simp only [Rg] at h
    have hsz:iY ib (qf p now)≤iY ib p.heap.ag+12:=by
      unfold qf;split
      · rename_i hv;obtain ⟨_,v0,v9⟩:=oB (sB hv);have:=ye ((iT h.1).ok _ ((iT h.1).at v0 v9).2);exact Nat.le_trans x5 (Nat.add_le_add_left this _)
      · omega
    unfold ij my;simp only;omega
  · omega
end Go.Kx
