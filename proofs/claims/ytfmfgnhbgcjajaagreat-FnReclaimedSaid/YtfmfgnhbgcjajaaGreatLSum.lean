import Derived.Test.YtfmfgnhbgcjajaaGreatLReach
namespace Go.Kx
open Go
open Go.IntKind (i64)
set_option linter.unusedVariables false
set_option linter.unusedSimpArgs false
set_option maxRecDepth 10000
def NA(a:de):Prop:=i64.wrap a.c6=a.c6/\i64.wrap a.dh=a.dh/\i64.wrap a.du=a.du
theorem wrap_wrap(n:Int):i64.wrap (i64.wrap n)=i64.wrap n:=by
  have:-9223372036854775808<=i64.wrap n/\i64.wrap n<=9223372036854775807:=by
    simp only[IntKind.wrap,IntKind.signed,IntKind.bits];simp;omega
  exact dE this.1 this.2
theorem NA.sum(a b:de):NA (dX a b):=⟨wrap_wrap _,wrap_wrap _,wrap_wrap _⟩
theorem NA.zero:NA ⟨0,0,0⟩:=⟨by decide,by decide,by decide⟩
theorem Lu{a:de}(h:NA a):dX a ⟨0,0,0⟩=a:=by
  obtain⟨h1,h2,h3⟩:=h;unfold dX;simp only[Int.add_zero,h1,h2,h3]
def fV(t:List dp):de:=if fH t then eY ⟨0,0,0⟩ t else⟨0,0,0⟩
theorem JG{N:Nat}(hN:dg<=N){t:List dp}(hB:t.length<dg):rJ N t=some (fV t):=by
  unfold rJ fV;rw[vY hN,RB,BV hN hB];cases fH t<;>rfl
theorem Fp:∀(t:List dp) (s:de),NA s->(∀r,r∈t->r.Ru=false->r.dP=⟨0,0,0⟩)->t.foldl (fun s r=>dX s r.dP) s=eY s t
  | [],s,_,_=>rfl
  | r::t,s,hs,h=>by
    unfold eY;simp only[List.foldl_cons];cases hl:r.Ru
    · rw[h r (by simp) hl,Lu hs];exact Fp t s hs fun x hx=>h x (by simp[hx])
    · exact Fp t _ (NA.sum _ _) fun x hx=>h x (by simp[hx])
structure Tr (t:List dp):Prop where
  len:t.length=5
  pJ:(nth t 0).Ru=true
  B5:(nth t 0).Rv=-1
  dead:∀r,r∈t->r.Ru=false->r=kG
  dP:∀r,r∈t->dT r.dP=true
  lead:∀(k:Nat) (r:dp),t[k]?=some r->r.Ru=true->leads t 5 (k:Int)=true
  sum:dT (eY ⟨0,0,0⟩ t)=true
theorem E4:dT kG.dP=true:=by decide
theorem fK{t:List dp}:fH t=true <-> Tr t:=by
  unfold fH;simp only[RG,Bool.not_eq_true',bne_eq_false_iff_eq,jL,Nat.zero_add];constructor
  · rintro⟨h1,h2,h3,h4,h5⟩;have hm:∀r,r∈t->∃k:Nat,t[k]?=some r:=fun o ho=>List.getElem?_of_mem ho;refine⟨by omega,h2,h3,fun r hr hl=>?_,fun r hr=>?_,fun k r hk hl=>?_,h5⟩
    · obtain⟨k,hk⟩:=hm r hr;have:=h4 k r hk;unfold mN at this;simpa[hl]using this
    · obtain⟨k,hk⟩:=hm r hr;have:=h4 k r hk;unfold mN at this;split at this
      · simp only[RG]at this;exact this.1
      · simp only[decide_eq_true_eq]at this;rw[this];exact E4
    · have:=h4 k r hk;unfold mN at this;rw[if_pos hl]at this;simp only[RG]at this;exact this.2
  · intro h;refine⟨by have:=h.len;omega,h.pJ,h.B5,fun k r hr=>?_,h.sum⟩;unfold mN;have hm:=List.mem_of_getElem? hr;cases hl:r.Ru
    · simp[h.dead r hm hl]
    · simp[h.dP r hm,h.lead k r hr hl]
theorem C9{N:Nat}(hN:dg<=N){t:List dp}(hB:t.length<dg):o9 N t=some (fV t):=by
  unfold o9 fV;rw[qe hN,RB];cases h:fH t
  · rfl
  have ht:=fK.1 h;simp only[RE,RC,if_true]
  rw[show((0:Int),(0:Int),(0:Int),(0:Int))=(fun(k:Nat) (s:de)=>((k:Int),s.c6,s.dh,s.du)) 0 ⟨0,0,0⟩ from rfl,
    gC t (fun(k:Nat) (s:de)=>((k:Int),s.c6,s.dh,s.du)) (fun _ s r=>dX s r.dP) (fun s=>((t.length:Int),s.c6,s.dh,s.du)) (fun _ _=>True) ?_ ?_ (Nat.lt_of_lt_of_le hB hN) trivial,jC,Fp t _ NA.zero fun r hr hl=>by rw[ht.dead r hr hl];rfl]
  · rfl
  · intro k s r hy hk _;simp only[eD hk,RD,dQ,hy,RB,sN,eL (Nat.lt_trans hk hB)];exact⟨trivial,trivial⟩
  · intro s _;simp only[eE,RC]
def held(p:bh):Int:=((p.heap.ag.take 10).filter eG).foldl (fun n o=>i64.wrap (n+o.c6)) 0
theorem foldl_filter{α β:Type}(p:α->Bool)(g:β->α->β):∀(l:List α) (b:β),(l.filter p).foldl g b=l.foldl (fun b y=>if p y then g b y else b) b
  | [],_=>rfl
  | y::l,b=>by
    rw[List.filter_cons,List.foldl_cons];cases h:p y
    · simp[foldl_filter p g l]
    · simp[foldl_filter p g l]
theorem foldl_map'{α β γ:Type}(f:α->γ)(g:β->γ->β):∀(l:List α) (b:β),(l.map f).foldl g b=l.foldl (fun b y=>g b (f y)) b
  | [],_=>rfl
  | y::l,b=>by simp[foldl_map' f g l]
theorem C7{α β:Type}(p:α->Bool)(h:α->β):∀(l:List α) (k:Nat),jd (fun _ y=>p y) (fun _ y=>h y) k l=(l.filter p).map h
  | [],_=>rfl
  | y::l,k=>by
    unfold jd;rw[C7 p h l,List.filter_cons];split<;>simp
theorem OV{N:Nat}(hN:dg<=N){p:bh}(hb:dH p<dg)(hw:wP p):vM N p=some (held p):=by
  have h4:=(gO hb).2.2.2.1;have hl:=gW h4;have hN':16777216<=N:=hN;unfold vM held
  rw[foldl_filter,show((0:Int),(0:Int))=(fun(k:Nat) (n:Int)=>(n,(k:Int))) 0 0 from rfl,
    gC (p.heap.ag.take 10) (fun(k:Nat) (n:Int)=>(n,(k:Int))) (fun _ n o=>if eG o then i64.wrap (n+o.c6)else n) (fun n=>(n,(((p.heap.ag.take 10).length:Nat):Int))) (fun _ _=>True) ?_ ?_ (by simp;omega) trivial,jC]
  · rfl
  · intro k n y hy hk _
    have hk2:k<10/\k<p.heap.ag.length:=by simp at hk;omega
    rw[List.getElem?_take_of_lt hk2.1]at hy;have hm:=List.mem_of_getElem? hy
    have h3:decide ((k:Int)<10)=true:=by simp;omega
    refine⟨?_,trivial⟩;simp only[eD hk2.2,h3,RD,dQ,hy,RB,H7 hN (fN h4 hm) (hw y hm),eL (show k<dg from Nat.lt_trans hk2.1 (by decide))];cases eG y<;>rfl
  · intro n _;simp only[List.length_take]
    rcases Nat.lt_or_ge 10 p.heap.ag.length with h|h
    · have e:min 10 p.heap.ag.length=10:=by omega
      have h3:decide (((10:Nat):Int)<(p.heap.ag.length:Int))=true:=by simp;omega
      simp only[e,h3,RD];rfl
    · have e:min 10 p.heap.ag.length=p.heap.ag.length:=by omega
      simp only[e,eE,RC,RB]
def view(o:cd):oF:=oF.mk o.Rt o.so o.box o.Rx o.dV o.c6 o.Ro o.eh o.ef o.mark
theorem PT(n:Nat):(if(10:Int)<(n:Int)then(10:Int)else(n:Int))=((min 10 n:Nat):Int):=by split<;>omega
theorem Dp{N:Nat}(hN:dg<=N){p:bh}(hb:dH p<dg):nq N p=some (((p.heap.ag.take 10).filter eG).map view):=by
  have h4:=(gO hb).2.2.2.1;have h10:eQ dA (p.heap.ag.take 10)<dg:=Nat.lt_of_le_of_lt (Mg _ _ _) h4;have hl:=gW h10;unfold nq
  have e:p.heap.ag.take (min 10 p.heap.ag.length)=p.heap.ag.take 10:=by
    rcases Nat.lt_or_ge 10 p.heap.ag.length with h|h
    · rw[show min 10 p.heap.ag.length=10 by omega]
    · rw[show min 10 p.heap.ag.length=p.heap.ag.length by omega,List.take_of_length_le h,List.take_length]
  rw[PT,vC (by omega),e,RB,kQ (p.heap.ag.take 10) (fun _ o=>eG o) (fun _ o=>view o) hl hN,C7]
  · rfl
  · intro k t y hy hk ht;have hz:=fN h10 (List.mem_of_getElem? hy);simp only[eD hk,RD,dQ,hy,RB,HY hN hz,eL (Nat.lt_trans hk hl),gE ht (Nat.lt_of_le_of_lt hk hl)];cases eG y<;>rfl
  · intro t;simp only[eE,RC]
theorem OQ{N:Nat}(hN:dg<=N){p:bh}(hb:dH p<dg):wg N p=some (held p):=by
  unfold wg held;rw[Dp hN hb,RB]
  have hl:(((p.heap.ag.take 10).filter eG).map view).length<dg:=by
    have h1:=List.length_filter_le eG (p.heap.ag.take 10);have h2:(16777216:Nat)=dg:=rfl;simp only[List.length_map];simp only[List.length_take]at h1;omega
  have e:=foldl_map' view (fun(n:Int) (o:oF)=>i64.wrap (n+o.c6)) ((p.heap.ag.take 10).filter eG) 0;generalize ((p.heap.ag.take 10).filter eG).map view=v at *
  rw[show((0:Int),(0:Int))=(fun(k:Nat) (n:Int)=>(n,(k:Int))) 0 0 from rfl,
    gC v (fun(k:Nat) (n:Int)=>(n,(k:Int))) (fun _ n o=>i64.wrap (n+o.c6)) (fun n=>(n,(v.length:Int))) (fun _ _=>True) ?_ ?_ (Nat.lt_of_lt_of_le hl hN) trivial,jC,e]
  · rfl
  · intro k n y hy hk _;simp only[eD hk,RD,dQ,hy,RB,eL (Nat.lt_trans hk hl)];exact⟨trivial,trivial⟩
  · intro n _;simp only[eE,RC]
def iu(p:bh):de:=if dT p.db then dX ⟨i64.wrap ((fV p.Rh).c6+held p),(fV p.Rh).dh,(fV p.Rh).du⟩ p.db else fV p.Rh
theorem Lg{N:Nat}(hN:dg<=N){p:bh}(hb:dH p<dg):rq N p=some (iu p):=by
  unfold rq iu;simp only[C9 hN (gO hb).2.2.1,pD,OQ hN hb,sN,RB];cases dT p.db<;>rfl
theorem Kr{N:Nat}(hN:dg<=N){p:bh}(hb:dH p<dg)(hw:wP p):rO N p=some (iu p):=by
  unfold rO iu;simp only[JG hN (gO hb).2.2.1,pC,OV hN hb hw,RB];cases dT p.db<;>rfl
def lZ(s:de)(l:List bh):de:=l.foldl (fun s p=>dX s (iu p)) s
def eP(w:dq):Bool:=dy w.Rn 0 1000000&&(dy (w.parts.length:Int) 1 3&&(w.parts.all dJ&&dT (lZ ⟨0,0,0⟩ w.parts)))
def wW(l:List bh):Prop:=∀p,p∈l->wP p
theorem LA{N:Nat}(hN:dg<=N){l:List bh}(hb:eQ dH l<dg)(hw:wW l):sZ N l=some (lZ ⟨0,0,0⟩ l):=by
  have hB:=gW hb;unfold sZ lZ
  rw[show((0:Int),(0:Int),(0:Int),(0:Int))=(fun(k:Nat) (s:de)=>((k:Int),s.c6,s.dh,s.du)) 0 ⟨0,0,0⟩ from rfl,
    gC l (fun(k:Nat) (s:de)=>((k:Int),s.c6,s.dh,s.du)) (fun _ s p=>dX s (iu p)) (fun s=>((l.length:Int),s.c6,s.dh,s.du)) (fun _ _=>True) ?_ ?_ (Nat.lt_of_lt_of_le hB hN) trivial,jC]
  · rfl
  · intro k s p hy hk _;have hm:=List.mem_of_getElem? hy;simp only[eD hk,RD,dQ,hy,RB,Kr hN (fN hb hm) (hw p hm),eL (Nat.lt_trans hk hB)];exact⟨rfl,trivial⟩
  · intro s _;simp only[eE,RC]
theorem sL{N:Nat}(hN:dg<=N){w:dq}(hb:eQ dH w.parts<dg)(hw:wW w.parts):ku N w=some (eP w):=by
  have hB:=gW hb;unfold ku eP;simp only[jK,RB,gX];cases dy w.Rn 0 1000000
  · rfl
  cases dy (w.parts.length:Int) 1 3
  · rfl
  simp only[RE,Bool.or_self,RC,RF];rw[gQ w.parts (fun _ p=>dJ p) (.inl (w.parts.length:Int)) (.inr false) (Nat.lt_of_lt_of_le hB hN),il]
  · simp only[RB,LA hN hb hw,pC];cases w.parts.all dJ<;>rfl
  · intro k y hy hk;have hm:=List.mem_of_getElem? hy;simp only[eD hk,RD,dQ,hy,RB,sr hN (fN hb hm) (hw y hm),eL (Nat.lt_trans hk hB)];cases dJ y<;>rfl
  · simp only[eE,RC]
theorem uU{N:Nat}(hN:dg<=N){w:dq}(hb:eQ dH w.parts<dg):lA N w=some (eP w):=by
  have hB:=gW hb;unfold lA eP;simp only[vF,kq,RB,gX];cases dy w.Rn 0 1000000
  · rfl
  cases dy (w.parts.length:Int) 1 3
  · rfl
  simp only[RE,Bool.or_self,RC,RF]
  rw[show((0:Int),(0:Int),(0:Int),(0:Int))=(fun(k:Nat) (s:de)=>((k:Int),s.c6,s.dh,s.du)) 0 ⟨0,0,0⟩ from rfl,
    kS w.parts (fun(k:Nat) (s:de)=>((k:Int),s.c6,s.dh,s.du)) (fun _ s p=>if dJ p then .inl (dX s (iu p))else .inr (.inr false)) (fun s=>.inl ((w.parts.length:Int),s.c6,s.dh,s.du)) (fun _ _=>True) ?_ ?_ (Nat.lt_of_lt_of_le hB hN) trivial]
  · simp only[RB,pD]
    have key:∀(l:List bh) (k:Nat) (s:de),Sum.elim (fun(o56:Int×Int×Int×Int)=>some (dT (de.mk o56.2.1 o56.2.2.1 o56.2.2.2))) (fun r61=>some r61) (kf (fun _ s p=>if dJ p then .inl (dX s (iu p))else .inr (.inr false)) (fun s=>.inl ((w.parts.length:Int),s.c6,s.dh,s.du)) k s l)=some (l.all dJ&&dT (lZ s l)):=by
      intro l
      induction l with
      | nil=>intro k s;rfl
      | cons p l ih =>
        intro k s;unfold kf;rw[List.all_cons];cases hp:dJ p
        · rfl
        · simpa[lZ]using ih (k+1) (dX s (iu p))
    exact key w.parts 0 _
  · intro k s p hy hk _;have hm:=List.mem_of_getElem? hy;refine⟨?_,fun _ _=>trivial⟩;simp only[eD hk,RD,dQ,hy,RB,sv hN (fN hb hm),Lg hN (fN hb hm),sN,eL (Nat.lt_trans hk hB)];cases dJ p<;>rfl
  · intro s _;simp only[eE,RC]
theorem oc{t:List dp}(h:fH t=true):t.length=5:=(fK.1 h).len
def iq(p:bh)(i:Int):Int:=if fH p.Rh&&ei p.Rh i then i else 0
theorem hY{t:List dp}{i:Int}(h:ei t i=true):0<=i/\i<=4:=by
  unfold ei at h;simp only[RG,dI]at h;exact h.1
theorem sK(p:bh)(i:Int):0<=iq p i/\iq p i<=4:=by
  unfold iq;split
  · rename_i h;simp only[RG]at h;exact hY h.2
  · omega
theorem BW{N:Nat}(hN:dg<=N)(p:bh)(i:Int):qk N p i=some (iq p i):=by
  unfold qk iq;rw[qe hN,RB];cases h:fH p.Rh
  · rfl
  · simp only[RE,RC,qq N (oc h),RB,RF];cases ei p.Rh i<;>rfl
theorem sj{N:Nat}(hN:dg<=N)(t:List dp)(i:Int):kI N t i=some (fH t&&ei t i):=by
  unfold kI ei;simp only[vY hN,vy,RB];cases h:fH t
  · rfl
  have hl:=oc h;cases hi:dy i 0 4
  · rfl
  · simp only[RD,Be hi (by omega) (show(4:Int)<(t.length:Int) by omega),RB,RF]
theorem xh{N:Nat}(hN:dg<=N)(p:bh)(i:Int):kM N p i=some (iq p i):=by
  unfold kM iq;rw[sj hN,RB];cases(fH p.Rh&&ei p.Rh i)<;>rfl
theorem jF{p:bh}(h:dJ p=true):fH p.Rh=true:=by
  unfold dJ at h;simp only[RG]at h;exact h.2.2.1
theorem w9{p:bh}(h:dJ p=true){i:Int}(h0:0<=i)(h4:i<=4):idx p.Rh i=some (nth p.Rh i):=eU h0 (by have:=oc (jF h);omega)
def sc(p:bh)(i:Int):de:=(nth p.Rh (iq p (nth p.heap.ag i).Rx)).dP
theorem zE{N:Nat}(hN:dg<=N){p:bh}(h:dJ p=true){i:Int}(h0:0<=i)(h9:i<=9):ou N p i=some (sc p i):=by
  unfold ou sc;obtain⟨r0,r4⟩:=sK p (nth p.heap.ag i).Rx;simp only[((eX h).at h0 h9).1,RB,BW hN,w9 h r0 r4]
def uZ(p:bh)(i:Int):Bool:=((nth p.heap.ag i).Ro==0)&&decide ((sc p i).du>0)
def runnable(p:bh)(now:Int):List Int:=(threads p now).filter (uZ p)
theorem yP(p:bh)(now:Int):(runnable p now).length<=10:=by
  unfold runnable;refine Nat.le_trans (List.length_filter_le _ _) ?_;unfold threads;split
  · rename_i hp;refine Nat.le_trans (uI _ _ _ _) ?_;rw[kU (eX hp)];exact Nat.le_refl _
  · exact Nat.zero_le _
theorem IM{N:Nat}(hN:dg<=N){p:bh}(hb:dH p<dg)(now:Int):qh N p now=some (runnable p now):=by
  have hl:=pA p now;unfold qh runnable;rw[yk hN hb,RB,kQ (threads p now) (fun _ i=>uZ p i) (fun _ y=>y) hl hN,lI]
  · rfl
  · intro k t y hy hk ht;obtain⟨hp,y0,y9⟩:=lk (List.mem_of_getElem? hy);simp only[eD hk,RD,dQ,hy,RB,((eX hp).at y0 y9).1,zE hN hp y0 y9,iI,eL (Nat.lt_trans hk hl),gE ht (Nat.lt_of_le_of_lt hk hl)]
    show(bif uZ p y then _ else _)=_
    cases uZ p y<;>rfl
  · intro t;simp only[eE,RC]
theorem Jo{N:Nat}(hN:dg<=N){p:bh}(hb:dH p<dg)(hw:wP p)(now:Int):qp N p now=some (runnable p now):=by
  have hl:=pA p now;unfold qp runnable;rw[wo hN hb hw,RB,kQ (threads p now) (fun _ i=>uZ p i) (fun _ y=>y) hl hN,lI]
  · rfl
  · intro k t y hy hk ht;obtain⟨hp,y0,y9⟩:=lk (List.mem_of_getElem? hy);obtain⟨r0,r4⟩:=sK p (nth p.heap.ag y).Rx;simp only[eD hk,RD,dQ,hy,RB,((eX hp).at y0 y9).1,xh hN,w9 hp r0 r4,iI,eL (Nat.lt_trans hk hl),gE ht (Nat.lt_of_le_of_lt hk hl)]
    show(bif uZ p y then _ else _)=_
    cases uZ p y<;>rfl
  · intro t;simp only[eE,RC]
def Jk(h:df)(r:List Bool)(k:Nat)(o:cd):Bool:=(decide ((k:Int)<h.gc.Rs)&&o.mark) || (decide ((k:Int)>=h.gc.Rs)&&(decide ((k:Int)>0)&&(nth r (k:Int)&&!o.mark)))
def black(h:df)(r:List Bool)(k:Nat)(o:cd):Bool:=nth r (k:Int)&&((o.mark || ((k:Int)==0))&&!h.gc.da.contains (k:Int))
def MY(h:df)(r:List Bool)(y:Int):Bool:=decide (y>0)&&(nth r y&&!(nth h.ag y).mark)
def Pb(h:df)(r:List Bool)(k:Nat)(o:cd):Bool:=!black h r k o || (fx h.ag (k:Int)).all fun y=>!MY h r y
def Et(h:df)(now:Int):Bool:=fW h&&(bif h.gc.Rj==1 then allI (fun k o=>!Jk h (reach h.ag now) k o) 0 h.ag else allI (Pb h (reach h.ag now)) 0 h.ag)
def kP(h:Int):Bool:=dy h 0 29999
def iU(h:Int):Int:=if kP h then h % 3 else -1
def kD(h:Int):Int:=if kP h then h / 3 % 10 else -1
def sB(h:Int):Int:=if kP h then h / 3 / 10 else -1
theorem xu{h:Int}:kP h=true <-> 0<=h/\h<=29999:=dI
theorem hdiv{h:Int}(q:kP h=true):i64.wrap (Int.tdiv h 3)=h / 3/\Int.tmod h 3=h % 3/\Int.tmod (h / 3) 10=h / 3 % 10/\i64.wrap (Int.tdiv (h / 3) 10)=h / 3 / 10:=by
  rw[xu]at q
  have h3:0<=h / 3:=by omega
  refine⟨?_,Int.tmod_eq_emod_of_nonneg q.1,Int.tmod_eq_emod_of_nonneg h3,?_⟩
  · rw[Int.tdiv_eq_ediv_of_nonneg q.1,dE (by omega) (by omega)]
  · rw[Int.tdiv_eq_ediv_of_nonneg h3,dE (by omega) (by omega)]
theorem tm(N:Nat)(h:Int):ko N h=some (iU h):=by
  unfold ko iU;rw[oE,RB];cases q:dy h 0 29999
  · simp[kP,q]
  · simp[kP,q,(hdiv (h:=h) q).2.1]
theorem tW(N:Nat)(h:Int):kj N h=some (iU h):=by
  unfold kj iU;rw[qz,RB];cases q:dy h 0 29999
  · simp[kP,q]
  · simp[kP,q,(hdiv (h:=h) q).2.1]
theorem zf(N:Nat)(h:Int):mq N h=some (kD h):=by
  unfold mq kD;rw[oE,RB];cases q:dy h 0 29999
  · simp[kP,q]
  · simp[kP,q,(hdiv (h:=h) q).1,(hdiv (h:=h) q).2.2.1]
theorem yI(N:Nat)(h:Int):my N h=some (kD h):=by
  unfold my kD;rw[qz,RB];cases q:dy h 0 29999
  · simp[kP,q]
  · simp[kP,q,(hdiv (h:=h) q).1,(hdiv (h:=h) q).2.2.1]
theorem zS(N:Nat)(h:Int):mZ N h=some (sB h):=by
  unfold mZ sB;rw[oE,RB];cases q:dy h 0 29999
  · simp[kP,q]
  · simp[kP,q,(hdiv (h:=h) q).1,(hdiv (h:=h) q).2.2.2]
theorem Ab(N:Nat)(h:Int):m3 N h=some (sB h):=by
  unfold m3 sB;rw[qz,RB];cases q:dy h 0 29999
  · simp[kP,q]
  · simp[kP,q,(hdiv (h:=h) q).1,(hdiv (h:=h) q).2.2.2]
def ga(p i g:Int):Int:=if dy p 0 2&&(dy i 0 9&&dy g 0 999)then i64.wrap ((i64.wrap ((i64.wrap ((i64.wrap (g*10))+i))*3))+p)else -1
theorem Bc(N:Nat)(p i g:Int):oh N p i g=some (ga p i g):=by
  unfold oh ga;simp only[x5,sn,kq,RB,gX];cases dy p 0 2<;>cases dy i 0 9<;>cases dy g 0 999<;>rfl
theorem tb(N:Nat)(p i g:Int):jT N p i g=some (ga p i g):=by
  unfold jT ga;simp only[pM,jK,RB,gX];cases dy p 0 2<;>cases dy i 0 9<;>cases dy g 0 999<;>rfl
theorem y5{h:Int}(q:0<=iU h):kP h=true/\0<=kD h/\kD h<=9:=by
  unfold iU at q;unfold kD;cases hk:kP h
  · simp[hk]at q
  · rw[xu]at hk;simp only[if_true];exact⟨trivial,by omega,by omega⟩
def eJ(w:dq)(p:Int):Bool:=dy p 0 ((w.parts.length:Int)-1)
theorem uN{N:Nat}{w:dq}(hl:w.parts.length<dg)(p:Int):lD N w p=some (eJ w p):=by
  have hl:w.parts.length<16777216:=hl;unfold lD eJ;rw[kq,dE (by omega) (by omega)];rfl
theorem fe{w:dq}{p:Int}(h:eJ w p=true):idx w.parts p=some (nth w.parts p)/\nth w.parts p∈w.parts:=by
  unfold eJ at h;rw[dI]at h;exact⟨eU h.1 (by omega),gy h.1 (by omega)⟩
theorem yA{w:dq}(h:eP w=true){p:bh}(hp:p∈w.parts):dJ p=true:=by
  unfold eP at h;simp only[RG,List.all_eq_true]at h;exact h.2.2.1 p hp
theorem xJ{N:Nat}(hN:dg<=N){own:List Int}{a b:fF}(ho:own.length<dg)(ha:a.Rf.length<dg)(hb:b.Rf.length<dg):mC N own a b=some (pT own a b):=by
  unfold mC pT;simp only[zz hN ho,va hN ha,va hN hb,RB,gX];cases h1:jh own
  · rfl
  cases h2:fv a
  · rfl
  cases h3:fv b
  · rfl
  have l2:=(ru.1 h2).1;have l3:=(ru.1 h3).1;simp only[RE,Bool.or_self,RC,RF];rw[OI a.Rf l2 (fun k y=>!decide (y>(b.Rf[k]?).getD 0) || own.contains (k:Int)) (.inl 4) (.inr false) hN]
  · simp only[RB];cases allI _ 0 a.Rf<;>rfl
  · intro k y hy hk hd;have hz:b.Rf[k]?=some (b.Rf[k]'(by omega)):=List.getElem?_eq_getElem _;simp only[hd,RD,dQ,hy,hz,RB,Option.getD_some,xt hN ho,eL (show k<dg from Nat.lt_trans hk (by decide))];cases decide (y>b.Rf[k]'(by omega))<;>cases own.contains (k:Int)<;>rfl
  · rfl
def target(p:Int)(c:dG):Int:=if(c.so==7) || (c.so==17)then iU c.a else if c.so==16 then c.b else p
def other(w:dq)(p:Int)(c:dG):Int:=if eJ w (target p c)then target p c else -1
theorem Ge{N:Nat}{w:dq}(hl:w.parts.length<dg)(p:Int)(c:dG):oJ N w p c=some (other w p c):=by
  unfold oJ other target;simp only[tm,uN hl,RB]
  cases c.so==7<;>cases c.so==17<;>cases c.so==16<;>simp only[RD,RC,RB,Bool.or_self,Bool.or_true,Bool.true_or,Bool.or_false,if_true,if_false,Bool.false_eq_true] <;>
    first|(cases eJ w (iU c.a)<;>rfl)|(cases eJ w c.b<;>rfl)|(cases eJ w p<;>rfl)
theorem Gu{N:Nat}{w:dq}(hl:w.parts.length<dg)(p:Int)(c:dG):oQ N w p c=some (other w p c):=by
  have hl:w.parts.length<16777216:=hl;unfold oQ other target eJ;simp only[tW,jK,RB];rw[dE (by omega) (by omega)]
  cases c.so==7<;>cases c.so==17<;>cases c.so==16<;>simp only[RD,RC,RB,Bool.or_self,Bool.or_true,Bool.true_or,Bool.or_false,if_true,if_false,Bool.false_eq_true] <;>
    first|(cases dy (iU c.a) 0 ((w.parts.length:Int)-1)<;>rfl)|(cases dy c.b 0 ((w.parts.length:Int)-1)<;>rfl)|(cases dy p 0 ((w.parts.length:Int)-1)<;>rfl)
theorem qv{w:dq}{p:Int}{c:dG}(h:decide (other w p c<0)=false):eJ w (other w p c)=true:=by
  unfold other at h⊢;cases hp:eJ w (target p c)
  · simp[hp]at h
  · simp[hp]
def si(w:dq)(h:Int):cd:=nth (nth w.parts (iU h)).heap.ag (kD h)
def vP(w:dq)(h:Int):Bool:=eJ w (iU h)&&(((si w h).so != 0)&&((si w h).Rt==sB h))
def ni(w:dq)(l:List Int):List Int:=if eP w then l.filter (vP w)else[]
theorem zn{N:Nat}(hN:dg<=N){w:dq}{l:List Int}(hb:eQ dH w.parts<dg)(hl:l.length<dg):mu N w l=some (ni w l):=by
  unfold mu ni;rw[uU hN hb,RB];cases hw:eP w
  · rfl
  simp only[RE,RC,if_true];rw[kQ l (fun _ h=>vP w h) (fun _ y=>y) hl hN,lI]
  · rfl
  · intro k t y hy hk ht;simp only[eD hk,RD,dQ,hy,RB,tm,uN (gW hb),zf,zS,eL (Nat.lt_trans hk hl),gE ht (Nat.lt_of_le_of_lt hk hl)];unfold vP;cases hp:eJ w (iU y)
    · rfl
    · obtain⟨p1,p2⟩:=fe hp
      have hr:0<=iU y:=by unfold eJ at hp;rw[dI]at hp;exact hp.1
      obtain⟨_,s0,s9⟩:=y5 hr;simp only[RE,RC,p1,((eX (yA hw p2)).at s0 s9).1,RB,iI,RF]
      show(bif((si w y).so != 0)&&((si w y).Rt==sB y)then _ else _)=_
      cases((si w y).so != 0)&&((si w y).Rt==sB y)<;>rfl
  · intro t;simp only[eE,RC]
theorem E3{N:Nat}(hN:dg<=N){w:dq}{l:List Int}(hb:eQ dH w.parts<dg)(hW:wW w.parts)(hl:l.length<dg):om N w l=some (ni w l):=by
  have hlB:w.parts.length<16777216:=gW hb;unfold om ni;rw[sL hN hb hW,RB];cases hw:eP w
  · rfl
  simp only[RE,RC,if_true];rw[dE (by omega) (by omega),kQ l (fun _ h=>vP w h) (fun _ y=>y) hl hN,lI]
  · rfl
  · intro k t y hy hk ht;simp only[eD hk,RD,dQ,hy,RB,tW,jK,yI,Ab,eL (Nat.lt_trans hk hl),gE ht (Nat.lt_of_le_of_lt hk hl)];rw[show dy (iU y) 0 ((w.parts.length:Int)-1)=eJ w (iU y) from rfl];unfold vP;cases hp:eJ w (iU y)
    · rfl
    · obtain⟨p1,p2⟩:=fe hp
      have hr:0<=iU y:=by unfold eJ at hp;rw[dI]at hp;exact hp.1
      obtain⟨_,s0,s9⟩:=y5 hr;simp only[RE,RC,p1,((eX (yA hw p2)).at s0 s9).1,RB,iI,RF]
      show(bif((si w y).so != 0)&&((si w y).Rt==sB y)then _ else _)=_
      cases((si w y).so != 0)&&((si w y).Rt==sB y)<;>rfl
  · intro t;simp only[eE,RC]
def AV(l:List cd)(k:Nat)(b:Bool):Bool:=!b&&((nth l (k:Int)).so != 0)
def lN(l:List cd)(now:Int):List Int:=jd (AV l) (fun k _=>(k:Int)) 0 (reach l now)
theorem wx{l:List cd}(h:fT l=false)(now:Int):reach l now=[]:=by unfold reach;rw[h];rfl
theorem zT(l:List cd)(now:Int):(lN l now).length<=10:=by
  unfold lN;refine Nat.le_trans (uI _ _ _ _) ?_;cases h:fT l
  · rw[wx h];exact Nat.zero_le _
  · rw[kU (fu.1 h)];exact Nat.le_refl _
theorem zW{l:List cd}{now k:Int}(h:k∈lN l now):Ar l/\0<=k/\k<=9:=by
  unfold lN at h;cases ha:fT l
  · rw[wx ha]at h;simp[jd]at h
  · have har:=fu.1 ha;obtain⟨j,b,h1,_,h3⟩:=ot.1 h;have:=eA h1;rw[kU har]at this;have h3:k=((0+j:Nat):Int):=h3;exact⟨har,by omega,by omega⟩
theorem LO{l:List cd}{now:Int}{k:Nat}{b:Bool}(h:(reach l now)[k]?=some b):Ar l/\k<10:=by
  cases ha:fT l
  · rw[wx ha]at h;cases h
  · have har:=fu.1 ha;have:=eA h;rw[kU har]at this;exact⟨har,this⟩
theorem Jn(l:List cd)(now:Int):(reach l now).length<dg:=by
  cases ha:fT l
  · rw[wx ha];decide
  · rw[kU (fu.1 ha)];decide
theorem Lf{N:Nat}(hN:dg<=N){l:List cd}(hb:eQ dA l<dg)(hw:wA l)(now:Int):sb N l now=some (lN l now):=by
  have hl:=Jn l now;unfold sb lN;rw[BP hN hb hw,RB,kQ (reach l now) (AV l) (fun k _=>(k:Int)) hl hN]
  · rfl
  · intro k t b hy hk ht;obtain⟨har,hk10⟩:=LO hy;have e:=(har.at (i:=(k:Int)) (by omega) (by omega)).1;rw[dQ]at e;simp only[eD hk,RD,dQ,hy,e,RB,iI,eL (Nat.lt_trans hk hl),gE ht (Nat.lt_of_le_of_lt hk hl)];rw[show((nth l (k:Int)).so != 0&&!b)=AV l k b from Bool.and_comm _ _];cases AV l k b<;>rfl
  · intro t;simp only[eE,RC]
def qt(now:Int)(k:Nat)(p:bh):List Int:=(lN p.heap.ag now).map fun i=>ga (k:Int) i (nth p.heap.ag i).Rt
def oW(w:dq):List Int:=if eP w then foldI (fun k acc p=>acc++qt w.Rn k p) 0 [] w.parts else[]
theorem LD{N:Nat}(hN:dg<=N){p:bh}{now k:Int}{acc:List Int}(ha:acc.length<=1000){H:Int->Int->Int->Option Int}(hH:∀a b c,H a b c=some (ga a b c)):
    iter (fun(s43:(List Int)×Int)=>(bif(decide (s43.2<((lN p.heap.ag now).length:Int)))then((idx (lN p.heap.ag now) s43.2).bind fun y46=>(idx p.heap.ag y46).bind fun y59=>(H k y46 y59.Rt).bind fun y77=>(app s43.1 ([y77]:List Int)).bind fun y82=>some (.inl (y82,i64.wrap (s43.2+1))))else(some (.inr (s43.1,s43.2))):Option (((List Int)×Int)⊕((List Int)×Int)))) N (acc,0) =
      some (acc++(lN p.heap.ag now).map (fun i=>ga k i (nth p.heap.ag i).Rt),((lN p.heap.ag now).length:Int)):=by
  have hg:=zT p.heap.ag now;have hB:(16777216:Nat)=dg:=rfl
  have e:∀(l:List Int) (j:Nat) (acc:List Int),foldI (fun _ (acc:List Int) i=>acc++[ga k i (nth p.heap.ag i).Rt]) j acc l=acc++l.map (fun i=>ga k i (nth p.heap.ag i).Rt):=by
    intro l
    induction l with
    | nil=>intro j acc;simp[foldI]
    | cons y l ih=>intro j acc;unfold foldI;rw[ih];simp
  rw[show(acc,(0:Int))=(fun(j:Nat) (t:List Int)=>(t,(j:Int))) 0 acc from rfl,
    gC (lN p.heap.ag now) (fun(j:Nat) (t:List Int)=>(t,(j:Int))) (fun _ acc i=>acc++[ga k i (nth p.heap.ag i).Rt]) (fun t=>(t,((lN p.heap.ag now).length:Int))) (fun j t=>t.length<=1000+j) ?_ ?_ (by omega) ha,e]
  · intro j t y hy hj ht;obtain⟨har,y0,y9⟩:=zW (List.mem_of_getElem? hy);refine⟨?_,by simp;omega⟩;simp only[eD hj,RD,dQ,hy,RB,(har.at y0 y9).1,hH,eL (show j<dg by omega),gE ht (show 1000+j+1<dg by omega)]
  · intro t _;simp only[eE,RC]
theorem yN(now:Int)(k:Nat)(p:bh):(qt now k p).length<=10:=by
  unfold qt;rw[List.length_map];exact zT _ _
theorem zK{w:dq}(h:eP w=true):1<=w.parts.length/\w.parts.length<=3:=by
  unfold eP at h;simp only[RG,dI]at h;omega
theorem Mv{N:Nat}(hN:dg<=N){w:dq}(hb:eQ dH w.parts<dg)(hW:wW w.parts):tJ N w=some (oW w):=by
  have hl:=gW hb;unfold tJ oW;rw[sL hN hb hW,RB];cases hw:eP w
  · rfl
  have h3:=(zK hw).2;simp only[RE,RC,if_true]
  rw[show(([]:List Int),(0:Int))=(fun(k:Nat) (t:List Int)=>(t,(k:Int))) 0 [] from rfl,
    gC w.parts (fun(k:Nat) (t:List Int)=>(t,(k:Int))) (fun k acc p=>acc++qt w.Rn k p) (fun t=>(t,(w.parts.length:Int))) (fun k t=>t.length<=10*k) ?_ ?_ (Nat.lt_of_lt_of_le hl hN) (by simp)]
  · rfl
  · intro k t p hy hk ht;have hm:=List.mem_of_getElem? hy;have hz:=gO (fN hb hm);have:=yN w.Rn k p;refine⟨?_,by simp;omega⟩;simp only[eD hk,RD,dQ,hy,RB,Lf hN hz.2.2.2.1 (hW p hm),eL (Nat.lt_trans hk hl)];rw[LD hN (by omega) (H:=jT N) (tb N)];rfl
  · intro t _;simp only[eE,RC]
theorem Ji(w:dq):(oW w).length<=30:=by
  unfold oW;split
  · rename_i h;have h3:=(zK h).2
    have key:∀(l:List bh) (k:Nat) (acc:List Int),(foldI (fun k acc p=>acc++qt w.Rn k p) k acc l).length<=acc.length+10*l.length:=by
      intro l
      induction l with
      | nil=>intro k acc;simp[foldI]
      | cons p l ih =>
        intro k acc;have:=yN w.Rn k p;have:=ih (k+1) (acc++qt w.Rn k p);unfold foldI;simp only[List.length_append,List.length_cons]at this⊢;omega
    have:=key w.parts 0 [];simp at this;omega
  · exact Nat.zero_le _
end Go.Kx
