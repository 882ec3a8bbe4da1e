import Derived.Test.YtfmfgnhbgcjajaaGreatLSum
namespace Go.Kx
open Go
open Go.IntKind (i64)
set_option linter.unusedVariables false
set_option linter.unusedSimpArgs false
set_option maxRecDepth 10000
def g6(w n:Int):de:=if w==0 then⟨n,0,0⟩else if w==1 then⟨0,n,0⟩else if w==2 then⟨0,0,n⟩else⟨0,0,0⟩
theorem xL(N:Nat)(w n:Int):lP N w n=some (g6 w n):=by
  unfold lP g6;cases w==0<;>cases w==1<;>cases w==2<;>rfl
theorem Fp(N:Nat)(w n:Int):qp N w n=some (g6 w n):=by
  unfold qp g6;cases w==0<;>cases w==1<;>cases w==2<;>rfl
def jc(a b:de):Bool:=dP a&&(dP b&&(decide (a.cd<=b.cd)&&(decide (a.dg<=b.dg)&&decide (a.dn<=b.dn))))
theorem J8(N:Nat)(a b:de):rf N a b=some (jc a b):=by
  unfold rf jc;simp only[oV,RK,iB]
theorem JJ(N:Nat)(a b:de):qS N a b=some (jc a b):=by
  unfold qS jc;simp only[o8,RK,iB]
def xv(a b:de):de:=⟨i64.wrap (a.cd-b.cd),i64.wrap (a.dg-b.dg),i64.wrap (a.dn-b.dn)⟩
def wY(a b:de):de×Bool:=if jc b a then(xv a b,true)else(a,false)
theorem Ml(N:Nat)(a b:de):s7 N a b=some (wY a b):=by
  unfold s7 wY;rw[J8,RK];cases jc b a<;>rfl
theorem Mn(N:Nat)(a b:de):sN N a b=some (wY a b):=by
  unfold sN wY;rw[JJ,RK];cases jc b a<;>rfl
def jr(r:dj)(b:de):dj:=dj.mk r.RC r.RE b
theorem fV{α:Type}[dp α]{l:List α}{i:Int}(h0:0<=i)(h1:i<(l.length:Int)):l[i.toNat]?=some (nth l i):=by
  have:=eK (l:=l) h0 h1;unfold idx at this
  rwa[if_pos h0]at this
def eD(t:List dj)(f:Int)(a:de):List dj×Bool :=
  if fk t&&eh t f then(if jc a (nth t f).dO then(t.set f.toNat (jr (nth t f) (xv (nth t f).dO a)),true)else(t,false))else(t,false)
theorem uq{N:Nat}(hN:df<=N){t:List dj}(hB:t.length<df)(f:Int)(a:de):kO N t f a=some (eD t f a):=by
  unfold kO eD;simp only[mV hB,pH hN,RK];cases ht:fk t
  · rfl
  have hl:=nV ht;simp only[RN,RL,pR N hl,RK];cases hv:eh t f
  · rfl
  obtain⟨f0,f4⟩:=gM hv;simp only[RN,RL,eK (l:=t) f0 (by omega),Ml,RK,Bool.and_self,if_true];unfold wY;cases jc a (nth t f).dO
  · have:t.set f.toNat (dj.mk (nth t f).RC (nth t f).RE (de.mk (nth t f).dO.cd (nth t f).dO.dg (nth t f).dO.dn))=t:=kJ (fV f0 (by omega));simp only[Bool.false_eq_true,if_false];rw[this]
  · rfl
theorem sm{N:Nat}(hN:df<=N){t:List dj}(hB:t.length<df)(f:Int)(a:de):j8 N t f a=some (eD t f a):=by
  unfold j8 eD;simp only[nj hB,r8 hN,RK];cases h:(fk t&&eh t f)
  · rfl
  rw[RP]at h;have hl:=nV h.1;obtain⟨f0,f4⟩:=gM h.2;simp only[RN,RL,eK (l:=t) f0 (by omega),Mn,RK,if_true];unfold wY;cases jc a (nth t f).dO<;>rfl
theorem i7(t:List dj)(f:Int)(a:de):(eD t f a).1.length=t.length:=by
  unfold eD;split
  · split<;>simp
  · rfl
def xG(last pick:Int):Int->Int->List Int->Int
  | least,next,[]=>if decide (next>=0)then next else least
  | least,next,y::l=>if decide (y<0)then xG last pick least next l else if y==pick then y else
      xG last pick (if decide (least<0) || decide (y<least)then y else least) (if decide (y>last)&&(decide (next<0) || decide (y<next))then y else next) l
def qA(l:List Int)(last pick:Int):Int:=xG last pick (-1) (-1) l
theorem z7{last pick:Int}{P:Int->Prop}:∀(l:List Int) (a b:Int),P a->P b->(∀y,y∈l->P y)->P (xG last pick a b l)
  | [],a,b,ha,hb,_=>by unfold xG;split<;>assumption
  | y::l,a,b,ha,hb,h=>by
    have hy:=h y (by simp);have hl:∀z,z∈l->P z:=fun z hz=>h z (by simp[hz]);unfold xG;split
    · exact z7 l a b ha hb hl
    · split
      · exact hy
      · refine z7 l _ _ ?_ ?_ hl
        · split<;>assumption
        · split<;>assumption
theorem zB(l:List Int)(last pick:Int)(h:decide (qA l last pick<0)=false):qA l last pick∈l:=by
  have:=z7 (last:=last) (pick:=pick) (P:=fun y=>y=-1\/y∈l) l (-1) (-1) (.inl rfl) (.inl rfl) fun y hy=>.inr hy
  rcases this with q|q
  · unfold qA at h;rw[q]at h;simp at h
  · exact q
theorem KV{N:Nat}(hN:df<=N){l:List Int}(hl:l.length<df)(last pick:Int){body:Int×Int×Int->Option ((Int×Int×Int)⊕((Int×Int×Int)⊕Int))}
    (hs:∀(k:Nat) (a b y:Int),l[k]?=some y->k<l.length->body (a,b,(k:Int))=some (if decide (y<0)then .inl (a,b,((k+1:Nat):Int))else if y==pick then .inr (.inr y)else
      .inl (if decide (a<0) || decide (y<a)then y else a,if decide (y>last)&&(decide (b<0) || decide (y<b))then y else b,((k+1:Nat):Int)))) (he:∀a b,body (a,b,(l.length:Int))=some (.inr (.inl (a,b,(l.length:Int))))) :
    (iter body N (-1, -1,0)).bind (fun o29=>Sum.elim (fun o29=>bif(decide (o29.2.1>=0))then(some o29.2.1)else(some o29.1)) (fun r33=>some r33) o29)=some (qA l last pick):=by
  rw[show((-1:Int),(-1:Int),(0:Int))=(fun(k:Nat) (t:Int×Int)=>(t.1,t.2,(k:Int))) 0 (-1, -1) from rfl,
    ku l (fun(k:Nat) (t:Int×Int)=>(t.1,t.2,(k:Int))) (fun _ t y=>if decide (y<0)then .inl t else if y==pick then .inr (.inr y)else .inl (if decide (t.1<0) || decide (y<t.1)then y else t.1,if decide (y>last)&&(decide (t.2<0) || decide (y<t.2))then y else t.2)) (fun t=>.inl (t.1,t.2,(l.length:Int))) (fun _ _=>True) ?_ ?_ (Nat.lt_of_lt_of_le hl hN) trivial]
  · simp only[RK]
    have key:∀(m:List Int) (k:Nat) (t:Int×Int),Sum.elim (fun(o29:Int×Int×Int)=>bif(decide (o29.2.1>=0))then(some o29.2.1)else(some o29.1)) (fun r33=>some r33) (jL (ρ:=(Int×Int×Int)⊕Int) (fun _ t y=>if decide (y<0)then .inl t else if y==pick then .inr (.inr y)else .inl (if decide (t.1<0) || decide (y<t.1)then y else t.1,if decide (y>last)&&(decide (t.2<0) || decide (y<t.2))then y else t.2)) (fun t=>.inl (t.1,t.2,(l.length:Int))) k t m)=some (xG last pick t.1 t.2 m):=by
      intro m
      induction m with
      | nil =>
        intro k t;unfold jL xG;simp only[Sum.elim_inl];cases decide (t.2>=0)<;>rfl
      | cons y m ih =>
        intro k t;unfold jL xG;cases decide (y<0)
        · cases y==pick
          · exact ih (k+1) _
          · rfl
        · exact ih (k+1) t
    exact key l 0 (-1, -1)
  · intro k t y hy hk _;refine⟨?_,fun _ _=>trivial⟩;rw[hs k t.1 t.2 y hy hk];cases decide (y<0)
    · cases y==pick<;>rfl
    · rfl
  · intro t _;exact he t.1 t.2
theorem Ke{N:Nat}(hN:df<=N){l:List Int}(hl:l.length<df)(last pick:Int):rr N l last pick=some (qA l last pick):=by
  unfold rr;refine KV hN hl last pick ?_ ?_
  · intro k a b y hy hk;simp only[ei hk,RM,dM,hy,RK,eB (Nat.lt_trans hk hl)];cases decide (y<0)<;>cases y==pick<;>cases decide (a<0)<;>cases decide (y<a)<;>cases decide (y>last)<;>cases decide (b<0)<;>cases decide (y<b)<;>rfl
  · intro a b;simp only[ep,RL]
theorem KC{N:Nat}(hN:df<=N){l:List Int}(hl:l.length<df)(last pick:Int):rS N l last pick=some (qA l last pick):=by
  unfold rS;refine KV hN hl last pick ?_ ?_
  · intro k a b y hy hk;simp only[ei hk,RM,dM,hy,RK,eB (Nat.lt_trans hk hl)];cases h1:decide (y<0)
    · cases h2:y==pick
      · cases decide (a<0)<;>cases decide (y<a)<;>cases decide (y>last)<;>cases decide (b<0)<;>cases decide (y<b)<;>rfl
      · have:y=pick:=by simpa using h2
        rw[this];rfl
    · rfl
  · intro a b;simp only[ep,RL]
def sh(o:c6):c6:=c6.mk o.RG o.Rq o.box o.RF o.dY o.cd o.Ry o.ee (i64.wrap (o.ed+1)) o.mark o.dk o.Rw o.Rs
def gC(p:bh)(now:Int):Int:=qA (runnable p now) p.RA (i64.wrap (p.Rz-1))
def qq(p:bh)(now:Int):Bool:=decide (gC p now<0) || (decide (p.dc.dn>=1000000) || decide ((nth p.py.ag (gC p now)).ed>=1000000))
def iy(p:bh)(now:Int):bh×Int :=
  if dH p then
    (if qq p now then(bh.mk p.Rp p.own p.Rr p.py p.db p.RA 0 p.dc p.du p.Rx, -1)else
      (bh.mk p.Rp p.own (eD p.Rr (hZ p (nth p.py.ag (gC p now)).RF) ⟨0,0,1⟩).1 (dm.mk (p.py.ag.set (gC p now).toNat (sh (nth p.py.ag (gC p now)))) p.py.gc) p.db (gC p now) 0
        (de.mk p.dc.cd p.dc.dg (i64.wrap (p.dc.dn+1))) p.du p.Rx,gC p now))
  else(p, -1)
theorem ym{p:bh}{now:Int}(h:decide (gC p now<0)=false):dH p=true/\0<=gC p now/\gC p now<=9:=by
  have:=zB _ _ _ h;unfold runnable at this;exact kW (List.mem_filter.1 this).1
theorem LD{o:c6}(h:eG o=true):0<=o.ed/\o.ed<=1000000:=by
  unfold eG at h;cases hk:o.Rq==0
  · simp only[hk,RL,RP]at h;have h:=h.2.2.2.2.2.2.2;cases h4:o.Rq != 4
    · rw[h4]at h;simp only[RL,RP]at h;exact dI.1 h.2.2
    · rw[h4]at h;simp only[RM,RP,beq_iff_eq]at h;omega
  · simp only[hk,RM,RP,decide_eq_true_eq]at h;rw[h.2.2];exact⟨Int.le_refl _,by show(0:Int)<=1000000;decide⟩
theorem K2{n:Int}(h:n<=1000000):(n==1000000)=decide (n>=1000000):=by
  rw[Bool.eq_iff_iff];simp;omega
theorem ud{a:de}(h:dP a=true):(0<=a.cd/\a.cd<=1000000)/\(0<=a.dg/\a.dg<=1000000)/\(0<=a.dn/\a.dn<=1000000):=by
  unfold dP uQ at h;simpa only[RP,dI]using h
theorem mi{p:bh}(h:dH p=true):dP p.dc=true:=by
  unfold dH m8 at h;simp only[RP]at h;exact h.2.2.2.2.2.2.2.2.1
theorem JV{N:Nat}(hN:df<=N){p:bh}(hb:dC p<df)(now:Int):rC N p now=some (iy p now):=by
  have hr:(runnable p now).length<df:=Nat.lt_of_le_of_lt (yh p now) (by decide);unfold rC iy;simp only[mW hN hb,sb hN hb,Jc hN hb,Ke hN hr,RK];cases hp:dH p
  · rfl
  simp only[RN,RL,if_true];rw[show qA (runnable p now) p.RA (i64.wrap (p.Rz-1))=gC p now from rfl];unfold qq;have hsp:=ud (mi hp);cases hn:decide (gC p now<0)
  · obtain⟨_,n0,n9⟩:=ym hn;obtain⟨e1,e2⟩:=(fb hp).at n0 n9;have hran:=LD ((fb hp).ok _ e2);simp only[RL,e1,RK,K2 hsp.2.2.2,K2 hran.2,xL,BI hN,uq hN (gm hb).2.2.1,sk,Bool.false_or];cases decide (p.dc.dn>=1000000)
    · cases decide ((nth p.py.ag (gC p now)).ed>=1000000)
      · have ea:dU p.dc (g6 2 1)=de.mk p.dc.cd p.dc.dg (i64.wrap (p.dc.dn+1)):=by
          show de.mk (i64.wrap (p.dc.cd+0)) (i64.wrap (p.dc.dg+0)) (i64.wrap (p.dc.dn+1))=_
          rw[dB (n:=p.dc.cd+0) (by omega) (by omega),dB (n:=p.dc.dg+0) (by omega) (by omega),Int.add_zero,Int.add_zero]
        rw[ea];rfl
      · rfl
    · rfl
  · rfl
theorem KP{N:Nat}(hN:df<=N){p:bh}(hb:dC p<df)(hw:wP p)(now:Int):rH N p now=some (iy p now):=by
  have hr:(runnable p now).length<df:=Nat.lt_of_le_of_lt (yh p now) (by decide);unfold rH iy;simp only[qa hN hb,sd hN hb hw,JD hN hb hw,KC hN hr,RK];cases hp:dH p
  · rfl
  simp only[RN,RL,if_true];rw[show qA (runnable p now) p.RA (i64.wrap (p.Rz-1))=gC p now from rfl];unfold qq;cases hn:decide (gC p now<0)
  · obtain⟨_,n0,n9⟩:=ym hn;obtain⟨e1,e2⟩:=(fb hp).at n0 n9;simp only[RL,e1,RK,xb hN,sm hN (gm hb).2.2.1,Bool.false_or];cases decide (p.dc.dn>=1000000)
    · cases decide ((nth p.py.ag (gC p now)).ed>=1000000)<;>rfl
    · rfl
  · rfl
theorem OL(p:bh)(now:Int):dC (iy p now).1<=dC p+100:=by
  unfold iy;split
  · rename_i hp;split
    · exact Nat.le_add_right _ _
    · rename_i hn;unfold qq at hn;simp only[Bool.or_eq_true,not_or,Bool.not_eq_true]at hn;obtain⟨_,n0,n9⟩:=ym hn.1;have h1:=xH ((fb hp).ok _ ((fb hp).at n0 n9).2);have h2:eE dw (p.py.ag.set (gC p now).toNat (sh (nth p.py.ag (gC p now))))<=eE dw p.py.ag+12:=Nat.le_trans wZ (Nat.add_le_add_left h1 _);have h3:=i7 p.Rr (hZ p (nth p.py.ag (gC p now)).RF) ⟨0,0,1⟩;unfold dC mu;simp only[h3];omega
  · exact Nat.le_add_right _ _
def uN(i:Int)(x:Int):Int:=if x==i then -1 else x
def nS(i:Int)(o:c6):c6:=if o.Rq==0 then o else c6.mk o.RG o.Rq (if o.box==i then -1 else o.box) o.RF o.dY o.cd o.Ry o.ee o.ed o.mark (o.dk.map (uN i)) o.Rw o.Rs
def jm(l:List c6)(i:Int):List c6×Bool:=if gh l&&(dv i 1 9&&((nth l i).Rq != 0))then((l.set i.toNat (blank (nth l i).RG)).map (nS i),true)else(l,false)
theorem EE{l:List c6}(h:Ar l){i g:Int}{k:Nat}{y:c6}(hy:(l.set i.toNat (blank g))[k]?=some y)(hk:(y.Rq==0)=false):eG y=true:=by
  rcases List.mem_or_eq_of_mem_set (List.mem_of_getElem? hy)with q|q
  · exact h.ok y q
  · rw[q]at hk;simp[blank]at hk
theorem v5{o:c6}(h:eG o=true)(hk:(o.Rq==0)=false):o.dk.length=2:=by
  unfold eG at h;simp only[hk,RL,RP]at h;obtain⟨_,_,_,_,_,_,hl,_⟩:=h;unfold iT at hl;simp only[RP,beq_iff_eq]at hl;omega
theorem Gv{N:Nat}(hN:df<=N){l:List c6}(hb:eE dw l<df)(i:Int):oJ N l i=some (jm l i):=by
  unfold oJ jm;simp only[tX hN hb,uw hN hb,jK,RK];cases ha:gh l
  · rfl
  have h:=fF.1 ha;cases hi:dv i 1 9
  · rfl
  have hr:=dI.1 hi;simp only[RN,RL,(h.at (i:=i) (by omega) hr.2).1,RK,bne,RO];cases hk:(nth l i).Rq==0
  · simp only[RL,Bool.not_false,if_true];rw[show c6.mk (nth l i).RG 0 0 0 0 0 0 0 0 false [] [] []=blank (nth l i).RG from rfl];have hlen:(l.set i.toNat (blank (nth l i).RG)).length=l.length:=List.length_set;rw[r7 (l.set i.toNat (blank (nth l i).RG)) (nS i) (by rw[hlen];exact Nat.lt_of_lt_of_le h.wH hN)]
    · rfl
    · intro k t y ht hty hy hkl
      have hk10:k<10:=by rw[hlen,h.len]at hkl;exact hkl
      have hd:decide ((k:Int)<(l.length:Int))=true:=by simp[h.len];omega
      have hkt:k<t.length:=eF hty;simp only[hd,RM,dM,hty,RK,eB (show k<df from Nat.lt_trans hk10 (by decide))];unfold nS;cases hyk:y.Rq==0
      · have ho:=EE h hy hyk;have h2:=v5 ho hyk
        have hLB:y.dk.length<df:=by rw[h2];decide
        have inner:iter (fun(s124:(List Int)×Int)=>(bif(decide (s124.2<(y.dk.length:Int)))then((idx s124.1 s124.2).bind fun y127=>bif(y127==i)then(some (.inl (s124.1.set (s124.2:Int).toNat (-1),i64.wrap (s124.2+1))))else(some (.inl (s124.1,i64.wrap (s124.2+1)))))else(some (.inr (s124.1,s124.2))):Option (((List Int)×Int)⊕((List Int)×Int)))) N (y.dk,0)=some (y.dk.map (uN i),(y.dk.length:Int)):=by
          rw[r7 y.dk (uN i) (Nat.lt_of_lt_of_le hLB hN)]
          · intro j t2 z ht2 hz _ hj;simp only[ei hj,RM,dM,hz,RK,eB (Nat.lt_trans hj hLB),Int.toNat_natCast];unfold uN;cases z==i
            · simp[kJ hz]
            · rfl
          · intro t2 ht2;simp only[ep,RL]
        simp only[RL,Bool.false_eq_true,if_false];cases hbx:y.box==i
        · simp only[RL,RK,dM,hty,Bool.false_eq_true,if_false];rw[inner];rfl
        · simp only[RM,RK,Int.toNat_natCast,dM,List.getElem?_set_self hkt,if_true];rw[inner];simp only[RK,List.set_set]
      · simp only[RM,if_true];rw[kJ hty]
    · intro t ht
      have hd:decide (((l.set i.toNat (blank (nth l i).RG)).length:Int)<(l.length:Int))=false:=by rw[hlen];simp
      simp only[hd,RL]
  · rfl
theorem F7{N:Nat}(hN:df<=N){l:List c6}(hb:eE dw l<df)(hw:wA l)(i:Int):oK N l i=some (jm l i):=by
  unfold oK jm;simp only[z6 hN hb,pF hN hb hw,jj,RK];cases ha:gh l
  · rfl
  have h:=fF.1 ha;cases hi:dv i 1 9
  · rfl
  have hr:=dI.1 hi;simp only[RN,RL,(h.at (i:=i) (by omega) hr.2).1,RK,bne,RO];cases hk:(nth l i).Rq==0
  · simp only[RL,Bool.not_false,if_true];rw[show c6.mk (nth l i).RG 0 0 0 0 0 0 0 0 false [] [] []=blank (nth l i).RG from rfl];have hlen:(l.set i.toNat (blank (nth l i).RG)).length=l.length:=List.length_set;rw[r7 (l.set i.toNat (blank (nth l i).RG)) (nS i) (by rw[hlen];exact Nat.lt_of_lt_of_le h.wH hN)]
    · rfl
    · intro k t y ht hty hy hkl
      have hk10:k<10:=by rw[hlen,h.len]at hkl;exact hkl
      have hkt:k<t.length:=eF hty;simp only[ei hkt,RM,dM,hty,RK,eB (show k<df from Nat.lt_trans hk10 (by decide))];unfold nS;cases hyk:y.Rq==0
      · have ho:=EE h hy hyk;have h2:=v5 ho hyk;simp only[RL,Bool.false_eq_true,if_false]
        have inner:∀(t2:List c6) (z:c6),t2.length=t.length->t2[k]?=some z->z.dk.length=2->iter (fun(s90:(List c6)×Int)=>(bif(decide (s90.2<2))then((idx s90.1 (k:Int)).bind fun y93=>(idx y93.dk s90.2).bind fun y115=>bif(y115==i)then(some (.inl ((s90.1.set (k:Int).toNat (c6.mk y93.RG y93.Rq y93.box y93.RF y93.dY y93.cd y93.Ry y93.ee y93.ed y93.mark (y93.dk.set (s90.2:Int).toNat (-1)) y93.Rw y93.Rs)),i64.wrap (s90.2+1))))else(some (.inl (s90.1,i64.wrap (s90.2+1)))))else(some (.inr (s90.1,s90.2))):Option (((List c6)×Int)⊕((List c6)×Int)))) N (t2,0) =
            some (t2.set k (c6.mk z.RG z.Rq z.box z.RF z.dY z.cd z.Ry z.ee z.ed z.mark (z.dk.map (uN i)) z.Rw z.Rs),2):=by
          intro t2 z hl2 hz hz2
          have hk2:k<t2.length:=by omega
          obtain⟨a,b,hab⟩:∃a b,z.dk=[a,b]:=by
            match hq:z.dk with
            | []=>simp[hq]at hz2
            | [a]=>simp[hq]at hz2
            | [a,b]=>exact⟨a,b,rfl⟩
            | a::b::c::r=>simp[hq]at hz2
          obtain⟨M,rfl⟩:∃M,N=M+3:=⟨N-3,by have:16777216<=N:=hN;omega⟩;have hset:∀u:c6,(t2.set k u)[k]?=some u:=fun u=>List.getElem?_set_self hk2
          have hid:t2.set k (c6.mk z.RG z.Rq z.box z.RF z.dY z.cd z.Ry z.ee z.ed z.mark [a,b] z.Rw z.Rs)=t2:=by rw[<- hab];exact kJ hz
          have w1:i64.wrap (0+1)=1:=by decide
          have w2:i64.wrap (1+1)=2:=by decide
          unfold iter;simp only[show decide ((0:Int)<2)=true from rfl,RM,dM,hz,RK,hab,show idx [a,b] 0=some a from rfl,w1,Int.toNat_natCast];cases hA:a==i
          · simp only[RL,RK];unfold iter;simp only[show decide ((1:Int)<2)=true from rfl,RM,dM,hz,RK,hab,show idx [a,b] 1=some b from rfl,w2,Int.toNat_natCast];cases hB:b==i
            · simp only[RL,RK];unfold iter;simp[uN,hA,hB,hid]
            · simp only[RM,RK];unfold iter;simp[uN,hA,hB]
          · simp only[RM,RK];unfold iter;simp only[show decide ((1:Int)<2)=true from rfl,RM,dM,hset,RK,w2,Int.toNat_natCast];rw[show idx ([a,b].set (0:Int).toNat (-1)) 1=some b from rfl];simp only[RK];cases hB:b==i
            · simp only[RL,RK];unfold iter;simp[uN,hA,hB]
            · simp only[RM,RK,List.set_set];unfold iter;simp[uN,hA,hB]
        simp only[dM,Int.toNat_natCast]at inner⊢;cases hbx:y.box==i
        · simp only[RL,RK,Bool.false_eq_true,if_false];rw[inner t y rfl hty h2];rfl
        · simp only[RM,RK,Int.toNat_natCast,if_true];have e:=inner (t.set k (c6.mk y.RG y.Rq (-1) y.RF y.dY y.cd y.Ry y.ee y.ed y.mark y.dk y.Rw y.Rs)) (c6.mk y.RG y.Rq (-1) y.RF y.dY y.cd y.Ry y.ee y.ed y.mark y.dk y.Rw y.Rs) List.length_set (List.getElem?_set_self hkt) h2;rw[e];simp only[RK,List.set_set]
      · simp only[RM,if_true];rw[kJ hty]
    · intro t ht;rw[<- ht];simp only[ep,RL]
  · rfl
def iW(t:List dj)(f:Int)(a:de):List dj×Bool :=
  if fk t&&(dP a&&dP (dU (fy t) a))then
    (t.set (if eh t f then f else 0).toNat (jr (nth t (if eh t f then f else 0)) (dU (nth t (if eh t f then f else 0)).dO a)),true)
  else(t,false)
theorem vP(t:List dj)(f:Int)(a:de):(iW t f a).1.length=t.length:=by
  unfold iW;split<;>simp
theorem xC{N:Nat}(hN:df<=N){t:List dj}(hB:t.length<df)(f:Int)(a:de):ml N t f a=some (iW t f a):=by
  unfold ml iW;simp only[mV hB,pH hN,oV,C5 hN hB,sk,RK,gv];cases ht:fk t
  · rfl
  have hl:=nV ht;cases dP a
  · rfl
  cases dP (dU (fy t) a)
  · rfl
  simp only[RN,Bool.or_self,RL,pR N hl,RK,Bool.and_self,if_true];cases hv:eh t f
  · simp only[Bool.not_false,RM,RK,eK (l:=t) (i:=0) (by omega) (by omega),Bool.false_eq_true,if_false];rfl
  · obtain⟨f0,f4⟩:=gM hv;simp only[RN,RL,RK,eK (l:=t) f0 (by omega),if_true];rfl
theorem Og{n:Int}:uQ n=true <-> 0<=n/\n<=1000000:=dI
theorem eA{a:de}:dP a=true <-> (0<=a.cd/\a.cd<=1000000)/\(0<=a.dg/\a.dg<=1000000)/\(0<=a.dn/\a.dn<=1000000):=by
  unfold dP;simp only[RP,Og]
theorem qG:∀(t:List dj) (s:de) (B:Int),(∀r,r∈t->dP r.dO=true)->0<=B->B+1000000*(t.length:Int)<=1000000000->(0<=s.cd/\s.cd<=B)->(0<=s.dg/\s.dg<=B)->(0<=s.dn/\s.dn<=B) ->
    (s.cd<=(eU s t).cd/\s.dg<=(eU s t).dg/\s.dn<=(eU s t).dn) /\
      ∀r,r∈t->r.RC=true->r.dO.cd<=(eU s t).cd/\r.dO.dg<=(eU s t).dg/\r.dO.dn<=(eU s t).dn
  | [],s,B,_,_,_,_,_,_=>⟨⟨Int.le_refl _,Int.le_refl _,Int.le_refl _⟩,fun r hr=>by simp at hr⟩
  | r::t,s,B,h,hB,hL,h1,h2,h3=>by
    have hr:=eA.1 (h r (by simp));simp only[List.length_cons]at hL;have e:eU s (r::t)=eU (if r.RC then dU s r.dO else s) t:=rfl;rw[e];cases hv:r.RC
    · obtain⟨q1,q2⟩:=qG t s B (fun x hx=>h x (by simp[hx])) hB (by omega) h1 h2 h3;refine⟨q1,fun x hx hl=>?_⟩
      rcases List.mem_cons.1 hx with rfl|hx
      · rw[hv]at hl;cases hl
      · exact q2 x hx hl
    · simp only[if_true];have w1:(dU s r.dO).cd=s.cd+r.dO.cd:=dB (by omega) (by omega);have w2:(dU s r.dO).dg=s.dg+r.dO.dg:=dB (by omega) (by omega);have w3:(dU s r.dO).dn=s.dn+r.dO.dn:=dB (by omega) (by omega);obtain⟨⟨a1,a2,a3⟩,q2⟩:=qG t (dU s r.dO) (B+1000000) (fun x hx=>h x (by simp[hx])) (by omega) (by omega) (by omega) (by omega) (by omega);refine⟨⟨by omega,by omega,by omega⟩,fun x hx hl=>?_⟩
      rcases List.mem_cons.1 hx with rfl|hx
      · exact⟨by omega,by omega,by omega⟩
      · exact q2 x hx hl
theorem CH{t:List dj}(h:Tr t){a:de}(ha:dP a=true)(hs:dP (dU (eU ⟨0,0,0⟩ t) a)=true){i:Int}(hi:0<=i/\i<=4)(hv:(nth t i).RC=true):fH (nth t i).dO a=(dU (nth t i).dO a,true):=by
  have hl:=h.len;have hm:nth t i∈t:=gg hi.1 (by omega);obtain⟨_,q⟩:=qG t ⟨0,0,0⟩ 0 h.dO (by omega) (by omega) ⟨by decide,by decide⟩ ⟨by decide,by decide⟩ ⟨by decide,by decide⟩;obtain⟨q1,q2,q3⟩:=q _ hm hv;have hb:=eA.1 (h.dO _ hm);have ha':=eA.1 ha;have hS:=eA.1 h.sum;have w1:(dU (eU ⟨0,0,0⟩ t) a).cd=(eU ⟨0,0,0⟩ t).cd+a.cd:=dB (by omega) (by omega);have w2:(dU (eU ⟨0,0,0⟩ t) a).dg=(eU ⟨0,0,0⟩ t).dg+a.dg:=dB (by omega) (by omega);have w3:(dU (eU ⟨0,0,0⟩ t) a).dn=(eU ⟨0,0,0⟩ t).dn+a.dn:=dB (by omega) (by omega);have hs':=eA.1 hs;have v1:(dU (nth t i).dO a).cd=(nth t i).dO.cd+a.cd:=dB (by omega) (by omega);have v2:(dU (nth t i).dO a).dg=(nth t i).dO.dg+a.dg:=dB (by omega) (by omega);have v3:(dU (nth t i).dO a).dn=(nth t i).dO.dn+a.dn:=dB (by omega) (by omega);have:dP (dU (nth t i).dO a)=true:=eA.2 ⟨by omega,by omega,by omega⟩;unfold fH;rw[h.dO _ hm,ha,this];rfl
theorem xD{N:Nat}(hN:df<=N){t:List dj}(hB:t.length<df)(f:Int)(a:de):mn N t f a=some (iW t f a):=by
  unfold mn iW;simp only[nj hB,vx hN,B4 hN hB,vK,r8 hN,RK];cases ht:fk t
  · rfl
  have hT:=fc.1 ht;have hl:=hT.len
  have e:(fH (eU ⟨0,0,0⟩ t) a).2=(dP a&&dP (dU (fy t) a)):=by
    unfold fH fy;rw[hT.sum,ht];simp only[if_true,RO];cases dP a&&dP (dU (eU ⟨0,0,0⟩ t) a)<;>rfl
  rw[e];simp only[RN,RL,RO];cases hc:(dP a&&dP (dU (fy t) a))
  · rfl
  rw[RP]at hc
  have hs:dP (dU (eU ⟨0,0,0⟩ t) a)=true:=by
    have:=hc.2;unfold fy at this
    rwa[ht,if_pos rfl]at this
  simp only[RN,RL,if_true];cases hv:eh t f
  · simp only[Bool.not_false,RM,RK,eK (l:=t) (i:=0) (by omega) (by omega),CH hT hc.1 hs (i:=0) ⟨by omega,by omega⟩ hT.pA,Bool.false_eq_true,if_false];rfl
  · obtain⟨f0,f4⟩:=gM hv
    have hlv:(nth t f).RC=true:=by unfold eh at hv;rw[RP]at hv;exact hv.2
    simp only[RN,RL,RK,eK (l:=t) f0 (by omega),CH hT hc.1 hs (i:=f) ⟨f0,f4⟩ hlv,if_true];rfl
end Go.Kx
