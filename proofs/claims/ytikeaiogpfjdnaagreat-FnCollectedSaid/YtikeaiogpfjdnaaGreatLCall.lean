/- Plain laws: what a call does in a part. No program in sight. -/
import Derived.Test.YtikeaiogpfjdnaaGreatLTaps
namespace Go.Kx
open Go
set_option linter.unusedVariables false
set_option linter.unusedSimpArgs false
set_option maxRecDepth 10000
theorem E0 (a:iw):iw.mk a.cd a.im a.iC=a:=rfl
def jI (l:List bh) (now me h kind:Int):Int:=bif ot h then (bif pO h != me then 3 else (bif decide (iD l now me h<0) then 4 else (bif (kind != 0)&&((nth l (iD l now me h)).kind != kind) then 5 else 0))) else 2
theorem xr {l:List bh} {now me h:Int} (q:decide (iD l now me h<0)=false):Ar l∧0≤iD l now me h∧iD l now me h≤9∧(nth l (iD l now me h)).kind ≠ 0:=by
  unfold iD at *
  cases hg:yx l now me h
  · rw [hg] at q;simp at q
  · simp only [cond_true]
    unfold yx at hg
    simp only [Bool.and_eq_true] at hg
    obtain ⟨⟨h1,h2,_⟩,h3,_⟩:=hg
    obtain ⟨a,b⟩:=yE h2
    exact ⟨kf.1 h1,a,b,by simpa using h3⟩
theorem nU {l:List bh} {now me h k:Int} (q:jI l now me h k=0):Ar l∧0≤iD l now me h∧iD l now me h≤9∧(nth l (iD l now me h)).kind ≠ 0∧(k ≠ 0→(nth l (iD l now me h)).kind=k):=by
  unfold jI at q
  cases h1:ot h
  · rw [h1] at q;simp at q
  cases h2:pO h != me
  case true=>rw [h1,h2] at q;simp at q
  cases h3:decide (iD l now me h<0)
  case true=>rw [h1,h2,h3] at q;simp at q
  obtain ⟨a,b,c,d⟩:=xr h3
  refine ⟨a,b,c,d,fun hk=>?_⟩
  rw [h1,h2,h3] at q
  simp only [cond_true,cond_false] at q
  have hk':(k != 0)=true:=by simpa using hk
  rw [hk'] at q
  cases h4:(nth l (iD l now me h)).kind != k
  · simpa using h4
  · rw [h4] at q;simp at q
theorem w7 {N:Nat} (hN:iy≤N) {p:ia} (hb:jr iu p.heap.ag<iy) (hw:wP p) (me now h:Int):lB N p me now h=some (bif jI p.heap.ag now me h 0==0 then iD p.heap.ag now me h else -1,jI p.heap.ag now me h 0):=by
  unfold lB jI
  simp only [oN,uQ,wU hN hb hw,Option.bind_some]
  rw [show iE h 0 29999=ot h from rfl]
  cases ot h
  · rfl
  cases pO h != me
  case true=>rfl
  cases q:decide (iD p.heap.ag now me h<0) <;> rfl
theorem wM {N:Nat} (hN:iy≤N) {p:ia} (hb:jr iu p.heap.ag<iy) (hw:wP p) (me now h:Int) {k:Int} (hk:0<k):mb N p me now h k=some (bif jI p.heap.ag now me h k==0 then iD p.heap.ag now me h else -1,jI p.heap.ag now me h k):=by
  unfold mb
  rw [w7 hN hb hw]
  have k1:decide (k > 0)=true:=decide_eq_true hk
  have k2:(k != 0)=true:=by simp;omega
  simp only [Option.bind_some,k1,cond_true]
  unfold jI
  rw [k2]
  cases ot h
  · rfl
  cases pO h != me
  case true=>rfl
  cases q:decide (iD p.heap.ag now me h<0)
  case true=>rfl
  obtain ⟨ar,g0,g9,_⟩:=xr q
  simp only [bne_self_eq_false,Bool.false_and,Bool.true_and,cond_true,cond_false,beq_self_eq_true,(ar.at g0 g9).1,Option.bind_some]
  cases (nth p.heap.ag (iD p.heap.ag now me h)).kind != k <;> rfl
def tC (h:ic) (i:Int):ic:=bif j7 h&&iE i 0 9 then ku h i else h
theorem CC {N:Nat} (hN:iy≤N) {h:ic} (h1:jr iu h.ag<iy) (h2:h.gc.gE.length+1<iy) (hw:wA h.ag) (i:Int):mV N h i=some (tC h i):=by
  have h2':h.gc.gE.length<iy:=by omega
  unfold mV tC
  simp only [s8 hN h1 h2',sG hN h1 h2' hw,pU,Option.bind_some]
  cases q:j7 h
  · rfl
  cases hi:iE i 0 9
  · rfl
  have ar:=mc q
  have hl:=ar.len
  rw [jb] at hi
  simp only [Bool.not_true,cond_true,cond_false,Option.bind_some,Bool.and_self,wC hN hi.1 (show i<(h.ag.length:Int) by omega) h2]
def linked (o:bh) (b x:Int):bh:=bh.mk o.gen o.kind o.box o.res o.iN o.cd o.wait o.iO o.iP o.mark (o.ib.set b.toNat x) o.data o.queue
def boxed (o:bh) (b:Int):bh:=bh.mk o.gen o.kind b o.res o.iN o.cd o.wait o.iO o.iP o.mark o.ib o.data o.queue
def written (o:bh) (b x:Int):bh:=bh.mk o.gen o.kind o.box o.res o.iN o.cd o.wait o.iO o.iP o.mark o.ib (o.data.set b.toNat x) o.queue
def qQ (o:bh) (q:List jq):bh:=bh.mk o.gen o.kind o.box o.res o.iN o.cd o.wait o.iO o.iP o.mark o.ib o.data q
def waiting (o:bh) (x:Int):bh:=bh.mk o.gen o.kind o.box o.res o.iN o.cd x o.iO o.iP o.mark o.ib o.data o.queue
def vW (o:bh) (x:Int):bh:=bh.mk o.gen o.kind o.box o.res o.iN o.cd o.wait x o.iP o.mark o.ib o.data o.queue
def lN (p:ia) (h:ic):ia:=ia.mk p.label p.own p.tree h p.iz p.next p.want p.hZ p.iH p.lost
def uh (p:ia) (t:List iq):ia:=ia.mk p.label p.own t p.heap p.iz p.next p.want p.hZ p.iH p.lost
def C9 (p:ia) (t:List jE):ia:=ia.mk p.label p.own p.tree p.heap t p.next p.want p.hZ p.iH p.lost
def mA (h:ic) (c i:Int):ic:=bif decide (c ≥ 0) then tC h i else h
def E9 (p:ia) (i b x:Int):ia:=lN p (mA (ic.mk (p.heap.ag.set i.toNat (linked (nth p.heap.ag i) b x)) p.heap.gc) x x)
def vf (p:ia) (me now:Int) (c:jh):Int×Int×ia :=
  bif !iE c.b 0 1 then (2,0,p) else
  bif jI p.heap.ag now me c.a 0 != 0 then (jI p.heap.ag now me c.a 0,0,p) else
  bif (c.kind==2)&&(jI p.heap.ag now me c.c 0 != 0) then (jI p.heap.ag now me c.c 0,0,p) else
  (0,0,E9 p (iD p.heap.ag now me c.a) c.b (bif c.kind==2 then iD p.heap.ag now me c.c else -1))
structure ma (p:ia):Prop where
  ok:jR p=true
  sz:je p≤3000000
  w:wP p
theorem ma.ar {p:ia} (h:ma p):Ar p.heap.ag:=qn h.ok
theorem ma.b4 {p:ia} (h:ma p):jr iu p.heap.ag<iy:=(m4 (p:=p) (Nat.lt_of_le_of_lt h.sz (by decide))).2.2.2.1
theorem ma.b5 {p:ia} (h:ma p):p.heap.gc.gE.length+1<iy:=by
  have:=h.sz
  have hB:(16777216:Nat)=iy:=rfl
  unfold je ml oH at this
  omega
theorem qJ {l:List bh} (h:Ar l) {i:Int} (h0:0≤i) (h9:i≤9):iu (nth l i)≤12:=zB (h.ok _ (h.at h0 h9).2)
theorem BU {l:List bh} (h:Ar l) {i:Int} {o:bh} (ho:iu o≤100000):jr iu (l.set i.toNat o)<iy:=Fg h ho _
theorem xQ (o:bh) (b x:Int):iu (linked o b x)=iu o:=by unfold iu linked;simp only [List.length_set]
theorem AU {l:List Int} (h:l.length=2) {b:Int} (hb:iE b 0 1=true):idx l b=some (nth l b):=by
  rw [jb] at hb
  exact jk hb.1 (by omega)
theorem lv {a:Int} (h:(a != 0)=false):a=0:=by simpa using h
def AL (p:ia):ia:=ia.mk p.label p.own p.tree p.heap p.iz p.next p.want p.hZ (if 1000000<IntKind.i64.wrap (p.iH+1) then 1000000 else IntKind.i64.wrap (p.iH+1)) p.lost
def fin (c:jh) (p:ia) (r:Int×Int×ia):ia×iS:=bif r.1==0 then (r.2.2,iS.mk 0 r.2.1) else (bif (c.kind==1)&&((r.1==6) || (r.1==7)) then AL p else p,iS.mk r.1 0)
theorem rK (c:jh) (p q:ia) (v:Int):fin c p (0,v,q)=(q,iS.mk 0 v):=rfl
theorem kL {c:jh} {p q:ia} {k v:Int} (h:(k != 0)=true) (hc:(c.kind==1)=false):fin c p (k,v,q)=(p,iS.mk k 0):=by
  unfold fin
  have:(k==0)=false:=by simpa [bne] using h
  rw [this,hc];rfl
theorem vu {N:Nat} (hN:iy≤N) {h:ic} (h1:jr iu h.ag<iy) (h2:h.gc.gE.length+1<iy) (hw:wA h.ag) (c i:Int) {β:Type} (f:ic→Option β):((bif decide (c ≥ 0) then ((mV N h i).bind fun y=>some (y.ag,y.gc.phase,y.gc.pos,y.gc.round,y.gc.gE)) else (some (h.ag,h.gc.phase,h.gc.pos,h.gc.round,h.gc.gE)):Option ((List bh)×Int×Int×Int×(List Int))).bind fun j=>f (ic.mk j.1 (jH.mk j.2.1 j.2.2.1 j.2.2.2.1 j.2.2.2.2)))=f (mA h c i):=by
  unfold mA
  rw [CC hN h1 h2 hw]
  cases decide (c ≥ 0) <;> rfl
theorem E5 {N:Nat} (hN:iy≤N) {p:ia} (hp:ma p) (me now:Int) {c:jh} (hc:(c.kind==1)=false):o4 N p me now c=some (fin c p (vf p me now c)):=by
  have h4:=hp.b4
  unfold o4 vf
  simp only [mw,w7 hN h4 hp.w,Option.bind_some]
  cases q1:iE c.b 0 1
  · simp only [Bool.not_false,cond_true,kL (show ((2:Int) != 0)=true from rfl) hc]
  cases q2:jI p.heap.ag now me c.a 0 != 0
  case true=>simp only [Bool.not_true,cond_false,cond_true,kL q2 hc]
  have q2':=lv q2
  obtain ⟨ar,g0,g9,gk,_⟩:=nU q2'
  have l2:=u5 (ar.ok _ (ar.at g0 g9).2) (by simpa using gk)
  simp only [Bool.not_true,cond_false,q2',beq_self_eq_true,cond_true]
  generalize iD p.heap.ag now me c.a=i at *
  have hs:∀ x,jr iu (p.heap.ag.set i.toNat (linked (nth p.heap.ag i) c.b x))<iy:=fun x=>BU ar (by rw [xQ];have:=qJ ar g0 g9;omega)
  have hx:∀ x,wA (p.heap.ag.set i.toNat (linked (nth p.heap.ag i) c.b x)):=fun x=>kB hp.w (show lQ (nth p.heap.ag i) from hp.w _ (ar.at g0 g9).2)
  cases hk:c.kind==2
  · simp only [cond_false,Option.bind_some,Sum.elim_inl,(ar.at g0 g9).1,AU l2 q1,Bool.false_and,rK]
    exact vu (h:=ic.mk (p.heap.ag.set i.toNat (linked (nth p.heap.ag i) c.b (-1))) p.heap.gc) hN (hs (-1)) hp.b5 (hx (-1)) (-1) (-1) fun y=>some (lN p y,iS.mk 0 0)
  · cases q3:jI p.heap.ag now me c.c 0 != 0
    · have q3':=lv q3
      simp only [cond_true,cond_false,Option.bind_some,Sum.elim_inl,(ar.at g0 g9).1,AU l2 q1,Bool.and_false,q3',beq_self_eq_true,rK]
      generalize iD p.heap.ag now me c.c=x
      exact vu (h:=ic.mk (p.heap.ag.set i.toNat (linked (nth p.heap.ag i) c.b x)) p.heap.gc) hN (hs x) hp.b5 (hx x) x x fun y=>some (lN p y,iS.mk 0 0)
    · simp only [cond_true,cond_false,Option.bind_some,Sum.elim_inr,Bool.and_true,kL q3 hc]
def Fh (p:ia) (i x:Int):ia:=lN p (mA (ic.mk (p.heap.ag.set i.toNat (boxed (nth p.heap.ag i) x)) p.heap.gc) x i)
def vh (p:ia) (me now:Int) (c:jh):Int×Int×ia :=
  bif jI p.heap.ag now me c.a 0 != 0 then (jI p.heap.ag now me c.a 0,0,p) else
  bif iD p.heap.ag now me c.a==0 then (5,0,p) else
  bif (c.kind==4)&&(jI p.heap.ag now me c.b 1 != 0) then (jI p.heap.ag now me c.b 1,0,p) else
  (0,0,Fh p (iD p.heap.ag now me c.a) (bif c.kind==4 then iD p.heap.ag now me c.b else -1))
theorem FC {N:Nat} (hN:iy≤N) {p:ia} (hp:ma p) (me now:Int) {c:jh} (hc:(c.kind==1)=false):pt N p me now c=some (fin c p (vh p me now c)):=by
  have h4:=hp.b4
  unfold pt vh
  simp only [w7 hN h4 hp.w,wM hN h4 hp.w _ _ _ (show (0:Int)<1 by decide),Option.bind_some]
  cases q2:jI p.heap.ag now me c.a 0 != 0
  case true=>simp only [cond_true,kL q2 hc]
  have q2':=lv q2
  obtain ⟨ar,g0,g9,gk,_⟩:=nU q2'
  simp only [Bool.not_true,cond_false,q2',beq_self_eq_true,cond_true]
  generalize iD p.heap.ag now me c.a=i at *
  cases hi:i==0
  case true=>simp only [cond_true,kL (show ((5:Int) != 0)=true from rfl) hc]
  have hs:∀ x,jr iu (p.heap.ag.set i.toNat (boxed (nth p.heap.ag i) x))<iy:=fun x=>BU ar (by have:iu (nth p.heap.ag i)≤12:=qJ ar g0 g9;show iu (nth p.heap.ag i)≤_;omega)
  have hx:∀ x,wA (p.heap.ag.set i.toNat (boxed (nth p.heap.ag i) x)):=fun x=>kB hp.w (show lQ (nth p.heap.ag i) from hp.w _ (ar.at g0 g9).2)
  cases hk:c.kind==4
  · simp only [cond_false,Option.bind_some,Sum.elim_inl,(ar.at g0 g9).1,Bool.false_and,rK]
    exact vu (h:=ic.mk (p.heap.ag.set i.toNat (boxed (nth p.heap.ag i) (-1))) p.heap.gc) hN (hs (-1)) hp.b5 (hx (-1)) (-1) i fun y=>some (lN p y,iS.mk 0 0)
  · cases q3:jI p.heap.ag now me c.b 1 != 0
    · have q3':=lv q3
      simp only [cond_true,cond_false,Option.bind_some,Sum.elim_inl,(ar.at g0 g9).1,Bool.and_false,q3',beq_self_eq_true,rK]
      generalize iD p.heap.ag now me c.b=x
      exact vu (h:=ic.mk (p.heap.ag.set i.toNat (boxed (nth p.heap.ag i) x)) p.heap.gc) hN (hs x) hp.b5 (hx x) x i fun y=>some (lN p y,iS.mk 0 0)
    · simp only [cond_true,cond_false,Option.bind_some,Sum.elim_inr,Bool.and_true,kL q3 hc]
def EA (p:ia) (i b x:Int):ia:=sL p (p.heap.ag.set i.toNat (written (nth p.heap.ag i) b x))
def kk (p:ia) (me now:Int) (c:jh):Int×Int×ia :=
  bif jI p.heap.ag now me c.a 2 != 0 then (jI p.heap.ag now me c.a 2,0,p) else
  bif !iE c.b 0 (((nth p.heap.ag (iD p.heap.ag now me c.a)).data.length:Int) - 1) then (2,0,p) else
  bif c.kind==7 then (0,nth (nth p.heap.ag (iD p.heap.ag now me c.a)).data c.b,p) else
  bif !iE c.c 0 999 then (2,0,p) else (0,0,EA p (iD p.heap.ag now me c.a) c.b c.c)
theorem DX {α:Type} {l:List α} (h:l.length<iy):IntKind.i64.wrap ((l.length:Int) - 1)=(l.length:Int) - 1:=by
  have:l.length<16777216:=h
  exact iM (by omega) (by omega)
theorem DF {o:bh} (h:iu o≤12):o.data.length<iy:=by
  have hB:(16777216:Nat)=iy:=rfl
  unfold iu at h
  omega
theorem FE {N:Nat} (hN:iy≤N) {p:ia} (hp:ma p) (me now:Int) {c:jh} (hc:(c.kind==1)=false) (hk:(c.kind==6)=!(c.kind==7)):oK N p me now c=some (fin c p (kk p me now c)):=by
  have h4:=hp.b4
  unfold oK kk
  simp only [wM hN h4 hp.w _ _ _ (show (0:Int)<2 by decide),mw,Option.bind_some]
  cases q2:jI p.heap.ag now me c.a 2 != 0
  case true=>simp only [cond_true,kL q2 hc]
  have q2':=lv q2
  obtain ⟨ar,g0,g9,gk,_⟩:=nU q2'
  simp only [Bool.not_true,cond_false,q2',beq_self_eq_true,cond_true]
  generalize iD p.heap.ag now me c.a=i at *
  have ho:=qJ ar g0 g9
  simp only [(ar.at g0 g9).1,Option.bind_some,DX (DF ho)]
  cases q3:iE c.b 0 (((nth p.heap.ag i).data.length:Int) - 1)
  · simp only [Bool.not_false,cond_true,Option.bind_some,kL (show ((2:Int) != 0)=true from rfl) hc]
  have hd:idx (nth p.heap.ag i).data c.b=some (nth (nth p.heap.ag i).data c.b):=by
    rw [jb] at q3
    exact jk q3.1 (by omega)
  rw [hk]
  simp only [Bool.not_true,cond_false,hd,Option.bind_some]
  cases c.kind==7
  · cases iE c.c 0 999
    · simp only [Bool.not_false,cond_true,cond_false,Option.bind_some,kL (show ((2:Int) != 0)=true from rfl) hc]
    · rfl
  · rfl
def rD (p:ia) (f:Int) (a:iw):Bool:=(kr p.tree f a).2&&(nI p.hZ (iw.mk 0 a.im 0)).2
def vY (p:ia) (f:Int) (a:iw):ia:=ia.mk p.label p.own (kr p.tree f a).1 p.heap p.iz p.next p.want (nI p.hZ (iw.mk 0 a.im 0)).1 p.iH p.lost
theorem ma.b3 {p:ia} (h:ma p):p.tree.length<iy:=(m4 (p:=p) (Nat.lt_of_le_of_lt h.sz (by decide))).2.2.1
def tJ (p:ia) (me now:Int) (c:jh):Int×Int×ia :=
  bif jI p.heap.ag now me c.a 0 != 0 then (jI p.heap.ag now me c.a 0,0,p) else
  bif (iD p.heap.ag now me c.a==0) || (!iE c.b 1 1000 || decide (IntKind.i64.wrap ((nth p.heap.ag (iD p.heap.ag now me c.a)).iN+c.b) > 1000000)) then (2,0,p) else
  bif !rD p (ri p (nth p.heap.ag (iD p.heap.ag now me c.a)).res) (iw.mk 0 (IntKind.i64.wrap ((nth p.heap.ag (iD p.heap.ag now me c.a)).cd * c.b)) 0) then (6,0,p) else
  (0,0,sL (vY p (ri p (nth p.heap.ag (iD p.heap.ag now me c.a)).res) (iw.mk 0 (IntKind.i64.wrap ((nth p.heap.ag (iD p.heap.ag now me c.a)).cd * c.b)) 0)) (p.heap.ag.set (iD p.heap.ag now me c.a).toNat (Cw (nth p.heap.ag (iD p.heap.ag now me c.a)) (IntKind.i64.wrap ((nth p.heap.ag (iD p.heap.ag now me c.a)).iN+c.b)))))
theorem EC {N:Nat} (hN:iy≤N) {p:ia} (hp:ma p) (me now:Int) {c:jh} (hc:(c.kind==1)=false):og N p me now c=some (fin c p (tJ p me now c)):=by
  have h4:=hp.b4
  have h3:=hp.b3
  unfold og tJ
  simp only [w7 hN h4 hp.w,mw,Option.bind_some]
  cases q2:jI p.heap.ag now me c.a 0 != 0
  case true=>simp only [cond_true,kL q2 hc]
  have q2':=lv q2
  obtain ⟨ar,g0,g9,gk,_⟩:=nU q2'
  simp only [Bool.not_true,cond_false,q2',beq_self_eq_true,cond_true]
  generalize iD p.heap.ag now me c.a=i at *
  simp only [(ar.at g0 g9).1,Option.bind_some,lG,AG hN,sU hN h3,tQ]
  cases ((i==0) || (!iE c.b 1 1000 || decide (IntKind.i64.wrap ((nth p.heap.ag i).iN+c.b) > 1000000)))
  · unfold rD
    cases (kr p.tree (ri p (nth p.heap.ag i).res) (iw.mk 0 (IntKind.i64.wrap ((nth p.heap.ag i).cd * c.b)) 0)).2 <;> cases (nI p.hZ (iw.mk 0 (IntKind.i64.wrap ((nth p.heap.ag i).cd * c.b)) 0)).2 <;> simp only [Bool.not_true,Bool.not_false,Bool.and_self,Bool.and_false,Bool.false_and,Bool.or_self,Bool.or_true,Bool.true_or,Bool.false_or,Bool.or_false,Bool.true_and,Bool.and_true,cond_true,cond_false,kL (show ((6:Int) != 0)=true from rfl) hc,rK]
    rfl
  · simp only [cond_true,kL (show ((2:Int) != 0)=true from rfl) hc]
def xb (p:ia) (c:jh):Int×Int×ia :=
  bif c.kind==9 then
    bif !iE c.a 0 4 || !i7 (iw.mk c.b c.c c.d) then (2,0,p) else
    bif !(mN p.tree c.a (iw.mk c.b c.c c.d)).2.2 then (6,0,p) else (0,(mN p.tree c.a (iw.mk c.b c.c c.d)).2.1,uh p (mN p.tree c.a (iw.mk c.b c.c c.d)).1)
  else bif c.kind==10 then
    bif !iE c.a 0 4 || (!iE c.b 0 4 || (!iE c.c 0 2 || !ux c.d)) then (2,0,p) else
    bif !(oe p.tree c.a c.b (rG c.c c.d)).2 then (6,0,p) else (0,0,uh p (oe p.tree c.a c.b (rG c.c c.d)).1)
  else bif !(oE p.tree c.a).2 then (2,0,p) else (0,0,uh p (oE p.tree c.a).1)
theorem FL {N:Nat} (hN:iy≤N) {p:ia} (hp:ma p) {c:jh} (hc:(c.kind==1)=false):qS N p c=some (fin c p (xb p c)):=by
  have h3:=hp.b3
  have n2:=fun q=>kL (p:=p) (q:=q) (v:=0) (show ((2:Int) != 0)=true from rfl) hc
  have n6:=fun q=>kL (p:=p) (q:=q) (v:=0) (show ((6:Int) != 0)=true from rfl) hc
  unfold qS xb
  simp only [sn,oO,mw,Gj,DA,vT hN h3,Bp hN h3,w9 hN h3,Option.bind_some,lG]
  cases c.kind==9
  · cases c.kind==10
    · cases (oE p.tree c.a).2
      · simp only [Bool.not_false,cond_true,cond_false,n2]
      · rfl
    · cases (!iE c.a 0 4 || (!iE c.b 0 4 || (!iE c.c 0 2 || !ux c.d)))
      · cases (oe p.tree c.a c.b (rG c.c c.d)).2
        · simp only [Bool.not_false,cond_true,cond_false,n6]
        · rfl
      · simp only [cond_true,cond_false,n2]
  · cases (!iE c.a 0 4 || !i7 (iw.mk c.b c.c c.d))
    · cases (mN p.tree c.a (iw.mk c.b c.c c.d)).2.2
      · simp only [Bool.not_false,cond_true,cond_false,n6]
      · rfl
    · simp only [cond_true,n2]
def uU (p:ia) (th a:Int):Int×Int×ia :=
  bif a==0 then (0,(nth p.heap.ag th).iP,p) else bif a==1 then (0,(nth p.heap.ag th).iO,p) else
  bif (a==2) || ((a==3) || (a==4)) then (0,xq (BX p th) (IntKind.i64.wrap (a - 2)),p) else (2,0,p)
theorem B4 (a b c:Bool):(bif a then some a else bif b then some b else some c)=some (a || (b || c)):=by cases a <;> cases b <;> rfl
theorem GD (a b:Bool):(bif a then some a else some b)=some (a || b):=by cases a <;> rfl
theorem E2 {N:Nat} (hN:iy≤N) {p:ia} (hp:ma p) {th:Int} (h0:0≤th) (h9:th≤9) {c:jh} (hc:(c.kind==1)=false):pB N p th c=some (fin c p (uU p th c.a)):=by
  unfold pB uU
  obtain ⟨r0,r4⟩:=C7 p (nth p.heap.ag th).res
  simp only [(hp.ar.at h0 h9).1,AG hN,Ep hp.ok r0 r4,CM,Option.bind_some,B4,E0]
  cases c.a==0
  · cases c.a==1
    · cases (c.a==2) || ((c.a==3) || (c.a==4))
      · simp only [cond_false,kL (show ((2:Int) != 0)=true from rfl) hc]
      · rfl
    · rfl
  · rfl
theorem zD {l:List bh} {o:bh}:∀ (m:List bh) (k:Nat),rq l o k m=(l, -1)∨∃ (j:Nat) (g:Int),j<k+m.length∧rq l o k m=(l.set j (lg o g),(j:Int))∧kq (l.set j (lg o g))=true
  | [],k=>.inl rfl
  | x::m,k=>by
    unfold rq
    split
    · rcases zD (l:=l) (o:=o) m (k+1) with h | ⟨j,g,h1,h2,h3⟩
      · exact .inl h
      · exact .inr ⟨j,g,by simp only [List.length_cons];omega,h2,h3⟩
    · unfold putAt
      split
      · rename_i q
        simp only [Bool.and_eq_true] at q
        exact .inr ⟨k,_,by simp,rfl,q.1⟩
      · exact .inl rfl
theorem vJ {l:List bh} {o:bh} (h:decide ((kv l o).2<0)=false):∃ (j:Nat) (g:Int),kv l o=(l.set j (lg o g),(j:Int))∧Ar (l.set j (lg o g))∧j<10:=by
  unfold kv at *
  cases ha:kq l
  · rw [ha] at h;simp at h
  · rw [ha] at h
    simp only [if_true] at *
    have hl:=(kf.1 ha).len
    rcases zD (l:=l) (o:=o) (l.drop 1) 1 with e | ⟨j,g,h1,h2,h3⟩
    · rw [e] at h;simp at h
    · exact ⟨j,g,h2,kf.1 h3,by simp only [List.length_drop] at h1;omega⟩
def newObj (now box:Int) (c:jh):bh:=bh.mk 0 c.a box c.e (IntKind.i64.wrap (now+c.d)) c.c 0 0 0 false [-1, -1] (bif c.a==2 then List.replicate c.c.toNat 0 else []) []
def sb (now:Int) (c:jh):Bool:=!iE c.a 1 4 || (!iE c.c 0 8 || (!iE c.d 1 1000 || (decide (IntKind.i64.wrap (now+c.d) > 1000000) || !iE c.e 0 4)))
def cost (c:jh):iw:=iw.mk c.c (IntKind.i64.wrap (c.c * c.d)) 0
def uH (p:ia) (me now:Int) (c:jh):Int×Int×ia :=
  bif sb now c then (2,0,p) else
  bif jI p.heap.ag now me c.b 1 != 0 then (jI p.heap.ag now me c.b 1,0,p) else
  bif !rD p c.e (cost c) then (6,0,p) else
  bif decide ((kv p.heap.ag (newObj now (iD p.heap.ag now me c.b) c)).2<0) then (7,0,vY p c.e (cost c)) else
  (0,ud me (kv p.heap.ag (newObj now (iD p.heap.ag now me c.b) c)).2 (nth (kv p.heap.ag (newObj now (iD p.heap.ag now me c.b) c)).1 (kv p.heap.ag (newObj now (iD p.heap.ag now me c.b) c)).2).gen,
    lN (vY p c.e (cost c)) (nF (ic.mk (kv p.heap.ag (newObj now (iD p.heap.ag now me c.b) c)).1 p.heap.gc) (kv p.heap.ag (newObj now (iD p.heap.ag now me c.b) c)).2))
theorem vF {now:Int} {c:jh} (h:sb now c=false):0≤c.c∧c.c≤8:=by
  unfold sb at h
  simp only [Bool.or_eq_false_iff,Bool.not_eq_false'] at h
  exact jb.1 h.2.1
theorem x7 {now box:Int} {c:jh} (h:0≤c.c∧c.c≤8):iu (newObj now box c)≤100:=by
  unfold iu newObj
  cases c.a==2
  · simp
  · simp only [cond_true,List.length_replicate,List.length_cons,List.length_nil]
    omega
theorem vX (now box:Int) (c:jh):lQ (newObj now box c):=by show (-9223372036854775808:Int)≤0;decide
theorem GB {c:Int} (h:0≤c∧c≤8):mk Int c=some (List.replicate c.toNat 0):=by
  have hB:(16777216:Nat)=iy:=rfl
  unfold mk
  rw [if_pos ⟨h.1,by omega⟩]
  rfl
theorem FU (a b c d e:Bool):(bif a then some true else bif b then some true else bif c then some true else bif d then some true else some e)=some (a || (b || (c || (d || e)))):=by cases a <;> cases b <;> cases c <;> cases d <;> rfl
theorem yW (l:List bh) (now me h k:Int):(jI l now me h k==6)=false∧(jI l now me h k==7)=false:=by
  unfold jI
  cases ot h
  · exact ⟨rfl,rfl⟩
  cases pO h != me
  case true=>exact ⟨rfl,rfl⟩
  cases decide (iD l now me h<0)
  case true=>exact ⟨rfl,rfl⟩
  cases (k != 0)&&((nth l (iD l now me h)).kind != k) <;> exact ⟨rfl,rfl⟩
theorem yN {c:jh} {p q:ia} {k v:Int} (h:(k != 0)=true) (h6:(k==6)=false) (h7:(k==7)=false):fin c p (k,v,q)=(p,iS.mk k 0):=by
  unfold fin
  have:(k==0)=false:=by simpa [bne] using h
  rw [this]
  simp only [cond_false,h6,h7,Bool.or_self,Bool.and_false]
theorem yf {c:jh} {p q:ia} {k v:Int} (h:(k != 0)=true) (h6:((k==6) || (k==7))=true) (hc:(c.kind==1)=true):fin c p (k,v,q)=(AL p,iS.mk k 0):=by
  unfold fin
  have:(k==0)=false:=by simpa [bne] using h
  rw [this]
  simp only [cond_false,h6,hc,Bool.and_self,cond_true]
theorem Fs {N:Nat} (hN:iy≤N) {p:ia} (hp:ma p) (me now:Int) {c:jh} (hc1:(c.kind==1)=true):pE N p me now c=some (fin c p (uH p me now c)):=by
  have h4:=hp.b4
  have h3:=hp.b3
  have h5:=hp.b5
  unfold pE uH
  simp only [wM hN h4 hp.w _ _ _ (show (0:Int)<1 by decide),mw,sn,Option.bind_some,FU]
  rw [show (!iE c.a 1 4 || (!iE c.c 0 8 || (!iE c.d 1 1000 || (decide (IntKind.i64.wrap (now+c.d) > 1000000) || !iE c.e 0 4))))=sb now c from rfl]
  cases q1:sb now c
  case true=>simp only [cond_true,yN (show ((2:Int) != 0)=true from rfl) rfl rfl]
  have hc:=vF q1
  cases q2:jI p.heap.ag now me c.b 1 != 0
  case true=>simp only [cond_true,cond_false,yN q2 (yW _ _ _ _ _).1 (yW _ _ _ _ _).2]
  have q2':=lv q2
  simp only [cond_false,cond_true,q2',beq_self_eq_true]
  generalize iD p.heap.ag now me c.b=box
  rw [show iw.mk c.c (IntKind.i64.wrap (c.c * c.d)) 0=cost c from rfl]
  simp only [sU hN h3,tQ,Option.bind_some,lG]
  rw [show (!(kr p.tree c.e (cost c)).2 || !(nI p.hZ (iw.mk 0 (IntKind.i64.wrap (c.c * c.d)) 0)).2)=!rD p c.e (cost c) by unfold rD;rw [Bool.not_and];rfl]
  cases q3:rD p c.e (cost c)
  · simp only [Bool.not_false,cond_true,yf (show ((6:Int) != 0)=true from rfl) rfl hc1]
    rfl
  simp only [Bool.not_true,cond_false,cond_true,GB hc,Option.bind_some]
  rw [show (bif c.a==2 then some (List.replicate c.c.toNat 0) else some ([]:List Int))=some (bif c.a==2 then List.replicate c.c.toNat 0 else []) from oc _ _ _]
  simp only [Option.bind_some]
  rw [show bh.mk 0 c.a box c.e (IntKind.i64.wrap (now+c.d)) c.c 0 0 0 false [-1, -1] (bif c.a==2 then List.replicate c.c.toNat 0 else []) []=newObj now box c from rfl]
  have ho:=x7 (now:=now) (box:=box) hc
  rw [tW hN h4 hp.w (o:=newObj now box c) (by omega) (vX _ _ _)]
  simp only [Option.bind_some]
  cases q4:decide ((kv p.heap.ag (newObj now box c)).2<0)
  case true =>
    simp only [cond_true,yf (show ((7:Int) != 0)=true from rfl) rfl hc1]
    rfl
  obtain ⟨j,g,e,ar,hj⟩:=vJ q4
  have h1:=ar.sz
  have hB:(16777216:Nat)=iy:=rfl
  have hw':wA (p.heap.ag.set j (lg (newObj now box c) g)):=kB hp.w (um (vX _ _ _))
  rw [e]
  simp only [cond_false,(ar.at (i:=(j:Int)) (by omega) (by omega)).1,Option.bind_some,sa]
  rw [zt hN (h:=ic.mk (p.heap.ag.set j (lg (newObj now box c) g)) p.heap.gc) (by show jr iu (p.heap.ag.set j (lg (newObj now box c) g))<iy;omega) (by show p.heap.gc.gE.length<iy;omega) hw']
  rfl
def ui (l:List bh) (k w b:Int):List bh:=bif decide (k ≥ 0)&&((nth l k).wait==w) then (l.set k.toNat (waiting (nth l k) 0)).set k.toNat (vW (nth (l.set k.toNat (waiting (nth l k) 0)) k) b) else l
theorem CD {l:List bh} {k w b:Int} (h:0≤k→k<(l.length:Int)) {β:Type} (f:List bh→Option β) :
    ((bif decide (k ≥ 0) then ((idx l k).bind fun y=>some (y.wait==w)) else (some false):Option Bool).bind fun j=>(bif j then ((idx l k).bind fun y=>(some (l.set (k:Int).toNat (waiting y 0))).bind fun z=>(idx z k).bind fun x=>(some (z.set (k:Int).toNat (vW x b))).bind fun v=>some v) else (some l):Option (List bh)).bind f)=f (ui l k w b):=by
  unfold ui
  cases hk:decide (k ≥ 0)
  · rfl
  have k0:0≤k:=by simpa using hk
  have e:=jk k0 (h k0)
  have e2:∀ z,idx (l.set k.toNat z) k=some (nth (l.set k.toNat z) k):=fun z=>jk k0 (by simp only [List.length_set];exact h k0)
  simp only [cond_true,e,e2,Option.bind_some,Bool.true_and]
  cases (nth l k).wait==w <;> rfl
def asked (l:List bh) (g me th:Int) (c:jh):List bh:=l.set g.toNat (qQ (nth l g) ((nth l g).queue++[jq.mk (ud me th (nth l th).gen) c.b]))
def served (l:List bh) (g:Int):List bh:=l.set g.toNat (qQ (nth l g) ((nth l g).queue.drop 1))
def vj (p:ia) (me now th:Int) (c:jh):Int×Int×ia :=
  bif jI p.heap.ag now me c.a 3 != 0 then (jI p.heap.ag now me c.a 3,0,p) else
  bif !iE c.b 0 999 then (2,0,p) else
  bif c.kind==12 then
    bif decide (((nth p.heap.ag (iD p.heap.ag now me c.a)).queue.length:Int) ≥ 2) then (8,0,p) else
    (0,0,sL p ((asked p.heap.ag (iD p.heap.ag now me c.a) me th c).set th.toNat (waiting (nth (asked p.heap.ag (iD p.heap.ag now me c.a) me th c) th) (IntKind.i64.wrap (c.a+1)))))
  else
    bif ((nth p.heap.ag (iD p.heap.ag now me c.a)).queue.length:Int)==0 then (8,0,p) else
    (0,(nth (nth p.heap.ag (iD p.heap.ag now me c.a)).queue 0).n,sL p (ui (served p.heap.ag (iD p.heap.ag now me c.a)) (iD (served p.heap.ag (iD p.heap.ag now me c.a)) now me (nth (nth p.heap.ag (iD p.heap.ag now me c.a)).queue 0).src) (IntKind.i64.wrap (c.a+1)) c.b))
theorem Da {α:Type} {l:List α} {k:Nat} (h:k≤l.length):sub l (k:Int) (l.length:Int)=some (l.drop k):=by
  unfold sub
  rw [if_pos ⟨by omega,by omega,by omega⟩]
  simp only [Int.toNat_natCast]
  rw [List.take_of_length_le (by simp)]
theorem ya {o:bh} (h:iu o≤12):o.queue.length≤12:=by unfold iu at h;omega
theorem C1 {o:bh} {q:List jq} (h:iu o≤12) (hq:q.length≤20):iu (qQ o q)≤100000:=by
  unfold iu at h
  unfold iu qQ
  simp only
  omega
theorem AP {l:List bh} {now me h:Int} (hl:l.length=10) (h0:0≤iD l now me h):iD l now me h<(l.length:Int):=by
  obtain ⟨_,_,h9,_⟩:=xr (l:=l) (now:=now) (me:=me) (h:=h) (decide_eq_false (by omega))
  omega
theorem EX {N:Nat} (hN:iy≤N) {p:ia} (hp:ma p) (me now:Int) {th:Int} (t0:0≤th) (t9:th≤9) {c:jh} (hc:(c.kind==1)=false):pH N p me now th c=some (fin c p (vj p me now th c)):=by
  have h4:=hp.b4
  unfold pH vj
  simp only [wM hN h4 hp.w _ _ _ (show (0:Int)<3 by decide),mw,Option.bind_some]
  cases q2:jI p.heap.ag now me c.a 3 != 0
  case true=>simp only [cond_true,kL q2 hc]
  have q2':=lv q2
  obtain ⟨ar,g0,g9,gk,_⟩:=nU q2'
  simp only [Bool.not_true,cond_false,q2',beq_self_eq_true,cond_true]
  generalize iD p.heap.ag now me c.a=i at *
  have ho:=qJ ar g0 g9
  have hq:=ya ho
  have hl:=ar.len
  have hB:(16777216:Nat)=iy:=rfl
  simp only [(ar.at g0 g9).1,(ar.at t0 t9).1,Option.bind_some]
  cases q3:iE c.b 0 999
  · simp only [Bool.not_false,cond_true,kL (show ((2:Int) != 0)=true from rfl) hc]
  cases q4:c.kind==12
  · simp only [Bool.not_true,Bool.not_false,cond_false,cond_true,Option.bind_some]
    cases q5:((nth p.heap.ag i).queue.length:Int)==0
    case true=>simp only [cond_true,kL (show ((8:Int) != 0)=true from rfl) hc]
    have l1:1≤(nth p.heap.ag i).queue.length:=by rw [beq_eq_false_iff_ne] at q5;omega
    have hsub:sub (nth p.heap.ag i).queue 1 ((nth p.heap.ag i).queue.length:Int)=some ((nth p.heap.ag i).queue.drop 1):=Da l1
    have happ:app ([]:List jq) ((nth p.heap.ag i).queue.drop 1)=some ((nth p.heap.ag i).queue.drop 1):=kl (by simp only [List.length_drop];omega)
    have hi0:idx (nth p.heap.ag i).queue 0=some (nth (nth p.heap.ag i).queue 0):=jk (i:=0) (by decide) (by omega)
    simp only [cond_false,hsub,happ,hi0,Option.bind_some,rK]
    have hs:jr iu (p.heap.ag.set i.toNat (qQ (nth p.heap.ag i) ((nth p.heap.ag i).queue.drop 1)))<iy:=BU ar (C1 ho (by simp only [List.length_drop];omega))
    have hx:wA (p.heap.ag.set i.toNat (qQ (nth p.heap.ag i) ((nth p.heap.ag i).queue.drop 1))):=kB hp.w (show lQ (nth p.heap.ag i) from hp.w _ (ar.at g0 g9).2)
    have e1:=wU hN hs hx now me (nth (nth p.heap.ag i).queue 0).src
    unfold qQ at e1
    rw [e1,Option.bind_some]
    exact CD (l:=served p.heap.ag i) (AP (by unfold served;simp only [List.length_set];exact hl)) fun z=>some (sL p z,iS.mk 0 (nth (nth p.heap.ag i).queue 0).n)
  · simp only [Bool.not_true,Bool.not_false,cond_false,cond_true,Option.bind_some,lG,Bool.or_false]
    cases q5:decide (((nth p.heap.ag i).queue.length:Int) ≥ 2)
    case true=>simp only [cond_true,kL (show ((8:Int) != 0)=true from rfl) hc]
    have happ:∀ m,app (nth p.heap.ag i).queue [m]=some ((nth p.heap.ag i).queue++[m]):=fun m=>m0 hq (by omega)
    have hap0:app ([]:List jq) (nth p.heap.ag i).queue=some (nth p.heap.ag i).queue:=kl (by omega)
    have e2:∀ z,idx (p.heap.ag.set i.toNat z) th=some (nth (p.heap.ag.set i.toNat z) th):=fun z=>jk t0 (by simp only [List.length_set];omega)
    simp only [cond_false,sa,hap0,happ,e2,Option.bind_some,rK]
    rfl
def vA (p:ia) (c:jh):Int×Int×ia:=bif !iE c.a 0 ((p.iz.length:Int) - 1) then (2,0,p) else (0,0,C9 p (p.iz.take c.a.toNat++p.iz.drop (c.a.toNat+1)))
theorem zn {α:Type} {l:List α} {i j:Int} (h0:0≤i) (h1:i≤j) (h2:j≤(l.length:Int)):sub l i j=some ((l.drop i.toNat).take (j.toNat - i.toNat)):=by
  unfold sub
  rw [if_pos ⟨h0,h1,h2⟩]
theorem ma.b6 {p:ia} (h:ma p):p.iz.length<iy:=(m4 (p:=p) (Nat.lt_of_le_of_lt h.sz (by decide))).2.2.2.2.2
theorem E3 {α:Type} {l:List α} (hl:l.length<iy) {a:Int} (h:iE a 0 ((l.length:Int) - 1)=true):IntKind.i64.wrap (a+1)=a+1∧sub l 0 a=some (l.take a.toNat)∧sub l (a+1) (l.length:Int)=some (l.drop (a.toNat+1))∧∃ m,sub l a (a+1)=some m:=by
  have hB:(16777216:Nat)=iy:=rfl
  rw [jb] at h
  refine ⟨iM (by omega) (by omega),?_,?_,_,zn h.1 (by omega) (by omega)⟩
  · rw [zn (Int.le_refl 0) h.1 (by omega)]
    simp
  · rw [zn (by omega) (by omega) (Int.le_refl _),show (a+1).toNat=a.toNat+1 by omega,List.take_of_length_le (by simp)]
def o8 (p:ia) (me now th:Int) (c:jh):Int×Int×ia :=
  bif c.kind==1 then uH p me now c else bif (c.kind==2) || (c.kind==3) then vf p me now c else bif (c.kind==4) || (c.kind==5) then vh p me now c else
  bif (c.kind==6) || (c.kind==7) then kk p me now c else bif c.kind==8 then tJ p me now c else bif (c.kind==9) || ((c.kind==10) || (c.kind==11)) then xb p c else
  bif (c.kind==12) || (c.kind==13) then vj p me now th c else bif c.kind==14 then uU p th c.a else bif c.kind==15 then vA p c else (2,0,p)
theorem Ex (p:ia) (th a:Int):(uU p th a).2.2=p:=by
  unfold uU
  cases a==0
  · cases a==1
    · cases (a==2) || ((a==3) || (a==4)) <;> rfl
    · rfl
  · rfl
theorem Fq {a m n:Int} (hne:m ≠ n) (h:((a==m) || (a==n))=true):(a==m)=!(a==n):=by
  simp only [Bool.or_eq_true,beq_iff_eq] at h
  rcases h with h | h
  · subst h
    have:(a==n)=false:=by rw [beq_eq_false_iff_ne];exact hne
    rw [this];simp
  · subst h
    have:(a==m)=false:=by rw [beq_eq_false_iff_ne];exact fun q=>hne q.symm
    rw [this];simp
theorem uj {p:ia} {now th:Int} (h:qc p now th=true):jR p=true∧0≤th∧th≤9:=by
  unfold qc at h
  simp only [Bool.and_eq_true] at h
  exact BD (now:=now) (by simpa using h.1)
def n9 (p:ia) (me now th:Int) (c:jh):ia×iS :=
  bif !jR p || (!iE me 0 2 || !iE now 0 1000000) then (p,iS.mk 2 0) else bif !qc p now th then (p,iS.mk 1 0) else fin c p (o8 p me now th c)
theorem Ch (p:ia) (me now:Int) (c:jh) {β:Type} (x:Option β):m3 p.label.levels (fin c p (kk p me now c)).1.label.levels (m3 p.own (fin c p (kk p me now c)).1.own (m3 p.tree (fin c p (kk p me now c)).1.tree (m3 p.heap.ag (fin c p (kk p me now c)).1.heap.ag (m3 p.heap.gc.gE (fin c p (kk p me now c)).1.heap.gc.gE (m3 p.iz (fin c p (kk p me now c)).1.iz x)))))=x:=by
  have h:(kk p me now c).2.2.label=p.label∧(kk p me now c).2.2.own=p.own∧(kk p me now c).2.2.tree=p.tree∧(kk p me now c).2.2.heap.ag.length=p.heap.ag.length∧(kk p me now c).2.2.heap.gc=p.heap.gc∧(kk p me now c).2.2.iz=p.iz:=by
    unfold kk
    cases jI p.heap.ag now me c.a 2 != 0
    case true=>exact ⟨rfl,rfl,rfl,rfl,rfl,rfl⟩
    cases !iE c.b 0 (((nth p.heap.ag (iD p.heap.ag now me c.a)).data.length:Int) - 1)
    case true=>exact ⟨rfl,rfl,rfl,rfl,rfl,rfl⟩
    cases c.kind==7
    case true=>exact ⟨rfl,rfl,rfl,rfl,rfl,rfl⟩
    cases !iE c.c 0 999
    case true=>exact ⟨rfl,rfl,rfl,rfl,rfl,rfl⟩
    exact ⟨rfl,rfl,rfl,List.length_set,rfl,rfl⟩
  have g:(fin c p (kk p me now c)).1.label.levels.length=p.label.levels.length∧(fin c p (kk p me now c)).1.own.length=p.own.length∧(fin c p (kk p me now c)).1.tree.length=p.tree.length∧(fin c p (kk p me now c)).1.heap.ag.length=p.heap.ag.length∧(fin c p (kk p me now c)).1.heap.gc.gE.length=p.heap.gc.gE.length∧(fin c p (kk p me now c)).1.iz.length=p.iz.length:=by
    unfold fin
    cases (kk p me now c).1==0
    · cases (c.kind==1)&&(((kk p me now c).1==6) || ((kk p me now c).1==7)) <;> exact ⟨rfl,rfl,rfl,rfl,rfl,rfl⟩
    · simp only [cond_true]
      rw [h.1,h.2.1,h.2.2.1,h.2.2.2.2.1,h.2.2.2.2.2]
      exact ⟨rfl,rfl,rfl,h.2.2.2.1,rfl,rfl⟩
  rw [oQ g.1,oQ g.2.1,oQ g.2.2.1,oQ g.2.2.2.1,oQ g.2.2.2.2.1,oQ g.2.2.2.2.2]
theorem BE {N:Nat} (hN:iy≤N) {p:ia} (hb:je p≤3000000) (hw:wP p) (me now th:Int) (c:jh):oh N p me now th c=some (n9 p me now th c):=by
  have hB:je p<iy:=Nat.lt_of_le_of_lt hb (by decide)
  unfold oh n9
  simp only [sv hN hB hw,mw,uB hN hB,Cq hN hB hw,Option.bind_some,lG,GD,B4]
  cases !jR p || (!iE me 0 2 || !iE now 0 1000000)
  case true=>rfl
  cases hc:qc p now th
  · rfl
  obtain ⟨ok,t0,t9⟩:=uj hc
  have hp:ma p:=⟨ok,hb,hw⟩
  simp only [Bool.not_true,cond_false]
  unfold o8
  cases hk:c.kind==1
  case true=>simp only [cond_true,Fs hN hp me now hk,Option.bind_some]
  simp only [cond_false]
  cases (c.kind==2) || (c.kind==3)
  case true=>simp only [cond_true,E5 hN hp me now hk,Option.bind_some]
  simp only [cond_false]
  cases (c.kind==4) || (c.kind==5)
  case true=>simp only [cond_true,FC hN hp me now hk,Option.bind_some]
  simp only [cond_false]
  cases hd:(c.kind==6) || (c.kind==7)
  case true =>
    simp only [cond_true,FE hN hp me now hk (Fq (by decide) hd),Option.bind_some]
    all_goals (rw [Ch];rfl)
  simp only [cond_false]
  cases c.kind==8
  case true=>simp only [cond_true,EC hN hp me now hk,Option.bind_some]
  simp only [cond_false]
  cases (c.kind==9) || ((c.kind==10) || (c.kind==11))
  case true=>simp only [cond_true,FL hN hp hk,Option.bind_some]
  simp only [cond_false]
  cases (c.kind==12) || (c.kind==13)
  case true=>simp only [cond_true,EX hN hp me now t0 t9 hk,Option.bind_some]
  simp only [cond_false]
  cases c.kind==14
  case true=>simp only [cond_true,E2 hN hp t0 t9 hk,Option.bind_some]
  simp only [cond_false]
  cases c.kind==15
  case false=>simp only [cond_false,kL (show ((2:Int) != 0)=true from rfl) hk]
  have h6:=hp.b6
  unfold vA
  simp only [cond_true,DX h6]
  cases hi:iE c.a 0 ((p.iz.length:Int) - 1)
  · simp only [Bool.not_false,cond_true,kL (show ((2:Int) != 0)=true from rfl) hk]
  obtain ⟨h1,h2,h3,_⟩:=E3 h6 hi
  have hB':(16777216:Nat)=iy:=rfl
  have a1:app ([]:List jE) (p.iz.take c.a.toNat)=some (p.iz.take c.a.toNat):=kl (by simp only [List.length_take];omega)
  have a2:app (p.iz.take c.a.toNat) (p.iz.drop (c.a.toNat+1))=some (p.iz.take c.a.toNat++p.iz.drop (c.a.toNat+1)):=by
    unfold app
    rw [if_pos (by simp only [List.length_take,List.length_drop];omega)]
  simp only [Bool.not_true,cond_false,h1,h2,h3,a1,a2,Option.bind_some,rK]
  rfl
structure re (p q:ia):Prop where
  sz:je q≤je p+300
  w:wP q
  ln:q.heap.ag.length=p.heap.ag.length
theorem nQ {p q:ia} (h1:q.label=p.label) (h2:q.own=p.own) (h3:q.tree.length=p.tree.length) (h4:jr iu q.heap.ag≤jr iu p.heap.ag+250) (h5:q.heap.gc.gE.length≤p.heap.gc.gE.length+1) (h6:q.iz.length≤p.iz.length) (h7:wA q.heap.ag) (h8:q.heap.ag.length=p.heap.ag.length):re p q:=by
  refine ⟨?_,h7,h8⟩
  unfold je ml oH l6
  rw [h1,h2]
  omega
theorem jx {p:ia} (h:ma p):re p p:=⟨by omega,h.w,rfl⟩
theorem sO {l:List bh} {k:Nat} {o:bh} (ho:iu o≤100):jr iu (l.set k o)≤jr iu l+100:=Nat.le_trans vr (by omega)
theorem xa (h:ic) (c i:Int):(mA h c i).ag.length=h.ag.length:=by
  unfold mA tC ku
  cases decide (c ≥ 0)
  · rfl
  cases j7 h&&iE i 0 9
  · rfl
  simp only [cond_true]
  split
  · simp only [List.length_set]
  · rfl
theorem w6 {h:ic} (hw:wA h.ag) (c i:Int):jr iu (mA h c i).ag=jr iu h.ag∧wA (mA h c i).ag∧(mA h c i).gc.gE.length≤h.gc.gE.length+1:=by
  unfold mA tC
  cases decide (c ≥ 0)
  · exact ⟨rfl,hw,Nat.le_succ _⟩
  cases q:j7 h&&iE i 0 9
  · exact ⟨rfl,hw,Nat.le_succ _⟩
  simp only [Bool.and_eq_true,jb] at q
  have hl:=(mc q.1).len
  simp only [cond_true]
  refine ⟨?_,?_,tV h i⟩
  · unfold ku
    split
    · exact mS q.2.1 (by omega) rfl
    · rfl
  · unfold ku
    split
    · exact kB hw (show lQ (marked (nth h.ag i) true) from hw (nth h.ag i) (nP q.2.1 (by omega)))
    · exact hw
theorem EH {p:ia} (hp:ma p) (me now:Int) (c:jh):re p (vf p me now c).2.2:=by
  unfold vf
  cases !iE c.b 0 1
  case true=>exact jx hp
  cases q2:jI p.heap.ag now me c.a 0 != 0
  case true=>exact jx hp
  obtain ⟨ar,g0,g9,_,_⟩:=nU (lv q2)
  cases (c.kind==2)&&(jI p.heap.ag now me c.c 0 != 0)
  case true=>exact jx hp
  simp only [cond_false]
  generalize (bif c.kind==2 then iD p.heap.ag now me c.c else -1)=x
  have ho:=qJ ar g0 g9
  obtain ⟨a,b,d⟩:=w6 (h:=ic.mk (p.heap.ag.set (iD p.heap.ag now me c.a).toNat (linked (nth p.heap.ag (iD p.heap.ag now me c.a)) c.b x)) p.heap.gc) (kB hp.w (show lQ (nth p.heap.ag (iD p.heap.ag now me c.a)) from hp.w _ (ar.at g0 g9).2)) x x
  refine nQ rfl rfl rfl ?_ d (Nat.le_refl _) b (by show (mA _ _ _).ag.length=_;rw [xa];exact List.length_set)
  refine Nat.le_trans (Nat.le_of_eq a) (Nat.le_trans (sO (by rw [xQ];omega)) (by omega))
theorem Ej {p:ia} (hp:ma p) (me now:Int) (c:jh):re p (vh p me now c).2.2:=by
  unfold vh
  cases q2:jI p.heap.ag now me c.a 0 != 0
  case true=>exact jx hp
  obtain ⟨ar,g0,g9,_,_⟩:=nU (lv q2)
  cases iD p.heap.ag now me c.a==0
  case true=>exact jx hp
  cases (c.kind==4)&&(jI p.heap.ag now me c.b 1 != 0)
  case true=>exact jx hp
  simp only [cond_false]
  generalize (bif c.kind==4 then iD p.heap.ag now me c.b else -1)=x
  have ho:=qJ ar g0 g9
  obtain ⟨a,b,d⟩:=w6 (h:=ic.mk (p.heap.ag.set (iD p.heap.ag now me c.a).toNat (boxed (nth p.heap.ag (iD p.heap.ag now me c.a)) x)) p.heap.gc) (kB hp.w (show lQ (nth p.heap.ag (iD p.heap.ag now me c.a)) from hp.w _ (ar.at g0 g9).2)) x (iD p.heap.ag now me c.a)
  refine nQ rfl rfl rfl ?_ d (Nat.le_refl _) b (by show (mA _ _ _).ag.length=_;rw [xa];exact List.length_set)
  refine Nat.le_trans (Nat.le_of_eq a) (Nat.le_trans (sO (show iu (nth p.heap.ag (iD p.heap.ag now me c.a))≤100 by omega)) (by omega))
theorem Ev {p:ia} (hp:ma p) (me now:Int) (c:jh):re p (kk p me now c).2.2:=by
  unfold kk
  cases q2:jI p.heap.ag now me c.a 2 != 0
  case true=>exact jx hp
  obtain ⟨ar,g0,g9,_,_⟩:=nU (lv q2)
  cases !iE c.b 0 (((nth p.heap.ag (iD p.heap.ag now me c.a)).data.length:Int) - 1)
  case true=>exact jx hp
  cases c.kind==7
  case true=>exact jx hp
  cases !iE c.c 0 999
  case true=>exact jx hp
  have ho:=qJ ar g0 g9
  refine nQ rfl rfl rfl ?_ (Nat.le_succ _) (Nat.le_refl _) (kB hp.w (show lQ (nth p.heap.ag (iD p.heap.ag now me c.a)) from hp.w _ (ar.at g0 g9).2)) List.length_set
  refine Nat.le_trans (sO (o:=written (nth p.heap.ag (iD p.heap.ag now me c.a)) c.b c.c) ?_) (by omega)
  unfold iu written at *
  simp only [List.length_set]
  omega
theorem Dl {p:ia} (hp:ma p) (me now:Int) (c:jh):re p (tJ p me now c).2.2:=by
  unfold tJ
  cases q2:jI p.heap.ag now me c.a 0 != 0
  case true=>exact jx hp
  obtain ⟨ar,g0,g9,_,_⟩:=nU (lv q2)
  cases (iD p.heap.ag now me c.a==0) || (!iE c.b 1 1000 || decide (IntKind.i64.wrap ((nth p.heap.ag (iD p.heap.ag now me c.a)).iN+c.b) > 1000000))
  case true=>exact jx hp
  cases !rD p (ri p (nth p.heap.ag (iD p.heap.ag now me c.a)).res) (iw.mk 0 (IntKind.i64.wrap ((nth p.heap.ag (iD p.heap.ag now me c.a)).cd * c.b)) 0)
  case true=>exact jx hp
  have ho:=qJ ar g0 g9
  refine nQ rfl rfl (mY _ _ _) ?_ (Nat.le_succ _) (Nat.le_refl _) (kB hp.w (show lQ (nth p.heap.ag (iD p.heap.ag now me c.a)) from hp.w _ (ar.at g0 g9).2)) List.length_set
  exact Nat.le_trans (sO (show iu (nth p.heap.ag (iD p.heap.ag now me c.a))≤100 by omega)) (by omega)
theorem xy {p:ia} (hp:ma p) {t:List iq} (h:t.length=p.tree.length):re p (uh p t):=nQ rfl rfl h (by show jr iu p.heap.ag≤_;omega) (Nat.le_succ _) (Nat.le_refl _) hp.w rfl
theorem Fp {p:ia} (hp:ma p) (c:jh):re p (xb p c).2.2:=by
  unfold xb
  cases c.kind==9
  · cases c.kind==10
    · cases !(oE p.tree c.a).2
      · exact xy hp (uS _ _)
      · exact jx hp
    · cases (!iE c.a 0 4 || (!iE c.b 0 4 || (!iE c.c 0 2 || !ux c.d)))
      · cases !(oe p.tree c.a c.b (rG c.c c.d)).2
        · exact xy hp (yC _ _ _ _)
        · exact jx hp
      · exact jx hp
  · cases (!iE c.a 0 4 || !i7 (iw.mk c.b c.c c.d))
    · cases !(mN p.tree c.a (iw.mk c.b c.c c.d)).2.2
      · exact xy hp (uo _ _ _)
      · exact jx hp
    · exact jx hp
theorem Eo (h:ic) (i:Int):(nF h i).ag.length=h.ag.length:=by
  unfold nF
  split
  · simp only [List.length_set]
  · rfl
theorem Fu (l:List bh) (k w b:Int):(ui l k w b).length=l.length:=by
  unfold ui
  cases decide (k ≥ 0)&&((nth l k).wait==w)
  · rfl
  · simp only [cond_true,List.length_set]
theorem EG {h:ic} (hw:wA h.ag) (i:Int):jr iu (nF h i).ag=jr iu h.ag∧wA (nF h i).ag∧(nF h i).gc.gE.length=h.gc.gE.length:=by
  unfold nF
  split
  · rename_i q
    simp only [Bool.and_eq_true,jb] at q
    have hl:=(mc q.1).len
    exact ⟨mS q.2.1.1 (by omega) rfl,kB hw (show lQ (nth h.ag i) from hw _ (nP q.2.1.1 (by omega))),rfl⟩
  · exact ⟨rfl,hw,rfl⟩
theorem EB {p:ia} (hp:ma p) (f:Int) (a:iw):re p (vY p f a):=nQ rfl rfl (mY _ _ _) (by show jr iu p.heap.ag≤_;omega) (Nat.le_succ _) (Nat.le_refl _) hp.w rfl
theorem Eu {p:ia} (hp:ma p) (me now:Int) (c:jh):re p (uH p me now c).2.2:=by
  unfold uH
  cases q1:sb now c
  case true=>exact jx hp
  cases jI p.heap.ag now me c.b 1 != 0
  case true=>exact jx hp
  cases !rD p c.e (cost c)
  case true=>exact jx hp
  generalize iD p.heap.ag now me c.b=box
  cases q4:decide ((kv p.heap.ag (newObj now box c)).2<0)
  case true=>exact EB hp _ _
  obtain ⟨j,g,e,ar,hj⟩:=vJ q4
  simp only [cond_false]
  rw [e]
  have ho:=x7 (now:=now) (box:=box) (vF q1)
  obtain ⟨a,b,d⟩:=EG (h:=ic.mk (p.heap.ag.set j (lg (newObj now box c) g)) p.heap.gc) (kB hp.w (um (vX _ _ _))) (j:Int)
  refine nQ rfl rfl (mY _ _ _) ?_ (by show (nF _ _).gc.gE.length≤_;rw [d];exact Nat.le_succ _) (Nat.le_refl _) b (by show (nF _ _).ag.length=_;rw [Eo];exact List.length_set)
  exact Nat.le_trans (Nat.le_of_eq a) (Nat.le_trans (sO (show iu (newObj now box c)≤100 from ho)) (by omega))
theorem DD {l:List bh} (h:wA l) {i:Int} (h0:0≤i) (h1:i<(l.length:Int)):lQ (nth l i):=h _ (nP h0 h1)
theorem EW {l:List bh} (hw:wA l) {k w b:Int} (h:0≤k→k<(l.length:Int)):jr iu (ui l k w b)=jr iu l∧wA (ui l k w b):=by
  unfold ui
  cases q:decide (k ≥ 0)&&((nth l k).wait==w)
  · exact ⟨rfl,hw⟩
  simp only [Bool.and_eq_true,decide_eq_true_eq] at q
  have k1:=h q.1
  have w0:lQ (waiting (nth l k) 0):=by show (-9223372036854775808:Int)≤0;decide
  have w1:=kB (k:=k.toNat) hw w0
  have k2:k<((l.set k.toNat (waiting (nth l k) 0)).length:Int):=by simp only [List.length_set];exact k1
  simp only [cond_true]
  exact ⟨(mS (z:=vW (nth (l.set k.toNat (waiting (nth l k) 0)) k) b) q.1 k2 rfl).trans (mS q.1 k1 rfl),kB w1 (show lQ (nth (l.set k.toNat (waiting (nth l k) 0)) k) from DD w1 q.1 k2)⟩
theorem Gx (n:Int):-9223372036854775808≤IntKind.i64.wrap n:=by
  simp [IntKind.wrap,IntKind.signed,IntKind.bits]
  split <;> omega
theorem Ec {p:ia} (hp:ma p) (me now:Int) {th:Int} (t0:0≤th) (t9:th≤9) (c:jh):re p (vj p me now th c).2.2:=by
  unfold vj
  cases q2:jI p.heap.ag now me c.a 3 != 0
  case true=>exact jx hp
  obtain ⟨ar,g0,g9,_,_⟩:=nU (lv q2)
  cases !iE c.b 0 999
  case true=>exact jx hp
  simp only [cond_false]
  generalize iD p.heap.ag now me c.a=i at *
  have ho:=qJ ar g0 g9
  have hl:=ar.len
  have hwi:lQ (nth p.heap.ag i):=hp.w _ (ar.at g0 g9).2
  have qs:∀ q,q.length≤20→iu (qQ (nth p.heap.ag i) q)≤100:=fun q hq=>by
    unfold iu at ho
    unfold iu qQ
    simp only
    omega
  have hq:=ya ho
  cases c.kind==12
  · cases ((nth p.heap.ag i).queue.length:Int)==0
    case true=>exact jx hp
    have hw1:wA (served p.heap.ag i):=kB hp.w hwi
    obtain ⟨a,b⟩:=EW (l:=served p.heap.ag i) hw1 (k:=iD (served p.heap.ag i) now me (nth (nth p.heap.ag i).queue 0).src) (w:=IntKind.i64.wrap (c.a+1)) (b:=c.b) (AP (by unfold served;simp only [List.length_set];exact hl))
    refine nQ rfl rfl rfl ?_ (Nat.le_succ _) (Nat.le_refl _) b (by show (ui _ _ _ _).length=_;rw [Fu];exact List.length_set)
    refine Nat.le_trans (Nat.le_of_eq a) (Nat.le_trans (sO (qs _ (by simp only [List.length_drop];omega))) (by omega))
  · cases decide (((nth p.heap.ag i).queue.length:Int) ≥ 2)
    case true=>exact jx hp
    have hw1:wA (asked p.heap.ag i me th c):=kB hp.w hwi
    have hl1:(asked p.heap.ag i me th c).length=10:=by unfold asked;simp only [List.length_set];exact hl
    have e:jr iu ((asked p.heap.ag i me th c).set th.toNat (waiting (nth (asked p.heap.ag i me th c) th) (IntKind.i64.wrap (c.a+1))))=jr iu (asked p.heap.ag i me th c):=mS t0 (by omega) rfl
    refine nQ rfl rfl rfl ?_ (Nat.le_succ _) (Nat.le_refl _) (kB hw1 (Gx _)) (by show (List.set _ _ _).length=_;rw [List.length_set,hl1,hl])
    refine Nat.le_trans (Nat.le_of_eq e) (Nat.le_trans (sO (qs _ (by simp only [List.length_append,List.length_cons,List.length_nil];omega))) (by omega))
theorem Dh {p:ia} (hp:ma p) (c:jh):re p (vA p c).2.2:=by
  unfold vA
  cases hi:iE c.a 0 ((p.iz.length:Int) - 1)
  · exact jx hp
  · exact nQ rfl rfl rfl (by show jr iu p.heap.ag≤_;omega) (Nat.le_succ _) (by show (p.iz.take c.a.toNat++p.iz.drop (c.a.toNat+1)).length≤_;simp only [List.length_append,List.length_take,List.length_drop];omega) hp.w rfl
theorem D7 {p:ia} (hp:ma p) (me now:Int) {th:Int} (t0:0≤th) (t9:th≤9) (c:jh):re p (o8 p me now th c).2.2:=by
  unfold o8
  cases c.kind==1
  case true=>exact Eu hp _ _ _
  cases (c.kind==2) || (c.kind==3)
  case true=>exact EH hp _ _ _
  cases (c.kind==4) || (c.kind==5)
  case true=>exact Ej hp _ _ _
  cases (c.kind==6) || (c.kind==7)
  case true=>exact Ev hp _ _ _
  cases c.kind==8
  case true=>exact Dl hp _ _ _
  cases (c.kind==9) || ((c.kind==10) || (c.kind==11))
  case true=>exact Fp hp _
  cases (c.kind==12) || (c.kind==13)
  case true=>exact Ec hp _ _ t0 t9 _
  cases c.kind==14
  case true=>simp only [cond_false,cond_true,Ex];exact jx hp
  cases c.kind==15
  case true=>exact Dh hp _
  exact jx hp
theorem Ez {p:ia} (hb:je p≤3000000) (hw:wP p) (me now th:Int) (c:jh):je (n9 p me now th c).1≤je p+300∧wP (n9 p me now th c).1:=by
  unfold n9
  cases !jR p || (!iE me 0 2 || !iE now 0 1000000)
  case true=>exact ⟨Nat.le_add_right _ _,hw⟩
  cases hc:qc p now th
  · exact ⟨Nat.le_add_right _ _,hw⟩
  obtain ⟨ok,t0,t9⟩:=uj hc
  have hp:ma p:=⟨ok,hb,hw⟩
  simp only [Bool.not_true,cond_false]
  unfold fin
  cases (o8 p me now th c).1==0
  · cases (c.kind==1)&&(((o8 p me now th c).1==6) || ((o8 p me now th c).1==7)) <;> exact ⟨Nat.le_add_right (je p) _,hw⟩
  · have h:=D7 hp me now t0 t9 c
    exact ⟨h.sz,h.w⟩
theorem De {p:ia} (hb:je p≤3000000) (hw:wP p) (me now th:Int) (c:jh):(n9 p me now th c).1.heap.ag.length=p.heap.ag.length:=by
  unfold n9
  cases !jR p || (!iE me 0 2 || !iE now 0 1000000)
  case true=>rfl
  cases hc:qc p now th
  · rfl
  obtain ⟨ok,t0,t9⟩:=uj hc
  simp only [Bool.not_true,cond_false]
  unfold fin
  cases (o8 p me now th c).1==0
  · cases (c.kind==1)&&(((o8 p me now th c).1==6) || ((o8 p me now th c).1==7)) <;> rfl
  · exact (D7 ⟨ok,hb,hw⟩ me now t0 t9 c).ln
end Go.Kx
