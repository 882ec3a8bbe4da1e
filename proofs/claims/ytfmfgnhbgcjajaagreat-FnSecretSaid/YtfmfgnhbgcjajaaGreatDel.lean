import Derived.Test.YtfmfgnhbgcjajaaGreatGo
import Derived.Test.YtfmfgnhbgcjajaaGreatDat
namespace Go.Kx
open Go Go.RowKit
set_option linter.unusedVariables false
set_option linter.unusedSimpArgs false
section
variable {α:Type} [dp α] {P:Program} {n:Nat} {Q:iO} {e:Env} {w w0:World} {F0:List Nat} {L:List Item} {ops:Array Oper} {rest:List Oper} {ty:TypeId} {pos:String} {aft:Array Edge} {d:Nat}
theorem dL.Qu{ρ:Operand->Value}{t:TypeId}{x lo hi mx:Operand}{a:Option Addr}{c:Nat}{l m:List α}{i j:Int}{k1 k2 k3:IntKind}(hT:P.underlying t=some (.slice (dp.ty α)))(hz:m4 P (dp.ty α)=some (dp.sz α))(hx:ρ x=.slice a l.length c)
    (hlo:ρ lo=.int k1 i) (hhi:ρ hi=.int k2 j) (hmx:ρ mx=.int k3 (l.length:Int)) (hs:Kx.sub l i j=some m) (hlc:l.length<=c):dL P ρ (.slice t x (some lo) (some hi) (some mx)) (.slice (if l.length=i.toNat then a else a.map fun b=>b.add (i.toNat*dp.sz α)) m.length (l.length-i.toNat)):=by
  obtain⟨h1,h2,h3,rfl,hm⟩:=pc hs;intro d ty pos aft gd w;rw[hm]
  cases hi':P.info? (dp.ty α)with
  | none=>simp[m4,hi']at hz
  | some inf =>
    have hz':inf.size=dp.sz α:=by simpa[m4,hi']using hz
    have h4:0<=j:=by omega
    have h5:j<=(c:Int):=by omega
    have h6:i<=(j.toNat:Int):=by omega
    have h7:(l.length:Int)<=(c:Int):=by omega
    have hb:(Instr.sliceBounds true l.length c (some (ρ lo)) (some (ρ hi)) (some (ρ mx))).run P w=.ok (i.toNat,j.toNat,l.length) w:=by
      simp[Instr.sliceBounds,Instr.sliceBound,hlo,hhi,hmx,asIntOf,h1,h2,h3,h4,h5,h6,h7]
      try omega
    simp[execOp,Instr.sliceAt,Instr.slice,run_underlying hT,hx,hb,sizeOf,typeInfo,hi',hz']
theorem dL.QS{ρ:Operand->Value}{t:TypeId}{x lo hi:Operand}{a:Option Addr}{c k:Nat}{i j:Int}{k1 k2:IntKind}(hT:P.underlying t=some (.slice (dp.ty α)))(hz:m4 P (dp.ty α)=some (dp.sz α))(hx:ρ x=.slice a k c)
    (hlo:ρ lo=.int k1 i) (hhi:ρ hi=.int k2 j) (h1:0<=i) (h2:i<=j) (h5:j<=(c:Int)):dL P ρ (.slice t x (some lo) (some hi) none) (.slice (lL a c i.toNat (dp.sz α)) (j.toNat-i.toNat) (c-i.toNat)):=by
  intro d ty pos aft gd w
  cases hi':P.info? (dp.ty α)with
  | none=>simp[m4,hi']at hz
  | some inf =>
    have hz':inf.size=dp.sz α:=by simpa[m4,hi']using hz
    have h4:0<=j:=by omega
    have h6:i<=(j.toNat:Int):=by omega
    have hb:(Instr.sliceBounds true k c (some (ρ lo)) (some (ρ hi)) none).run P w=.ok (i.toNat,j.toNat,c) w:=by
      simp[Instr.sliceBounds,Instr.sliceBound,hlo,hhi,asIntOf,h1,h2,h4,h5,h6]
      try omega
    have hcu:(if c=i.toNat then a else a.map fun b=>b.add (i.toNat*inf.size))=lL a c i.toNat (dp.sz α):=by unfold lL;rw[hz']
    simp[execOp,Instr.sliceAt,Instr.slice,run_underlying hT,hx,hb,sizeOf,typeInfo,hi', <- hcu]
theorem GQ{t ty:TypeId}(hT:jI P t α){g o:Nat}{c:Nat}{F G:List Nat}{l ys:List α}(ho:jA w (some ⟨g,o,none⟩) c F l){ad:Addr}{cc:Nat}{news:List Value}
    (hl:news.length=ys.length*dp.sz α) (hnews:∀(j:Nat) (u:Value),news[j]?=some u->w.cell? (ad.add j)=some u) (hels:fQ w news G ys)
    (hn:(F++G).Nodup) (hlt:∀b,b∈F++G->b<w.heap.size) (hroom:l.length+ys.length<=c) :
    ∃w',(Builtin.append_ #[t,t] ty #[.slice (some ⟨g,o,none⟩) l.length c,.slice (some ad) ys.length cc]).run P w=.ok (.slice (some ⟨g,o,none⟩) (l++ys).length c) w'/\St w (F++G) w' [sl (some ⟨g,o,none⟩) c (l++ys)]:=by
  obtain⟨i,z,hi,hz,hs,hby,hzc⟩:=hT.info;have h1:∀u,u∈news->u.oneCell'=true:=fun u hu=>fQ.one hels u (by rw[<- hl,List.take_length];exact hu);obtain⟨n1,n2,nd⟩:=List.nodup_append.1 hn
  rcases ho with⟨ha,_⟩|⟨g',o',cur,F',ha,hg,hs',k1,k2,rfl,he⟩
  · cases ha
  · cases ha;obtain⟨q1,q2⟩:=he.take;obtain⟨m1,m2⟩:=List.nodup_cons.1 n1
    have hdl:(cur.toList.drop o).length=cur.size-o:=by rw[List.length_drop,Array.length_toList]
    have hfit:o+l.length*dp.sz α+news.length<=cur.size:=by
      have:(l.length+ys.length)*dp.sz α<=c*dp.sz α:=Nat.mul_le_mul_right _ hroom;rw[Nat.add_mul]at this;omega
    have hfc:=run_firstCells_some (P:=P) w (dp.sz α) ys.length ad ys.length cc news hl hnews;have hst:=run_storeCells_at P g (o+l.length*dp.sz α) (dp.ty α) news 0 cur w hg (by simpa using hfit) (fun u hu=>h1 u hu);simp only[Nat.add_zero]at hst;refine⟨w.setRow g (cur.toList.take (o+l.length*dp.sz α)++news++cur.toList.drop (o+l.length*dp.sz α+news.length)).toArray,?_,?_⟩
    · simp[Builtin.append_,run_underlying hT.zu,sizeOf,typeInfo,hi,Builtin.lenOf,hroom,hs,hfc,add_lit,hst]
    · have hoth:∀b,b ≠ g->(w.setRow g (cur.toList.take (o+l.length*dp.sz α)++news++cur.toList.drop (o+l.length*dp.sz α+news.length)).toArray).heap[b]?=w.heap[b]?:=fun b hb=>setRow_other w g b _ hb
      refine St.vW (G:=g::(F'++G)) (by simp) rfl rfl rfl (fun b _ hno=>hoth b fun e=>hno (by simp[e]))
        ⟨g::(F'++G),[],by simp,.inr ⟨g,o,_,F'++G,rfl,setRow_heap w g cur _ _ _ hg,?_,by simpa using hroom,k2,rfl,?_⟩,rfl⟩ ?_ ?_
      · simp only[List.size_toArray,List.length_append,List.length_take,List.length_drop,Array.length_toList];omega
      · have e:(cur.toList.take (o+l.length*dp.sz α)++news++cur.toList.drop (o+l.length*dp.sz α+news.length)).drop o=((cur.toList.drop o).take (l.length*dp.sz α)++news)++cur.toList.drop (o+l.length*dp.sz α+news.length):=by
          rw[List.append_assoc,List.drop_append_of_le_length (by have hcl:cur.toList.length=cur.size:=Array.length_toList;rw[List.length_take];omega),List.drop_take,Nat.add_sub_cancel_left, <- List.append_assoc]
        simp only[List.toList_toArray]at e⊢;rw[e];refine fQ.more (fQ.append.2 ⟨_,news,F',G,rfl,rfl,by rw[List.length_take];omega,q1.frame (fun b h=>hoth b fun e=>m1 (e ▸ h)),hels.frame (fun b h=>hoth b fun e=>nd g (by simp) b h e.symm)⟩) _
      · refine List.nodup_cons.2 ⟨fun hm=>?_,List.nodup_append.2 ⟨m2,n2,fun a ha b hb e=>nd a (by simp[ha]) b hb e⟩⟩
        rcases List.mem_append.1 hm with h|h
        · exact m1 h
        · exact nd g (by simp) g h rfl
      · intro b hbm
        have:b∈(g::F')++G:=by simpa using hbm
        exact⟨.inl this,by simpa using hlt b this⟩
theorem Gs{t ty:TypeId}(hT:jI P t α){g o:Nat}{c k ck:Nat}{F:List Nat}{l:List α}(ho:jA w (some ⟨g,o,none⟩) c F l)(hlt:∀b,b∈F->b<w.heap.size)(hn:F.Nodup)(hk:0<k)(hroom:l.length+k<=c):
    ∃w',(Builtin.clear_ #[t] ty #[.slice (some ⟨g,o+l.length*dp.sz α,none⟩) k ck]).run P w=.ok (.tuple #[]) w'/\St w F w' [sl (some ⟨g,o,none⟩) c l]:=by
  obtain⟨i,z,hi,hz,hs,hby,hzc⟩:=hT.info
  have hzs:z.cells.size=dp.sz α:=by rw[<- Array.length_toList,hzc];exact dp.eQ (dp.fh w)
  rcases ho with⟨ha,_⟩|⟨g',o',cur,F',ha,hg,hs',k1,k2,rfl,he⟩
  · cases ha
  · cases ha;obtain⟨q1,q2⟩:=he.take;obtain⟨m1,m2⟩:=List.nodup_cons.1 hn;obtain⟨news,hnews⟩:∃news,news=(Builtin.zeroCells z.cells k).toList:=⟨_,rfl⟩
    have hl:news.length=k*dp.sz α:=by rw[hnews,Array.length_toList,size_zeroCells,hzs]
    have h1:∀u,u∈news->u.oneCell'=true:=by
      intro u hu;have h0:=fQ.one (fQ.IQ (w:=w) (α:=α) 1) u
      have:u∈z.cells.toList:=by
        rw[hnews]at hu;obtain⟨i,hi,rfl⟩:=List.mem_iff_getElem.1 hu
        have hpos:0<z.cells.size:=by rw[hzs];exact dp.pos
        simp only[Builtin.zeroCells,Array.getElem_toList,Array.getElem_map,Array.getElem_range];rw[getElem!_pos z.cells _ (Nat.mod_lt _ hpos)];exact Array.getElem_mem_toList _
      rw[hzc]at this;have hzl:(dp.zc α).length=dp.sz α:=dp.eQ (dp.fh w);refine h0 ?_;rw[show(List.replicate 1 (dp.zero:α)).length*dp.sz α=(dp.zc α).length by rw[hzl];simp];simpa using this
    have hdl:(cur.toList.drop o).length=cur.size-o:=by rw[List.length_drop,Array.length_toList]
    have hfit:o+l.length*dp.sz α+news.length<=cur.size:=by
      have:(l.length+k)*dp.sz α<=c*dp.sz α:=Nat.mul_le_mul_right _ hroom;rw[Nat.add_mul]at this;omega
    have hst:=run_storeCells_at P g (o+l.length*dp.sz α) (dp.ty α) news 0 cur w hg (by simpa using hfit) (fun u hu=>h1 u hu);simp only[Nat.add_zero]at hst;refine⟨w.setRow g (cur.toList.take (o+l.length*dp.sz α)++news++cur.toList.drop (o+l.length*dp.sz α+news.length)).toArray,?_,?_⟩
    · obtain⟨k',rfl⟩:∃k',k=k'+1:=⟨k-1,by omega⟩;rw[List.append_assoc]at hst;simp[Builtin.clear_,run_underlying hT.zu,zeroValue,typeInfo,hi,hz, <- hnews,hst]
    · have hoth:∀b,b ≠ g->(w.setRow g (cur.toList.take (o+l.length*dp.sz α)++news++cur.toList.drop (o+l.length*dp.sz α+news.length)).toArray).heap[b]?=w.heap[b]?:=fun b hb=>setRow_other w g b _ hb
      refine St.vW (G:=g::F') (by simp) rfl rfl rfl (fun b _ hno=>hoth b fun e=>hno (by simp[e]))
        ⟨g::F',[],by simp,.inr ⟨g,o,_,F',rfl,setRow_heap w g cur _ _ _ hg,?_,by omega,k2,rfl,?_⟩,rfl⟩ hn ?_
      · simp only[List.size_toArray,List.length_append,List.length_take,List.length_drop,Array.length_toList];omega
      · have e:(cur.toList.take (o+l.length*dp.sz α)++news++cur.toList.drop (o+l.length*dp.sz α+news.length)).drop o=((cur.toList.drop o).take (l.length*dp.sz α)++news)++cur.toList.drop (o+l.length*dp.sz α+news.length):=by
          rw[List.append_assoc,List.drop_append_of_le_length (by have hcl:cur.toList.length=cur.size:=Array.length_toList;rw[List.length_take];omega),List.drop_take,Nat.add_sub_cancel_left, <- List.append_assoc]
        simp only[List.toList_toArray]at e⊢;rw[e];have hm:=fQ.more (q1.frame (fun b h=>hoth b fun e=>m1 (e ▸ h))) (news++cur.toList.drop (o+l.length*dp.sz α+news.length))
        rwa[<- List.append_assoc]at hm
      · intro b hbm;exact⟨.inl hbm,by simpa using hlt b hbm⟩
theorem KS{g o c i m:Nat}:∃ad,lL (some ⟨g,o,none⟩) c i m=some ad:=by
  unfold lL;split<;>exact⟨_,rfl⟩
theorem Ka{L:List Item}{k:Nat}{y:Item}(h:L[k]?=some y):L.set k y=L:=by
  apply List.ext_getElem? fun i=>?_;rw[List.getElem?_set];split
  · rename_i e;subst e;rw[if_pos (eF h),h]
  · rfl
theorem LW.QX[Flat α]{t:TypeId}{x y:Operand}{k:Nat}{a a1 a2:Option Addr}{c c1 c2:Nat}{l m0 m1 m2:List α}{i j:Int}(hT:jI P t α)(hS:St w0 F0 w L)(hi:L[k]?=some (sl a c l))
    (h0:Kx.sub l i j=some m0) (hij:(i==j)=false) (h1:Kx.sub l 0 i=some m1) (h2:Kx.sub l j (l.length:Int)=some m2)
    (hx:ev e x=.slice a1 m1.length c1) (e1:a1=lL a c (0:Int).toNat (dp.sz α)) (f1:c1=c-(0:Int).toNat) (hy:ev e y=.slice a2 m2.length c2) (e2:a2=lL a c j.toNat (dp.sz α)) (f2:c2=c-j.toNat) (hd:Nat.ble (d+1) n=true)
    (h:∀w':World,St w0 F0 w' (L.set k (sl a c (m1++m2)))->LW P n ops Q rest (im e d (.slice a (m1++m2).length c)) w') :
    LW P n ops Q (⟨some d,.call { callee:=.builtin .append,args:=#[x,y],argTypes:=#[t,t] },ty,pos,aft,none⟩::rest) e w:=by
  have hij:i ≠ j:=by simpa using hij
  obtain⟨b0,b1,b2,_,_⟩:=pc h0;obtain⟨_,_,_,_,z1⟩:=pc h1;obtain⟨_,_,_,_,z2⟩:=pc h2;have hle:=(hS.rI k hi).le;have rd2:=(hS.rI k hi).sub h2
  obtain⟨g,o,rfl⟩:∃g o,a=some ⟨g,o,none⟩:=by
    obtain⟨F,hF,_,_⟩:=hS.own;obtain⟨Fi,q,_⟩:=hF.at_ k hi
    rcases q with⟨_,_,hl,_⟩|⟨g,o,_,_,ha,_⟩
    · rw[hl]at b2;simp at b2;omega
    · exact⟨g,o,ha⟩
  have hs0:lL (some (⟨g,o,none⟩:Addr)) c (0:Int).toNat (dp.sz α)=some ⟨g,o,none⟩:=by
    unfold lL;rw[if_neg (by simp;omega)];simp[add_lit]
  obtain⟨_,a',c',ea,ec,hS1⟩:=hS.tI k hi h1;rw[hs0]at ea e1;simp only[Int.toNat_zero,Nat.sub_zero]at ec f1;subst ea;subst ec;subst e1;subst f1;have hkl:=eF hi;have hi1:(L.set k (sl (some ⟨g,o,none⟩) c1 m1))[k]?=some (sl (some ⟨g,o,none⟩) c1 m1):=List.getElem?_set_self hkl;have h':St w0 F0 w ([sl (some ⟨g,o,none⟩) c1 m1]++(L.set k (sl (some ⟨g,o,none⟩) c1 m1)).eraseIdx k):=hS1.front k hi1;obtain⟨F,hF,hn,hlt2,_,_,hm⟩:=h'.share;obtain⟨F1,F2,rfl,q1,q2⟩:=hF;cases(show F2=[] from q2);rw[List.append_nil]at hn hlt2 hm;obtain⟨news,g1,g2,g3⟩:=fQ.flat rd2;obtain⟨ad,had⟩:=KS (g:=g) (o:=o) (c:=c1) (i:=j.toNat) (m:=dp.sz α)
  have hnews:∀(q:Nat) (u:Value),news[q]?=some u->w.cell? (ad.add q)=some u:=by
    intro q u hu
    by_cases hne:m2=[]
    · subst hne;simp at g1;subst g1;simp at hu
    · obtain⟨b,o2,hb,hc⟩:=g3 hne;rw[had]at hb;cases hb;rw[add_lit];exact hc q u hu
  obtain⟨w',hr,hst⟩:=GQ (ty:=ty) (cc:=c2) hT q1 g1 hnews (g2 w) (by simpa using hn) (by simpa using hlt2) (by omega);rw[List.append_nil]at hst;have hfin:=(hm w' _ hst).perm (eraseIdx_set (L.set k (sl (some ⟨g,o,none⟩) c1 m1)) k _ (eF hi1));rw[List.set_set]at hfin;rw[had]at e2;subst e2;refine LW.run (v:=.slice (some ⟨g,o,none⟩) (m1++m2).length c1) ?_ hd (h w' hfin);simp only[execOp,resolve,invoke,builtin,Sem.run_bind,Sem.run_pure,Result.andThen_ok,List.map_toArray,List.map_cons,List.map_nil,hx,hy,hr]
theorem LW.Rb{t:TypeId}{x:Operand}{k:Nat}{a:Option Addr}{c kk ck:Nat}{l:List α}(hT:jI P t α)(hS:St w0 F0 w L)(hi:L[k]?=some (sl a c l))(hx:ev e x=.slice (lL a c l.length (dp.sz α)) kk ck)(hk:0<kk)(hroom:l.length+kk<=c)
    (h:∀w':World,St w0 F0 w' L->LW P n ops Q rest e w') :
    LW P n ops Q (⟨none,.call { callee:=.builtin .clear,args:=#[x],argTypes:=#[t] },ty,pos,aft,none⟩::rest) e w:=by
  obtain⟨g,o,rfl⟩:∃g o,a=some ⟨g,o,none⟩:=by
    obtain⟨F,hF,_,_⟩:=hS.own;obtain⟨Fi,q,_⟩:=hF.at_ k hi
    rcases q with⟨_,hc,_,_⟩|⟨g,o,_,_,ha,_⟩
    · omega
    · exact⟨g,o,ha⟩
  have hsub:lL (some (⟨g,o,none⟩:Addr)) c l.length (dp.sz α)=some ⟨g,o+l.length*dp.sz α,none⟩:=by
    unfold lL;rw[if_neg (by omega)];simp[add_lit]
  rw[hsub]at hx;have h':St w0 F0 w ([sl (some ⟨g,o,none⟩) c l]++L.eraseIdx k):=hS.front k hi;obtain⟨F,hF,hn,hlt2,_,_,hm⟩:=h'.share;obtain⟨F1,F2,rfl,q1,q2⟩:=hF;cases(show F2=[] from q2);rw[List.append_nil]at hn hlt2 hm;obtain⟨w',hr,hst⟩:=Gs (ty:=ty) (ck:=ck) hT q1 hlt2 hn hk hroom;have hfin:=(hm w' _ hst).perm (eraseIdx_set L k _ (eF hi));rw[Ka hi]at hfin;intro a ha;refine wpList_plain rfl fun K hK=>?_;unfold Oper.wp;rw[ha.eval]
  have hr2:(execOp (ev e) ⟨none,.call { callee:=.builtin .clear,args:=#[x],argTypes:=#[t] },ty,pos,aft,none⟩).run P w=.ok (.value (.tuple #[])) w':=by
    simp only[execOp,resolve,invoke,builtin,Sem.run_bind,Sem.run_pure,Result.andThen_ok,List.map_toArray,List.map_cons,List.map_nil,hx,hr]
  rw[hr2];exact hK _ _ (h w' hfin _ ha)
end
theorem NL{β:Type}{l m0 m1 m2:List β}{i j:Int}(h0:Kx.sub l i j=some m0)(hij:(i==j)=false)(h1:Kx.sub l 0 i=some m1)(h2:Kx.sub l j (l.length:Int)=some m2):(m1++m2).length<l.length:=by
  have hij:i ≠ j:=by simpa using hij
  obtain⟨b0,b1,b2,_,_⟩:=pc h0;obtain⟨_,_,_,_,z1⟩:=pc h1;obtain⟨_,_,_,_,z2⟩:=pc h2;rw[List.length_append];omega
section
variable {α:Type} [dp α] {P:Program} {n:Nat} {Q:iO} {e:Env} {w w0:World} {F0:List Nat} {L:List Item} {ops:Array Oper} {rest:List Oper} {ty:TypeId} {pos:String} {aft:Array Edge} {d:Nat}
end
section
variable {α:Type} [dp α] {P:Program} {n:Nat} {Q:iO} {e:Env} {w w0:World} {F0:List Nat} {L:List Item} {ops:Array Oper} {rest:List Oper} {ty:TypeId} {pos:String} {aft:Array Edge} {d:Nat}
def Raw(α:Type)[dp α]:Type:={v:List Value // v.length=dp.sz α/\∀u,u∈v->u.oneCell'=true}
instance:dp (Raw α) where
  ty:=dp.ty α
  sz:=dp.sz α
  zero:=⟨dp.zc α,dp.eQ (dp.fh (α:=α) default),dp.gG (dp.fh (α:=α) default)⟩
  zc:=dp.zc α
  pos:=dp.pos
  rd _ _ cs x:=cs=x.1
  own _ cs F x:=cs=x.1/\F=[]
  iG:=by intro _ _ _ x h;rw[h];exact x.2.1
  eQ:=by intro _ _ _ x h;rw[h.1];exact x.2.1
  gW h _:=h
  gV h _:=h
  fN h _:=h
  iQ h _:=h.1
  gG:=by intro _ _ _ x h;rw[h.1];exact x.2.2
  fh _:=⟨rfl,rfl⟩
def DL(S:Nat->Prop)(wB:World)(cr:List (Raw α))(l:List α):Prop:=cr.length=l.length/\∀(k:Nat) (x:α),l[k]?=some x->∃v,cr[k]?=some v/\dp.rd S wB v.1 x
def Cr(S:Nat->Prop)(wB:World)(a:Option Addr)(c:Nat)(l:List α):Item :=
  ⟨fun w F=>∃cr:List (Raw α),DL S wB cr l/\jA w a c F cr,fun _ _ _ ⟨cr,h1,h2⟩ hb=>⟨cr,h1,h2.frame hb⟩⟩
theorem Fg{w:World}:∀{cr dr:List (Raw α)} {cs:List Value} {F G:List Nat},fQ w cs F cr->fQ w cs G dr->cr.length=dr.length->cr=dr
  | [],[],_,_,_,_,_,_=>rfl
  | [],_::_,_,_,_,_,_,h=>by simp at h
  | _::_,[],_,_,_,_,_,h=>by simp at h
  | x::cr,y::dr,cs,F,G,⟨c1,c2,F1,F2,e1,_,⟨h1,_⟩,h2⟩,⟨d1,d2,G1,G2,e2,_,⟨k1,_⟩,k2⟩,h=>by
    rw[e1]at e2;obtain⟨q1,q2⟩:=List.append_inj e2 (by rw[h1,k1,x.2.1,y.2.1]);subst q2;have:x=y:=Subtype.ext (by rw[<- h1, <- k1,q1]);rw[this,Fg h2 k2 (by simpa using h)]
theorem La{a:Option Addr}{c:Nat}{F G:List Nat}{cr dr:List (Raw α)}(h:jA w a c F cr)(k:jA w a c G dr)(e:cr.length=dr.length):cr=dr:=by
  rcases h with⟨_,_,h1,_⟩|⟨g,o,cur,F',ha,hg,_,_,_,_,he⟩
  · subst h1
    symm
    exact List.length_eq_zero_iff.1 (by simpa using e.symm)
  · rcases k with⟨_,_,k1,_⟩|⟨g',o',cur',G',ha',hg',_,_,_,_,he'⟩
    · subst k1;exact List.length_eq_zero_iff.1 (by simpa using e)
    · rw[ha]at ha';cases ha';rw[hg]at hg';cases hg';exact Fg he he' e
theorem St.PS{S:Nat->Prop}{wB:World}{i:Nat}{a:Option Addr}{c:Nat}{l:List α}(hS:St w0 F0 w L)(hi:L[i]?=some (Cr S wB a c l)):∃cr:List (Raw α),DL S wB cr l/\St w0 F0 w (L.set i (sl a c cr)):=by
  obtain⟨F,hF,_,_⟩:=hS.own;obtain⟨Fi,⟨cr,hr,ho⟩,_⟩:=hF.at_ i hi;refine⟨cr,hr,hS.setAt hi fun G hG hn hlt=>?_⟩;obtain⟨dr,kr,ko⟩:=hG;have e:=La ho ko (hr.1.trans kr.1.symm);subst e;exact St.init ⟨G,[],by simp,ko,rfl⟩ hn hlt
theorem St.OP{S:Nat->Prop}{wB:World}{i:Nat}{a:Option Addr}{c:Nat}{l:List α}{cr:List (Raw α)}(hS:St w0 F0 w (L.set i (sl a c cr)))(hi:i<L.length)(hr:DL S wB cr l):St w0 F0 w (L.set i (Cr S wB a c l)):=by
  have:=hS.setAt (i:=i) (x:=sl a c cr) (y:=Cr S wB a c l) (by rw[List.getElem?_set_self hi]) fun G hG hn hlt=>St.init ⟨G,[],by simp,⟨cr,hr,hG⟩,rfl⟩ hn hlt
  rwa[List.set_set]at this
theorem St.Rm{S:Nat->Prop}{wB:World}(i:Nat){a:Option Addr}{c:Nat}(hS:St w0 F0 w L)(hi:L[i]?=some (sl a c ([]:List α))):St w0 F0 w (L.set i (Cr S wB a c ([]:List α))) :=
  hS.setAt hi fun G hG hn hlt=>St.init ⟨G,[],by simp,⟨[],⟨rfl,fun k x h=>by simp at h⟩,by
    rcases hG with⟨h1,h2,_,h4⟩|⟨g,o,cur,F',ha,hg,hs,h1,h2,hF,he⟩
    · exact .inl ⟨h1,h2,rfl,h4⟩
    · exact .inr ⟨g,o,cur,F',ha,hg,hs,h1,h2,hF,he⟩⟩,rfl⟩ hn hlt
theorem St.Q4{i:Nat}{a:Option Addr}{c:Nat}{l:List α}(hS:St w0 [] w L)(hi:L[i]?=some (Cr (eJ w0 []) w0 a c l)):dX (eJ w []) w a c l:=by
  obtain⟨F,hF,_,hb⟩:=hS.own;obtain⟨Fi,⟨cr,hr,ho⟩,q2⟩:=hF.at_ i hi;have hrd:dX (eJ w []) w a c cr:=ho.rd fun b h=>⟨(hb b (q2 b h)).2,by simp⟩;refine⟨by rw[<- hr.1];exact hrd.le,hrd.cap,fun hne=>?_⟩;obtain⟨b,o,ha,h1,h2⟩:=hrd.cells (fun q=>hne (List.length_eq_zero_iff.1 (by rw[<- hr.1,q];rfl)));refine⟨b,o,ha,h1,fun k x hx=>?_⟩;obtain⟨v,hv1,hv2⟩:=hr.2 k x hx;obtain⟨cs,k1,k2⟩:=h2 k v hv1;have k1:cs=v.1:=k1;subst k1;exact⟨v.1,dp.gV (dp.gW hv2 fun b h=>hS.same b h.1 h.2) fun b h=>⟨Nat.lt_of_lt_of_le h.1 hS.size,by simp⟩,k2⟩
theorem LW.Qt{S:Nat->Prop}{wB:World}{t:TypeId}{x s:Operand}{vs:List Value}{i j g:Nat}{a:Option Addr}{c:Nat}{l l':List α}{y:α}(hT:jI P t α)
    (hs:ev e s=.slice a l.length c) (hx:ev e x=.slice (some ⟨g,0,none⟩) 1 1) (hl:app l [y]=some l')
    (hS:St w0 F0 w L) (hi:L[i]?=some (Cr S wB a c l)) (hj:L[j]?=some (bx g (dp.ty α) vs)) (hij:Nat.beq i j=false) (hv:dp.rd S wB vs y) (h1:vs.all (·.oneCell')=true) (hd:Nat.ble (d+1) n=true)
    (h:∀(a':Option Addr) (c':Nat) (w':World),St w0 F0 w' (L.set i (Cr S wB a' c' l'))->LW P n ops Q rest (im e d (.slice a' l'.length c')) w') :
    LW P n ops Q (⟨some d,.call { callee:=.builtin .append,args:=#[s,x],argTypes:=#[t,t] },ty,pos,aft,none⟩::rest) e w:=by
  obtain⟨cr,hr,hS'⟩:=hS.PS hi
  have hij:i ≠ j:=fun q=>by subst q;rw[Nat.beq_refl]at hij;cases hij
  have hil:=eF hi;unfold app at hl;split at hl
  case isFalse=>cases hl
  case isTrue hbig =>
  cases hl
  let yr:Raw α:=⟨vs,dp.iG hv,List.all_eq_true.1 h1⟩
  have hr':DL S wB (cr++[yr]) (l++[y]):=by
    refine⟨by simp[hr.1],fun k z hz=>?_⟩
    rcases Nat.lt_or_ge k l.length with q|q
    · rw[List.getElem?_append_left q]at hz;obtain⟨v,v1,v2⟩:=hr.2 k z hz;exact⟨v,by rw[List.getElem?_append_left (by rw[hr.1];exact q)];exact v1,v2⟩
    · rw[List.getElem?_append_right q]at hz
      have:k-l.length=0:=by
        have:=eF hz;simp at this;omega
      rw[this]at hz;cases hz;exact⟨yr,by rw[List.getElem?_append_right (by rw[hr.1];exact q),hr.1,this];rfl,hv⟩
  have ha:app cr [yr]=some (cr++[yr]):=by
    unfold app;rw[if_pos (by rw[hr.1];exact hbig)]
  have hT':jI P t (Raw α):=⟨hT.zu,hT.info⟩;refine LW.BU (α:=Raw α) (M:=[]) (L:=L.set i (sl a c cr)) (vs:=vs) (i:=i) (j:=j) (y:=yr) hT' (by rw[hs,hr.1]) hx ha hS' (by rw[List.getElem?_set_self hil]) (by rw[List.getElem?_set_ne hij];exact hj) (fun w G hG=>⟨rfl,hG⟩) hd fun a' c' w' hS'' _=>?_;rw[List.set_set]at hS'';have:=h a' c' w' (hS''.OP hil hr')
  rwa[show(l++[y]).length=(cr++[yr]).length from hr'.1.symm]at this
end
end Go.Kx
