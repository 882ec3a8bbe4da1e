import Derived.Test.YtfmfgnhbgcjajaaGreatOps
namespace Go.Kx
open Go Go.RowKit
set_option linter.unusedVariables false
set_option linter.unusedSimpArgs false
theorem EU(zc:List Value)(hz:0<zc.length):∀(m j:Nat),j<m*zc.length->(List.replicate m zc).flatten[j]?=zc[j % zc.length]?
  | 0,j,h=>by simp at h
  | m+1,j,h=>by
    rw[List.replicate_succ,List.flatten_cons]
    by_cases hj:j<zc.length
    · rw[List.getElem?_append_left hj,Nat.mod_eq_of_lt hj]
    · rw[List.getElem?_append_right (by omega),EU zc hz m (j-zc.length) (by rw[Nat.succ_mul]at h;omega)];congr 1;rw[Nat.mod_eq_sub_mod (by omega:j>=zc.length)]
section
variable {P:Program} {w0 w:World} {F0:List Nat} {L M:List Item} {α:Type} [dp α]
variable {n:Nat} {Q:iO} {e:Env} {ops:Array Oper} {rest:List Oper} {ty:TypeId} {pos:String} {aft:Array Edge} {d:Nat} {v:Value}
theorem LW.uR{t:TypeId}{x y:Operand}{av:Option Nat}{i:Nat}{g o0 off:Nat}{c:Nat}{l:List α}{k:Int}{z z':α}{o:Nat}{vs:Array Value}
    (hS:St w0 F0 w (M++L)) (hi:L[i]?=some (sl (some ⟨g,o0,none⟩) c l)) (hk:idx l k=some z) (ht:fx P t=some av) (hx:ev e x=.pointer (some ⟨g,off,none⟩)) (hoff:off=o0+k.toNat*dp.sz α+o)
    (hy:(ev e y).cells=vs) (hm:vs.size=av.getD 1) (h1:vs.toList.all (·.oneCell')=true) (hold:Nat.ble (o+vs.size) (dp.sz α)=true)
    (hM:∀(w:World) (cs:List Value) (F G:List Nat),dp.own w cs F z->eH M w G->∃F',dp.own w (cs.take o++vs.toList++cs.drop (o+vs.toList.length)) F' z'/\(∀b,b∈F'->b∈F\/b∈G)/\(F.Nodup->G.Nodup->(∀b,b∈F->b∉G)->F'.Nodup))
    (h:∀w':World,St w0 F0 w' (L.set i (sl (some ⟨g,o0,none⟩) c (l.set k.toNat z')))->Fr w w' [g]->LW P n ops Q rest e w'):LW P n ops Q (⟨none,.store t x y,ty,pos,aft,none⟩::rest) e w:=by
  have hold:=Nat.le_of_ble_eq_true hold;obtain⟨g',o0',cur,ha,h0,hlt,hg,hsz,hst⟩:=St.KA (o:=o) (vs:=vs.toList) hS hi hk (by simpa using hold) hM;cases ha;subst hoff;have hr:=run_storeCells_at P g (o0+k.toNat*dp.sz α+o) (dp.ty α) vs.toList 0 cur w hg (by simpa using hsz) (fun u hu=>List.all_eq_true.1 h1 u hu);simp only[Nat.add_zero]at hr;refine LW.B2 (w':=w.setRow g (vq cur (o0+k.toNat*dp.sz α+o) vs.toList)) ?_ (h _ hst ⟨by simp,fun b _ hb=>setRow_other w g b _ (by simpa using hb)⟩);have:=nX (w:=w) ht;simp[execOp,Instr.storeAt,Instr.sureAddr,hx,storeVar,hy,hm,this.2,hr,vq]
theorem LW.mk{t:TypeId}{x y:Operand}{m:Int}{l:List α}(hT:jI P t α)(hx:ev e x=.int .i64 m)(hy:ev e y=.int .i64 m)(hl:Kx.mk α m=some l)(hS:St w0 F0 w L)(hd:Nat.ble (d+1) n=true)
    (h:∀(a:Option Addr) (c:Nat) (w':World),St w0 F0 w' (sl a c l::L)->Fr w w' []->LW P n ops Q rest (im e d (.slice a l.length c)) w'):LW P n ops Q (⟨some d,.makeSlice t x y,ty,pos,aft,none⟩::rest) e w:=by
  unfold Kx.mk at hl;split at hl
  case isFalse=>cases hl
  case isTrue hb =>
  obtain⟨h0,hb⟩:=hb;cases hl;obtain⟨i,z,hi,hz,hs,hby,hzc⟩:=hT.info;unfold df at hb
  have hbytes:(i.bytes:Int)*m<=281474976710656:=by
    have h1:(i.bytes:Int)*m<=4096*16777216:=Int.mul_le_mul (by omega) (by omega) h0 (by omega);omega
  have hr:=run_make (P:=P) w t _ i z hT.zu hi hz .i64 .i64 m m h0 (Int.le_refl _) hbytes (by omega);have hh:=h (some ⟨w.heap.size,0,none⟩) m.toNat (w.alloc (.cells (madeCells z.cells (m.toNat*i.size)) (dp.ty α)));simp only[List.length_replicate]at hh
  have hrun:(execOp (ev e) ⟨some d,.makeSlice t x y,ty,pos,aft,none⟩).run P w=.ok (.value (.slice (some ⟨w.heap.size,0,none⟩) m.toNat m.toNat)) (w.alloc (.cells (madeCells z.cells (m.toNat*i.size)) (dp.ty α))):=by
    simp[execOp,hx,hy,hr]
  refine LW.run hrun hd (hh (St.add (M:=[_]) hS ?_) ⟨by simp,fun b hb _=>Below.heap_alloc w _ b hb⟩)
  have hlen:∀u,u∈List.replicate m.toNat (dp.zc α)->u.length=dp.sz α:=by
    intro u hu;rw[(List.mem_replicate.1 hu).2];exact dp.eQ (dp.fh w)
  have hcells:(madeCells z.cells (m.toNat*i.size)).toList=(List.replicate m.toNat (dp.zc α)).flatten:=by
    have hzl:z.cells.size=dp.sz α:=by rw[<- Array.length_toList,hzc];exact dp.eQ (dp.fh w)
    apply List.ext_getElem?;intro j;have hz0:=dp.pos (α:=α)
    have hfl:(List.replicate m.toNat (dp.zc α)).flatten.length=m.toNat*dp.sz α:=by
      simp[List.length_flatten,dp.eQ (dp.fh w)]
    by_cases hj:j<m.toNat*dp.sz α
    · have hfr:=EU (dp.zc α) (by rw[dp.eQ (dp.fh w)];exact hz0) m.toNat j (by rw[dp.eQ (dp.fh w)];exact hj);rw[hfr,dp.eQ (dp.fh w)]
      have hjm:j % dp.sz α<z.cells.size:=by rw[hzl];exact Nat.mod_lt _ hz0
      simp only[madeCells,hs,hzl,Array.toList_map,Array.toList_range,List.getElem?_map,List.getElem?_range hj,Option.map_some];rw[<- hzc,Array.getElem?_toList,Array.getElem?_eq_getElem hjm,getElem!_pos z.cells _ hjm]
    · rw[List.getElem?_eq_none (by simp[madeCells,hs];omega),List.getElem?_eq_none (by omega)]
  refine⟨rfl,rfl,rfl,by simp,fun b hb _=>Below.heap_alloc w _ b hb,[w.heap.size],⟨[w.heap.size],[],rfl,.inr ⟨_,0,_,_,rfl,heap_alloc_new w _,?_,by simp,by unfold maxLen;omega,rfl,?_⟩,rfl⟩,by simp,by simp⟩
  · rw[<- Array.length_toList,hcells];simp[List.length_flatten,dp.eQ (dp.fh w)]
  · rw[List.drop_zero,hcells];exact fQ.IQ _
theorem St.vW{F G:List Nat}{w':World}{M:List Item}(hs:w.heap.size<=w'.heap.size)(ho:w'.os=w.os)(ht:w'.tape=w.tape)(hu:w'.output=w.output)
    (hsame:∀b,b<w.heap.size->b∉F->w'.heap[b]?=w.heap[b]?) (hM:eH M w' G) (hn:G.Nodup) (hG:∀b,b∈G->(b∈F\/w.heap.size<=b)/\b<w'.heap.size):St w F w' M :=
  ⟨ho,ht,hu,hs,hsame,G,hM,hn,hG⟩
theorem vd{t ty:TypeId}(hT:jI P t α){a:Option Addr}{c:Nat}{F G:List Nat}{l ys:List α}(ho:jA w a c F l){ad:Addr}{cc:Nat}{news:List Value}
    (hl:news.length=ys.length*dp.sz α) (hnews:∀(j:Nat) (u:Value),news[j]?=some u->w.cell? (ad.add j)=some u) (hels:fQ w news G ys)
    (hn:(F++G).Nodup) (hlt:∀b,b∈F++G->b<w.heap.size) (hb:l.length+ys.length<df) :
    ∃a' c' w',(Builtin.append_ #[t,t] ty #[.slice a l.length c,.slice (some ad) ys.length cc]).run P w=.ok (.slice a' (l++ys).length c') w'/\St w (F++G) w' [sl a' c' (l++ys)]/\Fr w w' ((a.map (·.block)).toList):=by
  obtain⟨i,z,hi,hz,hs,hby,hzc⟩:=hT.info;unfold df at hb
  have hzl:z.cells.size=dp.sz α:=by rw[<- Array.length_toList,hzc];exact dp.eQ (dp.fh w)
  have h1:∀u,u∈news->u.oneCell'=true:=fun u hu=>fQ.one hels u (by rw[<- hl,List.take_length];exact hu);obtain⟨n1,n2,nd⟩:=List.nodup_append.1 hn
  have hby2:(l.length+ys.length)*i.bytes<=140737488355328:=by
    have:(l.length+ys.length)*i.bytes<=16777216*4096:=Nat.mul_le_mul (by omega) hby;omega
  have hmx:l.length+ys.length<=maxLen:=by unfold maxLen;omega
  -- what the growing arm leaves
  have grown:∀(xs:List Value) (F':List Nat) (iu:Nat),fQ w xs F' l->xs.length=l.length*dp.sz α->(∀b,b∈F'->b∈F)->F'.Nodup->iu<l.length+ys.length ->
      St w (F++G) (w.drew.alloc (.cells (xs.toArray++news.toArray++Builtin.zeroCells z.cells (grownCap w (l.length+ys.length) iu (dp.ty α)-(l.length+ys.length))) (dp.ty α)))
        [sl (some ⟨w.heap.size,0,none⟩) (grownCap w (l.length+ys.length) iu (dp.ty α)) (l++ys)]:=by
    intro xs F' iu hex hxl hF' nF' hold;have hge:=grownCap_ge w (l.length+ys.length) iu (dp.ty α);have hcm:grownCap w (l.length+ys.length) iu (dp.ty α)<=maxLen:=grownCap_le_maxLen w (l.length+ys.length) iu (dp.ty α) hmx
    have hblk:∀k,k<w.heap.size->(w.drew.alloc (.cells (xs.toArray++news.toArray++Builtin.zeroCells z.cells (grownCap w (l.length+ys.length) iu (dp.ty α)-(l.length+ys.length))) (dp.ty α))).heap[k]?=w.heap[k]? :=
      fun k hk=>heap_alloc_old w.drew _ hk
    refine St.vW (G:=w.heap.size::(F'++G)) (by simp) rfl rfl rfl (fun b hbl _=>hblk b hbl)
      ⟨w.heap.size::(F'++G),[],by simp,.inr ⟨w.heap.size,0,_,F'++G,rfl,heap_alloc_new w.drew _,?_,by simpa using hge,hcm,rfl,?_⟩,rfl⟩ ?_ ?_
    · simp only[Array.size_append,List.size_toArray,size_zeroCells,hzl,hxl,hl, <- Nat.add_mul,Nat.zero_add];refine Nat.mul_le_mul_right _ ?_;omega
    · rw[List.drop_zero];simp only[Array.toList_append,List.append_assoc];rw[<- List.append_assoc];refine fQ.more (fQ.append.2 ⟨xs,news,F',G,rfl,rfl,hxl,hex.frame (fun b h=>hblk b (hlt b (List.mem_append_left _ (hF' b h)))),hels.frame (fun b h=>hblk b (hlt b (List.mem_append_right _ h)))⟩) _
    · refine List.nodup_cons.2 ⟨fun hm=>?_,List.nodup_append.2 ⟨nF',n2,fun a ha b hb e=>nd a (hF' a ha) b hb e⟩⟩
      have:w.heap.size∈F++G:=by
        rcases List.mem_append.1 hm with h|h
        · exact List.mem_append_left _ (hF' _ h)
        · exact List.mem_append_right _ h
      have:=hlt _ this;omega
    · intro b hbm
      rcases List.mem_cons.1 hbm with rfl|hbm
      · exact⟨.inr (Nat.le_refl _),by simp⟩
      · have:b∈F++G:=by
          rcases List.mem_append.1 hbm with h|h
          · exact List.mem_append_left _ (hF' _ h)
          · exact List.mem_append_right _ h
        exact⟨.inl this,Nat.lt_of_lt_of_le (hlt b this) (by simp)⟩
  rcases ho with⟨rfl,rfl,rfl,rfl⟩|⟨g,o,cur,F',rfl,hg,hs',k1,k2,rfl,he⟩
  · by_cases hm:ys.length=0
    · have hy0:ys=[]:=List.eq_nil_of_length_eq_zero hm;subst hy0;refine⟨none,0,w,?_,St.vW (G:=[]) (Nat.le_refl _) rfl rfl rfl (fun _ _ _=>rfl) ⟨[],[],rfl,.inl ⟨rfl,rfl,rfl,rfl⟩,rfl⟩ List.nodup_nil (by simp),⟨Nat.le_refl _,fun _ _ _=>rfl⟩⟩;simp[Builtin.append_,run_underlying hT.zu,sizeOf,typeInfo,hi,Builtin.lenOf,Builtin.firstCells,loadCells,loadCellsFrom]
    · have hr:=run_append_nil (P:=P) w t ty (dp.ty α) i z hT.zu hi hz ad ys.length cc news (by rw[hs];exact hl) hnews (by omega) (by unfold maxLen at hmx;simp at hmx;omega) (by have hb:=hby2;simp only[List.length_nil,Nat.zero_add]at hb;omega);have hg:=grown [] [] 0 rfl (by simp) (by simp) List.nodup_nil (by simp;omega);simp only[List.length_nil,Nat.zero_add,List.nil_append]at hr hg⊢;exact⟨_,_,_,hr,by simpa using hg,⟨by simp,fun b hb _=>heap_alloc_old w.drew _ hb⟩⟩
  · obtain⟨q1,q2⟩:=he.take;obtain⟨m1,m2⟩:=List.nodup_cons.1 n1
    have hdl:(cur.toList.drop o).length=cur.size-o:=by rw[List.length_drop,Array.length_toList]
    by_cases hroom:l.length+ys.length<=c
    · have hfit:o+l.length*dp.sz α+news.length<=cur.size:=by
        have:(l.length+ys.length)*dp.sz α<=c*dp.sz α:=Nat.mul_le_mul_right _ hroom;rw[Nat.add_mul]at this;omega
      have hfc:=run_firstCells_some (P:=P) w (dp.sz α) ys.length ad ys.length cc news hl hnews;have hst:=run_storeCells_at P g (o+l.length*dp.sz α) (dp.ty α) news 0 cur w hg (by simpa using hfit) (fun u hu=>h1 u hu);simp only[Nat.add_zero]at hst;refine⟨some ⟨g,o,none⟩,c,w.setRow g (cur.toList.take (o+l.length*dp.sz α)++news++cur.toList.drop (o+l.length*dp.sz α+news.length)).toArray,?_,?_,⟨by simp,fun b _ hb=>setRow_other w g b _ (by simpa using hb)⟩⟩
      · simp[Builtin.append_,run_underlying hT.zu,sizeOf,typeInfo,hi,Builtin.lenOf,hroom,hs,hfc,add_lit,hst]
      · have hoth:∀b,b ≠ g->(w.setRow g (cur.toList.take (o+l.length*dp.sz α)++news++cur.toList.drop (o+l.length*dp.sz α+news.length)).toArray).heap[b]?=w.heap[b]?:=fun b hb=>setRow_other w g b _ hb
        refine St.vW (G:=g::(F'++G)) (by simp) rfl rfl rfl (fun b _ hno=>hoth b fun e=>hno (by simp[e]))
          ⟨g::(F'++G),[],by simp,.inr ⟨g,o,_,F'++G,rfl,setRow_heap w g cur _ _ _ hg,?_,by simpa using hroom,k2,rfl,?_⟩,rfl⟩ ?_ ?_
        · simp only[List.size_toArray,List.length_append,List.length_take,List.length_drop,Array.length_toList];omega
        · have e:(cur.toList.take (o+l.length*dp.sz α)++news++cur.toList.drop (o+l.length*dp.sz α+news.length)).drop o=((cur.toList.drop o).take (l.length*dp.sz α)++news)++cur.toList.drop (o+l.length*dp.sz α+news.length):=by
            rw[List.append_assoc,List.drop_append_of_le_length (by have hcl:cur.toList.length=cur.size:=Array.length_toList;rw[List.length_take];omega),List.drop_take,Nat.add_sub_cancel_left, <- List.append_assoc]
          simp only[List.toList_toArray]at e⊢;rw[e];refine fQ.more (fQ.append.2 ⟨_,news,F',G,rfl,rfl,by rw[List.length_take];omega,q1.frame (fun b h=>hoth b fun e=>m1 (e ▸ h)),hels.frame (fun b h=>hoth b fun e=>nd g (by simp) b h e.symm)⟩) _
        · refine List.nodup_cons.2 ⟨fun hm=>?_,List.nodup_append.2 ⟨m2,n2,fun a ha b hb e=>nd a (by simp[ha]) b hb e⟩⟩
          rcases List.mem_append.1 hm with h|h
          · exact m1 h
          · exact nd g (by simp) g h rfl
        · intro b hbm
          have:b∈(g::F')++G:=by simpa using hbm
          exact⟨.inl this,by simpa using hlt b this⟩
    · have holds:∀(j:Nat) (u:Value),((cur.toList.drop o).take (l.length*dp.sz α))[j]?=some u->w.cell? ((⟨g,o,none⟩:Addr).add j)=some u:=by
        intro j u hu;rw[List.getElem?_take]at hu;split at hu
        · rw[List.getElem?_drop]at hu;rw[add_lit,cell_of_row w g (o+j) cur _ (0,0) hg];simpa using hu
        · cases hu
      have hxl:((cur.toList.drop o).take (l.length*dp.sz α)).length=l.length*dp.sz α:=by rw[List.length_take];omega
      have hr:=run_append_grow (P:=P) w t ty (dp.ty α) i z hT.zu hi hz ⟨g,o,none⟩ l.length c _ (by rw[hs];exact hxl) holds ad ys.length cc news (by rw[hs];exact hl) hnews (by omega) (by unfold maxLen at hmx;omega) (growslice_fits (by omega) hby2);exact⟨_,_,_,by rw[List.length_append];exact hr,grown _ F' c q1 hxl (fun b h=>by simp[h]) m2 (by omega),⟨by simp,fun b hb _=>heap_alloc_old w.drew _ hb⟩⟩
def yj(P:Program)(t:TypeId)(len:Nat)(parts:List (Nat×Value)):Option (TypeId×Array Value) :=
  match P.underlying t with
  | some (.slice el) =>
    match P.info? el with
    | some i =>
      match i.zero with
      | some z=>if len*i.size>16777216 then none else
        (Instr.fill (fun k=>some (k*i.size,i.size)) ((Array.range (len*i.size)).map ((if len*i.size=0 then #[]else z.cells)[· % (if len*i.size=0 then #[]else z.cells:Array Value).size]!)) parts).map fun cs=>(el,cs)
      | none=>none
    | none=>none
  | _=>none
theorem BG{t el:TypeId}{len:Nat}{parts:Array (Nat×Value)}{cs:Array Value}(h:yj P t len parts.toList=some (el,cs)):
    (Instr.buildSlice t len parts).run P w=.ok (.slice (some ⟨w.heap.size,0,none⟩) len len) (w.alloc (.cells cs el)):=by
  unfold yj at h;split at h
  · rename_i el' hu;split at h
    · rename_i i hi;split at h
      · rename_i z hz;split at h
        · cases h
        · rename_i hsm;have hsm':¬ 16777216<len*i.size:=hsm
          cases hf:Instr.fill (fun k=>some (k*i.size,i.size)) ((Array.range (len*i.size)).map ((if len*i.size=0 then #[]else z.cells)[· % (if len*i.size=0 then #[]else z.cells:Array Value).size]!)) parts.toList with
          | none=>rw[hf]at h;cases h
          | some cs' =>
            rw[hf]at h;simp only[Option.map_some,Option.some.injEq,Prod.mk.injEq]at h;obtain⟨rfl,rfl⟩:=h
            by_cases h0:len*i.size=0
            · simp[h0]at hf;simp[Instr.buildSlice,run_underlying hu,sizeOf,typeInfo,hi,h0,hf,newRow]
            · simp only[h0,if_false]at hf;simp[Instr.buildSlice,run_underlying hu,sizeOf,typeInfo,hi,hsm',h0,zeroValue,hz,hf,newRow]
      · cases h
    · cases h
  · cases h
theorem LW.wX{t:TypeId}{len:Nat}{parts:Array (Nat×Operand)}{vs:List (Nat×Value)}{cs:Array Value}{l:List α}(hp:parts.toList.map (fun p=>(p.1,ev e p.2))=vs)(hb:yj P t len vs=some (dp.ty α,cs))
    (hl:l.length=len) (hcs:cs.size=len*dp.sz α) (hL:Nat.ble len 65536=true) (hels:∀w:World,fQ w cs.toList [] l) (hS:St w0 F0 w L) (hd:Nat.ble (d+1) n=true)
    (h:∀(a:Option Addr) (c:Nat) (w':World),St w0 F0 w' (sl a c l::L)->Fr w w' []->LW P n ops Q rest (im e d (.slice a l.length c)) w'):LW P n ops Q (⟨some d,.buildSlice t len parts,ty,pos,aft,none⟩::rest) e w:=by
  have hp':(parts.map fun(i,x)=>(i,ev e x)).toList=vs:=by rw[<- hp];simp
  subst hp';subst hl;have hL:=Nat.le_of_ble_eq_true hL
  have hrun:(execOp (ev e) ⟨some d,.buildSlice t l.length parts,ty,pos,aft,none⟩).run P w=.ok (.value (.slice (some ⟨w.heap.size,0,none⟩) l.length l.length)) (w.alloc (.cells cs (dp.ty α))):=by
    have:=BG (P:=P) (w:=w) hb;simp only[execOp,Sem.run_bind,this,Result.andThen_ok];rfl
  refine LW.run hrun hd (h _ _ _ (St.add (M:=[_]) hS ?_) ⟨by simp,fun b hb _=>Below.heap_alloc w _ b hb⟩);exact⟨rfl,rfl,rfl,by simp,fun b hb _=>Below.heap_alloc w _ b hb,[w.heap.size],⟨[w.heap.size],[],rfl,.inr ⟨_,0,_,_,rfl,heap_alloc_new w _,by rw[hcs];omega,Nat.le_refl _,by unfold maxLen;omega,rfl,hels _⟩,rfl⟩,by simp,by simp⟩
theorem St.lay{w0 w w':World}{F0:List Nat}{L:List Item}(h:St w0 F0 w L)(hs:w.heap.size<=w'.heap.size)(ho:w'.os=w.os)(ht:w'.tape=w.tape)(hu:w'.output=w.output)
    (hsame:∀b,b<w.heap.size->w'.heap[b]?=w.heap[b]?):St w0 F0 w' L :=
  St.add (M:=[]) h ⟨ho,ht,hu,hs,fun b hb _=>hsame b hb,[],rfl,List.nodup_nil,by simp⟩
theorem LW.fZ{t ty2:TypeId}{pos2:String}{aft2:Array Edge}{x s:Operand}{d1:Nat}{vs:Array Value}{i:Nat}{a:Option Addr}{c:Nat}{l l':List α}{y:α}(hT:jI P t α)
    (hp:(ev e x).cells=vs) (hb:yj P t 1 [(0,ev e x)]=some (dp.ty α,vs)) (hs:ev e s=.slice a l.length c) (hs1:ev (im e d1 undef) s=ev e s) (hl:app l [y]=some l')
    (hS:St w0 F0 w (M++L)) (hi:L[i]?=some (sl a c l)) (hM:∀(w:World) (G:List Nat),eH M w G->dp.own w vs.toList G y) (hd1:Nat.ble (d1+1) n=true) (hd:Nat.ble (d+1) n=true)
    (h:∀(v1:Value) (a':Option Addr) (c':Nat) (w':World),St w0 F0 w' (L.set i (sl a' c' l'))->Fr w w' ((a.map (·.block)).toList)->LW P n ops Q rest (im (im e d1 v1) d (.slice a' l'.length c')) w') :
    LW P n ops Q (⟨some d1,.buildSlice t 1 #[(0,x)],ty2,pos2,aft2,none⟩::⟨some d,.call { callee:=.builtin .append,args:=#[s,.tmp d1],argTypes:=#[t,t] },ty,pos,aft,none⟩::rest) e w:=by
  unfold app at hl;split at hl
  case isFalse=>cases hl
  case isTrue hbig =>
  cases hl
  have hrun:(execOp (ev e) ⟨some d1,.buildSlice t 1 #[(0,x)],ty2,pos2,aft2,none⟩).run P w=.ok (.value (.slice (some ⟨w.heap.size,0,none⟩) 1 1)) (w.alloc (.cells vs (dp.ty α))):=by
    have:=BG (P:=P) (w:=w) (parts:=#[(0,ev e x)]) hb;simp[execOp,this]
  refine LW.run hrun hd1 ?_;generalize hw1:w.alloc (.cells vs (dp.ty α))=w1;have hS1:St w0 F0 w1 (M++L):=hS.lay (by subst hw1;simp) (by subst hw1;rfl) (by subst hw1;rfl) (by subst hw1;rfl) (fun b hb=>by subst hw1;exact Below.heap_alloc w _ b hb)
  have h':St w0 F0 w1 ((sl a c l::M)++L.eraseIdx i):=by
    have:=hS1.front (M.length+i) (x:=sl a c l) (by rw[List.getElem?_append_right (by omega),Nat.add_sub_cancel_left];exact hi);refine this.perm ?_
    have e:(M++L).eraseIdx (M.length+i)=M++L.eraseIdx i:=by
      rw[List.eraseIdx_append_of_length_le (by omega)];simp
    rw[e];simp
  obtain⟨F,hF,hn,hlt2,_,_,hm⟩:=h'.share;obtain⟨F1,F2,rfl,q1,q2⟩:=hF;have hy:=hM w1 F2 q2
  have hcell:∀(j:Nat) (u:Value),vs.toList[j]?=some u->w1.cell? ((⟨w.heap.size,0,none⟩:Addr).add j)=some u:=by
    intro j u hu;subst hw1;rw[add_lit,Nat.zero_add,cell_of_row _ w.heap.size j vs (dp.ty α) (0,0) (heap_alloc_new w _)];simpa using hu
  obtain⟨a',c',w',hr,hst,hfr⟩:=vd (ty:=ty) (ys:=[y]) (cc:=1) hT q1 (by rw[dp.eQ hy];simp) hcell (show fQ w1 vs.toList F2 [y] from⟨vs.toList,[],F2,[],by simp,by simp,hy,rfl⟩) hn hlt2 hbig
  have hfr1:Fr w w' ((a.map (·.block)).toList):=⟨Nat.le_trans (by subst hw1;simp) hfr.size,fun b hb hno=>by
    rw[hfr.same b (by subst hw1;simp;omega) hno];subst hw1
    exact Below.heap_alloc w _ b hb⟩
  refine LW.run (v:=.slice a' (l++[y]).length c') ?_ hd (h _ a' c' w' ((hm w' _ hst).perm (eraseIdx_set L i _ (eF hi))) hfr1)
  have hs2:ev (im e d1 (.slice (some ⟨w.heap.size,0,none⟩) 1 1)) s=.slice a l.length c:=by
    cases s with
    | tmp t' =>
      simp only[ev]at hs hs1⊢
      have:Nat.beq t' d1=false:=by
        cases hb:Nat.beq t' d1
        · rfl
        · simp only[im,hb,RM]at hs1;rw[hs]at hs1;cases hs1
      simp only[im,this,RL];exact hs
    | _=>exact hs
  have hx2:ev (im e d1 (.slice (some ⟨w.heap.size,0,none⟩) 1 1)) (.tmp d1)=.slice (some ⟨w.heap.size,0,none⟩) 1 1:=by
    simp only[ev,im];rw[Nat.beq_refl];rfl
  simp only[List.length_cons,List.length_nil,Nat.zero_add]at hr;simp[execOp,resolve,invoke,builtin,hs2,hx2,hr]
theorem LW.LU{t:TypeId}{x:Operand}{vs:Array Value}(hT:jI P t α)(hp:(ev e x).cells=vs)(hb:yj P t 1 [(0,ev e x)]=some (dp.ty α,vs))(hS:St w0 F0 w L)(hd:Nat.ble (d+1) n=true)
    (h:∀(g:Nat) (w':World),St w0 F0 w' (bx g (dp.ty α) vs.toList::L)->Fr w w' []->LW P n ops Q rest (im e d (.slice (some ⟨g,0,none⟩) 1 1)) w') :
    LW P n ops Q (⟨some d,.buildSlice t 1 #[(0,x)],ty,pos,aft,none⟩::rest) e w:=by
  have hrun:(execOp (ev e) ⟨some d,.buildSlice t 1 #[(0,x)],ty,pos,aft,none⟩).run P w=.ok (.value (.slice (some ⟨w.heap.size,0,none⟩) 1 1)) (w.alloc (.cells vs (dp.ty α))):=by
    have:=BG (P:=P) (w:=w) (parts:=#[(0,ev e x)]) hb;simp[execOp,this]
  refine LW.run hrun hd (h _ _ ?_ ⟨by simp,fun b hb _=>Below.heap_alloc w _ b hb⟩);have:=hS.add (E0 w (dp.ty α) vs.toList);simpa using this
theorem St.lit{g:Nat}{vs:List Value}{M:List Item}{y:α}(hS:St w0 F0 w (bx g (dp.ty α) vs::(M++L)))(hM:∀(w:World) (G:List Nat),eH M w G->dp.own w vs G y):St w0 F0 w (sl (some ⟨g,0,none⟩) 1 [y]::L):=by
  have h':St w0 F0 w ((bx g (dp.ty α) vs::M)++L):=hS;obtain⟨F,hF,hn,hlt,_,_,hm⟩:=h'.share;refine hm w [sl (some ⟨g,0,none⟩) 1 [y]] (St.init ?_ hn hlt);obtain⟨F1,F2,rfl,⟨rfl,hg⟩,q2⟩:=hF;have hy:=hM w F2 q2;refine⟨[g]++F2,[],by simp,.inr ⟨g,0,vs.toArray,F2,rfl,hg,?_,by simp,by simp[maxLen],rfl,⟨vs,[],F2,[],by simp,by simp,hy,rfl⟩⟩,rfl⟩;simp[dp.eQ hy]
theorem LW.BU{t:TypeId}{x s:Operand}{vs:List Value}{i j g:Nat}{a:Option Addr}{c:Nat}{l l':List α}{y:α}(hT:jI P t α)
    (hs:ev e s=.slice a l.length c) (hx:ev e x=.slice (some ⟨g,0,none⟩) 1 1) (hl:app l [y]=some l')
    (hS:St w0 F0 w (M++L)) (hi:L[i]?=some (sl a c l)) (hj:L[j]?=some (bx g (dp.ty α) vs)) (hM:∀(w:World) (G:List Nat),eH M w G->dp.own w vs G y) (hd:Nat.ble (d+1) n=true)
    (h:∀(a':Option Addr) (c':Nat) (w':World),St w0 F0 w' (L.set i (sl a' c' l'))->Fr w w' ((a.map (·.block)).toList)->LW P n ops Q rest (im e d (.slice a' l'.length c')) w') :
    LW P n ops Q (⟨some d,.call { callee:=.builtin .append,args:=#[s,x],argTypes:=#[t,t] },ty,pos,aft,none⟩::rest) e w:=by
  unfold app at hl;split at hl
  case isFalse=>cases hl
  case isTrue hbig =>
  cases hl;have hg:=St.cell (h:=hS) (i:=M.length+j) (by rw[List.getElem?_append_right (by omega),Nat.add_sub_cancel_left];exact hj)
  have h':St w0 F0 w ((sl a c l::M)++L.eraseIdx i):=by
    have:=hS.front (M.length+i) (x:=sl a c l) (by rw[List.getElem?_append_right (by omega),Nat.add_sub_cancel_left];exact hi);refine this.perm ?_
    have e:(M++L).eraseIdx (M.length+i)=M++L.eraseIdx i:=by
      rw[List.eraseIdx_append_of_length_le (by omega)];simp
    rw[e];simp
  obtain⟨F,hF,hn,hlt2,_,_,hm⟩:=h'.share;obtain⟨F1,F2,rfl,q1,q2⟩:=hF;have hy:=hM w F2 q2
  have hcell:∀(k:Nat) (u:Value),vs[k]?=some u->w.cell? ((⟨g,0,none⟩:Addr).add k)=some u:=by
    intro k u hu;rw[add_lit,Nat.zero_add,cell_of_row _ g k vs.toArray (dp.ty α) (0,0) hg];simpa using hu
  obtain⟨a',c',w',hr,hst,hfr⟩:=vd (ty:=ty) (ys:=[y]) (cc:=1) hT q1 (by rw[dp.eQ hy];simp) hcell (show fQ w vs F2 [y] from⟨vs,[],F2,[],by simp,by simp,hy,rfl⟩) hn hlt2 hbig;refine LW.run (v:=.slice a' (l++[y]).length c') ?_ hd (h a' c' w' ((hm w' _ hst).perm (eraseIdx_set L i _ (eF hi))) hfr);simp only[List.length_cons,List.length_nil,Nat.zero_add]at hr;simp[execOp,resolve,invoke,builtin,hs,hx,hr]
class Flat (α:Type) [dp α]:Prop where
  flat:∀{S w w' cs} {x:α},dp.rd S w cs x->dp.own w' cs [] x
theorem fQ.flat[Flat α]{S:Nat->Prop}{a:Option Addr}{c:Nat}{l:List α}(h:dX S w a c l):∃news:List Value,news.length=l.length*dp.sz α/\(∀w':World,fQ w' news [] l)/\(l ≠ []->∃b o,a=some ⟨b,o,none⟩/\∀(j:Nat) (u:Value),news[j]?=some u->w.cell? ⟨b,o+j,none⟩=some u):=by
  by_cases hne:l=[]
  · subst hne;exact⟨[],by simp,fun _=>rfl,fun h=>absurd rfl h⟩
  · obtain⟨b,o,ha,_,hc⟩:=h.cells hne
    have key:∀(m:List α) (o':Nat),(∀(k:Nat) (x:α),m[k]?=some x->∃cs,dp.rd S w cs x/\∀(j:Nat) (u:Value),cs[j]?=some u->w.cell? ⟨b,o'+k*dp.sz α+j,none⟩=some u) ->
        ∃news:List Value,news.length=m.length*dp.sz α/\(∀w':World,fQ w' news [] m)/\∀(j:Nat) (u:Value),news[j]?=some u->w.cell? ⟨b,o'+j,none⟩=some u:=by
      intro m
      induction m with
      | nil=>exact fun _ _=>⟨[],by simp,fun _=>rfl,fun j u hu=>by simp at hu⟩
      | cons x m ih =>
        intro o' hm;obtain⟨cs,h1,h2⟩:=hm 0 x rfl;have hl:=dp.iG h1
        obtain⟨news,g1,g2,g3⟩:=ih (o'+dp.sz α) (fun k y hy=>by
          obtain⟨cs',q1,q2⟩:=hm (k+1) y (by simpa using hy)
          exact⟨cs',q1,fun j u hu=>by
            have:=q2 j u hu;rw[Nat.succ_mul]at this;rw[show o'+dp.sz α+k*dp.sz α+j=o'+(k*dp.sz α+dp.sz α)+j by omega]
            exact this⟩)
        refine⟨cs++news,by simp[hl,g1,Nat.succ_mul,Nat.add_comm],fun w'=>⟨cs,news,[],[],rfl,rfl,Flat.flat h1,g2 w'⟩,fun j u hu=>?_⟩
        by_cases hj:j<cs.length
        · rw[List.getElem?_append_left hj]at hu;simpa using h2 j u hu
        · rw[List.getElem?_append_right (by omega)]at hu;have:=g3 _ u hu;rw[show o'+j=o'+dp.sz α+(j-cs.length) by omega];exact this
    obtain⟨news,g1,g2,g3⟩:=key l o hc;exact⟨news,g1,g2,fun _=>⟨b,o,ha,g3⟩⟩
theorem AQ{t ty:TypeId}(hT:jI P t α){a:Option Addr}{c cc:Nat}{F:List Nat}{l:List α}(ho:jA w a c F l):(Builtin.append_ #[t,t] ty #[.slice a l.length c,.slice none 0 cc]).run P w=.ok (.slice a l.length c) w:=by
  obtain⟨i,z,hi,hz,hs,hby,hzc⟩:=hT.info
  rcases ho with⟨rfl,rfl,rfl,rfl⟩|⟨g,o,cur,F',rfl,hg,hs',k1,k2,rfl,he⟩
  · simp[Builtin.append_,run_underlying hT.zu,sizeOf,typeInfo,hi,Builtin.lenOf,Builtin.firstCells]
  · simp[Builtin.append_,run_underlying hT.zu,sizeOf,typeInfo,hi,Builtin.lenOf,Builtin.firstCells,k1,storeCells]
theorem LW.fM[Flat α]{t:TypeId}{s x:Operand}{i:Nat}{S:Nat->Prop}{a b:Option Addr}{c cb:Nat}{l m l':List α}(hT:jI P t α)(hs:ev e s=.slice a l.length c)(hx:ev e x=.slice b m.length cb)(hr:dX S w b cb m)
    (hl:app l m=some l') (hS:St w0 F0 w L) (hi:L[i]?=some (sl a c l)) (hd:Nat.ble (d+1) n=true)
    (h:∀(a':Option Addr) (c':Nat) (w':World),St w0 F0 w' (L.set i (sl a' c' l'))->Fr w w' ((a.map (·.block)).toList)->LW P n ops Q rest (im e d (.slice a' l'.length c')) w') :
    LW P n ops Q (⟨some d,.call { callee:=.builtin .append,args:=#[s,x],argTypes:=#[t,t] },ty,pos,aft,none⟩::rest) e w:=by
  unfold app at hl;split at hl
  case isFalse=>cases hl
  case isTrue hbig =>
  cases hl;have h':St w0 F0 w ([sl a c l]++L.eraseIdx i):=hS.front i hi;obtain⟨F,hF,hn,hlt2,_,_,hm⟩:=h'.share;obtain⟨F1,F2,rfl,q1,q2⟩:=hF;cases(show F2=[] from q2);rw[List.append_nil]at hn hlt2 hm;obtain⟨news,g1,g2,g3⟩:=fQ.flat hr
  by_cases hne:m=[]
  · subst hne
    cases b with
    | none =>
      refine LW.run (v:=.slice a (l++[]).length c) ?_ hd (h a c w (by
        have:=hS.setAt (w':=w) (y:=sl a c (l++[])) hi (fun F hF hn hlt=>St.init ⟨F,[],by simp,by rw[List.append_nil];exact hF,rfl⟩ hn hlt)
        exact this) ⟨Nat.le_refl _,fun b _ _=>rfl⟩)
      have:=AQ (P:=P) (ty:=ty) (cc:=cb) hT q1;simp[execOp,resolve,invoke,builtin,hs,hx,this]
    | some ad =>
      obtain⟨a',c',w',hr',hst,hfr⟩:=vd (ty:=ty) (ad:=ad) (cc:=cb) (ys:=[]) hT q1 (news:=[]) (G:=[]) (by simp) (by simp) rfl (by simpa using hn) (by simpa using hlt2) hbig;rw[List.append_nil]at hst;refine LW.run (v:=.slice a' (l++[]).length c') ?_ hd (h a' c' w' ((hm w' _ hst).perm (eraseIdx_set L i _ (eF hi))) hfr);simp only[List.length_nil]at hr' hx;simp only[execOp,resolve,invoke,builtin,Sem.run_bind,Sem.run_pure,Result.andThen_ok,List.map_toArray,List.map_cons,List.map_nil,hs,hx,hr']
  · obtain⟨b',o,rfl,hc⟩:=g3 hne;obtain⟨a',c',w',hr',hst,hfr⟩:=vd (ty:=ty) (ad:=⟨b',o,none⟩) (cc:=cb) (ys:=m) hT q1 g1 (fun j u hu=>by rw[add_lit];exact hc j u hu) (g2 w) (by simpa using hn) (by simpa using hlt2) hbig;rw[List.append_nil]at hst;refine LW.run (v:=.slice a' (l++m).length c') ?_ hd (h a' c' w' ((hm w' _ hst).perm (eraseIdx_set L i _ (eF hi))) hfr);simp only[execOp,resolve,invoke,builtin,Sem.run_bind,Sem.run_pure,Result.andThen_ok,List.map_toArray,List.map_cons,List.map_nil,hs,hx,hr']
end
end Go.Kx
