/- What the law leans on: an executor of the model that is sound, deduction over it, and the walks through the code (part 10 of 13). Conditions: those that each theorem states. -/
import Derived.Test.YtcmohelnoldfbaaGreatInterCallsx9
import Derived.KernelRfl
import Derived.Test.YtcmohelnoldfbaaGreatProg

set_option linter.unusedVariables false
set_option linter.unusedSimpArgs false
namespace Go.Ex
section
variable {P:Program} {ty el:Nat} {ox oy:Operand} {p:Addr} {a b:Bool}
theorem bn_p1[s:UnC P ty (.pointer el)]:Bn P .eql ty ox oy (.pointer (some p)) (.pointer none) (.bool false):=by
 show(match BinOp.eql,und P ty with
  | .eql,some d=>cond (zO ox oy (.pointer (some p)) (.pointer none)) ((xZ d (.pointer (some p)) (.pointer none)).map Value.bool) none
  | .neq,some d=>cond (zO ox oy (.pointer (some p)) (.pointer none)) ((xZ d (.pointer (some p)) (.pointer none)).map fun b=>Value.bool (!b)) none
  | _,_=>none:Option Value)=_
 rw[s.ok];rfl
theorem bn_p0[s:UnC P ty (.pointer el)]:Bn P .eql ty ox oy (.pointer none) (.pointer none) (.bool true):=by
 show(match BinOp.eql,und P ty with
  | .eql,some d=>cond (zO ox oy (.pointer none) (.pointer none)) ((xZ d (.pointer none) (.pointer none)).map Value.bool) none
  | .neq,some d=>cond (zO ox oy (.pointer none) (.pointer none)) ((xZ d (.pointer none) (.pointer none)).map fun b=>Value.bool (!b)) none
  | _,_=>none:Option Value)=_
 rw[s.ok];rfl
theorem bn_q1[s:UnC P ty (.pointer el)]:Bn P .neq ty ox oy (.pointer (some p)) (.pointer none) (.bool true):=by
 show(match BinOp.neq,und P ty with
  | .eql,some d=>cond (zO ox oy (.pointer (some p)) (.pointer none)) ((xZ d (.pointer (some p)) (.pointer none)).map Value.bool) none
  | .neq,some d=>cond (zO ox oy (.pointer (some p)) (.pointer none)) ((xZ d (.pointer (some p)) (.pointer none)).map fun b=>Value.bool (!b)) none
  | _,_=>none:Option Value)=_
 rw[s.ok];rfl
theorem bn_q0[s:UnC P ty (.pointer el)]:Bn P .neq ty ox oy (.pointer none) (.pointer none) (.bool false):=by
 show(match BinOp.neq,und P ty with
  | .eql,some d=>cond (zO ox oy (.pointer none) (.pointer none)) ((xZ d (.pointer none) (.pointer none)).map Value.bool) none
  | .neq,some d=>cond (zO ox oy (.pointer none) (.pointer none)) ((xZ d (.pointer none) (.pointer none)).map fun b=>Value.bool (!b)) none
  | _,_=>none:Option Value)=_
 rw[s.ok];rfl
theorem bn_be[s:UnC P ty .bool]:Bn P .eql ty ox oy (.bool a) (.bool b) (.bool (a == b)):=by
 show(match BinOp.eql,und P ty with
  | .eql,some d=>cond (zO ox oy (.bool a) (.bool b)) ((xZ d (.bool a) (.bool b)).map Value.bool) none
  | .neq,some d=>cond (zO ox oy (.bool a) (.bool b)) ((xZ d (.bool a) (.bool b)).map fun b=>Value.bool (!b)) none
  | _,_=>none:Option Value)=_
 rw[s.ok];cases a <;> cases b <;> rfl
theorem bn_bn[s:UnC P ty .bool]:Bn P .neq ty ox oy (.bool a) (.bool b) (.bool (a != b)):=by
 show(match BinOp.neq,und P ty with
  | .eql,some d=>cond (zO ox oy (.bool a) (.bool b)) ((xZ d (.bool a) (.bool b)).map Value.bool) none
  | .neq,some d=>cond (zO ox oy (.bool a) (.bool b)) ((xZ d (.bool a) (.bool b)).map fun b=>Value.bool (!b)) none
  | _,_=>none:Option Value)=_
 rw[s.ok];cases a <;> cases b <;> rfl
end
section
variable {P:Program} {ty:Nat} {ox oy:Operand} {a:Nat}
theorem bn_quo8(h:(a:Int)<9223372036854775808):Bn P .quo ty ox oy (I64 (a:Nat)) (I64 8) (I64 ((a / 8:Nat):Int)):=by
 unfold Bn;rw [binI];show cond (ieqB 8 0) none (some (Value.int .i64 (wC .i64 (Int.tdiv (a:Nat) 8))))=_;rw [xD];show some (Value.int .i64 (wC .i64 (Int.tdiv (a:Nat) 8)))=_
 have e:Int.tdiv ((a:Nat):Int) 8=((a / 8:Nat):Int):=by
  rw[show(8:Int)=((8:Nat):Int) from rfl,Int.ofNat_tdiv]
 rw[e,wrap_in ⟨by omega,by omega⟩]
end
theorem lka_lent{P:Program}{l:List (Nat×Value)}{t:Fr}{lo hi:Nat}{hs:List W}{ty:Nat}{x:Operand}{a:List UInt8}{k n:Nat}{h:zB}{dd:List Deferred}{u:Option zE}[s:UnC P ty .string](e:evb l t x=str a)(r:LkA P ⟨.call ⟨.builtin .len,[x].toArray,[ty].toArray⟩,FA l t,I64 (a.length:Nat),lo,hi⟩ (Nat.pred k) hs) :
 LkA P ⟨.call ⟨.builtin .len,[x].toArray,[ty].toArray⟩,FA l t,I64 (a.length:Nat),lo,hi⟩ k (⟨dd,u,h,n⟩::hs):=by
 refine lka_on ?_ ?_ sm_int r
 · show blkLt n (ev (FA l t) x)=true;rw [zX,e];rfl
 · show quietB P .len [ty] [ev (FA l t) x] h=_;rw [zX,e];exact len_txt
end Go.Ex
namespace Go.Ex
theorem Cel.cell{h:zB}{b z kd i:Nat}{vs:List Value}{v:Value}(c:Cel h b z kd vs)(e:vs[i]? = some v):zJ h b i=some v:=(c.2 i).trans e
theorem iad_sl{sz b off len cap j:Nat}{k:IntKind}(h:j<len):Iad sz (.slice (some ⟨b,off,none⟩) len cap) (.int k (j:Nat)) (.pointer (some ⟨b,off+j*sz,none⟩)):=⟨b,off,len,cap,k,j,rfl,rfl,h,rfl⟩
theorem ixv_0{P:Program}{ty:Nat}[UnC P ty .string]{a:List UInt8}{k:IntKind}{b:UInt8}(hb:a[0]? = some b):Ixv P ty (str a) (.int k 0) (.int .u8 (b.toNat:Nat)):=ixv_str (i:=0) hb
theorem iad_0{lo:Nat}{h:zB}{v:Value}{e sz len:Nat}{vs:List Value}{k:IntKind}(r:Row lo h v e sz len vs)(hi:0<len):Iad sz v (.int k 0) (.pointer (some ⟨sbk v,sof v+0*sz,none⟩)):=iad_rw (i:=0) r hi
theorem iad_1{lo:Nat}{h:zB}{v:Value}{e sz len:Nat}{vs:List Value}{k:IntKind}(r:Row lo h v e sz len vs)(hi:1<len):Iad sz v (.int k 1) (.pointer (some ⟨sbk v,sof v+1*sz,none⟩)):=iad_rw (i:=1) r hi
theorem nT{z:Bool}(h:z=false):(!z)=true:=by rw[h];rfl
theorem nF{z:Bool}(h:z=true):(!z)=false:=by rw[h];rfl
structure VBox where
 v:Value
noncomputable def lkB(l:List (Nat×Value))(t:Fr)(i:Nat):VBox:=match l with
 | []=>⟨fget t i⟩
 | (j,v)::r=>bif Nat.beq j i then⟨v⟩ else lkB r t i
theorem lkB_eq(l:List (Nat×Value))(t:Fr)(i:Nat):lkB l t i=⟨lk l t i⟩:=by
 induction l with
 | nil=>rfl
 | cons p r ih=>
  show(bif Nat.beq p.1 i then(⟨p.2⟩:VBox) else lkB r t i)=⟨bif Nat.beq p.1 i then p.2 else lk r t i⟩;rw [ih];cases Nat.beq p.1 i <;> rfl
noncomputable def evbB(l:List (Nat×Value))(t:Fr)(x:Operand):VBox:=match x with
 | .tmp i=>lkB l t i
 | .const v=>⟨v⟩
 | .global g=>⟨.pointer (some ⟨g,0,none⟩)⟩
 | .func f=>⟨.func (.func f) #[] #[]⟩
theorem lk_box{l:List (Nat×Value)}{t:Fr}{i:Nat}{v:Value}(h:lkB l t i=⟨v⟩):lk l t i=v:=by rw[lkB_eq]at h;injection h
theorem ev_box{l:List (Nat×Value)}{t:Fr}{x:Operand}{v:Value}(h:evbB l t x=⟨v⟩):evb l t x=v:=by
 cases x with
 | tmp i=>exact lk_box h
 | const w=>injection h
 | global g=>injection h
 | func g=>injection h
theorem bx_one{v:Value}(e:v.oneCell'=true):Bx v [v]:=⟨by cases v <;> first|rfl|(cases e;done),e,trivial⟩
theorem bx_row{lo:Nat}{h:zB}{v:Value}{e sz len:Nat}{vs:List Value}(r:Row lo h v e sz len vs):Bx v [v]:=bx_one r.one
theorem zC{h:zB}{b z kd:Nat}{vs:List Value}(c:Cel h b z kd vs:=by
 repeat' first
  | with_reducible assumption
  | with_reducible exact cel_hal _ _ _ _ _
  | with_reducible apply Cel.put
  | with_reducible apply Cel.hal
  | with_reducible apply Cel.hst
  | ((with_reducible apply Cel.tcm);(focus (with_reducible assumption)))
  | decide
  | omega
  | (simp;done)
  | (simp;omega)):Cel h b z kd vs:=c
theorem Cel.as{h:zB}{b z kd:Nat}{vs vs':List Value}(c:Cel h b z kd vs')(e:vs'=vs):Cel h b z kd vs:=e ▸ c
theorem zM{h:zB}{b z kd:Nat}{vs:List Value}(c:Cel h b z kd vs:=by(apply Cel.as;(focus exact zC);exact rfl)):Cel h b z kd vs:=c
theorem cat_ask{h:zB}{b i:Nat}{v:Value}(c:zJ h b i=some v:=by
 repeat' first
  | with_reducible assumption
  | with_reducible apply cat_hal
  | with_reducible apply cat_hst
  | ((with_reducible apply cat_tch);(focus (with_reducible assumption)))
  | omega
  | (simp;done)
  | (simp;omega)):zJ h b i=some v:=c
theorem obe_ask{h:zB}{L:Nat}{o:AObj}(c:zF h L=o:=by
 repeat' first
  | with_reducible assumption
  | with_reducible exact vF
  | with_reducible apply obe_hal
  | with_reducible apply obe_hst
  | ((with_reducible apply obe_tch);(focus (with_reducible assumption)))
  | omega
  | (simp;done)
  | (simp;omega)):zF h L=o:=c
theorem xM{h:zB}{b i:Nat}{v:Value}(c:zJ h b i=some v:=by first|(with_reducible assumption)|(apply Cel.cell;(focus exact zC);exact rfl)|exact cat_ask):zJ h b i=some v:=c
theorem ld1_of{h:zB}{b o:Nat}{v:Value}(e:zJ h b o=some v):Ld1 h (.pointer (some ⟨b,o,none⟩)) v:=⟨b,o,rfl,e⟩
theorem ldN_of{h:zB}{b o k:Nat}{vs:List Value}(h0:0<k)(e:Rd h b o k vs):LdN h (.pointer (some ⟨b,o,none⟩)) k vs:=⟨b,o,rfl,h0,e⟩
theorem rd_nil{h:zB}{b o:Nat}:Rd h b o 0 []:=rfl
theorem rd_cons{h:zB}{b o k:Nat}{v:Value}{r:List Value}(e:zJ h b o=some v)(f:Rd h b (o+1) k r):Rd h b o (k+1) (v::r):=⟨v,r,rfl,e,f⟩
theorem fad_of{o b off:Nat}:Fad o (.pointer (some ⟨b,off,none⟩)) (.pointer (some ⟨b,off+o,none⟩)):=⟨b,off,rfl,rfl⟩
theorem gv_of{all:Array Oper}{l:List (Nat×Value)}{t:Fr}{g i:Nat}{b z:Bool}(h:dstOf all g=some i)(e:lk l t i = .bool z):Gv all l t g b z:=⟨i,h,.inl e⟩
theorem gv_uT{all:Array Oper}{l:List (Nat×Value)}{t:Fr}{g i:Nat}(h:dstOf all g=some i)(e:lk l t i=undef):Gv all l t g true false:=⟨i,h,.inr ⟨e,rfl⟩⟩
theorem gv_uF{all:Array Oper}{l:List (Nat×Value)}{t:Fr}{g i:Nat}(h:dstOf all g=some i)(e:lk l t i=undef):Gv all l t g false true:=⟨i,h,.inr ⟨e,rfl⟩⟩
theorem evs_nil{l:List (Nat×Value)}{t:Fr}:Evs l t [] []:=rfl
theorem evs_cons{l:List (Nat×Value)}{t:Fr}{x:Operand}{v:Value}{xs:List Operand}{vs:List Value}(e:evb l t x=v)(f:Evs l t xs vs):Evs l t (x::xs) (v::vs):=⟨v,vs,rfl,e,f⟩
theorem evp_nil{l:List (Nat×Value)}{t:Fr}:Evp l t [] []:=rfl
theorem evp_cons{l:List (Nat×Value)}{t:Fr}{i:Nat}{x:Operand}{v:Value}{xs:List (Nat×Operand)}{vs:List (Nat×Value)}(e:evb l t x=v)(f:Evp l t xs vs):Evp l t ((i,x)::xs) ((i,v)::vs):=⟨v,vs,rfl,e,f⟩
theorem evo_none{l:List (Nat×Value)}{t:Fr}:Evo l t none none:=rfl
theorem evo_some{l:List (Nat×Value)}{t:Fr}{x:Operand}{v:Value}(e:evb l t x=v):Evo l t (some x) (some v):=⟨v,rfl,e⟩
theorem stN_of{h:zB}{b o z kd k:Nat}{vs ws:List Value}(c:Cel h b z kd vs)(hk:kd≠2∧kd≠3)(ho:o+ws.length≤vs.length)(h1:One ws)(hl:ws.length=k):StP' h (.pointer (some ⟨b,o,none⟩)) ws k (hst h b o ws):=⟨StP.of c hk ho h1,hl⟩
theorem bx_of{v:Value}{cs:List Value}(e:cellsOf v=cs)(f:One cs):Bx v cs:=⟨e,f⟩
theorem one_nil:One []:=trivial
theorem one_cons{x:Value}{r:List Value}(e:x.oneCell'=true)(f:One r):One (x::r):=⟨e,f⟩
theorem ex1_of{i:Nat}{vs:List Value}{v:Value}(e:vs[i]? = some v):Ext1 i (.tuple ⟨vs⟩) v:=⟨vs,rfl,e⟩
theorem rs_nil{P:Program}{l:List (Nat×Value)}{t:Fr}{h:zB}:Rs P l t h [] []:=rfl
theorem rs_tmp{P:Program}{l:List (Nat×Value)}{t:Fr}{h:zB}{i:Nat}{r:List ResultVar}{v:Value}{vs:List Value}(e:lk l t i=v)(f:Rs P l t h r vs):Rs P l t h (.tmp i::r) (v::vs):=⟨v,vs,rfl,e,f⟩
theorem rs_cell{P:Program}{l:List (Nat×Value)}{t:Fr}{h:zB}{i ty:Nat}[s:ShC P ty .scal]{r:List ResultVar}{p v:Value}{vs:List Value}(e:lk l t i=p)(g:Ld1 h p v)(f:Rs P l t h r vs):Rs P l t h (.cell i ty::r) (v::vs):=by
 obtain⟨b,o,rfl,g⟩:=g;exact⟨v,vs,rfl,by rw[e];exact load_scal s.ok g,f⟩
theorem rd_any{h:zB}{b o k:Nat}{vs:List Value}(c:Rd h b o k vs:=by repeat' first|(with_reducible assumption)|exact rd_nil|(apply rd_cons;(focus exact xM))):Rd h b o k vs:=c
 class IsOb (G:Prop) {α : outParam Type} (A K:outParam (α→Prop)):Prop where ok:Ob A K→G
instance {α : Type} {A K: α→Prop}:IsOb (Ob A K) A K:=⟨id⟩
 class IsCh (G:Prop) (z:outParam Bool) (A B:outParam Prop):Prop where ok:Ch z A B→G
instance {z:Bool} {A B:Prop}:IsCh (Ch z A B) z A B:=⟨id⟩
theorem ob{G:Prop}{α : Type}{A K: α→Prop}[s:IsOb G A K]{a: α}(k:K a)(h:A a:=by first
 | ((with_reducible show Ev _ _ _ _) <;> (show evb _ _ _=_) <;> (apply ev_box) <;> ((conv=>lhs;whnf) <;> exact rfl))
 | ((with_reducible apply ld1_of);focus first|(with_reducible assumption)|(apply Cel.cell;(focus exact zC);exact rfl)|exact cat_ask)
 | with_reducible exact fad_of
 | (with_reducible show Bn _ _ _ _ _ _ _ _) <;> with_reducible first|exact bn_eq|exact bn_ne|exact bn_lt|exact bn_le|exact bn_gt|exact bn_ge|exact bs_eq|exact bs_ne|(apply bn_add;omega)|(apply bn_sub;omega)|exact bn_subu|(apply bn_quo64;omega)|exact bn_rem64|(apply bn_shl1;omega)|(apply bn_shr;omega)|(apply bn_and1;assumption)|(apply bn_and <;> assumption)|exact bn_p1|exact bn_q1|exact bn_p0|exact bn_q0|exact bn_be|exact bn_bn|(apply bn_quo8;omega)|(apply bn_or <;> assumption)|(apply bn_andnot <;> assumption)|exact bn_if1|exact bn_if0|exact bn_c|exact bn_s0|exact bn_s1|assumption
 | ((with_reducible apply gv_of);(focus exact rfl);focus ((conv=>lhs;whnf) <;> exact rfl))
 | ((with_reducible apply gv_uT);(focus exact rfl);focus ((conv=>lhs;whnf) <;> exact rfl))
 | ((with_reducible apply gv_uF);(focus exact rfl);focus ((conv=>lhs;whnf) <;> exact rfl))
 | ((with_reducible show Evs _ _ _ _) <;> repeat' first|exact evs_nil|apply evs_cons|(apply ev_box;((conv=>lhs;whnf) <;> exact rfl)))
 | ((with_reducible apply bx_one);(with_reducible assumption))
 | ((with_reducible apply bx_row);(with_reducible assumption))
 | ((with_reducible apply bx_of) <;> repeat' first|exact one_nil|(apply one_cons;(focus first|exact rfl|(with_reducible assumption)))|((conv=>lhs;whnf) <;> exact rfl))
 | ((with_reducible apply StP.of);(focus exact zC);(focus exact⟨by decide,by decide⟩);(focus first|decide|(simp;done)|(simp;omega));focus repeat' first|exact one_nil|(apply one_cons;(focus first|exact rfl|(with_reducible assumption))))
 | ((with_reducible apply iad_sl);omega)
 | ((with_reducible apply iad_rw);(focus (with_reducible assumption));omega)
 | ((with_reducible apply iad_0);(focus (with_reducible assumption));omega)
 | ((with_reducible apply iad_1);(focus (with_reducible assumption));omega)
 | ((with_reducible apply iad_rwI);(focus (with_reducible assumption));(focus omega);omega)
 | ((with_reducible apply len_rw);(with_reducible assumption))
 | ((with_reducible apply ldN_of);(focus decide);(focus (with_reducible assumption)))
 | ((with_reducible apply ldN_of) <;> repeat' first|decide|exact rd_nil|(apply rd_cons;focus first|(with_reducible assumption)|(apply Cel.cell;(focus exact zC);exact rfl)|exact cat_ask))
 | ((with_reducible apply ex1_of);exact rfl)
 | ((with_reducible show Rs _ _ _ _ _ _) <;> repeat' first|exact rs_nil|(apply rs_tmp;(focus (apply lk_box;((conv=>lhs;whnf) <;> exact rfl))))|(apply rs_cell;(focus (apply lk_box;((conv=>lhs;whnf) <;> exact rfl)));focus ((with_reducible apply ld1_of);focus first|(with_reducible assumption)|(apply Cel.cell;(focus exact zC);exact rfl)|exact cat_ask)))
 | with_reducible exact cv_int
 | with_reducible exact bd_c
 | with_reducible exact bs_c
 | ((with_reducible apply ixv_str);(with_reducible assumption))
 | ((with_reducible apply ixv_0);(with_reducible assumption))
 | with_reducible exact len_slc
 | with_reducible exact len_txt
 | with_reducible exact bi_app
 | with_reducible exact bi_rec
 | ((with_reducible show Evp _ _ _ _) <;> repeat' first|exact evp_nil|apply evp_cons|(apply ev_box;((conv=>lhs;whnf) <;> exact rfl)))
 | with_reducible exact evo_none
 | with_reducible exact fnv_of
 | with_reducible exact ifv_of
 | with_reducible exact tya_hit
 | ((with_reducible apply evo_some);focus (apply ev_box;((conv=>lhs;whnf) <;> exact rfl)))
 | (with_reducible assumption)
 | ((with_reducible apply stN_of);(focus exact zC);(focus exact⟨by decide,by decide⟩);(focus first|decide|(simp;done)|(simp;omega));(focus repeat' first|exact one_nil|(apply one_cons;(focus first|exact rfl|(with_reducible assumption))));exact rfl)
 | ((with_reducible show Wh (_++(_++_)) _) <;> (show _=_) <;> ((conv=>lhs;simp only[List.nil_append,List.cons_append,List.append_nil]) <;> exact rfl))
 | ((with_reducible show Wh _ _) <;> (show _=_) <;> ((conv=>lhs;whnf) <;> exact rfl))):G:=s.ok ⟨a,h,k⟩
theorem nTF:(!false)=true:=rfl
theorem nFT:(!true)=false:=rfl
theorem dT{p:Prop}{i:Decidable p}(h:p):@decide p i=true:=decide_eq_true h
theorem dG{p:Prop}{i:Decidable p}(h:p→False):@decide p i=false:=decide_eq_false h
theorem dF{p:Prop}{i:Decidable p}(h:¬p):@decide p i=false:=decide_eq_false h
 class IsOb1 (G:Prop) (A K:outParam Prop):Prop where ok:Ob1 A K→G
instance {A K:Prop}:IsOb1 (Ob1 A K) A K:=⟨id⟩
theorem ob1{G A K:Prop}[s:IsOb1 G A K](k:K)(h:A:=by first
 | ((with_reducible show RgE _ _ _ _) <;> (show regOf _ _ _=_) <;> kernel_rfl)
 | ((with_reducible show NLe _ _) <;> (show _≤_) <;> first|omega|exact Nat.le_refl _|exact Tch.le (by with_reducible assumption))
 | with_reducible exact lks_nil
 | ((with_reducible show LksOK _ _ _) <;> repeat' first|with_reducible exact lks_nil|with_reducible apply lks_cons|with_reducible exact lka_nil|((with_reducible apply lka_off);(focus exact rfl))|((with_reducible apply lka_ldN);(focus ((conv=>lhs;whnf) <;> exact rfl));(focus omega);(focus decide);(focus exact rd_any);(focus repeat' first|exact sml_nil|apply sml_int|apply sml_str|(apply sml_row;(focus (with_reducible assumption)))))|((with_reducible apply lka_lent);(focus (apply ev_box;((conv=>lhs;whnf) <;> exact rfl))))|((with_reducible apply lka_len);(focus (apply ev_box;((conv=>lhs;whnf) <;> exact rfl)));(focus (with_reducible assumption));(focus omega))|((with_reducible apply lka_ld1);(focus ((conv=>lhs;whnf) <;> exact rfl));(focus omega);(focus first|(with_reducible assumption)|(apply Cel.cell;(focus exact zC);exact rfl)|exact cat_ask);(focus first|exact sm_int|exact sm_str|exact sm_bool|exact sm_ptr|exact sm_map|(apply Row.sm;with_reducible assumption)|(apply Own.sm;with_reducible assumption)|(with_reducible assumption))))
 | ((with_reducible show ObE _ _ _) <;> (show zF _ _=_) <;> exact obe_ask)
 | ((with_reducible show Clt _ _) <;> (show zF _ _=_) <;> exact obe_ask)
 | with_reducible exact rfl
 | assumption):G:=s.ok ⟨h,k⟩
instance {A B:Prop}:Stp (Ch true A B) A:=⟨fun h=>⟨fun _=>h,fun e=>Bool.noConfusion e⟩⟩
instance {A B:Prop}:Stp (Ch false A B) B:=⟨fun h=>⟨fun e=>Bool.noConfusion e,fun _=>h⟩⟩
theorem cT{G:Prop}{z:Bool}{A B:Prop}[s:IsCh G z A B](k:A)(h:z=true:=by with_reducible first
 | assumption
 | exact nTF
 | (apply dT;first|assumption|omega|exact rfl)
 | (apply nT;first|assumption|(apply dF;first|assumption|omega))):G:=s.ok ⟨fun _=>k,fun e=>Bool.noConfusion (h.symm.trans e)⟩
theorem cF{G:Prop}{z:Bool}{A B:Prop}[s:IsCh G z A B](k:B)(h:z=false:=by with_reducible first
  | assumption
  | exact nFT
  | (apply dF;first|assumption|omega)
  | (apply dG;intro hh;cases hh;done)
  | (apply nF;first|assumption|(apply dT;first|assumption|omega))):G:=s.ok ⟨fun e=>Bool.noConfusion (h.symm.trans e),fun _=>k⟩
 class Pr2 (z:Bool) (p q:outParam Prop):Prop where ok:(z=true→p)∧(z=false→q)
instance (priority:=low) {z:Bool}:Pr2 z (z=true) (z=false):=⟨⟨id,id⟩⟩
instance {z:Bool}:Pr2 (!z) (z=false) (z=true):=⟨by cases z <;> simp⟩
instance {p:Prop} {_i:Decidable p}:Pr2 (decide p) p (¬p):=⟨⟨of_decide_eq_true,of_decide_eq_false⟩⟩
instance {p:Prop} {_i:Decidable p}:Pr2 (!decide p) (¬p) p:=⟨by by_cases h:p <;> simp[h]⟩
theorem cX{z:Bool}{A B p q:Prop}[s:Pr2 z p q](k:p→A)(j:q→B):Ch z A B:=⟨fun e=>k (s.ok.1 e),fun e=>j (s.ok.2 e)⟩
theorem wk{G C:Prop}(k:C)(h:C→G:=by first|exact fun k=>st k|exact fun k=>ob k|exact fun k=>ob1 k|exact fun k=>cT k|exact fun k=>cF k|exact fun k=>calC k|fail):G:=h k
end Go.Ex
namespace Go.Ex
section
variable {P:Program} {sT xT e:Nat} {cx:Cx} {d:List Deferred} {u:Option zE} {h:zB} {n:Nat} {K:W→Value→Prop}
end
end Go.Ex
namespace Go.Ex
section
variable {P:Program} {ng:Nat}
noncomputable def mkB(P:Program)(ty:Nat)(z:Value):Bool:=match und P ty with
  | some (.slice e) => match zZ P e, inf? P e with
    | some v,some ei=>(match cellsOf v with|[x]=>scalB x z|_=>false) && (Nat.beq ei.size 1 && Nat.blt ei.bytes 100000)
    | _,_=>false
  | _=>false
 class MkC (P:Program) (ty:Nat) (z:outParam Value):Prop where ok:mkB P ty z=true
theorem MkC.get{ty:Nat}{z:Value}(s:MkC P ty z):∃e ei v,und P ty=some (.slice e)∧zZ P e=some v∧inf? P e=some ei∧cellsOf v=[z]∧ei.size=1∧ei.bytes<100000:=by
 have h:=s.ok;unfold mkB at h;split at h
 · rename_i e h1;split at h
   · rename_i v ei h2 h3;obtain⟨h4,h5⟩:=Bool.and_eq_true_iff.1 h;obtain⟨h5,h6⟩:=Bool.and_eq_true_iff.1 h5;split at h4
     · rename_i x h7;exact⟨e,ei,v,h1,h2,h3,by rw[h7,xW h4],zD h5,zS h6⟩
     · cases h4
   · cases h
 · cases h
def MkS(P:Program)(ty:Nat)(a b:Value)(p:Nat×List Value):Prop:=xE P ty a b=some (mkC p.2 0 0,p.1,p.1)
theorem mks_of{ty:Nat}{z:Value}[s:MkC P ty z]{m:Nat}(hm:m<100000):MkS P ty (I64 (m:Nat)) (I64 (m:Nat)) (m,rep [z] m):=by
 obtain⟨e,ei,v,h1,h2,h3,h4,h5,h6⟩:=s.get;show xE P ty (.int .i64 (.ofNat m)) (.int .i64 (.ofNat m))=_;unfold xE;rw [h1]
 show(match some m,some m with
  | some n,some m=>match zZ P e,inf? P e with
   | some z,some ei=>cond (Nat.ble 1 ei.size && Nat.beq (cellsOf z).length ei.size && Nat.ble n m && Nat.blt m 100000 && Nat.blt ei.bytes 100000) (some (mkCells (rep (cellsOf z) m) 0,n,m)) none
   | _,_=>none
  | _,_=>none:Option (AObj×Nat×Nat))=_
 dsimp only;rw [h2,h3];dsimp only;rw [h4,h5,vW (Nat.le_refl m),yU hm,yU h6];rfl
section
variable {cx:Cx} {t:Fr} {l:List (Nat×Value)} {d:List Deferred} {u:Option zE} {h:zB} {n:Nat} {K:W→Value→Prop} {Kp:zE→W→Prop}
instance {ty:Nat} {x y:Operand}:Stp (OpB P ng (.makeSlice ty x y) cx (FA l t) ⟨d,u,h,n⟩ K Kp) (Ob (Ev l t x) fun a=>Ob (Ev l t y) fun b=>Ob (MkS P ty a b) fun p=>K ⟨d,u,hal h n (mkC p.2 0 0),n+1⟩ (.slice (some ⟨n,0,none⟩) p.1 p.1)):=
 ⟨fun⟨a,h1,b,h2,p,h3,h4⟩=>e_of rfl (by
  show(match xE P ty (ev (FA l t) x) (ev (FA l t) y) with
   | some (ob,i,m)=>zL h n ob fun h' n'=>yV (K ⟨d,u,h',n'⟩ (.slice (some ⟨n,0,none⟩) i m))
   | none=>false)=true
  rw[zX,zX,show evb l t x=a from h1,show evb l t y=b from h2,show xE P ty a b=_ from h3];show zL h n (mkC p.2 0 0) _=true;rw [xL];exact isSo_iff.2 h4)⟩
def IadA(len sz:Nat)(s i q:Value):Prop:=∃b off k j,s = .pointer (some ⟨b,off,none⟩)∧i = .int k (.ofNat j)∧j<len∧q = .pointer (some ⟨b,off+j*sz,none⟩)
instance {ty len sz:Nat} [s:IxC P ty (.array len sz)] {x i:Operand} {w:W}:Stp (OpB P ng (.indexAddr ty x i) cx (FA l t) w K Kp) (Ob (Ev l t x) fun p=>Ob (Ev l t i) fun j=>Ob (IadA len sz p j) (K w)):=
 ⟨fun⟨p,h1,j,h2,q,⟨b,off,k,m,e1,e2,e3,e4⟩,h3⟩=>opB_q (v:=q) (by
  show(onInt (ev (FA l t) i) (fun _ i=>Int.rec (fun i=>Ix.rec none
   (fun sz=>onSlice (ev (FA l t) x) (fun b off len _=>Bool.rec none (some (.pointer (some ⟨b,Nat.add off (Nat.mul i sz),none⟩))) (Nat.blt i len)) none)
   (fun len sz=>onPtr (ev (FA l t) x) (fun b off=>Bool.rec none (some (.pointer (some ⟨b,Nat.add off (Nat.mul i sz),none⟩))) (Nat.blt i len)) none) (ixOf P ty)) (fun _=>none) i) none:Option Value)=_
  rw[zX,zX,show evb l t x=p from h1,show evb l t i=j from h2,e1,e2,s.ok];show(Bool.rec none (some (.pointer (some ⟨b,Nat.add off (Nat.mul m sz),none⟩))) (Nat.blt m len):Option Value)=_;rw [yU e3,e4];rfl) h3⟩
theorem iada{len sz b off:Nat}{k:IntKind}{x:Int}{m:Nat}(e:x=(m:Nat))(hm:m<len):IadA len sz (.pointer (some ⟨b,off,none⟩)) (.int k x) (.pointer (some ⟨b,off+m*sz,none⟩)):=⟨b,off,k,m,rfl,by rw[e];rfl,hm,rfl⟩
end
section
variable {b:Code} {cx:Cx} {t:Fr} {w:W} {Q:QX}
instance:Stp (rndQ P ng b cx Q .normal t w) (WC P ng (.loop b) cx t w Q):=⟨id⟩
instance {i:Nat}:Stp (rndQ P ng b cx Q (.exit i) t w) (Q (.exit i) t w):=⟨id⟩
instance:Stp (rndQ P ng b cx Q .ret t w) (Q .ret t w):=⟨id⟩
instance {c:zE}:Stp (rndQ P ng b cx Q (.panic c) t w) (Q (.panic c) t w):=⟨id⟩
end
end
end Go.Ex
namespace Go.Ex
def MpK(h:zB)(b:Nat)(w:Value)(S:Int→Bool):Prop:=∃es clock,zF h b = .map es clock∧(∀e∈es,e.val=w∧∃k,e.key=I64 k∧S k=true)∧∀k,S k=true→∃e∈es,e.key=I64 k
 class MiC (P:Program) (ty:Nat) (z:outParam Value):Prop where ok:∃kt et,und P ty=some (.map kt et)∧und P kt=some (.int .i64)∧zZ P et=some z
theorem keyEq_int(x y:Int):keyEq (I64 x) (I64 y)=some (decide (x=y)):=by
 show some (ieqB x y)=_;rw [xD]
theorem i64_inj{a b:Int}(h:I64 a=I64 b):a=b:=by injection h
theorem findK{w:Value}{x:Int}:∀{es:List MapEntry} {i:Nat},(∀e∈es,e.val=w∧∃k,e.key=I64 k)→(vA (I64 x) es i=some none∧∀e∈es,e.key≠I64 x)∨∃(j:Nat) (e:MapEntry),vA (I64 x) es i=some (some (i+j,w))∧es[j]? = some e∧e.key=I64 x:=by
 intro es
 induction es with
 | nil=>intro i _;exact .inl ⟨rfl,fun e he=>by cases he⟩
 | cons e es ih=>
  intro i he;obtain⟨h1,k,h2⟩:=he e (List.mem_cons_self ..);by_cases hk:x=k
  · subst hk;refine .inr ⟨0,e,?_,rfl,h2⟩;unfold vA;rw [h2,keyEq_int,decide_eq_true rfl,h1];rfl
  · have e0:vA (I64 x) (e::es) i=vA (I64 x) es (i+1):=by
     show(match keyEq (I64 x) e.key with|some true=>some (some (i,e.val))|some false=>vA (I64 x) es (i+1)|none=>none)=_;rw [h2,keyEq_int,decide_eq_false hk]
    rw[e0];rcases ih (i:=i+1) (fun e he'=>he e (List.mem_cons_of_mem _ he')) with⟨h3,h4⟩|⟨j,e',h3,h4,h5⟩
    · exact .inl ⟨h3,fun e' he'=>by
       rcases List.mem_cons.1 he' with rfl|h6
       · rw[h2];exact fun h7=>hk (i64_inj h7).symm
       · exact h4 e' h6⟩
    · exact .inr ⟨j+1,e',by rw[h3];congr 3;omega,h4,h5⟩
theorem putE_mem{k v:Value}:∀{es:List MapEntry} {j:Nat} {e:MapEntry},e∈putE k v j es→(e.key=k∧e.val=v)∨e∈es:=by
 intro es
 induction es with
 | nil=>intro j e h;cases j <;> cases h
 | cons a es ih =>
  intro j e h
  cases j with
  | zero=>
   rcases List.mem_cons.1 (show e∈{ a with key:=k,val:=v }::es from h) with rfl|h
   · exact .inl ⟨rfl,rfl⟩
   · exact .inr (List.mem_cons_of_mem _ h)
  | succ j=>
   rcases List.mem_cons.1 (show e∈a::putE k v j es from h) with rfl|h
   · exact .inr (List.mem_cons_self ..)
   · rcases ih h with h|h
     · exact .inl h
     · exact .inr (List.mem_cons_of_mem _ h)
theorem putE_keep{k v:Value}{e0:MapEntry}(h0:e0.key=k):∀{es:List MapEntry} {j:Nat} {e:MapEntry},es[j]? = some e0→e∈es→∃e'∈putE k v j es,e'.key=e.key:=by
 intro es
 induction es with
 | nil=>intro j e _ h;cases h
 | cons a es ih =>
  intro j e hj h
  cases j with
  | zero=>
   have hj:a=e0:=by injection hj
   show ∃e'∈{ a with key:=k,val:=v }::es,e'.key=e.key;rcases List.mem_cons.1 h with rfl|h
   · exact⟨_,List.mem_cons_self ..,by rw[hj,h0]⟩
   · exact⟨e,List.mem_cons_of_mem _ h,rfl⟩
  | succ j=>
   show ∃e'∈a::putE k v j es,e'.key=e.key;rcases List.mem_cons.1 h with rfl|h
   · exact⟨_,List.mem_cons_self ..,rfl⟩
   · obtain⟨e',h1,h2⟩:=ih hj h;exact⟨e',List.mem_cons_of_mem _ h1,h2⟩
section
variable {P:Program} {ty:Nat} {z w:Value} {h:zB} {b:Nat} {S:Int→Bool}
theorem lkMK[s:MiC P ty z](m:MpK h b w S)(x:Int)(ok:Bool):yH P h ty (.map (some b)) (I64 x) ok=some (cond ok (.tuple ⟨[cond (S x) w z,.bool (S x)]⟩) (cond (S x) w z)):=by
 obtain⟨kt,et,h1,h2,h3⟩:=s.ok;obtain⟨es,clock,h4,h5,h6⟩:=m;unfold yH;rw [h1];dsimp only;rw [h2,h3];dsimp only;rw [h4];dsimp only;rcases findK (x:=x) (i:=0) (fun e he=>⟨(h5 e he).1,(h5 e he).2.imp fun _ q=>q.1⟩) with⟨h7,h8⟩|⟨j,e,h7,h8,h9⟩
 · have:S x=false:=by
    cases e:S x with
    | false=>rfl
    | true=>obtain⟨e,h10,h11⟩:=h6 x e;exact absurd h11 (h8 e h10)
   rw[h7,this];rfl
 · have:S x=true:=by
    obtain⟨_,k,h10,h11⟩:=h5 e (List.mem_of_getElem? h8);rw [h9]at h10;rw [i64_inj h10];exact h11
   rw[h7,this];rfl
theorem msetK2[s:MiC P ty z](m:MpK h b w S)(x:Int):∃o,∀hh,zF hh b=zF h b→MSet P ty (.map (some b)) (I64 x) w hh (hal hh b o)∧MpK (hal hh b o) b w fun k=>S k || decide (k=x):=by
 obtain⟨kt,et,h1,h2,h3⟩:=s.ok;obtain⟨es,clock,h4,h5,h6⟩:=m;rcases findK (x:=x) (i:=0) (fun e he=>⟨(h5 e he).1,(h5 e he).2.imp fun _ q=>q.1⟩) with⟨h7,h8⟩|⟨j,e0,h7,h8,h9⟩
 · refine⟨.map (es++[{ key:=I64 x,val:=w,born:=clock }]) (Nat.succ clock),fun hh eh=>⟨fun K hK=>?_,_,_,by rw[zP,if_pos rfl],fun e he=>?_,fun k hk=>?_⟩⟩
   · unfold xG;rw [h1];dsimp only;rw [h2,eh,h4];dsimp only;rw [h7];show hh.setK .dead _ b K=true;rw [Tr.setK_eq];exact hK
   · rcases List.mem_append.1 he with he|he
     · obtain⟨q1,k,q2,q3⟩:=h5 e he;exact⟨q1,k,q2,Bool.or_eq_true_iff.2 (.inl q3)⟩
     · obtain rfl:=List.mem_singleton.1 he;exact⟨rfl,x,rfl,by simp⟩
   · rcases Bool.or_eq_true_iff.1 hk with hk|hk
     · obtain⟨e,q1,q2⟩:=h6 k hk;exact⟨e,List.mem_append_left _ q1,q2⟩
     · obtain rfl:=of_decide_eq_true hk;exact⟨_,List.mem_append_right _ (List.mem_singleton.2 rfl),rfl⟩
 · refine⟨.map (putE (I64 x) w j es) clock,fun hh eh=>⟨fun K hK=>?_,_,_,by rw[zP,if_pos rfl],fun e he=>?_,fun k hk=>?_⟩⟩
   · unfold xG;rw [h1];dsimp only;rw [h2,eh,h4];dsimp only;rw [h7];show hh.setK .dead (.map (putE (I64 x) w (0+j) es) clock) b K=true;rw [Tr.setK_eq,Nat.zero_add];exact hK
   · rcases putE_mem he with⟨q1,q2⟩|he
     · exact⟨q2,x,q1,by simp⟩
     · obtain⟨q1,k,q2,q3⟩:=h5 e he;exact⟨q1,k,q2,Bool.or_eq_true_iff.2 (.inl q3)⟩
   · have:∃e∈es,e.key=I64 k:=by
      rcases Bool.or_eq_true_iff.1 hk with hk|hk
      · exact h6 k hk
      · obtain rfl:=of_decide_eq_true hk;exact⟨e0,List.mem_of_getElem? h8,h9⟩
     obtain⟨e,q1,q2⟩:=this;obtain⟨e',q3,q4⟩:=putE_keep (v:=w) h9 h8 q1;exact⟨e',q3,by rw[q4];exact q2⟩
end
theorem MpK.tch{S:List Nat}{h h':zB}{n n' b:Nat}{w:Value}{Q:Int→Bool}(m:MpK h b w Q)(t:Tch S h n h' n')(hb:b<n)(hS:b∉S):MpK h' b w Q:=by
 obtain⟨es,clock,h4,h5⟩:=m;exact⟨es,clock,by rw[t.2 b hb hS];exact h4,h5⟩
theorem MpK.of_eq{h h':zB}{b:Nat}{w:Value}{Q:Int→Bool}(m:MpK h b w Q)(e:zF h' b=zF h b):MpK h' b w Q:=by
 obtain⟨es,clock,h4,h5⟩:=m;exact⟨es,clock,by rw[e];exact h4,h5⟩
theorem mpk_new{h:zB}{n:Nat}{w:Value}:MpK (hal h n (.map [] 0)) n w fun _=>false:=⟨[],0,by rw[zP,if_pos rfl],(fun _ h=>by cases h),fun _ h=>by cases h⟩
end Go.Ex
namespace Go.Ex
section
variable {P:Program} {ng:Nat}
def lpQD{α : Type}(I: α→List (Nat×Value))(D: α→List Deferred)(J: α→zB→Nat→Prop)(m: α→Nat)(a: α)(u:Option zE)(Q:QX):QX:=fun x t w=>match x with
 | .normal=>∃a',m a'<m a∧(∀i,fget (FA (I a') t) i=fget t i)∧∃h n,w=⟨D a',u,h,n⟩∧J a' h n
 | x=>Q x t w
theorem lpD{b:Code}{cx:Cx}{Q:QX}{l:List (Nat×Value)}{t:Fr}{d:List Deferred}{u:Option zE}{h:zB}{n:Nat}{α : Type}(I: α→List (Nat×Value))(D: α→List Deferred)(J: α→zB→Nat→Prop)(m: α→Nat)(a0: α)(hd:d=D a0)(hJ:J a0 h n)
(step:∀a t h n,J a h n→WC P ng b cx (FA (I a) t) ⟨D a,u,h,n⟩ (lpQD I D J m a u Q))(h0:Slots l t (I a0):=by repeat' first|exact trivial|refine⟨rfl,?_⟩):WC P ng (.loop b) cx (FA l t) ⟨d,u,h,n⟩ Q:=by
 subst hd;refine wc_loop (α := α) (fun a t w=>(∀i,fget (FA (I a) t) i=fget t i)∧∃h n,w=⟨D a,u,h,n⟩∧J a h n) m ?_ a0 _ _ ⟨h0.fget,h,n,rfl,hJ⟩
 rintro a t w ⟨h1,h,n,rfl,h2⟩
 refine((step a t h n h2).pre h1).mono fun x t' w' q=>?_
 cases x with
 | normal=>exact q
 | exit i=>exact q
 | goto i=>exact q
 | ret=>exact q
 | panic c=>exact q
def RndD{α : Type}(l:List (Nat×Value))(t:Fr)(I: α→List (Nat×Value))(D: α→List Deferred)(J: α→zB→Nat→Prop)(m: α→Nat)(a: α)(d:List Deferred)(h:zB)(n:Nat):Prop:=∃a',m a'<m a∧Slots l t (I a')∧d=D a'∧J a' h n
section
variable {α : Type} {I: α→List (Nat×Value)} {D: α→List Deferred} {J: α→zB→Nat→Prop} {m: α→Nat} {a: α} {d:List Deferred} {u:Option zE} {Q:QX} {l:List (Nat×Value)} {t:Fr} {h:zB} {n:Nat} {w:W}
instance:Stp (lpQD I D J m a u Q .normal (FA l t) ⟨d,u,h,n⟩) (RndD l t I D J m a d h n):=⟨fun⟨a',h1,h2,h3,h4⟩=>⟨a',h1,h2.fget,h,n,by rw[h3],h4⟩⟩
instance {i:Nat}:Stp (lpQD I D J m a u Q (.exit i) t w) (Q (.exit i) t w):=⟨id⟩
instance:Stp (lpQD I D J m a u Q .ret t w) (Q .ret t w):=⟨id⟩
instance {c:zE}:Stp (lpQD I D J m a u Q (.panic c) t w) (Q (.panic c) t w):=⟨id⟩
end
def colD(rs:List Nat):List Deferred:=rs.map fun r=>{ target:=.collected r,args:= #[] }
theorem lv_col[Fit P ng]{fn:Func}{u:Option zE}{Q:Out→zB→Nat→Prop}{t:Fr}{n:Nat}{ds:List Deferred}:∀{rs:List Nat} {h:zB},rs.Nodup→(∀r∈rs,zF h r = .deferred true)→(∀h',(∀b,b∉rs→zF h' b=zF h b)→lvQ P ng none fn u Q t ⟨ds,u,h',n⟩)→lvQ P ng none fn u Q t ⟨colD rs++ds,u,h,n⟩:=by
 intro rs
 induction rs with
 | nil=>intro h _ _ k;exact k h fun _ _=>rfl
 | cons r rs ih=>
  intro h hn hh k;obtain⟨h1,h2⟩:=List.nodup_cons.1 hn;show lvQ P ng none fn u Q t ⟨{ target:=.collected r,args:= #[] }::(colD rs++ds),u,h,n⟩;refine st ?_;refine⟨hh r (List.mem_cons_self ..),?_⟩;refine ih h2 (fun x hx=>?_) fun h' e=>k h' fun b hb=>?_
  · rw[zP,if_neg (fun e:r=x=>h1 (by rw[e];exact hx))];exact hh x (List.mem_cons_of_mem _ hx)
  · rw[e b fun hx=>hb (List.mem_cons_of_mem _ hx),zP,if_neg (fun e2:r=b=>hb (by rw[← e2];exact List.mem_cons_self ..))]
theorem ret_col[Fit P ng]{fn:Func}{u:Option zE}{Q:Out→zB→Nat→Prop}{t:Fr}{n:Nat}{rs:List Nat}{h:zB}(hn:rs.Nodup)(hh:∀r∈rs,zF h r = .deferred true)(k:∀h',(∀b,b∉rs→zF h' b=zF h b)→lvQ P ng none fn u Q t ⟨[],u,h',n⟩):retQ P ng fn u Q .normal t ⟨colD rs,u,h,n⟩:=by
 have:=lv_col (ds:=[]) hn hh k;rw [List.append_nil]at this;exact this
theorem nm1{a b:Nat}(h:a≠b):a∉[b]:=fun hx=>h (List.mem_singleton.1 hx)
end
end Go.Ex
namespace Go.Ex
open Go.RowKit Classical
section
variable {P:Program} {ng:Nat}
theorem law_com{f:FuncId}{args args':List Value}{h:zB}{n:Nat}(r:Com P ng f args h n fun o _ _=>o = .ret (.bool true))(w:World){ρ : Inj}(hH:HeapR P ng ρ w.heap.size w h n w)(hra:RVs ρ args args') :
 Calls P f ⟨args'⟩ w fun e w'=>e = .returned (.bool true)∧Go.RowKit.Below w.heap.size w w':=by
 obtain⟨o,h',n',rfl,hc⟩:=r none;have hx:(loS P ng).call f args false none h n (finV (.bool true))=true:=loS_call.2 ⟨.ret (.bool true),none,h',n',rfl,hc⟩;obtain⟨o,u',h',n',hk,hc⟩:=calls_of vV hx;obtain rfl:=finV_ret hk;refine(hc ρ w.heap.size w w args' hH hra).mono fun e w' ⟨ρ',h1,h2,h3⟩=>?_
 cases e with
 | returned v'=>
  have h3:RV ρ' (.bool true) v':=h3;rw [h3.of_bool];exact⟨rfl,h1.below⟩
 | _=>cases h3
end
end Go.Ex
namespace Go.Proofs.YtcmohelnoldfbaaGreat
open Go.Ex
set_option maxRecDepth 100000
set_option maxHeartbeats 80000000
noncomputable abbrev P:=Tryz.prog
theorem prog_ok:zU 0 P=true:=by decide +kernel
theorem mixed:P.follows .mixedOrders=true:=by decide +kernel
instance:Fit P 0:=⟨prog_ok,mixed⟩
end Go.Proofs.YtcmohelnoldfbaaGreat
namespace Go.Proofs.YtcmohelnoldfbaaGreat
open Go.Ex
set_option maxRecDepth 1000000
instance i1:BoC P 2 Tryz.f2:=⟨fun c h=>by cases h;kernel_rfl⟩
instance i2:BoC P 3 Tryz.f3:=⟨fun c h=>by cases h;kernel_rfl⟩
instance i3:BoC P 4 Tryz.f4:=⟨fun c h=>by cases h;kernel_rfl⟩
instance i4:BoC P 5 Tryz.f5:=⟨fun c h=>by cases h;kernel_rfl⟩
instance i5:BoC P 6 Tryz.f6:=⟨fun c h=>by cases h;kernel_rfl⟩
instance i6:BoC P 7 Tryz.f7:=⟨fun c h=>by cases h;kernel_rfl⟩
instance i8:BoC P 9 Tryz.f9:=⟨fun c h=>by cases h;kernel_rfl⟩
instance i12:BoC P 13 Tryz.f13:=⟨fun c h=>by cases h;kernel_rfl⟩
instance i13:BoC P 14 Tryz.f14:=⟨fun c h=>by cases h;kernel_rfl⟩
instance i14:BoC P 15 Tryz.f15:=⟨fun c h=>by cases h;kernel_rfl⟩
instance i15:BoC P 16 Tryz.f16:=⟨fun c h=>by cases h;kernel_rfl⟩
instance i16:BoC P 17 Tryz.f17:=⟨fun c h=>by cases h;kernel_rfl⟩
instance i28:BoC P 29 Tryz.f29:=⟨fun c h=>by cases h;kernel_rfl⟩
instance i32:BoC P 33 Tryz.f33:=⟨fun c h=>by cases h;kernel_rfl⟩
instance i40:BoC P 41 Tryz.f41:=⟨fun c h=>by cases h;kernel_rfl⟩
instance i44:BoC P 45 Tryz.f45:=⟨fun c h=>by cases h;kernel_rfl⟩
instance i45:BoC P 46 Tryz.f46:=⟨fun c h=>by cases h;kernel_rfl⟩
instance i46:BoC P 47 Tryz.f47:=⟨fun c h=>by cases h;kernel_rfl⟩
instance i47:BoC P 48 Tryz.f48:=⟨fun c h=>by cases h;kernel_rfl⟩
instance i48:BoC P 49 Tryz.f49:=⟨fun c h=>by cases h;kernel_rfl⟩
instance i49:BoC P 50 Tryz.f50:=⟨fun c h=>by cases h;kernel_rfl⟩
instance i50:BoC P 51 Tryz.f51:=⟨fun c h=>by cases h;kernel_rfl⟩
instance i64:BoC P 65 Tryz.f65:=⟨fun c h=>by cases h;kernel_rfl⟩
instance i76:BoC P 77 Tryz.f77:=⟨fun c h=>by cases h;kernel_rfl⟩
instance i77:BoC P 78 Tryz.f78:=⟨fun c h=>by cases h;kernel_rfl⟩
instance i78:BoC P 79 Tryz.f79:=⟨fun c h=>by cases h;kernel_rfl⟩
instance i79:BoC P 80 Tryz.f80:=⟨fun c h=>by cases h;kernel_rfl⟩
instance i89:BoC P 90 Tryz.f90:=⟨fun c h=>by cases h;kernel_rfl⟩
instance i96:BoC P 97 Tryz.f97:=⟨fun c h=>by cases h;kernel_rfl⟩
instance i98:BoC P 99 Tryz.f99:=⟨fun c h=>by cases h;kernel_rfl⟩
instance i101:BoC P 102 Tryz.f102:=⟨fun c h=>by cases h;kernel_rfl⟩
instance i102:BoC P 103 Tryz.f103:=⟨fun c h=>by cases h;kernel_rfl⟩
instance i103:BoC P 104 Tryz.f104:=⟨fun c h=>by cases h;kernel_rfl⟩
instance i104:BoC P 105 Tryz.f105:=⟨fun c h=>by cases h;kernel_rfl⟩
instance i105:BoC P 106 Tryz.f106:=⟨fun c h=>by cases h;kernel_rfl⟩
instance i106:BoC P 107 Tryz.f107:=⟨fun c h=>by cases h;kernel_rfl⟩
instance i107:BoC P 108 Tryz.f108:=⟨fun c h=>by cases h;kernel_rfl⟩
instance i108:BoC P 109 Tryz.f109:=⟨fun c h=>by cases h;kernel_rfl⟩
instance i110:BoC P 111 Tryz.f111:=⟨fun c h=>by cases h;kernel_rfl⟩
instance i134:BoC P 135 Tryz.f135:=⟨fun c h=>by cases h;kernel_rfl⟩
instance i151:BoC P 152 Tryz.f152:=⟨fun c h=>by cases h;kernel_rfl⟩
instance i152:BoC P 153 Tryz.f153:=⟨fun c h=>by cases h;kernel_rfl⟩
instance i153:BoC P 154 Tryz.f154:=⟨fun c h=>by cases h;kernel_rfl⟩
instance i154:BoC P 155 Tryz.f155:=⟨fun c h=>by cases h;kernel_rfl⟩
instance i155:BoC P 156 Tryz.f156:=⟨fun c h=>by cases h;kernel_rfl⟩
instance i156:BoC P 157 Tryz.f157:=⟨fun c h=>by cases h;kernel_rfl⟩
instance i157:BoC P 158 Tryz.f158:=⟨fun c h=>by cases h;kernel_rfl⟩
instance i158:BoC P 159 Tryz.f159:=⟨fun c h=>by cases h;kernel_rfl⟩
instance i159:BoC P 160 Tryz.f160:=⟨fun c h=>by cases h;kernel_rfl⟩
instance i161:BoC P 162 Tryz.f162:=⟨fun c h=>by cases h;kernel_rfl⟩
instance i162:BoC P 163 Tryz.f163:=⟨fun c h=>by cases h;kernel_rfl⟩
instance i163:BoC P 164 Tryz.f164:=⟨fun c h=>by cases h;kernel_rfl⟩
instance i174:BoC P 175 Tryz.f175:=⟨fun c h=>by cases h;kernel_rfl⟩
instance i186:BoC P 187 Tryz.f187:=⟨fun c h=>by cases h;kernel_rfl⟩
instance i187:BoC P 188 Tryz.f188:=⟨fun c h=>by cases h;kernel_rfl⟩
instance i188:BoC P 189 Tryz.f189:=⟨fun c h=>by cases h;kernel_rfl⟩
instance i189:BoC P 190 Tryz.f190:=⟨fun c h=>by cases h;kernel_rfl⟩
instance i190:BoC P 191 Tryz.f191:=⟨fun c h=>by cases h;kernel_rfl⟩
instance i191:BoC P 192 Tryz.f192:=⟨fun c h=>by cases h;kernel_rfl⟩
instance i192:BoC P 193 Tryz.f193:=⟨fun c h=>by cases h;kernel_rfl⟩
instance i193:BoC P 194 Tryz.f194:=⟨fun c h=>by cases h;kernel_rfl⟩
instance i194:BoC P 195 Tryz.f195:=⟨fun c h=>by cases h;kernel_rfl⟩
instance i196:BoC P 197 Tryz.f197:=⟨fun c h=>by cases h;kernel_rfl⟩
instance i197:BoC P 198 Tryz.f198:=⟨fun c h=>by cases h;kernel_rfl⟩
instance i200:BoC P 201 Tryz.f201:=⟨fun c h=>by cases h;kernel_rfl⟩
instance i201:BoC P 202 Tryz.f202:=⟨fun c h=>by cases h;kernel_rfl⟩
instance i208:BoC P 209 Tryz.f209:=⟨fun c h=>by cases h;kernel_rfl⟩
instance i210:BoC P 211 Tryz.f211:=⟨fun c h=>by cases h;kernel_rfl⟩
instance i211:BoC P 212 Tryz.f212:=⟨fun c h=>by cases h;kernel_rfl⟩
instance i212:BoC P 213 Tryz.f213:=⟨fun c h=>by cases h;kernel_rfl⟩
instance i215:BoC P 216 Tryz.f216:=⟨fun c h=>by cases h;kernel_rfl⟩
instance i226:BoC P 227 Tryz.f227:=⟨fun c h=>by cases h;kernel_rfl⟩
instance i227:BoC P 228 Tryz.f228:=⟨fun c h=>by cases h;kernel_rfl⟩
instance i228:BoC P 229 Tryz.f229:=⟨fun c h=>by cases h;kernel_rfl⟩
instance i229:BoC P 230 Tryz.f230:=⟨fun c h=>by cases h;kernel_rfl⟩
instance i236:BoC P 237 Tryz.f237:=⟨fun c h=>by cases h;kernel_rfl⟩
instance i237:BoC P 238 Tryz.f238:=⟨fun c h=>by cases h;kernel_rfl⟩
instance i249:DrC P 14 6 [(0,0,0,false,[]),(1,0,0,false,[]),(2,0,0,false,[]),(3,0,0,false,[]),(4,0,0,false,[]),(5,0,0,false,[]),(6,0,0,false,[]),(7,0,0,false,[]),(8,0,0,true,[])]:=⟨by kernel_rfl⟩
instance i265:DrC P 41 8 [(0,0,0,false,[]),(1,0,0,false,[]),(2,0,0,false,[]),(3,0,0,false,[]),(4,0,0,false,[]),(5,0,0,false,[]),(6,0,0,false,[]),(7,0,0,false,[]),(8,0,0,true,[]),(9,0,0,true,[]),(10,0,0,true,[])]:=⟨by kernel_rfl⟩
instance i272:DrC P 46 2 [(0,0,0,false,[]),(1,0,0,false,[]),(2,0,0,false,[]),(3,0,0,false,[]),(4,0,0,false,[]),(5,0,0,false,[]),(6,0,0,true,[])]:=⟨by kernel_rfl⟩
instance i273:DrC P 46 3 [(0,0,0,false,[]),(1,0,0,false,[]),(2,0,0,false,[]),(3,0,0,false,[]),(4,0,0,false,[]),(5,0,0,true,[])]:=⟨by kernel_rfl⟩
instance i274:DrC P 46 11 [(2,0,0,false,[]),(3,0,0,false,[]),(4,0,0,false,[]),(5,0,0,false,[]),(6,0,0,false,[]),(7,0,0,false,[]),(8,0,0,false,[]),(9,0,0,false,[]),(10,0,0,false,[0,1]),(0,0,1,false,[]),(1,0,1,false,[]),(11,1,1,true,[]),(12,1,1,true,[])]:=⟨by kernel_rfl⟩
instance i276:DrC P 46 27 [(4,0,0,false,[]),(5,0,0,false,[]),(6,0,0,false,[]),(7,0,0,false,[]),(8,0,0,false,[]),(9,0,0,false,[0,1,2,3,11]),(0,0,1,false,[]),(1,0,1,false,[]),(2,0,1,false,[]),(3,0,1,false,[]),(10,1,1,false,[11]),(11,0,2,false,[]),(12,2,2,true,[])]:=⟨by kernel_rfl⟩
instance i277:DrC P 46 28 [(0,0,0,true,[]),(1,0,0,true,[]),(2,0,0,false,[]),(3,0,0,false,[]),(4,0,0,false,[]),(5,0,0,false,[]),(6,0,0,false,[]),(7,0,0,false,[]),(8,0,0,true,[]),(9,1,1,true,[]),(10,1,1,true,[]),(11,1,1,true,[]),(12,1,1,false,[]),(13,1,1,false,[]),(14,1,1,false,[]),(15,1,1,false,[]),(16,1,1,false,[]),(17,1,1,false,[]),(18,1,1,true,[]),(19,2,2,true,[]),(20,2,2,true,[]),(21,2,2,true,[])]:=⟨by kernel_rfl⟩
instance i278:DrC P 46 29 [(0,0,0,false,[]),(1,0,0,false,[]),(2,0,0,false,[]),(6,0,0,false,[]),(8,0,0,false,[]),(9,0,0,false,[3,4,5,7]),(3,0,1,false,[]),(4,0,1,false,[]),(5,0,1,false,[]),(7,0,1,false,[]),(10,1,1,true,[]),(11,1,1,true,[])]:=⟨by kernel_rfl⟩
instance i279:DrC P 48 2 [(1,0,0,false,[]),(2,0,0,false,[]),(3,0,0,false,[]),(4,0,0,false,[0]),(0,0,1,false,[]),(5,1,1,true,[]),(6,2,2,true,[])]:=⟨by kernel_rfl⟩
instance i280:DrC P 50 1 [(1,0,0,false,[]),(2,0,0,false,[]),(3,0,0,false,[0]),(0,0,1,false,[]),(4,1,1,true,[]),(5,2,2,true,[])]:=⟨by kernel_rfl⟩
instance i312:DrC P 103 1 [(1,0,0,false,[]),(2,0,0,false,[0,4]),(0,0,1,false,[]),(3,1,1,false,[4]),(4,0,2,false,[]),(5,2,2,true,[]),(6,3,3,true,[]),(7,4,4,true,[]),(8,5,5,true,[])]:=⟨by kernel_rfl⟩
instance i313:DrC P 105 4 [(0,0,0,false,[]),(1,0,0,false,[]),(2,0,0,false,[]),(3,0,0,false,[]),(4,0,0,false,[]),(5,0,0,false,[]),(6,0,0,false,[]),(7,0,0,false,[]),(8,0,0,false,[]),(9,0,0,false,[]),(10,0,0,false,[]),(11,0,0,false,[]),(12,0,0,false,[]),(13,0,0,true,[])]:=⟨by kernel_rfl⟩
instance i333:DrC P 154 15 [(5,0,0,false,[]),(6,0,0,false,[]),(7,0,0,false,[0,1,2,3,4,8,9,10,11]),(1,0,1,false,[]),(2,0,1,false,[]),(3,0,1,false,[]),(4,0,1,false,[]),(8,0,1,false,[]),(9,0,1,false,[]),(10,0,1,false,[]),(11,0,1,false,[]),(12,1,1,false,[0]),(0,0,2,false,[]),(13,2,2,true,[])]:=⟨by kernel_rfl⟩
instance i334:DrC P 154 18 [(0,0,0,false,[]),(1,0,0,false,[]),(2,0,0,false,[]),(3,0,0,false,[]),(4,0,0,false,[]),(5,0,0,false,[]),(6,0,0,false,[]),(7,0,0,false,[]),(8,0,0,false,[]),(9,0,0,true,[]),(10,1,1,true,[]),(11,1,1,false,[]),(12,1,1,false,[]),(13,1,1,false,[]),(14,1,1,true,[])]:=⟨by kernel_rfl⟩
instance i335:DrC P 154 20 [(6,0,0,false,[]),(7,0,0,false,[]),(8,0,0,false,[]),(9,0,0,false,[]),(10,0,0,false,[0,1,2,3,4,5]),(1,0,1,false,[]),(2,0,1,false,[]),(3,0,1,false,[]),(4,0,1,false,[]),(5,0,1,false,[]),(11,1,1,false,[0]),(0,0,2,false,[]),(12,2,2,true,[])]:=⟨by kernel_rfl⟩
instance i336:DrC P 156 1 [(0,0,0,false,[]),(1,0,0,false,[]),(2,0,0,false,[]),(3,0,0,false,[]),(4,0,0,false,[]),(5,0,0,true,[])]:=⟨by kernel_rfl⟩
instance i337:DrC P 156 10 [(4,0,0,false,[]),(5,0,0,false,[0,1,2,3,8]),(6,1,1,false,[0,1,2,3,8]),(0,0,2,false,[]),(1,0,2,false,[]),(2,0,2,false,[]),(3,0,2,false,[]),(7,2,2,false,[8]),(8,0,3,false,[]),(9,3,3,true,[])]:=⟨by kernel_rfl⟩
instance i339:DrC P 158 8 [(0,0,0,false,[]),(1,0,0,false,[]),(2,0,0,false,[]),(3,0,0,false,[]),(4,0,0,false,[]),(5,0,0,false,[]),(6,0,0,true,[])]:=⟨by kernel_rfl⟩
instance i342:DrC P 162 6 [(0,0,0,false,[]),(1,0,0,false,[]),(2,0,0,false,[]),(3,0,0,false,[]),(4,0,0,false,[]),(5,0,0,false,[]),(6,0,0,false,[]),(7,0,0,false,[]),(8,0,0,true,[])]:=⟨by kernel_rfl⟩
instance i351:DrC P 191 1 [(0,0,0,false,[]),(1,0,0,false,[]),(2,0,0,false,[]),(3,0,0,false,[]),(4,0,0,false,[]),(5,0,0,false,[]),(6,0,0,false,[]),(7,0,0,false,[]),(8,0,0,false,[]),(9,0,0,false,[]),(10,0,0,false,[]),(11,0,0,false,[]),(12,0,0,true,[]),(13,1,1,true,[]),(14,1,1,false,[]),(15,1,1,false,[]),(16,1,1,false,[]),(17,1,1,true,[])]:=⟨by kernel_rfl⟩
instance i352:DrC P 192 1 [(0,0,0,false,[]),(1,0,0,false,[]),(2,0,0,false,[]),(3,0,0,false,[]),(4,0,0,false,[]),(5,0,0,false,[]),(6,0,0,false,[]),(7,0,0,false,[]),(8,0,0,false,[]),(9,0,0,true,[]),(10,0,0,true,[])]:=⟨by kernel_rfl⟩
instance i353:DrC P 193 4 [(1,0,0,false,[]),(2,0,0,false,[]),(3,0,0,false,[0]),(0,0,1,false,[]),(4,1,1,true,[])]:=⟨by kernel_rfl⟩
instance i354:DrC P 193 7 [(1,0,0,false,[]),(2,0,0,false,[]),(3,0,0,false,[0]),(0,0,1,false,[]),(4,1,1,true,[])]:=⟨by kernel_rfl⟩
instance i355:DrC P 197 8 [(0,0,0,false,[]),(2,0,0,false,[]),(4,0,0,false,[]),(5,0,0,false,[]),(6,0,0,false,[1,3]),(1,0,1,false,[]),(3,0,1,false,[]),(7,1,1,true,[]),(8,1,1,true,[]),(9,1,1,true,[])]:=⟨by kernel_rfl⟩
instance i364:DrC P 209 4 [(0,0,0,false,[]),(1,0,0,false,[]),(2,0,0,false,[]),(3,0,0,false,[]),(4,0,0,false,[]),(5,0,0,false,[]),(6,0,0,true,[]),(7,1,1,true,[]),(8,1,1,false,[]),(9,1,1,false,[]),(10,1,1,false,[]),(11,1,1,true,[])]:=⟨by kernel_rfl⟩
instance i365:DrC P 209 5 [(1,0,0,false,[]),(2,0,0,false,[]),(6,0,0,false,[]),(7,0,0,false,[]),(8,0,0,false,[]),(9,0,0,false,[]),(10,0,0,false,[]),(11,0,0,false,[0,3,4,5]),(0,0,1,false,[]),(3,0,1,false,[]),(4,0,1,false,[]),(5,0,1,false,[]),(12,1,1,false,[]),(13,1,1,false,[]),(14,1,1,true,[])]:=⟨by kernel_rfl⟩
instance i366:DrC P 209 7 [(1,0,0,false,[]),(2,0,0,false,[]),(3,0,0,false,[0]),(4,1,1,false,[]),(8,1,1,false,[]),(9,1,1,false,[]),(10,1,1,false,[]),(11,1,1,false,[]),(12,1,1,false,[0,5,6,7]),(0,0,2,false,[]),(5,1,2,false,[]),(6,1,2,false,[]),(7,1,2,false,[]),(13,2,2,false,[]),(14,2,2,false,[]),(15,2,2,false,[]),(16,2,2,true,[])]:=⟨by kernel_rfl⟩
instance i368:DrC P 211 1 [(0,0,0,false,[]),(1,0,0,false,[]),(2,0,0,false,[]),(3,0,0,false,[]),(4,0,0,false,[]),(5,0,0,false,[]),(6,0,0,true,[]),(7,1,1,true,[]),(8,1,1,false,[]),(9,1,1,false,[]),(10,1,1,false,[]),(11,1,1,true,[])]:=⟨by kernel_rfl⟩
instance i369:DrC P 211 2 [(1,0,0,false,[]),(2,0,0,false,[]),(3,0,0,false,[]),(4,0,0,false,[0,5,6,7,8,9]),(5,0,1,false,[]),(6,0,1,false,[]),(7,0,1,false,[]),(8,0,1,false,[]),(9,0,1,false,[]),(10,1,1,false,[0]),(0,0,2,false,[]),(11,2,2,false,[]),(12,2,2,true,[])]:=⟨by kernel_rfl⟩
instance i370:DrC P 211 6 [(1,0,0,false,[]),(2,0,0,false,[]),(3,0,0,false,[0,4,5,6,7,8,9,10]),(4,0,1,false,[]),(5,0,1,false,[]),(6,0,1,false,[]),(7,0,1,false,[]),(8,0,1,false,[]),(9,0,1,false,[]),(10,0,1,false,[]),(11,1,1,false,[0]),(0,0,2,false,[]),(12,2,2,false,[]),(13,2,2,true,[])]:=⟨by kernel_rfl⟩
instance i371:DrC P 212 1 [(0,0,0,false,[]),(1,0,0,false,[]),(2,0,0,false,[]),(3,0,0,false,[]),(4,0,0,false,[5,6,7,10]),(5,0,1,false,[]),(6,0,1,false,[]),(7,0,1,false,[]),(8,1,1,false,[]),(9,1,1,false,[]),(10,0,1,false,[])]:=⟨by kernel_rfl⟩
instance i372:DrC P 212 4 [(5,0,0,false,[]),(6,0,0,false,[]),(7,0,0,false,[]),(8,0,0,false,[]),(9,0,0,false,[]),(10,0,0,false,[]),(11,0,0,false,[0,1,2,3,4,12]),(1,0,1,false,[]),(2,0,1,false,[]),(3,0,1,false,[]),(4,0,1,false,[]),(12,0,1,false,[]),(13,1,1,false,[0]),(0,0,2,false,[]),(14,2,2,true,[])]:=⟨by kernel_rfl⟩
instance i373:DrC P 212 6 [(1,0,0,false,[]),(2,0,0,false,[]),(3,0,0,false,[]),(4,0,0,false,[]),(9,0,0,false,[]),(10,0,0,false,[]),(11,0,0,false,[]),(12,0,0,false,[0,5,6,7,8,13,14,15,16]),(13,0,1,false,[]),(14,0,1,false,[]),(15,0,1,false,[]),(16,0,1,false,[]),(17,1,1,false,[0,5,6,7,8]),(5,0,2,false,[]),(6,0,2,false,[]),(7,0,2,false,[]),(8,0,2,false,[]),(18,2,2,false,[0]),(0,0,3,false,[]),(19,3,3,false,[]),(20,3,3,true,[])]:=⟨by kernel_rfl⟩
instance i374:DrC P 213 1 [(0,0,0,false,[]),(1,0,0,false,[]),(2,0,0,false,[]),(3,0,0,false,[]),(4,0,0,false,[]),(5,0,0,false,[]),(6,0,0,false,[]),(7,0,0,false,[]),(8,0,0,false,[]),(9,0,0,true,[]),(10,1,1,true,[]),(11,1,1,false,[]),(12,1,1,false,[]),(13,1,1,false,[]),(14,1,1,true,[])]:=⟨by kernel_rfl⟩
instance i399:DrC P 230 4 [(0,0,0,false,[]),(1,0,0,false,[]),(2,0,0,false,[]),(3,0,0,false,[]),(4,0,0,false,[]),(5,0,0,false,[]),(6,0,0,false,[]),(7,0,0,false,[]),(8,0,0,false,[]),(9,0,0,false,[]),(10,0,0,false,[]),(11,0,0,false,[]),(12,0,0,false,[]),(13,0,0,false,[]),(14,0,0,true,[]),(15,0,0,true,[])]:=⟨by kernel_rfl⟩
instance i400:DrC P 230 5 [(0,0,0,false,[]),(1,0,0,false,[]),(2,0,0,false,[]),(3,0,0,false,[]),(4,0,0,false,[]),(5,0,0,false,[]),(6,0,0,false,[]),(7,0,0,false,[]),(8,0,0,false,[]),(9,0,0,false,[]),(10,0,0,false,[]),(11,0,0,false,[]),(12,0,0,false,[]),(13,0,0,false,[]),(14,0,0,false,[]),(15,0,0,false,[]),(16,0,0,false,[]),(17,0,0,false,[]),(18,0,0,true,[]),(19,0,0,true,[])]:=⟨by kernel_rfl⟩
instance i409:ShC P 3 .scal:=⟨by kernel_rfl⟩
instance i410:ShC P 4 .scal:=⟨by kernel_rfl⟩
instance i411:ShC P 9 .scal:=⟨by kernel_rfl⟩
instance i414:ShC P 24 .scal:=⟨by kernel_rfl⟩
instance i415:ShC P 25 .scal:=⟨by kernel_rfl⟩
instance i417:ShC P 30 .scal:=⟨by kernel_rfl⟩
instance i419:ShC P 39 .scal:=⟨by kernel_rfl⟩
instance i420:ShC P 44 .scal:=⟨by kernel_rfl⟩
instance i421:ShC P 45 .scal:=⟨by kernel_rfl⟩
instance i422:ShC P 47 (.agg 9):=⟨by kernel_rfl⟩
instance i423:ShC P 51 .scal:=⟨by kernel_rfl⟩
instance i424:ShC P 53 (.agg 5):=⟨by kernel_rfl⟩
instance i427:ShC P 70 .scal:=⟨by kernel_rfl⟩
instance i432:ShC P 88 .scal:=⟨by kernel_rfl⟩
instance i433:ShC P 89 .scal:=⟨by kernel_rfl⟩
instance i434:ShC P 90 .scal:=⟨by kernel_rfl⟩
instance i435:ShC P 91 .scal:=⟨by kernel_rfl⟩
instance i436:ShC P 93 (.agg 1):=⟨by kernel_rfl⟩
instance i438:ShC P 105 (.agg 2):=⟨by kernel_rfl⟩
instance i447:ShC P 168 .scal:=⟨by kernel_rfl⟩
instance i452:ShC P 217 .scal:=⟨by kernel_rfl⟩
instance i457:ShC P 256 .scal:=⟨by kernel_rfl⟩
instance i458:ShC P 258 (.agg 10):=⟨by kernel_rfl⟩
instance i459:ShC P 259 .scal:=⟨by kernel_rfl⟩
instance i464:OfC P 27 3 3:=⟨by kernel_rfl⟩
instance i466:OfC P 27 5 5:=⟨by kernel_rfl⟩
instance i471:OfC P 47 0 0:=⟨by kernel_rfl⟩
instance i472:OfC P 47 1 1:=⟨by kernel_rfl⟩
instance i473:OfC P 47 2 2:=⟨by kernel_rfl⟩
instance i474:OfC P 47 3 3:=⟨by kernel_rfl⟩
instance i475:OfC P 47 5 5:=⟨by kernel_rfl⟩
instance i476:OfC P 47 6 6:=⟨by kernel_rfl⟩
instance i479:OfC P 53 0 0:=⟨by kernel_rfl⟩
instance i480:OfC P 53 1 1:=⟨by kernel_rfl⟩
instance i481:OfC P 53 2 2:=⟨by kernel_rfl⟩
instance i482:OfC P 53 3 3:=⟨by kernel_rfl⟩
instance i483:OfC P 53 4 4:=⟨by kernel_rfl⟩
instance i484:OfC P 69 0 0:=⟨by kernel_rfl⟩
instance i487:OfC P 72 1 1:=⟨by kernel_rfl⟩
instance i488:OfC P 72 2 3:=⟨by kernel_rfl⟩
instance i495:OfC P 93 0 0:=⟨by kernel_rfl⟩
instance i496:OfC P 95 0 0:=⟨by kernel_rfl⟩
instance i499:OfC P 95 3 10:=⟨by kernel_rfl⟩
instance i500:OfC P 95 4 11:=⟨by kernel_rfl⟩
instance i501:OfC P 95 5 12:=⟨by kernel_rfl⟩
instance i504:OfC P 95 8 15:=⟨by kernel_rfl⟩
instance i505:OfC P 95 9 16:=⟨by kernel_rfl⟩
instance i508:OfC P 95 12 19:=⟨by kernel_rfl⟩
instance i514:OfC P 105 0 0:=⟨by kernel_rfl⟩
instance i515:OfC P 105 1 1:=⟨by kernel_rfl⟩
instance i542:OfC P 219 0 0:=⟨by kernel_rfl⟩
instance i543:OfC P 219 1 1:=⟨by kernel_rfl⟩
instance i544:OfC P 219 2 6:=⟨by kernel_rfl⟩
instance i545:OfC P 219 3 7:=⟨by kernel_rfl⟩
instance i551:IxC P 24 (.slice 6):=⟨by kernel_rfl⟩
instance i552:IxC P 25 (.slice 1):=⟨by kernel_rfl⟩
instance i553:IxC P 44 (.slice 9):=⟨by kernel_rfl⟩
instance i554:IxC P 45 (.slice 1):=⟨by kernel_rfl⟩
instance i555:IxC P 51 (.slice 1):=⟨by kernel_rfl⟩
instance i558:IxC P 70 (.slice 2):=⟨by kernel_rfl⟩
instance i561:IxC P 89 (.slice 1):=⟨by kernel_rfl⟩
instance i562:IxC P 90 (.slice 1):=⟨by kernel_rfl⟩
instance i563:IxC P 91 (.slice 1):=⟨by kernel_rfl⟩
instance i564:IxC P 124 (.slice 1):=⟨by kernel_rfl⟩
instance i572:SlC P 45 3 1:=⟨by kernel_rfl⟩
instance i573:SlC P 91 168 1:=⟨by kernel_rfl⟩
instance i575:UnC P 4 .bool:=⟨by kernel_rfl⟩
instance i576:UnC P 9 .string:=⟨by kernel_rfl⟩
instance i578:UnC P 23 (.slice 36):=⟨by kernel_rfl⟩
instance i579:UnC P 24 (.slice 72):=⟨by kernel_rfl⟩
instance i580:UnC P 25 (.slice 9):=⟨by kernel_rfl⟩
instance i581:UnC P 30 (.pointer 95):=⟨by kernel_rfl⟩
instance i583:UnC P 44 (.slice 47):=⟨by kernel_rfl⟩
instance i584:UnC P 45 (.slice 3):=⟨by kernel_rfl⟩
instance i585:UnC P 51 (.slice 44):=⟨by kernel_rfl⟩
instance i587:UnC P 70 (.slice 69):=⟨by kernel_rfl⟩
instance i590:UnC P 89 (.slice 93):=⟨by kernel_rfl⟩
instance i591:UnC P 90 (.slice 89):=⟨by kernel_rfl⟩
instance i592:UnC P 91 (.slice 168):=⟨by kernel_rfl⟩
instance i596:IfC P 20:=⟨by kernel_rfl⟩
instance i598:MsC P 88 (.int .i64 0):=⟨9,3,by kernel_rfl,by kernel_rfl,by kernel_rfl⟩
instance i601:IkC P 48 .u64:=⟨by kernel_rfl⟩
instance i605:ApC P 23 23 36 2:=⟨by kernel_rfl⟩
instance i607:ApC P 25 25 9 1:=⟨by kernel_rfl⟩
instance i608:ApC P 44 44 47 9:=⟨by kernel_rfl⟩
instance i609:ApC P 45 45 3 1:=⟨by kernel_rfl⟩
instance i616:ApC P 91 91 168 1:=⟨by kernel_rfl⟩
instance i619:PlC P 3:=⟨by kernel_rfl⟩
instance i624:PlC P 200:=⟨by kernel_rfl⟩
instance i627:ZeC P 3 [.int .i64 0]:=⟨.int .i64 0,by kernel_rfl,rfl⟩
instance i633:ZeC P 39 [.int .i64 0]:=⟨.int .i64 0,by kernel_rfl,rfl⟩
instance i634:ZeC P 45 [.slice none 0 0]:=⟨.slice none 0 0,by kernel_rfl,rfl⟩
instance i635:ZeC P 47 [.int .i64 0,.int .i64 0,.int .i64 0,.int .i64 0,.int .i64 0,str [],.slice none 0 0,.int .i64 0,.int .i64 0]:=⟨.agg ⟨[.int .i64 0,.int .i64 0,.int .i64 0,.int .i64 0,.int .i64 0,str [],.slice none 0 0,.int .i64 0,.int .i64 0]⟩,by kernel_rfl,rfl⟩
instance i636:ZeC P 53 [str [],.slice none 0 0,.slice none 0 0,str [],.slice none 0 0]:=⟨.agg ⟨[str [],.slice none 0 0,.slice none 0 0,str [],.slice none 0 0]⟩,by kernel_rfl,rfl⟩
instance i641:ZeC P 93 [.slice none 0 0]:=⟨.agg ⟨[.slice none 0 0]⟩,by kernel_rfl,rfl⟩
instance i643:ZeC P 105 [.slice none 0 0,.slice none 0 0]:=⟨.agg ⟨[.slice none 0 0,.slice none 0 0]⟩,by kernel_rfl,rfl⟩
instance i653:ZeC P 258 [.nilFunc,.nilFunc,.nilFunc,.nilFunc,.nilFunc,.nilFunc,.nilFunc,.nilFunc,.nilFunc,.nilFunc]:=⟨.agg ⟨[.nilFunc,.nilFunc,.nilFunc,.nilFunc,.nilFunc,.nilFunc,.nilFunc,.nilFunc,.nilFunc,.nilFunc]⟩,by kernel_rfl,rfl⟩
instance i654:ZeC P 259 [.map none]:=⟨.map none,by kernel_rfl,rfl⟩
instance i658 {x1:Int}:BdC P 47 [(0,.int .i64 x1)] [.int .i64 x1,.int .i64 0,.int .i64 0,.int .i64 0,.int .i64 0,str [],.slice none 0 0,.int .i64 0,.int .i64 0]:=⟨by kernel_rfl⟩
instance i659 {x1:Int} {x2:Int} {x3:Int}:BdC P 47 [(0,.int .i64 x1),(1,.int .i64 x2),(4,.int .i64 x3)] [.int .i64 x1,.int .i64 x2,.int .i64 0,.int .i64 0,.int .i64 x3,str [],.slice none 0 0,.int .i64 0,.int .i64 0]:=⟨by kernel_rfl⟩
instance i660 {x1:Int} {x2:Int} {x3:ByteArray} {x4:Option Addr} {x5:Nat} {x6:Nat}:BdC P 47 [(0,.int .i64 x1),(1,.int .i64 x2),(5,.string x3),(6,.slice x4 x5 x6)] [.int .i64 x1,.int .i64 x2,.int .i64 0,.int .i64 0,.int .i64 0,.string x3,.slice x4 x5 x6,.int .i64 0,.int .i64 0]:=⟨by kernel_rfl⟩
instance i662 {x1:ByteArray} {x2:Option Addr} {x3:Nat} {x4:Nat} {x5:ByteArray} {x6:Option Addr} {x7:Nat} {x8:Nat}:BdC P 53 [(0,.string x1),(2,.slice x2 x3 x4),(3,.string x5),(4,.slice x6 x7 x8)] [.string x1,.slice none 0 0,.slice x2 x3 x4,.string x5,.slice x6 x7 x8]:=⟨by kernel_rfl⟩
instance i666 {x1:Option Addr} {x2:Nat} {x3:Nat}:BdC P 93 [(0,.slice x1 x2 x3)] [.slice x1 x2 x3]:=⟨by kernel_rfl⟩
instance i669 {x1:Option Addr} {x2:Nat} {x3:Nat} {x4:Option Addr} {x5:Nat} {x6:Nat}:BdC P 105 [(0,.slice x1 x2 x3),(1,.slice x4 x5 x6)] [.slice x1 x2 x3,.slice x4 x5 x6]:=⟨by kernel_rfl⟩
instance i679 {x1:Int}:BdC P 200 [(0,.int .i64 x1)] [.int .i64 x1]:=⟨by kernel_rfl⟩
instance i681 {x1:Option Addr} {x2:Value} {x3:Value} {x4:Value} {x5:Value} {x6:Value}:BdC P 219 [(0,.pointer x1),(1,.agg ⟨[x2,x3,x4,x5,x6]⟩)] [.pointer x1,x2,x3,x4,x5,x6,.int .i64 0,.int .i64 0]:=⟨by kernel_rfl⟩
instance i685  : BsC P 23 0 [] []:=⟨by kernel_rfl⟩
instance i690 {x1:ByteArray}:BsC P 25 1 [(0,.string x1)] [.string x1]:=⟨by kernel_rfl⟩
instance i692 {x1:Value} {x2:Value} {x3:Value} {x4:Value} {x5:Value} {x6:Value} {x7:Value} {x8:Value} {x9:Value}:BsC P 44 1 [(0,.agg ⟨[x1,x2,x3,x4,x5,x6,x7,x8,x9]⟩)] [x1,x2,x3,x4,x5,x6,x7,x8,x9]:=⟨by kernel_rfl⟩
instance i694  : BsC P 45 0 [] []:=⟨by kernel_rfl⟩
instance i695 {x1:Int}:BsC P 45 1 [(0,.int .i64 x1)] [.int .i64 x1]:=⟨by kernel_rfl⟩
instance i696 {x1:Int} {x2:Int}:BsC P 45 2 [(0,.int .i64 x1),(1,.int .i64 x2)] [.int .i64 x1,.int .i64 x2]:=⟨by kernel_rfl⟩
instance i697 {x1:Option Addr} {x2:Nat} {x3:Nat}:BsC P 51 1 [(0,.slice x1 x2 x3)] [.slice x1 x2 x3]:=⟨by kernel_rfl⟩
instance i707 {x1:Int}:BsC P 91 1 [(0,.int .u64 x1)] [.int .u64 x1]:=⟨by kernel_rfl⟩
end Go.Proofs.YtcmohelnoldfbaaGreat
namespace Go.Proofs.YtcmohelnoldfbaaGreat
open Go Go.Ex
set_option maxRecDepth 1000000
noncomputable def mkH(l:List (Nat×AObj)):zB:=l.foldr (fun p h=>h.set .dead p.2 p.1) .lF
abbrev smV:Value:=.agg ⟨[str [109],.slice (some ⟨16,0,none⟩) 4 inf,.slice (some ⟨19,0,none⟩) 1 1,.slice (some ⟨24,0,none⟩) 3 3,.slice (some ⟨25,0,none⟩) 1 1,str [114,48,48],.slice none 0 0,I64 (100)]⟩
noncomputable def smH:zB:=mkH [(16,mkC [str [114,48,48],I64 (8),I64 (0),.slice none 0 0,str [114,48,49],I64 (8),I64 (0),.slice none 0 0,str [114,48,50],I64 (8),I64 (0),.slice none 0 0,str [114,48,51],I64 (8),I64 (0),.slice none 0 0] 11338 1),(18,mkC [str [114,48,48],str [114,48,49],str [114,48,50],str [114,48,51]] 109 1),(19,mkC [str [103],.slice (some ⟨18,0,none⟩) 4 inf] 0 0),(21,mkC [str [103],str [],str [103],str []] 0 0),(22,mkC [str [103],str []] 0 0),(23,mkC [str [103],str [],str [103],str []] 0 0),(24,mkC [str [97,100,100],str [103],str [],.slice (some ⟨21,0,none⟩) 2 2,I64 (-1),.slice none 0 0,str [110,111,116],str [103],str [],.slice (some ⟨22,0,none⟩) 1 1,I64 (-1),.slice none 0 0,str [100,105,118],str [103],str [],.slice (some ⟨23,0,none⟩) 2 2,I64 (-1),.slice none 0 0] 0 0),(25,mkC [str [114,48,48]] 0 0)]
noncomputable def smO:Once:=⟨12,[I64 4],.lF,0,⟨smV,smH,26⟩⟩
abbrev btC:List Value:=[str [109],.slice (some ⟨347,0,none⟩) 4 inf,.slice (some ⟨349,0,none⟩) 1 inf,.slice (some ⟨351,0,none⟩) 3 inf,.slice (some ⟨361,0,none⟩) 1 inf,str [114,48,48],.slice none 0 0,I64 (100),.slice (some ⟨436,0,none⟩) 4 inf,.slice (some ⟨438,0,none⟩) 4 inf,.map (some 440),.map (some 477),.map (some 478),.slice (some ⟨562,0,none⟩) 4 inf,.slice (some ⟨453,0,none⟩) 1 inf,.slice (some ⟨467,0,none⟩) 1 inf,.slice (some ⟨617,0,none⟩) 3 inf,.slice (some ⟨601,0,none⟩) 3 inf,.slice none 0 0,.slice (some ⟨564,0,none⟩) 1 inf,.slice none 0 0]
abbrev oBC:List Value:=[str [97,100,100],str [103],str [],.slice (some ⟨355,0,none⟩) 2 inf,I64 (-1),.slice none 0 0,str [110,111,116],str [103],str [],.slice (some ⟨357,0,none⟩) 1 inf,I64 (-1),.slice none 0 0,str [100,105,118],str [103],str [],.slice (some ⟨359,0,none⟩) 2 inf,I64 (-1),.slice none 0 0]
noncomputable abbrev rBM:List MapEntry:=[⟨str [114,48,48],I64 (0),0⟩,⟨str [114,48,49],I64 (1),1⟩,⟨str [114,48,50],I64 (2),2⟩,⟨str [114,48,51],I64 (3),3⟩]
noncomputable abbrev cBM:List MapEntry:=[⟨str [103],I64 (0),0⟩]
noncomputable abbrev qBM:List MapEntry:=[⟨str [97,100,100],I64 (0),0⟩,⟨str [110,111,116],I64 (1),1⟩,⟨str [100,105,118],I64 (2),2⟩]
abbrev iBC:List Value:=[.slice (some ⟨464,0,none⟩) 1 1]
abbrev mBC:List Value:=[.slice (some ⟨581,0,none⟩) 3 inf,.slice (some ⟨596,0,none⟩) 2 inf,.slice (some ⟨615,0,none⟩) 3 inf]
abbrev aBC:List Value:=[I64 (0)]
abbrev uBC:List Value:=[str [103],str [],str [103],str []]
abbrev wBC:List Value:=[.int .u64 15]
noncomputable def tbH:zB:=mkH [(362,mkC btC 96 0),(351,mkC oBC 6156 1),(440,.map rBM 4),(477,.map cBM 1),(478,.map qBM 3),(467,mkC iBC 8929 1),(617,mkC mBC 8189 1),(564,mkC aBC 19 1),(355,mkC uBC 5110 1),(464,mkC wBC 28729 1)]
noncomputable def tbO:Once:=⟨11,[smV],smH,26,⟨.tuple ⟨[ptr 362 0,I64 0]⟩,tbH,625⟩⟩
noncomputable def lo0:Lo:=run P 1000000
theorem smO_run:smO.run lo0=true:=by kernel_rfl
theorem tbO_run:tbO.run lo0=true:=by kernel_rfl
theorem lo0_ok:Sound P 0 lo0:=sound prog_ok mixed 1000000
theorem small4_com:Ret P 0 12 [I64 4] .lF 0 fun v h' n'=>v=smV∧h'=smH∧n'=26:=fun u=>⟨_,_,_,⟨_,rfl,rfl,rfl,rfl⟩,once_to lo0_ok smO_run u (Sub.refl _)⟩
theorem make4_com:Ret P 0 11 [smV] smH 26 fun v h' n'=>v = .tuple ⟨[ptr 362 0,I64 0]⟩∧h'=tbH∧n'=625:=fun u=>⟨_,_,_,⟨_,rfl,rfl,rfl,rfl⟩,once_to lo0_ok tbO_run u (Sub.refl _)⟩
theorem cel_of{h:zB}{b z kd:Nat}{vs:List Value}(e:zF h b=mkC vs z kd):Cel h b z kd vs:=⟨by rw[e];exact infoOf_mkC vs z kd,fun i=>by unfold zJ;rw [e];exact wX vs z kd i⟩
theorem bt_cel:Cel tbH 362 96 0 btC:=cel_of (by kernel_rfl)
theorem oB_cel:Cel tbH 351 6156 1 oBC:=cel_of (by kernel_rfl)
theorem rB_map:MpS tbH 440 [([114,48,48],I64 (0)),([114,48,49],I64 (1)),([114,48,50],I64 (2)),([114,48,51],I64 (3))]:=⟨_,4,(by kernel_rfl:zF tbH 440 = .map rBM 4),rfl⟩
theorem cB_map:MpS tbH 477 [([103],I64 (0))]:=⟨_,1,(by kernel_rfl:zF tbH 477 = .map cBM 1),rfl⟩
theorem qB_map:MpS tbH 478 [([97,100,100],I64 (0)),([110,111,116],I64 (1)),([100,105,118],I64 (2))]:=⟨_,3,(by kernel_rfl:zF tbH 478 = .map qBM 3),rfl⟩
theorem iB_cel:Cel tbH 467 8929 1 iBC:=cel_of (by kernel_rfl)
theorem mB_cel:Cel tbH 617 8189 1 mBC:=cel_of (by kernel_rfl)
theorem aB_cel:Cel tbH 564 19 1 aBC:=cel_of (by kernel_rfl)
theorem uB_cel:Cel tbH 355 5110 1 uBC:=cel_of (by kernel_rfl)
theorem wB_cel:Cel tbH 464 28729 1 wBC:=cel_of (by kernel_rfl)
end Go.Proofs.YtcmohelnoldfbaaGreat
namespace Go.Ex.M
structure Pl where
  root:Int
  at_:Int
  width:Int
 deriving DecidableEq
def Go64(x:Int):Prop:= -9223372036854775808≤x∧x<9223372036854775808
def lapP(a b:Pl):Prop:=a.root=b.root∧1≤a.width∧1≤b.width∧(if b.at_<a.at_ then a.at_ - b.at_<b.width else b.at_ - a.at_<a.width)
instance (a b:Pl):Decidable (lapP a b):=by unfold lapP;exact inferInstance
def lapB(a b:Pl):Bool:=decide (lapP a b)
def withinP(a b:Pl):Prop:=a.root=b.root∧(a.width<1∨(1≤b.width∧b.at_≤a.at_∧a.at_ - b.at_≤b.width∧a.width≤b.width - (a.at_ - b.at_)))
instance (a b:Pl):Decidable (withinP a b):=by unfold withinP;exact inferInstance
end Go.Ex.M
namespace Go.Ex.M
abbrev Tx:=List UInt8
def letB(c:Nat):Bool:=decide ((97≤c∧c≤122)∨(65≤c∧c≤90)∨c=95)
def digB(c:Nat):Bool:=decide (48≤c∧c≤57)
def tailB(s:Tx):Bool:=s.all fun c=>letB c.toNat || digB c.toNat
def nameB:Tx→Bool
 | []=>false
 | c::r=>decide ((c::r).length≤20) && letB c.toNat && tailB (c::r)
def pos(ss:List Tx)(x:Tx):Int:=if x∈ss then(ss.idxOf x:Nat) else -1
end Go.Ex.M
namespace Go.Ex.M
theorem finB{z:Bool}{p:Prop}{_i:Decidable p}{h:zB}{n:Nat}(hz:z=true↔p):Out.ret (.bool z)=Out.ret (.bool (decide p))∧h=h∧n=n:=⟨by
 cases z with
 | true=>rw [decide_eq_true (hz.1 rfl)]
 | false=>rw [decide_eq_false fun e=>Bool.noConfusion (hz.2 e)],rfl,rfl⟩
theorem fin{v w:Value}{h:zB}{n:Nat}(e:v=w):Out.ret v=Out.ret w∧h=h∧n=n:=⟨by rw[e],rfl,rfl⟩
theorem finT{S:List Nat}{v w:Value}{h h':zB}{n n':Nat}(e:v=w)(t:Tch S h n h' n'):Out.ret v=Out.ret w∧Tch S h n h' n':=⟨by rw[e],t⟩
def wordsL:List Tx:=[[109,97,99,104,105,110,101],[114,101,103],[97,116],[99,108,97,115,115],[111,112],[116,105,101],[99,108,111,98],[97,114,103,115],[114,101,115,117,108,116],[115,97,118,101,100],[115,108,111,116,115]]
def wordB(s:Tx):Bool:=decide (s∈wordsL)
def named(s:Tx):Bool:=nameB s && !wordB s
def posF{α : Type}(p: α→Bool)(l:List α):Int:=if l.any p then(l.findIdx p:Nat) else -1
theorem flat_at{α : Type}{f: α→List Value}{sz:Nat}(hf:∀x,(f x).length=sz):∀{l:List α} {k j:Nat} {x: α} {v:Value},l[k]? = some x→(f x)[j]? = some v→(l.flatMap f)[k*sz+j]? = some v:=by
 intro l
 induction l with
 | nil=>intro k j x v h;cases h
 | cons y r ih =>
  intro k j x v h1 h2;rw [List.flatMap_cons]
  cases k with
  | zero=>
   cases h1
   rw[Nat.zero_mul,Nat.zero_add,List.getElem?_append_left (List.getElem?_eq_some_iff.1 h2).1];exact h2
  | succ k=>
   rw[List.getElem?_cons_succ]at h1;rw [List.getElem?_append_right (by rw[hf];have:=Nat.add_one_mul k sz;omega),hf,show(k+1)*sz+j - sz=k*sz+j by have:=Nat.add_one_mul k sz;omega];exact ih h1 h2
theorem rd_of{h:zB}{b:Nat}:∀{sz o:Nat} {vs:List Value},vs.length=sz→(∀j v,vs[j]? = some v→zJ h b (o+j)=some v)→Rd h b o sz vs:=by
 intro sz
 induction sz with
 | zero=>intro o vs h1 _;exact List.length_eq_zero_iff.1 h1
 | succ k ih=>
  intro o vs h1 h2
  cases vs with
  | nil=>cases h1
  | cons x r=>exact⟨x,r,rfl,h2 0 x rfl,ih (by simpa using h1) fun j v hj=>by have:=h2 (j+1) v (by simpa using hj);rwa [show o+(j+1)=o+1+j by omega]at this⟩
theorem row_el{α : Type}{f: α→List Value}{sz lo e len:Nat}{h:zB}{v:Value}{l:List α}{k:Nat}{x: α}(r:Row lo h v e sz len (l.flatMap f))(hk:l[k]? = some x)(hf:∀x,(f x).length=sz:=by intro _;rfl):Rd h (sbk v) (sof v+k*sz) sz (f x):=
 rd_of (hf x) fun j w hj=>by rw[Nat.add_assoc];exact r.at (flat_at hf hk hj)
theorem row_e1{α : Type}{g: α→Value}{lo e len:Nat}{h:zB}{v:Value}{l:List α}{k:Nat}{x: α}(r:Row lo h v e 1 len (l.map g))(hk:l[k]? = some x):zJ h (sbk v) (sof v+k*1)=some (g x):=by
 rw[Nat.mul_one];exact r.at (by rw[List.getElem?_map,hk];rfl)
theorem tail_step{s:Tx}{k:Nat}(h:k<s.length):tailB s=true→letB s[k].toNat=true∨digB s[k].toNat=true:=fun ht=>by
 have:=List.all_eq_true.1 ht s[k] (List.getElem_mem h);simpa using this
theorem tail_all{s:Tx}(hno:∀j (hj:j<s.length),letB s[j].toNat=true∨digB s[j].toNat=true):tailB s=true:=by
 refine List.all_eq_true.2 fun c hc=>?_;obtain⟨j,hj,rfl⟩:=List.mem_iff_getElem.1 hc;have:=hno j hj;simpa using this
end Go.Ex.M
namespace Go.Ex.M
structure ClassT where
 name:Tx
 rsv:Value
 regs:List Tx
structure OperT where
  cls:Tx
  fix:Tx
 deriving DecidableEq
structure OpT where
 name:Tx
 d:OperT
 usv:Value
 uses:List OperT
 tie:Int
 csv:Value
 clob:List Tx
inductive RegT where
 | mk (name:Tx) (w a:Int) (sv:Value) (subs:List RegT)
structure MachT where
 name:Tx
 rsv:Value
 regs:List RegT
 csv:Value
 classes:List ClassT
 osv:Value
 ops:List OpT
 asv:Value
 args:List Tx
 result:Tx
 ssv:Value
 saved:List Tx
 slots:Int
def RegT.name:RegT→Tx | .mk n _ _ _ _=>n
def RegT.w:RegT→Int | .mk _ w _ _ _=>w
def RegT.a:RegT→Int | .mk _ _ a _ _=>a
def RegT.sv:RegT→Value | .mk _ _ _ s _=>s
def RegT.subs:RegT→List RegT | .mk _ _ _ _ l=>l
abbrev regC(r:RegT):List Value:=[str r.name,I64 r.w,I64 r.a,r.sv]
abbrev clsC(c:ClassT):List Value:=[str c.name,c.rsv]
abbrev oprC(o:OperT):List Value:=[str o.cls,str o.fix]
abbrev opC(o:OpT):List Value:=[str o.name,str o.d.cls,str o.d.fix,o.usv,I64 o.tie,o.csv]
def RowA(lo:Nat)(h:zB)(v:Value)(sz len:Nat)(vs:List Value):Prop:=∀e,Row lo h v e sz len vs
theorem RowA.lt{lo:Nat}{h:zB}{v:Value}{sz len:Nat}{vs:List Value}(r:RowA lo h v sz len vs):len<inf:=by
 rcases r 0 with⟨_,rfl,_⟩|⟨b,off,cap,m,z,kd,_,rfl,_,h1,_,_,h2⟩
 · decide
 · rcases h2 with h2|⟨rfl,rfl,rfl,h3⟩
   · omega
   · rcases r 1 with⟨h4,_⟩|⟨b',off',cap',m',z',kd',_,h4,_,h5,_,_,h6⟩
     · cases h4
     · injection h4 with h7 h8 h9
       injection h7 with h7;injection h7 with h7 _
       subst h7 h9;rw [h1]at h5;injection h5 with h5
       injection h5 with _ h5
       injection h5 with h5 _
       subst h5;rcases h6 with h6|⟨_,_,h6,_⟩
       · omega
       · have:=(zc_inj h6).1;omega
structure RowI (lo:Nat) (h:zB) (v:Value) (sz len:Nat) (vs:List Value):Prop where
 lt:len<inf
 ex:∃e,Row lo h v e sz len vs
instance {lo:Nat} {h:zB} {v:Value} {sz len:Nat} {vs:List Value}:CoeFun (RowI lo h v sz len vs) (fun r=>Nat→Row lo h v r.ex.choose sz len vs):=⟨fun r _=>r.ex.choose_spec⟩
structure RowT (e lo:Nat) (h:zB) (v:Value) (sz len:Nat) (vs:List Value):Prop where
 lt:len<inf
 r:Row lo h v e sz len vs
instance {e lo:Nat} {h:zB} {v:Value} {sz len:Nat} {vs:List Value}:CoeFun (RowT e lo h v sz len vs) (fun _=>Nat→Row lo h v e sz len vs):=⟨fun r _=>r.r⟩
section
variable {e lo:Nat} {h h':zB} {v:Value} {sz len n n':Nat} {vs:List Value}
theorem RowA.tch(r:RowA lo h v sz len vs)(t:Tch [] h n h' n')(hl:lo≤n):RowA lo h' v sz len vs:=fun e=>(r e).tch t hl fun _ _ hx=>by cases hx
theorem RowI.tch(r:RowI lo h v sz len vs)(t:Tch [] h n h' n')(hl:lo≤n):RowI lo h' v sz len vs:=⟨r.lt,_,(r 0).tch t hl fun _ _ hx=>by cases hx⟩
end
def RegsM(lo:Nat)(h:zB)(sv:Value)(l:List RegT):Prop:=RowT 102 lo h sv 4 l.length (l.flatMap regC)∧∀r,(_:r∈l)→RegsM lo h r.sv r.subs
 termination_by SizeOf.sizeOf l
 decreasing_by
  rename_i hr;have h1:=List.sizeOf_lt_of_mem hr;cases r
  simp only[RegT.subs];simp at h1;omega
structure MachM (lo:Nat) (h:zB) (m:MachT):Prop where
 regs:RegsM lo h m.rsv m.regs
 cls:RowA lo h m.csv 2 m.classes.length (m.classes.flatMap clsC)
 clsr:∀c∈m.classes,RowT 9 lo h c.rsv 1 c.regs.length (c.regs.map str)
 ops:RowA lo h m.osv 6 m.ops.length (m.ops.flatMap opC)
 opsu:∀o∈m.ops,RowA lo h o.usv 2 o.uses.length (o.uses.flatMap oprC)
 opsc:∀o∈m.ops,RowA lo h o.csv 1 o.clob.length (o.clob.map str)
 args:RowA lo h m.asv 1 m.args.length (m.args.map str)
 saved:RowA lo h m.ssv 1 m.saved.length (m.saved.map str)
 slots:Go64 m.slots
def ar2:List Tx:=[[97,100,100],[115,117,98],[109,117,108],[97,110,100],[111,114],[120,111,114],[115,104,108],[115,104,114],[100,105,118],[114,101,109],[108,116],[101,113]]
def arity(s:Tx):Int:=if s∈ar2 then 2 else if s=[110,111,116] then 1 else 0
end Go.Ex.M
namespace Go.Ex.M
def tMax:Nat:=1125899906842624
def TxtR(l:List RegT):Prop:=l.length<tMax∧∀r,(_:r∈l)→r.name.length<tMax∧TxtR r.subs
 termination_by SizeOf.sizeOf l
 decreasing_by
  rename_i hr;have h1:=List.sizeOf_lt_of_mem hr;cases r
  simp only[RegT.subs];simp at h1;omega
def TxtL(l:List Tx):Prop:=l.length<tMax∧∀x∈l,x.length<tMax
structure TxtM (m:MachT):Prop where
 nm:m.name.length<tMax
 rg:TxtR m.regs
 cll:m.classes.length<tMax
 cl:∀c∈m.classes,c.name.length<tMax∧TxtL c.regs
 opl:m.ops.length<tMax
 op:∀o∈m.ops,o.name.length<tMax∧o.d.cls.length<tMax∧o.d.fix.length<tMax∧o.uses.length<tMax∧(∀x∈o.uses,x.cls.length<tMax∧x.fix.length<tMax)∧TxtL o.clob
 ar:TxtL m.args
 re:m.result.length<tMax
 sv:TxtL m.saved
end Go.Ex.M
namespace Go.Ex.M
def plcOf(ns:List Tx)(ps:List Pl)(x:Tx):Pl:=ps.getD (ns.idxOf x) ⟨0,0,0⟩
def classOf(m:MachT)(x:Tx):Option ClassT:=m.classes.find? fun c=>decide (c.name=x)
def clsPos(m:MachT)(x:Tx):Int:=posF (fun c=>decide (c.name=x)) m.classes
def oprOK(m:MachT)(o:OperT):Bool:=match classOf m o.cls with
 | none=>false
 | some c=>decide (o.fix=[]) || decide (o.fix∈c.regs)
def wdOf(ns:List Tx)(ps:List Pl)(c:ClassT):Int:=match c.regs with
 | []=>0
 | r::_=>(plcOf ns ps r).width
end Go.Ex.M
namespace Go.Ex.M
def preL:Nat→Int→List RegT→List (RegT×Int)
 | 0,_,_=>[]
 | k+1,d,l=>l.flatMap fun r=>(r,d)::preL k (d+1) r.subs
end Go.Ex.M
namespace Go.Ex.M
structure GSt where
 ns:List Tx
 ps:List Pl
def gPl(d:Int)(base:Pl)(sibs:List Pl)(r:RegT):Pl:=if d=1 then⟨(sibs.length:Nat),r.a,r.w⟩ else⟨base.root,base.at_+r.a,r.w⟩
def gOne(d:Int)(base:Pl)(sibs:List Pl)(s:GSt)(r:RegT):Except Int Pl:=
 if 6<d then .error 4
 else if 200≤s.ns.length then .error 2
 else if named r.name=false∨r.name∈s.ns then .error 5
 else if r.w<1∨64<r.w∨r.a<0∨(d=1∧r.a≠0)∨(d≠1∧base.width - r.w<r.a) then .error 6
 else if sibs.any (lapB (gPl d base sibs r)) then .error 7
 else .ok (gPl d base sibs r)
def gStep(rec:Pl→List RegT→GSt→Except Int GSt)(d:Int)(base:Pl)(acc:Except Int (List Pl×GSt))(r:RegT):Except Int (List Pl×GSt):=match acc with
 | .error e=>.error e
 | .ok x => match gOne d base x.1 x.2 r with
  | .error e=>.error e
  | .ok p=>match rec p r.subs ⟨x.2.ns++[r.name],x.2.ps++[p]⟩ with
   | .error e=>.error e
   | .ok s'=>.ok (x.1++[p],s')
def gDown:Nat→Int→Pl→List RegT→GSt→Except Int GSt
 | 0,_,_,_,s=>.ok s
 | k+1,d,base,l,s=>match l.foldl (gStep (gDown k (d+1)) d base) (.ok ([],s)) with
  | .error e=>.error e
  | .ok x=>.ok x.2
def geoP(l:List RegT):Except Int GSt:=gDown 7 1 ⟨0,0,0⟩ l ⟨[],[]⟩
section
variable {rec:Pl→List RegT→GSt→Except Int GSt} {d:Int} {base:Pl} {sibs:List Pl} {s s':GSt} {r:RegT} {p:Pl} {e:Int}
end
structure WSt where
 ns:List Tx
 ps:List Pl
 ways:List (Pl×List Pl)
def wStep(acc:Except Int WSt)(e:RegT×Int):Except Int WSt:=match acc with
 | .error x=>.error x
 | .ok w => match w.ways[(e.2 - 1).toNat]? with
  | none=>.error 0
  | some top=>match gOne e.2 top.1 top.2 ⟨w.ns,w.ps⟩ e.1 with
   | .error x=>.error x
   | .ok p=>.ok ⟨w.ns++[e.1.name],w.ps++[p],w.ways.take (e.2 - 1).toNat++[(top.1,top.2++[p]),(p,[])]⟩
def Sub(k:Nat):Prop:=∀(d:Int) (p:Pl) (subs:List RegT) (s:GSt) (stk:List (Pl×List Pl)),0<d→(stk.length:Int)=d→
 (∃e,(preL k (d+1) subs).foldl wStep (.ok ⟨s.ns,s.ps,stk++[(p,[])]⟩) = .error e∧gDown k (d+1) p subs s = .error e)∨
 ∃s' rest,(preL k (d+1) subs).foldl wStep (.ok ⟨s.ns,s.ps,stk++[(p,[])]⟩) = .ok ⟨s'.ns,s'.ps,stk++rest⟩∧gDown k (d+1) p subs s = .ok s'
def PlG(p:Pl):Prop:=0≤p.at_∧1≤p.width∧p.at_+p.width≤64
structure GOK (s:GSt):Prop where
 nd:s.ns.Nodup
 len:s.ps.length=s.ns.length
 le:s.ns.length≤200
 pl:∀p∈s.ps,PlG p
 nm:∀x∈s.ns,named x=true
end Go.Ex.M
namespace Go.Ex.M
def FirstE{α : Type}(l:List α)(E:Nat→α→Int→Prop)(e:Int):Prop:=(e=0∧∀(i:Nat) x,l[i]? = some x→E i x 0)∨∃(i:Nat) (x: α),l[i]? = some x∧(∀(j:Nat) y,j<i→l[j]? = some y→E j y 0)∧e≠0∧E i x e
def nameOKc(m:MachT)(ns:List Tx)(i:Nat)(c:ClassT):Prop:=named c.name=true∧clsPos m c.name=(i:Nat)∧c.name∉ns
def regOKc(ns:List Tx)(ps:List Pl)(c:ClassT)(j:Nat)(r:Tx):Prop:=r∈ns∧pos c.regs r=(j:Nat)∧(plcOf ns ps r).width=wdOf ns ps c
def restOKc(ns:List Tx)(ps:List Pl)(c:ClassT):Prop:=1≤c.regs.length∧c.regs.length≤64∧∀(j:Nat) r,c.regs[j]? = some r→regOKc ns ps c j r
def clsE(m:MachT)(ns:List Tx)(ps:List Pl)(i:Nat)(c:ClassT)(e:Int):Prop:=(e=0∧nameOKc m ns i c∧restOKc ns ps c)∨(e=5∧¬nameOKc m ns i c)∨(e=8∧nameOKc m ns i c∧¬restOKc ns ps c)
def ClsErr(m:MachT)(ns:List Tx)(ps:List Pl)(e:Int):Prop:=(e=2∧64<m.classes.length)∨(m.classes.length≤64∧FirstE m.classes (clsE m ns ps) e)
def wdC(m:MachT)(ns:List Tx)(ps:List Pl)(x:Tx):Int:=match classOf m x with
 | some c=>wdOf ns ps c
 | none=>0
def nameOKo(m:MachT)(i:Nat)(o:OpT):Prop:=0<arity o.name∧posF (fun x:OpT=>decide (x.name=o.name)) m.ops=(i:Nat)
def useOKo(m:MachT)(ns:List Tx)(ps:List Pl)(o:OpT)(u:OperT):Prop:=oprOK m u=true∧wdC m ns ps u.cls=wdC m ns ps o.d.cls
def clobOKo(ns:List Tx)(o:OpT)(j:Nat)(r:Tx):Prop:=r∈ns∧pos o.clob r=(j:Nat)
def restOKo(m:MachT)(ns:List Tx)(ps:List Pl)(o:OpT):Prop:=((o.uses.length:Nat):Int)=arity o.name∧oprOK m o.d=true∧(∀(j:Nat) u,o.uses[j]? = some u→useOKo m ns ps o u)∧-1≤o.tie∧o.tie<o.uses.length∧(0≤o.tie→o.uses[o.tie.toNat]? = some o.d)∧o.clob.length≤64∧∀(j:Nat) r,o.clob[j]? = some r→clobOKo ns o j r
def opE(m:MachT)(ns:List Tx)(ps:List Pl)(i:Nat)(o:OpT)(e:Int):Prop:=(e=0∧nameOKo m i o∧restOKo m ns ps o)∨(e=5∧¬nameOKo m i o)∨(e=9∧nameOKo m i o∧¬restOKo m ns ps o)
def OpsErr(m:MachT)(ns:List Tx)(ps:List Pl)(e:Int):Prop:=(e=2∧64<m.ops.length)∨(m.ops.length≤64∧FirstE m.ops (opE m ns ps) e)
def convOK(m:MachT)(ns:List Tx)(ps:List Pl)(apart:List Tx→Int→Prop):Prop:=apart m.args 16∧m.result∈ns∧apart m.saved 64∧(∀(i:Nat) x,m.saved[i]? = some x→lapB (plcOf ns ps x) (plcOf ns ps m.result)=false)∧0≤m.slots∧m.slots≤1000∧∀(i:Nat) x,(m.args++[m.result])[i]? = some x→m.classes.any (fun c=>decide (x∈c.regs))=true
def apOK(ns:List Tx)(ps:List Pl)(l:List Tx)(i:Nat)(x:Tx):Prop:=x∈ns∧∀(j:Nat) y,j<i→l[j]? = some y→lapB (plcOf ns ps x) (plcOf ns ps y)=false
def apartOK(ns:List Tx)(ps:List Pl)(l:List Tx)(most:Int):Prop:=(l.length:Nat)≤most∧∀(i:Nat) x,l[i]? = some x→apOK ns ps l i x
theorem vX{α : Type}{l:List α}{i:Nat}{x: α}(h:l[i]? = some x):l.take (i+1)=l.take i++[x]:=by
 rw[List.take_add_one,h];rfl
theorem xN{lo n:Nat}{h:zB}{v:Value}{e sz len:Nat}{vs:List Value}(r:Own lo n h v e sz len vs):∀x∈(yL v).toList,lo≤x:=fun x hx=>by
 cases hb:yL v with
 | none=>rw [hb]at hx;cases hx
 | some b=>rw [hb]at hx;simp at hx;subst hx;exact(r.blk hb).1
end Go.Ex.M
namespace Go.Ex.M
def mayF(o:OperT)(r:Tx):Bool:=decide (o.fix=[]) || decide (o.fix=r)
def mayL(m:MachT)(ns:List Tx)(ps:List Pl)(o:OperT):List Pl:=match classOf m o.cls with
 | some c=>(c.regs.filter (mayF o)).map (plcOf ns ps)
 | none=>[]
def pairBB(m:MachT)(ns:List Tx)(ps:List Pl)(a b:OperT):Bool:=(mayL m ns ps a).any fun p=>(mayL m ns ps b).any fun q=> !lapB p q
def sparB(ns:List Tx)(ps:List Pl)(o:OpT)(p:Pl):Bool:=o.clob.all fun r=> !lapB p (plcOf ns ps r)
def defB(m:MachT)(ns:List Tx)(ps:List Pl)(o:OpT)(uses:List Pl):Bool:=if 0≤o.tie then sparB ns ps o (uses.getD o.tie.toNat ⟨0,0,0⟩) else(mayL m ns ps o.d).any (sparB ns ps o)
end Go.Ex.M
namespace Go.Ex.M
def chL(m:MachT)(ns:List Tx)(ps:List Pl)(o:OpT):List (List Pl):=match o.uses with
 | []=>[]
 | [u]=>(mayL m ns ps u).map fun p=>[p]
 | u::v::_=>(mayL m ns ps u).flatMap fun p=>((mayL m ns ps v).filter fun q=> !lapB p q).map fun q=>[p,q]
def fitsB(m:MachT)(ns:List Tx)(ps:List Pl)(o:OpT):Bool:=(chL m ns ps o).any (defB m ns ps o)
def spillOK(m:MachT)(ns:List Tx)(ps:List Pl):Prop:=(∀(i:Nat) o,m.ops[i]? = some o→fitsB m ns ps o=true)∧∀(a b:Nat) ca cb,b≤a→m.classes[a]? = some ca→m.classes[b]? = some cb→pairBB m ns ps ⟨ca.name,[]⟩ ⟨cb.name,[]⟩=true
structure MOK (m:MachT) (ns:List Tx) (ps:List Pl):Prop where
 geo:geoP m.regs = .ok ⟨ns,ps⟩
 ne:ns≠[]
 cls:ClsErr m ns ps 0
 ops:OpsErr m ns ps 0
 conv:convOK m ns ps (apartOK ns ps)
 spill:spillOK m ns ps
 nm:named m.name=true
end Go.Ex.M
namespace Go.Ex.M
end Go.Ex.M
