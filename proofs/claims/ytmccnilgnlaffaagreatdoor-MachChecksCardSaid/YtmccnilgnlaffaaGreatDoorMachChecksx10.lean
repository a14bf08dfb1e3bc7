/- What the law leans on, part 10 of 22. Conditions: those that each theorem states. -/
import Derived.Test.YtmccnilgnlaffaaGreatDoorMachChecksx8
import Derived.Test.YtmccnilgnlaffaaGreatDoorMachChecksx9
import Derived.Test.YtmccnilgnlaffaaGreatDoorMachChecksx7
import Derived.KernelRfl
import Derived.Calls
import Derived.Shelf.Strings.Builder1
import Derived.Lib.IndexMore
import Derived.Lib.Split
import Derived.Lib.CountLaws

set_option linter.unusedVariables false
set_option linter.unusedSimpArgs false
namespace Go.Ex
section
section
variable {P:Program} {ty:Nat} {ox oy:Operand} {a:Nat}
theorem bn_quo64(h:(a:Int)<9223372036854775808):Bn P .quo ty ox oy (I64 (a:Nat)) (I64 64) (I64 ((a / 64:Nat):Int)):=by
 unfold Bn;rw [binI];show cond (ieqB 64 0) none (some (Value.int .i64 (uT .i64 (Int.tdiv (a:Nat) 64))))=_;rw [wO];show some (Value.int .i64 (uT .i64 (Int.tdiv (a:Nat) 64)))=_
 have e:Int.tdiv ((a:Nat):Int) 64=((a / 64:Nat):Int):=by
  rw[show(64:Int)=((64:Nat):Int) from rfl,Int.ofNat_tdiv]
 rw[e,wrap_in ⟨by omega,by omega⟩]
theorem bn_rem64:Bn P .rem ty ox oy (I64 (a:Nat)) (I64 64) (I64 ((a % 64:Nat):Int)):=by
 unfold Bn;rw [binI];show cond (ieqB 64 0) none (some (Value.int .i64 (Int.tmod (a:Nat) 64)))=_;rw [wO];show some (Value.int .i64 (Int.tmod (a:Nat) 64))=_
 have e:Int.tmod ((a:Nat):Int) 64=((a % 64:Nat):Int):=by
  rw[show(64:Int)=((64:Nat):Int) from rfl,Int.ofNat_tmod]
 rw[e]
abbrev U64(x:Nat):Value:=.int .u64 ((x:Nat):Int)
theorem wrap_u{x:Nat}(h:x<18446744073709551616):uT .u64 ((x:Nat):Int)=(x:Nat):=by
 rw[wS];show((x:Nat):Int) % 18446744073709551616=_;omega
theorem bn_shl{x m:Nat}(hm:m<64)(h:x*2 ^ m<18446744073709551616):Bn P .shl ty ox oy (U64 x) (I64 (m:Nat)) (U64 (x*2 ^ m)):=by
 show(cond (Nat.blt m 64) (some (Value.int .u64 (uT .u64 (Int.mul (x:Nat) (.ofNat (Nat.pow 2 m)))))) none:Option Value)=_;rw [xE hm];have e:Int.mul ((x:Nat):Int) (.ofNat (Nat.pow 2 m))=((x*2 ^ m:Nat):Int):=rfl;rw [e,wrap_u h];rfl
theorem bn_shl1{m:Nat}(hm:m<64):Bn P .shl ty ox oy (.int .u64 1) (I64 (m:Nat)) (U64 (2 ^ m)):=by
 have h:2 ^ m<18446744073709551616:=dO (by decide) hm;have:=bn_shl (P:=P) (ty:=ty) (ox:=ox) (oy:=oy) (x:=1) hm (by omega);rw [Nat.one_mul]at this;exact this
theorem bn_shr{x m:Nat}(hm:m<64):Bn P .shr ty ox oy (U64 x) (I64 (m:Nat)) (U64 (x >>> m)):=by
 show(cond (Nat.blt m 64) (some (Value.int .u64 (.ofNat (Nat.shiftRight x m)))) none:Option Value)=_;rw [xE hm];rfl
theorem bits_of{op:BinOp}{x y r:Nat}(hx:x<18446744073709551616)(hy:y<18446744073709551616)(he:bitNat op x y=some r):aBits op .u64 ((x:Nat):Int) ((y:Nat):Int)=some (U64 r):=by
 show cond (Nat.blt x 18446744073709551616 && Nat.blt y 18446744073709551616) ((bitNat op x y).map λr=>Value.int .u64 (.ofNat r)) none=_;rw [xE hx,xE hy,he];rfl
theorem bn_and{x y:Nat}(hx:x<18446744073709551616)(hy:y<18446744073709551616):Bn P .and ty ox oy (U64 x) (U64 y) (U64 (x &&& y)):=by
 unfold Bn;rw [binI];exact bits_of hx hy rfl
theorem bn_and1{x:Nat}(hx:x<18446744073709551616):Bn P .and ty ox oy (U64 x) (.int .u64 1) (U64 (x &&& 1)):=bn_and hx (by decide)
theorem bn_or{x y:Nat}(hx:x<18446744073709551616)(hy:y<18446744073709551616):Bn P .or ty ox oy (U64 x) (U64 y) (U64 (x ||| y)):=by
 unfold Bn;rw [binI];exact bits_of hx hy rfl
theorem bn_andnot{x y:Nat}(hx:x<18446744073709551616)(hy:y<18446744073709551616):Bn P .andNot ty ox oy (U64 x) (U64 y) (U64 (x ^^^ (x &&& y))):=by
 unfold Bn;rw [binI];exact bits_of hx hy rfl
end
end
section
section
variable {P:Program} {ty el:Nat} {ox oy:Operand} {p:Addr} {a b:Bool}
theorem bn_p1[s:UnC P ty (.pointer el)]:Bn P .eql ty ox oy (.pointer (some p)) (.pointer none) (.bool false):=by
 show(match BinOp.eql,und P ty with
  | .eql,some d=>cond (zT ox oy (.pointer (some p)) (.pointer none)) ((uD d (.pointer (some p)) (.pointer none)).map Value.bool) none
  | .neq,some d=>cond (zT ox oy (.pointer (some p)) (.pointer none)) ((uD d (.pointer (some p)) (.pointer none)).map λb=>Value.bool (!b)) none
  | _,_=>none:Option Value)=_
 rw[s.ok];rfl
theorem bn_p0[s:UnC P ty (.pointer el)]:Bn P .eql ty ox oy (.pointer none) (.pointer none) (.bool true):=by
 show(match BinOp.eql,und P ty with
  | .eql,some d=>cond (zT ox oy (.pointer none) (.pointer none)) ((uD d (.pointer none) (.pointer none)).map Value.bool) none
  | .neq,some d=>cond (zT ox oy (.pointer none) (.pointer none)) ((uD d (.pointer none) (.pointer none)).map λb=>Value.bool (!b)) none
  | _,_=>none:Option Value)=_
 rw[s.ok];rfl
theorem bn_q1[s:UnC P ty (.pointer el)]:Bn P .neq ty ox oy (.pointer (some p)) (.pointer none) (.bool true):=by
 show(match BinOp.neq,und P ty with
  | .eql,some d=>cond (zT ox oy (.pointer (some p)) (.pointer none)) ((uD d (.pointer (some p)) (.pointer none)).map Value.bool) none
  | .neq,some d=>cond (zT ox oy (.pointer (some p)) (.pointer none)) ((uD d (.pointer (some p)) (.pointer none)).map λb=>Value.bool (!b)) none
  | _,_=>none:Option Value)=_
 rw[s.ok];rfl
theorem bn_q0[s:UnC P ty (.pointer el)]:Bn P .neq ty ox oy (.pointer none) (.pointer none) (.bool false):=by
 show(match BinOp.neq,und P ty with
  | .eql,some d=>cond (zT ox oy (.pointer none) (.pointer none)) ((uD d (.pointer none) (.pointer none)).map Value.bool) none
  | .neq,some d=>cond (zT ox oy (.pointer none) (.pointer none)) ((uD d (.pointer none) (.pointer none)).map λb=>Value.bool (!b)) none
  | _,_=>none:Option Value)=_
 rw[s.ok];rfl
theorem bn_be[s:UnC P ty .bool]:Bn P .eql ty ox oy (.bool a) (.bool b) (.bool (a == b)):=by
 show(match BinOp.eql,und P ty with
  | .eql,some d=>cond (zT ox oy (.bool a) (.bool b)) ((uD d (.bool a) (.bool b)).map Value.bool) none
  | .neq,some d=>cond (zT ox oy (.bool a) (.bool b)) ((uD d (.bool a) (.bool b)).map λb=>Value.bool (!b)) none
  | _,_=>none:Option Value)=_
 rw[s.ok];cases a <;> cases b <;> rfl
theorem bn_bn[s:UnC P ty .bool]:Bn P .neq ty ox oy (.bool a) (.bool b) (.bool (a != b)):=by
 show(match BinOp.neq,und P ty with
  | .eql,some d=>cond (zT ox oy (.bool a) (.bool b)) ((uD d (.bool a) (.bool b)).map Value.bool) none
  | .neq,some d=>cond (zT ox oy (.bool a) (.bool b)) ((uD d (.bool a) (.bool b)).map λb=>Value.bool (!b)) none
  | _,_=>none:Option Value)=_
 rw[s.ok];cases a <;> cases b <;> rfl
end
section
variable {P:Program} {ty:Nat} {ox oy:Operand} {a:Nat}
theorem bn_quo8(h:(a:Int)<9223372036854775808):Bn P .quo ty ox oy (I64 (a:Nat)) (I64 8) (I64 ((a / 8:Nat):Int)):=by
 unfold Bn;rw [binI];show cond (ieqB 8 0) none (some (Value.int .i64 (uT .i64 (Int.tdiv (a:Nat) 8))))=_;rw [wO];show some (Value.int .i64 (uT .i64 (Int.tdiv (a:Nat) 8)))=_
 have e:Int.tdiv ((a:Nat):Int) 8=((a / 8:Nat):Int):=by
  rw[show(8:Int)=((8:Nat):Int) from rfl,Int.ofNat_tdiv]
 rw[e,wrap_in ⟨by omega,by omega⟩]
end
theorem lka_lent{P:Program}{l:List (Nat×Value)}{t:Fr}{lo hi:Nat}{hs:List W}{ty:Nat}{x:Operand}{a:List UInt8}{k n:Nat}{h:zB}{dd:List Deferred}{u:Option zI}[s:UnC P ty .string](e:evb l t x=str a)(r:LkA P ⟨.call ⟨.builtin .len,[x].toArray,[ty].toArray⟩,FA l t,I64 (a.length:Nat),lo,hi⟩ (Nat.pred k) hs) :
 LkA P ⟨.call ⟨.builtin .len,[x].toArray,[ty].toArray⟩,FA l t,I64 (a.length:Nat),lo,hi⟩ k (⟨dd,u,h,n⟩::hs):=by
 refine lka_on ?_ ?_ sm_int r
 · show blkLt n (ev (FA l t) x)=true;rw [yM,e];rfl
 · show quietB P .len [ty] [ev (FA l t) x] h=_;rw [yM,e];exact len_txt
end
section
theorem Cel.cell{h:zB}{b z kd i:Nat}{vs:List Value}{v:Value}(c:Cel h b z kd vs)(e:vs[i]? = some v):zC h b i=some v:=(c.2 i).trans e
theorem iad_sl{sz b off len cap j:Nat}{k:IntKind}(h:j<len):Iad sz (.slice (some ⟨b,off,none⟩) len cap) (.int k (j:Nat)) (.pointer (some ⟨b,off+j*sz,none⟩)):=⟨b,off,len,cap,k,j,rfl,rfl,h,rfl⟩
theorem ixv_0{P:Program}{ty:Nat}[UnC P ty .string]{a:List UInt8}{k:IntKind}{b:UInt8}(hb:a[0]? = some b):Ixv P ty (str a) (.int k 0) (.int .u8 (b.toNat:Nat)):=ixv_str (i:=0) hb
theorem iad_0{lo:Nat}{h:zB}{v:Value}{e sz len:Nat}{vs:List Value}{k:IntKind}(r:Row lo h v e sz len vs)(hi:0<len):Iad sz v (.int k 0) (.pointer (some ⟨sbk v,sof v+0*sz,none⟩)):=iad_rw (i:=0) r hi
theorem iad_1{lo:Nat}{h:zB}{v:Value}{e sz len:Nat}{vs:List Value}{k:IntKind}(r:Row lo h v e sz len vs)(hi:1<len):Iad sz v (.int k 1) (.pointer (some ⟨sbk v,sof v+1*sz,none⟩)):=iad_rw (i:=1) r hi
theorem nT{z:Bool}(h:z=false):(!z)=true:=by rw[h];rfl
theorem nF{z:Bool}(h:z=true):(!z)=false:=by rw[h];rfl
structure VBox where
 v:Value
noncomputable def lkB(l:List (Nat×Value))(t:Fr)(i:Nat):VBox:=match l with
 | []=>⟨fget t i⟩
 | (j,v)::r=>bif Nat.beq j i then⟨v⟩ else lkB r t i
theorem lkB_eq(l:List (Nat×Value))(t:Fr)(i:Nat):lkB l t i=⟨lk l t i⟩:=by
 induction l with
 | nil=>rfl
 | cons p r ih=>
  show(bif Nat.beq p.1 i then(⟨p.2⟩:VBox) else lkB r t i)=⟨bif Nat.beq p.1 i then p.2 else lk r t i⟩;rw [ih];cases Nat.beq p.1 i <;> rfl
noncomputable def evbB(l:List (Nat×Value))(t:Fr)(x:Operand):VBox:=match x with
 | .tmp i=>lkB l t i
 | .const v=>⟨v⟩
 | .global g=>⟨.pointer (some ⟨g,0,none⟩)⟩
 | .func f=>⟨.func (.func f) #[] #[]⟩
theorem lk_box{l:List (Nat×Value)}{t:Fr}{i:Nat}{v:Value}(h:lkB l t i=⟨v⟩):lk l t i=v:=by rw[lkB_eq]at h;injection h
theorem sZ{l:List (Nat×Value)}{t:Fr}{x:Operand}{v:Value}(h:evbB l t x=⟨v⟩):evb l t x=v:=by
 cases x with
 | tmp i=>exact lk_box h
 | const w=>injection h
 | global g=>injection h
 | func g=>injection h
theorem bx_one{v:Value}(e:v.oneCell'=true):Bx v [v]:=⟨by cases v <;> first|rfl|(cases e;done),e,trivial⟩
theorem bx_row{lo:Nat}{h:zB}{v:Value}{e sz len:Nat}{vs:List Value}(r:Row lo h v e sz len vs):Bx v [v]:=bx_one r.one
theorem zG{h:zB}{b z kd:Nat}{vs:List Value}(c:Cel h b z kd vs:=by
 repeat' first
  | with_reducible assumption
  | with_reducible exact cel_hal _ _ _ _ _
  | with_reducible apply Cel.put
  | with_reducible apply Cel.hal
  | with_reducible apply Cel.hst
  | ((with_reducible apply Cel.tcm);(focus (with_reducible assumption)))
  | decide
  | omega
  | (simp;done)
  | (simp;omega)):Cel h b z kd vs:=c
theorem Cel.as{h:zB}{b z kd:Nat}{vs vs':List Value}(c:Cel h b z kd vs')(e:vs'=vs):Cel h b z kd vs:=e ▸ c
theorem zD{h:zB}{b z kd:Nat}{vs:List Value}(c:Cel h b z kd vs:=by(apply Cel.as;(focus exact zG);exact rfl)):Cel h b z kd vs:=c
theorem cat_ask{h:zB}{b i:Nat}{v:Value}(c:zC h b i=some v:=by
 repeat' first
  | with_reducible assumption
  | with_reducible apply cat_hal
  | with_reducible apply cat_hst
  | ((with_reducible apply cat_tch);(focus (with_reducible assumption)))
  | omega
  | (simp;done)
  | (simp;omega)):zC h b i=some v:=c
theorem rG{h:zB}{L:Nat}{o:AObj}(c:zF h L=o:=by
 repeat' first
  | with_reducible assumption
  | with_reducible exact xX
  | with_reducible apply obe_hal
  | with_reducible apply obe_hst
  | ((with_reducible apply obe_tch);(focus (with_reducible assumption)))
  | omega
  | (simp;done)
  | (simp;omega)):zF h L=o:=c
theorem zM{h:zB}{b i:Nat}{v:Value}(c:zC h b i=some v:=by first|(with_reducible assumption)|(apply Cel.cell;(focus exact zG);exact rfl)|exact cat_ask):zC h b i=some v:=c
theorem ld1_of{h:zB}{b o:Nat}{v:Value}(e:zC h b o=some v):Ld1 h (.pointer (some ⟨b,o,none⟩)) v:=⟨b,o,rfl,e⟩
theorem ldN_of{h:zB}{b o k:Nat}{vs:List Value}(h0:0<k)(e:Rd h b o k vs):LdN h (.pointer (some ⟨b,o,none⟩)) k vs:=⟨b,o,rfl,h0,e⟩
theorem rd_nil{h:zB}{b o:Nat}:Rd h b o 0 []:=rfl
theorem rd_cons{h:zB}{b o k:Nat}{v:Value}{r:List Value}(e:zC h b o=some v)(f:Rd h b (o+1) k r):Rd h b o (k+1) (v::r):=⟨v,r,rfl,e,f⟩
theorem fad_of{o b off:Nat}:Fad o (.pointer (some ⟨b,off,none⟩)) (.pointer (some ⟨b,off+o,none⟩)):=⟨b,off,rfl,rfl⟩
theorem gv_of{all:Array Oper}{l:List (Nat×Value)}{t:Fr}{g i:Nat}{b z:Bool}(h:dstOf all g=some i)(e:lk l t i = .bool z):Gv all l t g b z:=⟨i,h,.inl e⟩
theorem gv_uT{all:Array Oper}{l:List (Nat×Value)}{t:Fr}{g i:Nat}(h:dstOf all g=some i)(e:lk l t i=undef):Gv all l t g true false:=⟨i,h,.inr ⟨e,rfl⟩⟩
theorem gv_uF{all:Array Oper}{l:List (Nat×Value)}{t:Fr}{g i:Nat}(h:dstOf all g=some i)(e:lk l t i=undef):Gv all l t g false true:=⟨i,h,.inr ⟨e,rfl⟩⟩
theorem evs_nil{l:List (Nat×Value)}{t:Fr}:Evs l t [] []:=rfl
theorem evs_cons{l:List (Nat×Value)}{t:Fr}{x:Operand}{v:Value}{xs:List Operand}{vs:List Value}(e:evb l t x=v)(f:Evs l t xs vs):Evs l t (x::xs) (v::vs):=⟨v,vs,rfl,e,f⟩
theorem evp_nil{l:List (Nat×Value)}{t:Fr}:Evp l t [] []:=rfl
theorem evp_cons{l:List (Nat×Value)}{t:Fr}{i:Nat}{x:Operand}{v:Value}{xs:List (Nat×Operand)}{vs:List (Nat×Value)}(e:evb l t x=v)(f:Evp l t xs vs):Evp l t ((i,x)::xs) ((i,v)::vs):=⟨v,vs,rfl,e,f⟩
theorem evo_none{l:List (Nat×Value)}{t:Fr}:Evo l t none none:=rfl
theorem evo_some{l:List (Nat×Value)}{t:Fr}{x:Operand}{v:Value}(e:evb l t x=v):Evo l t (some x) (some v):=⟨v,rfl,e⟩
theorem stN_of{h:zB}{b o z kd k:Nat}{vs ws:List Value}(c:Cel h b z kd vs)(hk:kd≠2∧kd≠3)(ho:o+ws.length≤vs.length)(h1:One ws)(hl:ws.length=k):StP' h (.pointer (some ⟨b,o,none⟩)) ws k (hst h b o ws):=⟨StP.of c hk ho h1,hl⟩
theorem bx_of{v:Value}{cs:List Value}(e:cellsOf v=cs)(f:One cs):Bx v cs:=⟨e,f⟩
theorem one_nil:One []:=trivial
theorem one_cons{x:Value}{r:List Value}(e:x.oneCell'=true)(f:One r):One (x::r):=⟨e,f⟩
theorem ex1_of{i:Nat}{vs:List Value}{v:Value}(e:vs[i]? = some v):Ext1 i (.tuple ⟨vs⟩) v:=⟨vs,rfl,e⟩
theorem rs_nil{P:Program}{l:List (Nat×Value)}{t:Fr}{h:zB}:Rs P l t h [] []:=rfl
theorem rs_tmp{P:Program}{l:List (Nat×Value)}{t:Fr}{h:zB}{i:Nat}{r:List ResultVar}{v:Value}{vs:List Value}(e:lk l t i=v)(f:Rs P l t h r vs):Rs P l t h (.tmp i::r) (v::vs):=⟨v,vs,rfl,e,f⟩
theorem rs_cell{P:Program}{l:List (Nat×Value)}{t:Fr}{h:zB}{i ty:Nat}[s:ShC P ty .scal]{r:List ResultVar}{p v:Value}{vs:List Value}(e:lk l t i=p)(g:Ld1 h p v)(f:Rs P l t h r vs):Rs P l t h (.cell i ty::r) (v::vs):=by
 obtain⟨b,o,rfl,g⟩:=g;exact⟨v,vs,rfl,by rw[e];exact load_scal s.ok g,f⟩
theorem rd_any{h:zB}{b o k:Nat}{vs:List Value}(c:Rd h b o k vs:=by repeat' first|(with_reducible assumption)|exact rd_nil|(apply rd_cons;(focus exact zM))):Rd h b o k vs:=c
 class IsOb (G:Prop) {α : outParam Type} (A K:outParam (α→Prop)):Prop where ok:Ob A K→G
instance {α : Type} {A K: α→Prop}:IsOb (Ob A K) A K:=⟨id⟩
 class IsCh (G:Prop) (z:outParam Bool) (A B:outParam Prop):Prop where ok:Ch z A B→G
instance {z:Bool} {A B:Prop}:IsCh (Ch z A B) z A B:=⟨id⟩
theorem ob{G:Prop}{α : Type}{A K: α→Prop}[s:IsOb G A K]{a: α}(k:K a)(h:A a:=by first
 | ((with_reducible show Ev _ _ _ _) <;> (show evb _ _ _=_) <;> (apply sZ) <;> ((conv=>lhs;whnf) <;> exact rfl))
 | ((with_reducible apply ld1_of);focus first|(with_reducible assumption)|(apply Cel.cell;(focus exact zG);exact rfl)|exact cat_ask)
 | with_reducible exact fad_of
 | (with_reducible show Bn _ _ _ _ _ _ _ _) <;> with_reducible first|exact bn_eq|exact bn_ne|exact bn_lt|exact bn_le|exact bn_gt|exact bn_ge|exact bs_eq|exact bs_ne|(apply bn_add;omega)|(apply bn_sub;omega)|exact bn_subu|(apply bn_quo64;omega)|exact bn_rem64|(apply bn_shl1;omega)|(apply bn_shr;omega)|(apply bn_and1;assumption)|(apply bn_and <;> assumption)|exact bn_p1|exact bn_q1|exact bn_p0|exact bn_q0|exact bn_be|exact bn_bn|(apply bn_quo8;omega)|(apply bn_or <;> assumption)|(apply bn_andnot <;> assumption)|exact bn_if1|exact bn_if0|exact bn_c|exact bn_s0|exact bn_s1|assumption
 | ((with_reducible apply gv_of);(focus exact rfl);focus ((conv=>lhs;whnf) <;> exact rfl))
 | ((with_reducible apply gv_uT);(focus exact rfl);focus ((conv=>lhs;whnf) <;> exact rfl))
 | ((with_reducible apply gv_uF);(focus exact rfl);focus ((conv=>lhs;whnf) <;> exact rfl))
 | ((with_reducible show Evs _ _ _ _) <;> repeat' first|exact evs_nil|apply evs_cons|(apply sZ;((conv=>lhs;whnf) <;> exact rfl)))
 | ((with_reducible apply bx_one);(with_reducible assumption))
 | ((with_reducible apply bx_row);(with_reducible assumption))
 | ((with_reducible apply bx_of) <;> repeat' first|exact one_nil|(apply one_cons;(focus first|exact rfl|(with_reducible assumption)))|((conv=>lhs;whnf) <;> exact rfl))
 | ((with_reducible apply StP.of);(focus exact zG);(focus exact⟨by decide,by decide⟩);(focus first|decide|(simp;done)|(simp;omega));focus repeat' first|exact one_nil|(apply one_cons;(focus first|exact rfl|(with_reducible assumption))))
 | ((with_reducible apply iad_sl);omega)
 | ((with_reducible apply iad_rw);(focus (with_reducible assumption));omega)
 | ((with_reducible apply iad_0);(focus (with_reducible assumption));omega)
 | ((with_reducible apply iad_1);(focus (with_reducible assumption));omega)
 | ((with_reducible apply iad_rwI);(focus (with_reducible assumption));(focus omega);omega)
 | ((with_reducible apply len_rw);(with_reducible assumption))
 | ((with_reducible apply ldN_of);(focus decide);(focus (with_reducible assumption)))
 | ((with_reducible apply ldN_of) <;> repeat' first|decide|exact rd_nil|(apply rd_cons;focus first|(with_reducible assumption)|(apply Cel.cell;(focus exact zG);exact rfl)|exact cat_ask))
 | ((with_reducible apply ex1_of);exact rfl)
 | ((with_reducible show Rs _ _ _ _ _ _) <;> repeat' first|exact rs_nil|(apply rs_tmp;(focus (apply lk_box;((conv=>lhs;whnf) <;> exact rfl))))|(apply rs_cell;(focus (apply lk_box;((conv=>lhs;whnf) <;> exact rfl)));focus ((with_reducible apply ld1_of);focus first|(with_reducible assumption)|(apply Cel.cell;(focus exact zG);exact rfl)|exact cat_ask)))
 | with_reducible exact cv_int
 | with_reducible exact bd_c
 | with_reducible exact bs_c
 | ((with_reducible apply ixv_str);(with_reducible assumption))
 | ((with_reducible apply ixv_0);(with_reducible assumption))
 | with_reducible exact len_slc
 | with_reducible exact len_txt
 | with_reducible exact bi_app
 | with_reducible exact bi_rec
 | ((with_reducible show Evp _ _ _ _) <;> repeat' first|exact evp_nil|apply evp_cons|(apply sZ;((conv=>lhs;whnf) <;> exact rfl)))
 | with_reducible exact evo_none
 | with_reducible exact fnv_of
 | with_reducible exact ifv_of
 | with_reducible exact tya_hit
 | ((with_reducible apply evo_some);focus (apply sZ;((conv=>lhs;whnf) <;> exact rfl)))
 | (with_reducible assumption)
 | ((with_reducible apply stN_of);(focus exact zG);(focus exact⟨by decide,by decide⟩);(focus first|decide|(simp;done)|(simp;omega));(focus repeat' first|exact one_nil|(apply one_cons;(focus first|exact rfl|(with_reducible assumption))));exact rfl)
 | ((with_reducible show Wh (_++(_++_)) _) <;> (show _=_) <;> ((conv=>lhs;simp only[bV,dJ,bK]) <;> exact rfl))
 | ((with_reducible show Wh _ _) <;> (show _=_) <;> ((conv=>lhs;whnf) <;> exact rfl))):G:=s.ok ⟨a,h,k⟩
theorem nTF:(!false)=true:=rfl
theorem nFT:(!true)=false:=rfl
theorem dT{p:Prop}{i:Decidable p}(h:p):@decide p i=true:=decide_eq_true h
theorem dG{p:Prop}{i:Decidable p}(h:p→False):@decide p i=false:=decide_eq_false h
theorem dF{p:Prop}{i:Decidable p}(h:¬p):@decide p i=false:=decide_eq_false h
 class IsOb1 (G:Prop) (A K:outParam Prop):Prop where ok:Ob1 A K→G
instance {A K:Prop}:IsOb1 (Ob1 A K) A K:=⟨id⟩
theorem ob1{G A K:Prop}[s:IsOb1 G A K](k:K)(h:A:=by first
 | ((with_reducible show RgE _ _ _ _) <;> (show regOf _ _ _=_) <;> kernel_rfl)
 | ((with_reducible show NLe _ _) <;> (show _≤_) <;> first|omega|exact ae _|exact Tch.le (by with_reducible assumption))
 | with_reducible exact lks_nil
 | ((with_reducible show LksOK _ _ _) <;> repeat' first|with_reducible exact lks_nil|with_reducible apply lks_cons|with_reducible exact lka_nil|((with_reducible apply lka_off);(focus exact rfl))|((with_reducible apply lka_ldN);(focus ((conv=>lhs;whnf) <;> exact rfl));(focus omega);(focus decide);(focus exact rd_any);(focus repeat' first|exact sml_nil|apply sml_int|apply sml_str|(apply sml_row;(focus (with_reducible assumption)))))|((with_reducible apply lka_lent);(focus (apply sZ;((conv=>lhs;whnf) <;> exact rfl))))|((with_reducible apply lka_len);(focus (apply sZ;((conv=>lhs;whnf) <;> exact rfl)));(focus (with_reducible assumption));(focus omega))|((with_reducible apply lka_ld1);(focus ((conv=>lhs;whnf) <;> exact rfl));(focus omega);(focus first|(with_reducible assumption)|(apply Cel.cell;(focus exact zG);exact rfl)|exact cat_ask);(focus first|exact sm_int|exact sm_str|exact sm_bool|exact sm_ptr|exact sm_map|(apply Row.sm;with_reducible assumption)|(apply Own.sm;with_reducible assumption)|(with_reducible assumption))))
 | ((with_reducible show ObE _ _ _) <;> (show zF _ _=_) <;> exact rG)
 | ((with_reducible show Clt _ _) <;> (show zF _ _=_) <;> exact rG)
 | with_reducible exact rfl
 | assumption):G:=s.ok ⟨h,k⟩
instance {A B:Prop}:Stp (Ch true A B) A:=⟨λh=>⟨λ_=>h,λe=>Bool.noConfusion e⟩⟩
instance {A B:Prop}:Stp (Ch false A B) B:=⟨λh=>⟨λe=>Bool.noConfusion e,λ_=>h⟩⟩
theorem cT{G:Prop}{z:Bool}{A B:Prop}[s:IsCh G z A B](k:A)(h:z=true:=by with_reducible first
 | assumption
 | exact nTF
 | (apply dT;first|assumption|omega|exact rfl)
 | (apply nT;first|assumption|(apply dF;first|assumption|omega))):G:=s.ok ⟨λ_=>k,λe=>Bool.noConfusion (h.symm.trans e)⟩
theorem cF{G:Prop}{z:Bool}{A B:Prop}[s:IsCh G z A B](k:B)(h:z=false:=by with_reducible first
  | assumption
  | exact nFT
  | (apply dF;first|assumption|omega)
  | (apply dG;intro hh;cases hh;done)
  | (apply nF;first|assumption|(apply dT;first|assumption|omega))):G:=s.ok ⟨λe=>Bool.noConfusion (h.symm.trans e),λ_=>k⟩
 class Pr2 (z:Bool) (p q:outParam Prop):Prop where ok:(z=true→p)∧(z=false→q)
instance (priority:=low) {z:Bool}:Pr2 z (z=true) (z=false):=⟨⟨id,id⟩⟩
instance {z:Bool}:Pr2 (!z) (z=false) (z=true):=⟨by cases z <;> simp⟩
instance {p:Prop} {_i:Decidable p}:Pr2 (decide p) p (¬p):=⟨⟨of_decide_eq_true,of_decide_eq_false⟩⟩
instance {p:Prop} {_i:Decidable p}:Pr2 (!decide p) (¬p) p:=⟨by by_cases h:p <;> simp[h]⟩
theorem cX{z:Bool}{A B p q:Prop}[s:Pr2 z p q](k:p→A)(j:q→B):Ch z A B:=⟨λe=>k (s.ok.1 e),λe=>j (s.ok.2 e)⟩
theorem wk{G C:Prop}(k:C)(h:C→G:=by first|exact λk=>st k|exact λk=>ob k|exact λk=>ob1 k|exact λk=>cT k|exact λk=>cF k|exact λk=>calC k|fail):G:=h k
end
section
theorem rep_len(l:List Value)(m:Nat):(rep l m).length=m*l.length:=by
 induction m with
 | zero=>simp [rep]
 | succ m ih=>show(l++rep l m).length=_;rw [ak,ih,cd,Nat.add_comm]
theorem rep_mem{l:List Value}{m:Nat}{y:Value}(h:y∈rep l m):y∈l:=by
 induction m with
 | zero=>simp [rep]at h
 | succ m ih=>
  rcases az.1 (show y∈l++rep l m from h) with h|h
  · exact h
  · exact ih h
noncomputable def apZB(P:Program)(sT xT e:Nat):Bool:=match und P sT,und P xT,inf? P e,yW P e with
 | some (.slice e'),some (.int _),some ei,some z=>Nat.beq e' e && (Nat.beq ei.size 1 && (Nat.blt ei.bytes 100000 && scalB z (.int .i64 0)))
 | _,_,_,_=>false
section
variable {P:Program} {sT xT e:Nat} {cx:Cx} {d:List Deferred} {u:Option zI} {h:zB} {n:Nat} {K:W→Value→Prop}
theorem appZ(hT:apZB P sT xT e=true){m:Nat}(h0:0<m)(hm:m<100000)(k:K ⟨d,u,hal h n (mkC (rep [I64 0] m) (zc e 1) 1),n+1⟩ (.slice (some ⟨n,0,none⟩) m inf)):BuB P cx .append [sT,xT] [.slice none 0 0,I64 (m:Nat)] d u h n K:=by
 unfold apZB at hT;split at hT
 · rename_i e' kk ei z t1 t2 t3 t4;obtain⟨a1,hT⟩:=ad.1 hT;obtain⟨a2,hT⟩:=ad.1 hT;obtain⟨a3,a4⟩:=ad.1 hT;obtain rfl:=zE a1;have a2:=zE a2;obtain rfl:=scalB_eq a4;show vG P [sT,xT] [.slice none 0 0,I64 (m:Nat)] h n (λh' n' v'=>xJ (K ⟨d,u,h',n'⟩ v'))=true;unfold vG sC;dsimp only;rw [t1,t2];dsimp only;rw [t3,t4];dsimp only
   have gL:xD P h e' ei.size (.int kk) (I64 (m:Nat))=some (m,rep [I64 0] m):=by
    show(match natOf (I64 (m:Nat)),yW P e' with
     | some m,some z=>cond (Nat.blt m 100000 && Nat.beq (cellsOf z).length ei.size) (some (m,rep (cellsOf z) m)) none
     | _,_=>none)=_
    rw[t4];show cond (Nat.blt m 100000 && Nat.beq 1 ei.size) (some (m,rep [I64 0] m)) none=_;rw [xE hm,a2];rfl
   rw[gL];dsimp only
   have c1:(Nat.beq ei.size 0 || !Nat.beq (cellsOf (Value.int .i64 0)).length ei.size || !Nat.blt (Nat.add 0 m) 1000000 || !Nat.blt ei.bytes 100000)=false:=by
    rw[a2,a3,xE (show Nat.add 0 m<1000000 from by have:Nat.add 0 m=m:=aG m;omega)];rfl
   rw[c1];have c2:(Nat.beq m 0 && !Nat.beq 0 0 && (Nat.beq 0 inf || Nat.ble 0 0))=false:=by simp
   rw[c2];have fF:Nat.beq 0 inf=false:=by decide
   rw[fF];show growEx h n none 0 0 m ei.size (zc e' ei.size) (rep [I64 0] m) (λv h n=>xJ (K ⟨d,u,h,n⟩ v))=true;unfold growEx
   have b1:Nat.ble (Nat.add 0 m) 0=false:=by
    cases e9:Nat.ble (Nat.add 0 m) 0 with
    | false=>rfl
    | true=>
     have h9:Nat.add 0 m≤0:=yK e9;have ft:0+m≤0:=h9;omega
   rw[b1,a2];show xH .lF 0 ([]++rep [I64 0] m) _=true;refine wG (λy hy=>?_) ?_
   · have hy:y∈rep [I64 0] m:=hy;have:=rep_mem hy;simp at this;subst this;rfl
   · rw[zV];refine isSo_iff.2 ?_
     have e1:Nat.mul (Nat.add 0 m) 1=(rep [I64 0] m).length:=by
      rw[rep_len];show(0+m)*1=m*1;omega
     have e2:Nat.add 0 m=m:=aG m;rw [e1,e2];exact k
 · cases hT
theorem wayZ{lo m:Nat}(dX:lo≤n):WayR lo (n+1) (hal h n (mkC (rep [I64 0] m) (zc e 1) 1)) (.slice (some ⟨n,0,none⟩) m inf) e 1 m (rep [I64 0] m):=by
 refine⟨n,_,_,_,inf,dX,aS n,rfl,by rw[zO,if_pos rfl];exact uN _ _ _,by rw[rep_len];rfl,ae _,λi _=>?_,.inr ⟨rfl,rfl,rfl⟩⟩;unfold zC;rw [zO,if_pos rfl];exact vO _ _ _ _
theorem way_app0{lo len sz:Nat}{v x:Value}{vs:List Value}[A:ApC P sT xT e sz](r:WayR lo n h v e sz len vs)(hr:Row n h x e sz 0 [])(hl:len<1000000)(hc:len=0→∀b c,v = .slice b 0 c→c=inf)(k:K ⟨d,u,h,n⟩ v):BuB P cx .append [sT,xT] [v,x] d u h n K:=by
 obtain⟨xd,ei,z0,t1,t2,t3,t4,t5,t6,t7,t8,t9⟩:=apTB_of A.ok;have gL:xD P h e ei.size xd x=some (0,[]):=by rw[t6];exact uO t3 hr
 obtain⟨b,bm,z,kd,cap,g1,g2,rfl,g3,g4,g5,g6,g7⟩:=r
 have eT:Nat.beq cap 0=false∧(Nat.beq cap inf || Nat.ble len cap)=true:=by
  have hi0:inf≠0:=by decide
  rcases g7 with⟨_,_,q1,q2,_⟩|⟨_,rfl,_⟩
  · refine⟨?_,by rw[uF q2,Bool.or_true]⟩
    cases e9:Nat.beq cap 0 with
    | false=>rfl
    | true=>
     have h9:=zE e9;have h8:len=0:=by omega
     subst h8;have:=hc rfl _ _ rfl;omega
  · refine⟨?_,by rw[show Nat.beq inf inf=true from aB _];rfl⟩
    cases e9:Nat.beq inf 0 with
    | false=>rfl
    | true=>exact absurd (zE e9) hi0
 show vG P [sT,xT] [.slice (some ⟨b,0,none⟩) len cap,x] h n (λh' n' v'=>xJ (K ⟨d,u,h',n'⟩ v'))=true;unfold vG sC;dsimp only;rw [t1,t2];dsimp only;rw [t4,t5];dsimp only;rw [gL];dsimp only
 have c1:(Nat.beq ei.size 0 || !Nat.beq (cellsOf z0).length ei.size || !Nat.blt (Nat.add len 0) 1000000 || !Nat.blt ei.bytes 100000)=false:=by
  have a1:Nat.beq ei.size 0=false:=by
   cases e9:Nat.beq ei.size 0 with
   | false=>rfl
   | true=>have:=zE e9;omega
  have a2:Nat.beq (cellsOf z0).length ei.size=true:=by rw[t7,t6];exact aB _
  rw[a1,a2,xE (show Nat.add len 0<1000000 from hl),xE t9];rfl
 rw[c1];have c2:(Nat.beq 0 0 && !Nat.beq cap 0 && (Nat.beq cap inf || Nat.ble len cap))=true:=by rw[eT.1,eT.2];rfl
 rw[c2];exact isSo_iff.2 k
theorem slice_nil0{ty sz:Nat}[s:SlC P ty e sz]:wW P h ty (.slice none 0 0) none (some (I64 0)) none=some (.slice none 0 0):=by
 obtain⟨hu,ei,hi,_⟩:=s.get;unfold wW;rw [hu];dsimp only;rw [hi];rfl
theorem cap_nil{ty:Nat}{el:TypeId}[s:UnC P ty (.slice el)]:Qb P .cap [ty] [.slice none 0 0] h (some (I64 0)):=by
 show aCap P ty _=_;unfold aCap;rw [s.ok];rfl
theorem app_nil0{sz:Nat}{x:Value}[A:ApC P sT xT e sz](hr:Row n h x e sz 0 [])(k:K ⟨d,u,h,n⟩ (.slice none 0 0)):BuB P cx .append [sT,xT] [.slice none 0 0,x] d u h n K:=by
 obtain⟨xd,ei,z0,t1,t2,t3,t4,t5,t6,t7,t8,t9⟩:=apTB_of A.ok;have gL:xD P h e ei.size xd x=some (0,[]):=by rw[t6];exact uO t3 hr
 show vG P [sT,xT] [.slice none 0 0,x] h n (λh' n' v'=>xJ (K ⟨d,u,h',n'⟩ v'))=true;unfold vG sC;dsimp only;rw [t1,t2];dsimp only;rw [t4,t5];dsimp only;rw [gL];dsimp only
 have c1:(Nat.beq ei.size 0 || !Nat.beq (cellsOf z0).length ei.size || !Nat.blt (Nat.add 0 0) 1000000 || !Nat.blt ei.bytes 100000)=false:=by
  have a1:Nat.beq ei.size 0=false:=by
   cases e9:Nat.beq ei.size 0 with
   | false=>rfl
   | true=>have:=zE e9;omega
  have a2:Nat.beq (cellsOf z0).length ei.size=true:=by rw[t7,t6];exact aB _
  rw[a1,a2,xE (show Nat.add 0 0<1000000 from by decide),xE t9];rfl
 rw[c1];have fF:Nat.beq 0 inf=false:=by decide
 rw[fF];exact isSo_iff.2 k
end
end
end Go.Ex
namespace Go.Ex
section
variable {P:Program} {ng:Nat}
def Rets(P:Program)(ng:Nat)(f:FuncId)(args:List Value)(h:zB)(n:Nat)(Q:Value→zB→Nat→Prop):Prop:=
 ∀(u:Option zI) (k:KO),(∀v h' n',Q v h' n'→k (.ret v) u h' n'=true)→(loS P ng).call f args false u h n k=true
abbrev Pure(P:Program)(ng:Nat)(f:FuncId)(args:List Value)(h:zB)(n:Nat)(v:Value):Prop:=
 Rets P ng f args h n λv' h' n'=>v'=v∧h'=h∧n'=n
theorem Rets.does{f:FuncId}{args:List Value}{h:zB}{n:Nat}{Q:Value→zB→Nat→Prop}(r:Rets P ng f args h n Q)(u:Option zI):∃v h' n',Q v h' n'∧CallTo P ng f args false u h n (.ret v) u h' n':=by
 have:=r u (λo u' h' n'=>xJ (∃v,o = .ret v∧u'=u∧Q v h' n')) (λv h' n' q=>isSo_iff.2 ⟨v,rfl,rfl,q⟩);obtain⟨o,u',h',n',hk,hc⟩:=loS_call.1 this;obtain⟨v,rfl,rfl,q⟩:=isSo_iff.1 hk;exact⟨v,h',n',q,hc⟩
end
def TabsH(tabs:List (Nat×List Value))(h:zB):Prop:=∀p∈tabs,(∃z,yZ (zF h p.1)=some (p.2.length,z,2))∧∀i,zC h p.1 i=p.2[i]?
noncomputable def hasB(P:Program)(f:FuncId):Bool:=match P.funcs[f]? with
 | some fn=>match fn.body with
  | some _=> !(fn.name == "runtime.NumGoroutine")
  | none=>false
 | none=>false
section
variable {P:Program} {ng:Nat}
theorem hasB_of{f:FuncId}(h:hasB P f=true):∃fn body,P.funcs[f]? = some fn∧fn.body=some body∧(fn.name == "runtime.NumGoroutine")=false:=by
 unfold hasB at h;split at h
 · rename_i fn e;split at h
   · rename_i body e2;exact⟨fn,body,e,e2,by simpa using h⟩
   · cases h
 · cases h
theorem scal_one{ρ : Inj}{v v':Value}(hv:xU v=true)(r:RV ρ v v'):v'=v:=by
 cases r <;> first|(cases hv;done)|rfl
theorem TabsH.world{tabs:List (Nat×List Value)}{h:zB}{n:Nat}{ρ : Inj}{base:Nat}{w0 wd:World}(t:TabsH tabs h)(hg:∀p∈tabs,p.1<ng∧p.2.all xU=true)(r:HeapR P ng ρ base w0 h n wd):rT wd tabs:=by
 intro p hp;obtain⟨⟨z,h1⟩,h2⟩:=t p hp;obtain⟨g1,g2⟩:=hg p hp;obtain⟨B,e1,e2⟩:=r.glob p.1 g1;have hl:zF h p.1≠.dead:=λe=>by rw[e]at h1;cases h1
 obtain⟨o,q1,q2⟩:=r.obj p.1 B e1 hl;unfold zC at h2;cases ho:zF h p.1 <;> rw[ho]at h1 <;> first|(cases h1;done)|(exact absurd (kd_of h1) (by decide))|skip
 rename_i c k z' kd;have fl:some (k,z',kd)=some (p.2.length,z,2):=h1;simp only[Option.some.injEq,Prod.mk.injEq]at fl;obtain⟨rfl,rfl,rfl⟩:=fl;rw [ho]at q2 h2
 cases q2 with
 | cells hn hs hk hz hv hb hf =>
  rename_i c' el lo hi;rw [e2]at q1;have hsz:c'.size=p.2.length:=by rw[hs];exact(hk (by omega)).symm
  have:c'=⟨p.2⟩:=by
   apply Array.ext
   · simpa using hsz
   · intro i i1 i2;have i3:i<p.2.length:=by omega
     have r1:=hv i c'[i] i3 (aC i1);have r2:=h2 i;unfold xR at r2;dsimp only at r2;rw [if_pos i3,aa i3]at r2;injection r2 with r2
     rw[r2]at r1;have:=scal_one (ay.1 g2 _ (aR i3)) r1;rw [this];rfl
  rw[this]at q1;exact⟨el,(lo,hi),q1⟩
theorem scals_same{ρ : Inj}{args args':List Value}(ha:args.all xU=true)(r:RVs ρ args args'):args'=args:=by
 apply cV;intro i
 cases e:args[i]? with
 | none=>exact an (by rw[← r.1];exact List.getElem?_eq_none_iff.1 e)
 | some x=>
  obtain⟨x',e1,e2⟩:=r.at e;rw [e1,scal_one (ay.1 ha x (aj.2 ⟨i,e⟩)) e2]
theorem RV.scal_refl{ρ : Inj}{v:Value}(hv:xU v=true):RV ρ v v:=by
 cases v <;> first|(cases hv;done)|skip
 · exact .bool _
 · exact .int _ _
 · exact .string _
 · exact .nilFunc
 · exact .nilIface
def isRes(v:Value):Bool:=match v with
 | .tuple l=>l.toList.all xU
 | v=>xU v
theorem RV.res_refl{ρ : Inj}{v:Value}(hv:isRes v=true):RV ρ v v:=by
 cases v <;> first|(cases hv;done)|skip
 · exact .bool _
 · exact .int _ _
 · exact .string _
 · exact .nilFunc
 · exact .nilIface
 · rename_i l;refine .tuple rfl λi w w' a b=>?_;rw [a]at b;injection b with b;subst b
   exact RV.scal_refl (ay.1 hv w (aj.2 ⟨i,a⟩))
theorem tQ{f:FuncId}{args:List Value}{h:zB}{n:Nat}{v:Value}{tabs:List (Nat×List Value)}(hf:hasB P f=true)(ha:args.all xU=true)(hv:isRes v=true)(ht:TabsH tabs h)(hg:∀p∈tabs,p.1<ng∧p.2.all xU=true)
(H:∀wd:World,rT wd tabs→Calls P f ⟨args⟩ wd λe w'=>e = .returned v∧Go.RowKit.Below wd.heap.size wd w'):Pure P ng f args h n v:=by
 intro u k hk;refine loS_call.2 ⟨.ret v,u,h,n,hk _ _ _ ⟨rfl,rfl,rfl⟩,hasB_of hf,fun ρ base w0 wd args' cs hH hra hu=>?_⟩;obtain rfl:=scals_same ha hra;obtain⟨e,w',fr,⟨rfl,hb⟩,hc,hfn,hl⟩:=H wd (ht.world hg hH) cs;obtain⟨k1,k2⟩:=hH.stay hb;obtain⟨y1,y2,y3,y4⟩:=hl;exact⟨ρ,w',fr,cs,hc,k1,k2,CsTo.refl _ _,(λe=>Bool.noConfusion e),hfn,v,y1,y2,y3,y4,RV.res_refl hv⟩
theorem row_of_calls{f:FuncId}{args:List Value}{h:zB}{n len cap:Nat}{cs:List Value}{el:TypeId}{tabs:List (Nat×List Value)}(hf:hasB P f=true)(ha:args.all xU=true)(hc:cs.all xU=true)(ej:len≤cap)(eT:cap≠inf)
(ht:TabsH tabs h)(hg:∀p∈tabs,p.1<ng∧p.2.all xU=true)
(H:∀wd:World,rT wd tabs→Calls P f ⟨args⟩ wd λe w'=>e = .returned (.slice (some ⟨wd.heap.size,0,none⟩) len cap)∧w'=wd.alloc (.cells ⟨cs⟩ el)) :
 Rets P ng f args h n λv' h' n'=>v' = .slice (some ⟨n,0,none⟩) len cap∧h'=h.set .dead (mkC cs 0 0) n∧n'=n+1:=by
 intro u k hk;refine loS_call.2 ⟨_,u,_,_,hk _ _ _ ⟨rfl,rfl,rfl⟩,hasB_of hf,fun ρ base w0 wd args' cs' hH hra hu=>?_⟩;obtain rfl:=scals_same ha hra;obtain⟨e,w',fr,⟨rfl,rfl⟩,hcm,hfn,hl⟩:=H wd (ht.world hg hH) cs'
 have iJ:RVs ρ cs (⟨cs⟩:Array Value).toList:=⟨rfl,λi v v' a b=>by
  have b':cs[i]? = some v':=b;rw [a]at b';injection b' with b';subst b'
  exact RV.scal_refl (ay.1 hc v (aj.2 ⟨i,a⟩))⟩
 obtain⟨k1,k2⟩:=hH.alloc (mkC cs 0 0) (.cells ⟨cs⟩ el) ⟨wd.heap.size,cs.length,0⟩ rfl (hH.newRow (cs:=cs) (cs':=⟨cs⟩) iJ el);obtain⟨y1,y2,y3,y4⟩:=hl;refine⟨_,_,fr,cs',hcm,k1,k2,CsTo.refl _ _,(λe=>Bool.noConfusion e),hfn,_,y1,y2,y3,y4,?_⟩;exact .slice (B:=⟨wd.heap.size,cs.length,0⟩) (by show(if n=n then _ else _)=_;rw [if_pos rfl]) eT ej (.inl rfl)
end
section
variable {P:Program} {ng:Nat}
theorem Row.world{n:Nat}{h:zB}{v v':Value}{el len:Nat}{vs:List Value}{ρ : Inj}{base:Nat}{w0 wd:World}(r:Row n h v el 1 len vs)(hs:vs.all xU=true)(hH:HeapR P ng ρ base w0 h n wd)(hv:RV ρ v v') :
 (len=0∧∃a c,v' = .slice a 0 c)∨(∃bk o c,v' = .slice (some ⟨bk,o,none⟩) len c∧len≤c∧bk<wd.heap.size∧∀(j:Nat) x,vs[j]? = some x→wd.cell? ⟨bk,o+j,none⟩=some x):=by
 rcases r with⟨rfl,rfl,rfl⟩|⟨b,off,cap,m,z,kd,hb,rfl,hl,hi,hm,hr,hc⟩
 · cases hv;exact .inl ⟨rfl,_,_,rfl⟩
 · rw[aP]at hl;have fD:zF h b≠.dead:=λe=>by rw[e]at hi;cases hi
   have main:∀(B:Bl),ρ b=some B→B.b<wd.heap.size∧∀(j:Nat) x,vs[j]? = some x→wd.cell? ⟨B.b,off+j,none⟩=some x:=by
    intro B eB;obtain⟨o,q1,q2⟩:=hH.obj b B eB fD
    have hsz:B.b<wd.heap.size:=by
     rcases aw B.b wd.heap.size with h1|h1
     · exact h1
     · rw[aQ h1]at q1;cases q1
    refine⟨hsz,λj x hj=>?_⟩;have eE:=hr j x hj;unfold zC at eE;cases ho:zF h b <;> rw[ho]at eE <;> first|(cases eE;done)|skip
    rotate_left
    · rename_i c kn;rw [ho]at q2
      cases q2 with
      | rows hn gV =>
       rename_i c' el fr;obtain⟨jV,hu⟩:=rows_cell eE
       have dV:off+j<kn:=by
        rcases sG eE with⟨_,_,_,_,e1,_⟩|⟨_,_,e1,e2,_⟩
        · cases e1
        · injection e1 with _ e1;subst e1;exact e2
       have h2:off+j<c'.size:=by omega
       have rr:=gV (off+j) c'[off+j] (aC h2) (by rw[jV];exact hu);rw [jV]at rr;have e3:=scal_one (ay.1 hs x (aj.2 ⟨j,hj⟩)) rr;unfold World.cell?;dsimp only;rw [q1];show c'[off+j]? = some x;rw [aC h2,e3]
    rename_i c kn z' kd';unfold xR at eE;dsimp only at eE;rw [ho]at q2
    cases q2 with
    | cells hn hs' hk hz gV eO hf=>
     rename_i c' el lo fy;by_cases dV:off+j<kn
     · rw[if_pos dV]at eE;injection eE with eE
       have h2:off+j<c'.size:=by omega
       have rr:=gV (off+j) c'[off+j] dV (aC h2);rw [eE]at rr;have e3:=scal_one (ay.1 hs x (aj.2 ⟨j,hj⟩)) rr;unfold World.cell?;dsimp only;rw [q1];show c'[off+j]? = some x;rw [aC h2,e3]
     · rw[if_neg dV]at eE;cases eE
   cases hv with
   | slice0 e a=>exact .inl ⟨rfl,_,_,rfl⟩
   | slice e eS hlc ho=>
    rename_i B o';obtain⟨m1,m2⟩:=main B e;rcases ho with rfl|h0
    · exact .inr ⟨B.b,o',cap,rfl,hlc,m1,m2⟩
    · exact .inl ⟨by omega,_,_,by rw[show len=0 by omega]⟩
   | opened e hlc ho=>
    rename_i B o' c';obtain⟨m1,m2⟩:=main B e;rcases ho with⟨rfl,_⟩|⟨h0,_⟩
    · exact .inr ⟨B.b,o',c',rfl,hlc,m1,m2⟩
    · exact .inl ⟨by omega,_,_,by rw[show len=0 by omega]⟩
theorem pure_of_calls_row{f:FuncId}{sv:Value}{args:List Value}{h:zB}{n el len:Nat}{vs:List Value}{v:Value}{tabs:List (Nat×List Value)}(hf:hasB P f=true)(r:Row n h sv el 1 len vs)(hvs:vs.all xU=true)(ha:args.all xU=true)(hv:isRes v=true)
(ht:TabsH tabs h)(hg:∀p∈tabs,p.1<ng∧p.2.all xU=true)
(H:∀(wd:World) (sv':Value),rT wd tabs→((len=0∧∃a c,sv' = .slice a 0 c)∨(∃bk o c,sv' = .slice (some ⟨bk,o,none⟩) len c∧len≤c∧bk<wd.heap.size∧∀(j:Nat) x,vs[j]? = some x→wd.cell? ⟨bk,o+j,none⟩=some x))→
  Calls P f ⟨sv'::args⟩ wd λe w'=>e = .returned v∧Go.RowKit.Below wd.heap.size wd w'):Pure P ng f (sv::args) h n v:=by
 intro u k hk;refine loS_call.2 ⟨.ret v,u,h,n,hk _ _ _ ⟨rfl,rfl,rfl⟩,hasB_of hf,fun ρ base w0 wd args' cs hH hra hu=>?_⟩;obtain⟨sv',r',rfl,hsv,hr'⟩:=hra.of_cons;obtain rfl:=scals_same ha hr';obtain⟨e,w',fr,⟨rfl,hb⟩,hc,hfn,hl⟩:=H wd sv' (ht.world hg hH) (r.world hvs hH hsv) cs;obtain⟨k1,k2⟩:=hH.stay hb;obtain⟨y1,y2,y3,y4⟩:=hl;exact⟨ρ,w',fr,cs,hc,k1,k2,CsTo.refl _ _,(λe=>Bool.noConfusion e),hfn,v,y1,y2,y3,y4,RV.res_refl hv⟩
end
def Bld(T:Nat)(h:zB)(b:Nat)(p sv:Value):Prop:=yZ (zF h b)=some (2,T+1,0)∧zC h b 0=some p∧zC h b 1=some sv
structure OneTurned (w w':World) (g:Nat):Prop where
 os:w'.os=w.os
 tape:w'.tape=w.tape
 output:w'.output=w.output
 size:w'.heap.size=w.heap.size
 rest:∀c,c≠g→w'.heap[c]? = w.heap[c]?
section
variable {P:Program} {ng:Nat}
theorem Bld.world{T:Nat}{h:zB}{b n:Nat}{p sv:Value}{ρ : Inj}{base:Nat}{w0 wd:World}{B:Bl}(hB:Bld T h b p sv)(hH:HeapR P ng ρ base w0 h n wd)(e: ρ b=some B) :
 ∃x y c,zF h b = .cells c 2 (T+1) 0∧Tr.get undef c 0=p∧Tr.get undef c 1=sv∧wd.heap[B.b]? = some (.cells #[x,y] T (0,0))∧RV ρ p x∧RV ρ sv y∧base≤B.b∧B.n=2:=by
 obtain⟨h1,h2,h3⟩:=hB;have fD:zF h b≠.dead:=λe=>by rw[e]at h1;cases h1
 obtain⟨o,q1,q2⟩:=hH.obj b B e fD;unfold zC at h2 h3;cases ho:zF h b <;> rw[ho]at h1 <;> first|(cases h1;done)|(exact absurd (kd_of h1) (by decide))|skip
 rename_i c kn z kd;have fl:some (kn,z,kd)=some (2,T+1,0):=h1;simp only[Option.some.injEq,Prod.mk.injEq]at fl;obtain⟨rfl,rfl,rfl⟩:=fl;rw [ho]at q2 h2 h3;have g0:Tr.get undef c 0=p:=by have:some (Tr.get undef c 0)=some p:=h2;injection this
 have g1:Tr.get undef c 1=sv:=by have:some (Tr.get undef c 1)=some sv:=h3;injection this
 cases q2 with
 | cells hn hs hk hz hv hb hf=>
  rename_i c' el lo hi;obtain⟨rfl,rfl⟩:=hf (by decide);have hel:T+1=el+1:=hz.2 rfl (by omega);obtain rfl:T=el:=by omega
  have hn2:=hk (by decide);have hsz:c'.size=2:=by omega
  have e0:c'[0]? = some (c'[0]'(by omega)):=aC (by omega);have e1:c'[1]? = some (c'[1]'(by omega)):=aC (by omega);have r0:=hv 0 _ (by omega) e0;have r1:=hv 1 _ (by omega) e1;rw [g0]at r0;rw [g1]at r1;refine⟨_,_,c,rfl,g0,g1,?_,r0,r1,hb (by decide),hn2.symm⟩;rw [q1];congr 2
  apply Array.ext
  · simp[hsz]
  · intro i i1 i2;have:i=0∨i=1:=by omega
    rcases this with rfl|rfl <;> rfl
theorem copyCheck_fresh{f:FuncId}{T b n:Nat}{h:zB}{sv:Value}(hf:hasB P f=true)(hB:Bld T h b (.pointer none) sv)
(H:∀(wd:World) (c:Nat),wd.cell? ⟨c,0,none⟩=some (.pointer none)→wd.shape? c=some (T,2)→wd.frozen? ⟨c,0,none⟩=false→
  Calls P f #[.pointer (some ⟨c,0,none⟩)] wd λe w'=>e = .returned (.tuple #[])∧w'=wd.setCell ⟨c,0,none⟩ (.pointer (some ⟨c,0,none⟩))) :
 Rets P ng f [.pointer (some ⟨b,0,none⟩)] h n λv h' n'=>v = .tuple #[]∧h'=h.set .dead (stC (zF h b) 0 [.pointer (some ⟨b,0,none⟩)]) b∧n'=n:=by
 intro u k hk;refine loS_call.2 ⟨_,u,_,_,hk _ _ _ ⟨rfl,rfl,rfl⟩,hasB_of hf,fun ρ base w0 wd args' cs hH hra hu=>?_⟩;obtain⟨v',r',rfl,hv,hr'⟩:=hra.of_cons;obtain rfl:=hr'.of_nil
 cases hv with
 | ptr e =>
  rename_i B;obtain⟨x,y,c,ho,g0,g1,q1,rx,ry,hbase,hBn⟩:=hB.world hH e;cases rx
  have gY:wd.cell? ⟨B.b,0,none⟩=some (.pointer none):=by unfold World.cell?;dsimp only;rw [q1];rfl
  have hsh:wd.shape? B.b=some (T,2):=by unfold World.shape?;rw [q1];rfl
  have hfz:wd.frozen? ⟨B.b,0,none⟩=false:=by unfold World.frozen?;dsimp only;rw [q1];rfl
  obtain⟨e2,w',fr,⟨rfl,rfl⟩,hcm,hfn,hl⟩:=H wd B.b gY hsh hfz cs;obtain⟨y1,y2,y3,y4⟩:=hl
  have lA:(wd.setCell ⟨B.b,0,none⟩ (.pointer (some ⟨B.b,0,none⟩))).heap[B.b]? = some (.cells #[.pointer (some ⟨B.b,0,none⟩),y] T (0,0)):=by
   unfold World.setCell;dsimp only;rw [dD,if_pos rfl,q1];rfl
  obtain⟨k1,k2⟩:=hH.turn e (by rw[ho];exact AObj.noConfusion) (stC (zF h b) 0 [.pointer (some ⟨b,0,none⟩)]) (.cells #[.pointer (some ⟨B.b,0,none⟩),y] T (0,0)) (wd.setCell ⟨B.b,0,none⟩ (.pointer (some ⟨B.b,0,none⟩))) hbase (by
   rw[ho];refine .cells (by omega) (by simp[hBn]) (λ_=>hBn.symm) ⟨λh=>absurd h (by decide),λ_ _=>rfl⟩ (λi v' hi e3=>?_) (λ_=>hbase) (λ_=>⟨rfl,rfl⟩);rw [Tr.get_ofListFrom];have fc:i=0∨i=1:=by omega
   rcases fc with rfl|rfl
   · rw[if_pos (by simp)];have e4:some (Value.pointer (some ⟨B.b,0,none⟩))=some v':=e3;injection e4 with e4;subst e4
     exact .ptr e
   · rw[if_neg (by simp),g1];have e4:some y=some v':=e3;injection e4 with e4;subst e4
     exact ry) lA (by simp[World.setCell]) (λc hc=>by
   unfold World.setCell;dsimp only;rw [dD,if_neg (λh=>hc h.symm)]) rfl rfl rfl
  exact⟨ρ,_,fr,cs,hcm,k1,k2,CsTo.refl _ _,(λe=>Bool.noConfusion e),hfn,_,y1,y2,y3,y4,RV.res_refl rfl⟩
theorem copyCheck_used{f:FuncId}{T b n:Nat}{h:zB}{sv:Value}(hf:hasB P f=true)(hB:Bld T h b (.pointer (some ⟨b,0,none⟩)) sv)
(H:∀(wd:World) (c:Nat),wd.cell? ⟨c,0,none⟩=some (.pointer (some ⟨c,0,none⟩))→Calls P f #[.pointer (some ⟨c,0,none⟩)] wd λe w'=>e = .returned (.tuple #[])∧w'=wd) :
 Rets P ng f [.pointer (some ⟨b,0,none⟩)] h n λv h' n'=>v = .tuple #[]∧h'=h∧n'=n:=by
 intro u k hk;refine loS_call.2 ⟨_,u,_,_,hk _ _ _ ⟨rfl,rfl,rfl⟩,hasB_of hf,fun ρ base w0 wd args' cs hH hra hu=>?_⟩;obtain⟨v',r',rfl,hv,hr'⟩:=hra.of_cons;obtain rfl:=hr'.of_nil
 cases hv with
 | ptr e =>
  rename_i B;obtain⟨x,y,c,ho,g0,g1,q1,rx,ry,hbase,hBn⟩:=hB.world hH e
  cases rx with
  | ptr e'=>
   rename_i B';rw [e]at e';injection e' with e'
   subst e';have gY:wd.cell? ⟨B.b,0,none⟩=some (.pointer (some ⟨B.b,0,none⟩)):=by unfold World.cell?;dsimp only;rw [q1];rfl
   obtain⟨e2,w',fr,⟨rfl,rfl⟩,hcm,hfn,hl⟩:=H wd B.b gY cs;obtain⟨y1,y2,y3,y4⟩:=hl;exact⟨ρ,_,fr,cs,hcm,hH,Grow.refl _ _ _ _ hH.dom,CsTo.refl _ _,(λe=>Bool.noConfusion e),hfn,_,y1,y2,y3,y4,RV.res_refl rfl⟩
abbrev bytesV(l:List UInt8):List Value:=l.map λb=>Value.int .u8 (b.toNat:Nat)
theorem builder_String{f:FuncId}{T e8 b lo n:Nat}{h:zB}{p sv:Value}{l:List UInt8}(hf:hasB P f=true)(hB:Bld T h b p sv)(ho:Own lo n h sv e8 1 l.length (bytesV l))(eh:zP sv≠some b)(ej:l.length<1000000)
(H0:∀(wd:World) (c:Nat) (x:Value),wd.heap[c]? = some (.cells #[x,.slice none 0 0] T (0,0))→Calls P f #[.pointer (some ⟨c,0,none⟩)] wd λe w'=>e = .returned (.string ⟨#[]⟩)∧Go.RowKit.Below wd.heap.size wd w')
(H:∀(wd:World) (c g cap:Nat) (x:Value) (cur:Array Value),l≠[]→wd.heap[c]? = some (.cells #[x,.slice (some ⟨g,0,none⟩) l.length cap] T (0,0))→wd.heap[g]? = some (.cells cur e8 (0,0))→l.length≤cap→cap≤cur.size→
  (∀(j:Nat) (y:UInt8),l[j]? = some y→cur[j]? = some (.int .u8 (y.toNat:Nat)))→Calls P f #[.pointer (some ⟨c,0,none⟩)] wd λe w'=>e = .returned (.string ⟨⟨l⟩⟩)∧OneTurned wd w' g) :
 Rets P ng f [.pointer (some ⟨b,0,none⟩)] h n λv h' n'=>v=str l∧n'=n∧(∀b',zP sv≠some b'→zF h' b'=zF h b'):=by
 intro u k hk;rcases ho with⟨rfl,h0,h1⟩|⟨b2,q1,q2,rfl,q3,q4,q5,q6⟩
 · have km:l=[]:=aH.1 h0;subst km;refine loS_call.2 ⟨_,u,_,_,hk _ _ _ ⟨rfl,rfl,λ_ _=>rfl⟩,hasB_of hf,fun ρ base w0 wd args' cs hH hra hu=>?_⟩;obtain⟨v',r',rfl,hv,hr'⟩:=hra.of_cons;obtain rfl:=hr'.of_nil
   cases hv with
   | ptr e=>
    rename_i B;obtain⟨x,y,c,ho,g0,g1,w1,rx,ry,hbase,hBn⟩:=hB.world hH e;cases ry
    obtain⟨e2,w',fr,⟨rfl,ku⟩,hcm,hfn,hl⟩:=H0 wd B.b x w1 cs;obtain⟨y1,y2,y3,y4⟩:=hl;obtain⟨k1,k2⟩:=hH.stay ku;exact⟨ρ,_,fr,cs,hcm,k1,k2,CsTo.refl _ _,(λe=>Bool.noConfusion e),hfn,_,y1,y2,y3,y4,RV.res_refl rfl⟩
 · refine loS_call.2 ⟨.ret (str l),u,h.set .dead .dead b2,n,hk _ _ _ ⟨rfl,rfl,λb' eO=>?_⟩,hasB_of hf,fun ρ base w0 wd args' cs hH hra hu=>?_⟩
   · rw[zH,if_neg (λe=>eO (by rw[e];rfl))]
   · obtain⟨v',r',rfl,hv,hr'⟩:=hra.of_cons;obtain rfl:=hr'.of_nil
     cases hv with
     | ptr e=>
      rename_i B;obtain⟨x,y,c,ho,g0,g1,w1,rx,ry,hbase,hBn⟩:=hB.world hH e;have fD:zF h b2≠.dead:=λe=>by rw[e]at q3;cases q3
      rcases ry.of_slice with⟨G,o',c',eg,rfl,_,fQ,⟨hc,_⟩|⟨_,hog⟩⟩|⟨_,hc,_⟩
      · exact absurd rfl hc
      rotate_left
      · exact absurd hc (by decide)
      · skip
        obtain⟨o,z1,z2⟩:=hH.obj b2 G eg fD;unfold zC at q6;cases hob:zF h b2 <;> rw[hob]at q3 <;> first|(cases q3;done)|(exact absurd (kd_of q3) (by decide))|skip
        rename_i cc kn z kd;have fl:some (kn,z,kd)=some ((bytesV l).length,zc e8 1,1):=q3;simp only[Option.some.injEq,Prod.mk.injEq]at fl;obtain⟨rfl,rfl,rfl⟩:=fl;rw [hob]at z2 q6
        cases z2 with
        | cells hn hs eM hz hv hb hf' =>
         rename_i cur el lo' fy;obtain⟨rfl,rfl⟩:=hf' (by decide);obtain⟨hel,hGz⟩:=zc_inj (hz.1 rfl);subst hel
         have eS:o'=0∧0+c'*G.z=G.n:=by
          rcases hog with h9|⟨_,h9⟩
          · exact h9
          · exact absurd h9 (dK _)
         obtain⟨rfl,fW⟩:=eS;rw [← hGz]at fW
         have kb:∀(j:Nat) (y:UInt8),l[j]? = some y→cur[j]? = some (.int .u8 (y.toNat:Nat)):=by
          intro j y hj;have hjl:j<l.length:=(ab.1 hj).1;have hjk:j<(bytesV l).length:=by simpa using hjl
          have r2:=q6 j;unfold xR at r2;dsimp only at r2;rw [if_pos hjk]at r2;have e5:(bytesV l)[j]? = some (.int .u8 (y.toNat:Nat)):=by rw[ap,hj];rfl
          rw[e5]at r2;injection r2 with r2
          have hjc:j<cur.size:=by omega
          have r1:=hv j cur[j] hjk (aC hjc);rw [r2]at r1;rw [aC hjc,scal_one rfl r1]
         obtain⟨e2,w',fr,⟨rfl,ht⟩,hcm,hfn,hl⟩:=H wd B.b G.b c' x cur (λe9=>by rw[e9]at q5;exact absurd q5 (dK _)) w1 z1 fQ (by omega) kb cs;obtain⟨y1,y2,y3,y4⟩:=hl;obtain⟨k1,k2⟩:=hH.kill b2;have hGbase:base≤G.b:=hb (by decide)
         have j0:∀a A,ρ a=some A→zF (h.set .dead .dead b2) a≠.dead→A.b≠G.b:=by
          intro a A ea gU heq;rw [zH]at gU;by_cases hab:b2=a
          · rw[if_pos hab]at gU;exact gU rfl
          · rw[if_neg hab]at gU;exact hab (hH.inj b2 a G A eg ea fD gU heq.symm)
         refine⟨ρ,w',fr,cs,hcm,⟨k1.dom,λa A ea gU=>?_,k1.inj,?_,by rw[ht.size];exact k1.size,k1.glob,k1.ngn⟩,⟨k2.nn,k2.old,k2.new,λcx hcx hk9=>?_,by rw[ht.size];exact ae _,k2.dead,ht.tape⟩,CsTo.refl _ _,(λe=>Bool.noConfusion e),hfn,_,y1,y2,y3,y4,RV.res_refl rfl⟩
         · obtain⟨o1,p1,p2⟩:=k1.obj a A ea gU;exact⟨o1,by rw[ht.rest _ (j0 a A ea gU)];exact p1,p2⟩
         · exact k1.below.trans ⟨ht.os,ht.tape,ht.output,by rw[ht.size];exact ae _,λkx hkx=>ht.rest kx (by omega)⟩
         · exact ht.rest cx (λh9=>hk9 b2 G eg fD h9.symm)
end
end Go.Ex
namespace Go.Ex
open Go
def cutB(c:UInt8):List UInt8→List UInt8×List UInt8×Bool
 | []=>([],[],false)
 | x::r=>if x=c then([],r,true) else(x::(cutB c r).1,(cutB c r).2.1,(cutB c r).2.2)
def wZ(c:UInt8):List UInt8→List (List UInt8)
 | []=>[[]]
 | x::r=>if x=c then []::wZ c r else match wZ c r with
  | []=>[[x]]
  | h::t=>(x::h)::t
theorem splitL_ne(c:UInt8):∀s,wZ c s≠[]:=by
 intro s
 induction s with
 | nil=>simp [wZ]
 | cons x r ih=>
  unfold wZ;split
  · simp
  · split <;> simp
theorem cutB_idx(c:UInt8):∀s:List UInt8,(Lib.index s [c] = -1∧cutB c s=(s,[],false)∧c∉s)∨(∃i:Nat,Lib.index s [c]=i∧cutB c s=(s.take i,s.drop (i+1),true)∧i<s.length∧s=s.take i++c::s.drop (i+1)∧c∉s.take i):=by
 intro s
 induction s with
 | nil=>exact .inl ⟨rfl,rfl,by simp⟩
 | cons x r ih=>
  by_cases h:x=c
  · subst h;refine .inr ⟨0,?_,?_,by simp,by simp,by simp⟩
    · unfold Lib.index;simp
    · unfold cutB;simp
  · have hp:([c].isPrefixOf (x::r))=false:=by simp[List.isPrefixOf];exact λe=>h e.symm
    rcases ih with⟨h1,h2,h3⟩|⟨i,h1,h2,h3,h4,h5⟩
    · refine .inl ⟨?_,?_,?_⟩
      · unfold Lib.index;rw [hp,h1];rfl
      · unfold cutB;rw [if_neg h,h2]
      · intro hm;rcases aA.1 hm with e|e
        · exact h e.symm
        · exact h3 e
    · refine .inr ⟨i+1,?_,?_,by simp;exact h3,?_,?_⟩
      · unfold Lib.index;rw [hp,h1];have:((i:Int) == -1)=false:=by simp
        rw[this];simp
      · unfold cutB;rw [if_neg h,h2];simp
      · simp only[cj,List.drop_succ_cons,dJ];rw [← h4]
      · simp only[cj,aA,not_or];exact⟨λe=>h e.symm,h5⟩
theorem cut_one(c:UInt8)(s:List UInt8):Lib.cut s [c]=cutB c s:=by
 unfold Lib.cut;rcases cutB_idx c s with⟨h1,h2,_⟩|⟨i,h1,h2,h3,_⟩
 · rw[h1,h2];rfl
 · rw[h1,h2,if_pos (by omega)];simp
theorem splitL_cut(c:UInt8):∀s:List UInt8,wZ c s=if (cutB c s).2.2 then(cutB c s).1::wZ c (cutB c s).2.1 else [s]:=by
 intro s
 induction s with
 | nil=>rfl
 | cons x r ih =>
  have e1:wZ c (x::r)=if x=c then []::wZ c r else match wZ c r with
   | []=>[[x]]
   | h::t=>(x::h)::t:=rfl
  have e2:cutB c (x::r)=if x=c then([],r,true) else(x::(cutB c r).1,(cutB c r).2.1,(cutB c r).2.2):=rfl
  rw[e1,e2];by_cases h:x=c
  · rw[if_pos h,if_pos h];rfl
  · rw[if_neg h,if_neg h,ih];by_cases hb:(cutB c r).2.2=true
    · rw[if_pos hb];dsimp only;rw [if_pos hb]
    · rw[if_neg hb];dsimp only;rw [if_neg hb]
theorem countFrom_one(c:UInt8):∀(k:Nat) (s:List UInt8),s.length<k→Lib.countFrom [c] k s=s.count c:=by
 intro k
 induction k with
 | zero=>intro s h;omega
 | succ k ih=>
  intro s h;unfold Lib.countFrom;rcases cutB_idx c s with⟨h1,_,h3⟩|⟨i,h1,_,h3,h4,h5⟩
  · rw[h1,List.count_eq_zero_of_not_mem h3];rfl
  · have hi:(Lib.index s [c] == -1)=false:=by rw[h1];simp
    rw[hi,h1];simp only[aX,if_false,cg,cQ];rw [ih (s.drop (i+1)) (by rw[List.length_drop];omega)]
    have:s.count c=(s.take i).count c+((s.drop (i+1)).count c+1):=by
     conv=>lhs;rw [h4]
     rw[List.count_append,dP]
    rw[this,List.count_eq_zero_of_not_mem h5];omega
theorem splitK_one(c:UInt8):∀(k:Nat) (s:List UInt8),s.count c≤k→Lib.splitK [c] 0 k s=wZ c s:=by
 intro k
 induction k with
 | zero=>
  intro s h;rw [splitL_cut];rcases cutB_idx c s with⟨_,h2,_⟩|⟨i,_,_,_,h4,_⟩
  · rw[h2];rfl
  · rw[h4,List.count_append,dP]at h;omega
 | succ k ih=>
  intro s h;rw [splitL_cut];unfold Lib.splitK;rcases cutB_idx c s with⟨h1,h2,_⟩|⟨i,h1,h2,h3,h4,_⟩
  · rw[h1,h2];rfl
  · have hi:(Lib.index s [c] == -1)=false:=by rw[h1];simp
    rw[hi,h2,h1]
    have hc:(s.drop (i+1)).count c≤k:=by
     rw[h4,List.count_append,dP]at h;omega
    have:=ih (s.drop (i+1)) hc;simp only[aX,if_false,if_true,cg,Nat.add_zero,cQ];rw [this]
theorem split_one(c:UInt8)(s:ByteArray):(Lib.splitB ⟨#[c]⟩ 0 (Lib.countB s ⟨#[c]⟩) s).map (·.data.toList)=wZ c s.data.toList:=by
 rw[Lib.splitB_data];refine splitK_one c _ _ ?_;show _≤Lib.countFrom [c] (s.data.toList.length+1) s.data.toList;rw [countFrom_one c _ _ (by omega)];exact ae _
theorem count_one(c:UInt8)(s:ByteArray):Lib.countB s ⟨#[c]⟩=s.data.toList.count c:=countFrom_one c _ _ (by omega)
theorem splitL_length(c:UInt8):∀s,(wZ c s).length=s.count c+1:=by
 intro s
 induction s with
 | nil=>rfl
 | cons x r ih=>
  unfold wZ;by_cases h:x=c
  · subst h;simp [ih]
  · rw[if_neg h,List.count_cons_of_ne h];split
    · rename_i e;exact absurd e (splitL_ne c r)
    · rename_i a b e;rw [e]at ih;simpa using ih
end Go.Ex
namespace Go.Ex
section
open Go.Shelf Go.RowKit Go.Proofs
variable {P:Program} {ρ : Ren}
theorem freeze_one(w:World)(g m:Nat):OneTurned w (w.freeze ⟨g,0,none⟩ m) g:=by
 unfold World.freeze;split
 · exact⟨rfl,rfl,rfl,rfl,λ_ _=>rfl⟩
 · refine⟨rfl,rfl,rfl,by simp,λc hc=>?_⟩;dsimp only;rw [dD,if_neg (λh=>hc h.symm)]
theorem OneTurned.drew{w w':World}{g:Nat}(h:OneTurned w.drew w' g):OneTurned w w' g:=⟨h.os,h.tape,h.output,h.size,h.rest⟩
set_option maxHeartbeats 1000000 in
set_option maxRecDepth 100000 in
theorem string_model(L:Lays.n169 P ρ)(X:Builder.Extra P ρ)(b g cap:Nat)(p:Value)(cur:Array Value)(l:List UInt8)(w:World)(h0:l≠[])(ie:l.length<1000000)(hbk:w.heap[b]? = some (.cells #[p,.slice (some ⟨g,0,none⟩) l.length cap] (ρ.t 72) (0,0)))(hg:w.heap[g]? = some (.cells cur (ρ.t 5) (0,0)))
(kQ:l.length≤cap)(eX:cap≤cur.size)(kb:∀(j:Nat) (y:UInt8),l[j]? = some y→cur[j]? = some (.int .u8 (y.toNat:Nat))) :
 Calls P (ρ.f 169) #[.pointer (some ⟨b,0,none⟩)] w λe w'=>e = .returned (.string ⟨l.toArray⟩)∧OneTurned w w' g:=by
 have km:l.length≠0:=by simpa using h0
 have c1:w.drew.cell? ⟨b,1,none⟩=some (.slice (some ⟨g,0,none⟩) l.length cap):=by
  have:w.drew.heap[b]? = some (.cells #[p,.slice (some ⟨g,0,none⟩) l.length cap] (ρ.t 72) (0,0)):=hbk;rw [Lib.cell_of_heap this];rfl
 have hSD:(Builtin.unsafeSliceData_ #[(ρ.t 37)] (ρ.t 127) #[.slice (some ⟨g,0,none⟩) l.length cap]).run P w.drew = .ok (.pointer (some ⟨g,0,none⟩)) w.drew:=
  Lib.run_unsafeSliceData_row _ _ _ _ _ _ (by omega)
 have hUS:(Builtin.unsafeString_ #[(ρ.t 127),(ρ.t 3)] (ρ.t 9) #[.pointer (some ⟨g,0,none⟩),.int .i64 l.length]).run P w.drew = .ok (.string ⟨l.toArray⟩) (w.drew.freeze ⟨g,0,none⟩ l.length):=by
  refine Lib.run_unsafeString_row w.drew (ρ.t 127) (ρ.t 3) (ρ.t 9) (ρ.t 5) L.t127 X.cellsByte g cur.size (by have hg':w.drew.heap[g]? = some (.cells cur (ρ.t 5) (0,0)):=hg;simp [World.shape?,hg']) l h0 (by omega) (by omega) ?_;intro j x hx;have hg':w.drew.heap[g]? = some (.cells cur (ρ.t 5) (0,0)):=hg;have e9:Addr.add ⟨g,0,none⟩ j=⟨g,j,none⟩:=by simp[Addr.add];omega
  rw[e9,Lib.cell_of_heap hg'];exact kb j x hx
 have mixed:=L.mixed;have t72:=L.t72;have a72:=L.a72;have z72:=L.z72;have v72:=L.v72;have u72:=run_underlying L.t72;have t70:=L.t70;have a70:=L.a70;have z70:=L.z70;have v70:=L.v70;have u70:=run_underlying L.t70;have t37:=L.t37;have a37:=L.a37;have z37:=L.z37;have v37:=L.v37;have u37:=run_underlying L.t37;have t127:=L.t127;have a127:=L.a127;have z127:=L.z127;have v127:=L.v127;have u127:=run_underlying L.t127;have t3:=L.t3;have a3:=L.a3;have z3:=L.z3;have v3:=L.v3;have u3:=run_underlying L.t3;have t9:=L.t9;have a9:=L.a9;have z9:=L.z9;have v9:=L.v9;have u9:=run_underlying L.t9;have t5:=X.t5;have a5:=X.a5;have z5:=X.z5;have v5:=X.v5;have u5:=run_underlying X.t5
 go_enter L.f169,Body.n169_ntmps ρ
 go_wp2
 go_region_o
 all_goals (go_wp2;go_ret;exact⟨rfl,(freeze_one _ _ _).drew⟩)
end
end Go.Ex
namespace Go.Ex
section
def Sub(l h:zB):Prop:=∀b,zF l b = .dead∨zF h b=zF l b
theorem Sub.refl(h:zB):Sub h h:=λ_=>.inr rfl
section
variable {P:Program} {ng:Nat}
theorem HeapR.sub{ρ : Inj}{base:Nat}{w0:World}{h l:zB}{n:Nat}{wd:World}(r:HeapR P ng ρ base w0 h n wd)(hs:Sub l h):HeapR P ng ρ base w0 l n wd:=by
 refine⟨r.dom,λb B e hl=>?_,λa b A B ea eb la lb=>?_,r.below,r.size,r.glob,r.ngn⟩
 · rcases hs b with h1|h1
   · exact absurd h1 hl
   · rw[← h1]at hl ⊢;exact r.obj b B e hl
 · rcases hs a with h1|h1
   · exact absurd h1 la
   · rcases hs b with h2|h2
     · exact absurd h2 lb
     · exact r.inj a b A B ea eb (by rw[h1];exact la) (by rw[h2];exact lb)
theorem Grow.sub{ρ ρ':Inj}{h l h1 l1:zB}{n n':Nat}{wd wd':World}(g:Grow ρ l n wd ρ' h1 n' wd')(hs:Sub l h)(fJ:Sub l1 h1):Grow ρ h n wd ρ' l1 n' wd':=by
 have up:∀b,zF l b≠.dead→zF h b≠.dead:=λb hb=>by
  rcases hs b with h2|h2
  · exact absurd h2 hb
  · rw[h2];exact hb
 have dn:∀b,zF h1 b = .dead→zF l1 b = .dead:=λb hb=>by
  rcases fJ b with h2|h2
  · exact h2
  · rw[← h2];exact hb
 refine⟨g.nn,g.old,λb B hb e=>?_,λc hc hk=>g.keep c hc λb B e hl=>hk b B e (up b hl),g.size,λb hb hd=>dn b (g.dead b hb ?_),g.tape⟩
 · rcases g.new b B hb e with h2|⟨a,A,h3,h4,h5,h6⟩
   · exact .inl h2
   · exact .inr ⟨a,A,h3,h4,h5,up a h6⟩
 · rcases hs b with h2|h2
   · exact h2
   · rw[← h2];exact hd
theorem CallTo.sub{f:FuncId}{args:List Value}{df:Bool}{u u':Option zI}{h l h1 l1:zB}{n n':Nat}{o:Out}(c:CallTo P ng f args df u l n o u' h1 n')(hs:Sub l h)(fJ:Sub l1 h1) :
 CallTo P ng f args df u h n o u' l1 n':=by
 refine⟨c.1,fun ρ base w0 wd args' cs hH ha hu=>?_⟩;obtain⟨ρ',wd',fr,cs',s1,s2,s3,s4,s5,s6,s7⟩:=c.2 ρ base w0 wd args' cs (hH.sub hs) ha hu;exact⟨ρ',wd',fr,cs',s1,s2.sub fJ,s3.sub hs fJ,s4,s5,s6,s7⟩
end
structure Rsl where
 v:Value
 h:zB
 n:Nat
abbrev HookH:=FuncId→List Value→zB→Nat→Option Rsl
noncomputable def Lo.hookH(hk:HookH)(lo:Lo):Lo:=
 { lo with call:=λf args df u h n k=>Bool.rec (Option.rec (lo.call f args df u h n k) (λr=>k (.ret r.v) u r.h r.n) (hk f args h n)) (lo.call f args df u h n k) df }
noncomputable def runHH(P:Program)(hk:HookH)(fuel:Nat):Lo:=Nat.rec Lo.bot (λ_ lo=>Lo.hookH hk (Lo.next P lo)) fuel
def HookHOK(P:Program)(ng:Nat)(hk:HookH):Prop:=∀f args h n r,hk f args h n=some r→∀u,CallTo P ng f args false u h n (.ret r.v) u r.h r.n
theorem hookH_sound{P:Program}{ng:Nat}{hk:HookH}(hh:HookHOK P ng hk){lo:Lo}(hS:Sound P ng lo):Sound P ng (Lo.hookH hk lo) where
 code:=hS.code
 round:=hS.round
 leave:=hS.leave
 call f args df u h n k hx:=by
  cases df with
  | true=>exact hS.call f args true u h n k hx
  | false =>
   have eo:(Option.rec (lo.call f args false u h n k) (λr=>k (.ret r.v) u r.h r.n) (hk f args h n):Bool)=true:=hx
   cases e:hk f args h n with
   | none=>rw [e]at eo;exact hS.call f args false u h n k eo
   | some r=>
    rw[e]at eo;exact⟨.ret r.v,u,r.h,r.n,eo,hh f args h n r e u⟩
theorem soundHH{P:Program}{ng:Nat}(hP:yG ng P=true)(hmix:P.follows .mixedOrders=true){hk:HookH}(hh:HookHOK P ng hk):∀fuel,Sound P ng (runHH P hk fuel):=by
 intro fuel
 induction fuel with
 | zero=>exact sound_bot
 | succ n ih=>exact hookH_sound hh (sound_next (draw_ok hP hmix) hP ih)
structure Once where
 f:FuncId
 args:List Value
 h:zB
 n:Nat
 r:Rsl
end
end Go.Ex
