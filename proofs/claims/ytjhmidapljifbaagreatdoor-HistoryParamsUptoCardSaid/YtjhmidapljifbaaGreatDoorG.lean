/- A part of the proof for HistoryParams: SRc. Printed from longer texts. -/
import Derived.Test.YtjhmidapljifbaaGreatDoorF
import Derived.WalkKit
import Derived.LoopTactic
import Derived.BigCall
import Derived.Lib.ItoaLen
set_option linter.all false
set_option maxHeartbeats 64000000
namespace Go.Proofs
open Go.Shelf Go.RowKit
def Tryz.bl_ren:Go.Shelf.Ren:=⟨fun|166=>101|167=>103|240=>161|276=>215|_=>0,fun|0=>0|3=>3|4=>4|5=>5|9=>9|20=>20|37=>163|70=>162|72=>165|75=>167|80=>174|164=>293|_=>0,fun _=>0⟩
theorem Tryz.bl166:Lays.n166 Tryz.prog Tryz.bl_ren:={
 mixed:=by kernel_rfl
 f166:=Tryz.func101.trans (congrArg some (by kernel_rfl))
 f240:=Tryz.func161.trans (congrArg some (by kernel_rfl))
 f276:=Tryz.func215.trans (congrArg some (by kernel_rfl))
 t0:=Tryz.underlying0
 a0:=Tryz.isAgg0
 z0:=Tryz.sizeOf0
 v0:=Tryz.zeroValue0
 t3:=Tryz.underlying3
 a3:=Tryz.isAgg3
 z3:=Tryz.sizeOf3
 v3:=Tryz.zeroValue3
 t4:=Tryz.underlying4
 a4:=Tryz.isAgg4
 z4:=Tryz.sizeOf4
 v4:=Tryz.zeroValue4
 t9:=Tryz.underlying9
 a9:=Tryz.isAgg9
 z9:=Tryz.sizeOf9
 v9:=Tryz.zeroValue9
 t20:=Tryz.underlying20
 a20:=Tryz.isAgg20
 z20:=Tryz.sizeOf20
 v20:=Tryz.zeroValue20
 t37:=Tryz.underlying163
 a37:=Tryz.isAgg163
 z37:=Tryz.sizeOf163
 v37:=Tryz.zeroValue163
 t70:=Tryz.underlying162
 a70:=Tryz.isAgg162
 z70:=Tryz.sizeOf162
 v70:=Tryz.zeroValue162
 t72:=Tryz.underlying165
 a72:=Tryz.isAgg165
 z72:=Tryz.sizeOf165
 v72:=Tryz.zeroValue165
 t75:=Tryz.underlying167
 a75:=Tryz.isAgg167
 z75:=Tryz.sizeOf167
 v75:=Tryz.zeroValue167
 t164:=Tryz.underlying293
 a164:=Tryz.isAgg293
 z164:=Tryz.sizeOf293
 v164:=Tryz.zeroValue293}
theorem Tryz.bl167:Lays.n167 Tryz.prog Tryz.bl_ren:={
 mixed:=by kernel_rfl
 f167:=Tryz.func103.trans (congrArg some (by kernel_rfl))
 f240:=Tryz.func161.trans (congrArg some (by kernel_rfl))
 f276:=Tryz.func215.trans (congrArg some (by kernel_rfl))
 t0:=Tryz.underlying0
 a0:=Tryz.isAgg0
 z0:=Tryz.sizeOf0
 v0:=Tryz.zeroValue0
 t4:=Tryz.underlying4
 a4:=Tryz.isAgg4
 z4:=Tryz.sizeOf4
 v4:=Tryz.zeroValue4
 t5:=Tryz.underlying5
 a5:=Tryz.isAgg5
 z5:=Tryz.sizeOf5
 v5:=Tryz.zeroValue5
 t9:=Tryz.underlying9
 a9:=Tryz.isAgg9
 z9:=Tryz.sizeOf9
 v9:=Tryz.zeroValue9
 t20:=Tryz.underlying20
 a20:=Tryz.isAgg20
 z20:=Tryz.sizeOf20
 v20:=Tryz.zeroValue20
 t37:=Tryz.underlying163
 a37:=Tryz.isAgg163
 z37:=Tryz.sizeOf163
 v37:=Tryz.zeroValue163
 t70:=Tryz.underlying162
 a70:=Tryz.isAgg162
 z70:=Tryz.sizeOf162
 v70:=Tryz.zeroValue162
 t72:=Tryz.underlying165
 a72:=Tryz.isAgg165
 z72:=Tryz.sizeOf165
 v72:=Tryz.zeroValue165
 t75:=Tryz.underlying167
 a75:=Tryz.isAgg167
 z75:=Tryz.sizeOf167
 v75:=Tryz.zeroValue167
 t164:=Tryz.underlying293
 a164:=Tryz.isAgg293
 z164:=Tryz.sizeOf293
 v164:=Tryz.zeroValue293}
theorem Tryz.bl240:Lays.n240 Tryz.prog Tryz.bl_ren:={
 mixed:=by kernel_rfl
 f240:=Tryz.func161.trans (congrArg some (by kernel_rfl))
 f276:=Tryz.func215.trans (congrArg some (by kernel_rfl))
 t0:=Tryz.underlying0
 a0:=Tryz.isAgg0
 z0:=Tryz.sizeOf0
 v0:=Tryz.zeroValue0
 t4:=Tryz.underlying4
 a4:=Tryz.isAgg4
 z4:=Tryz.sizeOf4
 v4:=Tryz.zeroValue4
 t9:=Tryz.underlying9
 a9:=Tryz.isAgg9
 z9:=Tryz.sizeOf9
 v9:=Tryz.zeroValue9
 t20:=Tryz.underlying20
 a20:=Tryz.isAgg20
 z20:=Tryz.sizeOf20
 v20:=Tryz.zeroValue20
 t70:=Tryz.underlying162
 a70:=Tryz.isAgg162
 z70:=Tryz.sizeOf162
 v70:=Tryz.zeroValue162
 t72:=Tryz.underlying165
 a72:=Tryz.isAgg165
 z72:=Tryz.sizeOf165
 v72:=Tryz.zeroValue165
 t164:=Tryz.underlying293
 a164:=Tryz.isAgg293
 z164:=Tryz.sizeOf293
 v164:=Tryz.zeroValue293}
theorem Tryz.bx:Builder.Extra Tryz.prog Tryz.bl_ren where
 sizeBuilder:=by kernel_rfl
 liesBuilder:=by kernel_rfl
 t5:=Tryz.underlying5
 a5:=Tryz.isAgg5
 z5:=Tryz.sizeOf5
 v5:=Tryz.zeroValue5
 infoByte:=by kernel_rfl
 cellsByte:=by kernel_rfl
 sizeByte:=by kernel_rfl
 neB5:=by decide
theorem wStr(B b:Nat)(bs:List Value)(s:ByteArray)(w:World)(h:Lib.IsBuilderF 165 5 B b bs w)(hlen:bs.length+s.size≤140737488355328)(hBw:B≤w.heap.size):
  Calls Tryz.prog 101 #[.pointer (some ⟨b,0,none⟩),.string s] w fun e w'=>e= .returned (.tuple #[.int .i64 s.size,.nilIface])∧(Lib.BuilderAtF 165 5 B b (.pointer (some ⟨b,0,none⟩)) (bs++Lib.strCells s) w'∧Below B w w'∧Lib.OthersKept 5 (some b) w w'):=Any.Builder_WriteString_k Tryz.bl166 Tryz.bx B b bs s w h hlen hBw
theorem wByte(B b:Nat)(bs:List Value)(c:Int)(w:World)(h:Lib.IsBuilderF 165 5 B b bs w)(hlen:bs.length+1≤140737488355328)(hBw:B≤w.heap.size):
  Calls Tryz.prog 103 #[.pointer (some ⟨b,0,none⟩),.int .u8 c] w fun e w'=>e= .returned .nilIface∧(Lib.BuilderAtF 165 5 B b (.pointer (some ⟨b,0,none⟩)) (bs++[.int .u8 c]) w'∧Below B w w'∧Lib.OthersKept 5 (some b) w w'):=Any.Builder_WriteByte_k Tryz.bl167 Tryz.bx B b bs c w h hlen hBw
theorem encode_le(c:Nat):(Utf8.encode (c:Int)).size≤4:=by
 unfold Utf8.encode;simp only
 (repeat' split)<;>simp[ByteArray.size]
theorem grow_isBuilder{T e:TypeId}{B b:Nat}{bs:List Value}{w:World}(h:Lib.IsBuilderF T e B b bs w){k:Nat}{os:Array Obj}:Lib.IsBuilderF T e B b bs (Go.Sort.grow (w.drewN k) os):=by
 have key:∀p,Lib.BuilderAtF T e B b p bs w→Lib.BuilderAtF T e B b p bs (Go.Sort.grow (w.drewN k) os):=by
  rintro p ⟨hB,v,hb,hown,hne⟩
  have app:∀(i:Nat) (o:Obj),w.heap[i]? =some o→(Go.Sort.grow (w.drewN k) os).heap[i]? =some o:=by
   intro i o hi;show(w.heap++os)[i]? =some o;rw[Array.getElem?_append_left (Array.getElem?_eq_some_iff.1 hi).1];exact hi
  refine⟨hB,v,app _ _ hb,⟨hown.1,?_⟩,hne⟩;rcases hown.2 with h0|⟨g,cap,cur,fz,h1,h2,h3,h4⟩
  ·exact .inl h0
  ·exact .inr ⟨g,cap,cur,fz,h1,h2,app _ _ h3,h4⟩
 exact h.elim (fun x=> .inl (key _ x)) (fun x=> .inr (key _ x))
theorem below_grow{B:Nat}(w:World)(k:Nat)(os:Array Obj)(hB:B≤w.heap.size):Below B w (Go.Sort.grow (w.drewN k) os):=by
 refine⟨rfl,rfl,rfl,?_,fun i hi=>?_⟩
 ·show _≤(w.heap++os).size;rw[Array.size_append];omega
 ·show(w.heap++os)[i]? =_;rw[Array.getElem?_append_left (by omega)]
theorem kept_grow{e:TypeId}{b:Option Nat}(w:World)(k:Nat)(os:Array Obj):Lib.OthersKept e b w (Go.Sort.grow (w.drewN k) os):=by
 intro i o hi _ _;show(w.heap++os)[i]? =some o;rw[Array.getElem?_append_left (Array.getElem?_eq_some_iff.1 hi).1];exact hi
set_option maxRecDepth 1000000 in
theorem put_ok(B b:Nat)(bs:List Value)(c:Nat)(hc:c<128)(n:Int)(h0: -9223372036854775808≤n)(h1:n≤9223372036854775807)(w:World)(h:Lib.IsBuilderF 165 5 B b bs w)(hlen:bs.length+100≤140737488355328)(hBw:B≤w.heap.size)
  (htab:Lib.TabIs Tryz.prog w "internal/strconv.uint64pow10" .u64 Lib.pow10Tab):
  Calls Tryz.prog 100 #[.int .u8 c,.int .i64 n,.pointer (some ⟨b,0,none⟩)] w fun e w'=>e= .returned (.tuple #[])∧(Lib.BuilderAtF 165 5 B b (.pointer (some ⟨b,0,none⟩)) (bs++Lib.strCells (Utf8.encode c++⟨(Lib.itoa n).toArray⟩)) w'∧Below B w w'∧Lib.OthersKept 5 (some b) w w'):=by
 have hs1:=Lib.itoa_length_le n h0 h1;have hs2:(Utf8.encode (c:Int)).size≤4:=encode_le c
 go_enter Tryz.func100,Tryz.ntmps100
 go_wp2_with (go_at_call 102;refine(Tryz.strconv_FormatInt_10 n h0 h1 _ htab).mono ?_)
 rintro e w1 ⟨rfl,k,os,rfl⟩;have hI:Lib.IsBuilderF 165 5 B b bs (Go.Sort.grow (w.drewN k) os):=grow_isBuilder h
 go_wp2_with (go_at_call 101;refine(wStr B b bs _ _ hI (by rw[ByteArray.size_append];show _+(_+(Lib.itoa n).toArray.size)≤_;simp;omega) (by simp[Go.Sort.grow,World.drewN];omega)).mono ?_)
 rintro e w2 ⟨rfl,h2,b2,k2⟩
 go_wp2
 go_end0
 exact⟨rfl,h2,(below_grow w k os hBw).trans b2,(kept_grow w k os).trans k2⟩
def putB(c:Nat)(n:Int):List UInt8:=(Utf8.encode c).data.toList++Lib.itoa n
theorem put_cells(c:Nat)(n:Int):Lib.strCells (Utf8.encode c++⟨(Lib.itoa n).toArray⟩)=Lib.byteCells (putB c n):=by
 unfold Lib.strCells Lib.byteCells putB;rw[ByteArray.data_append,Array.toList_append]
theorem putB_len(c:Nat)(n:Int)(h0: -9223372036854775808≤n)(h1:n≤9223372036854775807):(putB c n).length≤25:=by
 have h2:=Lib.itoa_length_le n h0 h1;have h3:=encode_le c
 have h4:∀s:ByteArray,s.data.toList.length=s.size:=fun s=>by rw[Array.length_toList];rfl
 unfold putB;rw[List.length_append,h4];omega
theorem put_w(B b:Nat)(l:List UInt8)(c:Nat)(hc:c<128)(n:Int)(hn: -(2^60)≤n∧n≤2^60)(w:World)(h:Lib.IsBuilderF 165 5 B b (Lib.byteCells l) w)(hlen:l.length≤1000000)(hBw:B≤w.heap.size)
  (htab:Lib.TabIs Tryz.prog w "internal/strconv.uint64pow10" .u64 Lib.pow10Tab):
  Calls Tryz.prog 100 #[.int .u8 c,.int .i64 n,.pointer (some ⟨b,0,none⟩)] w fun e w'=>e= .returned (.tuple #[])∧Lib.IsBuilderF 165 5 B b (Lib.byteCells (l++putB c n)) w'∧Below B w w'∧Lib.OthersKept 5 (some b) w w':=by
 refine(put_ok B b _ c hc n (by omega) (by omega) w h (by unfold Lib.byteCells;rw[List.length_map];omega) hBw htab).mono ?_;rintro e w' ⟨rfl,h1,h2,h3⟩;refine⟨rfl,.inr ?_,h2,h3⟩;rw[put_cells]at h1
 have e:Lib.byteCells (l++putB c n)=Lib.byteCells l++Lib.byteCells (putB c n):=by unfold Lib.byteCells;rw[List.map_append]
 rw[e];exact h1
theorem tab_below{B:Nat}{w w':World}(h:Lib.TabIs Tryz.prog w "internal/strconv.uint64pow10" .u64 Lib.pow10Tab)(hb:Below B w w')(hB:3<B):Lib.TabIs Tryz.prog w' "internal/strconv.uint64pow10" .u64 Lib.pow10Tab:=by
 unfold Lib.TabIs World.var? at h⊢
 have hg:Tryz.prog.globalNamed "internal/strconv.uint64pow10"=some 3:=by kernel_rfl
 rw[hg]at h⊢;simp only[Option.bind_some]at h⊢;rw[hb.block 3 (by omega)];exact h
def spB(s:Int×Int):List UInt8:=putB 44 s.1++putB 44 s.2
def lpB(l:List (Int×Int)):List UInt8:=[59]++l.flatMap spB
def recB(k:Int)(nums:List Int)(ls:List (List (Int×Int)))(ins:List Int):List UInt8:=
 putB 40 k++nums.flatMap (putB 32)++ls.flatMap lpB++ins.flatMap (putB 58)
def Sm60(n:Int):Prop:= -(2^60)≤n∧n≤2^60
theorem flat_succ{α:Type}(f:α→List UInt8)(l:List α)(k:Nat)(x:α)(h:l[k]? =some x):(l.take (k+1)).flatMap f=(l.take k).flatMap f++f x:=by
 rw[List.take_add_one,h,List.flatMap_append];simp
theorem flat_len{α:Type}(f:α→List UInt8)(m:Nat)(l:List α)(h:∀x∈l,(f x).length≤m):(l.flatMap f).length≤l.length*m:=by
 induction l with
 |nil=>simp
 |cons a r ih=>
  rw[List.flatMap_cons,List.length_append,List.length_cons,Nat.add_mul];have:=h a (by simp);have:=ih fun x hx=>h x (by simp[hx]);omega
theorem flat_take{α:Type}(f:α→List UInt8)(l:List α)(k:Nat):((l.take k).flatMap f).length≤(l.flatMap f).length:=by
 have h:l.flatMap f=(l.take k).flatMap f++(l.drop k).flatMap f:=by rw[←List.flatMap_append,List.take_append_drop]
 rw[h,List.length_append];omega
theorem wStrR(B b:Nat)(l:List UInt8)(w:World)(h:Lib.IsBuilderF 165 5 B b (Lib.byteCells l) w)(hBw:B≤w.heap.size):
  Calls Tryz.prog 104 #[.pointer (some ⟨b,0,none⟩)] w fun e w'=>e= .returned (.string ⟨l.toArray⟩)∧(Lib.IsBuilderF 165 5 B b (Lib.byteCells l) w'∧Below B w w'∧Lib.OthersKept 5 (some b) w w'):=Tryz.Builder_String_any_k B b l w h hBw
structure RecIn(w:World)(k:Int)(nums:List Int)(ls:List (List (Int×Int)))(ins:List Int)(p1:Option Addr)(p2:Option Addr)(p3:Option Addr)(iv:Nat→Option Addr×Nat):Prop where
 hk:Sm60 k
 hn:nums.length≤100∧∀x∈nums,Sm60 x
 hl:ls.length≤100∧∀l∈ls,l.length≤100∧∀s∈l,Sm60 s.1∧Sm60 s.2
 hi:ins.length≤100∧∀x∈ins,Sm60 x
 r1:∀(i:Nat) (x:Int),nums[i]? =some x→∃b o,p1=some ⟨b,o,none⟩∧b<w.heap.size∧w.cell? ⟨b,o+i,none⟩=some (.int .i64 x)
 r2:∀(i:Nat) (l:List (Int×Int)),ls[i]? =some l→∃b o,p2=some ⟨b,o,none⟩∧b<w.heap.size∧w.cell? ⟨b,o+i,none⟩=some (.slice (iv i).1 l.length (iv i).2)
 r3:∀(i:Nat) (l:List (Int×Int)) (j:Nat) (s:Int×Int),ls[i]? =some l→l[j]? =some s→∃b o,(iv i).1=some ⟨b,o,none⟩∧b<w.heap.size∧
  w.cell? ⟨b,o+j*2,none⟩=some (.int .i64 s.1)∧w.cell? ⟨b,o+j*2+1,none⟩=some (.int .i64 s.2)
 r4:∀(i:Nat) (x:Int),ins[i]? =some x→∃b o,p3=some ⟨b,o,none⟩∧b<w.heap.size∧w.cell? ⟨b,o+i,none⟩=some (.int .i64 x)
theorem recB_len{k:Int}{nums:List Int}{ls:List (List (Int×Int))}{ins:List Int}(hk:Sm60 k)(hn:nums.length≤100∧∀x∈nums,Sm60 x)(hl:ls.length≤100∧∀l∈ls,l.length≤100∧∀s∈l,Sm60 s.1∧Sm60 s.2)
  (hi:ins.length≤100∧∀x∈ins,Sm60 x):(putB 40 k).length≤25∧(nums.flatMap (putB 32)).length≤2500∧(ls.flatMap lpB).length≤500100∧(ins.flatMap (putB 58)).length≤2500∧∀l∈ls,(l.flatMap spB).length≤5000:=by
 have pb:∀c n,Sm60 n→(putB c n).length≤25:=fun c n h=>putB_len c n (by unfold Sm60 at h;omega) (by unfold Sm60 at h;omega)
 have pl:∀l∈ls,(l.flatMap spB).length≤5000:=by
  intro l hl'
  have h1:=flat_len spB 50 l fun s hs=>by
   have:=(hl.2 l hl').2 s hs;have q1:=pb 44 _ this.1;have q2:=pb 44 _ this.2;unfold spB;rw[List.length_append];omega
  have h2:=(hl.2 l hl').1;have h3:=Nat.mul_le_mul_right 50 h2;omega
 refine⟨pb _ _ hk,?_,?_,?_,pl⟩
 ·have h1:=flat_len (putB 32) 25 nums fun x hx=>pb _ _ (hn.2 x hx);have h3:=Nat.mul_le_mul_right 25 hn.1;omega
 ·have h1:=flat_len lpB 5001 ls fun l hl'=>by
   have:=pl l hl';unfold lpB;rw[List.length_append];simp only[List.length_cons,List.length_nil];omega
  have h3:=Nat.mul_le_mul_right 5001 hl.1;omega
 ·have h1:=flat_len (putB 58) 25 ins fun x hx=>pb _ _ (hi.2 x hx);have h3:=Nat.mul_le_mul_right 25 hi.1;omega
theorem at2{wa wb wr:World}{x y:Value}(hwa:wa=wr.alloc (.cells #[x,y] 173))(h:wb.heap[wr.heap.size]? =some (.cells #[x,y] 173 (0,0))):wb.cell? ⟨wr.heap.size,1,none⟩=some y:=by
 have hat:wa.heap[wr.heap.size]? =some (.cells #[x,y] 173 (0,0)):=by rw[hwa];show(wr.heap.push _)[wr.heap.size]? =_;exact Array.getElem?_push_size
 rw[World.cell?_of_block (w:=wa) (h.trans hat.symm),hwa,World.cell?_alloc_at (hn:=rfl)];rfl
set_option maxRecDepth 1000000 in
theorem rec_walk{w:World}{k:Int}{nums:List Int}{ls:List (List (Int×Int))}{ins:List Int}{p1 p2 p3:Option Addr}{iv:Nat→Option Addr×Nat}(H:RecIn w k nums ls ins p1 p2 p3 iv)(c1 c2 c3:Nat)(hw100:3<w.heap.size)
  (htab:Lib.TabIs Tryz.prog w "internal/strconv.uint64pow10" .u64 Lib.pow10Tab):
  Calls Tryz.prog 60 #[.int .i64 k,.slice p1 nums.length c1,.agg #[.slice p2 ls.length c2],.slice p3 ins.length c3] w fun e w'=>e= .returned (.string ⟨(recB k nums ls ins).toArray⟩)∧Below w.heap.size w w':=by
 obtain⟨L1,L2,L3,L4,L5⟩:=recB_len H.hk H.hn H.hl H.hi;have hB1:Below w.heap.size w (w.alloc (.cells #[.slice p2 ls.length c2] 41)):=(Below.refl _ w).alloc (Nat.le_refl _) _;obtain⟨w1,hw1⟩:∃w1,w1=w.alloc (.cells #[.slice p2 ls.length c2] 41):=⟨_,rfl⟩
 have hs1:w1.heap.size=w.heap.size+1:=by rw[hw1];exact Array.size_push _
 have hbx:w1.cell? ⟨w.heap.size,0,none⟩=some (.slice p2 ls.length c2):=by rw[hw1,World.cell?_alloc_at (hn:=by simp)];rfl
 rw[←hw1]at hB1;have h0:Lib.IsBuilderF 165 5 w1.heap.size w1.heap.size [] (w1.alloc (.cells #[.pointer none,.slice none 0 0] 165)):=Lib.IsBuilderF.of (Lib.fresh_isBuilder 165 5 w1);have hB2:Below w1.heap.size w1 (w1.alloc (.cells #[.pointer none,.slice none 0 0] 165)):=(Below.refl _ w1).alloc (Nat.le_refl _) _;obtain⟨w2,hw2⟩:∃w2,w2=w1.alloc (.cells #[.pointer none,.slice none 0 0] 165):=⟨_,rfl⟩;rw[←hw2]at h0 hB2;have ht2:=tab_below htab (hB1.trans (hB2.mono (by omega))) hw100;rw[hs1]at h0 hB2;have hs2:=hB2.size
 go_enter Tryz.func60,Tryz.ntmps60
 go_wp2_with (go_at_call 100;rw[←hw1,←hw2];refine(put_w (w.heap.size+1) (w.heap.size+1) [] 40 (by decide) k H.hk w2 h0 (by simp) (by omega) ht2).mono ?_)
 rintro e w3 ⟨rfl,h3,b3,_⟩;rw[List.nil_append]at h3;have B3:=hB2.trans b3
 go_wp2
 go_loopw [25] (fun i wr=>∃j:Nat,j≤nums.length∧i= .int .i64 j∧Lib.IsBuilderF 165 5 (w.heap.size+1) (w.heap.size+1) (Lib.byteCells (putB 40 k++(nums.take j).flatMap (putB 32))) wr∧Below (w.heap.size+1) w1 wr) (fun i _=>nums.length-(intOf i).toNat)
 case atStart=>exact⟨0,by omega,rfl,by simpa using h3,B3⟩
 case round=>
  obtain⟨j,hj,rfl,hb,hB⟩:=hrel;have hBs:=hB.size;have htr:=tab_below htab (hB1.trans (hB.mono (by omega))) hw100;have hn100:=H.hn.1;by_cases hlt:j<nums.length
  ·obtain⟨x,hx⟩:∃x,nums[j]? =some x:=⟨_,List.getElem?_eq_getElem hlt⟩;obtain⟨b,o,rfl,hbl,hc⟩:=H.r1 j x hx;have hc':wr.cell? ⟨b,o+j,none⟩=some (.int .i64 x):=(hB.cell (p:=⟨b,o+j,none⟩) (by show b<_;omega)).trans ((hB1.cell (p:=⟨b,o+j,none⟩) hbl).trans hc);have hsm:=H.hn.2 x (List.mem_of_getElem? hx);have hl1:=flat_take (putB 32) nums j
   go_wp2_with (go_at_call 100;refine(put_w (w.heap.size+1) (w.heap.size+1) _ 32 (by decide) x hsm wr hb (by rw[List.length_append];omega) (by omega) htr).mono ?_)
   rintro e w' ⟨rfl,h',b',_⟩
   go_wp2
   go_roundw
   case rel=>
    refine⟨j+1,by omega,by go_num,?_,hB.trans b'⟩;rw[flat_succ (putB 32) nums j x hx,←List.append_assoc];exact h'
   case measure=>simp[intOf];omega
  ·have ej:j=nums.length:=by omega
   subst ej;rw[List.take_length]at hb;have hbxr:wr.cell? ⟨w.heap.size,0,none⟩=some (.slice p2 ls.length c2):=(hB.cell (p:=⟨w.heap.size,0,none⟩) (by show w.heap.size<_;omega)).trans hbx
   go_wp2
   obtain⟨wo,hwo⟩:∃wo:World,wo=wr:=⟨_,rfl⟩
   have hBo:Below (w.heap.size+1) w1 wo:=by rw[hwo];exact hB
   go_loopw [36] (fun i wr=>∃j:Nat,j≤ls.length∧i= .int .i64 j∧Lib.IsBuilderF 165 5 (w.heap.size+1) (w.heap.size+1) (Lib.byteCells (putB 40 k++nums.flatMap (putB 32)++(ls.take j).flatMap lpB)) wr∧Below (w.heap.size+1) w1 wr) (fun i _=>ls.length-(intOf i).toNat)
   case atStart=>exact⟨0,by omega,rfl,by simpa using hb,hB⟩
   case round=>
    obtain⟨j,hj,rfl,hb,hB⟩:=hrel;have hBs:=hB.size;have htr:=tab_below htab (hB1.trans (hB.mono (by omega))) hw100;have hl100:=H.hl.1;by_cases hlt:j<ls.length
    ·obtain⟨l,hx⟩:∃x,ls[j]? =some x:=⟨_,List.getElem?_eq_getElem hlt⟩;obtain⟨b,o,rfl,hbl,hc⟩:=H.r2 j l hx;have hc':wr.cell? ⟨b,o+j,none⟩=some (.slice (iv j).1 l.length (iv j).2):=(hB.cell (p:=⟨b,o+j,none⟩) (by show b<_;omega)).trans ((hB1.cell (p:=⟨b,o+j,none⟩) hbl).trans hc);have hsm:=H.hl.2 l (List.mem_of_getElem? hx);have hl1:=flat_take lpB ls j
     go_wp2_with (go_at_call 103;refine(wByte (w.heap.size+1) (w.heap.size+1) _ 59 wr hb (by unfold Lib.byteCells;rw[List.length_map,List.length_append,List.length_append];omega) (by omega)).mono ?_)
     rintro e w' ⟨rfl,h',b',_⟩
     go_wp2
     have h59:Lib.IsBuilderF 165 5 (w.heap.size+1) (w.heap.size+1) (Lib.byteCells (putB 40 k++nums.flatMap (putB 32)++(ls.take j).flatMap lpB++[59])) w':=by
      refine .inr ?_
      have e:Lib.byteCells (putB 40 k++nums.flatMap (putB 32)++(ls.take j).flatMap lpB++[59])=Lib.byteCells (putB 40 k++nums.flatMap (putB 32)++(ls.take j).flatMap lpB)++[Value.int .u8 59]:=by
       unfold Lib.byteCells;rw[List.map_append];rfl
      rw[e];exact h'
     have hB':=hB.trans b';obtain⟨wi,hwi⟩:∃wi:World,wi=wr:=⟨_,rfl⟩
     have hBi:Below (w.heap.size+1) w1 wi:=by rw[hwi];exact hB
     go_loopw [43] (fun i wr=>∃i2:Nat,i2≤l.length∧i= .int .i64 i2∧Lib.IsBuilderF 165 5 (w.heap.size+1) (w.heap.size+1) (Lib.byteCells (putB 40 k++nums.flatMap (putB 32)++(ls.take j).flatMap lpB++[59]++(l.take i2).flatMap spB)) wr∧Below (w.heap.size+1) w1 wr) (fun i _=>l.length-(intOf i).toNat)
     case atStart=>exact⟨0,by omega,rfl,by simpa using h59,hB'⟩
     case round=>
      obtain⟨i2,hi2,rfl,hb,hB⟩:=hrel;have hBs:=hB.size;have htr:=tab_below htab (hB1.trans (hB.mono (by omega))) hw100;have hll:=hsm.1;by_cases hl2:i2<l.length
      ·obtain⟨sp,hsp⟩:∃x,l[i2]? =some x:=⟨_,List.getElem?_eq_getElem hl2⟩;obtain⟨b2,o2,hiv,hbl2,hc2,hc3⟩:=H.r3 j l i2 sp hx hsp
       rw[hiv]at*
       have q1:wr.cell? ⟨b2,o2+i2*2,none⟩=some (.int .i64 sp.1):=(hB.cell (p:=⟨b2,o2+i2*2,none⟩) (by show b2<_;omega)).trans ((hB1.cell (p:=⟨b2,o2+i2*2,none⟩) hbl2).trans hc2);have q2:wr.cell? ⟨b2,o2+i2*2+1,none⟩=some (.int .i64 sp.2):=(hB.cell (p:=⟨b2,o2+i2*2+1,none⟩) (by show b2<_;omega)).trans ((hB1.cell (p:=⟨b2,o2+i2*2+1,none⟩) hbl2).trans hc3);have hs2:=hsm.2 sp (List.mem_of_getElem? hsp);obtain⟨wa,hwa⟩:∃wa,wa=wr.alloc (.cells #[.int .i64 sp.1,.int .i64 sp.2] 173):=⟨_,rfl⟩
       have hba:Lib.IsBuilderF 165 5 (w.heap.size+1) (w.heap.size+1) (Lib.byteCells (putB 40 k++nums.flatMap (putB 32)++(ls.take j).flatMap lpB++[59]++(l.take i2).flatMap spB)) wa:=by rw[hwa];exact hb.alloc _
       have hBa:Below (w.heap.size+1) w1 wa:=by rw[hwa];exact hB.alloc (by omega) _
       have hsa:=hBa.size;have hta:=tab_below htab (hB1.trans (hBa.mono (by omega))) hw100
       have hat:wa.heap[wr.heap.size]? =some (.cells #[.int .i64 sp.1,.int .i64 sp.2] 173 (0,0)):=by rw[hwa];show(wr.heap.push _)[wr.heap.size]? =_;exact Array.getElem?_push_size
       have hlk:wr.heap.size≠w.heap.size+1:=by
        intro e0
        have hbs:w.heap.size+1<wr.heap.size:=by
         rcases hb with hx0|hx0
         ·obtain⟨_,_,hh,_⟩:=hx0;exact(Array.getElem?_eq_some_iff.1 hh).1
         ·obtain⟨_,_,hh,_⟩:=hx0;exact(Array.getElem?_eq_some_iff.1 hh).1
        omega
       have hl3:((l.take i2).flatMap spB).length≤5000:=Nat.le_trans (flat_take spB l i2) (L5 l (List.mem_of_getElem? hx));have hl4:(putB 44 sp.1).length≤25:=putB_len 44 sp.1 (by have:=hs2.1;unfold Sm60 at this;omega) (by have:=hs2.1;unfold Sm60 at this;omega)
       go_wp2_with (go_at_call 100;rw[←hwa];refine(put_w (w.heap.size+1) (w.heap.size+1) _ 44 (by decide) sp.1 hs2.1 wa hba (by simp only[List.length_append,List.length_cons,List.length_nil];omega) (by omega) hta).mono ?_;rintro e wb ⟨rfl,hb5,bq,kb⟩;have hBb:=hBa.trans bq;have hsb:=hBb.size;have htb:=tab_below htab (hB1.trans (hBb.mono (by omega))) hw100;have hat2:wb.cell? ⟨wr.heap.size,1,none⟩=some (.int .i64 sp.2):=at2 hwa (kb _ _ hat (fun e0=>hlk (Option.some.inj e0)) (fun _ _ e0=>by cases e0)))
       go_wp2_with (go_at_call 100;refine(put_w (w.heap.size+1) (w.heap.size+1) _ 44 (by decide) sp.2 hs2.2 wb hb5 (by simp only[List.length_append,List.length_cons,List.length_nil];omega) (by omega) htb).mono ?_;rintro e wc ⟨rfl,hb6,bc,kc⟩)
       go_wp2
       go_roundw
       case rel=>
        refine⟨i2+1,by omega,by go_num,?_,hBb.trans bc⟩;rw[flat_succ spB l i2 sp hsp]
        have e7:∀(a x y z:List UInt8),a++(x++(y++z))=a++x++y++z:=by intro a x y z;simp only[List.append_assoc]
        unfold spB at hb6⊢;rw[e7];exact hb6
       case measure=>simp[intOf];omega
      ·have ei:i2=l.length:=by omega
       subst ei;rw[List.take_length]at hb
       go_wp2
       go_roundw
       case rel=>
        refine⟨j+1,by omega,by go_num,?_,hB⟩;rw[flat_succ lpB ls j l hx]
        have e7:∀(a x y z:List UInt8),a++(x++(y++z))=a++x++y++z:=by intro a x y z;simp only[List.append_assoc]
        unfold lpB at hb⊢;rw[e7];exact hb
       case measure=>simp[intOf];omega
    ·have ej:j=ls.length:=by omega
     subst ej;rw[List.take_length]at hb
     go_wp2
     obtain⟨wi,hwi⟩:∃wi:World,wi=wr:=⟨_,rfl⟩
     have hBi:Below (w.heap.size+1) w1 wi:=by rw[hwi];exact hB
     go_loopw [59] (fun i wr=>∃j:Nat,j≤ins.length∧i= .int .i64 j∧Lib.IsBuilderF 165 5 (w.heap.size+1) (w.heap.size+1) (Lib.byteCells (putB 40 k++nums.flatMap (putB 32)++ls.flatMap lpB++(ins.take j).flatMap (putB 58))) wr∧Below (w.heap.size+1) w1 wr) (fun i _=>ins.length-(intOf i).toNat)
     case atStart=>exact⟨0,by omega,rfl,by simpa using hb,hB⟩
     case round=>
      obtain⟨j,hj,rfl,hb,hB⟩:=hrel;have hBs:=hB.size;have htr:=tab_below htab (hB1.trans (hB.mono (by omega))) hw100;have hi100:=H.hi.1;by_cases hlt:j<ins.length
      ·obtain⟨x,hx⟩:∃x,ins[j]? =some x:=⟨_,List.getElem?_eq_getElem hlt⟩;obtain⟨b,o,rfl,hbl,hc⟩:=H.r4 j x hx;have hc':wr.cell? ⟨b,o+j,none⟩=some (.int .i64 x):=(hB.cell (p:=⟨b,o+j,none⟩) (by show b<_;omega)).trans ((hB1.cell (p:=⟨b,o+j,none⟩) hbl).trans hc);have hsm:=H.hi.2 x (List.mem_of_getElem? hx);have hl1:=flat_take (putB 58) ins j
       go_wp2_with (go_at_call 100;refine(put_w (w.heap.size+1) (w.heap.size+1) _ 58 (by decide) x hsm wr hb (by simp only[List.length_append];omega) (by omega) htr).mono ?_)
       rintro e w' ⟨rfl,h',b',_⟩
       go_wp2
       go_roundw
       case rel=>
        refine⟨j+1,by omega,by go_num,?_,hB.trans b'⟩;rw[flat_succ (putB 58) ins j x hx,←List.append_assoc];exact h'
       case measure=>simp[intOf];omega
      ·have ej:j=ins.length:=by omega
       subst ej;rw[List.take_length]at hb
       go_wp2_with (go_at_call 104;refine(wStrR (w.heap.size+1) (w.heap.size+1) _ wr hb (by omega)).mono ?_)
       rintro e w' ⟨rfl,_,b',_⟩
       go_wp2
       go_ret
       refine⟨?_,hB1.trans ((hB.trans b').mono (by omega))⟩;show Ending.returned (Value.string ⟨(putB 40 k++(nums.flatMap (putB 32)++(ls.flatMap lpB++ins.flatMap (putB 58)))).toArray⟩)=_;unfold recB;simp only[List.append_assoc]
end Go.Proofs
